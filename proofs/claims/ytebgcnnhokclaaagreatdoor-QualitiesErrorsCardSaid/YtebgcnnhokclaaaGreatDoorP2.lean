import Derived.Test.YtebgcnnhokclaaaGreatDoorRows
import Derived.Test.YtebgcnnhokclaaaGreatDoorP1
import Derived.Lib.MakeNoZero
import Derived.Laws.Externs
import Derived.WalkKit
import Derived.WalkSpells
import Derived.WalkLawsBesides
import Derived.Lib.Hide
import Derived.LoopN
import Derived.Deep.RegionHeld3
import Derived.Deep.LoopGhost
import Derived.Deep.DeepCutAuto
import Derived.Shelf.GgClosure.StringsIndexFunc
import Derived.Laws.RangeAny
import Derived.Lib.AtoiAll
import Derived.Lib.ParseIntB
import Derived.Lib.SlTrimSet
import Derived.Lib.IndexMore
import Derived.Deep.MidRow
import Derived.Great.BuildSlice
import Derived.Great.Walk
import Derived.RangeFuncSeq
import Derived.OrdersIn
import Derived.OrdersHeld
import Derived.RangeFuncLeaves
set_option linter.unusedSimpArgs false
set_option linter.unusedVariables false
set_option linter.unusedSectionVars false
set_option maxRecDepth 1000000
set_option maxHeartbeats 8000000
namespace Go.Proofs.YtebgcnnhokclaaaGreatDoor
abbrev ZU:=@Go.Lib.hid
abbrev aB1:=@beq_eq_false_iff_ne
abbrev aFZ:=@Array.map_singleton
abbrev aMt:=@List.not_mem_nil
abbrev aNl:=@Prod.mk.injEq
abbrev aOa:=@Option.some.inj
abbrev aOC:=@of_decide_eq_false
abbrev aPo:=@Go.wpIn_cond_false
abbrev aPH:=@List.getD_eq_getElem?_getD
abbrev aQz:=@Go.World.cell?_setCell_other
abbrev aQC:=@bne_iff_ne
abbrev aQG:=@Go.World.block_lt_of_cell?
abbrev aQV:=@List.getElem_of_mem
abbrev aSZ:=@Go.World.frozen?_setCell
abbrev aVJ:=@List.getElem_mem
abbrev aVM:=@Int.natCast_succ
abbrev aV6:=@Go.World.cell?_setCells_out
abbrev aV7:=@Go.World.cell?_setCell_same
abbrev aV9:=@Go.Addr.add_mid
abbrev aWf:=@ByteArray.getElem_eq_getElem_data
abbrev aWg:=@List.getElem?_set_self
abbrev aXy:=@Nat.pow_le_pow_right
abbrev aXC:=@List.getElem?_set_ne
abbrev aXD:=@List.mem_zipIdx_iff_getElem?
abbrev aYQ:=@List.mem_map_of_mem
abbrev aYT:=@List.dropWhile_cons
abbrev aYU:=@Int.emod_nonneg
abbrev aZd:=@Go.RowKit.Below.heap_alloc
abbrev aZs:=@Go.wp_seq
abbrev a0G:=@Bool.not_eq_true'
abbrev a0M:=@Int.tmod_eq_zero_of_dvd
abbrev a0P:=@List.getElem_inj
abbrev a0Q:=@List.any_eq_true
abbrev a0Y:=@List.range_succ
abbrev a01:=@Array.getElem?_append
abbrev a1a:=@Int.le_refl
abbrev a1k:=@Int.emod_lt_of_pos
abbrev a1n:=@List.take_succ_eq_append_getElem
abbrev a1q:=@List.size_toArray
abbrev a1s:=@Iff.rfl
abbrev a1u:=@Array.size_modify
abbrev a1D:=@Go.rounds_succ
abbrev a1J:=@List.pairwise_iff_getElem
abbrev a1M:=@Int.mul_nonneg
abbrev a1S:=@Array.getElem_mem_toList
abbrev a1U:=@List.cons.inj
abbrev a1V:=@List.any_cons
abbrev a1W:=@Int.dvd_of_tmod_eq_zero
abbrev a1Z:=@Bool.not_true
abbrev a18:=@Go.results_tmp2
abbrev a2d:=@Int.add_zero
section
open Go.RowKit
namespace Ev
noncomputable def fnE(f:Fn):Fn->Bool:=
 Fn.rec (motive:=fun _=>Fn->Bool)
  (fun a g=>Fn.rec (motive:=fun _=>Bool) (fun b=>Nat.beq a b) (fun _=>false) (fun _ _=>false) (fun _ _ _ _=>false) (fun _=>false) g) (fun _ _=>false)
  (fun t m g=>Fn.rec (motive:=fun _=>Bool) (fun _=>false) (fun _=>false) (fun t' m'=>band (Nat.beq t t') (m==m')) (fun _ _ _ _=>false) (fun _=>false) g)
  (fun _ _ _ _ _=>false) (fun _ _=>false) f
theorem aPP{f g:Fn}(h:fnE f g=true):f=g:=by
 cases f<;>cases g<;>first|(cases h;done)|skip
 . rw[aEU (show Nat.beq _ _=true from h)]
 obtain⟨h1,h2⟩:=aI (show band (Nat.beq _ _) (_==_)=true from h);rw[aEU h1,aFy.1 h2]
def f1{α:Type}(_:α):Bool:=false
def f2{α β:Type}(_:α)(_:β):Bool:=false
def f3{α β γ:Type}(_:α)(_:β)(_:γ):Bool:=false
def f4{α β γ δ:Type}(_:α)(_:β)(_:γ)(_:δ):Bool:=false
noncomputable def eqV(v:Value)(y:AV):Bool:=AV.el (fun u=>aCZ v u) f2 f4 f4 f3 f2 f1 f1 f1 y
noncomputable def eqP(b o:Nat)(y:AV):Bool:=AV.el f1 (fun b' o'=>band (Nat.beq b b') (Nat.beq o o')) f4 f4 f3 f2 f1 f1 f1 y
noncomputable def aUo(b o n c:Nat)(y:AV):Bool:=AV.el f1 f2 (fun b' o' n' c'=>band (Nat.beq b b') (band (Nat.beq o o') (band (Nat.beq n n') (Nat.beq c c')))) f4 f3 f2 f1 f1 f1 y
noncomputable def aUp(b o n c:Nat)(y:AV):Bool:=AV.el f1 f2 f4 (fun b' o' n' c'=>band (Nat.beq b b') (band (Nat.beq o o') (band (Nat.beq n n') (Nat.beq c c')))) f3 f2 f1 f1 f1 y
noncomputable def eqFn(f:Fn)(_ _:List AV)(iha ihc:List AV->Bool)(y:AV):Bool:=AV.el f1 f2 f4 f4 (fun f' a' c'=>band (iha a') (band (ihc c') (fnE f f'))) f2 f1 f1 f1 y
noncomputable def eqI(t:TypeId)(_:AV)(ih:AV->Bool)(y:AV):Bool:=AV.el f1 f2 f4 f4 f3 (fun t' x'=>band (Nat.beq t t') (ih x')) f1 f1 f1 y
noncomputable def aUq(_:List AV)(ih:List AV->Bool)(y:AV):Bool:=AV.el f1 f2 f4 f4 f3 f2 ih f1 f1 y
noncomputable def aUn(_:List AV)(ih:List AV->Bool)(y:AV):Bool:=AV.el f1 f2 f4 f4 f3 f2 f1 ih f1 y
noncomputable def eqMp(b:Nat)(y:AV):Bool:=AV.el f1 f2 f4 f4 f3 f2 f1 f1 (fun b'=>Nat.beq b b') y
noncomputable def eqN(m:List AV):Bool:=isNil m
noncomputable def eqC(_:AV)(_:List AV)(ihx:AV->Bool)(ihl:List AV->Bool)(m:List AV):Bool:=List.rec (motive:=fun _=>Bool) false (fun y m _=>band (ihx y) (ihl m)) m
noncomputable def eqS(x:AV):AV->Bool:=AV.rec (motive_1:=fun _=>AV->Bool) (motive_2:=fun _=>List AV->Bool) eqV eqP aUo aUp eqFn eqI aUq aUn eqMp eqN eqC x
noncomputable def TR(l:List AV):List AV->Bool:=AV.rec_1 (motive_1:=fun _=>AV->Bool) (motive_2:=fun _=>List AV->Bool) eqV eqP aUo aUp eqFn eqI aUq aUn eqMp eqN eqC l
mutual
theorem uK:(x y:AV)->eqS x y=true->x=y
 | .v a,y,h=>by cases y<;>first|(cases h;done)|(rw[aIk (show aCZ _ _=true from h)])
 | .ptr b o,y,h=>by
  cases y<;>first|(cases h;done)|skip
  obtain⟨h1,h2⟩:=aI (show band (Nat.beq _ _) (Nat.beq _ _)=true from h);rw[aEU h1,aEU h2]
 | .sl b o n c,y,h=>by
  cases y<;>first|(cases h;done)|skip
  obtain⟨h1,h2⟩:=aI (show band (Nat.beq _ _) (band (Nat.beq _ _) (band (Nat.beq _ _) (Nat.beq _ _)))=true from h);obtain⟨h3,h4⟩:=aI h2;obtain⟨h5,h6⟩:=aI h4;rw[aEU h1,aEU h3,aEU h5,aEU h6]
 | .uV b o n c,y,h=>by
  cases y<;>first|(cases h;done)|skip
  obtain⟨h1,h2⟩:=aI (show band (Nat.beq _ _) (band (Nat.beq _ _) (band (Nat.beq _ _) (Nat.beq _ _)))=true from h);obtain⟨h3,h4⟩:=aI h2;obtain⟨h5,h6⟩:=aI h4;rw[aEU h1,aEU h3,aEU h5,aEU h6]
 | .fn f a c,y,h=>by
  cases y<;>first|(cases h;done)|skip
  obtain⟨h1,h2⟩:=aI (show band (TR a _) (band (TR c _) (fnE f _))=true from h);obtain⟨h3,h4⟩:=aI h2;rw[uM a _ h1,uM c _ h3,aPP h4]
 | .zL t x,y,h=>by
  cases y<;>first|(cases h;done)|skip
  obtain⟨h1,h2⟩:=aI (show band (Nat.beq _ _) (eqS x _)=true from h);rw[aEU h1,uK x _ h2]
 | .agg l,y,h=>by
  cases y<;>first|(cases h;done)|skip
  rw[uM l _ h]
 | .dG l,y,h=>by
  cases y<;>first|(cases h;done)|skip
  rw[uM l _ h]
 | .mp b,y,h=>by
  cases y<;>first|(cases h;done)|skip
  rw[aEU (show Nat.beq _ _=true from h)]
theorem uM:(l m:List AV)->TR l m=true->l=m
 |[],m,h=>by cases m;rfl;cases h
 | x::l,m,h=>by
  cases m with
  |nil=>cases h
  |cons y m=>
   obtain⟨h1,h2⟩:=aI (show band (eqS x y) (TR l m)=true from h);rw[uK x y h1,uM l m h2]
end
mutual
def dS(l:Value):AV->Value
 | .v x=>x
 | .fn f a c=>tY f (dSL l a) (dSL l c)
 | .zL t x=>.iface t (dS l x)
 | .agg m=>.agg (dSL l m).toArray
 | .dG m=>.tuple (dSL l m).toArray
 | .mp _=>.iface 0 l
 |_=>.bool false
def dSL(l:Value):List AV->List Value
 |[]=>[]
 |x::m=>dS l x::dSL l m
end
theorem aIv(l:Value)(m:List AV):dSL l m=m.map (dS l):=by
 induction m with
 |nil=>rfl
 |cons x m ih=>simp only[dSL,ih,aO6]
noncomputable def iC(g:Nat)(x:AV):Bool:=
 AV.rec (motive_1:=fun _=>Bool) (motive_2:=fun _=>Bool) (fun _=>true) (fun _ _=>false) (fun _ _ _ _=>false) (fun _ _ _ _=>false) (fun _ _ _ a b=>band a b) (fun _ _ x=>x) (fun _ l=>l) (fun _ l=>l) (fun b=>Nat.beq b g) true (fun _ _ x l=>band x l) x
noncomputable def kC(g:Nat)(l:List AV):Bool:=
 AV.rec_1 (motive_1:=fun _=>Bool) (motive_2:=fun _=>Bool) (fun _=>true) (fun _ _=>false) (fun _ _ _ _=>false) (fun _ _ _ _=>false) (fun _ _ _ a b=>band a b) (fun _ _ x=>x) (fun _ l=>l) (fun _ l=>l) (fun b=>Nat.beq b g) true (fun _ _ x l=>band x l) l
mutual
theorem kM{g:Nat}{ρ:Env}{l:Value}(hρ:ρ.cp g=⟨0,0,l⟩):(x:AV)->iC g x=true->den ρ x=dS l x
 | .v _,_=>rfl
 | .ptr _ _,h=>by cases h
 | .sl _ _ _ _,h=>by cases h
 | .uV _ _ _ _,h=>by cases h
 | .fn f a c,h=>by
  obtain⟨h1,h2⟩:=aI (show band (kC g a) (kC g c)=true from h);simp only[den,dS,pF hρ a h1,pF hρ c h2]
 | .zL t x,h=>by simp only[den,dS,kM hρ x h]
 | .agg m,h=>by simp only[den,dS,pF hρ m h]
 | .dG m,h=>by simp only[den,dS,pF hρ m h]
 | .mp b,h=>by
  obtain rfl:=aEU (show Nat.beq b g=true from h);simp only[den,dS,hρ]
theorem pF{g:Nat}{ρ:Env}{l:Value}(hρ:ρ.cp g=⟨0,0,l⟩):(m:List AV)->kC g m=true->iT ρ m=dSL l m
 |[],_=>rfl
 |x::m,h=>by
  obtain⟨h1,h2⟩:=aI (show band (iC g x) (kC g m)=true from h);simp only[iT,dSL,kM hρ x h1,pF hρ m h2]
end
mutual
theorem QM[Gh]{g n:Nat}(hg:Gd n g):(x:AV)->iC g x=true->Sc n x
 | .v _,_=>trivial
 | .ptr _ _,h=>by cases h
 | .sl _ _ _ _,h=>by cases h
 | .uV _ _ _ _,h=>by cases h
 | .fn f a c,h=>by
  obtain⟨h1,h2⟩:=aI (show band (kC g a) (kC g c)=true from h);exact⟨sS hg a h1,sS hg c h2⟩
 | .zL t x,h=>QM hg x h
 | .agg m,h=>sS hg m h
 | .dG m,h=>sS hg m h
 | .mp b,h=>by
  obtain rfl:=aEU (show Nat.beq b g=true from h);exact hg
theorem sS[Gh]{g n:Nat}(hg:Gd n g):(m:List AV)->kC g m=true->iE n m
 |[],_=>trivial
 |x::m,h=>by
  obtain⟨h1,h2⟩:=aI (show band (iC g x) (kC g m)=true from h);exact⟨QM hg x h1,sS hg m h2⟩
end
abbrev QF:=Nat × AV × AV × Bool
noncomputable def aPS(fs:List QF)(c:Nat)(x y:AV):Option Bool:=
 List.rec (motive:=fun _=>Option Bool) none (fun e _ ih=>Bool.rec (motive:=fun _=>Option Bool) ih (some e.2.2.2) (band (Nat.beq e.1 c) (band (eqS e.2.1 x) (eqS e.2.2.1 y)))) fs
theorem aIg{c:Nat}{x y:AV}{b:Bool}: ∀ {fs:List QF},aPS fs c x y=some b->(c,x,y,b) ∈ fs:=by
 intro fs
 induction fs with
 |nil=>intro h;cases h
 | cons e fs ih=>
  intro h;have h:Bool.rec (motive:=fun _=>Option Bool) (aPS fs c x y) (some e.2.2.2) (band (Nat.beq e.1 c) (band (eqS e.2.1 x) (eqS e.2.2.1 y)))=some b:=h
  cases hb:band (Nat.beq e.1 c) (band (eqS e.2.1 x) (eqS e.2.2.1 y))with
  |false=>rw[hb]at h;exact aJj _ (ih h)
  |true=>
   rw[hb]at h;obtain⟨h1,h2⟩:=aI hb;obtain⟨h3,h4⟩:=aI h2;have h:e.2.2.2=b:=aOa h;have:(c,x,y,b)=e:=by rw[<-aEU h1,<-uK _ _ h3,<-uK _ _ h4,<-h]
   rw[this];exact aHS
abbrev xM:=FuncId × List AV × AV
noncomputable def aOy(os:List xM)(f:FuncId)(xs:List AV):Option AV:=
 List.rec (motive:=fun _=>Option AV) none (fun e _ ih=>Bool.rec (motive:=fun _=>Option AV) ih (some e.2.2) (band (Nat.beq e.1 f) (TR e.2.1 xs))) os
theorem aGF{f:FuncId}{xs:List AV}{v:AV}: ∀ {os:List xM},aOy os f xs=some v->(f,xs,v) ∈ os:=by
 intro os
 induction os with
 |nil=>intro h;cases h
 | cons e os ih=>
  intro h;have h:Bool.rec (motive:=fun _=>Option AV) (aOy os f xs) (some e.2.2) (band (Nat.beq e.1 f) (TR e.2.1 xs))=some v:=h
  cases hb:band (Nat.beq e.1 f) (TR e.2.1 xs)with
  |false=>rw[hb]at h;exact aJj _ (ih h)
  |true=>
   rw[hb]at h;obtain⟨h1,h2⟩:=aI hb;have h:e.2.2=v:=aOa h;have:(f,xs,v)=e:=by rw[<-aEU h1,<-uM _ _ h2,<-h]
   rw[this];exact aHS
abbrev IC:=TypeId × AV × AV × AV
noncomputable def aOB(ps:List IC)(t:TypeId)(x y:AV):Option AV:=
 List.rec (motive:=fun _=>Option AV) none (fun e _ ih=>Bool.rec (motive:=fun _=>Option AV) ih (some e.2.2.2) (band (Nat.beq e.1 t) (band (eqS e.2.1 x) (eqS e.2.2.1 y)))) ps
theorem aGP{t:TypeId}{x y z:AV}: ∀ {ps:List IC},aOB ps t x y=some z->(t,x,y,z) ∈ ps:=by
 intro ps
 induction ps with
 |nil=>intro h;cases h
 | cons e ps ih=>
  intro h;have h:Bool.rec (motive:=fun _=>Option AV) (aOB ps t x y) (some e.2.2.2) (band (Nat.beq e.1 t) (band (eqS e.2.1 x) (eqS e.2.2.1 y)))=some z:=h
  cases hb:band (Nat.beq e.1 t) (band (eqS e.2.1 x) (eqS e.2.2.1 y))with
  |false=>rw[hb]at h;exact aJj _ (ih h)
  |true=>
   rw[hb]at h;obtain⟨h1,h2⟩:=aI hb;obtain⟨h3,h4⟩:=aI h2;have h:e.2.2.2=z:=aOa h;have:(t,x,y,z)=e:=by rw[<-aEU h1,<-uK _ _ h3,<-uK _ _ h4,<-h]
   rw[this];exact aHS
noncomputable def tbL(B:Tab)(l:Value)(fs:List QF)(ps:List IC)(os:List xM):Tab:=
 ⟨B.p,⟨B.g.n,fun _=>⟨0,0,l⟩⟩,B.l,B.ty,B.fn,aOy os,B.idn,B.mnz,B.met,aPS fs,aOB ps⟩
def aDg(g:Nat)(l:Value)(e:QF):Prop:=iC g e.2.1=true/\iC g e.2.2.1=true/\iU e.1 (dS l e.2.1) (dS l e.2.2.1)=e.2.2.2
def EP(P:Program)(l:Value)(e:IC):Prop:= ∀b,dS l e.2.2.2=.bool b-> ∀ox oy w,
 (do eqGuard .eql e.1 ox oy (dS l e.2.1) (dS l e.2.2.1);binOp .eql e.1 (dS l e.2.1) (dS l e.2.2.1)).run P w=.ok (.bool b) w/\
 (do eqGuard .neq e.1 ox oy (dS l e.2.1) (dS l e.2.2.1);binOp .neq e.1 (dS l e.2.1) (dS l e.2.2.1)).run P w=.ok (.bool (!b)) w
noncomputable def WG(g:Nat)(e:IC):Bool:=band (iC g e.2.1) (band (iC g e.2.2.1) (iC g e.2.2.2))
def wP(P:Program)(w0:World)(l:Value)(e:xM):Prop:= ∀w,Below w0.heap.size w0 w->
 Calls P e.1 (e.2.1.map (dS l)).toArray w fun r w'=>r=.returned (dS l e.2.2)/\Below w.heap.size w w'
noncomputable def FT(B:Tab)(g:Nat)(e:xM):Bool:=band (kC g e.2.1) (band (iC g e.2.2) (Option.rec (motive:=fun _=>Bool) false (fun _=>true) (B.fn.get e.1)))
theorem aAh{B:Tab}{w0:World}{l:Value}{fs:List QF}{ps:List IC}{os:List xM}{g:Nat}(hB:gX B w0)(hg:Nat.ble (g+1) B.g.n=true)
 (hf: ∀e ∈ fs,aDg g l e) (hp: ∀e ∈ ps,WG g e=true/\EP B.p l e) (ho: ∀e ∈ os,FT B g e=true/\wP B.p w0 l e):gX (tbL B l fs ps os) w0 where
 ty:=hB.ty
 fn:=hB.fn
 Z4 :=fun f xs v h=>by
  obtain⟨h1,h2⟩:=ho _ (aGF h);obtain⟨h3,h4⟩:=aI h1;obtain⟨h5,h6⟩:=aI h4;have hg':g<B.g.n:=by have:=aIl hg;omega
  refine⟨fun _ n hn=>QM (hn g hg') v h5,?_,fun ρ w hρ hw=>?_⟩
  . cases hfn:B.fn.get f with
    |none=>rw[show B.fn.get (f,xs,v).1=none from hfn]at h6;cases h6
    |some fn=>exact(hB.fn f fn hfn).2
  have D8:ρ.cp g=⟨0,0,l⟩:=hρ g hg';have:=h2 w hw;rw[<-dQ,pF D8 xs h3,aIv,kM D8 v h5];exact this
 wL:={
  wL:=fun c x y b h ρ hρ=>by
   have hg':g<B.g.n:=by have:=aIl hg;omega
   have D8:ρ.cp g=⟨0,0,l⟩:=hρ g hg';obtain⟨h1,h2,h3⟩:=hf _ (aIg h);rw[kM D8 x h1,kM D8 y h2];exact h3
  oop:=fun t x y z h ρ hρ b hz ox oy w=>by
   have hg':g<B.g.n:=by have:=aIl hg;omega
   have D8:ρ.cp g=⟨0,0,l⟩:=hρ g hg';obtain⟨h1,h2⟩:=hp _ (aGP h);obtain⟨h3,h4⟩:=aI h1;obtain⟨h5,h6⟩:=aI h4;rw[kM D8 z h6]at hz;rw[kM D8 x h3,kM D8 y h5];exact h2 b hz ox oy w }
 mixed:=hB.mixed
 idn:=hB.idn
 mnz:=hB.mnz
 met:=hB.met
inductive DT where
 |leaf (v:AV)
 |no
 |node (c:Nat) (x y:AV) (t f:DT)
def DT.den(l:Value):DT->Value
 | .leaf v=>dS l v
 | .no=>.bool false
 | .node c x y t f=>cond (iU c (dS l x) (dS l y)) (t.den l) (f.den l)
def DT.live(l:Value):DT->Prop
 | .leaf _=>True
 | .no=>False
 | .node c x y t f=>(iU c (dS l x) (dS l y)=true->t.live l)/\(iU c (dS l x) (dS l y)=false->f.live l)
noncomputable def VN(g:Nat)(v:AV)(x:Option (AV × Hs)):Bool:=Option.rec (motive:=fun _=>Bool) false (fun p=>band (eqS p.1 v) (iC g v)) x
noncomputable def DT.ok(B:Tab)(l:Value)(ps:List IC)(os:List xM)(h0:Tr HO)(d g:Nat)(f:FuncId)(xs:List AV)(T:DT):List QF->Bool:=
 DT.rec (motive:=fun _=>List QF->Bool) (fun v fs=>VN g v (sF (tbL B l fs ps os) d B.l [] f xs ⟨h0,B.l⟩)) (fun _=>true)
  (fun c x y _ _ iht ihf fs=>band (band (iC g x) (iC g y)) (band (iht ((c,x,y,true)::fs)) (ihf ((c,x,y,false)::fs)))) T
def jK(n l:Nat)(w0:World)(h0:Tr HO):Prop:= ∀lv w,Below w0.heap.size w0 w-> ∃ ρ,@aQ G0 w0 ρ ⟨⟨n,lv⟩,l,l,[]⟩ ⟨h0,l⟩ w
theorem aIm{B:Tab}{w0 w:World}{l:Value}{ps:List IC}{os:List xM}{g d:Nat}{h0:Tr HO}{f:FuncId}{xs:List AV}(hB:gX B w0)(hst:jK B.g.n B.l w0 h0)(hg:Nat.ble (g+1) B.g.n=true)
 (hp: ∀e ∈ ps,WG g e=true/\EP B.p l e) (ho: ∀e ∈ os,FT B g e=true/\wP B.p w0 l e) (hx:kC g xs=true) (hy:Nat.ble yF f=false) (hw:Below w0.heap.size w0 w) (T:DT):
 ∀fs,(∀e ∈ fs,aDg g l e)->T.ok B l ps os h0 d g f xs fs=true->T.live l->Calls B.p f (xs.map (dS l)).toArray w fun e w'=>e=.returned (T.den l)/\Below w.heap.size w w':=by
 induction T with
 | leaf v=>
  intro fs hf h _;have h:VN g v (sF (tbL B l fs ps os) d B.l [] f xs ⟨h0,B.l⟩)=true:=h
  cases hr:sF (tbL B l fs ps os) d B.l [] f xs ⟨h0,B.l⟩with
  |none=>rw[hr]at h;cases h
  |some p=>
   rw[hr]at h;obtain⟨h1,h2⟩:=aI (show band (eqS p.1 v) (iC g v)=true from h);have h1:=uK _ _ h1;obtain⟨v',s'⟩:=p;have h1:v'=v:=h1;subst h1;obtain⟨ρ,hs⟩:=hst (fun _=>⟨0,0,l⟩) w hw;have hg':g<B.g.n:=by have:=aIl hg;omega
   have hρ:ρ.cp g=⟨0,0,l⟩:=(@aQ.gl G0 _ _ _ _ _ hs g hg').2.2;have hgd:@Gd G0 B.l g:=⟨aFz hg' (@aQ.gn G0 _ _ _ _ _ hs),fun h=>h⟩;have hT:=aAh hB hg hf hp ho;have:=(MO hT d G0 _ _ _ _ _ _ _ hr ρ w hs (@sS G0 _ _ hgd xs hx)).1 hy;rw[<-dQ,pF hρ xs hx,aIv]at this;refine this.mono ?_;rintro e w' ⟨ρ',rfl,h3,_⟩;have fr:=@Stp.fr G0 _ _ _ _ _ _ _ _ h3;have D8:ρ'.cp g=⟨0,0,l⟩:=(@aQ.gl G0 _ _ _ _ _ (@Stp.sat G0 _ _ _ _ _ _ _ _ h3) g hg').2.2;exact⟨by rw[kM D8 v' h2];rfl,fr.os,fr.tape,fr.output,fr.size,fun r hr=>fr.block r hr (fun b o h3 h4=>absurd h3 (a1P.2 (@aQ.lt G0 _ _ _ _ _ hs b o h4)))⟩
 |no=>intro fs _ _ h;cases h
 | node c x y t u iht ihu=>
  intro fs hf h hl;obtain⟨h1,h2⟩:=aI (show band (band (iC g x) (iC g y)) (band (t.ok B l ps os h0 d g f xs ((c,x,y,true)::fs)) (u.ok B l ps os h0 d g f xs ((c,x,y,false)::fs)))=true from h);obtain⟨h3,h4⟩:=aI h1;obtain⟨h5,h6⟩:=aI h2;show Calls B.p f _ w fun e w'=>e=.returned (cond (iU c (dS l x) (dS l y)) (t.den l) (u.den l))/\_
  cases hb:iU c (dS l x) (dS l y)with
  | true=>
   exact iht _ (fun e he=>by
    rcases aGv.1 he with rfl|he
    . exact⟨h3,h4,hb⟩
    exact hf e he) h5 (hl.1 hb)
  | false=>
   exact ihu _ (fun e he=>by
    rcases aGv.1 he with rfl|he
    . exact⟨h3,h4,hb⟩
    exact hf e he) h6 (hl.2 hb)
theorem U6{B:Tab}{w0 w:World}{l:Value}{ps:List IC}{os:List xM}{g d:Nat}{h0:Tr HO}{f:FuncId}{xs:List AV}(T:DT)(hB:gX B w0)(hst:jK B.g.n B.l w0 h0)(hg:Nat.ble (g+1) B.g.n=true)
 (hp: ∀e ∈ ps,WG g e=true/\EP B.p l e) (ho: ∀e ∈ os,FT B g e=true/\wP B.p w0 l e) (hx:kC g xs=true) (hy:Nat.ble yF f=false) (hw:Below w0.heap.size w0 w)
 (h:T.ok B l ps os h0 d g f xs []=true) (hl:T.live l):Calls B.p f (xs.map (dS l)).toArray w fun e w'=>e=.returned (T.den l)/\Below w.heap.size w w':=
 aIm hB hst hg hp ho hx hy hw T [] (fun e he=>by cases he) h hl
theorem aF5{P:Program}{L:List (String × DataW Unit)}{G n:Nat}{bs:List (Nat × List AV)}{w0:World}(hl:laidMet P L w0){fs:List (Nat × List Value)}(hf:NC G w0 fs)(h:layVars P G L G=some (bs,n)){h0:Tr HO}(h0e:D9 (bs++fixed fs)=h0):jK G n w0 h0:=fun lv w hw=>by
 obtain⟨ρ,hs⟩:=aAl lv hl hf hw h;rw[h0e]at hs;exact⟨ρ,hs⟩
def DT.all:DT->Bool
 | .leaf _=>true
 | .no=>false
 | .node _ _ _ t f=>t.all&&f.all
theorem aS{l:Value}: ∀ {T:DT},T.all=true->T.live l:=by
 intro T
 induction T with
 |leaf v=>intro _;trivial
 |no=>intro h;cases h
 |node c x y t f iht ihf=>
  intro h;rw[DT.all,aEx]at h;exact⟨fun _=>iht h.1,fun _=>ihf h.2⟩
theorem zC{P:Program}{l:Value}{e:IC}(hg1: ∀ox oy w,(eqGuard .eql e.1 ox oy (dS l e.2.1) (dS l e.2.2.1)).run P w=.ok () w)(hg2: ∀ox oy w,(eqGuard .neq e.1 ox oy (dS l e.2.1) (dS l e.2.2.1)).run P w=.ok () w)(Z:Bool)(hZ:dS l e.2.2.2=.bool Z)
 (h1: ∀w,(binOp .eql e.1 (dS l e.2.1) (dS l e.2.2.1)).run P w=.ok (.bool Z) w) (h2: ∀w,(binOp .neq e.1 (dS l e.2.1) (dS l e.2.2.1)).run P w=.ok (.bool (!Z)) w):EP P l e:=by
 intro b hb ox oy w;rw[hZ]at hb
 cases hb
 exact⟨by rw[aCA,hg1];exact h1 w,by rw[aCA,hg2];exact h2 w⟩
def ZT(P:Program)(w0:World)(f:FuncId)(args:Array Value)(v:Value):Prop:= ∀w,Below w0.heap.size w0 w->Calls P f args w fun r w'=>r=.returned v/\Below w.heap.size w w'
def EqV(P:Program)(t:TypeId)(a b:Value)(z:Bool):Prop:=(∀w,(binOp .eql t a b).run P w=.ok (.bool z) w)/\(∀w,(binOp .neq t a b).run P w=.ok (.bool (!z)) w)
def GdV(P:Program)(t:TypeId)(a b:Value):Prop:= ∀ox oy w,(eqGuard .eql t ox oy a b).run P w=.ok () w/\(eqGuard .neq t ox oy a b).run P w=.ok () w
inductive OpS(P:Program):List (TypeId × Value × Value × Value)->Prop
 |nil:OpS P []
 |cons {t:TypeId} {a b:Value} {z:Bool} {es:List (TypeId × Value × Value × Value)} (h:EqV P t a b z) (g:GdV P t a b) (tl:OpS P es):OpS P ((t,a,b,.bool z)::es)
inductive OrS(P:Program)(w0:World):List (FuncId × Array Value × Value)->Prop
 |nil:OrS P w0 []
 |cons {f:FuncId} {args:Array Value} {v:Value} {es:List (FuncId × Array Value × Value)} (h:ZT P w0 f args v) (t:OrS P w0 es):OrS P w0 ((f,args,v)::es)
theorem OpS.all{P:Program}{L:List (TypeId × Value × Value × Value)}(h:OpS P L): ∀x ∈ L,∃z,x.2.2.2=.bool z/\EqV P x.1 x.2.1 x.2.2.1 z/\GdV P x.1 x.2.1 x.2.2.1:=by
 induction h with
 |nil=>intro e he;cases he
 |cons h g _ ih=>intro e he;exact(aGv.1 he).elim (fun q=>by subst q;exact⟨_,rfl,h,g⟩) (ih e)
theorem OrS.all{P:Program}{w0:World}{L:List (FuncId × Array Value × Value)}(h:OrS P w0 L): ∀x ∈ L,ZT P w0 x.1 x.2.1 x.2.2:=by
 induction h with
 |nil=>intro e he;cases he
 |cons h _ ih=>intro e he;exact(aGv.1 he).elim (fun q=>by subst q;exact h) (ih e)
noncomputable def seB(B:Tab)(ps:List IC)(os:List xM)(g:Nat)(f:FuncId)(xs:List AV):Bool:=band (Nat.ble (g+1) B.g.n) (band (ps.all (WG g)) (band (os.all (FT B g)) (band (kC g xs) (kH (Nat.ble yF f)))))
theorem aJ{B:Tab}{w0:World}{l:Value}{ps:List IC}{os:List xM}{g d:Nat}{h0:Tr HO}{f:FuncId}{xs:List AV}{T:DT}{args:Array Value}{v:Value}{LP:List (TypeId × Value × Value × Value)}{LO:List (FuncId × Array Value × Value)}
 (h:T.ok B l ps os h0 d g f xs []=true) (hB:gX B w0) (hst:jK B.g.n B.l w0 h0) (hp:OpS B.p LP) (ho:OrS B.p w0 LO) (hl:T.live l)
 (hc:(seB B ps os g f xs,ps.map (fun e=>(e.1,dS l e.2.1,dS l e.2.2.1,dS l e.2.2.2)),os.map (fun e=>(e.1,(e.2.1.map (dS l)).toArray,dS l e.2.2)),T.den l,(xs.map (dS l)).toArray)=(true,LP,LO,v,args)):ZT B.p w0 f args v:=by
 simp only[aNl]at hc;obtain⟨hc,e3,e4,e1,e2⟩:=hc;obtain⟨c1,c⟩:=aI hc;obtain⟨c2,c⟩:=aI c;obtain⟨c3,c⟩:=aI c;obtain⟨c4,c5⟩:=aI c;subst e1 e2 e3 e4;refine fun w hw=>U6 T hB hst c1 (fun e he=>⟨aJr.1 c2 e he,?_⟩) (fun e he=>⟨aJr.1 c3 e he,ho.all _ (aYQ he)⟩) c4 (by cases hb:Nat.ble yF f with|false=>rfl|true=>rw[hb]at c5;cases c5) hw h hl;obtain⟨z,hz,q,g⟩:=hp.all _ (aYQ he);exact zC (fun ox oy w=>(g ox oy w).1) (fun ox oy w=>(g ox oy w).2) z hz q.1 q.2
noncomputable def NY(B:Tab)(l:Value)(h0:Tr HO)(g d:Nat)(os:List xM)(e:xM):Bool:=
 band (band (FT B g e) (kH (Nat.ble yF e.1))) (VN g e.2.2 (sF (tbL B l [] [] os) d B.l [] e.1 e.2.1 ⟨h0,B.l⟩))
theorem uF{B:Tab}{w0:World}{l:Value}{g d:Nat}{h0:Tr HO}{os new:List xM}(hB:gX B w0)(hst:jK B.g.n B.l w0 h0)(hg:Nat.ble (g+1) B.g.n=true)(ho: ∀e ∈ os,FT B g e=true/\wP B.p w0 l e)
 (h:new.all (NY B l h0 g d os)=true): ∀e ∈ new++os,FT B g e=true/\wP B.p w0 l e:=fun e he=>by
 rcases aJh.1 he with he|he
 . obtain⟨h1,h2⟩:=aI (aJr.1 h e he);obtain⟨h3,h4⟩:=aI h1;refine⟨h3,fun w hw=>?_⟩;exact U6 (ps:=[]) (.leaf e.2.2) hB hst hg (fun e he=>by cases he) ho (aI h3).1 (by cases hb:Nat.ble yF e.1 with|false=>rfl|true=>rw[hb]at h4;cases h4) hw h2 trivial
 exact ho e he
theorem bT{T:DT}{l:Value}{p:Prop}(e:T.live l=p)(h:p):T.live l:=e ▸ h
def ltr(g:Nat)(p:Value)(i:Nat):AV:=.fn (.methodOf 1 "") [.v p,.mp g,.v (.int .i64 i)] []
end Ev
end
section
namespace Ev
def k9:List AV:=([0,1,28,2,29,14,24,3,30,22,20,15,25,17,4,8,31,27,13,23,21,19,16,7,26,12,18,6,11,5,10,9]:List Int).map fun n=>.v (.int .u8 n)
def k10:List AV:=([0,1,56,2,57,49,28,3,61,58,42,50,38,29,17,4,62,47,59,36,45,43,51,22,53,39,33,30,24,18,12,5,63,55,48,27,60,41,37,16,46,35,44,21,52,32,23,11,54,26,40,15,34,20,31,10,25,14,19,9,13,8,7,6]:List Int).map fun n=>.v (.int .u8 n)
def k5:List AV:=([1,10,100,1000,10000,100000,1000000,10000000,100000000,1000000000,10000000000,100000000000,1000000000000,10000000000000,100000000000000,1000000000000000,10000000000000000,100000000000000000,1000000000000000000,10000000000000000000]:List Int).map fun n=>.v (.int .u64 n)
def k8:List AV:=([128,191,160,191,128,159,144,191,128,143,0,0,0,0,0,0,0,0,0,0,0,0,0,0,0,0,0,0,0,0,0,0]:List Int).map fun n=>.v (.int .u8 n)
def k4:List AV:=[(.mp 12)]
def k3:List AV:=[(.mp 13)]
def k6:List AV:=[(.sl 14 0 3 3)]
def k14:List AV:=[(.v (.int .i64 (4))),(.v (.int .i64 (1))),(.v (.int .i64 (100))),(.v (.int .i64 (-1))),(.v (.int .i64 (400))),(.v (.int .i64 (1)))]
def k2:List AV:=([31,28,31,30,31,30,31,31,30,31,30,31]:List Int).map fun n=>.v (.int .i64 n)
def k0:List AV:=([3,3,6,3,9,3,12,3,3,3,6,3,9,3,12,3,9,3,12,3,3,3,6,3,1,3,4,3,7,3,10,3,1,4,5,4,9,4,1,6,7,6]:List Int).map fun n=>.v (.int .i64 n)
def k7:List AV:=([240,240,240,240,240,240,240,240,240,240,240,240,240,240,240,240,240,240,240,240,240,240,240,240,240,240,240,240,240,240,240,240,240,240,240,240,240,240,240,240,240,240,240,240,240,240,240,240,240,240,240,240,240,240,240,240,240,240,240,240,240,240,240,240,240,240,240,240,240,240,240,240,240,240,240,240,240,240,240,240,240,240,240,240,240,240,240,240,240,240,240,240,240,240,240,240,240,240,240,240,240,240,240,240,240,240,240,240,240,240,240,240,240,240,240,240,240,240,240,240,240,240,240,240,240,240,240,240,241,241,241,241,241,241,241,241,241,241,241,241,241,241,241,241,241,241,241,241,241,241,241,241,241,241,241,241,241,241,241,241,241,241,241,241,241,241,241,241,241,241,241,241,241,241,241,241,241,241,241,241,241,241,241,241,241,241,241,241,241,241,241,241,241,241,2,2,2,2,2,2,2,2,2,2,2,2,2,2,2,2,2,2,2,2,2,2,2,2,2,2,2,2,2,2,19,3,3,3,3,3,3,3,3,3,3,3,3,35,3,3,52,4,4,4,68,241,241,241,241,241,241,241,241,241,241,241]:List Int).map fun n=>.v (.int .u8 n)
def hp:Tr HO:=(.node (some (.ro k0)) (.node none (.node (some (.ro k3)) (.node (some (.ro k7)) .nil .nil) .nil) (.node (some (.ro k5)) (.node (some (.ro k9)) .nil .nil) .nil)) (.node (some (.ro k2)) (.node (some (.ro k4)) (.node (some (.ro k8)) .nil .nil) .nil) (.node (some (.ro k6)) (.node (some (.ro k10)) .nil .nil) (.node (some (.ro k14)) .nil .nil))))
def bs0:List (Nat × List AV):=[(9,k9),(10,k10),(5,k5),(8,k8),(4,k4),(3,k3),(6,k6),(14,k14),(2,k2),(0,k0),(7,k7)]
noncomputable def fs0:List (Nat × List Value):=[]
theorem hp_eq:D9 (bs0++fixed fs0)=hp:=by kernel_rfl
theorem aBi:layVars Tryz.prog 12 (Rows.qualitiesErrorsRow.laid.filter fun x=>x.2.handleName?.isNone) 12=some (bs0,15):=by kernel_rfl
theorem aPQ{w0:World}(hl:laidMetH Tryz.prog Rows.qualitiesErrorsRow.laid w0):NC 12 w0 fs0:=NC.nil
def aTc:List (TypeId × String × FuncId):=[]
theorem aKY:aTc.all (fun e=>aK2 Tryz.prog e.1 e.2.1 e.2.2)=true:=by kernel_rfl
noncomputable def rH:Tab:=⟨Tryz.prog,⟨12,fun _=>⟨0,0,.nilIface⟩⟩,15,tys,fns,fun _ _=>none,fun f=>Nat.beq f 228,fun f=>Bool.rec (motive:=fun _=>Option TypeId) none (some 5) (Nat.beq f 230),aK1 aTc,fun _ _ _=>none,fun _ _ _=>none⟩
abbrev LG:Nat:=11
abbrev aBn(i:Nat):AV:=ltr LG (.int .i8 0) i
abbrev KH(i:Nat):AV:=ltr LG (.int .i64 0) i
abbrev aBm(i:Nat):AV:=ltr LG (.int .u8 0) i
abbrev l_b(i:Nat):AV:=ltr LG (.bool false) i
abbrev l_s(i:Nat):AV:=ltr LG (.string ⟨#[]⟩) i
abbrev iI(i:Nat):AV:=ltr LG (.slice none 0 0) i
theorem aPv: ∀f,rH.idn f=true-> ∀x w,(callFunc f #[x]).run rH.p w=.ok (.value x) w:=fun f h x w=>by
 have hf:f=228:=aEU h;subst hf;show(callFunc 228 #[x]).run Tryz.prog w=_;rw[run_callFunc_extern (P:=Tryz.prog) (fn:=Tryz.f228) (by kernel_rfl) (by kernel_rfl) (by kernel_rfl) (by kernel_rfl) (e:=Extern.AbiNoEscape.same) (by kernel_rfl)];rw[Lib.run_noEscape]
 rfl
theorem aO9: ∀f e,rH.mnz f=some e-> ∀(n:Nat) w,n<=140737488355328-> ∃cs:Array Value,(callFunc f #[.int .i64 n]).run rH.p w=.ok (.value (.slice (some ⟨w.heap.size,0,none⟩) n cs.size)) (w.drew.drew.alloc (.cells cs e))/\n<=cs.size:=fun f e h n w hn=>by
 have hf:f=230/\e=5:=by
  have h:(Bool.rec (motive:=fun _=>Option TypeId) none (some 5) (Nat.beq f 230):Option TypeId)=some e:=h
  cases hb:Nat.beq f 230 with
  |false=>rw[hb]at h;cases h
  |true=>rw[hb]at h;cases h;exact⟨aEU hb,rfl⟩
 obtain⟨rfl,rfl⟩:=hf;obtain⟨cs,h1,h2,_⟩:=Lib.run_makeNoZero (P:=Tryz.prog) w #[3] 90 5 (by kernel_rfl) n (by omega);refine⟨cs,?_,h2⟩;show(callFunc 230 #[.int .i64 n]).run Tryz.prog w=_;rw[run_callFunc_extern (P:=Tryz.prog) (fn:=Tryz.f230) (by kernel_rfl) (by kernel_rfl) (by kernel_rfl) (by kernel_rfl) (e:=Extern.BytealgMakeNoZero.makeNoZero #[3] #[90]) (by kernel_rfl),h1]
 rfl
theorem fA(w:World):gX rH w:=aNQ aNN aPN Tryz.pinned.checked.mixed (fun _ _ _ h=>by cases h) ⟨fun _ _ _ _ h=>(by cases h),fun _ _ _ _ h=>(by cases h)⟩ aPv aO9 (aKZ aKY)
theorem aDx{w0:World}(hl:laidMetH Tryz.prog Rows.qualitiesErrorsRow.laid w0):jK rH.g.n rH.l w0 hp:=aF5 (N9 hl) (aPQ hl) aBi hp_eq
end Ev
end
section
namespace Ev
noncomputable def tb0:Tab:={ rH with l:=12 }
theorem aN(w:World):gX tb0 w:=let t:=fA w;⟨t.ty,t.fn,t.Z4,⟨fun _ _ _ _ h=>(by cases h),fun _ _ _ _ h=>(by cases h)⟩,t.mixed,t.idn,t.mnz,t.met⟩
theorem iD(w:World):jK tb0.g.n tb0.l w .nil:=aF5 (P:=Tryz.prog) (L:=[]) (fs:=[]) (bs:=[]) ⟨[],by constructor,List.nodup_nil,fun _ _ h=>by cases h⟩ NC.nil rfl rfl
end Ev
end
section
namespace Cal
def ZI(y:Int):Int:=1+(y - 1) / 4 - (y - 1) / 100+(y - 1) / 400
def st(y:Int):Int:=365 * y+ZI y
def leap(y:Int):Bool:=decide (y % 4=0)&&(decide (y % 100≠0)||decide (y % 400=0))
def lp(y:Int):Int:=if leap y then 1 else 0
theorem aHK(y:Int):0<=lp y/\lp y<=1:=by unfold lp;split<;>omega
theorem ZH(y:Int):ZI (y+1)=ZI y+lp y:=by
 unfold ZI lp leap
 by_cases h4:y % 4=0<;>by_cases h1:y % 100=0<;>by_cases h5:y % 400=0<;>simp[h4,h1,h5]<;>omega
theorem st_succ(y:Int):st (y+1)=st y+365+lp y:=by
 unfold st;rw[ZH];omega
def len(y m:Int):Int:=if m=2 then 28+lp y else if m=4\/m=6\/m=9\/m=11 then 30 else 31
def oI(y m:Int):Int:=if m<=1 then 0 else if m<=2 then 31 else(if m<=3 then 59 else if m<=4 then 90 else if m<=5 then 120 else if m<=6 then 151 else if m<=7 then 181 else if m<=8 then 212 else if m<=9 then 243 else if m<=10 then 273 else if m<=11 then 304 else if m<=12 then 334 else 365)+lp y
theorem MC(y m:Int)(h1:1<=m)(h2:m<=12):oI y (m+1)=oI y m+len y m:=by
 unfold oI len;have:m=1\/m=2\/m=3\/m=4\/m=5\/m=6\/m=7\/m=8\/m=9\/m=10\/m=11\/m=12:=by omega
 rcases this with rfl|rfl|rfl|rfl|rfl|rfl|rfl|rfl|rfl|rfl|rfl|rfl<;>simp<;>omega
theorem vZ(y m:Int):28<=len y m/\len y m<=31:=by
 have:=aHK y;unfold len;split
 . omega
 split<;>omega
theorem EI{y m:Int}(h1:1<=m)(h2:m<=13):0<=oI y m/\oI y m<=366:=by
 have:=aHK y;unfold oI;have:m=1\/m=2\/m=3\/m=4\/m=5\/m=6\/m=7\/m=8\/m=9\/m=10\/m=11\/m=12\/m=13:=by omega
 rcases this with rfl|rfl|rfl|rfl|rfl|rfl|rfl|rfl|rfl|rfl|rfl|rfl|rfl<;>simp<;>omega
theorem UA(y:Int):oI y 1=0:=by unfold oI;simp
theorem aIy(y:Int):oI y 13=365+lp y:=by unfold oI;simp
end Cal
end
section
open Go.RowKit
namespace Un
theorem ri{k:IntKind}{a b:Int}(h:a=b):Ending.returned (.int k a)=.returned (.int k b):=by rw[h]
theorem rb{a b:Bool}(h:a=b):Ending.returned (.bool a)=.returned (.bool b):=by rw[h]
theorem dO{a b c d:Int}{k k':IntKind}(h:a=b)(h2:c=d):Ending.returned (.tuple #[.int k a,.int k' c])=.returned (.tuple #[.int k b,.int k' d]):=by rw[h,h2]
theorem eY{a b:Bool}{c d:Int}{k:IntKind}(h:a=b)(h2:c=d):Ending.returned (.tuple #[.bool a,.int k c])=.returned (.tuple #[.bool b,.int k d]):=by rw[h,h2]
theorem ED{a b:Int}(hb:0<b):
 (a.tmod b≠0/\a<0->a.tdiv b - 1=a / b/\a.tmod b+b=a % b)/\(a.tmod b=0\/0<=a->a.tdiv b=a / b/\a.tmod b=a % b)/\(a.tmod b≠0->(a.tmod b<0↔a<0)):=by
 have h1:=@Int.tdiv_eq_ediv a b;have h2:=@Int.tmod_eq_emod a b;rw[Int.sign_eq_one_of_pos hb]at h1;have h3:=aYU a (show b≠0 by omega);have h4:=a1k a hb
 by_cases c:0<=a\/b ∣ a
 . rw[aFw c]at h1 h2;simp only[a1B,Int.sub_zero,a2d]at h1 h2;refine⟨fun⟨h5,h6⟩=>?_,fun _=>⟨h1,h2⟩,fun h5=>?_⟩
   . exfalso;rcases c with c|c
     . omega
     exact h5 (a0M c)
   rcases c with c|c
   . constructor<;>intro h<;>omega
   exact absurd (a0M c) h5
 rw[aFv c]at h1 h2;have hn:(b.natAbs:Int)=b:=by omega
 rw[hn]at h2;have ha:a<0:=by
  by_cases q:a<0
  . exact q
  exact absurd (Or.inl (by omega)) c
 have h5:a.tmod b≠0:=fun h=>c (Or.inr (a1W h));refine⟨fun _=>⟨by omega,by omega⟩,fun h=>?_,fun _=>⟨fun _=>ha,fun _=>by omega⟩⟩;rcases h with h|h
 . exact absurd h h5
 omega
theorem wrap_in{n:Int}(h0: -9223372036854775808<=n)(h1:n<9223372036854775808):wrap64 n=n:=by
 unfold wrap64;omega
theorem CB{a b:Int}(hb:1<b)(h0: -9223372036854775808<=a)(h1:a<9223372036854775808): -9223372036854775808<=a / b/\a / b<9223372036854775808:=by
 refine⟨(Int.le_ediv_iff_mul_le (by omega)).2 (by omega),(Int.ediv_lt_iff_lt_mul (by omega)).2 (by omega)⟩
theorem BN(a b:Int)(w:World)(hb:1<b)(hb2:b<9223372036854775808)(h0: -9223372036854775808<=a)(h1:a<9223372036854775808):
 Calls Tryz.prog 261 #[.int .i64 a,.int .i64 b] w fun e w'=>e=.returned (.tuple #[.int .i64 (a / b),.int .i64 0])/\w=w':=by
 obtain⟨c1,c2,c3⟩:=@ED a b (by omega);have b0:(b==0)=false:=by rw[aB1];omega
 have b1:(b== -1)=false:=by rw[aB1];omega
 have b2:decide (b<0)=false:=aEm (by omega)
 by_cases ha:0<=a
 . have a2:decide (a<0)=false:=aEm (by omega);clear c1 c2 c3
   by_cases hz:a % b=0
   . have hz2:(a % b !=0)=false:=by rw[hz];rfl
     have HZ:=ZU hz;clear hz
     go_enter Tryz.func261,Tryz.ntmps261
     go_wp2
     go_ret2
     exact⟨dO (by first|rfl|exact HZ.out.symm) rfl,rfl⟩
   have hz2:(a % b !=0)=true:=by rw[aQC];exact hz
   have m2:decide (a % b<0)=false:=aEm (by have:=aYU a (show b≠0 by omega);omega);clear hz
   go_enter Tryz.func261,Tryz.ntmps261
   go_wp2
   go_ret2
   exact⟨rfl,rfl⟩
 have a2:decide (a<0)=true:=aEy (by omega)
 by_cases hz:a.tmod b=0
 . obtain⟨e1,e2⟩:=c2 (Or.inl hz);have hz2:(a.tmod b !=0)=false:=by rw[hz];rfl
   have E1:=ZU e1;have E2:=ZU e2;clear hz e1 e2 c1 c2 c3
   go_enter Tryz.func261,Tryz.ntmps261
   go_wp2
   go_ret2
   exact⟨dO E1.out rfl,rfl⟩
 obtain⟨e1,e2⟩:=c1 ⟨hz,by omega⟩;have hz2:(a.tmod b !=0)=true:=by rw[aQC];exact hz
 have m2:decide (a.tmod b<0)=true:=aEy ((c3 hz).2 (by omega));have w1:wrap64 (a.tdiv b - 1)=a / b:=by rw[e1];exact wrap_in (CB hb h0 h1).1 (CB hb h0 h1).2
 have w2:wrap64 (a.tmod b+b)=a % b:=by rw[e2];exact wrap_in (by have:=aYU a (show b≠0 by omega);omega) (by have:=a1k a (show 0<b by omega);omega)
 have E1:=ZU e1;have E2:=ZU e2;clear hz e1 e2 c1 c2 c3
 go_enter Tryz.func261,Tryz.ntmps261
 go_wp2
 go_ret2
 exact⟨rfl,rfl⟩
theorem aCO(a b:Int)(w:World)(hb:1<b)(hb2:b<9223372036854775808)(h0: -9223372036854775808<=a)(h1:a<9223372036854775808):
 Calls Tryz.prog 262 #[.int .i64 a,.int .i64 b] w fun e w'=>e=.returned (.tuple #[.int .i64 (a % b),.int .i64 0])/\w=w':=by
 obtain⟨c1,c2,c3⟩:=@ED a b (by omega);have b0:(b==0)=false:=by rw[aB1];omega
 have b1:(b== -1)=false:=by rw[aB1];omega
 have b2:decide (b<0)=false:=aEm (by omega)
 by_cases ha:0<=a
 . have a2:decide (a<0)=false:=aEm (by omega);clear c1 c2 c3
   by_cases hz:a % b=0
   . have hz2:(a % b !=0)=false:=by rw[hz];rfl
     have HZ:=ZU hz;clear hz
     go_enter Tryz.func262,Tryz.ntmps262
     go_wp2
     go_ret2
     exact⟨dO (by first|rfl|exact HZ.out.symm) rfl,rfl⟩
   have hz2:(a % b !=0)=true:=by rw[aQC];exact hz
   have m2:decide (a % b<0)=false:=aEm (by have:=aYU a (show b≠0 by omega);omega);clear hz
   go_enter Tryz.func262,Tryz.ntmps262
   go_wp2
   go_ret2
   exact⟨rfl,rfl⟩
 have a2:decide (a<0)=true:=aEy (by omega)
 by_cases hz:a.tmod b=0
 . obtain⟨e1,e2⟩:=c2 (Or.inl hz);have hz2:(a.tmod b !=0)=false:=by rw[hz];rfl
   have E1:=ZU e1;have E2:=ZU e2;clear hz e1 e2 c1 c2 c3
   go_enter Tryz.func262,Tryz.ntmps262
   go_wp2
   go_ret2
   exact⟨dO E2.out rfl,rfl⟩
 obtain⟨e1,e2⟩:=c1 ⟨hz,by omega⟩;have hz2:(a.tmod b !=0)=true:=by rw[aQC];exact hz
 have m2:decide (a.tmod b<0)=true:=aEy ((c3 hz).2 (by omega));have w1:wrap64 (a.tdiv b - 1)=a / b:=by rw[e1];exact wrap_in (CB hb h0 h1).1 (CB hb h0 h1).2
 have w2:wrap64 (a.tmod b+b)=a % b:=by rw[e2];exact wrap_in (by have:=aYU a (show b≠0 by omega);omega) (by have:=a1k a (show 0<b by omega);omega)
 have E1:=ZU e1;have E2:=ZU e2;clear hz e1 e2 c1 c2 c3
 go_enter Tryz.func262,Tryz.ntmps262
 go_wp2
 go_ret2
 exact⟨rfl,rfl⟩
theorem iJ(y:Int)(w:World)(h0: -10000000000000000<=y)(h1:y<=10000000000000000):
 Calls Tryz.prog 243 #[.int .i64 y] w fun e w'=>e=.returned (.int .i64 0)/\w=w':=by
 go_enter Tryz.func243,Tryz.ntmps243
 go_wp2
 go_ret
 exact⟨rfl,rfl⟩
theorem x9(y:Int)(w:World)(h:y< -10000000000000000\/10000000000000000<y):
 Calls Tryz.prog 243 #[.int .i64 y] w fun e w'=>e=.returned (.int .i64 6)/\w=w':=by
 rcases h with h|h
 . go_enter Tryz.func243,Tryz.ntmps243
   go_wp2
   go_ret
   exact⟨rfl,rfl⟩
 have h2: ¬y< -10000000000000000:=by omega
 go_enter Tryz.func243,Tryz.ntmps243
 go_wp2
 go_ret
 exact⟨rfl,rfl⟩
end Un
end
section
open Go.RowKit
namespace Un
open Cal
def oP(w:World):Prop:= ∃b o,w.cell? ⟨6,0,none⟩=some (.slice (some ⟨b,o,none⟩) 3 3)/\
 w.cell? ⟨b,o,none⟩=some (.int .i64 4)/\w.cell? ⟨b,o+1,none⟩=some (.int .i64 1)/\
 w.cell? ⟨b,o+2,none⟩=some (.int .i64 100)/\w.cell? ⟨b,o+3,none⟩=some (.int .i64 (-1))/\
 w.cell? ⟨b,o+4,none⟩=some (.int .i64 400)/\w.cell? ⟨b,o+5,none⟩=some (.int .i64 1)
theorem oP.below{w w':World}(h:oP w)(hb:Below w.heap.size w w'):oP w':=by
 obtain⟨b,o,h0,h1,h2,h3,h4,h5,h6⟩:=h;exact⟨b,o,aVO hb h0,aVO hb h1,aVO hb h2,aVO hb h3,aVO hb h4,aVO hb h5,aVO hb h6⟩
theorem ba{W w:World}(h:Below W.heap.size W w)(o:Obj):Below W.heap.size W (w.alloc o):=h.alloc h.size o
theorem bt{W w w2:World}(h:Below W.heap.size W w)(h2:Below w.heap.size w w2):Below W.heap.size W w2:=h.trans (h2.mono h.size)
theorem zW(y:Int)(w:World)(hs:oP w)(h0: -30000000000000000<=y)(h1:y<=30000000000000000):
 Calls Tryz.prog 280 #[.int .i64 y] w fun e w'=>e=.returned (.int .i64 (ZI y))/\Below w.heap.size w w':=by
 obtain⟨b,o,g0,g1,g2,g3,g4,g5,g6⟩:=hs;have l0:=aQG _ _ g0;have l1:=aQG _ _ g1
 go_enter Tryz.func280,Tryz.ntmps280
 go_wp2
 refine wp_loop_rounds 4 ?_;rw[a1D]
 go_wp2_with (go_at_call 261;refine(BN _ _ _ (by omega) (by omega) (by omega) (by omega)).mono ?_;rintro e w' ⟨rfl,rfl⟩)
 rw[a1D]
 go_wp2_with (go_at_call 261;refine(BN _ _ _ (by omega) (by omega) (by omega) (by omega)).mono ?_;rintro e w' ⟨rfl,rfl⟩)
 rw[a1D]
 go_wp2_with (go_at_call 261;refine(BN _ _ _ (by omega) (by omega) (by omega) (by omega)).mono ?_;rintro e w' ⟨rfl,rfl⟩)
 rw[a1D]
 go_wp2
 go_ret
 exact⟨ri (by unfold ZI;omega),ba (ba (ba (aDl _ _) _) _) _⟩
theorem aQn{y:Int}(h0: -30000000000000000<=y)(h1:y<=30000000000000000): -30000000000000000<=ZI y/\ZI y<=30000000000000000:=by
 unfold ZI;omega
theorem QO{y:Int}(h0: -25000000000000000<=y)(h1:y<=25000000000000000): -9200000000000000000<=st y/\st y<=9200000000000000000:=by
 unfold st ZI;omega
theorem OM(y:Int)(w:World)(hs:oP w)(h0: -25000000000000000<=y)(h1:y<=25000000000000000):
 Calls Tryz.prog 244 #[.int .i64 y] w fun e w'=>e=.returned (.int .i64 (st y))/\Below w.heap.size w w':=by
 have hb:=aQn (y:=y) (by omega) (by omega);have hb2:=QO h0 h1;have e:365 * y+ZI y=st y:=rfl;have k1: -9200000000000000000<=365 * y+ZI y:=by omega
 have k2:365 * y+ZI y<=9200000000000000000:=by omega
 have E:=ZU e;clear e hb2
 go_enter Tryz.func244,Tryz.ntmps244
 go_wp2_with (go_at_call 280;refine(zW _ _ hs (by omega) (by omega)).mono ?_;rintro e w' ⟨rfl,hb1⟩)
 go_ret
 exact⟨ri E.out,hb1⟩
theorem xZ(y:Int)(w:World)(hs:oP w)(h0: -10000000000000000<=y)(h1:y<=10000000000000000):
 Calls Tryz.prog 186 #[.int .i64 y] w fun e w'=>e=.returned (.tuple #[.int .i64 (st y),.int .i64 0])/\Below w.heap.size w w':=by
 go_enter Tryz.func186,Tryz.ntmps186
 go_wp2_with (first|(go_at_call 243;refine(iJ _ _ (by omega) (by omega)).mono ?_;rintro e w' ⟨rfl,rfl⟩)|(go_at_call 244;refine(OM _ _ hs (by omega) (by omega)).mono ?_;rintro e w' ⟨rfl,hb1⟩))
 go_ret2
 exact⟨rfl,hb1⟩
theorem UY(y:Int)(w:World)(hs:oP w)(h0: -10000000000000000<=y)(h1:y<=10000000000000000):
 Calls Tryz.prog 187 #[.int .i64 y] w fun e w'=>e=.returned (.tuple #[.int .i64 (st (y+1) - 1),.int .i64 0])/\Below w.heap.size w w':=by
 have hb2:=QO (y:=y+1) (by omega) (by omega);obtain⟨k1,k2⟩:=hb2
 go_enter Tryz.func187,Tryz.ntmps187
 go_wp2_with (first|(go_at_call 243;refine(iJ _ _ (by omega) (by omega)).mono ?_;rintro e w' ⟨rfl,rfl⟩)|(go_at_call 244;refine(OM _ _ hs (by omega) (by omega)).mono ?_;rintro e w' ⟨rfl,hb1⟩))
 go_ret2
 exact⟨rfl,hb1⟩
theorem QH(y:Int)(w:World)(hs:oP w)(h0: -10000000000000000<=y)(h1:y<=10000000000000000):
 Calls Tryz.prog 273 #[.int .i64 y] w fun e w'=>e=.returned (.tuple #[.bool (leap y),.int .i64 0])/\Below w.heap.size w w':=by
 have e:decide (ZI y<ZI (y+1))=leap y:=by
  rw[ZH];unfold lp
  cases leap y
  . exact aEm (by simp)
  exact aEy (by simp;omega)
 have E:=ZU e;clear e
 go_enter Tryz.func273,Tryz.ntmps273
 go_wp2_with fail
 refine(iJ _ _ (by omega) (by omega)).mono ?_;rintro e w' ⟨rfl,rfl⟩
 go_wp2_with fail
 refine(zW _ _ hs (by omega) (by omega)).mono ?_;rintro e w1 ⟨rfl,hb1⟩
 go_wp2_with fail
 refine(zW _ _ (hs.below hb1) (by omega) (by omega)).mono ?_;rintro e w2 ⟨rfl,hb2⟩
 go_wp2
 go_ret2
 exact⟨eY E.out rfl,bt hb1 hb2⟩
end Un
end
section
open Go.RowKit
namespace Un
open Cal
theorem vi{k:IntKind}{a b:Int}(h:a=b):Value.int k a=Value.int k b:=by rw[h]
end Un
end
section
open Go.RowKit
namespace Un
open Cal
def ml(i:Nat):Int:=if i=1 then 28 else if i=3\/i=5\/i=8\/i=10 then 30 else 31
def xO(w:World):Prop:= ∀i:Nat,i<12->w.cell? ⟨2,i,none⟩=some (.int .i64 (ml i))
theorem xO.below{w w':World}(h:xO w)(hb:Below w.heap.size w w'):xO w':=fun i hi=>aVO hb (h i hi)
structure FN(w:World):Prop where
 steps:oP w
 lens:xO w
theorem FN.below{w w':World}(h:FN w)(hb:Below w.heap.size w w'):FN w':=⟨h.steps.below hb,h.lens.below hb⟩
theorem aHu{y:Int}{n:Nat}(h:n<12)(hl:leap y=false\/n≠1):ml n=len y ((n:Int)+1):=by
 unfold ml len lp;rcases hl with hl|hl
 . rw[hl];simp only[aMz,aQW]
   (repeat' split)<;>omega
 (repeat' split)<;>omega
theorem zI(y m:Int)(w:World)(hs:FN w)(h0: -10000000000000000<=y)(h1:y<=10000000000000000)(m0:1<=m)(m1:m<=12):
 Calls Tryz.prog 234 #[.int .i64 y,.int .i64 m] w fun e w'=>e=.returned (.int .i64 (len y m))/\Below w.heap.size w w':=by
 obtain⟨n,rfl⟩: ∃n:Nat,m=(n:Int)+1:=⟨(m - 1).toNat,by omega⟩;have hn:n<12:=by omega
 have HC:=ZU (fun(W:World) (hb:Below w.heap.size w W)=>(hs.below hb).lens n hn);have HL:=ZU (QH y w hs.steps h0 h1);have i0:(0:Int)<=(n:Int):=by omega
 have i1:(n:Int)<12:=by omega
 by_cases hl:leap y=true
 . rw[hl]at HL
   by_cases h2:n=1
   . subst h2;have e:29=len y ((1:Nat)+1):=by unfold len lp;rw[hl];rfl
     have E:=ZU e;clear e hl
     go_enter Tryz.func234,Tryz.ntmps234
     go_wp2_with (go_at_call 273;refine HL.out.mono ?_;rintro e w' ⟨rfl,hb1⟩)
     go_ret
     exact⟨ri E.out,hb1⟩
   have E:=ZU (aHu (y:=y) hn (Or.inr h2));have t:((n:Int)+1==2)=false:=by rw[aB1];omega
   clear h2 hl
   go_enter Tryz.func234,Tryz.ntmps234
   go_wp2_with fail
   refine HL.out.mono ?_;rintro e w' ⟨rfl,hb1⟩;have hc:=HC.out _ hb1
   go_wp2
   go_ret
   exact⟨ri E.out,hb1⟩
 have hl2:leap y=false:=by cases h:leap y;rfl;exact absurd h hl
 rw[hl2]at HL;have E:=ZU (aHu (y:=y) hn (Or.inl hl2));clear hl hl2
 go_enter Tryz.func234,Tryz.ntmps234
 go_wp2_with fail
 refine HL.out.mono ?_;rintro e w' ⟨rfl,hb1⟩;have hc:=HC.out _ hb1
 go_wp2
 go_ret
 exact⟨ri E.out,hb1⟩
def FW(y m:Int):Int:=if -10000000000000000<=y/\y<=10000000000000000 then(if 1<=m/\m<=12 then 0 else 7)else 6
theorem kP(y m:Int)(w:World):
 Calls Tryz.prog 233 #[.int .i64 y,.int .i64 m] w fun e w'=>e=.returned (.int .i64 (FW y m))/\w=w':=by
 by_cases c: -10000000000000000<=y/\y<=10000000000000000
 . by_cases c2:1<=m/\m<=12
   . have E:Hid (0=FW y m):=ZU (by unfold FW;rw[aFw c,aFw c2]);obtain⟨a,b⟩:=c;obtain⟨p,q⟩:=c2
     go_enter Tryz.func233,Tryz.ntmps233
     go_wp2_with (go_at_call 243;refine(iJ _ _ (by omega) (by omega)).mono ?_;rintro e w' ⟨rfl,rfl⟩)
     go_ret
     exact⟨ri E.out,rfl⟩
   have E:Hid (7=FW y m):=ZU (by unfold FW;rw[aFw c,aFv c2]);obtain⟨a,b⟩:=c
   by_cases p:m<1
   . clear c2
     go_enter Tryz.func233,Tryz.ntmps233
     go_wp2_with (go_at_call 243;refine(iJ _ _ (by omega) (by omega)).mono ?_;rintro e w' ⟨rfl,rfl⟩)
     go_ret
     exact⟨ri E.out,rfl⟩
   have q:12<m:=by omega
   clear c2
   go_enter Tryz.func233,Tryz.ntmps233
   go_wp2_with (go_at_call 243;refine(iJ _ _ (by omega) (by omega)).mono ?_;rintro e w' ⟨rfl,rfl⟩)
   go_ret
   exact⟨ri E.out,rfl⟩
 have E:Hid (6=FW y m):=ZU (by unfold FW;rw[aFv c]);have C:Hid (y< -10000000000000000\/10000000000000000<y):=ZU (by omega);clear c
 go_enter Tryz.func233,Tryz.ntmps233
 go_wp2_with (go_at_call 243;refine(x9 _ _ C.out).mono ?_;rintro e w' ⟨rfl,rfl⟩)
 go_ret
 exact⟨ri E.out,rfl⟩
theorem lJ(y m:Int)(w:World)(hs:FN w)(h0: -10000000000000000<=y)(h1:y<=10000000000000000)(m0:1<=m)(m1:m<=12):
 Calls Tryz.prog 190 #[.int .i64 y,.int .i64 m] w fun e w'=>e=.returned (.tuple #[.int .i64 (st y+oI y m),.int .i64 0])/\Below w.heap.size w w':=by
 obtain⟨n,rfl⟩: ∃n:Nat,m=(n:Int)+1:=⟨(m - 1).toNat,by omega⟩;have e:FW y ((n:Int)+1)=0:=by unfold FW;rw[aFw ⟨h0,h1⟩,aFw ⟨m0,m1⟩]
 have HM:=kP y ((n:Int)+1) w;rw[e]at HM;have HM:=ZU HM;obtain⟨b0,b1⟩:=QO (y:=y) (by omega) (by omega);have HS:=ZU hs;clear hs e
 go_enter Tryz.func190,Tryz.ntmps190
 go_wp2_with (first|(go_at_call 233;refine HM.out.mono ?_;rintro e w' ⟨rfl,rfl⟩)|(go_at_call 186;refine(xZ _ _ HS.out.steps (by omega) (by omega)).mono ?_;rintro e w' ⟨rfl,hb1⟩))
 have HB:=ZU hb1;clear hb1
 go_loopw [7,9,23] (fun d i j wr=> ∃k:Nat,k<=n/\d=.int .i64 (st y+oI y ((k:Int)+1))/\j=.int .i64 (k:Int)/\Below w.heap.size w wr) (fun _ _ j _=>n - (intOf j).toNat)
 case atStart=>exact⟨0,by omega,by rw[show ((0:Nat):Int)+1=1 from rfl,UA,a2d],rfl,HB.out⟩
 case round=>
  obtain⟨k,hk,rfl,rfl,hb⟩:=hrel;have HB2:=ZU hb;clear hb;have cb:=@EI y ((k:Int)+1) (by omega) (by omega)
  by_cases hlt:k<n
  . have hl:=vZ y ((k:Int)+1);have hcs:=MC y ((k:Int)+1) (by omega) (by omega);have HCS:=ZU hcs;clear hcs
    go_wp2_with (go_at_call 234;refine(zI _ _ _ (HS.out.below HB2.out) (by omega) (by omega) (by omega) (by omega)).mono ?_;rintro e w' ⟨rfl,hb3⟩)
    have HB3:=ZU (bt HB2.out hb3);clear hb3
    go_roundw
    case rel=>exact⟨k+1,by omega,vi (by rw[show ((k+1:Nat):Int)+1=(k:Int)+1+1 by omega,HCS.out];omega),by go_num,HB3.out⟩
    case measure=>simp[intOf];omega
  have e:k=n:=by omega
  subst e
  go_wp2
  go_ret2
  exact⟨rfl,HB2.out⟩
theorem BH(y m:Int)(w:World)(hs:FN w)(h0: -10000000000000000<=y)(h1:y<=10000000000000000)(m0:1<=m)(m1:m<=12):
 Calls Tryz.prog 191 #[.int .i64 y,.int .i64 m] w fun e w'=>e=.returned (.tuple #[.int .i64 (st y+oI y (m+1) - 1),.int .i64 0])/\Below w.heap.size w w':=by
 obtain⟨b0,b1⟩:=QO (y:=y) (by omega) (by omega);have cb:=@EI y m (by omega) (by omega);have lb:=vZ y m;have E:Hid (st y+oI y m+len y m - 1=st y+oI y (m+1) - 1):=ZU (by rw[MC y m m0 m1];omega)
 go_enter Tryz.func191,Tryz.ntmps191
 go_wp2_with fail
 refine(lJ _ _ _ hs h0 h1 m0 m1).mono ?_;rintro e w1 ⟨rfl,hb1⟩
 go_wp2_with fail
 refine(zI _ _ _ (hs.below hb1) h0 h1 m0 m1).mono ?_;rintro e w2 ⟨rfl,hb2⟩
 go_wp2
 go_ret2
 exact⟨dO E.out rfl,bt hb1 hb2⟩
end Un
end
section
open Go.RowKit Go.Lib
namespace Bk
open Un (ba bt ri rb)
structure Rw(p:Nat)(vs:List Value)(w W:World):Prop where
 cell: ∀i v,vs[i]? =some v->W.cell? ⟨p,i,none⟩=some v
 free: ∀i,i<vs.length->W.frozen? ⟨p,i,none⟩=false
 new:w.heap.size<=p
 lt:p<W.heap.size
 below:Below w.heap.size w W
theorem Rw.later{p:Nat}{vs:List Value}{w W W2:World}(h:Rw p vs w W)(hb:Below W.heap.size W W2):Rw p vs w W2:=
 ⟨fun i v hv=>(hb.cell (p:=⟨p,i,none⟩) h.lt).trans (h.cell i v hv),fun i hi=>(hb.frozen (p:=⟨p,i,none⟩) h.lt).trans (h.free i hi),h.new,by have:=h.lt;have:=hb.size;omega,bt h.below hb⟩
theorem Rw.range{p:Nat}{vs:List Value}{w W:World}(h:Rw p vs w W):W.rangeAt p 0 vs:=fun j v hv=>by rw[aHv];exact h.cell j v hv
theorem Rw.there{p:Nat}{vs:List Value}{w W:World}(h:Rw p vs w W):W.there p 0 vs.length:=fun j hj=>by
 rw[aHv,h.cell j _ (aEH hj)];exact⟨rfl,h.free j hj⟩
theorem Rw.fresh{w W:World}(hb:Below w.heap.size w W)(vs:List Value)(t:TypeId):Rw W.heap.size vs w (W.alloc (.cells vs.toArray t)):=
 ⟨fun i v hv=>by rw[World.cell?_alloc_new];simpa using hv,fun i hi=>by simp,hb.size,by show W.heap.size<(W.heap.push _).size;simp,ba hb _⟩
theorem uU(p:Nat)(b:Addr): ∀(vs:List Value) (k:Nat) (W:World),(W.setCells p k vs).frozen? b=W.frozen? b
 |[],_,_=>rfl
 |u::r,k,W=>by unfold World.setCells;rw[uU p b r,aSZ]
theorem vJ{p:Nat}{w:World}(hp:w.heap.size<=p): ∀(vs:List Value) (k:Nat) (W:World),Below w.heap.size w W->Below w.heap.size w (W.setCells p k vs)
 |[],_,_,h=>h
 |u::r,k,W,h=>by unfold World.setCells;exact vJ hp r _ _ (h.setCell hp _)
theorem setCells_size{p:Nat}: ∀(vs:List Value) (k:Nat) (W:World),(W.setCells p k vs).heap.size=W.heap.size
 |[],_,_=>rfl
 |u::r,k,W=>by unfold World.setCells;rw[setCells_size r];simp[World.setCell]
theorem yE{p:Nat}: ∀(vs:List Value) (k:Nat) (W:World),(∀i,k<=i->i<k+vs.length->(W.cell? ⟨p,i,none⟩).isSome=true)-> ∀j v,vs[j]? =some v->(W.setCells p k vs).cell? ⟨p,k+j,none⟩=some v
 |[],k,W,_,j,v,hv=>by simp at hv
 | u::r,k,W,hs,j,v,hv=>by
  unfold World.setCells
  cases j with
  |zero=>
   simp at hv;subst hv;rw[aV6 p r (k+1) _ ⟨p,k+0,none⟩ (fun _ _=>.inl (by show k+0<k+1;omega))];obtain⟨x,hx⟩:=aUm.1 (hs k (aDT _) (by simp));exact aV7 _ _ _ hx
  |succ j=>
   rw[show k+(j+1)=k+1+j by omega];refine yE r (k+1) _ (fun i h1 h2=>?_) j v (by simpa using hv);rw[aQz _ _ _ _ (by intro e;injection e with _ e2;omega)];exact hs i (by omega) (by simp;omega)
theorem Rw.vK{p:Nat}{vs:List Value}{w W:World}(h:Rw p vs w W)(us:List Value)(hl:us.length=vs.length):Rw p us w (W.setCells p 0 us):=by
 refine⟨fun i v hv=>?_,fun i hi=>by rw[uU];exact h.free i (by omega),h.new,by rw[setCells_size];exact h.lt,vJ h.new _ _ _ h.below⟩;have:=yE us 0 W (fun j _ hj=>by
  rw[h.cell j _ (aEH (by omega))];rfl) i v hv
 rw[aHv]at this;exact this
theorem Rw.set{p:Nat}{vs:List Value}{w W:World}(h:Rw p vs w W)(k:Nat)(hk:k<vs.length)(v:Value):Rw p (vs.set k v) w (W.setCell ⟨p,k,none⟩ v):=by
 refine⟨fun i u hu=>?_,fun i hi=>by rw[aSZ];exact h.free i (by simpa using hi),h.new,by show p<(W.heap.modify _ _).size;rw[a1u];exact h.lt,h.below.setCell h.new _⟩
 by_cases c:k=i
 . subst c;rw[aWg hk]at hu
   cases hu
   exact aV7 _ _ _ (h.cell k _ (aEH hk))
 rw[aXC c]at hu;rw[aQz _ _ _ _ (by intro e;injection e with e1 e2;exact c e2)];exact h.cell i u hu
theorem Rw.other{p q:Nat}{vs:List Value}{w W:World}(h:Rw p vs w W)(hne:q≠p)(hq:w.heap.size<=q)(k:Nat)(v:Value):Rw p vs w (W.setCell ⟨q,k,none⟩ v):=by
 refine⟨fun i u hu=>?_,fun i hi=>by rw[aSZ];exact h.free i hi,h.new,by show p<(W.heap.modify _ _).size;rw[a1u];exact h.lt,h.below.setCell hq _⟩;rw[aQz _ _ _ _ (by intro e;injection e with e1 e2;exact hne e1)];exact h.cell i u hu
theorem Rw.others{p q:Nat}{vs:List Value}{w W:World}(h:Rw p vs w W)(hne:q≠p)(hq:w.heap.size<=q): ∀(us:List Value) (k:Nat),Rw p vs w (W.setCells q k us):=by
 intro us
 induction us generalizing W with
 |nil=>intro k;exact h
 |cons u r ih=>intro k;unfold World.setCells;exact ih (h.other hne hq k u) (k+1)
end Bk
end
section
open Go.Lib
namespace Bk
def bH(s:ByteArray)(i:Nat):Int:=((s.data.toList.getD i 0).toNat:Int)
theorem bU(s:ByteArray)(i:Nat)(h:i<s.size):bH s i=((s[i]'h).toNat:Int):=by
 unfold bH;rw[aPH,aEH (by simpa using h)]
 rfl
theorem aQi(s:ByteArray)(i:Nat):0<=bH s i/\bH s i<256:=by
 unfold bH;have:=(s.data.toList.getD i 0).toNat_lt;omega
def allB(q:Int->Bool)(s:ByteArray):Bool:=s.data.toList.all fun b=>q (b.toNat:Int)
theorem kL(q:Int->Bool)(s:ByteArray):allB q s=true↔ ∀i,i<s.size->q (bH s i)=true:=by
 unfold allB;rw[aJr];constructor
 . intro h i hi;rw[bU s i hi];exact h _ (by rw[aWf];exact a1S ..)
 intro h b hb;obtain⟨i,hi,rfl⟩:=aQV hb;have:=h i (by simpa using hi);rw[bU s i (by simpa using hi)]at this;exact this
theorem X6 (q:Int->Bool) (p:Nat->Bool) (hp: ∀x:Nat,x<128->p x= !q x) (hh: ∀x:Nat,128<=x->p x=true) (hq: ∀x:Int,q x=true->x<128) (s:ByteArray):
 ∀(g pos:Nat),s.size<=pos+g->(idxFuncFrom p true s g pos<0↔ ∀i,pos<=i->i<s.size->q (bH s i)=true)
 |0,pos,hg=>by
  simp only[idxFuncFrom];exact⟨fun _ i h1 h2=>by omega,fun _=>by decide⟩
 | g + 1, pos,hg=>by
  unfold idxFuncFrom
  by_cases hlt:pos<s.size
  . rw [aFw hlt]
    by_cases ha:(s[pos]'hlt).toNat<128
    . rw [a1v s pos hlt ha];dsimp only;rw[hp _ ha]
      cases hqb:q ((s[pos]'hlt).toNat:Int)
      . rw[aWl,aFw rfl];constructor
        . intro h;omega
        intro h;have:=h pos (aDT _) hlt;rw[bU s pos hlt,hqb]at this
        cases this
      rw[a1Z,aFv (by decide),X6 q p hp hh hq s g (pos+1) (by omega)];constructor
      . intro h i h1 h2
        by_cases e:i=pos
        . subst e;rw[bU s i h2];exact hqb
        exact h i (by omega) h2
      intro h i h1 h2;exact h i (by omega) h2
    obtain⟨h1,h2⟩:=decode_high s pos hlt (by omega);rw[hh _ h1,aFw rfl];constructor
    . intro h;omega
    intro h;have:=hq _ (h pos (aDT _) hlt);rw[bU s pos hlt]at this;omega
  rw[aFv hlt];exact⟨fun _ i h1 h2=>by omega,fun _=>by decide⟩
theorem aHX(q:Int->Bool)(p:Nat->Bool)(hp: ∀x:Nat,x<128->p x= !q x)(hh: ∀x:Nat,128<=x->p x=true)(hq: ∀x:Int,q x=true->x<128)(s:ByteArray):
 decide (idxFunc p true s<0)=allB q s:=by
 have h:=X6 q p hp hh hq s s.size 0 (by omega);rw[aQP,aNt,kL];unfold idxFunc;rw[h];exact⟨fun h i hi=>h i (aLm _) hi,fun h i _ hi=>h i hi⟩
def hasB(c:Int)(s:ByteArray):Bool:=s.data.toList.any fun b=>decide ((b.toNat:Int)=c)
theorem KW(c:Int)(s:ByteArray):hasB c s=true↔ ∃i,i<s.size/\bH s i=c:=by
 unfold hasB;rw[a0Q];constructor
 . rintro⟨b,hb,h⟩;obtain⟨i,hi,rfl⟩:=aQV hb;exact⟨i,by simpa using hi,by rw[bU s i (by simpa using hi)];exact aHY h⟩
 rintro⟨i,hi,h⟩;rw[bU s i hi]at h;exact⟨_,by rw[aWf];exact a1S ..,aEy h⟩
theorem aBK{α:Type}(p:α->Bool): ∀l:List α,l.dropWhile p=[]↔l.all p=true
 |[]=>by simp
 |a::l=>by
  cases h:p a
  . simp[aYT,h]
  simp[aYT,h,aBK p l]
theorem dw_head{α:Type}(p:α->Bool): ∀ {l:List α} {a:α} {t:List α},l.dropWhile p=a::t->p a=false
 |[],a,t,h=>by simp at h
 |b::l,a,t,h=>by
  cases hb:p b
  . simp[aYT,hb]at h;rw[<-h.1];exact hb
  simp[aYT,hb]at h;exact dw_head p h
theorem aDs(l:List UInt8)(c:UInt8):(trimS l [c]=[])↔l.all (· ==c)=true:=by
 have e:(fun x=>[c].contains x)=(fun x:UInt8=>x==c):=by funext x;exact contains_one c x
 have hr:(l.all (· ==c)=true)↔l.reverse.dropWhile (fun x:UInt8=>x==c)=[]:=by rw[aBK,List.all_reverse]
 rw[hr];unfold trimS trimLeftS trimRightS;rw[e];constructor
 . intro h;rw[aBK,List.all_reverse]at h
   cases hd:l.reverse.dropWhile (fun x=>x==c)with
   |nil=>rfl
   |cons a t=>
    rw[hd]at h;have h1:=dw_head _ hd;rw[aQN,h1]at h
    cases h
 intro h;rw[h];rfl
end Bk
end
section
open Go.Lib
namespace Bk
def dec:List UInt8->Nat->Nat
 |[],a=>a
 |c::r,a=>dec r (10 * a+(c.toNat - 48))
def aIs(c:UInt8):Bool:=decide (48<=c.toNat/\c.toNat<=57)
def bM(x:Int):Bool:=decide (48<=x/\x<=57)
def eU(x:Int):Bool:=decide (48<=x/\x<=57)||decide (x=88)
theorem YV: ∀(l:List UInt8) (c:UInt8) (a:Nat),dec (l++[c]) a=10 * dec l a+(c.toNat - 48)
 |[],c,a=>rfl
 |x::l,c,a=>by simp only[List.cons_append,dec];exact YV l c _
theorem dec_lt: ∀(l:List UInt8) (a k:Nat),l.all aIs=true->a<10 ^ k->dec l a<10 ^ (k+l.length)
 |[],a,k,_,h=>by simpa[dec]using h
 |c::l,a,k,hl,h=>by
  simp only[aQN,aEx]at hl;have hc:c.toNat<=57:=(aHY hl.1).2;have:=dec_lt l (10 * a+(c.toNat - 48)) (k+1) hl.2 (by rw[Nat.pow_succ];omega);simp only[dec,aSv];rw[show k+(l.length+1)=k+1+l.length by omega];exact this
theorem yM: ∀(l:List UInt8) (a k:Nat),l.all aIs=true->a<10 ^ k->k+l.length<=17->parseUintM 18446744073709551615 a l=.ok (dec l a)
 |[],a,k,_,h,hk=>rfl
 |c::l,a,k,hl,h,hk=>by
  simp only[aQN,aEx]at hl;have hc:=aHY hl.1;simp only[aSv]at hk;have hp:(10:Nat) ^ k<=10 ^ 16:=aXy (by omega) (by omega);have hp2:(10:Nat) ^ 16=10000000000000000:=by decide
  simp only[parseUintM,dec];rw[aFw hc,aFv (by omega),aFv (by omega),show a * 10+(c.toNat - 48)=10 * a+(c.toNat - 48) by omega];exact yM l _ (k+1) hl.2 (by rw[Nat.pow_succ];omega) (by omega)
theorem RH(l:List UInt8)(h0:l≠[])(hl:l.all aIs=true)(hk:l.length<=17):parseIntB 64 l=.ok (dec l 0:Nat):=by
 have h:=yM l 0 0 hl (by decide) (by omega);have hb:=dec_lt l 0 0 hl (by decide);rw[aHv]at hb;have hp:(10:Nat) ^ l.length<=10 ^ 17:=aXy (by omega) hk;have hp2:(10:Nat) ^ 17=100000000000000000:=by decide
 cases l with
 |nil=>exact absurd rfl h0
 |cons c r=>
  have hc:48<=c.toNat/\c.toNat<=57:=aHY (by simp only[aQN,aEx]at hl;exact hl.1);unfold parseIntB;simp only;rw[aFv (by omega)];unfold parseUintB;rw[aFv h0,show 2 ^ 64 - 1=18446744073709551615 by decide,h];simp only;have e63:2 ^ (64 - 1)=9223372036854775808:=by decide
  rw[aFv (by rw[e63];omega),aFv (by omega),aFv (by omega)]
def gZ(s:ByteArray):Int:=
 if s.size=2/\48<=bH s 0/\bH s 0<=57/\48<=bH s 1/\bH s 1<=57/\21<=10 * (bH s 0 - 48)+(bH s 1 - 48)/\10 * (bH s 0 - 48)+(bH s 1 - 48)<=41 then 10 * (bH s 0 - 48)+(bH s 1 - 48)else 0
theorem lY(s:ByteArray):gZ s=0\/(21<=gZ s/\gZ s<=41):=by
 unfold gZ;split
 . next h=>exact Or.inr ⟨h.2.2.2.2.2.1,h.2.2.2.2.2.2⟩
 exact Or.inl rfl
theorem MV (a b:UInt8) (v:Int):(atoiAll [a,b]=.ok v/\21<=v/\v<=41)↔((48<=a.toNat/\a.toNat<=57/\48<=b.toNat/\b.toNat<=57/\21<=10 * (a.toNat - 48)+(b.toNat - 48)/\10 * (a.toNat - 48)+(b.toNat - 48)<=41)/\v=((10 * (a.toNat - 48)+(b.toNat - 48):Nat):Int)):=by
 unfold atoiAll;simp only
 by_cases hs:a.toNat=43\/a.toNat=45
 . rw [aFw hs];constructor
   . rintro⟨h,h1,h2⟩;exfalso;unfold parseMag at h;rw[aFv (by simp)]at h;unfold parseUint10 at h
     by_cases hb:48<=b.toNat/\b.toNat<=57
     . rw [aFw hb,aFv (by omega),aFv (by omega)]at h;unfold parseUint10 at h;simp only at h
       split at h
       . cases h
       split at h
       . cases h
       injection h with h
       split at h<;>omega
     rw[aFv hb]at h
     cases h
   rintro⟨h,_⟩;omega
 rw [aFv hs];unfold parseMag;rw[aFv (by simp)];unfold parseUint10
 by_cases ha:48<=a.toNat/\a.toNat<=57
 . rw [aFw ha,aFv (by omega),aFv (by omega)];unfold parseUint10
   by_cases hb:48<=b.toNat/\b.toNat<=57
   . rw[aFw hb,aFv (by omega),aFv (by omega)];unfold parseUint10;simp only;rw[aFv (by omega),aFv (by omega),aFv (by omega)];constructor
     . rintro⟨h,h1,h2⟩;injection h with h;refine⟨⟨ha.1,ha.2,hb.1,hb.2,?_,?_⟩,?_⟩<;>omega
     rintro⟨⟨_,_,_,_,h1,h2⟩,rfl⟩;refine⟨?_,by omega,by omega⟩
     congr 1
     omega
   rw[aFv hb];constructor
   . rintro⟨h,_⟩;cases h
   rintro⟨⟨_,_,h1,h2,_⟩,_⟩;exact absurd ⟨h1,h2⟩ hb
 rw[aFv ha];constructor
 . rintro⟨h,_⟩;cases h
 rintro⟨⟨h1,h2,_⟩,_⟩;exact absurd ⟨h1,h2⟩ ha
theorem rG{s:ByteArray}(h:s.size=2): ∃a b:UInt8,s.data.toList=[a,b]/\bH s 0=a.toNat/\bH s 1=b.toNat:=by
 have hl:s.data.toList.length=2:=by simpa using h
 match e:s.data.toList,hl with
 |[a,b],_=>exact⟨a,b,rfl,by unfold bH;rw[e];rfl,by unfold bH;rw[e];rfl⟩
theorem ZJ{s:ByteArray}(h2:s.size=2){v:Int}(h:atoiAll s.data.toList=.ok v):gZ s=if 21<=v/\v<=41 then v else 0:=by
 obtain⟨a,b,e,e0,e1⟩:=rG h2;rw[e]at h
 by_cases c:21<=v/\v<=41
 . obtain⟨g,hv⟩:=(MV a b v).1 ⟨h,c.1,c.2⟩;rw[aFw c];unfold gZ;rw[e0,e1,aFw (by omega)];omega
 rw[aFv c];unfold gZ;rw[e0,e1]
 split
 . rename_i g
   exfalso;have:=((MV a b _).2 ⟨by omega,rfl⟩).1;rw[h]at this;injection this with this;omega
 rfl
theorem aEY{s:ByteArray}(h: ∀v,atoiAll s.data.toList≠ .ok v):gZ s=0:=by
 unfold gZ
 split
 . rename_i g
   exfalso;obtain⟨a,b,e,e0,e1⟩:=rG g.1;rw[e]at h;exact h _ ((MV a b _).2 ⟨by omega,rfl⟩).1
 rfl
theorem EW{s:ByteArray}(h: ¬s.size=2):gZ s=0:=by
 unfold gZ;rw[aFv (fun g=>h g.1)]
end Bk
end
section
namespace Bk
def dg(v:Int)(i:Nat):Int:=if i=0 then v / 1000 else if i=1 then v / 100 % 10 else if i=2 then v / 10 % 10 else v % 10
def dI(b:Nat->Int)(v:Int)(i:Nat):Prop:=b i=88\/b i=48+dg v i
def qI(b:Nat->Int)(v:Int):Prop:=0<=v/\v<=9999/\dI b v 0/\dI b v 1/\dI b v 2/\dI b v 3
def dN(o:Nat->Int):Int:=1000 * (o 0 - 48)+100 * (o 1 - 48)+10 * (o 2 - 48)+(o 3 - 48)
def MOk(b:Nat->Int):Prop:= ∀i,i<4->b i=88\/(48<=b i/\b i<=57)
theorem mQ(v:Int)(h0:0<=v)(h1:v<=9999): ∃d0 d1 d2 d3:Int,0<=d0/\d0<=9/\0<=d1/\d1<=9/\0<=d2/\d2<=9/\0<=d3/\d3<=9/\v=1000 * d0+100 * d1+10 * d2+d3/\dg v 0=d0/\dg v 1=d1/\dg v 2=d2/\dg v 3=d3:=
 ⟨v / 1000,v / 100 % 10,v / 10 % 10,v % 10,by omega,by omega,by omega,by omega,by omega,by omega,by omega,by omega,by omega,rfl,rfl,rfl,rfl⟩
theorem aUx{v d0 d1 d2 d3:Int}(h:v=1000 * d0+100 * d1+10 * d2+d3)(a0:0<=d0)(a1:d0<=9)(b0:0<=d1)(b1:d1<=9)(c0:0<=d2)(c1:d2<=9)(e0:0<=d3)(e1:d3<=9):
 dg v 0=d0/\dg v 1=d1/\dg v 2=d2/\dg v 3=d3:=by
 refine⟨?_,?_,?_,?_⟩<;>simp only[dg]<;>simp<;>omega
theorem oL(b:Nat->Int)(v:Int):qI b v↔ ∃d0 d1 d2 d3:Int,0<=d0/\d0<=9/\0<=d1/\d1<=9/\0<=d2/\d2<=9/\0<=d3/\d3<=9/\v=1000 * d0+100 * d1+10 * d2+d3/\(b 0=88\/b 0=48+d0)/\(b 1=88\/b 1=48+d1)/\(b 2=88\/b 2=48+d2)/\(b 3=88\/b 3=48+d3):=by
 constructor
 . rintro⟨h0,h1,f0,f1,f2,f3⟩;obtain⟨d0,d1,d2,d3,a0,a1,a2,a3,a4,a5,a6,a7,e,e0,e1,e2,e3⟩:=mQ v h0 h1;unfold dI at f0 f1 f2 f3;rw[e0]at f0;rw[e1]at f1;rw[e2]at f2;rw[e3]at f3;exact⟨d0,d1,d2,d3,a0,a1,a2,a3,a4,a5,a6,a7,e,f0,f1,f2,f3⟩
 rintro⟨d0,d1,d2,d3,a0,a1,a2,a3,a4,a5,a6,a7,e,f0,f1,f2,f3⟩;obtain⟨e0,e1,e2,e3⟩:=aUx e a0 a1 a2 a3 a4 a5 a6 a7;refine⟨by omega,by omega,?_,?_,?_,?_⟩<;>unfold dI
 . rw[e0];exact f0
 . rw[e1];exact f1
 . rw[e2];exact f2
 rw[e3];exact f3
theorem J6{b:Nat->Int}{n:Int}(h0:0<=n)(h1:n<=9999)(h: ∀i,i<4->dI b n i):qI b n:=⟨h0,h1,h 0 (by omega),h 1 (by omega),h 2 (by omega),h 3 (by omega)⟩
theorem aJ5{b o:Nat->Int}{n:Int}{k:Nat}(hb:MOk b)(h0:0<=n)(h1:n<=9999)(hk:k<4)(hf: ∀i,i<k->dI b n i)(hx:b k≠88)(hg:48+dg n k<b k)
 (ho: ∀i,i<k->o i=48+dg n i) (hr: ∀i,k<=i->i<4->o i=if b i=88 then 48 else b i):qI b (dN o)/\n<=dN o/\ ∀f,qI b f->n<=f->dN o<=f:=by
 obtain⟨d0,d1,d2,d3,a0,a1,a2,a3,a4,a5,a6,a7,e,e0,e1,e2,e3⟩:=mQ n h0 h1;have m0:=hb 0 (by omega);have m1:=hb 1 (by omega);have m2:=hb 2 (by omega);have m3:=hb 3 (by omega);simp only[oL];obtain rfl|rfl|rfl|rfl:k=0\/k=1\/k=2\/k=3:=by omega
 . have r0:=hr 0 (by omega) (by omega);have r1:=hr 1 (by omega) (by omega);have r2:=hr 2 (by omega) (by omega);have r3:=hr 3 (by omega) (by omega);rw[e0]at hg;clear hf ho hr hb e0 e1 e2 e3;unfold dN;refine⟨⟨o 0 - 48,o 1 - 48,o 2 - 48,o 3 - 48,?_⟩,?_,?_⟩
   . split at r0<;>split at r1<;>split at r2<;>split at r3<;>omega
   . split at r0<;>split at r1<;>split at r2<;>split at r3<;>omega
   rintro f ⟨f0,f1,f2,f3,g⟩ hn;split at r0<;>split at r1<;>split at r2<;>split at r3<;>omega
 . have p0:=hf 0 (by omega);unfold dI at p0;rw[e0]at p0;have q0:=ho 0 (by omega);rw[e0]at q0;have r1:=hr 1 (by omega) (by omega);have r2:=hr 2 (by omega) (by omega);have r3:=hr 3 (by omega) (by omega);rw[e1]at hg;clear hf ho hr hb e0 e1 e2 e3;unfold dN;refine⟨⟨o 0 - 48,o 1 - 48,o 2 - 48,o 3 - 48,?_⟩,?_,?_⟩
   . split at r1<;>split at r2<;>split at r3<;>omega
   . split at r1<;>split at r2<;>split at r3<;>omega
   rintro f ⟨f0,f1,f2,f3,g⟩ hn;split at r1<;>split at r2<;>split at r3<;>omega
 . have p0:=hf 0 (by omega);unfold dI at p0;rw[e0]at p0;have q0:=ho 0 (by omega);rw[e0]at q0;have p1:=hf 1 (by omega);unfold dI at p1;rw[e1]at p1;have q1:=ho 1 (by omega);rw[e1]at q1;have r2:=hr 2 (by omega) (by omega);have r3:=hr 3 (by omega) (by omega);rw[e2]at hg;clear hf ho hr hb e0 e1 e2 e3;unfold dN;refine⟨⟨o 0 - 48,o 1 - 48,o 2 - 48,o 3 - 48,?_⟩,?_,?_⟩
   . split at r2<;>split at r3<;>omega
   . split at r2<;>split at r3<;>omega
   rintro f ⟨f0,f1,f2,f3,g⟩ hn;split at r2<;>split at r3<;>omega
 have p0:=hf 0 (by omega);unfold dI at p0;rw[e0]at p0;have q0:=ho 0 (by omega);rw[e0]at q0;have p1:=hf 1 (by omega);unfold dI at p1;rw[e1]at p1;have q1:=ho 1 (by omega);rw[e1]at q1;have p2:=hf 2 (by omega);unfold dI at p2;rw[e2]at p2;have q2:=ho 2 (by omega);rw[e2]at q2;have r3:=hr 3 (by omega) (by omega);rw[e3]at hg;clear hf ho hr hb e0 e1 e2 e3;unfold dN;refine⟨⟨o 0 - 48,o 1 - 48,o 2 - 48,o 3 - 48,?_⟩,?_,?_⟩
 . split at r3<;>omega
 . split at r3<;>omega
 rintro f ⟨f0,f1,f2,f3,g⟩ hn;split at r3<;>omega
theorem aJ6{b o:Nat->Int}{n:Int}{k j:Nat}(hb:MOk b)(h0:0<=n)(h1:n<=9999)(hk:k<4)(hf: ∀i,i<k->dI b n i)(hx:b k≠88)(hg:b k<48+dg n k)
 (hj:j<k) (hbx:b j=88) (hd:dg n j≠9) (hn: ∀i,j<i->i<k-> ¬(b i=88/\dg n i≠9))
 (ho: ∀i,i<j->o i=48+dg n i) (hoj:o j=48+dg n j+1) (hr: ∀i,j<i->i<4->o i=if b i=88 then 48 else b i):qI b (dN o)/\n<=dN o/\ ∀f,qI b f->n<=f->dN o<=f:=by
 obtain⟨d0,d1,d2,d3,a0,a1,a2,a3,a4,a5,a6,a7,e,e0,e1,e2,e3⟩:=mQ n h0 h1;have m0:=hb 0 (by omega);have m1:=hb 1 (by omega);have m2:=hb 2 (by omega);have m3:=hb 3 (by omega);simp only[oL];obtain⟨rfl,rfl⟩|⟨rfl,rfl⟩|⟨rfl,rfl⟩|⟨rfl,rfl⟩|⟨rfl,rfl⟩|⟨rfl,rfl⟩:(j=0/\k=1)\/(j=0/\k=2)\/(j=0/\k=3)\/(j=1/\k=2)\/(j=1/\k=3)\/(j=2/\k=3):=by omega
 . have p0:=hf 0 (by omega);unfold dI at p0;rw[e0]at p0;rw[e0]at hoj hd;have r1:=hr 1 (by omega) (by omega);have r2:=hr 2 (by omega) (by omega);have r3:=hr 3 (by omega) (by omega);rw[e1]at hg;clear hf ho hr hb hn e0 e1 e2 e3;unfold dN;refine⟨⟨o 0 - 48,o 1 - 48,o 2 - 48,o 3 - 48,?_⟩,?_,?_⟩
   . split at r1<;>split at r2<;>split at r3<;>omega
   . split at r1<;>split at r2<;>split at r3<;>omega
   rintro f ⟨f0,f1,f2,f3,g⟩ hn;split at r1<;>split at r2<;>split at r3<;>omega
 . have p0:=hf 0 (by omega);unfold dI at p0;rw[e0]at p0;have p1:=hf 1 (by omega);unfold dI at p1;rw[e1]at p1;rw[e0]at hoj hd;have s1:=hn 1 (by omega) (by omega);rw[e1]at s1;have r1:=hr 1 (by omega) (by omega);have r2:=hr 2 (by omega) (by omega);have r3:=hr 3 (by omega) (by omega);rw[e2]at hg;clear hf ho hr hb hn e0 e1 e2 e3;unfold dN;refine⟨⟨o 0 - 48,o 1 - 48,o 2 - 48,o 3 - 48,?_⟩,?_,?_⟩
   . split at r1<;>split at r2<;>split at r3<;>omega
   . split at r1<;>split at r2<;>split at r3<;>omega
   rintro f ⟨f0,f1,f2,f3,g⟩ hn;split at r1<;>split at r2<;>split at r3<;>omega
 . have p0:=hf 0 (by omega);unfold dI at p0;rw[e0]at p0;have p1:=hf 1 (by omega);unfold dI at p1;rw[e1]at p1;have p2:=hf 2 (by omega);unfold dI at p2;rw[e2]at p2;rw[e0]at hoj hd;have s1:=hn 1 (by omega) (by omega);rw[e1]at s1;have s2:=hn 2 (by omega) (by omega);rw[e2]at s2;have r1:=hr 1 (by omega) (by omega);have r2:=hr 2 (by omega) (by omega);have r3:=hr 3 (by omega) (by omega);rw[e3]at hg;clear hf ho hr hb hn e0 e1 e2 e3;unfold dN;refine⟨⟨o 0 - 48,o 1 - 48,o 2 - 48,o 3 - 48,?_⟩,?_,?_⟩
   . split at r1<;>split at r2<;>split at r3<;>omega
   . split at r1<;>split at r2<;>split at r3<;>omega
   rintro f ⟨f0,f1,f2,f3,g⟩ hn;split at r1<;>split at r2<;>split at r3<;>omega
 . have p0:=hf 0 (by omega);unfold dI at p0;rw[e0]at p0;have p1:=hf 1 (by omega);unfold dI at p1;rw[e1]at p1;have q0:=ho 0 (by omega);rw[e0]at q0;rw[e1]at hoj hd;have r2:=hr 2 (by omega) (by omega);have r3:=hr 3 (by omega) (by omega);rw[e2]at hg;clear hf ho hr hb hn e0 e1 e2 e3;unfold dN;refine⟨⟨o 0 - 48,o 1 - 48,o 2 - 48,o 3 - 48,?_⟩,?_,?_⟩
   . split at r2<;>split at r3<;>omega
   . split at r2<;>split at r3<;>omega
   rintro f ⟨f0,f1,f2,f3,g⟩ hn;split at r2<;>split at r3<;>omega
 . have p0:=hf 0 (by omega);unfold dI at p0;rw[e0]at p0;have p1:=hf 1 (by omega);unfold dI at p1;rw[e1]at p1;have p2:=hf 2 (by omega);unfold dI at p2;rw[e2]at p2;have q0:=ho 0 (by omega);rw[e0]at q0;rw[e1]at hoj hd;have s2:=hn 2 (by omega) (by omega);rw[e2]at s2;have r2:=hr 2 (by omega) (by omega);have r3:=hr 3 (by omega) (by omega);rw[e3]at hg;clear hf ho hr hb hn e0 e1 e2 e3;unfold dN;refine⟨⟨o 0 - 48,o 1 - 48,o 2 - 48,o 3 - 48,?_⟩,?_,?_⟩
   . split at r2<;>split at r3<;>omega
   . split at r2<;>split at r3<;>omega
   rintro f ⟨f0,f1,f2,f3,g⟩ hn;split at r2<;>split at r3<;>omega
 have p0:=hf 0 (by omega);unfold dI at p0;rw[e0]at p0;have p1:=hf 1 (by omega);unfold dI at p1;rw[e1]at p1;have p2:=hf 2 (by omega);unfold dI at p2;rw[e2]at p2;have q0:=ho 0 (by omega);rw[e0]at q0;have q1:=ho 1 (by omega);rw[e1]at q1;rw[e2]at hoj hd;have r3:=hr 3 (by omega) (by omega);rw[e3]at hg;clear hf ho hr hb hn e0 e1 e2 e3;unfold dN;refine⟨⟨o 0 - 48,o 1 - 48,o 2 - 48,o 3 - 48,?_⟩,?_,?_⟩
 . split at r3<;>omega
 . split at r3<;>omega
 rintro f ⟨f0,f1,f2,f3,g⟩ hn;split at r3<;>omega
theorem aJ4{b:Nat->Int}{n:Int}{k:Nat}(h0:0<=n)(h1:n<=9999)(hk:k<4)(hf: ∀i,i<k->dI b n i)(hx:b k≠88)(hg:b k<48+dg n k)
 (hn: ∀i,i<k-> ¬(b i=88/\dg n i≠9)): ∀f,qI b f->f<n:=by
 obtain⟨d0,d1,d2,d3,a0,a1,a2,a3,a4,a5,a6,a7,e,e0,e1,e2,e3⟩:=mQ n h0 h1;simp only[oL];obtain rfl|rfl|rfl|rfl:k=0\/k=1\/k=2\/k=3:=by omega
 . rw[e0]at hg;clear hf hn e0 e1 e2 e3;rintro f ⟨f0,f1,f2,f3,g⟩;omega
 . have p0:=hf 0 (by omega);unfold dI at p0;rw[e0]at p0;have s0:=hn 0 (by omega);rw[e0]at s0;rw[e1]at hg;clear hf hn e0 e1 e2 e3;rintro f ⟨f0,f1,f2,f3,g⟩;omega
 . have p0:=hf 0 (by omega);unfold dI at p0;rw[e0]at p0;have s0:=hn 0 (by omega);rw[e0]at s0;have p1:=hf 1 (by omega);unfold dI at p1;rw[e1]at p1;have s1:=hn 1 (by omega);rw[e1]at s1;rw[e2]at hg;clear hf hn e0 e1 e2 e3;rintro f ⟨f0,f1,f2,f3,g⟩;omega
 have p0:=hf 0 (by omega);unfold dI at p0;rw[e0]at p0;have s0:=hn 0 (by omega);rw[e0]at s0;have p1:=hf 1 (by omega);unfold dI at p1;rw[e1]at p1;have s1:=hn 1 (by omega);rw[e1]at s1;have p2:=hf 2 (by omega);unfold dI at p2;rw[e2]at p2;have s2:=hn 2 (by omega);rw[e2]at s2;rw[e3]at hg;clear hf hn e0 e1 e2 e3;rintro f ⟨f0,f1,f2,f3,g⟩;omega
theorem aLA{b o:Nat->Int}{n:Int}{k:Nat}(hb:MOk b)(h0:0<=n)(h1:n<=9999)(hk:k<4)(hf: ∀i,i<k->dI b n i)(hx:b k≠88)(hg:b k<48+dg n k)
 (ho: ∀i,i<k->o i=48+dg n i) (hr: ∀i,k<=i->i<4->o i=if b i=88 then 57 else b i):qI b (dN o)/\dN o<=n/\ ∀f,qI b f->f<=n->f<=dN o:=by
 obtain⟨d0,d1,d2,d3,a0,a1,a2,a3,a4,a5,a6,a7,e,e0,e1,e2,e3⟩:=mQ n h0 h1;have m0:=hb 0 (by omega);have m1:=hb 1 (by omega);have m2:=hb 2 (by omega);have m3:=hb 3 (by omega);simp only[oL];obtain rfl|rfl|rfl|rfl:k=0\/k=1\/k=2\/k=3:=by omega
 . have r0:=hr 0 (by omega) (by omega);have r1:=hr 1 (by omega) (by omega);have r2:=hr 2 (by omega) (by omega);have r3:=hr 3 (by omega) (by omega);rw[e0]at hg;clear hf ho hr hb e0 e1 e2 e3;unfold dN;refine⟨⟨o 0 - 48,o 1 - 48,o 2 - 48,o 3 - 48,?_⟩,?_,?_⟩
   . split at r0<;>split at r1<;>split at r2<;>split at r3<;>omega
   . split at r0<;>split at r1<;>split at r2<;>split at r3<;>omega
   rintro f ⟨f0,f1,f2,f3,g⟩ hn;split at r0<;>split at r1<;>split at r2<;>split at r3<;>omega
 . have p0:=hf 0 (by omega);unfold dI at p0;rw[e0]at p0;have q0:=ho 0 (by omega);rw[e0]at q0;have r1:=hr 1 (by omega) (by omega);have r2:=hr 2 (by omega) (by omega);have r3:=hr 3 (by omega) (by omega);rw[e1]at hg;clear hf ho hr hb e0 e1 e2 e3;unfold dN;refine⟨⟨o 0 - 48,o 1 - 48,o 2 - 48,o 3 - 48,?_⟩,?_,?_⟩
   . split at r1<;>split at r2<;>split at r3<;>omega
   . split at r1<;>split at r2<;>split at r3<;>omega
   rintro f ⟨f0,f1,f2,f3,g⟩ hn;split at r1<;>split at r2<;>split at r3<;>omega
 . have p0:=hf 0 (by omega);unfold dI at p0;rw[e0]at p0;have q0:=ho 0 (by omega);rw[e0]at q0;have p1:=hf 1 (by omega);unfold dI at p1;rw[e1]at p1;have q1:=ho 1 (by omega);rw[e1]at q1;have r2:=hr 2 (by omega) (by omega);have r3:=hr 3 (by omega) (by omega);rw[e2]at hg;clear hf ho hr hb e0 e1 e2 e3;unfold dN;refine⟨⟨o 0 - 48,o 1 - 48,o 2 - 48,o 3 - 48,?_⟩,?_,?_⟩
   . split at r2<;>split at r3<;>omega
   . split at r2<;>split at r3<;>omega
   rintro f ⟨f0,f1,f2,f3,g⟩ hn;split at r2<;>split at r3<;>omega
 have p0:=hf 0 (by omega);unfold dI at p0;rw[e0]at p0;have q0:=ho 0 (by omega);rw[e0]at q0;have p1:=hf 1 (by omega);unfold dI at p1;rw[e1]at p1;have q1:=ho 1 (by omega);rw[e1]at q1;have p2:=hf 2 (by omega);unfold dI at p2;rw[e2]at p2;have q2:=ho 2 (by omega);rw[e2]at q2;have r3:=hr 3 (by omega) (by omega);rw[e3]at hg;clear hf ho hr hb e0 e1 e2 e3;unfold dN;refine⟨⟨o 0 - 48,o 1 - 48,o 2 - 48,o 3 - 48,?_⟩,?_,?_⟩
 . split at r3<;>omega
 . split at r3<;>omega
 rintro f ⟨f0,f1,f2,f3,g⟩ hn;split at r3<;>omega
theorem aLB{b o:Nat->Int}{n:Int}{k j:Nat}(hb:MOk b)(h0:0<=n)(h1:n<=9999)(hk:k<4)(hf: ∀i,i<k->dI b n i)(hx:b k≠88)(hg:48+dg n k<b k)
 (hj:j<k) (hbx:b j=88) (hd:dg n j≠0) (hn: ∀i,j<i->i<k-> ¬(b i=88/\dg n i≠0))
 (ho: ∀i,i<j->o i=48+dg n i) (hoj:o j=48+dg n j - 1) (hr: ∀i,j<i->i<4->o i=if b i=88 then 57 else b i):qI b (dN o)/\dN o<=n/\ ∀f,qI b f->f<=n->f<=dN o:=by
 obtain⟨d0,d1,d2,d3,a0,a1,a2,a3,a4,a5,a6,a7,e,e0,e1,e2,e3⟩:=mQ n h0 h1;have m0:=hb 0 (by omega);have m1:=hb 1 (by omega);have m2:=hb 2 (by omega);have m3:=hb 3 (by omega);simp only[oL];obtain⟨rfl,rfl⟩|⟨rfl,rfl⟩|⟨rfl,rfl⟩|⟨rfl,rfl⟩|⟨rfl,rfl⟩|⟨rfl,rfl⟩:(j=0/\k=1)\/(j=0/\k=2)\/(j=0/\k=3)\/(j=1/\k=2)\/(j=1/\k=3)\/(j=2/\k=3):=by omega
 . have p0:=hf 0 (by omega);unfold dI at p0;rw[e0]at p0;rw[e0]at hoj hd;have r1:=hr 1 (by omega) (by omega);have r2:=hr 2 (by omega) (by omega);have r3:=hr 3 (by omega) (by omega);rw[e1]at hg;clear hf ho hr hb hn e0 e1 e2 e3;unfold dN;refine⟨⟨o 0 - 48,o 1 - 48,o 2 - 48,o 3 - 48,?_⟩,?_,?_⟩
   . split at r1<;>split at r2<;>split at r3<;>omega
   . split at r1<;>split at r2<;>split at r3<;>omega
   rintro f ⟨f0,f1,f2,f3,g⟩ hn;split at r1<;>split at r2<;>split at r3<;>omega
 . have p0:=hf 0 (by omega);unfold dI at p0;rw[e0]at p0;have p1:=hf 1 (by omega);unfold dI at p1;rw[e1]at p1;rw[e0]at hoj hd;have s1:=hn 1 (by omega) (by omega);rw[e1]at s1;have r1:=hr 1 (by omega) (by omega);have r2:=hr 2 (by omega) (by omega);have r3:=hr 3 (by omega) (by omega);rw[e2]at hg;clear hf ho hr hb hn e0 e1 e2 e3;unfold dN;refine⟨⟨o 0 - 48,o 1 - 48,o 2 - 48,o 3 - 48,?_⟩,?_,?_⟩
   . split at r1<;>split at r2<;>split at r3<;>omega
   . split at r1<;>split at r2<;>split at r3<;>omega
   rintro f ⟨f0,f1,f2,f3,g⟩ hn;split at r1<;>split at r2<;>split at r3<;>omega
 . have p0:=hf 0 (by omega);unfold dI at p0;rw[e0]at p0;have p1:=hf 1 (by omega);unfold dI at p1;rw[e1]at p1;have p2:=hf 2 (by omega);unfold dI at p2;rw[e2]at p2;rw[e0]at hoj hd;have s1:=hn 1 (by omega) (by omega);rw[e1]at s1;have s2:=hn 2 (by omega) (by omega);rw[e2]at s2;have r1:=hr 1 (by omega) (by omega);have r2:=hr 2 (by omega) (by omega);have r3:=hr 3 (by omega) (by omega);rw[e3]at hg;clear hf ho hr hb hn e0 e1 e2 e3;unfold dN;refine⟨⟨o 0 - 48,o 1 - 48,o 2 - 48,o 3 - 48,?_⟩,?_,?_⟩
   . split at r1<;>split at r2<;>split at r3<;>omega
   . split at r1<;>split at r2<;>split at r3<;>omega
   rintro f ⟨f0,f1,f2,f3,g⟩ hn;split at r1<;>split at r2<;>split at r3<;>omega
 . have p0:=hf 0 (by omega);unfold dI at p0;rw[e0]at p0;have p1:=hf 1 (by omega);unfold dI at p1;rw[e1]at p1;have q0:=ho 0 (by omega);rw[e0]at q0;rw[e1]at hoj hd;have r2:=hr 2 (by omega) (by omega);have r3:=hr 3 (by omega) (by omega);rw[e2]at hg;clear hf ho hr hb hn e0 e1 e2 e3;unfold dN;refine⟨⟨o 0 - 48,o 1 - 48,o 2 - 48,o 3 - 48,?_⟩,?_,?_⟩
   . split at r2<;>split at r3<;>omega
   . split at r2<;>split at r3<;>omega
   rintro f ⟨f0,f1,f2,f3,g⟩ hn;split at r2<;>split at r3<;>omega
 . have p0:=hf 0 (by omega);unfold dI at p0;rw[e0]at p0;have p1:=hf 1 (by omega);unfold dI at p1;rw[e1]at p1;have p2:=hf 2 (by omega);unfold dI at p2;rw[e2]at p2;have q0:=ho 0 (by omega);rw[e0]at q0;rw[e1]at hoj hd;have s2:=hn 2 (by omega) (by omega);rw[e2]at s2;have r2:=hr 2 (by omega) (by omega);have r3:=hr 3 (by omega) (by omega);rw[e3]at hg;clear hf ho hr hb hn e0 e1 e2 e3;unfold dN;refine⟨⟨o 0 - 48,o 1 - 48,o 2 - 48,o 3 - 48,?_⟩,?_,?_⟩
   . split at r2<;>split at r3<;>omega
   . split at r2<;>split at r3<;>omega
   rintro f ⟨f0,f1,f2,f3,g⟩ hn;split at r2<;>split at r3<;>omega
 have p0:=hf 0 (by omega);unfold dI at p0;rw[e0]at p0;have p1:=hf 1 (by omega);unfold dI at p1;rw[e1]at p1;have p2:=hf 2 (by omega);unfold dI at p2;rw[e2]at p2;have q0:=ho 0 (by omega);rw[e0]at q0;have q1:=ho 1 (by omega);rw[e1]at q1;rw[e2]at hoj hd;have r3:=hr 3 (by omega) (by omega);rw[e3]at hg;clear hf ho hr hb hn e0 e1 e2 e3;unfold dN;refine⟨⟨o 0 - 48,o 1 - 48,o 2 - 48,o 3 - 48,?_⟩,?_,?_⟩
 . split at r3<;>omega
 . split at r3<;>omega
 rintro f ⟨f0,f1,f2,f3,g⟩ hn;split at r3<;>omega
theorem aLz{b:Nat->Int}{n:Int}{k:Nat}(h0:0<=n)(h1:n<=9999)(hk:k<4)(hf: ∀i,i<k->dI b n i)(hx:b k≠88)(hg:48+dg n k<b k)
 (hn: ∀i,i<k-> ¬(b i=88/\dg n i≠0)): ∀f,qI b f->n<f:=by
 obtain⟨d0,d1,d2,d3,a0,a1,a2,a3,a4,a5,a6,a7,e,e0,e1,e2,e3⟩:=mQ n h0 h1;simp only[oL];obtain rfl|rfl|rfl|rfl:k=0\/k=1\/k=2\/k=3:=by omega
 . rw[e0]at hg;clear hf hn e0 e1 e2 e3;rintro f ⟨f0,f1,f2,f3,g⟩;omega
 . have p0:=hf 0 (by omega);unfold dI at p0;rw[e0]at p0;have s0:=hn 0 (by omega);rw[e0]at s0;rw[e1]at hg;clear hf hn e0 e1 e2 e3;rintro f ⟨f0,f1,f2,f3,g⟩;omega
 . have p0:=hf 0 (by omega);unfold dI at p0;rw[e0]at p0;have s0:=hn 0 (by omega);rw[e0]at s0;have p1:=hf 1 (by omega);unfold dI at p1;rw[e1]at p1;have s1:=hn 1 (by omega);rw[e1]at s1;rw[e2]at hg;clear hf hn e0 e1 e2 e3;rintro f ⟨f0,f1,f2,f3,g⟩;omega
 have p0:=hf 0 (by omega);unfold dI at p0;rw[e0]at p0;have s0:=hn 0 (by omega);rw[e0]at s0;have p1:=hf 1 (by omega);unfold dI at p1;rw[e1]at p1;have s1:=hn 1 (by omega);rw[e1]at s1;have p2:=hf 2 (by omega);unfold dI at p2;rw[e2]at p2;have s2:=hn 2 (by omega);rw[e2]at s2;rw[e3]at hg;clear hf hn e0 e1 e2 e3;rintro f ⟨f0,f1,f2,f3,g⟩;omega
end Bk
end
section
namespace Bk
def p10(k:Nat):Int:=10 ^ k
theorem aKB(k:Nat)(h:k<=18):(1:Int)<=10 ^ k/\(10:Int) ^ k<=1000000000000000000:=by
 have h1:(10:Nat) ^ k<=10 ^ 18:=aXy (by omega) h;have h2:0<(10:Nat) ^ k:=a1i (by simp);have h3:(10:Nat) ^ 18=1000000000000000000:=by decide
 have e:((10:Int) ^ k)=((10 ^ k:Nat):Int):=by simp
 rw[e];omega
theorem WB(k:Nat):p10 (k+1)=p10 k * 10:=by unfold p10;rw[Int.pow_succ]
theorem aGC(k:Nat)(h:k<=18):1<=p10 k/\p10 k<=1000000000000000000:=aKB k h
theorem aCB(k:Nat):1<=p10 k:=by
 unfold p10;have e:((10:Int) ^ k)=((10 ^ k:Nat):Int):=by simp
 have h2:0<(10:Nat) ^ k:=a1i (by simp);rw[e];omega
def bF(s:ByteArray):Int:=(dec s.data.toList 0:Nat)
theorem CQ(s:ByteArray):0<=bF s:=by unfold bF;omega
def iH(s:ByteArray)(ex:Int):Int:=bF s * p10 ex.toNat
def isZ(x:Int):Bool:=decide (x=48)
def gK(s:ByteArray)(ex:Int):Bool:=
 decide (1<=s.size)&&(decide (s.size<=17)&&(allB bM s&&(!decide (bH s 0=48)&&(decide (0<=ex)&&(decide (ex<=16)&&(!(decide (ex=0)&&decide (s.size<5))&&decide (iH s ex<=10000000000000000)))))))
def iP(neg:Bool)(s:ByteArray)(ex sig:Int):Bool:=
 decide (s.size=4)&&(allB eU s&&(decide (ex=0)&&(!(neg&&allB isZ s)&& !(!decide (sig=0)&&hasB 88 s))))
def OJ(neg long:Bool)(s:ByteArray)(ex sig:Int):Bool:=(if long then gK s ex else iP neg s ex sig)&&(decide (0<=sig)&&decide (sig<=s.size+ex))
theorem kW{neg:Bool}{s:ByteArray}{ex sig:Int}(h:OJ neg true s ex sig=true):1<=s.size/\s.size<=17/\allB bM s=true/\bH s 0≠48/\0<=ex/\ex<=16/\iH s ex<=10000000000000000/\0<=sig/\sig<=s.size+ex:=by
 unfold OJ gK at h;simp at h;obtain⟨⟨h1,h2,h3,h4,h5,h6,h7,h8⟩,h9,h10⟩:=h;exact⟨h1,h2,h3,h4,h5,h6,h8,h9,h10⟩
theorem jT{neg:Bool}{s:ByteArray}{ex sig:Int}(h:OJ neg false s ex sig=true):s.size=4/\allB eU s=true/\ex=0/\(neg=true->allB isZ s=false)/\(sig≠0->hasB 88 s=false)/\0<=sig/\sig<=4:=by
 unfold OJ iP at h;simp at h;obtain⟨⟨h1,h2,h3,h4,h5⟩,h9,h10⟩:=h;exact⟨h1,h2,h3,fun hn=>by cases h4 with
  |inl h=>rw[hn]at h;cases h
  |inr h=>exact h,fun hs=>by cases h5 with
  |inl h=>exact absurd h hs
  |inr h=>exact h,h9,by omega⟩
def jS(s:ByteArray)(n:Int):Bool:=decide (s.size=2)&&((decide (bH s 0=88)||decide (bH s 0=48+n / 10))&&(decide (bH s 1=88)||decide (bH s 1=48+n % 10)))
def fC(s:ByteArray)(g:Nat):Bool:=(List.range g).any fun i=>jS s ((i:Int)+1)
theorem sZ(s:ByteArray)(g:Nat):fC s (g+1)=(fC s g||jS s ((g:Int)+1)):=by
 unfold fC;rw[a0Y,List.any_append];simp
theorem I7{s:ByteArray}{g h:Nat}(hle:g<=h)(hs:fC s g=true):fC s h=true:=by
 unfold fC at hs ⊢;rw[a0Q]at hs ⊢;obtain⟨i,hi,ha⟩:=hs;exact⟨i,by rw[aUc]at hi ⊢;omega,ha⟩
theorem wU(s:ByteArray)(g:Nat):fC s g=true↔ ∃n:Int,1<=n/\n<=g/\jS s n=true:=by
 unfold fC;rw[a0Q];constructor
 . rintro⟨i,hi,ha⟩;rw[aUc]at hi;exact⟨(i:Int)+1,by omega,by omega,ha⟩
 rintro⟨n,h1,h2,ha⟩;refine⟨(n - 1).toNat,by rw[aUc];omega,?_⟩;rw[show (((n - 1).toNat:Nat):Int)+1=n by omega];exact ha
def comps(mo da:ByteArray):Int:=1+(if mo.size=0 then 0 else 1)+(if da.size=0 then 0 else 1)
def kS(a b c n:Int):Int:=if a<=3/\b<=3/\c<=3/\(n<3->c=0)/\(n<2->b=0)then 0 else 9
structure Dt where
 neg:Bool
 long:Bool
 dg:ByteArray
 ex:Int
 sig:Int
 mo:ByteArray
 da:ByteArray
 m0:Int
 m1:Int
 m2:Int
def Dt.UR(d:Dt):Bool:=OJ d.neg d.long d.dg d.ex d.sig
def Dt.mag(d:Dt):Int:=iH d.dg d.ex
def Dt.mask(d:Dt):Bool:=hasB 88 d.dg
def Dt.aG(d:Dt):Int:=gZ d.mo
def Dt.far(d:Dt):Bool:=(decide (d.aG=24)||(decide (d.aG=28)||decide (d.aG=30)))&&(!d.mask&&(decide (d.mag=10000000000000000)&& !d.neg))
def Dt.nY(d:Dt):Bool:=d.UR&&(!(decide (0<d.sig)&& !decide (d.mo.size=0))&& !d.far)
def Dt.form(d:Dt):Int:=
 if d.nY=false then 6
 else if(!decide (d.mo.size=0)&&(decide (d.aG=0)&& !fC d.mo 12))=true then 7
 else if(!decide (d.da.size=0)&&(decide (d.mo.size=0)||(!decide (d.aG=0)|| !fC d.da 31)))=true then 8
 else kS d.m0 d.m1 d.m2 (comps d.mo d.da)
def Dt.In(d:Dt)(y:Int):Prop:=if d.mask=true then(if d.neg=true then qI (bH d.dg) (-y)/\y≠0 else qI (bH d.dg) y)else y=(if d.neg=true then -d.mag else d.mag)
def cvv(y m k:Int):Value:=.agg #[.int .i64 y,.int .i64 m,.int .i64 k]
def eP(d:Dt):Value:=.agg #[.bool d.neg,.bool d.long,.string d.dg,.int .i64 d.ex,.int .i64 d.sig,.string d.mo,.string d.da,.int .u8 d.m0,.int .u8 d.m1,.int .u8 d.m2]
end Bk
end
section
namespace Bk
def qJ(a b:Int)(l:List UInt8):Int:=(l.filter fun c=>decide (a<=(c.toNat:Int))&&decide ((c.toNat:Int)<=b)).length
theorem G6(a b:Int)(l:List UInt8):0<=qJ a b l/\qJ a b l<=l.length:=by
 unfold qJ;exact⟨by omega,by have:=List.length_filter_le (fun c:UInt8=>decide (a<=(c.toNat:Int))&&decide ((c.toNat:Int)<=b)) l;omega⟩
theorem take_snoc(s:ByteArray)(k:Nat)(h:k<s.size):s.data.toList.take (k+1)=s.data.toList.take k++[s[k]]:=by
 rw[a1n (by simpa using h)];rfl
theorem aES(a b:Int)(l:List UInt8)(c:UInt8):qJ a b (l++[c])=qJ a b l+if a<=(c.toNat:Int)/\(c.toNat:Int)<=b then 1 else 0:=by
 unfold qJ;rw[List.filter_append]
 by_cases h:a<=(c.toNat:Int)<;>by_cases h2:(c.toNat:Int)<=b<;>simp[List.filter_cons,h,h2]
theorem xJ(a b:Int)(l:List UInt8)(c:UInt8):qJ a b (c::l)=qJ a b l+if a<=(c.toNat:Int)/\(c.toNat:Int)<=b then 1 else 0:=by
 unfold qJ
 by_cases h:a<=(c.toNat:Int)<;>by_cases h2:(c.toNat:Int)<=b<;>simp[List.filter_cons,h,h2]
def mW(a b:Int)(s:ByteArray):Int:=qJ a b s.data.toList
theorem CV(a b:Int)(s:ByteArray):0<=mW a b s/\mW a b s<=s.size:=by
 have:=G6 a b s.data.toList;unfold mW;simpa using this
theorem Y0: ∀l:List UInt8,(qJ 48 57 l+qJ 88 88 l=l.length↔(l.all fun b=>eU (b.toNat:Int))=true)/\qJ 48 57 l+qJ 88 88 l<=l.length
 |[]=>by simp[qJ]
 |c::l=>by
  obtain⟨ih,ih2⟩:=Y0 l;rw[xJ,xJ,aQN,aEx,<-ih,aSv];unfold eU
  by_cases h:(48:Int)<=(c.toNat:Int)/\(c.toNat:Int)<=57
  . rw[aFw h,aFv (by omega)];simp[h];omega
  rw[aFv h]
  by_cases h2:(c.toNat:Int)=88
  . rw[aFw (by omega)];simp[h2];omega
  rw[aFv (by omega)];simp[h,h2];omega
theorem YR(s:ByteArray):(mW 48 57 s+mW 88 88 s=s.size)↔allB eU s=true:=by
 have:=(Y0 s.data.toList).1;unfold mW allB;simpa using this
theorem aNf: ∀l:List UInt8,(0<qJ 88 88 l)↔(l.any fun b=>decide ((b.toNat:Int)=88))=true
 |[]=>by simp[qJ]
 |c::l=>by
  have ih:=aNf l;have:=(G6 88 88 l).1;rw[xJ,a1V,aL6,<-ih,aNt]
  by_cases h:(c.toNat:Int)=88
  . rw[aFw (by omega)];omega
  rw[aFv (by omega)];omega
theorem aFG(s:ByteArray):(0<mW 88 88 s)↔hasB 88 s=true:=aNf _
theorem aC4(a:Int): ∀l:List UInt8,(qJ a a l=l.length)↔(l.all fun b=>decide ((b.toNat:Int)=a))=true
 |[]=>by simp[qJ]
 |c::l=>by
  have ih:=aC4 a l;have:=(G6 a a l).2;rw[xJ,aQN,aEx,<-ih,aNt,aSv]
  by_cases h:(c.toNat:Int)=a
  . rw[aFw (by omega)];omega
  rw[aFv (by omega)];omega
theorem aQ1(s:ByteArray)(h:s.size=4):(mW 48 48 s=4)↔allB isZ s=true:=by
 have:=aC4 48 s.data.toList;unfold mW allB isZ;have e:(s.data.toList.length:Int)=4:=by simp;omega
 rw[e]at this;exact this
theorem aC5: ∀l:List UInt8,(l.all fun b=>eU (b.toNat:Int))=true->((l.any fun b=>decide ((b.toNat:Int)=88))=false↔(l.all fun b=>bM (b.toNat:Int))=true)
 |[],_=>by simp
 |c::l,h=>by
  rw[aQN,aEx]at h;have ih:=aC5 l h.2;rw[a1V,aQN,aNm,aEx,ih];have h1:=h.1;unfold eU at h1;unfold bM
  by_cases h2:(c.toNat:Int)=88
  . simp[h2]
  simp[h2]at h1;simp[h2,h1]
theorem oO{s:ByteArray}(h:allB eU s=true):hasB 88 s=false↔allB bM s=true:=aC5 _ h
theorem L8{s:ByteArray}(h:allB bM s=true):allB eU s=true:=by
 rw[kL]at h ⊢;intro i hi;have:=h i hi;unfold bM at this;unfold eU;rw[this];rfl
end Bk
end
section
namespace Bk
def uZ(s:ByteArray)(k:Nat):Int:=if k<=s.size then(dec (s.data.toList.take k) 0:Nat)else bF s * p10 (k - s.size)
theorem O7(s:ByteArray):uZ s 0=0:=by unfold uZ;rw[aFw (aLm _)];rfl
theorem KA(s:ByteArray)(e:Nat):uZ s (s.size+e)=iH s e:=by
 unfold uZ iH
 by_cases h:s.size+e<=s.size
 . obtain rfl:e=0:=by omega
   rw[aFw h,aVR (by simp)];unfold bF p10;simp
 rw[aFv h,show s.size+e - s.size=e by omega,aPt]
theorem aBL{s:ByteArray}(h:allB bM s=true)(k:Nat)(hk:k<s.size):48<=((s[k]'hk).toNat:Int)/\((s[k]'hk).toNat:Int)<=57:=by
 have:=(kL _ _).1 h k hk;rw[bU s k hk]at this;exact aHY this
theorem XU{s:ByteArray}(h:allB bM s=true)(k:Nat)(hk:k<s.size):uZ s (k+1)=10 * uZ s k+(((s[k]'hk).toNat:Int) - 48):=by
 unfold uZ;rw[aFw (by omega),aFw (by omega),take_snoc s k hk,YV];have:=aBL h k hk;omega
theorem XR(s:ByteArray)(k:Nat)(hk:s.size<=k):uZ s (k+1)=10 * uZ s k:=by
 unfold uZ;rw[aFv (by omega)]
 by_cases c:k<=s.size
 . obtain rfl:k=s.size:=by omega
   rw[aFw c,show s.size+1 - s.size=1 by omega,aVR (by simp)];unfold bF p10;omega
 rw[aFv c,show k+1 - s.size=(k - s.size)+1 by omega,WB];rw[<-Int.mul_assoc,Int.mul_comm]
theorem XT(s:ByteArray)(k:Nat):0<=uZ s k:=by
 unfold uZ
 split
 . omega
 exact a1M (CQ s) (by have:=aCB (k - s.size);omega)
theorem aEp{s:ByteArray}(h:allB bM s=true)(k:Nat):uZ s k<=uZ s (k+1):=by
 have:=XT s k
 by_cases c:k<s.size
 . rw[XU h k c];have:=aBL h k c;omega
 rw[XR s k (by omega)];omega
theorem D5{s:ByteArray}(h:allB bM s=true)(k:Nat): ∀j,uZ s k<=uZ s (k+j)
 |0=>a1a _
 |j+1=>Int.le_trans (D5 h k j) (aEp h (k+j))
theorem lK(s:ByteArray)(e:Int):0<=iH s e:=a1M (CQ s) (by have:=aCB e.toNat;omega)
theorem EM{s:ByteArray}(h:allB bM s=true):s.data.toList.all aIs=true:=by
 unfold allB at h;rw[aJr]at h ⊢;intro c hc;have:=h c hc;unfold bM at this;have:=aHY this;unfold aIs;rw[aNt];omega
theorem aLC{s:ByteArray}(h:allB bM s=true)(hs:s.size<=17):bF s<100000000000000000:=by
 have:=dec_lt s.data.toList 0 0 (EM h) (by decide);rw[aHv]at this;have hp:(10:Nat) ^ s.data.toList.length<=10 ^ 17:=aXy (by omega) (by simpa using hs);have hp2:(10:Nat) ^ 17=100000000000000000:=by decide
 unfold bF;omega
theorem pY{s:ByteArray}(h:allB bM s=true)(hs:s.size=4):bF s<10000:=by
 have:=dec_lt s.data.toList 0 0 (EM h) (by decide);rw[aHv,show s.data.toList.length=4 by simpa using hs]at this;unfold bF;omega
end Bk
end
section
namespace Bk
def eX(s:ByteArray):Nat->List Int
 |0=>[]
 |g+1=>eX s g++(if jS s ((g:Int)+1)then[(g:Int)+1]else[])
theorem pX(s:ByteArray)(g:Nat):eX s (g+1)=eX s g++(if jS s ((g:Int)+1)then[(g:Int)+1]else[]):=rfl
theorem EC{s:ByteArray}{g:Nat}(h:jS s ((g:Int)+1)=true):eX s (g+1)=eX s g++[(g:Int)+1]:=by rw[pX,aFw h]
theorem LQ{s:ByteArray}{g:Nat}(h:jS s ((g:Int)+1)=false):eX s (g+1)=eX s g:=by rw[pX,aFv (by rw[h];decide),aUz]
theorem oW(s:ByteArray): ∀g,(eX s g).length<=g
 |0=>aDT _
 |g+1=>by
  have:=oW s g;rw[pX,aM5]
  split<;>simp<;>omega
theorem iR(s:ByteArray)(n:Int): ∀g:Nat,n ∈ eX s g↔(1<=n/\n<=g/\jS s n=true)
 |0=>by simp[eX];omega
 |g+1=>by
  have ih:=iR s n g;rw[pX,aJh,ih]
  by_cases h:jS s ((g:Int)+1)=true
  . rw[aFw h,aJo];constructor
    . rintro(⟨h1,h2,h3⟩|rfl)
      . exact⟨h1,by omega,h3⟩
      exact⟨by omega,by omega,h⟩
    rintro⟨h1,h2,h3⟩
    by_cases e:n=(g:Int)+1
    . exact .inr e
    exact .inl ⟨h1,by omega,h3⟩
  rw[aFv h];constructor
  . rintro(⟨h1,h2,h3⟩|h)
    . exact⟨h1,by omega,h3⟩
    cases h
  rintro⟨h1,h2,h3⟩;refine .inl ⟨h1,?_,h3⟩
  by_cases e:n=(g:Int)+1
  . subst e;exact absurd h3 h
  omega
theorem lQ(s:ByteArray): ∀g,(eX s g).Pairwise (· < ·)
 |0=>List.Pairwise.nil
 |g+1=>by
  rw[pX,List.pairwise_append];refine⟨lQ s g,?_,?_⟩
  . split<;>simp
  intro a ha b hb;have:=(iR s a g).1 ha
  split at hb
  . rw[aJo]at hb;omega
  cases hb
theorem aBG(s:ByteArray)(g:Nat):fC s g=true↔eX s g≠[]:=by
 rw[wU];constructor
 . rintro⟨n,h1,h2,h3⟩ e;have:=(iR s n g).2 ⟨h1,h2,h3⟩;rw[e]at this;cases this
 intro h
 cases e:eX s g with
 |nil=>exact absurd e h
 |cons a l=>
  have:=(iR s a g).1 (by rw[e];exact aHS ..);exact⟨a,this⟩
def Dt.ms(d:Dt):List Int:=if d.aG≠0 then[d.aG]else if d.mo.size=0 then[0]else eX d.mo 12
def Dt.ds(d:Dt):List Int:=if d.da.size=0 then[0]else eX d.da 31
def Dt.len(d:Dt)(y m:Int):Int:=if d.da.size=0 then 0 else Cal.len y m
theorem Dt.aEl(d:Dt):d.ms.Pairwise (· < ·):=by
 unfold Dt.ms;split
 . simp
 split
 . simp
 exact lQ _ _
theorem Dt.aEM(d:Dt):d.ds.Pairwise (· < ·):=by
 unfold Dt.ds;split
 . simp
 exact lQ _ _
theorem Dt.aHq(d:Dt):d.ms.length<=12:=by
 unfold Dt.ms;split
 . simp
 split
 . simp
 exact oW _ _
theorem Dt.aP3(d:Dt):d.ds.length<=31:=by
 unfold Dt.ds;split
 . simp
 exact oW _ _
def Dt.Fill(d:Dt)(y m k:Int):Prop:=d.In y/\m ∈ d.ms/\k ∈ d.ds/\k<=d.len y m
def Dt.ge(d:Dt)(y m k cy cm ck:Int):Prop:=cy<y\/(y=cy/\(d.mo.size=0\/cm<m\/(m=cm/\(d.da.size=0\/ck<=k))))
def lt3(y m k z n j:Int):Prop:=y<z\/(y=z/\(m<n\/(m=n/\k<j)))
def Dt.EN(d:Dt)(cy cm ck:Int)(y m k:Int)(found:Bool):Prop:=
 (found=true/\d.Fill y m k/\d.ge y m k cy cm ck/\ ∀z n j,d.Fill z n j->d.ge z n j cy cm ck-> ¬lt3 z n j y m k)\/
 (found=false/\y=0/\m=0/\k=0/\ ∀z n j,d.Fill z n j-> ¬d.ge z n j cy cm ck)
def Dt.Year(d:Dt)(n v:Int)(ok:Bool):Prop:=
 (ok=true/\d.In v/\n<=v/\ ∀u,d.In u->n<=u->v<=u)\/(ok=false/\ ∀u,d.In u-> ¬n<=u)
def Dt.NoM(d:Dt)(y cy cm ck:Int)(i:Nat):Prop:= ∀j,j<i-> ∀(h:j<d.ms.length),∀k,k ∈ d.ds->k<=d.len y (d.ms[j]'h)-> ¬d.ge y (d.ms[j]'h) k cy cm ck
def Dt.NoK(d:Dt)(y m cy cm ck:Int)(i:Nat):Prop:= ∀j,j<i-> ∀(h:j<d.ds.length),(d.ds[j]'h)<=d.len y m-> ¬d.ge y m (d.ds[j]'h) cy cm ck
def Dt.NoY(d:Dt)(y cy cm ck:Int):Prop:= ∀z n j,d.Fill z n j->z<y-> ¬d.ge z n j cy cm ck
theorem Dt.aHh(d:Dt)(y cy cm ck:Int):d.NoM y cy cm ck 0:=fun j h=>by omega
theorem Dt.aHk(d:Dt)(y m cy cm ck:Int):d.NoK y m cy cm ck 0:=fun j h=>by omega
theorem Dt.aHl{d:Dt}{y m cy cm ck:Int}{i:Nat}(h:d.NoK y m cy cm ck i)(hi:i<d.ds.length)(hn:(d.ds[i]'hi)<=d.len y m-> ¬d.ge y m (d.ds[i]'hi) cy cm ck):d.NoK y m cy cm ck (i+1):=by
 intro j hj hl
 by_cases e:j=i
 . subst e;exact hn
 exact h j (by omega) hl
theorem Dt.aHi{d:Dt}{y cy cm ck:Int}{i:Nat}(h:d.NoM y cy cm ck i)(hi:i<d.ms.length)(hn:d.NoK y (d.ms[i]'hi) cy cm ck d.ds.length):d.NoM y cy cm ck (i+1):=by
 intro j hj hl
 by_cases e:j=i
 . subst e;intro k hk hkl;obtain⟨a,ha,rfl⟩:=aQV hk;exact hn a ha ha hkl
 exact h j (by omega) hl
theorem Dt.aHj{d:Dt}{y cy cm ck:Int}{i:Nat}(h:d.NoM y cy cm ck i)(hi:i<d.ms.length)(hy:y=cy)(hm:d.mo.size≠0)(hlt:(d.ms[i]'hi)<cm):d.NoM y cy cm ck (i+1):=by
 intro j hj hl
 by_cases e:j=i
 . subst e;rintro k hk hkl (g|⟨g,g|g|⟨g,_⟩⟩)<;>omega
 exact h j (by omega) hl
theorem Dt.aHg{d:Dt}{y v cy cm ck:Int}{ok:Bool}(h:d.NoY y cy cm ck)(hm:d.NoM y cy cm ck d.ms.length)(hy:d.Year (y+1) v ok):
 (ok=true->d.NoY v cy cm ck)/\(ok=false-> ∀z n j,d.Fill z n j-> ¬d.ge z n j cy cm ck):=by
 have key: ∀z n j,d.Fill z n j->z<=y-> ¬d.ge z n j cy cm ck:=by
  intro z n j hf hz
  by_cases e:z=y
  . subst e;obtain⟨h1,h2,h3,h4⟩:=hf;obtain⟨a,ha,rfl⟩:=aQV h2;exact hm a ha ha j h3 h4
  exact h z n j hf (by omega)
 constructor
 . rintro rfl z n j hf hz;rcases hy with⟨_,_,_,hmin⟩|⟨h,_⟩
   . exact key z n j hf (by have:=hmin z hf.1;omega)
   cases h
 rintro rfl z n j hf;rcases hy with⟨h,_⟩|⟨_,hno⟩
 . cases h
 exact key z n j hf (by have:=hno z hf.1;omega)
theorem Dt.aEh{d:Dt}{v cy cm ck:Int}{ok:Bool}(hy:d.Year cy v ok):
 (ok=true->d.NoY v cy cm ck)/\(ok=false-> ∀z n j,d.Fill z n j-> ¬d.ge z n j cy cm ck):=by
 have low: ∀z n j,z<cy-> ¬d.ge z n j cy cm ck:=by rintro z n j h (g|⟨g,_⟩)<;>omega
 constructor
 . rintro rfl z n j hf hz;rcases hy with⟨_,_,_,hmin⟩|⟨h,_⟩
   . exact low z n j (by have:=hmin z hf.1;omega)
   cases h
 rintro rfl z n j hf;rcases hy with⟨h,_⟩|⟨_,hno⟩
 . cases h
 exact low z n j (by have:=hno z hf.1;omega)
theorem OQ{l:List Int}(hs:l.Pairwise (· < ·)){i j:Nat}(hi:i<l.length)(hj:j<l.length)(h:(l[j]'hj)<(l[i]'hi)):j<i:=by
 by_cases c:j<i
 . exact c
 exfalso
 by_cases e:i=j
 . subst e;omega
 have:=a1J.1 hs i j hi hj (by omega);omega
theorem Dt.found{d:Dt}{y cy cm ck:Int}{i j:Nat}(hY:d.In y)(hN:d.NoY y cy cm ck)(hM:d.NoM y cy cm ck i)(hi:i<d.ms.length)(hK:d.NoK y (d.ms[i]'hi) cy cm ck j)(hj:j<d.ds.length)
 (hl:(d.ds[j]'hj)<=d.len y (d.ms[i]'hi)) (hg:d.ge y (d.ms[i]'hi) (d.ds[j]'hj) cy cm ck):d.EN cy cm ck y (d.ms[i]'hi) (d.ds[j]'hj) true:=by
 refine .inl ⟨rfl,⟨hY,aVJ hi,aVJ hj,hl⟩,hg,?_⟩;intro z n k hf hge hlt;rcases hlt with h|⟨rfl,h|⟨rfl,h⟩⟩
 . exact hN z n k hf h hge
 . obtain⟨_,h2,h3,h4⟩:=hf;obtain⟨a,ha,rfl⟩:=aQV h2;exact hM a (OQ d.aEl hi ha h) ha k h3 h4 hge
 obtain⟨_,h2,h3,h4⟩:=hf;obtain⟨a,ha,rfl⟩:=aQV h3;exact hK a (OQ d.aEM hj ha h) ha h4 hge
theorem Dt.VA{d:Dt}{y m k cy cm ck:Int}{found:Bool}(hb: ∀u,d.In u->cy<u)(h:d.EN cy cm ck y m k found):found=true↔ ∃y m k,d.Fill y m k:=by
 constructor
 . rintro rfl;rcases h with⟨_,hf,_⟩|⟨h,_⟩
   . exact⟨_,_,_,hf⟩
   cases h
 rintro⟨z,n,j,hf⟩;rcases h with⟨h,_⟩|⟨_,_,_,_,hno⟩
 . exact h
 exact absurd (.inl (hb z hf.1)) (hno z n j hf)
open Classical in
noncomputable def Dt.err(d:Dt):Int:=if d.form≠0 then d.form else if d.da.size≠0/\ ¬ ∃y m k,d.Fill y m k then 8 else 0
theorem XP(a b c n:Int):kS a b c n=0\/kS a b c n=9:=by unfold kS;split;exact .inl rfl;exact .inr rfl
theorem Dt.mP{d:Dt}(h:d.form=0):d.nY=true/\(d.mo.size=0\/d.aG≠0\/fC d.mo 12=true)/\(d.da.size=0\/(d.mo.size≠0/\d.aG=0/\fC d.da 31=true))/\kS d.m0 d.m1 d.m2 (comps d.mo d.da)=0:=by
 unfold Dt.form at h
 split at h
 . omega
 rename_i h1
 split at h
 . omega
 rename_i h2
 split at h
 . omega
 rename_i h3
 refine⟨by simpa using h1,?_,?_,h⟩
 . by_cases c:d.mo.size=0
   . exact .inl c
   right
   by_cases c2:d.aG=0
   . right
     cases e3:fC d.mo 12
     . exact absurd (by rw[aEm c,aEy c2,e3];rfl) h2
     rfl
   exact .inl c2
 by_cases c:d.da.size=0
 . exact .inl c
 right
 have c1: ¬d.mo.size=0:=fun e1=>h3 (by rw[aEy e1,aEm c];rfl);have c2:d.aG=0:=by
  by_cases e2:d.aG=0
  . exact e2
  exact absurd (by rw[aEm c1,aEm c,aEm e2];rfl) h3
 refine⟨c1,c2,?_⟩
 cases e3:fC d.da 31
 . exact absurd (by rw[aEm c1,aEm c,aEy c2,e3];rfl) h3
 rfl
theorem Dt.aEI(d:Dt):d.form=0\/d.form=6\/d.form=7\/d.form=8\/d.form=9:=by
 unfold Dt.form;have:=XP d.m0 d.m1 d.m2 (comps d.mo d.da)
 (repeat' split)<;>omega
theorem Dt.kV{d:Dt}(h:d.nY=true):d.UR=true/\(0<d.sig->d.mo.size=0)/\d.far=false:=by
 unfold Dt.nY at h;rw[aEx,aEx]at h;obtain⟨h1,h2,h3⟩:=h;refine⟨h1,fun hs=>?_,by cases e:d.far;rfl;rw[e]at h3;cases h3⟩
 by_cases c:d.mo.size=0
 . exact c
 rw[aEy hs,aEm c]at h2;cases h2
theorem Dt.KQ{d:Dt}(h:d.UR=true){y:Int}(hy:d.In y): -10000000000000000<=y/\y<=10000000000000000:=by
 unfold Dt.In at hy
 by_cases c:d.mask=true
 . rw[aFw c]at hy
   split at hy
   . obtain⟨⟨h1,h2,_⟩,_⟩:=hy;omega
   obtain⟨h1,h2,_⟩:=hy;omega
 rw [aFv c]at hy;have h0:=lK d.dg d.ex;have h1:iH d.dg d.ex<=10000000000000000:=by
  unfold Dt.UR at h
  cases hl:d.long
  . rw[hl]at h;obtain⟨h1,h2,h3,_⟩:=jT h;have hd:=(oO h2).1 (by unfold Dt.mask at c;simpa using c);have:=pY hd h1;have hz:iH d.dg 0=bF d.dg:=by unfold iH p10;simp
    rw[h3,hz];omega
  rw[hl]at h;exact(kW h).2.2.2.2.2.2.1
 unfold Dt.mag at hy
 split at hy<;>omega
end Bk
end
section
namespace Bk
theorem O8{b o:Nat->Int}(hb:MOk b)(ho: ∀i,i<4->o i=if b i=88 then 48 else b i):qI b (dN o)/\ ∀f,qI b f->dN o<=f:=by
 have m0:=hb 0 (by omega);have m1:=hb 1 (by omega);have m2:=hb 2 (by omega);have m3:=hb 3 (by omega);have o0:=ho 0 (by omega);have o1:=ho 1 (by omega);have o2:=ho 2 (by omega);have o3:=ho 3 (by omega);simp only[oL];unfold dN;generalize b 0=b0 at *;generalize b 1=b1 at *;generalize b 2=b2 at *;generalize b 3=b3 at *;constructor
 . refine⟨o 0 - 48,o 1 - 48,o 2 - 48,o 3 - 48,?_⟩
   split at o0<;>split at o1<;>split at o2<;>split at o3<;>(refine⟨?_,?_,?_,?_,?_,?_,?_,?_,?_,?_,?_,?_,?_⟩<;>omega)
 rintro f ⟨d0,d1,d2,d3,a0,a1,a2,a3,a4,a5,a6,a7,rfl,e0,e1,e2,e3⟩
 split at o0<;>split at o1<;>split at o2<;>split at o3<;>omega
theorem BQ{b o:Nat->Int}(hb:MOk b)(ho: ∀i,i<4->o i=if b i=88 then 57 else b i):qI b (dN o)/\ ∀f,qI b f->f<=dN o:=by
 have m0:=hb 0 (by omega);have m1:=hb 1 (by omega);have m2:=hb 2 (by omega);have m3:=hb 3 (by omega);have o0:=ho 0 (by omega);have o1:=ho 1 (by omega);have o2:=ho 2 (by omega);have o3:=ho 3 (by omega);simp only[oL];unfold dN;generalize b 0=b0 at *;generalize b 1=b1 at *;generalize b 2=b2 at *;generalize b 3=b3 at *;constructor
 . refine⟨o 0 - 48,o 1 - 48,o 2 - 48,o 3 - 48,?_⟩
   split at o0<;>split at o1<;>split at o2<;>split at o3<;>(refine⟨?_,?_,?_,?_,?_,?_,?_,?_,?_,?_,?_,?_,?_⟩<;>omega)
 rintro f ⟨d0,d1,d2,d3,a0,a1,a2,a3,a4,a5,a6,a7,rfl,e0,e1,e2,e3⟩
 split at o0<;>split at o1<;>split at o2<;>split at o3<;>omega
def CZ(b:Nat->Int)(n v e:Int):Prop:=(e=0/\qI b v/\n<=v/\ ∀f,qI b f->n<=f->v<=f)\/(e=16/\v=0/\ ∀f,qI b f->f<n)
def CY(b:Nat->Int)(n v e:Int):Prop:=(e=0/\qI b v/\v<=n/\ ∀f,qI b f->f<=n->f<=v)\/(e=16/\v=0/\ ∀f,qI b f->n<f)
theorem aHn{b:Nat->Int}{n v e:Int}(h:CZ b n v e):0<=v/\v<=9999/\(e=0\/e=16):=by
 rcases h with⟨h1,⟨h2,h3,_⟩,_⟩|⟨h1,h2,_⟩<;>omega
theorem V8{b:Nat->Int}{n v e:Int}(h:CY b n v e):0<=v/\v<=9999/\(e=0\/e=16):=by
 rcases h with⟨h1,⟨h2,h3,_⟩,_⟩|⟨h1,h2,_⟩<;>omega
end Bk
end
section
open Go.RowKit Go.Lib
namespace Sk
open Bk (Dt eP)
open Ev (jK rH hp AV aBm iI l_b l_s KH aBn)
abbrev SS(w0:World):Prop:=jK rH.g.n rH.l w0 hp
abbrev Same(w0:World)(f:FuncId)(args:Array Value)(v:Value):Prop:=Ev.ZT Tryz.prog w0 f args v
theorem UK{w:World}{f:FuncId}{args:Array Value}{v u:Value}(g:Same w f args v)(e:v=u):Calls Tryz.prog f args w fun r w'=>r=.returned u/\Below w.heap.size w w':=(e ▸ g) w (aDl _ _)
theorem eqB{P:Program}{w:World}{f:FuncId}{args:Array Value}{v:Ending}(h:Calls P f args w fun r w'=>r=v/\w=w'):Calls P f args w fun r w'=>r=v/\Below w.heap.size w w':=h.mono fun _ _ h=>⟨h.1,h.2 ▸ aDl _ _⟩
abbrev rK(a b c d:AV):AV:=.agg [a,b,c,d]
abbrev qi:Nat->AV:=KH
abbrev qe:Nat->AV:=aBn
abbrev qb:Nat->AV:=l_b
abbrev qu:Nat->AV:=Ev.aBm
abbrev qs:Nat->AV:=l_s
abbrev qz:AV:=.v (.int .i64 0)
abbrev q8:AV:=.v (.int .i8 0)
abbrev qt:AV:=.v (.bool true)
abbrev qf:AV:=.v (.bool false)
abbrev dL(d:Dt):List Value:=[.bool d.neg,.bool d.long,.string d.dg,.int .i64 d.ex,.int .i64 d.sig,.string d.mo,.string d.da,.int .u8 d.m0,.int .u8 d.m1,.int .u8 d.m2]
abbrev lv(a b:List Value):Value:=.agg (a++b).toArray
abbrev IE(t:TypeId)(a b:Value)(z:Bool):Prop:=Ev.EqV Tryz.prog t a b z
def r4(a lo b hi:Int):Value:=.agg #[.int .i8 a,.int .i64 lo,.int .i8 b,.int .i64 hi]
abbrev jI(kd:Int)(d:Dt)(fk:Int)(f:Dt)(tk:Int)(t:Dt)(v:Value)(ey lt:Bool):List Value:=[.int .u8 kd,.bool d.neg,.bool d.long,.string d.dg,.int .i64 d.ex,.int .i64 d.sig,.string d.mo,.string d.da,.int .u8 d.m0,.int .u8 d.m1,.int .u8 d.m2,.int .u8 fk,.bool f.neg,.bool f.long,.string f.dg,.int .i64 f.ex,.int .i64 f.sig,.string f.mo,.string f.da,.int .u8 f.m0,.int .u8 f.m1,.int .u8 f.m2,.int .u8 tk,.bool t.neg,.bool t.long,.string t.dg,.int .i64 t.ex,.int .i64 t.sig,.string t.mo,.string t.da,.int .u8 t.m0,.int .u8 t.m1,.int .u8 t.m2,v,.bool ey,.bool lt]
abbrev exV(kd:Int)(d:Dt)(fk:Int)(f:Dt)(tk:Int)(t:Dt)(v:Value)(ey lt:Bool):Value:=.agg (jI kd d fk f tk t v ey lt).toArray
abbrev dV(d:Dt):Value:=.agg #[.bool d.neg,.bool d.long,.string d.dg,.int .i64 d.ex,.int .i64 d.sig,.string d.mo,.string d.da,.int .u8 d.m0,.int .u8 d.m1,.int .u8 d.m2]
abbrev bV(k:Int)(d:Dt):Value:=.agg #[.int .u8 k,.bool d.neg,.bool d.long,.string d.dg,.int .i64 d.ex,.int .i64 d.sig,.string d.mo,.string d.da,.int .u8 d.m0,.int .u8 d.m1,.int .u8 d.m2]
abbrev iV(d:Dt)(r:Bool)(y:Dt):Value:=.agg #[.bool d.neg,.bool d.long,.string d.dg,.int .i64 d.ex,.int .i64 d.sig,.string d.mo,.string d.da,.int .u8 d.m0,.int .u8 d.m1,.int .u8 d.m2,.bool r,.bool y.neg,.bool y.long,.string y.dg,.int .i64 y.ex,.int .i64 y.sig,.string y.mo,.string y.da,.int .u8 y.m0,.int .u8 y.m1,.int .u8 y.m2]
def z0:Dt:=⟨false,false,⟨#[]⟩,0,0,⟨#[]⟩,⟨#[]⟩,0,0,0⟩
end Sk
end
section
open Go.RowKit
namespace Ev
def fF(w:World)(p:Nat)(el:TypeId)(vs:List Value):Prop:= ∃c fr,w.heap[p]? =some (.cells c el fr)/\(∀i,i<c.size-> ¬(fr.1<=i/\i<fr.2))/\c.toList=vs
def aMn(w:World)(P:List Nat)(F:List (TypeId × List Value)):Prop:=P.length=F.length/\ ∀(j p:Nat) (e:TypeId × List Value),P[j]? =some p->F[j]? =some e->fF w p e.1 e.2
structure fK(w0:World)(N:Nat)(P:List Nat)(F:List (TypeId × List Value))(S:List (Nat × Value))(a:Act)(w:World):Prop where
 below:Below w0.heap.size w0 w
 new: ∀p ∈ P,w0.heap.size<=p
 nd:P.Nodup
 fr:aMn w P F
 size:a.tmps.size=N
 defs:a.defers=[]
 val: ∀e ∈ S,a.tmps[e.1]? =some e.2
abbrev AF:=List (TypeId × List AV)
noncomputable def aL5(L:Nat):AF->Tr HO->Tr HO
 |[],h=>h
 |e::t,h=>aL5 (L+1) t (setH h L (.row e.2 e.1))
noncomputable def aPT(a b:Ex):Bool:=Ex.rec (motive:=fun _=>Bool) (Ex.rec (motive:=fun _=>Bool) true (fun _=>false) false b) (fun i=>Ex.rec (motive:=fun _=>Bool) false (fun j=>Nat.beq i j) false b) (Ex.rec (motive:=fun _=>Bool) false (fun _=>false) true b) a
theorem aLs{a b:Ex}(h:aPT a b=true):a=b:=by
 cases a<;>cases b<;>first|rfl|(cases h;done)|skip
 rw[aEU (show Nat.beq _ _=true from h)]
def fH:List Nat->Code->Code
 |[],c=>c
 |0::t,.seq a _=>fH t a
 |_::t,.seq _ b=>fH t b
 |0::t,.cond _ a _=>fH t a
 |_::t,.cond _ _ b=>fH t b
 |_::t,.block _ c=>fH t c
 |_::t,.loop c=>fH t c
 |_::t,.scope c=>fH t c
 |_,c=>c
def qZ:Nat->Code->Code
 |n+1,.seq _ b=>qZ n b
 |_,c=>c
noncomputable def runs(f:Code->St->CR):Nat->Code->St->CR
 |0,_,st=>some (.normal,st)
 |n+1,.seq x y,st=>KI (runs f n y) (f x st)
 |_+1,_,_=>none
noncomputable def runN(f:Code->St->CR)(n:Nat)(c:Code)(st:St):CR:=Nat.rec (motive:=fun _=>CR) (f c st) (fun k _=>runs f (k+1) c st) n
def RG(P:Program)(Q:Exit->Act->World->Prop):Nat->Code->Exit->Act->World->Prop
 |0,_=>Q
 |n+1,c=>Exit.then ((qZ (n+1) c).wp P Q) Q
section
variable{tb:Tab}{w0:World}{call:dX}{cx:Cx}{N:Nat}
theorem aAs(hT:gX tb w0)(hc:jL tb w0 call)(hf:gG call)(hg:cx.g=tb.g)(hl:cx.l=tb.l){fuel:Nat}{Q:Exit->Act->World->Prop}:
 ∀(n:Nat) (c:Code) (st:St) (e:Ex) (st':St),runs (code tb call cx N none fuel) n c st=some (e,st')-> ∀(ρ:Env) (w:World) (a:Act),@aQ G0 w0 ρ cx st.s w->@iY G0 N ρ st.s.n a st.t->@iO G0 ρ st.s.n st.d a.defers->
  @Post G0 w0 cx N st st' ρ w (Exit.then ((qZ n c).wp tb.p Q) Q (LV e))->c.wp tb.p Q a w:=by
 intro n
 induction n with
 |zero=>
  intro c st e st' h ρ w a hs ht hd hq;have h:some (Ex.normal,st)=some (e,st'):=h;obtain⟨rfl,rfl⟩:Ex.normal=e/\st=st':=by simpa using h
  exact hq ρ w a (@Stp.refl G0 _ _ _ _ _ hs) ht hd
 | succ n ih=>
  intro c st e st' h ρ w a hs ht hd hq
  cases c with
  |seq x y=>
   refine aZs ?_;rcases mJ (show KI (runs (code tb call cx N none fuel) n y) (code tb call cx N none fuel x st)=some (e,st')from h)with⟨st1,h1,h2⟩|⟨h1,hne⟩
   . refine wpIn_wide.1 ((@iM G0 _ _ _ _ N hT hc hf hg hl none fuel).1 x _ _ _ h1 ρ w a _ none 0 trivial hs ht hd (fun ρ1 w1 a1 s1 t1 d1=>?_));exact ih y _ _ _ h2 ρ1 w1 a1 (@Stp.sat G0 _ _ _ _ _ _ _ _ s1) t1 d1 (fun ρ2 w2 a2 s2 t2 d2=>hq ρ2 w2 a2 (@Stp.trans G0 _ _ _ _ _ _ _ _ _ _ _ s1 s2) t2 d2)
   refine wpIn_wide.1 ((@iM G0 _ _ _ _ N hT hc hf hg hl none fuel).1 x _ _ _ h1 ρ w a _ none 0 trivial hs ht hd (fun ρ1 w1 a1 s1 t1 d1=>?_));have:=hq ρ1 w1 a1 s1 t1 d1
   cases e with
   |normal=>exact absurd rfl hne
   |exit i=>exact this
   |ret=>exact this
  |_=>cases h
theorem aAw(hT:gX tb w0)(hc:jL tb w0 call)(hf:gG call)(hg:cx.g=tb.g)(hl:cx.l=tb.l){fuel:Nat}{Q:Exit->Act->World->Prop}(n:Nat)(c:Code)(st:St)(e:Ex)(st':St)
 (h:runN (code tb call cx N none fuel) n c st=some (e,st')) (ρ:Env) (w:World) (a:Act) (hs:@aQ G0 w0 ρ cx st.s w) (ht:@iY G0 N ρ st.s.n a st.t) (hd:@iO G0 ρ st.s.n st.d a.defers)
 (hq:@Post G0 w0 cx N st st' ρ w (RG tb.p Q n c (LV e))):c.wp tb.p Q a w:=by
 cases n with
 |zero=>exact wpIn_wide.1 ((@iM G0 _ _ _ _ N hT hc hf hg hl none fuel).1 c _ _ _ h ρ w a _ none 0 trivial hs ht hd hq)
 |succ n=>exact aAs hT hc hf hg hl (n+1) c st e st' h ρ w a hs ht hd hq
end
end Ev
end
section
open Go.RowKit
namespace Ev
def Env.CX(ρ:Env)(n r o c:Nat):Env:=⟨fun b=>if b=n then r else ρ.blk b,fun b=>if b=n then o else ρ.off b,fun b=>if b=n then⟨c,0,.nilIface⟩else ρ.cp b⟩
theorem ZQ(ρ:Env)(n r o c:Nat):Ext n ρ (ρ.CX n r o c):=fun b hb=>by
 have:b≠n:=by omega
 simp[Env.CX,this]
theorem aGi{w0 w:World}{ρ:Env}{G:GV}{l:Nat}{h:Tr HO}(hs:@aQ G0 w0 ρ ⟨G,l,l,[]⟩ ⟨h,l⟩ w){g o c:Nat}{cells:List AV}(hg:g<w0.heap.size)
 (hc: ∀i x,cells[i]? =some x->w.cell? ⟨g,o+i,none⟩=some (den (ρ.CX l g o c) x)) (hb: ∃x,w.heap[g]? =some x) (hsc:@iE G0 (l+1) cells):
 @aQ G0 w0 (ρ.CX l g o c) ⟨G,l+1,l+1,[]⟩ ⟨h.set l (.ro cells),l+1⟩ w:=by
 letI:Gh:=G0
 obtain⟨gl,KX,good,gn,ln,xW,pW,below,lt,obj,new,old,inj⟩:=hs;have lk: ∀(s:Hs) b,s.look [] b=s.h.get b:=fun s b=>rfl;simp only[lk]at lt obj new old inj;have look: ∀b x,(h.set l (.ro cells)).get b=some x->(b=l/\x=.ro cells)\/(b≠l/\h.get b=some x):=by
  intro b x hb
  by_cases e:b=l
  . subst e;rw[Tr.oN]at hb;exact .inl ⟨rfl,(aOa hb).symm⟩
  rw[Tr.eF _ _ (aQK e)]at hb;exact .inr ⟨e,hb⟩
 have ext:Ext l ρ (ρ.CX l g o c):=ZQ _ _ _ _ _;have aEB: ∀b x,h.get b=some x->b<l:=fun b x q=>lt b x q;have jZ: ∀b x,h.get b=some x->(ρ.CX l g o c).blk b=ρ.blk b:=fun b x hb=>(ext b (aEB b x hb)).1;have e1:(ρ.CX l g o c).blk l=g:=by simp[Env.CX]
 have e2:(ρ.CX l g o c).off l=o:=by simp[Env.CX]
 refine⟨fun g' hg'=>?_,KX,fun b hb=>(fun q=>q),a0f gn,aDT _,aDT _,fun b hb=>rfl,below,fun b x hb=>?_,fun b x hb=>?_,fun b x hb hl=>?_,fun b x hb hl=>?_,fun b b' x x' hb hb' hl hl' e=>?_⟩
 . have:=ext g' (aFz hg' gn);rw[this.1,this.2.1,this.2.2];exact gl g' hg'
 . rw[lk]at hb;show b<l+1;rcases look b x hb with⟨e,_⟩|⟨_,hb⟩
   . omega
   have:=aEB b x hb;omega
 . rw[lk]at hb;rcases look b x hb with⟨e,e'⟩|⟨hne,hb⟩
   . subst e;subst e'
     rename_i hbx
     exact⟨by rw[e1];exact hbx,fun i x hx=>by rw[e1,e2];exact hc i x hx,hsc⟩
   exact(obj b x hb).keep ext (aEB b x hb) (aQH _) rfl
 . rw[lk]at hb;have hl:l+1<=b:=hl;rcases look b x hb with⟨e,_⟩|⟨_,hb⟩
   . omega
   have:=aEB b x hb;omega
 . rw[lk]at hb;rcases look b x hb with⟨e,_⟩|⟨_,hb⟩
   . subst e;rw[e1];exact hg
   rw[jZ b x hb];exact old b x hb (aEB b x hb)
 rw[lk]at hb;have hl:l+1<=b:=hl;rcases look b x hb with⟨e,_⟩|⟨_,hb⟩
 . omega
 have:=aEB b x hb;omega
inductive AA where
 |s (v:AV)
 |o (n:Nat)
def AA.av(L:Nat):AA->AV
 | .s v=>v
 | .o n=>.uV L 0 n 0
noncomputable def AA.ok(g:Nat):AA->Bool
 | .s v=>iC g v
 | .o _=>true
def AA.den(lt:Value)(gb o c:Nat):AA->Value
 | .s v=>dS lt v
 | .o n=>.slice (some ⟨gb,o,none⟩) n c
noncomputable def Tab.up(B:Tab):Tab:=⟨B.p,B.g,B.l+1,B.ty,B.fn,B.Z4,B.idn,B.mnz,B.met,B.wL,B.oop⟩
theorem aRx{B:Tab}{w0:World}(h:gX B w0):gX B.up w0:=⟨h.ty,h.fn,h.Z4,⟨h.wL.wL,h.wL.oop⟩,h.mixed,h.idn,h.mnz,h.met⟩
theorem aKa {g:Nat} {row:List AV} (h:kC g row=true): ∀(i:Nat) (y:AV),row[i]? =some y->iC g y=true:=by
 induction row with
 |nil=>intro i y hy;simp at hy
 |cons x row ih=>
  obtain⟨h1,h2⟩:=aI (show band (iC g x) (kC g row)=true from h);intro i y hy
  cases i with
  | zero => obtain rfl:x=y:=by simpa using hy
            exact h1
  |succ i=>exact ih h2 i y (by simpa using hy)
theorem aVf{L g:Nat}(hgd:@Gd G0 (L+1) g): ∀a4Q:List AA,a4Q.all (AA.ok g)=true->@iE G0 (L+1) (a4Q.map (AA.av L)):=by
 intro a4Q
 induction a4Q with
 |nil=>intro _;trivial
 |cons a a4Q ih=>
  intro has;rw[aQN,aEx]at has;refine⟨?_,ih has.2⟩
  cases a with
  |s u=>exact @QM G0 _ _ hgd u has.1
  |o n=>exact⟨aJq _,fun q=>q⟩
noncomputable def aOE(B:Tab)(ps:List IC)(os:List xM)(g:Nat)(f:FuncId)(a4Q:List AA)(cells:List AV):Bool:=band (Nat.ble (g+1) B.g.n) (band (ps.all (WG g)) (band (os.all (FT B g)) (band (a4Q.all (AA.ok g)) (band (kC g cells) (kH (Nat.ble yF f))))))
end Ev
end
section
open Go.RowKit Go.Lib
namespace Sk
open Un (ba bt)
open Ev (fF aMn fK)
section
variable{w w':World}{p q:Nat}{el:TypeId}{vs us:List Value}
theorem aY(h:fF w p el vs){j:Nat}{v:Value}(hv:vs[j]? =some v):w.cell? ⟨p,j,none⟩=some v:=by
 obtain⟨c,fr,h1,_,rfl⟩:=h;have:c[j]? =some v:=by rw[<-aEP];exact hv
 simp[World.cell?,h1,this]
theorem aH3(h:fF w p el vs){j:Nat}(hj:j<vs.length):w.frozen? ⟨p,j,none⟩=false:=by
 obtain⟨c,fr,h1,h2,rfl⟩:=h;have:=h2 j (by simpa using hj);obtain⟨lo,hi⟩:=fr;simp[World.frozen?,h1];simp at this;omega
theorem aW(h:fF w p el vs):w.rangeAt p 0 vs:=fun j v hv=>by rw[aHv];exact aY h hv
theorem bD(h:fF w p el vs):w.there p 0 vs.length:=fun j hj=>by
 rw[aHv];exact⟨by rw[aY h (aEH hj)];rfl,aH3 h hj⟩
theorem dH(h:fF w p el vs):p<w.heap.size:=by
 obtain⟨c,fr,h1,_⟩:=h
 by_cases hl:p<w.heap.size
 . exact hl
 rw[aLF (by omega)]at h1;cases h1
theorem PI(h:fF w p el vs)(hb:Below w.heap.size w w'):fF w' p el vs:=by
 have hp:=dH h;obtain⟨c,fr,h1,h2,h3⟩:=h;exact⟨c,fr,(hb.block p hp).trans h1,h2,h3⟩
theorem nH:fF (w.alloc (.cells vs.toArray el)) w.heap.size el vs:=⟨vs.toArray,(0,0),aUf w _,fun i _=>by simp,rfl⟩
theorem qQ(h:fF w p el vs)(k:Nat)(v:Value):fF (w.setCell ⟨p,k,none⟩ v) p el (vs.set k v):=by
 obtain⟨c,fr,h1,h2,rfl⟩:=h;refine⟨c.setIfInBounds k v,fr,?_,fun i hi=>h2 i (by simpa using hi),by simp⟩;simp[World.setCell,aMr,h1]
theorem aEE(h:fF w p el vs)(hne:q≠p)(k:Nat)(v:Value):fF (w.setCell ⟨q,k,none⟩ v) p el vs:=by
 obtain⟨c,fr,h1,h2,h3⟩:=h;refine⟨c,fr,?_,h2,h3⟩;simp[World.setCell,aMr,hne,h1]
theorem KZ(hne:q≠p): ∀(us:List Value) (k:Nat) {w:World},fF w p el vs->fF (w.setCells q k us) p el vs
 |[],_,_,h=>h
 |u::us,k,_,h=>KZ hne us (k+1) (aEE h hne k u)
theorem nT: ∀(us:List Value) (k:Nat) {w:World} {vs:List Value},fF w p el vs->k+us.length=vs.length->fF (w.setCells p k us) p el (vs.take k++us)
 |[],k,w,vs,h,e=>by
  have:vs.take k++[]=vs:=by rw[aUz,aVR (by simp at e;omega)]
  rw[this];exact h
 | u ::us,k,w,vs,h,e=>by
  have:=nT us (k+1) (qQ h k u) (by simp at e ⊢;omega);have e2:(vs.set k u).take (k+1)++us=vs.take k++(u::us):=by
   have hk:k<vs.length:=by simp at e;omega
   apply aUy;intro j;rcases a1p j k with h1|h1|h1
   . rw[aFT (by simp;omega),aFT (by simp;omega),aQD (by omega),aQD h1,aXC (by omega)]
   . subst h1;rw[aFT (by simp;omega),aGq (by simp;omega),aQD (by omega),aWg hk];simp[Nat.min_eq_left (aTT hk)]
   rw[aGq (by simp;omega),aGq (by simp;omega)];obtain⟨d,rfl⟩: ∃d,j=k+1+d:=⟨j - (k+1),by omega⟩;have e3:k+1+d - (List.take (k+1) (vs.set k u)).length=d:=by simp;omega
   have e4:k+1+d - (List.take k vs).length=d+1:=by simp;omega
   rw[e3,e4];rfl
  rw[e2]at this;exact this
theorem eH(h:fF w p el vs)(hl:us.length=vs.length):fF (w.setCells p 0 us) p el us:=by
 have:=nT us 0 h (by omega);simpa using this
theorem jU: ∀(us:List Value) (k:Nat) (w:World),(w.setCells p k us).heap.size=w.heap.size
 |[],_,_=>rfl
 |u::us,k,w=>(jU us (k+1) _).trans (by simp[World.setCell])
end
theorem iL{B b:Nat}{a:World}(hb:B<=b): ∀(us:List Value) (k:Nat) {w:World},Below B a w->Below B a (w.setCells b k us)
 |[],_,_,h=>h
 |u::us,k,_,h=>iL hb us (k+1) (h.setCell (p:=⟨b,k,none⟩) hb u)
theorem AP{w0 w:World}{N:Nat}{P:List Nat}{F:List (TypeId × List Value)}{S:List (Nat × Value)}{a:Act}(hw:fK w0 N P F S a w){j:Nat}{e:TypeId × List Value}(he:F[j]? =some e):fF w (P.getD j 0) e.1 e.2/\w0.heap.size<=P.getD j 0/\P[j]? =some (P.getD j 0):=by
 have hj:j<P.length:=by rw[hw.fr.1];exact(aEX.1 he).1
 have hp:P[j]? =some (P.getD j 0):=by simp[List.getD,aEH hj]
 exact⟨hw.fr.2 j _ e hp he,hw.new _ (aLE hp),hp⟩
theorem aKb{w0 w:World}{N:Nat}{P:List Nat}{F:List (TypeId × List Value)}{S:List (Nat × Value)}{a:Act}(hw:fK w0 N P F S a w){i j:Nat}(hi:i<F.length)(hj:j<F.length)(hne:i≠j):P.getD i 0≠P.getD j 0:=by
 have hi':i<P.length:=by rw[hw.fr.1];exact hi
 have hj':j<P.length:=by rw[hw.fr.1];exact hj
 intro h;apply hne;have:=hw.nd;rw[List.nodup_iff_pairwise_ne]at this;exact(a0P hw.nd).1 (by simpa[List.getD,aEH hi',aEH hj']using h)
section
variable{P:Program}
theorem vU{o:Oper}{a:Act}{w:World}{e:TypeId}{z:Array Value}(ho:o.op=.alloc e)(hz:(zeroValue e).run P w=.ok (.agg z) w):(execOp a.eval o).run P w=.ok (.value (.pointer (some ⟨w.heap.size,0,none⟩))) (w.alloc (.cells z e)):=by
 unfold execOp;simp[ho,Instr.alloc,hz,newVar,Go.newRow,Value.cells]
theorem EZ{o:Oper}{a:Act}{w:World}{e:TypeId}{x:Operand}{i b off:Nat}{fields:Array Field}{fl:Field}(ho:o.op=.fieldAddr e x i)(hx:a.eval x=.pointer (some ⟨b,off,none⟩))(hu:P.underlying e=some (.struct fields))(hf:fields[i]? =some fl)
 (hz:P.cellsOf fl.type≠0) (hi:(P.underlying fl.type).isSome=true):(execOp a.eval o).run P w=.ok (.value (.pointer (some ⟨b,off+fl.offset,none⟩))) w:=by
 have hsz:=@Ev.vP Ev.G0 P fl.type _ rfl (@Ev.qP Ev.G0 P fl.type hi) w;unfold execOp;simp only[ho,Instr.fieldAt,aCA,aFF hu w,aAB,hf,hx,Instr.sureAddr,aEz,fieldPlace,hsz,aFv hz,aV9]
theorem JA{o:Oper}{a:Act}{w:World}{f:FuncId}{fn:Func}{c:Code}{args:Array Operand}{ats:Array TypeId}(hop:o.op=.call ⟨.value (.func f),args,ats⟩)(hf:P.funcs[f]? =some fn)(hname:(fn.name== "runtime.NumGoroutine")=false)(hb:fn.body=some c):
 (execOp a.eval o).run P w=.ok (.enter f (args.map a.eval)) w:=by
 have h1:fn.name≠ "runtime.NumGoroutine" :=by simpa using hname
 have ef:a.eval (.func f)=.func (.func f) #[] #[]:=rfl;unfold execOp;simp[hop,resolve,Deferred.ofValue,invoke,ef,callFunc,hf,h1,hb]
abbrev key(o:Oper):Option (Tmp × Bool) × Option Tmp × Op:=(o.guard,o.dst,o.op)
theorem pO{α β:Type}{f:α->β}: ∀ {l:List α} {x:β} {t:List β},l.map f=x::t-> ∃a l',l=a::l'/\f a=x/\l'.map f=t
 |[],_,_,h=>by simp at h
 |a::l,x,t,h=>⟨a,l,rfl,(a1U h).1,(a1U h).2⟩
theorem aK3{α β:Type}{f:α->β}{l:List α}(h:l.map f=[]):l=[]:=by simpa using h
def oD:Code->List Oper
 | .region _ ops _=>ops.toList
 |_=>[]
def lH:Code->Bool
 | .region _ _ b=>b
 |_=>true
theorem aCo{c:Code}{Q:Exit->Act->World->Prop}{a:Act}{w:World}(hd:lH c=false)(h: ∀ops,wpList P ops Q (oD c) a w):c.wp P Q a w:=by
 cases c with
 |region id ops b=>
  obtain rfl:b=false:=hd;exact wp_region_list (h ops)
 |_=>cases hd
theorem YN{a:Act}{j:Nat}{u:Value}(h:a.tmps[j]? =some u):a.eval (.tmp j)=u:=by
 simp[Act.eval,h]
end
section
variable{w0 w:World}{N:Nat}{P:List Nat}{F:List (TypeId × List Value)}{S:List (Nat × Value)}{a:Act}
theorem kX{S':List (Nat × Value)}(hw:fK w0 N P F S a w)(h: ∀e ∈ S',e ∈ S):fK w0 N P F S' a w:=⟨hw.below,hw.new,hw.nd,hw.fr,hw.size,hw.defs,fun e he=>hw.val e (h e he)⟩
theorem fV(hw:fK w0 N P F S a w){k:Nat}{v:Value}(h:(k,v) ∈ S):a.eval (.tmp k)=v:=YN (hw.val _ h)
theorem kY(hw:fK w0 N P F S a w){d:Nat}{v:Value}(hd:d<N):fK w0 N P F ((d,v)::S.filter (fun e=>e.1 !=d)) (a.put (some d) v) w:=by
 refine⟨hw.below,hw.new,hw.nd,hw.fr,by simp[Act.put,hw.size],hw.defs,fun e he=>?_⟩;rcases aGv.1 he with rfl|he
 . simp[Act.put,hw.size,hd]
 obtain⟨h1,h2⟩:=aWc.1 he;have hne:d≠e.1:=fun c=>by rw[c]at h2;simp at h2
 have:=hw.val e h1;simp only[Act.put];rw[aJp hne];exact this
theorem yZ(hw:fK w0 N P F S a w){d:Nat}(hd:d<N)(el:TypeId)(z:List Value):
 fK w0 N (P++[w.heap.size]) (F++[(el,z)]) ((d,.pointer (some ⟨w.heap.size,0,none⟩))::S.filter (fun e=>e.1 !=d)) (a.put (some d) (.pointer (some ⟨w.heap.size,0,none⟩))) (w.alloc (.cells z.toArray el)):=by
 have h:=kY hw (v:=.pointer (some ⟨w.heap.size,0,none⟩)) hd;have l0:=hw.below.size;have lt: ∀p ∈ P,p<w.heap.size:=fun p hp=>by
  obtain⟨j,hj⟩:=aUh hp;have hjl:j<F.length:=by rw[<-hw.fr.1];exact(aEX.1 hj).1
  exact dH (hw.fr.2 j p F[j] hj (aEH hjl))
 refine⟨hw.below.alloc hw.below.size _,fun p hp=>?_,?_,⟨by simp[hw.fr.1],fun j p e hp he=>?_⟩,h.size,h.defs,h.val⟩
 . rcases aJh.1 hp with hp|hp
   . exact hw.new p hp
   obtain rfl:=aJo.1 hp;omega
 . refine List.nodup_append.2 ⟨hw.nd,by simp,fun x hx y hy=>?_⟩;obtain rfl:=aJo.1 hy;have:=lt x hx;omega
 by_cases hj:j<P.length
 . rw[aFT hj]at hp;rw[aFT (by rw[<-hw.fr.1];exact hj)]at he;exact PI (hw.fr.2 j p e hp he) ((aDl _ _).alloc (aDT _) _)
 rw[aGq (by omega)]at hp;rw[aGq (by rw[<-hw.fr.1];omega),<-hw.fr.1]at he;obtain⟨h0,rfl⟩:j - P.length=0/\w.heap.size=p:=by
  cases hk:j - P.length with
  |zero=>rw[hk]at hp;exact⟨rfl,by simpa using hp⟩
  |succ k=>rw[hk]at hp;simp at hp
 rw[h0]at he;obtain rfl:(el,z)=e:=by simpa using he
 exact nH
theorem yY(hw:fK w0 N P F S a w){j:Nat}{el:TypeId}{vs us:List Value}(hf:F[j]? =some (el,vs))(hl:us.length=vs.length):fK w0 N P (F.set j (el,us)) S a (w.setCells (P.getD j 0) 0 us):=by
 obtain⟨b,n,hp⟩:=AP hw hf;refine⟨iL n _ _ hw.below,hw.new,hw.nd,⟨by rw[List.length_set];exact hw.fr.1,fun i p e hi he=>?_⟩,hw.size,hw.defs,hw.val⟩;have hil:i<P.length:=(aEX.1 hi).1;have hjl:j<P.length:=(aEX.1 hp).1;have pi:p=P.getD i 0:=by simp[List.getD,hi]
 by_cases c:j=i
 . subst c;rw[aWg (by rw[<-hw.fr.1];exact hjl)]at he
   cases he
   rw[pi];exact eH b hl
 rw[aXC c]at he;rw[pi]at hi ⊢;exact KZ (aKb hw (by rw[<-hw.fr.1];exact hjl) (by rw[<-hw.fr.1];exact hil) c) us 0 (hw.fr.2 i _ e hi he)
end
section
variable{P:Program}
theorem tJ{o:Oper}{a:Act}{w:World}{x:Operand}(ho:o.op=.move x\/o.op=.assign x){v:Value}(hx:a.eval x=v):(execOp a.eval o).run P w=.ok (.value v) w:=by
 subst hx;unfold execOp;rcases ho with ho|ho<;>simp[ho]
theorem vS{o:Oper}{a:Act}{w:World}{t el:TypeId}{x y:Operand}{g off n cp sz:Nat}{i:Nat}(ho:o.op=.indexAddr t x y)(hx:a.eval x=.slice (some ⟨g,off,none⟩) n cp)(hy:a.eval y=.int .i64 i)(hi:i<n)
 (hu:P.underlying t=some (.slice el)) (hz:(P.info? el).map (·.size)=some sz):(execOp a.eval o).run P w=.ok (.value (.pointer (some ⟨g,off+i * sz,none⟩))) w:=by
 have h1:(0:Int)<=(i:Int)/\(i:Int)<(n:Int):=⟨by omega,by omega⟩
 cases hq:P.info? el with
 |none=>simp[hq]at hz
 |some q=>
  have hs:q.size=sz:=by simpa[hq]using hz
  unfold execOp;simp[ho,hx,hy,Instr.indexAt,aFF hu,asIntOf,sizeOf,typeInfo,hq,hs,h1,aV9];intro c;omega
end
section
variable{P:Program}
theorem JC{o:Oper}{a:Act}{w:World}{e:TypeId}{z:Value}(ho:o.op=.alloc e)(hz:(zeroValue e).run P w=.ok z w)(hc:z.cells= #[z]):(execOp a.eval o).run P w=.ok (.value (.pointer (some ⟨w.heap.size,0,none⟩))) (w.alloc (.cells #[z] e)):=by
 unfold execOp;simp[ho,Instr.alloc,hz,newVar,Go.newRow,hc]
theorem run_storeVar_one(w:World)(b o:Nat)(ty:TypeId)(v:Value)(hc:v.cells= #[v])(ht:w.there b o 1)(hi:(P.info? ty).map (·.size)=some 1)(h1:v.oneCell'=true):
 (storeVar ty ⟨b,o,none⟩ v).run P w=.ok () (w.setCells b o [v]):=by
 have:=run_storeCells_cells (P:=P) b o [v] 0 w (fun j hj=>by simpa using (ht j (by simpa using hj)).1) (fun j hj=>by simpa using (ht j (by simpa using hj)).2)
  (fun u hu=>by rw[aJo.1 hu];exact h1)
 cases hq:P.info? ty with
 |none=>simp[hq]at hi
 |some i=>
  have hs:i.size=1:=by simpa[hq]using hi
  simp only[aNa]at this;simp[storeVar,sizeOf,typeInfo,hq,hc,hs,this]
theorem NJ{ops:Array Oper}{rest:List Oper}{op:Oper}{a:Act}{w:World}{Q:Exit->Act->World->Prop}(hgd:op.guard=none)(ty:TypeId)(x y:Operand)(ho:op.op=.store ty x y)
 (b o:Nat) (v:Value) (hx:a.eval x=.pointer (some ⟨b,o,none⟩)) (hy:a.eval y=v) (hc:v.cells= #[v]) (ht:w.there b o 1) (hi:(P.info? ty).map (·.size)=some 1) (h1:v.oneCell'=true)
 (h:wpList P ops Q rest (a.put op.dst undef) (w.setCells b o [v])):wpList P ops Q (op::rest) a w:=
 wpList_plain hgd fun _ hK=>by
  unfold Oper.wp execOp;simp only[ho,hx,hy,Instr.storeAt,Instr.sureAddr,aCA,aEz,aAB,run_storeVar_one w b o ty v hc ht hi h1];exact hK _ _ h
theorem IY{f:FuncId}{fn:Func}{c:Code}{args:List Value}{w0 w:World}{N:Nat}{R:Ending->World->Prop}(hf:P.funcs[f]? =some fn)(hb:fn.body=some c)(hN:fn.ntmps=N)(hl:args.length<=N)(hw:Below w0.heap.size w0 w)
 (h: ∀a0,fK w0 N [] [] (args.zipIdx.map fun e=>(e.2,e.1)) a0 w->c.wp P (bodyPost P fn R) a0 w):Calls P f args.toArray w R:=by
 refine calls_of_wp hf hb (h _ ⟨hw,fun p q=>(aMt q).elim,List.nodup_nil,⟨rfl,fun j p e q=>by simp at q⟩,by simp;omega,rfl,fun e he=>?_⟩);obtain⟨⟨v,i⟩,hi,rfl⟩:=aMm.1 he;have:=aXD.1 hi;have hlt:i<args.length:=(aEX.1 this).1;simp only[a01,a1q,hlt,aVY,aWw];exact this
theorem U8{w0 w:World}{N:Nat}{Bs:List Nat}{F:List (TypeId × List Value)}{S:List (Nat × Value)}{a:Act}(hw:fK w0 N Bs F S a w){i:Nat}{v:Value}(h:(i,v) ∈ S):a.tmps.getD i undef=v:=by
 have:=hw.val _ h;simp[aVV,this]
theorem rM{w0 w:World}{N:Nat}{Bs:List Nat}{F:List (TypeId × List Value)}{S:List (Nat × Value)}{a:Act}{fn:Func}{R:Ending->World->Prop}{i j:Tmp}{v u:Value}(hw:fK w0 N Bs F S a w)(hr:fn.results= #[.tmp i,.tmp j])(hi:(i,v) ∈ S)(hj:(j,u) ∈ S)(hR:R (.returned (.tuple #[v,u])) w):bodyPost P fn R .ret a w:=by
 have h:=a18 hr a.tmps P w;rw[U8 hw hi,U8 hw hj]at h;exact⟨hw.defs,_,h,hR⟩
theorem ET{w0 w:World}{N:Nat}{P1 P2:List Nat}{F1 F2:List (TypeId × List Value)}{S:List (Nat × Value)}{a:Act}(hw:fK w0 N (P1++P2) (F1++F2) S a w)(hl:P1.length=F1.length):fK w0 N P1 F1 S a w:=
 ⟨hw.below,fun p hp=>hw.new p (aOz _ hp),(List.nodup_append.1 hw.nd).1,⟨hl,fun j p e hp he=>hw.fr.2 j p e (by rw[aFT (aEX.1 hp).1];exact hp) (by rw[aFT (aEX.1 he).1];exact he)⟩,hw.size,hw.defs,hw.val⟩
end
theorem aDC{P:Program}{o:Oper}{a:Act}{w:World}{t el:TypeId}{x:Operand}{b off:Nat}{v:Value}(ho:o.op=.load t x)(hx:a.eval x=.pointer (some ⟨b,off,none⟩))(hu:P.underlying t=some (.slice el))(hc:w.cell? ⟨b,off,none⟩=some v):
 (execOp a.eval o).run P w=.ok (.value v) w:=by
 unfold execOp;simp[ho,hx,Instr.loadAt,Instr.sureAddr,loadVar,isAgg,aFF hu,run_load,hc]
end Sk
end
section
namespace Rf
def FR(r:Option Nat):Fence:={ Fence.wide with round:=r }
theorem aH6{r:Option Nat}{p:Prop}(h:(FR r).depth.isSome=true):p:=absurd (show false=true from h) (by decide)
def Os(W W':World):Prop:=W'.os=W.os/\W'.tape=W.tape/\W'.output=W.output
theorem Os.refl(W:World):Os W W:=⟨rfl,rfl,rfl⟩
theorem Os.trans{W W1 W2:World}(h:Os W W1)(k:Os W1 W2):Os W W2:=⟨k.1.trans h.1,k.2.1.trans h.2.1,k.2.2.trans h.2.2⟩
def Rest(B:Nat->Prop)(W W':World):Prop:=W.heap.size<=W'.heap.size/\(∀b,b<W.heap.size-> ¬B b->W'.heap[b]? =W.heap[b]?)/\Os W W'
def Grow(B:Nat->Prop)(W:World)(B':Nat->Prop):Prop:= ∀b,B' b->B b\/W.heap.size<=b
structure Inv(I:Nat->(Nat->Prop)->World->Prop):Prop where
 lt: ∀k B W,I k B W-> ∀b,B b->b<W.heap.size
 keep: ∀k B W W',I k B W->W.heap.size<=W'.heap.size->(∀b,B b->W'.heap[b]? =W.heap[b]?)->I k B W'
def Go1(I:Nat->(Nat->Prop)->World->Prop)(k:Nat)(B:Nat->Prop)(W W':World):Prop:= ∃B',I k B' W'/\Rest B W W'/\Grow B W B'
theorem Rest.refl(B:Nat->Prop)(W:World):Rest B W W:=⟨aDT _,fun _ _ _=>rfl,Os.refl _⟩
theorem Rest.trans{B B':Nat->Prop}{W W1 W2:World}(h:Rest B W W1)(g:Grow B W B')(k:Rest B' W1 W2):Rest B W W2:=
 ⟨aJi h.1 k.1,fun b h1 h2=>(k.2.1 b (aFz h1 h.1) (fun h3=>(g b h3).elim h2 (fun h4=>by omega))).trans (h.2.1 b h1 h2),h.2.2.trans k.2.2⟩
theorem Grow.trans{B B' B2:Nat->Prop}{W W1:World}(h:Grow B W B')(hs:W.heap.size<=W1.heap.size)(k:Grow B' W1 B2):Grow B W B2:=
 fun b hb=>(k b hb).elim (h b) (fun h=>.inr (aJi hs h))
theorem Go1.trans{I:Nat->(Nat->Prop)->World->Prop}{k:Nat}{B B':Nat->Prop}{W W1 W2:World}(h:Rest B W W1)(g:Grow B W B')(hk:Go1 I k B' W1 W2):Go1 I k B W W2:=
 let⟨B2,h1,h2,h3⟩:=hk;⟨B2,h1,h.trans g h2,g.trans h.1 h3⟩
def Yd(P:Program)(l:Nat)(enc:Nat->World->Array Value)(J:Nat->(Nat->Prop)->World->Prop)(N:Nat):Prop:=
 ∀k B W,k<N->J k B W->YieldAt (FR none) 0 P l (enc k W) W fun e W'=>e=.returned (.bool true)/\Go1 J (k+1) B W W'
def It(P:Program)(gf:Nat)(lb:Array Value)(enc:Nat->World->Array Value)(N:Nat)(Rd:World->Prop)(B0:Nat->Prop)(w:World):Prop:=
 ∀l J,Inv J->(∀k B W,J k B W->Rd W)->Yd P l enc J N-> ∀B W,J 0 B W->Rest (fun _=>False) w W->(∀b,B b->B0 b\/w.heap.size<=b)->
  CallsIn (FR none) 0 P gf (#[.func (.yield l) #[] #[]]++lb) W fun e W'=>(∃v,e=.returned v)/\Go1 J N B W W'
theorem rQ{W:World}{l b:Nat}{o:Obj}(h:b≠l):(W.putObj l o).heap[b]? =W.heap[b]? :=aVG h
theorem JJ{P:Program}{g:Operand}{ps:Array Tmp}{assign body:Code}{Q:Exit->Act->World->Prop}{a:Act}{w:World}{gf:Nat}{lb:Array Value}{enc:Nat->World->Array Value}{N:Nat}
 {I:Nat->(Nat->Prop)->World->Prop} {Ax:Nat->Act->(Nat->Prop)->World->Prop} {Rd:World->Prop} {B0:Nat->Prop} (hI:Inv I) (hAx: ∀a',Inv fun k=>Ax k a')
 (hg:a.eval g=.func (.func gf) #[] lb) (eg: ∀args w,(callFunc gf args).run P w=.ok (.enter gf args) w) (hps: ∀k W,(enc k W).size=ps.size) (h0:I 0 B0 w) (hR: ∀k B W,I k B W->Rd W)
 (hit:It P gf lb enc N Rd B0 w)
 (hassign: ∀l k B W,k<N->I k B W->assign.wpIn (FR (some l)) 0 P (Exit.then (fun a' W'=> ∃B',Ax k a' B' W'/\Rest B W W'/\Grow B W B') (fun _ _ _=>False)) { tmps:=(ps.zip (enc k W)).foldl (fun t (p,v)=>t.setIfInBounds p v) a.tmps,defers:=[] } W)
 (hbody: ∀l k a' B W,k<N->Ax k a' B W->body.wpIn (FR (some l)) 0 P (fun e _ W'=>e=.normal/\Go1 I (k+1) B W W') a' W)
 (hdone: ∀D B' W',I N B' W'->Rest B0 w W'->Grow B0 w B'->w.heap.size<=D-> ¬B' D->W'.heap[D]? =some (.deferred (some []))->Q .normal { a with defers:={ target:=.collected D,args:= #[] }::a.defers } W'):
 (Code.rangeFunc g ps assign body).wpIn (FR none) 0 P Q a w:=by
 refine wpIn_rangeFunc (fun fn _=>?_);obtain⟨rec,hrec⟩: ∃rec:LoopState->Loop,rec=fun st=>{ state:=st,pending:=none,fn,tmps:=a.tmps,params:=ps,assign,body,defers:=w.heap.size }:=⟨_,rfl⟩;obtain⟨L,hL⟩: ∃L,L=w.heap.size+1:=⟨_,rfl⟩;obtain⟨W1,hW1⟩: ∃W1,W1=(w.alloc (.deferred (some []))).alloc (.loop (rec .ready)):=⟨_,rfl⟩;have hs1:W1.heap.size=w.heap.size+2:=by rw[hW1];simp
 have l1:W1.heap[L]? =some (.loop (rec .ready)):=by
  rw[hW1,hL];have:=aUf (w.alloc (.deferred (some []))) (.loop (rec .ready));rwa[a1x]at this
 have d1:W1.heap[w.heap.size]? =some (.deferred (some [])):=by
  rw[hW1];exact(aZd _ _ _ (by simp)).trans (aUf w _)
 have r1:Rest (fun _=>False) w W1:=⟨by omega,fun b hb _=>by rw[hW1];exact(aZd _ _ _ (by simp;omega)).trans (aZd _ _ _ hb),by rw[hW1];exact⟨rfl,rfl,rfl⟩⟩;have i1:I 0 B0 W1:=hI.keep _ _ _ _ h0 (by omega) (fun b hb=>r1.2.1 b (hI.lt _ _ _ h0 b hb) (fun h=>h))
 let J:Nat->(Nat->Prop)->World->Prop:=fun k B W=> ∃B1,I k B1 W/\(∀b,B b↔B1 b\/b=w.heap.size\/b=L)/\ ¬B1 w.heap.size/\ ¬B1 L/\W.heap[L]? =some (.loop (rec .ready))/\W.heap[w.heap.size]? =some (.deferred (some []))
 have hJ:Inv J:=by
  refine⟨fun k B W h b hb=>?_,fun k B W W' h hs hk=>?_⟩
  . obtain⟨B1,h1,h2,_,_,h3,h4⟩:=h;rcases(h2 b).1 hb with h|rfl|rfl
    . exact hI.lt _ _ _ h1 b h
    . exact(aFU.1 h4).1
    exact(aFU.1 h3).1
  obtain⟨B1,h1,h2,n1,n2,h3,h4⟩:=h;exact⟨B1,hI.keep _ _ _ _ h1 hs (fun b hb=>hk b ((h2 b).2 (.inl hb))),h2,n1,n2,(hk L ((h2 L).2 (.inr (.inr rfl)))).trans h3,(hk _ ((h2 _).2 (.inr (.inl rfl)))).trans h4⟩
 have hY :Yd P L enc J N:=by
  rintro k B W hk ⟨B1,h1,h2,n1,n2,hl,hd⟩;have hlL:L<W.heap.size:=(aFU.1 hl).1;have hlD:w.heap.size<W.heap.size:=by omega
  have hy:=run_yield (P:=P) (args:=enc k W) hl (by rw[hrec];exact hps k W);rw[hrec]at hy;refine⟨fn,_,assign,body,hy,roundIn_of_wpIn trivial (wpIn_mono (hassign L k B1 W hk h1) ?_)⟩;clear hy;rintro e a' Wa hq
  cases e with
  |normal=>
   obtain⟨B2,hax,ra,ga⟩:=hq;have nL: ¬B2 L:=fun h=>(ga L h).elim n2 (fun h=>by omega);have nD: ¬B2 w.heap.size:=fun h=>(ga _ h).elim n1 (fun h=>by omega);have hla:Wa.heap[L]? =some (.loop (rec .ready)):=(ra.2.1 L hlL n2).trans hl;have hda:Wa.heap[w.heap.size]? =some (.deferred (some [])):=(ra.2.1 _ hlD n1).trans hd;have sa:=ra.1;refine⟨_,run_beginRound hla (by rw[hrec]),?_⟩;have hl2:(Wa.putObj L (.loop { rec .ready with state:=.busy })).heap[L]? =some (.loop { rec .ready with state:=.busy }):=aQX (by omega);have o2:Os Wa (Wa.putObj L (.loop { rec .ready with state:=.busy })):=⟨rfl,rfl,rfl⟩;have k2: ∀b,b≠L->(Wa.putObj L (.loop { rec .ready with state:=.busy })).heap[b]? =Wa.heap[b]? :=fun b hb=>aVG hb;have s2:(Wa.putObj L (.loop { rec .ready with state:=.busy })).heap.size=Wa.heap.size:=by simp
   generalize Wa.putObj L (.loop { rec .ready with state:=.busy })=W2 at hl2 k2 s2 o2 ⊢;have aZc:Ax k a' B2 W2:=(hAx a').keep _ _ _ _ hax (by omega) (fun b hb=>k2 b (fun e=>nL (e ▸ hb)));refine wpIn_mono (hbody L k a' B2 W2 hk aZc) ?_;rintro e a3 W3 ⟨rfl,B3,hi3,r3,g3⟩;have nL3: ¬B3 L:=fun h=>(g3 L h).elim nL (fun h=>by omega);have nD3: ¬B3 w.heap.size:=fun h=>(g3 _ h).elim nD (fun h=>by omega);have hl3:=(r3.2.1 L (by omega) nL).trans hl2;have hd3:=(r3.2.1 w.heap.size (by omega) nD).trans ((k2 _ (by omega)).trans hda);have s3:=r3.1;have hend:=run_endRound (P:=P) none hl3;have e3:({ ({ rec .ready with state:=.busy }:Loop)with state:=if(none:Option Code).isNone then .ready else .done,pending:=none }:Loop)=rec .ready:=by rw[hrec];rfl
   rw[e3]at hend;have k4: ∀b,b≠L->(W3.putObj L (.loop (rec .ready))).heap[b]? =W3.heap[b]? :=fun b hb=>aVG hb;have l4:(W3.putObj L (.loop (rec .ready))).heap[L]? =some (.loop (rec .ready)):=aQX (by omega);have s4:(W3.putObj L (.loop (rec .ready))).heap.size=W3.heap.size:=by simp
   refine⟨_,_,hend,rfl,fun b=>B3 b\/b=w.heap.size\/b=L,⟨B3,hI.keep _ _ _ _ hi3 (by omega) (fun b hb=>k4 b (fun e=>nL3 (e ▸ hb))),fun b=>a1s,nD3,nL3,l4,(k4 _ (by omega)).trans hd3⟩,⟨by omega,fun b hb hn=>?_,ra.2.2.trans (o2.trans (r3.2.2.trans ⟨rfl,rfl,rfl⟩))⟩,fun b hb=>?_⟩
   . have q: ¬B1 b/\b≠w.heap.size/\b≠L:=⟨fun h=>hn ((h2 b).2 (.inl h)),fun h=>hn ((h2 b).2 (.inr (.inl h))),fun h=>hn ((h2 b).2 (.inr (.inr h)))⟩;have q2: ¬B2 b:=fun h=>(ga b h).elim q.1 (fun h=>by omega);exact(k4 b q.2.2).trans ((r3.2.1 b (by omega) q2).trans ((k2 b q.2.2).trans (ra.2.1 b hb q.1)))
   rcases hb with hb|hb
   . rcases g3 b hb with h|h
     . rcases ga b h with h|h
       . exact .inl ((h2 b).2 (.inl h))
       exact .inr h
     exact .inr (by omega)
   exact .inl ((h2 b).2 (.inr hb))
  |_=>exact hq.elim
 refine⟨L,[{ target:=.collected w.heap.size,args:= #[] }],W1,{ target:=.fn (.func gf) lb,args:= #[.func (.yield L) #[] #[]] },W1,gf,#[.func (.yield L) #[] #[]]++lb,W1,?_,?_,fun _ _=>trivial,?_,aH6,?_⟩
 . rw[hW1,hL,hrec];exact run_enterLoop_outer _ _ _ _ _
 . simp only[resolve,hg];simp[go_sem]
 . simp[invoke,go_sem,eg]
 have nB: ∀b,B0 b->b<w.heap.size:=hI.lt _ _ _ h0;refine(hit L J hJ (fun k B W ⟨B1,h,_⟩=>hR k B1 W h) hY (fun b=>B0 b\/b=w.heap.size\/b=L) W1 ⟨B0,i1,fun b=>a1s,fun h=>by have:=nB _ h;omega,fun h=>by have:=nB _ h;omega,l1,d1⟩ r1 (fun b hb=>hb.imp id (fun h=>by omega))).mono ?_;rintro e W2 ⟨⟨v,rfl⟩,B2,⟨B3,hi,hB,n1,n2,hl,hd⟩,r2,g2⟩;have hlL:L<W2.heap.size:=(aFU.1 hl).1;obtain⟨o,ho⟩: ∃o,o=Obj.loop { rec .ready with state:=.exhausted }:=⟨_,rfl⟩;have hend:=run_endLoop (P:=P) hl (by rw[hrec];simp);rw[show (rec .ready).pending=none by rw[hrec]]at hend;have hend:(Instr.endLoop L).run P W2=.ok none (W2.putObj L o):=by rw[ho,hend,hrec]
 have k4: ∀b,b≠L->(W2.putObj L o).heap[b]? =W2.heap[b]? :=fun b hb=>aVG hb;have s4:(W2.putObj L o).heap.size=W2.heap.size:=by simp
 have s2:=r2.1;refine⟨none,_,hend,?_⟩;refine hdone w.heap.size B3 _ (hI.keep _ _ _ _ hi (by omega) (fun b hb=>k4 b (fun e=>n2 (e ▸ hb)))) ⟨by omega,fun b hb hn=>?_,r1.2.2.trans (r2.2.2.trans ⟨rfl,rfl,rfl⟩)⟩ (fun b hb=>?_) (aDT _) n1 ((k4 _ (by omega)).trans hd)
 . exact(k4 b (by omega)).trans ((r2.2.1 b (by omega) (fun h=>h.elim hn (fun h=>by omega))).trans (r1.2.1 b hb (fun h=>h)))
 rcases g2 b ((hB b).2 (.inl hb))with(h|h)|h
 . exact .inl h
 . exact .inr (by omega)
 exact .inr (by omega)
end Rf
end
section
open Go.RowKit
namespace Rf
open Sk (oD lH)
open Ev (F8)
section
variable{P:Program}{r:Option Nat}{n:Nat}{ops:Array Oper}{Q:Exit->Act->World->Prop}
def aBb(o:Oper):Bool:=match o.op with
 | .defer _=>false
 |_=>true
theorem aKU{o:Oper}(h:aBb o=true): ∀c,o.op≠ .defer c:=fun c e=>by unfold aBb at h;rw[e]at h;cases h
theorem BF{o:Oper}{a:Act}{w:World}{next:Act->World->Prop}(hd:aBb o=true)(h:o.wp P a w next Q):o.wpIn (FR r) n P a w next Q:=F8 (.inr (aKU hd)) h
end
end Rf
end
section
open Go.RowKit
namespace Rf
open Sk (oD lH key pO aK3)
structure Sl(N:Nat)(S:List (Nat × Value))(a:Act)(ds:List Deferred:=[]):Prop where
 size:a.tmps.size=N
 defs:a.defers=ds
 val: ∀e ∈ S,a.tmps[e.1]? =some e.2
section
variable{N:Nat}{S:List (Nat × Value)}{a:Act}{ds:List Deferred}
theorem I8(h:Sl N S a ds){k:Nat}{v:Value}(hm:(k,v) ∈ S):a.eval (.tmp k)=v:=Sk.YN (h.val _ hm)
theorem aNW{S':List (Nat × Value)}(h:Sl N S a ds)(hs: ∀e ∈ S',e ∈ S):Sl N S' a ds:=⟨h.size,h.defs,fun e he=>h.val e (hs e he)⟩
theorem nZ(h:Sl N S a ds){d:Nat}{v:Value}(hd:d<N):Sl N ((d,v)::S.filter (fun e=>e.1 !=d)) (a.put (some d) v) ds:=by
 refine⟨by simp[Act.put,h.size],h.defs,fun e he=>?_⟩;rcases aGv.1 he with rfl|he
 . simp[Act.put,h.size,hd]
 obtain⟨h1,h2⟩:=aWc.1 he;have hne:d≠e.1:=fun c=>by rw[c]at h2;simp at h2
 simp only[Act.put];rw[aJp hne];exact h.val e h1
theorem aNX(h:Sl N S a ds){k:Nat}{v:Value}(hm:(k,v) ∈ S):a.tmps[k]? =some v:=h.val _ hm
theorem aKc{k:Nat}{v:Value}(h:a.tmps[k]? =some v)(hs:Sl N S a ds):Sl N ((k,v)::S) a ds:=⟨hs.size,hs.defs,fun e he=>(aGv.1 he).elim (fun c=>c ▸ h) (hs.val e)⟩
theorem aAn(h:Sl N S a ds):Sl N [] a ds:=⟨h.size,h.defs,fun e he=>(aMt he).elim⟩
end
def dZ:List Nat->Code->Code
 |[],c=>c
 |0::t,.seq a _=>dZ t a
 |_::t,.seq _ b=>dZ t b
 |0::t,.cond _ a _=>dZ t a
 |_::t,.cond _ _ b=>dZ t b
 |_::t,.block _ c=>dZ t c
 |_::t,.loop c=>dZ t c
 |_::t,.scope c=>dZ t c
 |0::t,.rangeFunc _ _ a _=>dZ t a
 |_::t,.rangeFunc _ _ _ b=>dZ t b
 |_,c=>c
def nG:Op->Bool
 | .defer _=>true
 |_=>false
section
variable{P:Program}{r:Option Nat}{n N:Nat}{ops:Array Oper}{Q:Exit->Act->World->Prop}{S:List (Nat × Value)}{a:Act}{ds:List Deferred}{l:List Oper}{p:Op}{ks:List (Option (Tmp × Bool) × Option Tmp × Op)}{W W':World}
theorem aEF:(FR r).depth.isSome=true->1<=n:=fun h=>by cases h
theorem QN{o:Oper}(hw:Region.wanted o (yielded ops a.tmps)=true)(hn:nG o.op=false){x:Value}(hrun:(execOp a.eval o).run P W=.ok (.value x) W'\/x=undef/\(execOp a.eval o).run P W=.ok .skip W')
 {rest:List Oper} (k:wpListIn (FR r) n P ops Q rest (a.put o.dst x) W'):wpListIn (FR r) n P ops Q (o::rest) a W:=by
 unfold wpListIn;rw[aFw hw];refine BF (by unfold aBb;cases ho:o.op<;>first|rfl|(rw[ho]at hn;cases hn)) ?_;unfold Oper.wp;rcases hrun with hr|⟨rfl,hr⟩<;>rw[hr]<;>exact k
theorem U2{o:Oper}(h:o.guard=none){y:Nat->Option Bool}:Region.wanted o y=true:=by unfold Region.wanted;rw[h]
section
variable{d:Nat}{v:Value}(hk:l.map key=(none,some d,p)::ks)(h:Sl N S a ds)(hp:nG p=false)(hd:d<N)
include hk h hp hd
theorem sv(hrun: ∀o:Oper,o.op=p->(execOp a.eval o).run P W=.ok (.value v) W')
 (k: ∀l a,l.map key=ks->Sl N ((d,v)::S.filter (fun e=>e.1 !=d)) a ds->wpListIn (FR r) n P ops Q l a W'):wpListIn (FR r) n P ops Q l a W:=by
 obtain⟨o,l',rfl,e,hm⟩:=pO hk;simp only[key,aNl]at e;obtain⟨hg,hd',rfl⟩:=e;refine QN (U2 hg) hp (.inl (hrun o rfl)) ?_;rw[hd'];exact k l' _ hm (nZ h hd)
theorem sc{f:FuncId}{args:Array Value}{R:Ending->World->Prop}(hrun: ∀o:Oper,o.op=p->(execOp a.eval o).run P W=.ok (.enter f args) W)(hc:Calls P f args W R)
 (k: ∀e W1,R e W1-> ∃v,e=.returned v/\ ∀l a,l.map key=ks->Sl N ((d,v)::S.filter (fun e=>e.1 !=d)) a ds->wpListIn (FR r) n P ops Q l a W1):wpListIn (FR r) n P ops Q l a W:=by
 obtain⟨o,l',rfl,e,hm⟩:=pO hk;simp only[key,aNl]at e;obtain⟨hg,hd',rfl⟩:=e;unfold wpListIn;rw[aFw (U2 hg)];refine BF (by unfold aBb;cases ho:o.op<;>first|rfl|(rw[ho]at hp;cases hp)) ?_;unfold Oper.wp;rw[hrun o rfl,Oper.upon_enter];refine hc.mono fun e W1 hR=>?_;obtain⟨v,rfl,hk'⟩:=k e W1 hR;show wpListIn (FR r) n P ops Q l' (a.put o.dst v) W1;rw[hd'];exact hk' l' _ hm (nZ h hd)
end
theorem ss{g:Option Tmp}(hk:l.map key=(none,none,p)::ks)(h:Sl N S a ds)(hp:nG p=false)(hrun: ∀o:Oper,o.op=p->(execOp a.eval o).run P W=.ok .skip W')
 (k: ∀l,l.map key=ks->wpListIn (FR r) n P ops Q l a W'):wpListIn (FR r) n P ops Q l a W:=by
 obtain⟨o,l',rfl,e,hm⟩:=pO hk;simp only[key,aNl]at e;obtain⟨hg,hd',rfl⟩:=e;refine QN (x:=undef) (U2 hg) hp (.inr ⟨rfl,hrun o rfl⟩) ?_;rw[hd'];exact k l' hm
theorem s0(hk:l.map key=[])(k:Q .normal a W):wpListIn (FR r) n P ops Q l a W:=by
 rw[aK3 hk];exact k
theorem aCp{o:Oper}{j:Nat}{b:Bool}{d:Nat}{g0:Option (Tmp × Bool)}{p0:Op}{K:List (Option (Tmp × Bool) × Option Tmp × Op)}(hK:ops.toList.map key=K)(hj:K[j]? =some (g0,some d,p0))(hg:o.guard=some (j,b)){b':Bool}(h:Sl N S a ds)(hm:(d,.bool b') ∈ S):
 Region.wanted o (yielded ops a.tmps)=(b'==b):=by
 have h1:(ops[j]?).bind (·.dst)=some d:=by
  rw[<-hK,aFx]at hj;rw[<-aEP]
  cases ho:ops.toList[j]? with
  |none=>rw[ho]at hj;cases hj
  |some o=>rw[ho]at hj;simp only[aMl,aUl,key,aNl]at hj;simp[hj.2.1]
 have h2:yielded ops a.tmps j=some b':=by unfold yielded;rw[h1,aQZ,h.val _ hm]
 unfold Region.wanted;rw[hg];show(yielded ops a.tmps j==some b)=_;rw[h2]
 cases b<;>cases b'<;>rfl
theorem sg{j:Nat}{b:Bool}{d d0:Nat}{v:Value}{g0:Option (Tmp × Bool)}{p0:Op}{K:List (Option (Tmp × Bool) × Option Tmp × Op)}(hK:ops.toList.map key=K)(hk:l.map key=(some (j,b),some d,p)::ks)(h:Sl N S a ds)(hj:K[j]? =some (g0,some d0,p0))(hm:(d0,.bool b) ∈ S)(hp:nG p=false)(hd:d<N)
 (hrun: ∀o:Oper,o.op=p->(execOp a.eval o).run P W=.ok (.value v) W')
 (k: ∀l a,l.map key=ks->Sl N ((d,v)::S.filter (fun e=>e.1 !=d)) a ds->wpListIn (FR r) n P ops Q l a W'):wpListIn (FR r) n P ops Q l a W:=by
 obtain⟨o,l',rfl,e,hl⟩:=pO hk;simp only[key,aNl]at e;obtain⟨hg,hd',rfl⟩:=e;refine QN ((aCp hK hj hg h hm).trans (by cases b<;>rfl)) hp (.inl (hrun o rfl)) ?_;rw[hd'];exact k l' _ hl (nZ h hd)
theorem sx{j:Nat}{b:Bool}{d d0:Nat}{g0:Option (Tmp × Bool)}{p0:Op}{K:List (Option (Tmp × Bool) × Option Tmp × Op)}(hK:ops.toList.map key=K)(hk:l.map key=(some (j,b),some d,p)::ks)(h:Sl N S a ds)(hj:K[j]? =some (g0,some d0,p0))(hm:(d0,.bool (!b)) ∈ S)(hd:d<N)
 (k: ∀l a,l.map key=ks->Sl N ((d,undef)::S.filter (fun e=>e.1 !=d)) a ds->wpListIn (FR r) n P ops Q l a W):wpListIn (FR r) n P ops Q l a W:=by
 obtain⟨o,l',rfl,e,hl⟩:=pO hk;simp only[key,aNl]at e;obtain⟨hg,hd',rfl⟩:=e;unfold wpListIn;rw[aFv (by rw[aCp hK hj hg h hm];cases b<;>decide),hd'];exact⟨fun _ _=>trivial,k l' _ hl (nZ h hd)⟩
theorem NR{o:Oper}{c:Operand}{args:Array Operand}{ats:Array TypeId}(ho:o.op=.call ⟨.value c,args,ats⟩){lp:Nat}(hc:a.eval c=.func (.yield lp) #[] #[]):(execOp a.eval o).run P W=(Instr.yield lp (args.map a.eval)).run P W:=by
 unfold execOp;simp[ho,resolve,hc,Deferred.ofValue,invoke]
theorem UW{o:Oper}(hw:Region.wanted o (yielded ops a.tmps)=true){c:Operand}{args:Array Operand}{ats:Array TypeId}(ho:o.op=.call ⟨.value c,args,ats⟩){lp:Nat}(hc:a.eval c=.func (.yield lp) #[] #[]){vs:Array Value}(hv:args.map a.eval=vs)
 {R:Ending->World->Prop} (hy:YieldAt (FR none) 0 P lp vs W R) {rest:List Oper} (k: ∀e W1,R e W1-> ∃v,e=.returned v/\wpListIn (FR r) 0 P ops Q rest (a.put o.dst v) W1):wpListIn (FR r) 0 P ops Q (o::rest) a W:=by
 obtain⟨fn,tmps,assign,body,hyr,hR⟩:=hy;unfold wpListIn;rw[aFw hw];refine⟨fun _ _=>trivial,?_⟩;rw[a1T _ _ _ (fun c e=>by rw[ho]at e;cases e),NR ho hc,hv,hyr,Oper.uponIn_round];refine⟨aEF,?_⟩;exact RoundIn.mono hR fun e W1 h=>by
  obtain⟨v,rfl,hk⟩:=k e W1 h;exact hk
theorem sy{d:Nat}{c:Operand}{args:Array Operand}{ats:Array TypeId}(hk:l.map key=(none,some d,.call ⟨.value c,args,ats⟩)::ks)(h:Sl N S a ds)(hd:d<N){lp:Nat}(hc:a.eval c=.func (.yield lp) #[] #[]){vs:Array Value}(hv:args.map a.eval=vs)
 {X:World->Prop} (hy:YieldAt (FR none) 0 P lp vs W fun e W1=>e=.returned (.bool true)/\X W1) (k: ∀W1,X W1-> ∀l a,l.map key=ks->Sl N ((d,.bool true)::S.filter (fun e=>e.1 !=d)) a ds->wpListIn (FR r) 0 P ops Q l a W1):wpListIn (FR r) 0 P ops Q l a W:=by
 obtain⟨o,l',rfl,e,hm⟩:=pO hk;simp only[key,aNl]at e;obtain⟨hg,hd',ho⟩:=e;refine UW (U2 hg) ho hc hv hy fun e W1 hx=>⟨_,hx.1,?_⟩;rw[hd'];exact k W1 hx.2 l' _ hm (nZ h hd)
theorem syg{j:Nat}{b:Bool}{d d0:Nat}{g0:Option (Tmp × Bool)}{p0:Op}{K:List (Option (Tmp × Bool) × Option Tmp × Op)}{c:Operand}{args:Array Operand}{ats:Array TypeId}(hK:ops.toList.map key=K)(hk:l.map key=(some (j,b),some d,.call ⟨.value c,args,ats⟩)::ks)(h:Sl N S a ds)
 (hj:K[j]? =some (g0,some d0,p0)) (hm:(d0,.bool b) ∈ S) (hd:d<N) {lp:Nat} (hc:a.eval c=.func (.yield lp) #[] #[]) {vs:Array Value} (hv:args.map a.eval=vs)
 {X:World->Prop} (hy:YieldAt (FR none) 0 P lp vs W fun e W1=>e=.returned (.bool true)/\X W1) (k: ∀W1,X W1-> ∀l a,l.map key=ks->Sl N ((d,.bool true)::S.filter (fun e=>e.1 !=d)) a ds->wpListIn (FR r) 0 P ops Q l a W1):wpListIn (FR r) 0 P ops Q l a W:=by
 obtain⟨o,l',rfl,e,hl⟩:=pO hk;simp only[key,aNl]at e;obtain⟨hg,hd',ho⟩:=e;refine UW ((aCp hK hj hg h hm).trans (by cases b<;>rfl)) ho hc hv hy fun e W1 hx=>⟨_,hx.1,?_⟩;rw[hd'];exact k W1 hx.2 l' _ hl (nZ h hd)
theorem aH{c:Code}{K:List (Option (Tmp × Bool) × Option Tmp × Op)}(hk:lH c=false/\(oD c).map key=K)(h: ∀ops l,ops.toList.map key=K->l.map key=K->wpListIn (FR r) n P ops Q l a W):c.wpIn (FR r) n P Q a W:=by
 obtain⟨hd,hk⟩:=hk
 cases c with
 |region id ops b=>
  obtain rfl:b=false:=hd;exact wpIn_region_list (h _ _ hk hk)
 |_=>cases hd
theorem fO{f:FuncId}{fn:Func}{c:Code}{args:List Value}{N:Nat}{R:Ending->World->Prop}(hf:P.funcs[f]? =some fn)(hb:fn.body=some c)(hN:fn.ntmps=N)(hl:args.length<=N)
 (h: ∀a0,Sl N (args.zipIdx.map fun e=>(e.2,e.1)) a0->c.wpIn (FR none) n P (bodyPost P fn R) a0 W):CallsIn (FR none) n P f args.toArray W R:=by
 refine callsIn_of_wp hf hb trivial (h _ ⟨by simp;omega,rfl,fun e he=>?_⟩);obtain⟨⟨v,i⟩,hi,rfl⟩:=aMm.1 he;have:=aXD.1 hi;have hlt:i<args.length:=(aEX.1 this).1;simp only[a01,a1q,hlt,aVY,aWw];exact this
theorem DR{f:FuncId}{fn:Func}{c:Code}{args:List Value}{N:Nat}{R:Ending->World->Prop}(hf:P.funcs[f]? =some fn)(hb:fn.body=some c)(hN:fn.ntmps=N)(hl:args.length<=N)
 (h: ∀a0,Sl N (args.zipIdx.map fun e=>(e.2,e.1)) a0->c.wpIn (FR none) n P (bodyPostM (FR none) n P fn R) a0 W):CallsIn (FR none) n P f args.toArray W R:=by
 refine callsIn_of_wp_marks hf hb trivial (h _ ⟨by simp;omega,rfl,fun e he=>?_⟩);obtain⟨⟨v,i⟩,hi,rfl⟩:=aMm.1 he;have:=aXD.1 hi;have hlt:i<args.length:=(aEX.1 this).1;simp only[a01,a1q,hlt,aVY,aWw];exact this
theorem F6{fn:Func}{R:Ending->World->Prop}(h:Sl N S a)(hr:fn.results= #[])(hR:R (.returned (.tuple #[])) W):bodyPost P fn R .normal a W/\bodyPost P fn R .ret a W:=by
 have:=results_none hr a.tmps P W;exact⟨⟨h.defs,_,this,hR⟩,⟨h.defs,_,this,hR⟩⟩
theorem AQ(h:Sl N S a ds){i:Nat}{v:Value}(hm:(i,v) ∈ S):a.tmps.getD i undef=v:=by
 have:=h.val _ hm;simp[aVV,this]
theorem kZ{fn:Func}{R:Ending->World->Prop}{i:Tmp}{v:Value}(h:Sl N S a)(hr:fn.results= #[.tmp i])(hi:(i,v) ∈ S)(hR:R (.returned v) W):bodyPost P fn R .ret a W:=by
 have h1:=results_tmp hr a.tmps P W;rw[AQ h hi]at h1;exact⟨h.defs,_,h1,hR⟩
theorem wV{fn:Func}{R:Ending->World->Prop}{i j:Tmp}{v u:Value}(h:Sl N S a)(hr:fn.results= #[.tmp i,.tmp j])(hi:(i,v) ∈ S)(hj:(j,u) ∈ S)(hR:R (.returned (.tuple #[v,u])) W):bodyPost P fn R .ret a W:=by
 have h1:=a18 hr a.tmps P W;rw[AQ h hi,AQ h hj]at h1;exact⟨h.defs,_,h1,hR⟩
section
variable{o:Oper}
theorem jC{x:Operand}(ho:o.op=.move x){v:Value}(hx:a.eval x=v):(execOp a.eval o).run P W=.ok (.value v) W:=Sk.tJ (.inl ho) hx
theorem aGs{x:Operand}(ho:o.op=.assign x){v:Value}(hx:a.eval x=v):(execOp a.eval o).run P W=.ok (.value v) W:=Sk.tJ (.inr ho) hx
def vF(P:Program)(t:TypeId)(i:Nat):Option Nat:=
 match P.underlying t with
 |some (.struct fs)=>match fs[i]? with
  |some fl=>if P.cellsOf fl.type≠0/\(P.underlying fl.type).isSome=true then some fl.offset else none
  |none=>none
 |_=>none
theorem dA{t:TypeId}{x:Operand}{i off b o':Nat}(hf:vF P t i=some off)(ho:o.op=.fieldAddr t x i)(hx:a.eval x=.pointer (some ⟨b,o',none⟩)):
 (execOp a.eval o).run P W=.ok (.value (.pointer (some ⟨b,o'+off,none⟩))) W:=by
 unfold vF at hf
 split at hf
 . rename_i fs hu
   split at hf
   . rename_i fl hi
     split at hf
     . rename_i hc
       cases hf
       exact Sk.EZ ho hx hu hi hc.1 hc.2
     cases hf
   cases hf
 cases hf
theorem AY{x:Operand}{ad:Addr}(ho:o.op=.nilCheck x)(hx:a.eval x=.pointer (some ad)):(execOp a.eval o).run P W=.ok (.value (.pointer (some ad))) W:=by
 unfold execOp;simp[ho,hx]
def one(P:Program)(t:TypeId):Bool:= !Ev.KO P t&&(P.underlying t).isSome
theorem aAt{t:TypeId}(h:one P t=true)(W:World):(isAgg t).run P W=.ok false W:=by
 unfold one at h;simp only[aEx,a0G]at h;exact @Ev.AU Ev.G0 P t false h.1 h.2 W
theorem kD{t:TypeId}{x:Operand}{b off:Nat}{v:Value}(ha:one P t=true)(ho:o.op=.load t x)(hx:a.eval x=.pointer (some ⟨b,off,none⟩))(hc:W.cell? ⟨b,off,none⟩=some v):
 (execOp a.eval o).run P W=.ok (.value v) W:=by
 unfold execOp;simp[ho,hx,Instr.loadAt,Instr.sureAddr,loadVar,aAt ha,run_load,hc]
theorem yK{op:BinOp}{t yt:TypeId}{x y:Operand}{v u z:Value}(ho:o.op=.binOp op t x y yt)(hx:a.eval x=v)(hy:a.eval y=u)(hb:(do eqGuard op t x y v u;binOp op t v u).run P W=.ok z W):
 (execOp a.eval o).run P W=.ok (.value z) W:=by
 subst hx hy;unfold execOp;simp only[ho,aCA,aEz]at hb ⊢;rw[hb];rfl
section
variable{op:BinOp}{t yt:TypeId}{x y:Operand}{q:IntKind}{m m':Int}
theorem OY(ho:o.op=.binOp .eql t x y yt)(hx:a.eval x=.int q m)(hy:a.eval y=.int q m'):(execOp a.eval o).run P W=.ok (.value (.bool (decide (m=m')))) W:=
 yK ho hx hy (by simp[eqGuard,binOp,Op.intCmp];exact Bool.beq_eq_decide_eq _ _)
theorem vV(ho:o.op=.binOp .eql t x y yt)(hx:a.eval x=.int q m)(hy:a.eval y=.int q m')(h:m=m'):(execOp a.eval o).run P W=.ok (.value (.bool true)) W:=by
 rw[<-aEy h];exact OY ho hx hy
theorem aOd(ho:o.op=.binOp .eql t x y yt)(hx:a.eval x=.int q m)(hy:a.eval y=.int q m')(h: ¬m=m'):(execOp a.eval o).run P W=.ok (.value (.bool false)) W:=by
 rw[<-aEm h];exact OY ho hx hy
theorem JK(ho:o.op=.binOp .neq t x y yt)(hx:a.eval x=.int q m)(hy:a.eval y=.int q m'):(execOp a.eval o).run P W=.ok (.value (.bool (!decide (m=m')))) W:=
 yK ho hx hy (by simp[eqGuard,binOp,Op.intCmp];rfl)
theorem BA(ho:o.op=.binOp .lss t x y yt)(hx:a.eval x=.int q m)(hy:a.eval y=.int q m'):(execOp a.eval o).run P W=.ok (.value (.bool (decide (m<m')))) W:=
 yK ho hx hy (by simp[eqGuard,binOp,Op.intCmp])
theorem JM(ho:o.op=.binOp .add t x y yt)(hx:a.eval x=.int q m)(hy:a.eval y=.int q m')(hw:q.wrap (m+m')=m+m'):(execOp a.eval o).run P W=.ok (.value (.int q (m+m'))) W:=
 yK ho hx hy (by simp[eqGuard,binOp,Op.intArith,hw])
theorem aMB{s s':ByteArray}{b:Bool}(hb:(s.toList==s'.toList)=b)(ho:o.op=.binOp .eql t x y yt)(hx:a.eval x=.string s)(hy:a.eval y=.string s'):(execOp a.eval o).run P W=.ok (.value (.bool b)) W:=
 yK ho hx hy (by simp[eqGuard,binOp,Op.stringOp,<-hb])
theorem VX{b:Bool}(ho:o.op=.unOp .not t x)(hx:a.eval x=.bool b):(execOp a.eval o).run P W=.ok (.value (.bool !b)) W:=by
 unfold execOp;simp[ho,hx,Op.unary]
theorem jM{c:Operand}{v:Value}(ho:o.op=.pick c x y)(hc:a.eval c=.bool true)(hx:a.eval x=v):(execOp a.eval o).run P W=.ok (.value v) W:=by
 unfold execOp;simp[ho,hc,asBool,hx]
theorem mZ{c:Operand}{v:Value}(ho:o.op=.pick c x y)(hc:a.eval c=.bool false)(hy:a.eval y=v):(execOp a.eval o).run P W=.ok (.value v) W:=by
 unfold execOp;simp[ho,hc,asBool,hy]
theorem tK{el:TypeId}{g off n cp sz:Nat}{i:Nat}(hu:P.underlying t=some (.slice el))(hz:(P.info? el).map (·.size)=some sz)(hi:i<n)(ho:o.op=.indexAddr t x y)(hx:a.eval x=.slice (some ⟨g,off,none⟩) n cp)(hy:a.eval y=.int .i64 i):
 (execOp a.eval o).run P W=.ok (.value (.pointer (some ⟨g,off+i * sz,none⟩))) W:=Sk.vS ho hx hy hi hu hz
theorem pJ(ho:o.op=.box t x){v:Value}(hx:a.eval x=v){c:Array Value}(hc:v.cells=c):(execOp a.eval o).run P W=.ok (.value (.pointer (some ⟨W.heap.size,0,none⟩))) (W.alloc (.cells c t)):=by
 subst hx hc;unfold execOp;simp only[ho,aCA,Instr.box,newVar,newRow,run_newObj_alloc,aEz,aAB]
theorem JL(ho:o.op=.alloc t){z:Value}(hz:(zeroValue t).run P W=.ok z W)(hc:z.cells= #[z]):(execOp a.eval o).run P W=.ok (.value (.pointer (some ⟨W.heap.size,0,none⟩))) (W.alloc (.cells #[z] t)):=Sk.JC ho hz hc
theorem lG(ho:o.op=.store t x y){b off:Nat}{v:Value}(hx:a.eval x=.pointer (some ⟨b,off,none⟩))(hy:a.eval y=v)(hc:v.cells= #[v])(ht:W.there b off 1)(hi:(P.info? t).map (·.size)=some 1)(h1:v.oneCell'=true):(execOp a.eval o).run P W=.ok .skip (W.setCells b off [v]):=by
 unfold execOp;simp only[ho,hx,hy,Instr.storeAt,Instr.sureAddr,aCA,aEz,aAB,Sk.run_storeVar_one W b off t v hc ht hi h1]
theorem yJ{s:Option Addr}{m c:Nat}{el:TypeId}(hu:P.underlying t=some (.slice el))(ho:o.op=.call ⟨.builtin .len,#[x],#[t]⟩)(hx:a.eval x=.slice s m c):(execOp a.eval o).run P W=.ok (.value (.int .i64 m)) W:=by
 have hx':(#[x]:Array Operand).map a.eval= #[.slice s m c]:=by simp[hx]
 unfold execOp;simp only[ho,resolve,hx',aCA,aEz,aAB,invoke];simp[builtin,Builtin.len_,aFF hu,goInt]
theorem QY{f:FuncId}(ho:o.op=.makeFunc (.func f) #[] #[x]){v:Value}(hx:a.eval x=v):(execOp a.eval o).run P W=.ok (.value (.func (.func f) #[] #[v])) W:=by
 subst hx;unfold execOp;simp[ho,go_sem]
end
end
end
abbrev Ky:=Option (Tmp × Bool) × Option Tmp × Op
abbrev RK(c:Code)(K:List Ky):Prop:=lH c=false/\(oD c).map key=K
abbrev km(d j:Nat):Ky:=(none,some d,.move (.tmp j))
abbrev ka(d j:Nat):Ky:=(none,some d,.assign (.tmp j))
abbrev kc(d:Nat)(v:Value):Ky:=(none,some d,.assign (.const v))
abbrev kl(d t j:Nat):Ky:=(none,some d,.load t (.tmp j))
abbrev kf(d t j f:Nat):Ky:=(none,some d,.fieldAddr t (.tmp j) f)
abbrev kx(d j i:Nat):Ky:=(none,some d,.extract (.tmp j) i)
abbrev kn(d j:Nat):Ky:=(none,some d,.nilCheck (.tmp j))
abbrev ks'(t i j:Nat):Ky:=(none,none,.store t (.tmp i) (.tmp j))
abbrev kg(g:Nat)(b:Bool)(x:Ky):Ky:=(some (g,b),x.2)
section
variable{P:Program}{r:Option Nat}{n N:Nat}{ops:Array Oper}{Q:Exit->Act->World->Prop}{S:List (Nat × Value)}{a:Act}{ds:List Deferred}{l:List Oper}{ks:List Ky}{W W':World}
theorem sT(h:Sl N S a ds){k:Nat}{v:Value}(hm:(k,v) ∈ S:=by simp):a.eval (.tmp k)=v:=I8 h hm
theorem cO{S':List (Nat × Value)}(h:Sl N S a ds)(hs: ∀e ∈ S',e ∈ S:=by simp):Sl N S' a ds:=aNW h hs
theorem jB{a:Act}{o:Oper}{f:FuncId}{fn:Func}{args:Array Operand}{ats:Array TypeId}(ho:o.op=.call ⟨.value (.func f),args,ats⟩)(hf:P.funcs[f]? =some fn)(hb:(fn.body.isSome&& !(fn.name== "runtime.NumGoroutine"))=true:=by kernel_rfl):(execOp a.eval o).run P W=.ok (.enter f (args.map a.eval)) W:=by
 obtain⟨h1,h2⟩:=(aEx _ _).mp hb;obtain⟨c,hc⟩:=aUm.1 h1;exact Sk.JA ho hf (by simpa using h2) hc
section
variable{d j:Nat}{v:Value}
theorem sV{p:Op}(hk:l.map key=(none,some d,p)::ks)(h:Sl N S a ds)(hrun: ∀o:Oper,o.op=p->(execOp a.eval o).run P W=.ok (.value v) W')(k: ∀l a,l.map key=ks->Sl N ((d,v)::S.filter (fun e=>e.1 !=d)) a ds->wpListIn (FR r) n P ops Q l a W')(hp:nG p=false:=by rfl)(hd:d<N:=by decide):wpListIn (FR r) n P ops Q l a W:=sv hk h hp hd hrun k
theorem mV(hk:l.map key=(none,some d,.move (.tmp j))::ks)(h:Sl N S a ds)(k: ∀l a,l.map key=ks->Sl N ((d,v)::S.filter (fun e=>e.1 !=d)) a ds->wpListIn (FR r) n P ops Q l a W)(hm:(j,v) ∈ S:=by simp)(hd:d<N:=by decide):wpListIn (FR r) n P ops Q l a W:=sv hk h rfl hd (fun _ ho=>jC ho (I8 h hm)) k
theorem aV(hk:l.map key=(none,some d,.assign (.tmp j))::ks)(h:Sl N S a ds)(k: ∀l a,l.map key=ks->Sl N ((d,v)::S.filter (fun e=>e.1 !=d)) a ds->wpListIn (FR r) n P ops Q l a W)(hm:(j,v) ∈ S:=by simp)(hd:d<N:=by decide):wpListIn (FR r) n P ops Q l a W:=sv hk h rfl hd (fun _ ho=>aGs ho (I8 h hm)) k
theorem aC(hk:l.map key=(none,some d,.assign (.const v))::ks)(h:Sl N S a ds)(k: ∀l a,l.map key=ks->Sl N ((d,v)::S.filter (fun e=>e.1 !=d)) a ds->wpListIn (FR r) n P ops Q l a W)(hd:d<N:=by decide):wpListIn (FR r) n P ops Q l a W:=sv hk h rfl hd (fun _ ho=>aGs ho rfl) k
theorem nV(hk:l.map key=(none,some d,.nilCheck (.tmp j))::ks)(h:Sl N S a ds)(k: ∀l a,l.map key=ks->Sl N ((d,v)::S.filter (fun e=>e.1 !=d)) a ds->wpListIn (FR r) n P ops Q l a W)(hm:(j,v) ∈ S:=by simp)(hv: ∃ad,v=.pointer (some ad):=by exact⟨_,rfl⟩)(hd:d<N:=by decide):wpListIn (FR r) n P ops Q l a W:=by
 obtain⟨ad,rfl⟩:=hv;exact sv hk h rfl hd (fun _ ho=>AY ho (I8 h hm)) k
theorem lV{t b off:Nat}(ha:one P t=true)(hk:l.map key=(none,some d,.load t (.tmp j))::ks)(h:Sl N S a ds)(hc:W.cell? ⟨b,off,none⟩=some v)(k: ∀l a,l.map key=ks->Sl N ((d,v)::S.filter (fun e=>e.1 !=d)) a ds->wpListIn (FR r) n P ops Q l a W)(hm:(j,.pointer (some ⟨b,off,none⟩)) ∈ S:=by simp)(hd:d<N:=by decide):wpListIn (FR r) n P ops Q l a W:=sv hk h rfl hd (fun _ ho=>kD ha ho (I8 h hm) hc) k
end
section
variable{jj:Nat}{b:Bool}{d:Nat}{v:Value}{g0:Option (Tmp × Bool)}{p0 p:Op}{K:List Ky}{j:Nat}
theorem sG(hK:ops.toList.map key=K)(hk:l.map key=(some (jj,b),some d,p)::ks)(h:Sl N S a ds)(d0:Nat)(hrun: ∀o:Oper,o.op=p->(execOp a.eval o).run P W=.ok (.value v) W)(k: ∀l a,l.map key=ks->Sl N ((d,v)::S.filter (fun e=>e.1 !=d)) a ds->wpListIn (FR r) n P ops Q l a W)(hj:K[jj]? =some (g0,some d0,p0):=by rfl)(hm:(d0,.bool b) ∈ S:=by simp)(hp:nG p=false:=by rfl)(hd:d<N:=by decide):wpListIn (FR r) n P ops Q l a W:=sg hK hk h hj hm hp hd hrun k
theorem mG(hK:ops.toList.map key=K)(hk:l.map key=(some (jj,b),some d,.move (.tmp j))::ks)(h:Sl N S a ds)(d0:Nat)(k: ∀l a,l.map key=ks->Sl N ((d,v)::S.filter (fun e=>e.1 !=d)) a ds->wpListIn (FR r) n P ops Q l a W)(hj:K[jj]? =some (g0,some d0,p0):=by rfl)(hm:(d0,.bool b) ∈ S:=by simp)(hm2:(j,v) ∈ S:=by simp)(hd:d<N:=by decide):wpListIn (FR r) n P ops Q l a W:=sg hK hk h hj hm rfl hd (fun _ ho=>jC ho (I8 h hm2)) k
theorem sX(hK:ops.toList.map key=K)(hk:l.map key=(some (jj,b),some d,p)::ks)(h:Sl N S a ds)(d0:Nat)(k: ∀l a,l.map key=ks->Sl N ((d,undef)::S.filter (fun e=>e.1 !=d)) a ds->wpListIn (FR r) n P ops Q l a W)(hj:K[jj]? =some (g0,some d0,p0):=by rfl)(hm:(d0,.bool (!b)) ∈ S:=by simp)(hd:d<N:=by decide):wpListIn (FR r) n P ops Q l a W:=sx hK hk h hj hm hd k
end
end
end Rf
end
section
open Go.RowKit
namespace Rf
open Sk (oD lH key)
theorem aPK:vF Tryz.prog 35 0=some 0:=by kernel_rfl
theorem aPJ:vF Tryz.prog 35 1=some 1:=by kernel_rfl
theorem aBD:vF Tryz.prog 35 2=some 11:=by kernel_rfl
theorem aIc:vF Tryz.prog 35 3=some 22:=by kernel_rfl
theorem TL:vF Tryz.prog 35 4=some 33:=by kernel_rfl
theorem aBE:vF Tryz.prog 32 0=some 0:=by kernel_rfl
theorem aId:vF Tryz.prog 32 1=some 1:=by kernel_rfl
theorem aH9:vF Tryz.prog 79 0=some 0:=by kernel_rfl
theorem aH8:vF Tryz.prog 79 1=some 10:=by kernel_rfl
theorem aPI:vF Tryz.prog 79 2=some 11:=by kernel_rfl
theorem yO:one Tryz.prog 84=true:=by kernel_rfl
theorem DY:one Tryz.prog 5=true:=by kernel_rfl
theorem aGQ:one Tryz.prog 33=true:=by kernel_rfl
theorem aS3:one Tryz.prog 4=true:=by kernel_rfl
theorem IL:Tryz.prog.underlying 33=some (.slice 79):=by kernel_rfl
theorem info79:(Tryz.prog.info? 79).map (·.size)=some 21:=by kernel_rfl
abbrev pa(b o:Nat):Value:=.pointer (some ⟨b,o,none⟩)
structure Sh(kd fk tk:Int)(bx pe:Nat)(bs:Option Addr)(cp:Nat)(R:List Bool)(W:World):Prop where
 bx:W.cell? ⟨bx,0,none⟩=some (pa pe 0)
 kd:W.cell? ⟨pe,0,none⟩=some (.int .u8 kd)
 fk:W.cell? ⟨pe,11,none⟩=some (.int .u8 fk)
 tk:W.cell? ⟨pe,22,none⟩=some (.int .u8 tk)
 its:W.cell? ⟨pe,33,none⟩=some (.slice bs R.length cp)
 rg: ∀i,i<R.length-> ∃g o,bs=some ⟨g,o,none⟩/\W.cell? ⟨g,o+i * 21+10,none⟩=some (.bool (R.getD i false))
def xU(g o:Nat)(R:List Bool):Nat->List (Nat × Nat)
 |0=>[]
 |i+1=>xU g o R i++((g,o+i * 21)::(if R.getD i false then[(g,o+i * 21+11)]else[]))
def DL(kd fk tk:Int)(pe:Nat)(bs:Option Addr)(R:List Bool):List (Nat × Nat):=
 if kd=1 then[(pe,1)]else if kd=2 then(if fk=1 then[(pe,12)]else[])++(if tk=1 then[(pe,23)]else[])
 else xU (match bs with|some ⟨g,_,_⟩=>g|none=>0) (match bs with|some ⟨_,o,_⟩=>o|none=>0) R R.length
theorem rY(g o:Nat)(R:List Bool)(i:Nat):xU g o R (i+1)=xU g o R i++((g,o+i * 21)::(if R.getD i false then[(g,o+i * 21+11)]else[])):=rfl
theorem aCP(g o:Nat)(R:List Bool)(i:Nat): ∀d,xU g o R i <+: xU g o R (i+d)
 |0=>List.prefix_refl _
 |d+1=>(aCP g o R i d).trans (List.prefix_append _ _)
theorem pre_at{l m:List (Nat × Nat)}(h:l <+: m){k:Nat}{x:Nat × Nat}(hk:l[k]? =some x):m.getD k (0,0)=x/\k<m.length:=by
 obtain⟨t,rfl⟩:=h;have hl:=(aEX.1 hk).1;exact⟨by simp[List.getD,aFT hl,hk],by simp;omega⟩
theorem aPw(g o:Nat)(R:List Bool){i n:Nat}(hi:i<n):((xU g o R n).getD (xU g o R i).length (0,0)=(g,o+i * 21)/\(xU g o R i).length<(xU g o R n).length)/\
 (R.getD i false=true->(xU g o R n).getD ((xU g o R i).length+1) (0,0)=(g,o+i * 21+11)/\(xU g o R i).length+1<(xU g o R n).length):=by
 have h:xU g o R (i+1) <+: xU g o R n:=by
  have:=aCP g o R (i+1) (n - (i+1));rwa[show i+1+(n - (i+1))=n by omega]at this
 refine⟨pre_at h ?_,fun hr=>pre_at h ?_⟩
 . rw[rY,aGq (aDT _),Nat.sub_self];rfl
 rw[rY,aGq (by omega),hr,show(xU g o R i).length+1 - (xU g o R i).length=1 by omega];rfl
noncomputable def Z7:Code:=match(Tryz.f76).body with
 |some c=>c
 |none=>.skip
noncomputable def aP2:Code:=dZ [0] Z7
theorem aZB:RK aP2 [kl 5 84 1,kn 6 5,kf 7 35 6 0,kl 8 5 7]:=⟨by kernel_rfl,by kernel_rfl⟩
noncomputable def aPX:Code:=dZ [1,0,0] Z7
theorem aZv:RK aPX [(none,some 45,.binOp .eql 5 (.tmp 8) (.const (.int .u8 1)) 5),ka 44 45]:=⟨by kernel_rfl,by kernel_rfl⟩
noncomputable def aPW:Code:=dZ [1,0,1,0] Z7
theorem aZu:RK aPW [km 46 0,kl 47 84 1,kn 48 47,kf 49 35 48 1,(none,some 50,.call ⟨.value (.tmp 46),#[(.tmp 49)],#[115]⟩)]:=⟨by kernel_rfl,by kernel_rfl⟩
noncomputable def aPV:Code:=dZ [1,0,1,1,0] Z7
theorem aZt:RK aPV [(none,some 52,.binOp .eql 5 (.tmp 8) (.const (.int .u8 2)) 5),ka 51 52]:=⟨by kernel_rfl,by kernel_rfl⟩
noncomputable def aC2:Code:=dZ [1,0,1,1,1,0,0,0] Z7
theorem aNe:RK aC2 [kl 53 84 1,kn 54 53,kf 55 35 54 2,kf 56 32 55 0,kl 57 5 56,(none,some 58,.binOp .eql 5 (.tmp 57) (.const (.int .u8 1)) 5),km 59 58,kg 6 true (km 60 0),kg 6 true (kl 61 84 1),kg 6 true (kn 62 61),kg 6 true (kf 63 35 62 2),kg 6 true (kf 64 32 63 1),(some (6,true),some 65,.call ⟨.value (.tmp 60),#[(.tmp 64)],#[115]⟩),(some (6,true),some 66,.unOp .not 4 (.tmp 65)),(none,some 67,.pick (.tmp 59) (.tmp 66) (.const (.bool false)))]:=⟨by kernel_rfl,by kernel_rfl⟩
noncomputable def aC1:Code:=dZ [1,0,1,1,1,0,1,0] Z7
theorem aUt:RK aC1 [kl 68 84 1,kn 69 68,kf 70 35 69 3,kf 71 32 70 0,kl 72 5 71,(none,some 73,.binOp .eql 5 (.tmp 72) (.const (.int .u8 1)) 5)]:=⟨by kernel_rfl,by kernel_rfl⟩
noncomputable def aC0:Code:=dZ [1,0,1,1,1,0,1,1,0] Z7
theorem aUs:RK aC0 [km 74 0,kl 75 84 1,kn 76 75,kf 77 35 76 3,kf 78 32 77 1,(none,some 79,.call ⟨.value (.tmp 74),#[(.tmp 78)],#[115]⟩)]:=⟨by kernel_rfl,by kernel_rfl⟩
noncomputable def aP1:Code:=dZ [1,0,1,1,1,1,0] Z7
theorem aZA:RK aP1 [kl 9 84 1,kn 10 9,kf 11 35 10 4,kl 12 33 11,(none,some 13,.call ⟨.builtin .len,#[(.tmp 12)],#[33]⟩),(none,some 14,.move (.const (.int .i64 0)))]:=⟨by kernel_rfl,by kernel_rfl⟩
noncomputable def aP0:Code:=dZ [1,0,1,1,1,1,1,0,0,0] Z7
theorem aZz:RK aP0 [(none,some 15,.binOp .lss 3 (.tmp 14) (.tmp 13) 3)]:=⟨by kernel_rfl,by kernel_rfl⟩
noncomputable def aPZ:Code:=dZ [1,0,1,1,1,1,1,0,0,1,1,0,0,0] Z7
theorem aZy:RK aPZ [km 16 14,ka 3 16]:=⟨by kernel_rfl,by kernel_rfl⟩
noncomputable def aPY:Code:=dZ [1,0,1,1,1,1,1,0,0,1,1,0,0,1,0] Z7
theorem aZx:RK aPY [kl 17 84 1,kn 18 17,kf 19 35 18 4,kl 20 33 19,km 21 3,(none,some 22,.indexAddr 33 (.tmp 20) (.tmp 21)),ka 4 22]:=⟨by kernel_rfl,by kernel_rfl⟩
noncomputable def aLx:Code:=dZ [1,0,1,1,1,1,1,0,0,1,1,0,0,1,1,0] Z7
theorem aUr:RK aLx [km 23 0,km 24 4,kn 25 24,kf 26 79 25 0,(none,some 27,.call ⟨.value (.tmp 23),#[(.tmp 26)],#[115]⟩),(none,some 28,.unOp .not 4 (.tmp 27)),km 29 28,kg 6 false (km 30 4),kg 6 false (kn 31 30),kg 6 false (kf 32 79 31 1),kg 6 false (kl 33 4 32),kg 6 false (km 34 33),kg 11 true (km 35 0),kg 11 true (km 36 4),kg 11 true (kn 37 36),kg 11 true (kf 38 79 37 2),(some (11,true),some 39,.call ⟨.value (.tmp 35),#[(.tmp 38)],#[115]⟩),(some (11,true),some 40,.unOp .not 4 (.tmp 39)),(some (6,false),some 41,.pick (.tmp 34) (.tmp 40) (.const (.bool false))),(none,some 42,.pick (.tmp 29) (.const (.bool true)) (.tmp 41))]:=⟨by kernel_rfl,by kernel_rfl⟩
noncomputable def aLw:Code:=dZ [1,0,1,1,1,1,1,0,0,1,1,1] Z7
theorem aZw:RK aLw [(none,some 43,.binOp .add 3 (.tmp 14) (.const (.int .i64 1)) 3),km 14 43]:=⟨by kernel_rfl,by kernel_rfl⟩
theorem aZC:Z7=(.seq aP2 (.block 0 (.seq aPX (.cond (.tmp 44) aPW (.seq aPV (.cond (.tmp 51) (.seq (.seq aC2 (.cond (.tmp 67) .ret .skip)) (.seq aC1 (.cond (.tmp 73) aC0 .skip))) (.seq aP1 (.block 1 (.loop (.seq aP0 (.seq (.cond (.tmp 15) .skip (.exit 1)) (.seq (.block 2 (.seq aPZ (.seq aPY (.seq aLx (.cond (.tmp 42) .ret .skip))))) aLw)))))))))))):=by kernel_rfl
section
variable{kd fk tk:Int}{bx pe:Nat}{bs:Option Addr}{cp:Nat}{R:List Bool}{W:World}{r:Option Nat}{n ly:Nat}{Q:Exit->Act->World->Prop}{a:Act}
theorem dt0(hS:Sh kd fk tk bx pe bs cp R W)(h:Sl 80 [(0,(.func (.yield ly) #[] #[])),(1,(pa bx 0))] a)(k: ∀a,Sl 80 [(0,(.func (.yield ly) #[] #[])),(1,(pa bx 0)),(8,(.int .u8 kd))] a->Q .normal a W):aP2.wpIn (FR r) n Tryz.prog Q a W:=by
 refine aH aZB (fun ops l hK hk=>?_);refine lV yO (v:=(pa pe 0)) hk h (hS.bx) fun l a hk h=>?_;refine nV (v:=(pa pe 0)) hk h fun l a hk h=>?_;refine sV (v:=(pa pe 0)) hk h (fun _ ho=>dA (b:=pe) (o':=0) aPK ho (sT h)) fun l a hk h=>?_;refine lV DY (v:=(.int .u8 kd)) hk h (hS.kd) fun l a hk h=>?_;exact s0 hk (k _ (cO h))
theorem dt7(hS:Sh kd fk tk bx pe bs cp R W)(h:Sl 80 [(0,(.func (.yield ly) #[] #[])),(1,(pa bx 0)),(8,(.int .u8 kd))] a)(k: ∀a,Sl 80 [(0,(.func (.yield ly) #[] #[])),(1,(pa bx 0)),(8,(.int .u8 kd)),(44,(.bool (decide (kd=1))))] a->Q .normal a W):aPX.wpIn (FR r) n Tryz.prog Q a W:=by
 refine aH aZv (fun ops l hK hk=>?_);refine sV (v:=(.bool (decide (kd=1)))) hk h (fun _ ho=>OY (q:=.u8) ho (sT h) rfl) fun l a hk h=>?_;refine aV (v:=(.bool (decide (kd=1)))) hk h fun l a hk h=>?_;exact s0 hk (k _ (cO h))
theorem dt9(hS:Sh kd fk tk bx pe bs cp R W)(h:Sl 80 [(0,(.func (.yield ly) #[] #[])),(1,(pa bx 0)),(8,(.int .u8 kd))] a)(k: ∀a,Sl 80 [(0,(.func (.yield ly) #[] #[])),(1,(pa bx 0)),(8,(.int .u8 kd)),(51,(.bool (decide (kd=2))))] a->Q .normal a W):aPV.wpIn (FR r) n Tryz.prog Q a W:=by
 refine aH aZt (fun ops l hK hk=>?_);refine sV (v:=(.bool (decide (kd=2)))) hk h (fun _ ho=>OY (q:=.u8) ho (sT h) rfl) fun l a hk h=>?_;refine aV (v:=(.bool (decide (kd=2)))) hk h fun l a hk h=>?_;exact s0 hk (k _ (cO h))
theorem aZG(hS:Sh kd fk tk bx pe bs cp R W)(h:Sl 80 [(0,(.func (.yield ly) #[] #[])),(1,(pa bx 0))] a)(k: ∀a,Sl 80 [(0,(.func (.yield ly) #[] #[])),(1,(pa bx 0)),(73,(.bool (decide (tk=1))))] a->Q .normal a W):aC1.wpIn (FR r) n Tryz.prog Q a W:=by
 refine aH aUt (fun ops l hK hk=>?_);refine lV yO (v:=(pa pe 0)) hk h (hS.bx) fun l a hk h=>?_;refine nV (v:=(pa pe 0)) hk h fun l a hk h=>?_;refine sV (v:=(pa pe 22)) hk h (fun _ ho=>dA (b:=pe) (o':=0) aIc ho (sT h)) fun l a hk h=>?_;refine sV (v:=(pa pe 22)) hk h (fun _ ho=>dA (b:=pe) (o':=22) aBE ho (sT h)) fun l a hk h=>?_;refine lV DY (v:=(.int .u8 tk)) hk h (hS.tk) fun l a hk h=>?_;refine sV (v:=(.bool (decide (tk=1)))) hk h (fun _ ho=>OY (q:=.u8) ho (sT h) rfl) fun l a hk h=>?_;exact s0 hk (k _ (cO h))
theorem dt1(hS:Sh kd fk tk bx pe bs cp R W)(h:Sl 80 [(0,(.func (.yield ly) #[] #[])),(1,(pa bx 0))] a)(k: ∀a,Sl 80 [(0,(.func (.yield ly) #[] #[])),(1,(pa bx 0)),(13,(.int .i64 (R.length:Int))),(14,(.int .i64 0))] a->Q .normal a W):aP1.wpIn (FR r) n Tryz.prog Q a W:=by
 refine aH aZA (fun ops l hK hk=>?_);refine lV yO (v:=(pa pe 0)) hk h (hS.bx) fun l a hk h=>?_;refine nV (v:=(pa pe 0)) hk h fun l a hk h=>?_;refine sV (v:=(pa pe 33)) hk h (fun _ ho=>dA (b:=pe) (o':=0) TL ho (sT h)) fun l a hk h=>?_;refine lV aGQ (v:=(.slice bs R.length cp)) hk h (hS.its) fun l a hk h=>?_;refine sV (v:=(.int .i64 (R.length:Int))) hk h (fun _ ho=>yJ (s:=bs) (c:=cp) IL ho (sT h)) fun l a hk h=>?_;refine sV (v:=(.int .i64 0)) hk h (fun _ ho=>jC ho rfl) fun l a hk h=>?_;exact s0 hk (k _ (cO h))
theorem dt2{i:Nat}(h:Sl 80 [(0,(.func (.yield ly) #[] #[])),(1,(pa bx 0)),(13,(.int .i64 (R.length:Int))),(14,(.int .i64 (i:Int)))] a)(k: ∀a,Sl 80 [(0,(.func (.yield ly) #[] #[])),(1,(pa bx 0)),(13,(.int .i64 (R.length:Int))),(14,(.int .i64 (i:Int))),(15,(.bool (decide ((i:Int)<(R.length:Int)))))] a->Q .normal a W):aP0.wpIn (FR r) n Tryz.prog Q a W:=by
 refine aH aZz (fun ops l hK hk=>?_);refine sV (v:=(.bool (decide ((i:Int)<(R.length:Int))))) hk h (fun _ ho=>BA (q:=.i64) ho (sT h) (sT h)) fun l a hk h=>?_;exact s0 hk (k _ (cO h))
theorem dt3{i:Nat}(h:Sl 80 [(0,(.func (.yield ly) #[] #[])),(1,(pa bx 0)),(13,(.int .i64 (R.length:Int))),(14,(.int .i64 (i:Int)))] a)(k: ∀a,Sl 80 [(0,(.func (.yield ly) #[] #[])),(1,(pa bx 0)),(3,(.int .i64 (i:Int))),(13,(.int .i64 (R.length:Int))),(14,(.int .i64 (i:Int)))] a->Q .normal a W):aPZ.wpIn (FR r) n Tryz.prog Q a W:=by
 refine aH aZy (fun ops l hK hk=>?_);refine mV (v:=(.int .i64 (i:Int))) hk h fun l a hk h=>?_;refine aV (v:=(.int .i64 (i:Int))) hk h fun l a hk h=>?_;exact s0 hk (k _ (cO h))
theorem dt4{i g o:Nat}(hi:i<R.length)(hS:Sh kd fk tk bx pe (some ⟨g,o,none⟩) cp R W)(h:Sl 80 [(0,(.func (.yield ly) #[] #[])),(1,(pa bx 0)),(3,(.int .i64 (i:Int))),(13,(.int .i64 (R.length:Int))),(14,(.int .i64 (i:Int)))] a)(k: ∀a,Sl 80 [(0,(.func (.yield ly) #[] #[])),(1,(pa bx 0)),(4,(pa g (o+i * 21))),(13,(.int .i64 (R.length:Int))),(14,(.int .i64 (i:Int)))] a->Q .normal a W):aPY.wpIn (FR r) n Tryz.prog Q a W:=by
 refine aH aZx (fun ops l hK hk=>?_);refine lV yO (v:=(pa pe 0)) hk h (hS.bx) fun l a hk h=>?_;refine nV (v:=(pa pe 0)) hk h fun l a hk h=>?_;refine sV (v:=(pa pe 33)) hk h (fun _ ho=>dA (b:=pe) (o':=0) TL ho (sT h)) fun l a hk h=>?_;refine lV aGQ (v:=(.slice (some ⟨g,o,none⟩) R.length cp)) hk h hS.its fun l a hk h=>?_;refine mV (v:=(.int .i64 (i:Int))) hk h fun l a hk h=>?_;refine sV (v:=(pa g (o+i * 21))) hk h (fun _ ho=>tK (g:=g) (off:=o) (n:=R.length) (cp:=cp) IL info79 hi ho (sT h) (sT h)) fun l a hk h=>?_;refine aV (v:=(pa g (o+i * 21))) hk h fun l a hk h=>?_;exact s0 hk (k _ (cO h))
theorem dt6{i:Nat}(hw:IntKind.i64.wrap ((i:Int)+1)=(i:Int)+1)(h:Sl 80 [(0,(.func (.yield ly) #[] #[])),(1,(pa bx 0)),(13,(.int .i64 (R.length:Int))),(14,(.int .i64 (i:Int)))] a)(k: ∀a,Sl 80 [(0,(.func (.yield ly) #[] #[])),(1,(pa bx 0)),(13,(.int .i64 (R.length:Int))),(14,(.int .i64 ((i:Int)+1)))] a->Q .normal a W):aLw.wpIn (FR r) n Tryz.prog Q a W:=by
 refine aH aZw (fun ops l hK hk=>?_);refine sV (v:=(.int .i64 ((i:Int)+1))) hk h (fun _ ho=>JM ho (sT h) rfl hw) fun l a hk h=>?_;refine mV (v:=(.int .i64 ((i:Int)+1))) hk h fun l a hk h=>?_;exact s0 hk (k _ (cO h))
theorem dt8(hS:Sh kd fk tk bx pe bs cp R W)(h:Sl 80 [(0,(.func (.yield ly) #[] #[])),(1,(pa bx 0))] a){X:World->Prop}(hy:YieldAt (FR none) 0 Tryz.prog ly #[(pa pe 1)] W fun e W1=>e=.returned (.bool true)/\X W1)(k: ∀a W1,X W1->Sl 80 [(0,(.func (.yield ly) #[] #[])),(1,(pa bx 0))] a->Q .normal a W1):aPW.wpIn (FR r) 0 Tryz.prog Q a W:=by
 refine aH aZu (fun ops l hK hk=>?_);refine mV (v:=(.func (.yield ly) #[] #[])) hk h fun l a hk h=>?_;refine lV yO (v:=(pa pe 0)) hk h (hS.bx) fun l a hk h=>?_;refine nV (v:=(pa pe 0)) hk h fun l a hk h=>?_;refine sV (v:=(pa pe 1)) hk h (fun _ ho=>dA (b:=pe) (o':=0) aPJ ho (sT h)) fun l a hk h=>?_;refine sy hk h (by decide) (sT h) (vs:= #[(pa pe 1)]) (by rw[aFZ,sT h (v:=(pa pe 1))]) hy (fun W1 hx l a hk h=>?_);exact s0 hk (k _ _ hx (cO h))
theorem aZF(hS:Sh kd fk tk bx pe bs cp R W)(h:Sl 80 [(0,(.func (.yield ly) #[] #[])),(1,(pa bx 0))] a){X:World->Prop}(hy:YieldAt (FR none) 0 Tryz.prog ly #[(pa pe 23)] W fun e W1=>e=.returned (.bool true)/\X W1)(k: ∀a W1,X W1->Sl 80 [(0,(.func (.yield ly) #[] #[])),(1,(pa bx 0))] a->Q .normal a W1):aC0.wpIn (FR r) 0 Tryz.prog Q a W:=by
 refine aH aUs (fun ops l hK hk=>?_);refine mV (v:=(.func (.yield ly) #[] #[])) hk h fun l a hk h=>?_;refine lV yO (v:=(pa pe 0)) hk h (hS.bx) fun l a hk h=>?_;refine nV (v:=(pa pe 0)) hk h fun l a hk h=>?_;refine sV (v:=(pa pe 22)) hk h (fun _ ho=>dA (b:=pe) (o':=0) aIc ho (sT h)) fun l a hk h=>?_;refine sV (v:=(pa pe 23)) hk h (fun _ ho=>dA (b:=pe) (o':=22) aId ho (sT h)) fun l a hk h=>?_;refine sy hk h (by decide) (sT h) (vs:= #[(pa pe 23)]) (by rw[aFZ,sT h (v:=(pa pe 23))]) hy (fun W1 hx l a hk h=>?_);exact s0 hk (k _ _ hx (cO h))
theorem aUu(hS:Sh kd fk tk bx pe bs cp R W)(hf:fk=1)(h:Sl 80 [(0,(.func (.yield ly) #[] #[])),(1,(pa bx 0))] a){X:World->Prop}(hy:YieldAt (FR none) 0 Tryz.prog ly #[(pa pe 12)] W fun e W1=>e=.returned (.bool true)/\X W1)(k: ∀a W1,X W1->Sl 80 [(0,(.func (.yield ly) #[] #[])),(1,(pa bx 0)),(67,.bool false)] a->Q .normal a W1):aC2.wpIn (FR r) 0 Tryz.prog Q a W:=by
 refine aH aNe (fun ops l hK hk=>?_);refine lV yO (v:=(pa pe 0)) hk h (hS.bx) fun l a hk h=>?_;refine nV (v:=(pa pe 0)) hk h fun l a hk h=>?_;refine sV (v:=(pa pe 11)) hk h (fun _ ho=>dA (b:=pe) (o':=0) aBD ho (sT h)) fun l a hk h=>?_;refine sV (v:=(pa pe 11)) hk h (fun _ ho=>dA (b:=pe) (o':=11) aBE ho (sT h)) fun l a hk h=>?_;refine lV DY (v:=(.int .u8 fk)) hk h (hS.fk) fun l a hk h=>?_;refine sV (v:=(.bool true)) hk h (fun _ ho=>vV ho (sT h) rfl hf) fun l a hk h=>?_;refine mV (v:=(.bool true)) hk h fun l a hk h=>?_;refine mG (v:=(.func (.yield ly) #[] #[])) hK hk h 59 fun l a hk h=>?_;refine sG (v:=(pa pe 0)) hK hk h 59 (fun _ ho=>kD yO ho (sT h) hS.bx) fun l a hk h=>?_;refine sG (v:=(pa pe 0)) hK hk h 59 (fun _ ho=>AY ho (sT h)) fun l a hk h=>?_;refine sG (v:=(pa pe 11)) hK hk h 59 (fun _ ho=>dA (b:=pe) (o':=0) aBD ho (sT h)) fun l a hk h=>?_;refine sG (v:=(pa pe 12)) hK hk h 59 (fun _ ho=>dA (b:=pe) (o':=11) aId ho (sT h)) fun l a hk h=>?_;refine syg hK hk h (d0:=59) rfl (by simp) (by decide) (sT h) (vs:= #[(pa pe 12)]) (by rw[aFZ,sT h (v:=(pa pe 12))]) hy (fun W1 hx l a hk h=>?_);refine sG (v:=(.bool false)) hK hk h 59 (fun _ ho=>VX (b:=true) ho (sT h)) fun l a hk h=>?_;refine sV (v:=(.bool false)) hk h (fun _ ho=>jM ho (sT h) (sT h)) fun l a hk h=>?_;exact s0 hk (k _ _ hx (cO h))
theorem aUv(hS:Sh kd fk tk bx pe bs cp R W)(hf: ¬fk=1)(h:Sl 80 [(0,(.func (.yield ly) #[] #[])),(1,(pa bx 0))] a)(k: ∀a,Sl 80 [(0,(.func (.yield ly) #[] #[])),(1,(pa bx 0)),(67,.bool false)] a->Q .normal a W):aC2.wpIn (FR r) n Tryz.prog Q a W:=by
 refine aH aNe (fun ops l hK hk=>?_);refine lV yO (v:=(pa pe 0)) hk h (hS.bx) fun l a hk h=>?_;refine nV (v:=(pa pe 0)) hk h fun l a hk h=>?_;refine sV (v:=(pa pe 11)) hk h (fun _ ho=>dA (b:=pe) (o':=0) aBD ho (sT h)) fun l a hk h=>?_;refine sV (v:=(pa pe 11)) hk h (fun _ ho=>dA (b:=pe) (o':=11) aBE ho (sT h)) fun l a hk h=>?_;refine lV DY (v:=(.int .u8 fk)) hk h (hS.fk) fun l a hk h=>?_;refine sV (v:=(.bool false)) hk h (fun _ ho=>aOd ho (sT h) rfl hf) fun l a hk h=>?_;refine mV (v:=(.bool false)) hk h fun l a hk h=>?_;refine sX hK hk h 59 fun l a hk h=>?_;refine sX hK hk h 59 fun l a hk h=>?_;refine sX hK hk h 59 fun l a hk h=>?_;refine sX hK hk h 59 fun l a hk h=>?_;refine sX hK hk h 59 fun l a hk h=>?_;refine sX hK hk h 59 fun l a hk h=>?_;refine sX hK hk h 59 fun l a hk h=>?_;refine sV (v:=(.bool false)) hk h (fun _ ho=>mZ ho (sT h) rfl) fun l a hk h=>?_;exact s0 hk (k _ (cO h))
theorem aZD{i g o:Nat}(h:Sl 80 [(0,(.func (.yield ly) #[] #[])),(1,(pa bx 0)),(4,(pa g (o+i * 21))),(13,(.int .i64 (R.length:Int))),(14,(.int .i64 (i:Int)))] a){X Y:World->Prop}(hy:YieldAt (FR none) 0 Tryz.prog ly #[(pa g (o+i * 21))] W fun e W1=>e=.returned (.bool true)/\X W1)(hx: ∀W1,X W1->W1.cell? ⟨g,o+i * 21+10,none⟩=some (.bool true)/\YieldAt (FR none) 0 Tryz.prog ly #[(pa g (o+i * 21+11))] W1 fun e W2=>e=.returned (.bool true)/\Y W2)(k: ∀a W1,Y W1->Sl 80 [(0,(.func (.yield ly) #[] #[])),(1,(pa bx 0)),(13,.int .i64 (R.length:Int)),(14,.int .i64 (i:Int)),(42,.bool false)] a->Q .normal a W1):aLx.wpIn (FR r) 0 Tryz.prog Q a W:=by
 refine aH aUr (fun ops l hK hk=>?_);refine mV (v:=(.func (.yield ly) #[] #[])) hk h fun l a hk h=>?_;refine mV (v:=(pa g (o+i * 21))) hk h fun l a hk h=>?_;refine nV (v:=(pa g (o+i * 21))) hk h fun l a hk h=>?_;refine sV (v:=(pa g (o+i * 21))) hk h (fun _ ho=>dA (b:=g) (o':=o+i * 21) aH9 ho (sT h)) fun l a hk h=>?_;refine sy hk h (by decide) (sT h) (vs:= #[(pa g (o+i * 21))]) (by rw[aFZ,sT h (v:=(pa g (o+i * 21)))]) hy (fun W1 hX l a hk h=>?_);obtain⟨hc,hy2⟩:=hx W1 hX;refine sV (v:=(.bool false)) hk h (fun _ ho=>VX (b:=true) ho (sT h)) fun l a hk h=>?_;refine mV (v:=(.bool false)) hk h fun l a hk h=>?_;refine mG (v:=(pa g (o+i * 21))) hK hk h 29 fun l a hk h=>?_;refine sG (v:=(pa g (o+i * 21))) hK hk h 29 (fun _ ho=>AY ho (sT h)) fun l a hk h=>?_;refine sG (v:=(pa g (o+i * 21+10))) hK hk h 29 (fun _ ho=>dA (b:=g) (o':=o+i * 21) aH8 ho (sT h)) fun l a hk h=>?_;refine sG (v:=(.bool true)) hK hk h 29 (fun _ ho=>kD aS3 ho (sT h) hc) fun l a hk h=>?_;refine mG (v:=(.bool true)) hK hk h 29 fun l a hk h=>?_;refine mG (v:=(.func (.yield ly) #[] #[])) hK hk h 34 fun l a hk h=>?_;refine mG (v:=(pa g (o+i * 21))) hK hk h 34 fun l a hk h=>?_;refine sG (v:=(pa g (o+i * 21))) hK hk h 34 (fun _ ho=>AY ho (sT h)) fun l a hk h=>?_;refine sG (v:=(pa g (o+i * 21+11))) hK hk h 34 (fun _ ho=>dA (b:=g) (o':=o+i * 21) aPI ho (sT h)) fun l a hk h=>?_;refine syg hK hk h (d0:=34) rfl (by simp) (by decide) (sT h) (vs:= #[(pa g (o+i * 21+11))]) (by rw[aFZ,sT h (v:=(pa g (o+i * 21+11)))]) hy2 (fun W2 hY l a hk h=>?_);refine sG (v:=(.bool false)) hK hk h 34 (fun _ ho=>VX (b:=true) ho (sT h)) fun l a hk h=>?_;refine sG (v:=(.bool false)) hK hk h 29 (fun _ ho=>jM ho (sT h) (sT h)) fun l a hk h=>?_;refine sV (v:=(.bool false)) hk h (fun _ ho=>mZ ho (sT h) (sT h)) fun l a hk h=>?_;exact s0 hk (k _ _ hY (cO h))
theorem aZE{i g o:Nat}(h:Sl 80 [(0,(.func (.yield ly) #[] #[])),(1,(pa bx 0)),(4,(pa g (o+i * 21))),(13,(.int .i64 (R.length:Int))),(14,(.int .i64 (i:Int)))] a){X:World->Prop}(hy:YieldAt (FR none) 0 Tryz.prog ly #[(pa g (o+i * 21))] W fun e W1=>e=.returned (.bool true)/\X W1)(hx: ∀W1,X W1->W1.cell? ⟨g,o+i * 21+10,none⟩=some (.bool false))(k: ∀a W1,X W1->Sl 80 [(0,(.func (.yield ly) #[] #[])),(1,(pa bx 0)),(13,.int .i64 (R.length:Int)),(14,.int .i64 (i:Int)),(42,.bool false)] a->Q .normal a W1):aLx.wpIn (FR r) 0 Tryz.prog Q a W:=by
 refine aH aUr (fun ops l hK hk=>?_);refine mV (v:=(.func (.yield ly) #[] #[])) hk h fun l a hk h=>?_;refine mV (v:=(pa g (o+i * 21))) hk h fun l a hk h=>?_;refine nV (v:=(pa g (o+i * 21))) hk h fun l a hk h=>?_;refine sV (v:=(pa g (o+i * 21))) hk h (fun _ ho=>dA (b:=g) (o':=o+i * 21) aH9 ho (sT h)) fun l a hk h=>?_;refine sy hk h (by decide) (sT h) (vs:= #[(pa g (o+i * 21))]) (by rw[aFZ,sT h (v:=(pa g (o+i * 21)))]) hy (fun W1 hX l a hk h=>?_);have hc:=hx W1 hX;refine sV (v:=(.bool false)) hk h (fun _ ho=>VX (b:=true) ho (sT h)) fun l a hk h=>?_;refine mV (v:=(.bool false)) hk h fun l a hk h=>?_;refine mG (v:=(pa g (o+i * 21))) hK hk h 29 fun l a hk h=>?_;refine sG (v:=(pa g (o+i * 21))) hK hk h 29 (fun _ ho=>AY ho (sT h)) fun l a hk h=>?_;refine sG (v:=(pa g (o+i * 21+10))) hK hk h 29 (fun _ ho=>dA (b:=g) (o':=o+i * 21) aH8 ho (sT h)) fun l a hk h=>?_;refine sG (v:=(.bool false)) hK hk h 29 (fun _ ho=>kD aS3 ho (sT h) hc) fun l a hk h=>?_;refine mG (v:=(.bool false)) hK hk h 29 fun l a hk h=>?_;refine sX hK hk h 34 fun l a hk h=>?_;refine sX hK hk h 34 fun l a hk h=>?_;refine sX hK hk h 34 fun l a hk h=>?_;refine sX hK hk h 34 fun l a hk h=>?_;refine sX hK hk h 34 fun l a hk h=>?_;refine sX hK hk h 34 fun l a hk h=>?_;refine sG (v:=(.bool false)) hK hk h 29 (fun _ ho=>mZ ho (sT h) rfl) fun l a hk h=>?_;refine sV (v:=(.bool false)) hk h (fun _ ho=>mZ ho (sT h) (sT h)) fun l a hk h=>?_;exact s0 hk (k _ _ hX (cO h))
end
theorem pV{P:Program}{r:Option Nat}{n:Nat}{Q:Exit->Act->World->Prop}{c:Code}(I:Nat->Act->World->Prop)(round: ∀m a w,I m a w->c.wpIn (FR r) n P (Exit.then (fun a' w'=> ∃m',m'<m/\I m' a' w') Q) a w)
 {m:Nat} {a:Act} {w:World} (h0:I m a w):(Code.loop c).wpIn (FR r) n P Q a w:=by
 have key: ∀k m a w,m<k->I m a w->Code.roundsIn (FR r) n P c Q k a w:=by
  intro k
  induction k with
  |zero=>intro m a w h;omega
  |succ k ih=>
   intro m a w hm hI;rw[roundsIn_succ];refine wpIn_mono (round m a w hI) fun e a' w' h=>?_
   cases e with
   |normal=>obtain⟨m',h1,h2⟩:=h;exact ih m' a' w' (by omega) h2
   |_=>exact h
 exact wpIn_loop_rounds (m+1) (key (m+1) m a w (by omega) h0)
theorem jJ{P:Program}{r:Option Nat}{n N:Nat}{S:List (Nat × Value)}{Q:Exit->Act->World->Prop}{x y:Code}{a:Act}{W:World}{k:Nat}{t:Bool}(h:Sl N S a)(hm:(k,.bool t) ∈ S)(h1:t=true->x.wpIn (FR r) n P Q a W)(h2:t=false->y.wpIn (FR r) n P Q a W):(Code.cond (.tmp k) x y).wpIn (FR r) n P Q a W:=
 wpIn_cond_split (I8 h hm) h1 h2
section
variable{kd fk tk:Int}{bx pe:Nat}{bs:Option Addr}{cp:Nat}{R:List Bool}{W:World}{ly:Nat}
theorem GZ{S:List (Nat × Value)}{Y:World->Prop}{a:Act}(h:Sl 80 S a)(hY:Y W):bodyPost Tryz.prog Tryz.f76 (fun e W1=>(∃v,e=.returned v)/\Y W1) .normal a W:=(F6 h Tryz.results76 ⟨⟨_,rfl⟩,hY⟩).1
theorem aBQ{X:Nat->World->Prop}(hX: ∀k W,X k W->Sh kd fk tk bx pe bs cp R W)
 (hY: ∀k W,k<(DL kd fk tk pe bs R).length->X k W->YieldAt (FR none) 0 Tryz.prog ly #[pa ((DL kd fk tk pe bs R).getD k (0,0)).1 ((DL kd fk tk pe bs R).getD k (0,0)).2] W fun e W1=>e=.returned (.bool true)/\X (k+1) W1)
 (h0:X 0 W) (hn:R.length<=1000000):CallsIn (FR none) 0 Tryz.prog 76 #[.func (.yield ly) #[] #[],pa bx 0] W fun e W1=>(∃v,e=.returned v)/\X (DL kd fk tk pe bs R).length W1:=by
 refine fO (args:=[.func (.yield ly) #[] #[],pa bx 0]) (N:=80) Tryz.func76 (show _=some Z7 by kernel_rfl) Tryz.ntmps76 (by simp) fun a0 h=>?_;rw[aZC];refine aEK (dt0 (hX 0 W h0) h fun a h=>?_);refine aP7 (aEK (dt7 (hX 0 W h0) h fun a h=>?_));refine jJ (t:=decide (kd=1)) h (by simp) (fun k1=>?_) (fun k1=>?_)
 . have k1:=aHY k1;have e:DL kd fk tk pe bs R=[(pe,1)]:=by unfold DL;rw[aFw k1]
   rw[e]at hY ⊢;exact dt8 (hX 0 W h0) (cO h) (hY 0 W (by simp) h0) fun a W1 hx h=>GZ h hx
 have k1:=aOC k1;refine aEK (dt9 (ly:=ly) (hX 0 W h0) (cO h) fun a h=>?_);refine jJ (t:=decide (kd=2)) h (by simp) (fun k2=>?_) (fun k2=>?_)
 . have k2:=aHY k2;have e:DL kd fk tk pe bs R=(if fk=1 then[(pe,12)]else[])++(if tk=1 then[(pe,23)]else[]):=by unfold DL;rw[aFv k1,aFw k2]
   rw[e]at hY ⊢;have h:Sl 80 [(0,.func (.yield ly) #[] #[]),(1,pa bx 0)] a:=cO h;have tl: ∀(k:Nat) (a:Act) (W1:World),X k W1->k=(if fk=1 then[(pe,12)]else([]:List (Nat × Nat))).length->Sl 80 [(0,.func (.yield ly) #[] #[]),(1,pa bx 0)] a->
    (Code.seq aC1 (.cond (.tmp 73) aC0 .skip)).wpIn (FR none) 0 Tryz.prog (Exit.inBlock 0 (bodyPost Tryz.prog Tryz.f76 fun e W1=>(∃v,e=.returned v)/\X ((if fk=1 then[(pe,12)]else[])++(if tk=1 then[(pe,23)]else[]):List (Nat × Nat)).length W1)) a W1:=by
    intro k a W1 hx ek h;refine aEK (aZG (hX k W1 hx) h fun a h=>?_);refine jJ (t:=decide (tk=1)) h (by simp) (fun t1=>?_) (fun t1=>?_)
    . have t1:=aHY t1;have hy:=hY k W1 (by rw[ek,aFw t1];simp) hx;have e2:((if fk=1 then[(pe,12)]else[])++(if tk=1 then[(pe,23)]else[]):List (Nat × Nat)).getD k (0,0)=(pe,23):=by
       rw[ek,aFw t1];by_cases f1:fk=1<;>simp[f1]
      rw[e2]at hy;refine aZF (hX k W1 hx) (cO h) hy fun a W2 hx2 h=>GZ h ?_;rw[aFw t1,aM5,<-ek];exact hx2
    have t1:=aOC t1;refine aNH (GZ h ?_);rw[aFv t1,aUz,<-ek];exact hx
   by_cases f1:fk=1
   . have hy:=hY 0 W (by rw[aFw f1];simp) h0;have e2:((if fk=1 then[(pe,12)]else[])++(if tk=1 then[(pe,23)]else[]):List (Nat × Nat)).getD 0 (0,0)=(pe,12):=by rw[aFw f1];rfl
     rw[e2]at hy;refine aEK (aEK (aUu (hX 0 W h0) f1 h hy fun a W1 hx h=>?_));exact aPo (sT h) (aNH (tl 1 a W1 hx (by rw[aFw f1];rfl) (cO h)))
   refine aEK (aEK (aUv (hX 0 W h0) f1 h fun a h=>?_));exact aPo (sT h) (aNH (tl 0 a W h0 (by rw[aFv f1];rfl) (cO h)))
 have k2:=aOC k2;obtain⟨g,o,eD,hgo⟩: ∃g o,DL kd fk tk pe bs R=xU g o R R.length/\ ∀i,i<R.length->bs=some ⟨g,o,none⟩:=by
  have hs:=(hX 0 W h0).rg;unfold DL;rw[aFv k1,aFv k2]
  cases bs with
  |none=>exact⟨0,0,rfl,fun i hi=>by obtain⟨g,o,h,_⟩:=hs i hi;cases h⟩
  |some x=>
   obtain⟨g,o,m⟩:=x;exact⟨g,o,rfl,fun i hi=>by obtain⟨g',o',h,_⟩:=hs i hi;cases h;rfl⟩
 rw[eD]at hY ⊢;refine aEK (dt1 (ly:=ly) (hX 0 W h0) (cO h) fun a h=>?_);refine aP7 (pV (fun m a w=> ∃i,m+i=R.length/\X (xU g o R i).length w/\Sl 80 [(0,.func (.yield ly) #[] #[]),(1,pa bx 0),(13,.int .i64 (R.length:Int)),(14,.int .i64 (i:Int))] a) ?_ (m:=R.length) ⟨0,rfl,h0,h⟩);rintro m a w ⟨i,hm,hx,h⟩;refine aEK (dt2 h fun a h=>?_);refine aEK (jJ (t:=decide ((i:Int)<(R.length:Int))) h (by simp) (fun hi=>aNH ?_) (fun hi=>a0T ?_))
 . have hi:i<R.length:=by have:=aHY hi;omega
   obtain⟨⟨d1,l1⟩,d2⟩:=aPw g o R hi;have hb:=hgo i hi;subst hb;obtain⟨g',o',eb,hc⟩:=(hX _ w hx).rg i hi
   cases eb
   refine aEK (aP7 (aEK (dt3 (ly:=ly) (bx:=bx) (R:=R) (i:=i) (cO h) fun a h=>?_)));refine aEK (dt4 hi (hX _ w hx) h fun a h=>?_);have hy1:=hY _ w l1 hx;rw[d1]at hy1;have fin: ∀a W2,X (xU g o R (i+1)).length W2->Sl 80 [(0,.func (.yield ly) #[] #[]),(1,pa bx 0),(13,.int .i64 (R.length:Int)),(14,.int .i64 (i:Int)),(42,.bool false)] a->
    (Code.cond (.tmp 42) .ret .skip).wpIn (FR none) 0 Tryz.prog (Exit.inBlock 2 (Exit.then (aLw.wpIn (FR none) 0 Tryz.prog (Exit.then (fun a' w'=> ∃m',m'<m/\ ∃i,m'+i=R.length/\X (xU g o R i).length w'/\Sl 80 [(0,.func (.yield ly) #[] #[]),(1,pa bx 0),(13,.int .i64 (R.length:Int)),(14,.int .i64 (i:Int))] a')
      (Exit.inBlock 1 (Exit.inBlock 0 (bodyPost Tryz.prog Tryz.f76 fun e W1=>(∃v,e=.returned v)/\X (xU g o R R.length).length W1))))) (Exit.then (fun a' w'=> ∃m',m'<m/\ ∃i,m'+i=R.length/\X (xU g o R i).length w'/\Sl 80 [(0,.func (.yield ly) #[] #[]),(1,pa bx 0),(13,.int .i64 (R.length:Int)),(14,.int .i64 (i:Int))] a')
      (Exit.inBlock 1 (Exit.inBlock 0 (bodyPost Tryz.prog Tryz.f76 fun e W1=>(∃v,e=.returned v)/\X (xU g o R R.length).length W1)))))) a W2:=by
    intro a W2 hx2 h;refine aPo (sT h) (aNH ?_);refine dt6 (ly:=ly) (bx:=bx) (R:=R) (i:=i) (by have hb:IntKind.i64.bits=64:=rfl;unfold IntKind.wrap;simp[IntKind.signed,hb];omega) (cO h) fun a h=>?_;exact⟨m - 1,by omega,i+1,by omega,hx2,by rw[aVM];exact h⟩
   by_cases hr:R.getD i false=true
   . obtain⟨d2,l2⟩:=d2 hr;refine aEK (aZD (X:=X ((xU g o R i).length+1)) (Y:=X ((xU g o R i).length+1+1)) h hy1 (fun W1 hx1=>?_) fun a W2 hx2 h=>fin a W2 ?_ h)
     . obtain⟨g',o',eb,hc⟩:=(hX _ W1 hx1).rg i hi
       cases eb
       have hy2:=hY _ W1 l2 hx1;rw[d2]at hy2;exact⟨hr ▸ hc,hy2⟩
     rw[rY,hr,aM5];exact hx2
   have hr:R.getD i false=false:=by simpa using hr
   refine aEK (aZE (X:=X ((xU g o R i).length+1)) h hy1 (fun W1 hx1=>?_) fun a W2 hx2 h=>fin a W2 ?_ h)
   . obtain⟨g',o',eb,hc⟩:=(hX _ W1 hx1).rg i hi
     cases eb
     exact hr ▸ hc
   rw[rY,hr,aM5];exact hx2
 have hi:i=R.length:=by have:=aOC hi;omega
 subst hi;exact GZ (Y:=fun W1=>X _ W1) h hx
end
end Rf
end
section
open Go.RowKit
namespace Rf
open Sk (oD lH key)
open Ev (Ls aMS zH count_set qA l9 uQ backOk binding)
noncomputable def aft(o:Oper):List Nat:=(o.after.toList.filter fun e=>binding e).map (·.on)
section
variable{P:Program}{r:Option Nat}{n N:Nat}{ops:Array Oper}{Q:Exit->Act->World->Prop}{S:List (Nat × Value)}{W:World}
theorem ZM(hb:backOk ops.toList 0=true){m:Nat}(hch: ∀i o,ops[i]? =some o->m<i-> ∃e,e ∈ o.after.toList/\binding e=true/\e.on=i - 1):
 ∀(d k fuel:Nat) (listed:Array Bool) (a:Act) (w:World),k+d=ops.size->m<=k->listed.size=ops.size->listed.toList.count false<=fuel->(∀j,Ls listed j↔j<k)->wpListIn (FR r) n P ops Q (ops.toList.drop k) a w->wpAnyIn (FR r) n P .any ops Q fuel listed a w:=by
 intro d
 induction d with
 | zero=>
  intro k fuel listed a w hk hm hsz hc hl h;have hr:Region.ready .any ops listed=[]:=by
   rw[List.eq_nil_iff_forall_not_mem];intro i hi;obtain⟨o,ho,hn,_⟩:=(l9 hsz).1 hi;have:=(aFU.1 ho).1;exact hn ((hl i).2 (by omega))
  rw[a15 (by simp;omega)]at h;exact wpAnyIn_done hr h fuel
 | succ d ih=>
  intro k fuel listed a w hk hm hsz hc hl h;have hkl:k<ops.size:=by omega
  have hnk: ¬Ls listed k:=fun c=>by have:=(hl k).1 c;omega
  cases fuel with
  |zero=>exact absurd (qA (by omega) (by omega)) hnk
  | succ fuel=>
   refine⟨fun hr=>absurd (uQ hb hsz hr k hkl) hnk,fun i hi=>?_⟩;obtain⟨o,ho,hn,haf⟩:=(l9 hsz).1 hi;have hil:=(aFU.1 ho).1;obtain rfl:i=k:=by
    have h1: ¬i<k:=fun c=>hn ((hl i).2 c);rcases aLq k i with c|c
    . obtain⟨e,he,hbe,heo⟩:=hch i o ho (by omega);have:=(hl _).1 (haf e he hbe);omega
    omega
   have hd:ops.toList.drop i=o::ops.toList.drop (i+1):=by
    rw[List.drop_eq_getElem_cons (by simpa using hkl)]
    congr 1
    have:=aFU.1 ho;obtain⟨_,rfl⟩:=this;simp
   rw[hd]at h;unfold wpListIn at h;have hset: ∀j,Ls (listed.setIfInBounds i true) j↔j<i+1:=fun j=>by
    rw[zH (by omega)];constructor
    . rintro(c|c)
      . have:=(hl j).1 c;omega
      omega
    intro c;rcases aLq j i with c2|c2
    . exact .inl ((hl j).2 c2)
    exact .inr (by omega)
   have nx: ∀a w,wpListIn (FR r) n P ops Q (ops.toList.drop (i+1)) a w->wpAnyIn (FR r) n P .any ops Q fuel (listed.setIfInBounds i true) a w:=fun a w h=>ih (i+1) fuel _ a w (by omega) (by omega) (by simp;omega) (count_set (by omega) hn hc) hset h;unfold wpOpIn;rw[ho];dsimp only
   split at h
   . rename_i hw;rw[aFw hw];exact Oper.wpIn_mono nx h
   rename_i hw;rw[aFv hw];exact⟨h.1,nx _ _ h.2⟩
theorem P6 (hb:backOk ops.toList 0=true) {m:Nat} {D:Nat->Nat} {V:Nat->Value} (hm:m<=ops.size)
 (hops: ∀i,i<m-> ∃o,ops[i]? =some o/\o.dst=some (D i)/\nG o.op=false/\D i<N/\(∀e ∈ S,e.1≠D i)/\ ∀a,Sl N S a->(∀j ∈ aft o,j<m/\a.tmps[D j]? =some (V j))->(Region.wanted o (yielded ops a.tmps)=true/\(execOp a.eval o).run P W=.ok (.value (V i)) W)\/(Region.wanted o (yielded ops a.tmps)=false/\V i=undef))
 (hinj: ∀i j,i<m->j<m->D i=D j->i=j)
 (hcl:m<ops.size-> ∀L:Nat->Prop,(∀i o,i<=m->ops[i]? =some o->L i-> ∀j ∈ aft o,L j)->L m-> ∀i,i<m->L i)
 (hch: ∀i o,ops[i]? =some o->m<i-> ∃e,e ∈ o.after.toList/\binding e=true/\e.on=i - 1)
 (hfin: ∀a,Sl N S a->(∀j,j<m->a.tmps[D j]? =some (V j))->wpListIn (FR r) n P ops Q (ops.toList.drop m) a W):
 ∀(fuel:Nat) (listed:Array Bool) (a:Act),listed.size=ops.size->listed.toList.count false<=fuel->Sl N S a->(∀j,j<m->Ls listed j->a.tmps[D j]? =some (V j))->(∀i o,i<m->ops[i]? =some o->Ls listed i-> ∀j ∈ aft o,Ls listed j)->(∀j,m<=j-> ¬Ls listed j)->
  wpAnyIn (FR r) n P .any ops Q fuel listed a W:=by
 intro fuel
 induction fuel with
 |zero=>
  intro listed a hsz hc hs hv hcd hno;refine ZM hb hch (ops.size - m) m _ listed a W (by omega) (aDT _) hsz hc (fun j=>⟨fun h=>?_,fun h=>qA (by omega) (by omega)⟩) (hfin a hs fun j hj=>hv j hj (qA (by omega) (by omega)));rcases aLq j m with c|c
  . exact c
  exact absurd h (hno j c)
 | succ fuel ih=>
  intro listed a hsz hc hs hv hcd hno
  by_cases hall: ∀j,j<m->Ls listed j
  . refine ZM hb hch (ops.size - m) m _ listed a W (by omega) (aDT _) hsz hc (fun j=>⟨fun h=>?_,hall j⟩) (hfin a hs fun j hj=>hv j hj (hall j hj));rcases aLq j m with c|c
    . exact c
    exact absurd h (hno j c)
  refine⟨fun hr=>absurd (fun j hj=>uQ hb hsz hr j (by omega)) hall,fun i hi=>?_⟩;obtain⟨o,ho,hn,haf⟩:=(l9 hsz).1 hi;have hil:=(aFU.1 ho).1;have aLl: ∀j ∈ aft o,Ls listed j:=fun j hj=>by
   obtain⟨e,he,rfl⟩:=aMm.1 hj;obtain⟨h1,h2⟩:=aWc.1 he;exact haf e h1 h2
  rcases aLq i m with him|him
  . obtain⟨o',ho',hd,hp,hN,hS,hrun⟩:=hops i him;rw[ho]at ho';cases ho';have hrun:=hrun a hs fun j hj=>by
     have hjm:j<m:=by
      rcases aLq j m with c|c
      . exact c
      exact absurd (aLl j hj) (hno j c)
     exact⟨hjm,hv j hjm (aLl j hj)⟩
    have nx:wpAnyIn (FR r) n P .any ops Q fuel (listed.setIfInBounds i true) (a.put o.dst (V i)) W->wpOpIn (FR r) n P ops Q i (wpAnyIn (FR r) n P .any ops Q fuel (listed.setIfInBounds i true)) a W:=by
     intro h;unfold wpOpIn;rw[ho];dsimp only;rcases hrun with⟨hw,hrun⟩|⟨hw,hu⟩
     . rw[aFw hw];refine BF (by unfold aBb;cases hq:o.op<;>first|rfl|(rw[hq]at hp;cases hp)) ?_;unfold Oper.wp;rw[hrun];exact h
     rw[aFv (by rw[hw];decide)];rw[hu]at h;exact⟨fun _ _=>trivial,h⟩
    refine nx ?_;rw[hd];refine ih _ _ (by simp;omega) (count_set (by omega) hn hc) ⟨by simp[Act.put,hs.size],hs.defs,fun e he=>?_⟩ (fun j hj hl=>?_) (fun k ok hk hok hl j hj=>?_) (fun j hj hl=>?_)
    . simp only[Act.put];rw[aJp (aQK (hS e he))];exact hs.val e he
    . rw[zH (by omega)]at hl;simp only[Act.put]
      by_cases c:D i=D j
      . obtain rfl:=hinj i j him hj c;simp[hs.size,hN]
      rw[aJp c];rcases hl with hl|hl
      . exact hv j hj hl
      exact absurd (by rw[hl]) c
    . rw[zH (by omega)]at hl ⊢;rcases hl with hl|rfl
      . exact .inl (hcd k ok hk hok hl j hj)
      rw[ho]at hok;cases hok;exact .inl (aLl j hj)
    rw[zH (by omega)]at hl;rcases hl with hl|rfl
    . exact hno j hj hl
    omega
  exfalso
  by_cases aY7:m<i
  . obtain⟨e,he,hbe,heo⟩:=hch i o ho aY7;exact hno e.on (by omega) (haf e he hbe)
  obtain rfl:i=m:=by omega
  refine hall fun j hj=>(hcl hil (fun j=>j=i\/Ls listed j) (fun k ok hk hok hl j hj=>?_) (.inl rfl) j hj).resolve_left (by omega)
  by_cases c:k=i
  . subst c;rw[ho]at hok;cases hok;exact .inr (aLl j hj)
  rcases hl with hl|hl
  . exact absurd hl c
  exact .inr (hcd k ok (by omega) hok hl j hj)
def clB(A:List (List Nat))(m:Nat):Bool:=(List.range m).all fun i=>(List.range (m+1)).any fun k=>Nat.blt i k&&(A.getD k []).contains i
def chB(A:List (List Nat))(m:Nat):Bool:=(List.range A.length).all fun i=>Nat.ble i m||(A.getD i []).contains (i - 1)
theorem aBa{a b:Nat}(h:Nat.blt a b=true):a<b:=by rw[Nat.blt_eq]at h;exact h
theorem aNg{A:List (List Nat)}{m:Nat}(h:clB A m=true){L:Nat->Prop}(hL: ∀k,k<=m->L k-> ∀j ∈ A.getD k [],L j)(h0:L m): ∀i,i<m->L i:=by
 have key: ∀d i,i+d=m->L i:=by
  intro d
  induction d using Nat.strongRecOn with
  |ind d ih=>
   intro i hi;rcases a1j d with c|c
   . have:i=m:=by omega
     exact this ▸ h0
   have:=aJr.1 h i (aUc.2 (by omega));obtain⟨k,hk,h2⟩:=a0Q.1 this;obtain⟨h3,h4⟩:=(aEx _ _).mp h2;have hk:=aUc.1 hk;have h3:=aBa h3;exact hL k (by omega) (ih (m - k) (by omega) k (by omega)) i (by simpa using h4)
 exact fun i hi=>key (m - i) i (by omega)
theorem PS {c:Code} {a:Act} {Pz:List (Nat × List Nat × Op × Value)} {T:List (Option (Tmp × Bool) × Option Tmp × Op)} {TA:List (List Nat)} (hm:P.follows .mixedOrders=true)
 (hk:lH c=true/\(oD c).map key=Pz.map (fun x=>(none,some x.1,x.2.2.1))++T) (ha:(oD c).map aft=Pz.map (·.2.1)++TA) (hb:backOk (oD c) 0=true) (hT:T≠[])
 (hdf:Pz.all (fun x=> !nG x.2.2.1&&Nat.blt x.1 N&&x.2.1.all (fun j=>Nat.blt j Pz.length))=true) (hnd:(Pz.map (·.1)).Nodup) (hS: ∀e ∈ S,e.1 ∉ Pz.map (·.1)) (hcl:clB (Pz.map (·.2.1)++TA) Pz.length=true) (hch:chB (Pz.map (·.2.1)++TA) Pz.length=true)
 (h:Sl N S a)
 (hrun: ∀(i:Nat) (x:Nat × List Nat × Op × Value),Pz[i]? =some x-> ∀(o:Oper) a,o.op=x.2.2.1->Sl N (x.2.1.map (fun j=>((Pz.getD j (0,[],.move (.tmp 0),undef)).1,(Pz.getD j (0,[],.move (.tmp 0),undef)).2.2.2))++S) a->(execOp a.eval o).run P W.drew=.ok (.value x.2.2.2) W.drew)
 (hfin: ∀ops l a,ops.toList.map key=Pz.map (fun x=>(none,some x.1,x.2.2.1))++T->l.map key=T->Sl N (Pz.map (fun x=>(x.1,x.2.2.2))++S) a->wpListIn (FR r) n P ops Q l a W.drew):c.wpIn (FR r) n P Q a W:=by
 obtain⟨hd,hk⟩:=hk
 cases c with
 | region id ops b=>
  obtain rfl:b=true:=hd;change ops.toList.map key=_ at hk;change ops.toList.map aft=_ at ha;change backOk ops.toList 0=true at hb;have hlen:Pz.length+T.length=ops.size:=by have:=aQA List.length hk;simpa using this.symm
  have hTl:0<T.length:=by cases T with|nil=>exact absurd rfl hT|cons x t=>simp
  have opk: ∀i o,ops[i]? =some o->(Pz.map (fun x=>((none:Option (Tmp × Bool)),some x.1,x.2.2.1))++T)[i]? =some (key o)/\(Pz.map (·.2.1)++TA)[i]? =some (aft o):=fun i o ho=>by
   rw[<-hk,<-ha,aFx,aFx,aEP,ho];exact⟨rfl,rfl⟩
  have aI0: ∀i o,ops[i]? =some o->(Pz.map (·.2.1)++TA).getD i []=aft o:=fun i o ho=>by rw[List.getD,(opk i o ho).2];rfl
  refine a1C hm (P6 (S:=S) (N:=N) (m:=Pz.length) (D:=fun i=>(Pz.getD i (0,[],.move (.tmp 0),undef)).1) (V:=fun i=>(Pz.getD i (0,[],.move (.tmp 0),undef)).2.2.2) hb (by omega) (fun i hi=>?_) (fun i j hi hj e=>?_) (fun _ L hL h0=>?_) (fun i o ho hi=>?_) (fun a hs hv=>?_) _ _ _ (by simp) (by simp[List.count_replicate]) h (fun j hj hl=>?_) (fun i o hi ho hl=>?_) (fun j hj hl=>?_))
  . have ho:ops[i]? =some ops[i]:=aJn (by omega);obtain⟨k1,k2⟩:=opk i _ ho;have hx:Pz[i]? =some Pz[i]:=aEH hi;rw[aFT (by simpa using hi),aFx,hx]at k1 k2;simp only[aMl,aUl,key,aNl]at k1 k2;have gx:Pz.getD i (0,[],.move (.tmp 0),undef)=Pz[i]:=by rw[List.getD,hx];rfl
    have hq:=aJr.1 hdf _ (aLE hx);simp only[aEx,a0G]at hq;have hN:=aBa hq.1.2;refine⟨ops[i],ho,by rw[gx];exact k1.2.1.symm,by rw[<-k1.2.2];exact hq.1.1,by rw[gx];exact hN,fun e he c=>hS e he ?_,fun a hs hj=>?_⟩
    . rw[c,gx];exact aMm.2 ⟨_,aLE hx,rfl⟩
    rw[gx];refine .inl ⟨U2 k1.1.symm,hrun i _ hx _ a k1.2.2.symm ⟨hs.size,hs.defs,fun e he=>?_⟩⟩;rcases aJh.1 he with he|he
    . obtain⟨j,hj1,rfl⟩:=aMm.1 he;rw[k2]at hj1;exact(hj j hj1).2
    exact hs.val e he
  . simp only[List.getD,aEH hi,aEH hj,aV3]at e;exact(a0P (xs:=Pz.map (·.1)) (h₀:=by simpa using hi) (h₁:=by simpa using hj) hnd).1 (by simpa using e)
  . refine aNg hcl (fun k hk hl j hj=>?_) h0;have ho:ops[k]? =some ops[k]:=aJn (by omega);rw[aI0 k _ ho]at hj;exact hL k _ hk ho hl j hj
  . have hil:=(aFU.1 ho).1;have hA:(Pz.map (·.2.1)++TA).length=ops.size:=by have:=aQA List.length ha;simpa using this.symm
    have:=aJr.1 hch i (aUc.2 (by omega));rw[aI0 i o ho]at this;rcases(aL6 _ _).mp this with c|c
    . have:=aIl c;omega
    have c:i - 1 ∈ aft o:=by simpa using c
    obtain⟨e,he,h3⟩:=aMm.1 c;obtain⟨h1,h2⟩:=aWc.1 he;exact⟨e,h1,h2,h3⟩
  . refine hfin ops _ a hk (by rw[aYa,hk,List.drop_left' (by simp)]) ⟨hs.size,hs.defs,fun e he=>?_⟩;rcases aJh.1 he with he|he
    . obtain⟨x,hx,rfl⟩:=aMm.1 he;obtain⟨j,hj⟩:=aUh hx;have hjl:=(aEX.1 hj).1;have:=hv j hjl;rw[List.getD,hj]at this;exact this
    exact hs.val e he
  . exfalso;unfold Ls at hl;simp[Array.getD]at hl
  . exfalso;unfold Ls at hl;simp[Array.getD]at hl
  unfold Ls at hl;simp[Array.getD]at hl
 |_=>
  have:=aQA List.length hk;simp[oD]at this;exact absurd (aQS.1 (by omega)) hT
abbrev PzG:=Option (Tmp × Bool) × Nat × List Nat × Op × Value
abbrev pzd:PzG:=(none,0,[],.move (.tmp 0),undef)
def aJ2(Pz:List PzG)(x:PzG):Bool:=match x.1 with
 |none=>true
 |some (j,b)=>match(Pz.getD j pzd).2.2.2.2 with
  | .bool b'=>b'==b
  |_=>false
theorem aP4 {c:Code} {a:Act} {Pz:List PzG} {T:List (Option (Tmp × Bool) × Option Tmp × Op)} {TA:List (List Nat)} (hm:P.follows .mixedOrders=true)
 (hk:lH c=true/\(oD c).map key=Pz.map (fun x=>(x.1,some x.2.1,x.2.2.2.1))++T) (ha:(oD c).map aft=Pz.map (·.2.2.1)++TA) (hb:backOk (oD c) 0=true) (hne:Pz≠[])
 (hdf:Pz.all (fun x=> !nG x.2.2.2.1&&Nat.blt x.2.1 N&&(match x.1 with|none=>true|some (j,_)=>x.2.2.1.contains j))=true) (hnd:(Pz.map (·.2.1)).Nodup) (hS: ∀e ∈ S,e.1 ∉ Pz.map (·.2.1)) (hcl:T=[]\/clB (Pz.map (·.2.2.1)++TA) Pz.length=true) (hch:chB (Pz.map (·.2.2.1)++TA) Pz.length=true)
 (h:Sl N S a)
 (hrun: ∀(i:Nat) (x:PzG),Pz[i]? =some x->(aJ2 Pz x=false/\x.2.2.2.2=undef)\/(aJ2 Pz x=true/\ ∀(o:Oper) a,o.op=x.2.2.2.1->Sl N (x.2.2.1.map (fun j=>((Pz.getD j pzd).2.1,(Pz.getD j pzd).2.2.2.2))++S) a->(execOp a.eval o).run P W.drew=.ok (.value x.2.2.2.2) W.drew))
 (hfin: ∀ops l a,ops.toList.map key=Pz.map (fun x=>(x.1,some x.2.1,x.2.2.2.1))++T->l.map key=T->Sl N (Pz.map (fun x=>(x.2.1,x.2.2.2.2))++S) a->wpListIn (FR r) n P ops Q l a W.drew):c.wpIn (FR r) n P Q a W:=by
 obtain⟨hd,hk⟩:=hk
 cases c with
 | region id ops b=>
  obtain rfl:b=true:=hd;change ops.toList.map key=_ at hk;change ops.toList.map aft=_ at ha;change backOk ops.toList 0=true at hb;have hlen:Pz.length+T.length=ops.size:=by have:=aQA List.length hk;simpa using this.symm
  have opk: ∀i o,ops[i]? =some o->(Pz.map (fun x=>(x.1,some x.2.1,x.2.2.2.1))++T)[i]? =some (key o)/\(Pz.map (·.2.2.1)++TA)[i]? =some (aft o):=fun i o ho=>by
   rw[<-hk,<-ha,aFx,aFx,aEP,ho];exact⟨rfl,rfl⟩
  have aI0: ∀i o,ops[i]? =some o->(Pz.map (·.2.2.1)++TA).getD i []=aft o:=fun i o ho=>by rw[List.getD,(opk i o ho).2];rfl
  have aZH: ∀i,i<Pz.length->(ops[i]?).bind (·.dst)=some (Pz.getD i pzd).2.1:=fun i hi=>by
   have ho:ops[i]? =some ops[i]:=aJn (by omega);obtain⟨k1,_⟩:=opk i _ ho;have hx:Pz[i]? =some Pz[i]:=aEH hi;rw[aFT (by simpa using hi),aFx,hx]at k1;simp only[aMl,aUl,key,aNl]at k1;rw[ho,List.getD,hx];exact k1.2.1.symm
  refine a1C hm (P6 (S:=S) (N:=N) (m:=Pz.length) (D:=fun i=>(Pz.getD i pzd).2.1) (V:=fun i=>(Pz.getD i pzd).2.2.2.2) hb (by omega) (fun i hi=>?_) (fun i j hi hj e=>?_) (fun hlt L hL h0=>?_) (fun i o ho hi=>?_) (fun a hs hv=>?_) _ _ _ (by simp) (by simp[List.count_replicate]) h (fun j hj hl=>?_) (fun i o hi ho hl=>?_) (fun j hj hl=>?_))
  . have ho:ops[i]? =some ops[i]:=aJn (by omega);obtain⟨k1,k2⟩:=opk i _ ho;have hx:Pz[i]? =some Pz[i]:=aEH hi;rw[aFT (by simpa using hi),aFx,hx]at k1 k2;simp only[aMl,aUl,key,aNl]at k1 k2;have gx:Pz.getD i pzd=Pz[i]:=by rw[List.getD,hx];rfl
    have hq:=aJr.1 hdf _ (aLE hx);simp only[aEx,a0G]at hq;have hN:=aBa hq.1.2;refine⟨ops[i],ho,by rw[gx];exact k1.2.1.symm,by rw[<-k1.2.2];exact hq.1.1,by rw[gx];exact hN,fun e he c=>hS e he ?_,fun a hs hj=>?_⟩
    . rw[c,gx];exact aMm.2 ⟨_,aLE hx,rfl⟩
    rw [gx];have hw:Region.wanted ops[i] (yielded ops a.tmps)=aJ2 Pz Pz[i]:=by
     unfold Region.wanted aJ2;rw[<-k1.1]
     cases hg:(Pz[i]).1 with
     |none=>rfl
     | some p=>
      obtain⟨j,b⟩:=p;have hq2:=hq.2;rw[hg]at hq2;have hja:j ∈ aft ops[i]:=by rw[<-k2];simpa using hq2
      obtain⟨hj1,hj2⟩:=hj j hja;have hy:yielded ops a.tmps j=match(Pz.getD j pzd).2.2.2.2 with
       | .bool b=>some b
       |_=>none:=by
       unfold yielded;rw[aZH j hj1,aQZ,hj2]
       cases(Pz.getD j pzd).2.2.2.2<;>rfl
      show(yielded ops a.tmps j==some b)=(match(Pz.getD j pzd).2.2.2.2 with
       | .bool b'=>b'==b
       |_=>false)
      rw[hy];generalize (Pz.getD j pzd).2.2.2.2=u
      cases u<;>first|rfl|(rename_i b';cases b'<;>cases b<;>rfl)
    rcases hrun i _ hx with⟨h1,h2⟩|⟨h1,h2⟩
    . exact .inr ⟨hw.trans h1,h2⟩
    refine .inl ⟨hw.trans h1,h2 _ a k1.2.2.symm ⟨hs.size,hs.defs,fun e he=>?_⟩⟩;rcases aJh.1 he with he|he
    . obtain⟨j,hj1,rfl⟩:=aMm.1 he;rw[k2]at hj1;exact(hj j hj1).2
    exact hs.val e he
  . simp only[List.getD,aEH hi,aEH hj,aV3]at e;exact(a0P (xs:=Pz.map (·.2.1)) (h₀:=by simpa using hi) (h₁:=by simpa using hj) hnd).1 (by simpa using e)
  . rcases hcl with hT|hcl
    . rw[hT]at hlen;simp at hlen;omega
    refine aNg hcl (fun k hk hl j hj=>?_) h0
    by_cases hks:k<ops.size
    . have ho:ops[k]? =some ops[k]:=aJn hks;rw[aI0 k _ ho]at hj;exact hL k _ hk ho hl j hj
    have hA:(Pz.map (·.2.2.1)++TA).length=ops.size:=by have:=aQA List.length ha;simpa using this.symm
    rw[List.getD,aTZ (by omega)]at hj
    cases hj
  . have hil:=(aFU.1 ho).1;have hA:(Pz.map (·.2.2.1)++TA).length=ops.size:=by have:=aQA List.length ha;simpa using this.symm
    have:=aJr.1 hch i (aUc.2 (by omega));rw[aI0 i o ho]at this;rcases(aL6 _ _).mp this with c|c
    . have:=aIl c;omega
    have c:i - 1 ∈ aft o:=by simpa using c
    obtain⟨e,he,h3⟩:=aMm.1 c;obtain⟨h1,h2⟩:=aWc.1 he;exact⟨e,h1,h2,h3⟩
  . refine hfin ops _ a hk (by rw[aYa,hk,List.drop_left' (by simp)]) ⟨hs.size,hs.defs,fun e he=>?_⟩;rcases aJh.1 he with he|he
    . obtain⟨x,hx,rfl⟩:=aMm.1 he;obtain⟨j,hj⟩:=aUh hx;have hjl:=(aEX.1 hj).1;have:=hv j hjl;rw[List.getD,hj]at this;exact this
    exact hs.val e he
  . exfalso;unfold Ls at hl;simp[Array.getD]at hl
  . exfalso;unfold Ls at hl;simp[Array.getD]at hl
  unfold Ls at hl;simp[Array.getD]at hl
 |_=>
  have:=aQA List.length hk;simp[oD]at this;exact absurd (aQS.1 (by omega)) hne
end
end Rf
end
end Go.Proofs.YtebgcnnhokclaaaGreatDoor
