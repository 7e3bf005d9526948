/- The law: its walk,its plain law,the card. -/
import Derived.Test.YtebgcnnhokclaaaGreatDoorRows
import Derived.Test.YtebgcnnhokclaaaGreatDoorCards
import Derived.Test.YtebgcnnhokclaaaGreatDoorTie
import Derived.Test.YtebgcnnhokclaaaGreatDoorP2
import Derived.Test.YtebgcnnhokclaaaGreatDoorP4
import Derived.Test.YtebgcnnhokclaaaGreatDoorP5
import Derived.OpenShut
import Derived.Deep.Slices
import Derived.Deep.Strs
import Derived.Lib.SmallJoins
import Derived.Laws.IdiomArrays
import Derived.ProofKit
import Derived.WalkKit
import Derived.Deep.DeepHandedRow
import Derived.Lib.LaidTab
import Derived.ChangeAlike
import Derived.LaidMore
import Derived.LaidHandle
import Derived.SevenTiedAt
import Derived.MakeChecks
import Derived.Deep.DeepWitnessRef
import Derived.RowKit
set_option linter.unusedVariables false
set_option linter.unusedSimpArgs false
set_option linter.unusedSectionVars false
set_option maxRecDepth 1000000
set_option maxHeartbeats 8000000
namespace Go.Proofs.YtebgcnnhokclaaaGreatDoor
abbrev aQT:=@Nat.succ_pos
abbrev a1N:=@Decidable.byContradiction
section
open Go.RowKit
namespace Rf
open Sk (oD lH key aY nH eH dH bD aW qQ nT jI exV kT cZ bP yS z0 Rt SS Same)
open Bk (Dt)
open Ev (fF)
theorem aS1:one Tryz.prog 97=true:=by kernel_rfl
noncomputable def chC:Code:=match(Tryz.f35).body with
 |some c=>c
 |none=>.skip
noncomputable def aU0:Code:=dZ [0] chC
theorem aZ9:RK aU0 [(none,some 2,.box 35 (.tmp 0)),(none,some 3,.box 97 (.tmp 1)),(none,some 4,.alloc 35),kc 5 (.int .i64 0)]:=⟨by kernel_rfl,by kernel_rfl⟩
noncomputable def aUZ:Code:=dZ [1,0,0] chC
theorem aZ8:RK aUZ [kl 11 35 2,(none,some 12,.call ⟨.value (.func 19),#[(.tmp 11)],#[35]⟩),ka 6 12]:=⟨by kernel_rfl,by kernel_rfl⟩
noncomputable def aUY:Code:=dZ [1,0,1,0] chC
theorem aZ7:RK aUY [km 13 6,(none,some 14,.binOp .neq 38 (.tmp 13) (.const (.int .i64 0)) 38)]:=⟨by kernel_rfl,by kernel_rfl⟩
noncomputable def aZ0:Code:=dZ [1,0,1,1,0,0] chC
noncomputable def aUX:Code:=dZ [1,1,0] chC
theorem aZ6:RK aUX [kl 17 35 2,(none,some 18,.call ⟨.value (.func 55),#[(.tmp 17)],#[35]⟩),(none,some 7,.alloc 35),ks' 35 7 18]:=⟨by kernel_rfl,by kernel_rfl⟩
noncomputable def aUW:Code:=dZ [1,1,1,0] chC
theorem aZ5:RK aUW [(none,some 8,.alloc 3),(none,none,.store 3 (.tmp 8) (.const (.int .i64 0)))]:=⟨by kernel_rfl,by kernel_rfl⟩
noncomputable def aUV:Code:=dZ [1,1,1,1,0,0] chC
theorem aZ4:RK aUV [(none,some 19,.call ⟨.value (.func 29),#[(.tmp 7)],#[84]⟩)]:=⟨by kernel_rfl,by kernel_rfl⟩
noncomputable def aUU:Code:=dZ [1,1,1,1,0,1,0,0] chC
theorem aZ3:RK aUU [ka 10 21]:=⟨by kernel_rfl,by kernel_rfl⟩
noncomputable def aQc:Code:=dZ [1,1,1,1,0,1,0,1,0,0] chC
theorem aZ2:RK aQc [kl 22 97 3,kl 23 3 8,km 24 10,(none,some 25,.call ⟨.value (.tmp 22),#[(.tmp 23),(.tmp 24)],#[3,96]⟩)]:=⟨by kernel_rfl,by kernel_rfl⟩
noncomputable def aQb:Code:=dZ [1,1,1,1,0,1,0,1,0,1] chC
theorem aZ1:RK aQb [kl 26 3 8,(none,some 27,.binOp .add 3 (.tmp 26) (.const (.int .i64 1)) 3),ks' 3 8 27]:=⟨by kernel_rfl,by kernel_rfl⟩
noncomputable def aNh:Code:=dZ [1,1,1,1,1,0] chC
theorem aU1:RK aNh [kl 28 35 7,ks' 35 4 28,kc 5 (.int .i64 0)]:=⟨by kernel_rfl,by kernel_rfl⟩
theorem a0a:chC=(.seq aU0 (.seq (.seq aUZ (.seq aUY (.cond (.tmp 14) (.seq aZ0 .ret) .skip))) (.seq aUX (.seq aUW (.seq (.seq aUV (.block 0 (.rangeFunc (.tmp 19) #[20,21] aUU (.block 1 (.seq aQc aQb))))) (.seq aNh .ret)))))):=by kernel_rfl
theorem aLy {kd fk tk:Int} {pe:Nat} {bs:Option Addr} {R:List Bool} (hb: ∀i,i<R.length-> ∃g o,bs=some ⟨g,o,none⟩) {k:Nat} (hk:k<(DL kd fk tk pe bs R).length):
 ((DL kd fk tk pe bs R).getD k (0,0)).1=pe/\(((DL kd fk tk pe bs R).getD k (0,0)).2=1\/((DL kd fk tk pe bs R).getD k (0,0)).2=12\/((DL kd fk tk pe bs R).getD k (0,0)).2=23)\/
 ∃g o i,bs=some ⟨g,o,none⟩/\i<R.length/\((DL kd fk tk pe bs R).getD k (0,0)).1=g/\(((DL kd fk tk pe bs R).getD k (0,0)).2=o+i * 21\/((DL kd fk tk pe bs R).getD k (0,0)).2=o+i * 21+11):=by
 let Z:Nat × Nat->Prop:=fun p=>p.1=pe/\(p.2=1\/p.2=12\/p.2=23)\/ ∃g o i,bs=some ⟨g,o,none⟩/\i<R.length/\p.1=g/\(p.2=o+i * 21\/p.2=o+i * 21+11)
 have key : ∀p ∈ DL kd fk tk pe bs R,Z p:=by
  intro p hp;unfold DL at hp
  split at hp
  . rw[aJo.1 hp];exact .inl ⟨rfl,.inl rfl⟩
  split at hp
  . rcases aJh.1 hp with hp|hp
    . split at hp
      . rw[aJo.1 hp];exact .inl ⟨rfl,.inr (.inl rfl)⟩
      cases hp
    split at hp
    . rw[aJo.1 hp];exact .inl ⟨rfl,.inr (.inr rfl)⟩
    cases hp
  have key: ∀g o n,n<=R.length->(∀i,i<n->bs=some ⟨g,o,none⟩)->p ∈ xU g o R n->Z p:=by
   intro g o n
   induction n with
   |zero=>intro _ _ h;cases h
   |succ n ih=>
    intro hn hbs h;rcases aJh.1 h with h|h
    . exact ih (by omega) (fun i hi=>hbs i (by omega)) h
    rcases aGv.1 h with rfl|h
    . exact .inr ⟨g,o,n,hbs n (by omega),by omega,rfl,.inl rfl⟩
    split at h
    . rw[aJo.1 h];exact .inr ⟨g,o,n,hbs n (by omega),by omega,rfl,.inr rfl⟩
    cases h
  exact key _ _ _ (aDT _) (fun i hi=>by obtain⟨g,o,e⟩:=hb i hi;rw[e]) hp
 have:=key ((DL kd fk tk pe bs R).getD k (0,0)) (by rw[List.getD,aEH hk];exact aVJ hk);exact this
def Wr(b off:Nat)(W W1:World):Prop:=(∃m:Int,W1.cell? ⟨b,off,none⟩=some (.int .u8 m))/\ ∀b' off',¬(b'=b/\off'=off)->W1.cell? ⟨b',off',none⟩=W.cell? ⟨b',off',none⟩
theorem aNT{kd fk tk:Int}{bx pe cp:Nat}{bs:Option Addr}{R:List Bool}{PT:Nat->Nat}{W W1:World}(h:Sp kd fk tk bx pe bs cp R PT W)(hne:bx≠pe/\ ∀g o,bs=some ⟨g,o,none⟩->0<R.length->g≠pe/\g≠bx)
 {k i:Nat} (hk:k<(DL kd fk tk pe bs R).length) (hi:i<3) (hw:Wr ((DL kd fk tk pe bs R).getD k (0,0)).1 (((DL kd fk tk pe bs R).getD k (0,0)).2+7+i) W W1):Sp kd fk tk bx pe bs cp R PT W1:=by
 obtain⟨⟨m,hm⟩,ho⟩:=hw;have hb: ∀i,i<R.length-> ∃g o,bs=some ⟨g,o,none⟩:=fun i hi=>let⟨g,o,e,_⟩:=h.sh.rg i hi;⟨g,o,e⟩
 have hp:=aLy (kd:=kd) (fk:=fk) (tk:=tk) (pe:=pe) hb hk;have cpe: ∀j,j<=33->(j<=7\/j=11\/j=22\/j=33\/(12<=j/\j<=18)\/(23<=j/\j<=29))->W1.cell? ⟨pe,j,none⟩=W.cell? ⟨pe,j,none⟩:=fun j h1 h2=>ho _ _ (fun⟨e1,e2⟩=>by
  rcases hp with⟨p1,p2⟩|⟨g,o,a,q1,q2,q3,q4⟩
  . omega
  exact(hne.2 g o q1 (by omega)).1 (by omega))
 have cg: ∀g o a j,bs=some ⟨g,o,none⟩->a<R.length->j<21->(j<=6\/(10<=j/\j<=17))->W1.cell? ⟨g,o+a * 21+j,none⟩=W.cell? ⟨g,o+a * 21+j,none⟩:=fun g o a j h1 h2 h3 h4=>ho _ _ (fun⟨e1,e2⟩=>by
  rcases hp with⟨p1,p2⟩|⟨g',o',a',q1,q2,q3,q4⟩
  . exact(hne.2 g o h1 (by omega)).1 (by omega)
  rw[h1]at q1;cases q1;omega)
 refine⟨⟨?_,?_,?_,?_,?_,fun a ha=>?_⟩,fun k' hk'=>?_,fun k' hk' i' hi'=>?_⟩
 . refine(ho _ _ (fun⟨e1,e2⟩=>?_)).trans h.sh.bx;rcases hp with⟨p1,p2⟩|⟨g,o,a,q1,q2,q3,q4⟩
   . exact hne.1 (by omega)
   exact(hne.2 g o q1 (by omega)).2 (by omega)
 . exact(cpe 0 (by omega) (by omega)).trans h.sh.kd
 . exact(cpe 11 (by omega) (by omega)).trans h.sh.fk
 . exact(cpe 22 (by omega) (by omega)).trans h.sh.tk
 . exact(cpe 33 (by omega) (by omega)).trans h.sh.its
 . obtain⟨g,o,e,hc⟩:=h.sh.rg a ha;exact⟨g,o,e,(cg g o a 10 e ha (by omega) (by omega)).trans hc⟩
 . obtain⟨mo,da,h1,h2,h3⟩:=h.mo k' hk';have hp':=aLy (kd:=kd) (fk:=fk) (tk:=tk) (pe:=pe) hb hk';refine⟨mo,da,?_,?_,h3⟩
   . refine Eq.trans ?_ h1;rcases hp' with⟨p1,p2⟩|⟨g,o,a,q1,q2,q3,q4⟩
     . rw[p1];rcases p2 with p|p|p<;>rw[p]<;>exact cpe _ (by omega) (by omega)
     rw[q3];rcases q4 with p|p<;>rw[p]
     . exact cg g o a 5 q1 q2 (by omega) (by omega)
     exact cg g o a 16 q1 q2 (by omega) (by omega)
   refine Eq.trans ?_ h2;rcases hp' with⟨p1,p2⟩|⟨g,o,a,q1,q2,q3,q4⟩
   . rw[p1];rcases p2 with p|p|p<;>rw[p]<;>exact cpe _ (by omega) (by omega)
   rw[q3];rcases q4 with p|p<;>rw[p]
   . exact cg g o a 6 q1 q2 (by omega) (by omega)
   exact cg g o a 17 q1 q2 (by omega) (by omega)
 by_cases c:((DL kd fk tk pe bs R).getD k' (0,0)).1=((DL kd fk tk pe bs R).getD k (0,0)).1/\((DL kd fk tk pe bs R).getD k' (0,0)).2+7+i'=((DL kd fk tk pe bs R).getD k (0,0)).2+7+i
 . rw[c.1,c.2];exact⟨m,hm⟩
 obtain⟨m',hm'⟩:=h.mks k' hk' i' hi';exact⟨m',(ho _ _ c).trans hm'⟩
def itb(x:Xp)(b:Nat):Prop:=0<x.L.length/\ ∃o,x.bs=some ⟨b,o,none⟩
theorem aCt{x:Xp}{bx pe:Nat}{PT:Nat->Nat}{W W1:World}(h:Sp x.kd x.fk x.tk bx pe x.bs x.cp x.R PT W)(hk: ∀b,b=pe\/b=bx\/itb x b->W1.heap[b]? =W.heap[b]?):Sp x.kd x.fk x.tk bx pe x.bs x.cp x.R PT W1:=by
 have hb: ∀i,i<x.R.length-> ∃g o,x.bs=some ⟨g,o,none⟩:=fun i hi=>let⟨g,o,e,_⟩:=h.sh.rg i hi;⟨g,o,e⟩
 have hl:=x.yU;have cc: ∀b,b=pe\/b=bx\/itb x b-> ∀o,W1.cell? ⟨b,o,none⟩=W.cell? ⟨b,o,none⟩:=fun b hb o=>aOx (hk b hb);have dd: ∀k,k<(DL x.kd x.fk x.tk pe x.bs x.R).length-> ∀o,W1.cell? ⟨((DL x.kd x.fk x.tk pe x.bs x.R).getD k (0,0)).1,o,none⟩=W.cell? ⟨((DL x.kd x.fk x.tk pe x.bs x.R).getD k (0,0)).1,o,none⟩:=fun k hk o=>cc _ (by
  rcases aLy (kd:=x.kd) (fk:=x.fk) (tk:=x.tk) (pe:=pe) hb hk with⟨p,_⟩|⟨g,o,i,q1,q2,q3,_⟩
  . exact .inl p
  exact .inr (.inr ⟨by omega,o,by rw[q3];exact q1⟩)) o
 refine⟨⟨(cc bx (by simp) 0).trans h.sh.bx,(cc pe (by simp) 0).trans h.sh.kd,(cc pe (by simp) 11).trans h.sh.fk,(cc pe (by simp) 22).trans h.sh.tk,(cc pe (by simp) 33).trans h.sh.its,fun i hi=>?_⟩,fun k hk=>?_,fun k hk i hi=>?_⟩
 . obtain⟨g,o,e,hc⟩:=h.sh.rg i hi;exact⟨g,o,e,(cc g (.inr (.inr ⟨by omega,o,e⟩)) _).trans hc⟩
 . obtain⟨mo,da,h1,h2,h3⟩:=h.mo k hk;exact⟨mo,da,(dd k hk _).trans h1,(dd k hk _).trans h2,h3⟩
 obtain⟨m,hm⟩:=h.mks k hk i hi;exact⟨m,(dd k hk _).trans hm⟩
def QE(w:World)(NP:Nat)(fh:FuncId)(caps:Array Value):Prop:=(∀args w',(callFunc fh args).run Tryz.prog w'=.ok (.enter fh args) w')/\
 ∀q b off mk W,q<NP->w.heap.size<=W.heap.size->(∀c,c<w.heap.size->W.heap[c]? =w.heap[c]?)->W.cell? ⟨b,off,none⟩=some (.int .u8 mk)->W.there b off 1->
  Calls Tryz.prog fh (#[.int .i64 (q:Int),pa b off]++caps) W fun e W1=>(∃v,e=.returned v)/\ ∃m:Int,W1.heap=(W.setCells b off [.int .u8 m]).heap/\Os W W1
def Ic(w:World)(x:Xp)(how:Value)(pe bx b8 b3 k:Nat)(B:Nat->Prop)(W:World):Prop:=
 ((∀b,b<w.heap.size->W.heap[b]? =w.heap[b]?)/\w.heap.size<=W.heap.size)/\Sp x.kd x.fk x.tk bx pe x.bs x.cp x.R x.PT W/\(∃cs,fF W pe 35 cs/\cs.length=36/\ ∀v ∈ cs,v.oneCell'=true)/\(∀b,itb x b-> ∃cs,fF W b 79 cs)/\
   fF W bx 84 [pa pe 0]/\fF W b8 3 [.int .i64 (k:Int)]/\fF W b3 97 [how]/\(∀b,B b↔b<w.heap.size\/b=pe\/b=bx\/b=b8\/b=b3\/itb x b)
section
variable{w:World}{x:Xp}{how:Value}{pe bx b8 b3:Nat}
theorem aBv:Inv (Ic w x how pe bx b8 b3):=by
 refine⟨fun k B W h b hb=>?_,fun k B W W' h hs hk=>?_⟩
 . obtain⟨⟨h1,h1'⟩,h2,⟨cs,h3,_⟩,h4,h5,h6,h7,h8⟩:=h;rcases(h8 b).1 hb with h|rfl|rfl|rfl|rfl|h
   . omega
   . exact dH h3
   . exact dH h5
   . exact dH h6
   . exact dH h7
   obtain⟨cs,h⟩:=h4 b h;exact dH h
 obtain⟨⟨h1,h1'⟩,h2,⟨cs,h3,h3'⟩,h4,h5,h6,h7,h8⟩:=h;have e:=fun b hb=>hk b ((h8 b).2 hb);refine⟨⟨fun b hb=>(e b (.inl hb)).trans (h1 b hb),by omega⟩,aCt h2 (fun b hb=>e b (by rcases hb with h|h|h<;>simp[h])),⟨cs,aT h3 (e pe (by simp)),h3'⟩,fun b hb=>?_,aT h5 (e bx (by simp)),aT h6 (e b8 (by simp)),aT h7 (e b3 (by simp)),h8⟩;obtain⟨cs,h⟩:=h4 b hb;exact⟨cs,aT h (e b (by simp[hb]))⟩
structure Apart(w:World)(x:Xp)(pe bx b8 b3:Nat):Prop where
 n1:w.heap.size<=pe/\w.heap.size<=bx/\w.heap.size<=b8/\w.heap.size<=b3
 n2:pe≠bx/\pe≠b8/\pe≠b3/\bx≠b8/\bx≠b3/\b8≠b3
 n3: ∀b,itb x b->w.heap.size<=b/\b≠pe/\b≠bx/\b≠b8/\b≠b3
end
theorem aKv{P:Program}{W:World}{a:Act}{o:Oper}{c:Operand}{args:Array Operand}{ats:Array TypeId}{f:FuncId}{caps:Array Value}(he: ∀args w',(callFunc f args).run P w'=.ok (.enter f args) w')(ho:o.op=.call ⟨.value c,args,ats⟩)(hc:a.eval c=.func (.func f) #[] caps):
 (execOp a.eval o).run P W=.ok (.enter f (args.map a.eval++caps)) W:=by
 unfold execOp;simp[ho,resolve,hc,Deferred.ofValue,invoke,he]
theorem aRk{W W1:World}{b off:Nat}{el:TypeId}{cs:List Value}{m:Int}(h:fF W b el cs)(ho:off<cs.length)(e:W1.heap=(W.setCells b off [.int .u8 m]).heap):Wr b off W W1/\fF W1 b el (cs.set off (.int .u8 m))/\ ∀c,c≠b->W1.heap[c]? =W.heap[c]? :=by
 have f:=YH h off (.int .u8 m);have f1:fF W1 b el (cs.set off (.int .u8 m)):=by
  obtain⟨c,fr,h1,h2⟩:=f;exact⟨c,fr,by rw[e];exact h1,h2⟩
 have oth: ∀c,c≠b->W1.heap[c]? =W.heap[c]? :=fun c hc=>by rw[e];exact set_set c hc
 refine⟨⟨⟨m,aY f1 (by rw[aWg ho])⟩,fun b' off' hne=>?_⟩,f1,oth⟩
 by_cases c:b'=b
 . subst c;have hne:off'≠off:=fun e=>hne ⟨rfl,e⟩;obtain⟨c1,LK,q1,_,r1⟩:=h;obtain⟨c2,zN,q2,_,r2⟩:=f1;have:c2[off']? =c1[off']? :=by rw[<-aEP,<-aEP,r1,r2,aXC (aQK hne)]
   simp[World.cell?,q1,q2,this]
 exact aOx (oth b' c)
section
variable{w:World}{x:Xp}{fh:FuncId}{caps:Array Value}{pe bx b8 b3 k:Nat}{l':Nat}{B:Nat->Prop}{W:World}{a:Act}
theorem YG{W:World}{b:Nat}{el el':TypeId}{vs vs':List Value}(h:fF W b el vs)(h':fF W b el' vs'):el=el'/\vs=vs':=by
 obtain⟨c,fr,h1,_,rfl⟩:=h;obtain⟨c',fr',h1',_,rfl⟩:=h';rw[h1]at h1'
 cases h1'
 exact⟨rfl,rfl⟩
theorem aLo{W:World}{b off:Nat}{el:TypeId}{vs:List Value}{v:Value}(h:fF W b el vs)(hc:W.cell? ⟨b,off,none⟩=some v):off<vs.length:=by
 obtain⟨c,fr,h1,_,rfl⟩:=h;rcases aLq off c.size with q|q
 . simpa using q
 simp[World.cell?,h1,aLF q]at hc
theorem aLI(hA:Apart w x pe bx b8 b3)(hH:QE w x.pl.length fh caps)(hn:x.L.length<=256)(hk:k<x.pl.length)(hI:Ic w x (.func (.func fh) #[] caps) pe bx b8 b3 k B W)
 (h:Sl 29 [(3,pa b3 0),(8,pa b8 0),(10,pa ((x.D pe).getD (x.pl.getD k (0,0)).1 (0,0)).1 (((x.D pe).getD (x.pl.getD k (0,0)).1 (0,0)).2+7+(x.pl.getD k (0,0)).2))] a):
 (Code.block 1 (.seq aQc aQb)).wpIn (FR (some l')) 0 Tryz.prog (fun e _ W'=>e=.normal/\Go1 (Ic w x (.func (.func fh) #[] caps) pe bx b8 b3) (k+1) B W W') a W:=by
 obtain⟨⟨h1,h1'⟩,h2,⟨cs,h3,h3l,h3o⟩,h4,h5,h6,h7,h8⟩:=hI;obtain⟨p1,p2⟩:=x.aGA hk;have hD:=x.aDh pe;obtain⟨d,hd⟩: ∃d,d=(x.D pe).getD (x.pl.getD k (0,0)).1 (0,0):=⟨_,rfl⟩;obtain⟨j,hj⟩: ∃j,j=(x.pl.getD k (0,0)).2:=⟨_,rfl⟩;have hk1:(x.pl.getD k (0,0)).1<(DL x.kd x.fk x.tk pe x.bs x.R).length:=by rw[show (DL x.kd x.fk x.tk pe x.bs x.R).length=x.Z5.length from hD];exact p1
 obtain⟨mk,hmk⟩:=h2.mks _ hk1 _ p2;have hb: ∀i,i<x.R.length-> ∃g o,x.bs=some ⟨g,o,none⟩:=fun i hi=>let⟨g,o,e,_⟩:=h2.sh.rg i hi;⟨g,o,e⟩
 have hdp:=aLy (kd:=x.kd) (fk:=x.fk) (tk:=x.tk) (pe:=pe) hb hk1;rw[<-hd,<-hj]at h;change W.cell? ⟨((x.D pe).getD (x.pl.getD k (0,0)).1 (0,0)).1,((x.D pe).getD (x.pl.getD k (0,0)).1 (0,0)).2+7+(x.pl.getD k (0,0)).2,none⟩=_ at hmk;rw[<-hd,<-hj]at hmk;have hpos:d.1=pe\/itb x d.1:=by
  rcases hdp with⟨q,_⟩|⟨g,o,i,q1,q2,q3,_⟩
  . exact .inl (by rw[hd];exact q)
  have hl:=x.yU;exact .inr ⟨by omega,o,by rw[hd];rw[show ((x.D pe).getD (x.pl.getD k (0,0)).1 (0,0)).1=g from q3];exact q1⟩
 obtain⟨el,cs0,fd⟩: ∃el cs0,fF W d.1 el cs0:=by
  rcases hpos with e|e
  . exact⟨35,cs,by rw[e];exact h3⟩
  obtain⟨c,hc⟩:=h4 _ e;exact⟨79,c,hc⟩
 have hlen:=aLo fd hmk;have ndb:d.1≠bx/\d.1≠b8/\d.1≠b3/\w.heap.size<=d.1:=by
  have n1:=hA.n1;have n2:=hA.n2;rcases hpos with e|e
  . rw[e];exact⟨n2.1,n2.2.1,n2.2.2.1,n1.1⟩
  obtain⟨q1,q2,q3,q4,q5⟩:=hA.n3 _ e;exact⟨q3,q4,q5,q1⟩
 refine aP7 (aEK (aH aZ2 fun ops l hK hk'=>?_));refine lV aS1 (v:=.func (.func fh) #[] caps) hk' h (aY (j:=0) h7 rfl) fun l a hk' h=>?_;refine lV WO (v:=.int .i64 (k:Int)) hk' h (aY (j:=0) h6 rfl) fun l a hk' h=>?_;refine mV (v:=pa d.1 (d.2+7+j)) hk' h fun l a hk' h=>?_;refine sc hk' h rfl (by decide) (fun _ ho=>aKv hH.1 ho (sT h (v:=.func (.func fh) #[] caps))) (by
  rw[XQ,sT h (k:=23) (v:=.int .i64 (k:Int)),sT h (k:=24) (v:=pa d.1 (d.2+7+j))];exact hH.2 k d.1 (d.2+7+j) mk W hk h1' h1 hmk (KY fd hlen)) (fun e W1 hR=>?_)
 obtain⟨⟨v,rfl⟩,m,hheap,hos⟩:=hR;refine⟨v,rfl,fun l a hk' h=>?_⟩;obtain⟨hwr,fd1,oth⟩:=aRk fd hlen hheap;have hsz:W1.heap.size=W.heap.size:=by rw[hheap];exact Sk.jU _ _ _
 refine s0 hk' (aH aZ1 fun ops l hK hk'=>?_);have h6':fF W1 b8 3 [.int .i64 (k:Int)]:=aT h6 (oth _ (aQK ndb.2.1));have hw1:=aFS (m:=k) (by have:=x.V9 hn;omega);refine lV WO (v:=.int .i64 (k:Int)) hk' h (aY (j:=0) h6' rfl) fun l a hk' h=>?_;refine sV (v:=.int .i64 ((k:Int)+1)) hk' h (fun _ ho=>JM ho (sT h) rfl hw1) fun l a hk' h=>?_;refine ss (g:=none) hk' h rfl (fun _ ho=>lG (b:=b8) (off:=0) (v:=.int .i64 ((k:Int)+1)) ho (sT h) (sT h) rfl (show World.there _ b8 0 1 from bD h6') (by kernel_rfl) rfl) (fun l hk'=>?_);refine s0 hk' ⟨rfl,?_⟩;have hs2:=Sk.jU (p:=b8) [.int .i64 ((k:Int)+1)] 0 W1;have o2: ∀b,b≠b8->(W1.setCells b8 0 [.int .i64 ((k:Int)+1)]).heap[b]? =W1.heap[b]? :=fun b hb=>set_set b hb;have kp: ∀b,b≠b8->b≠d.1->(W1.setCells b8 0 [.int .i64 ((k:Int)+1)]).heap[b]? =W.heap[b]? :=fun b h1 h2=>(o2 b h1).trans (oth b h2);have n1:=hA.n1;have n2:=hA.n2;have sp1:Sp x.kd x.fk x.tk bx pe x.bs x.cp x.R x.PT W1:=by
  refine aNT h2 ⟨aQK n2.1,fun g o e hl=>?_⟩ hk1 p2 (by show Wr ((x.D pe).getD (x.pl.getD k (0,0)).1 (0,0)).1 (((x.D pe).getD (x.pl.getD k (0,0)).1 (0,0)).2+7+(x.pl.getD k (0,0)).2) W W1;rw[<-hd,<-hj];exact hwr);have:=hA.n3 g ⟨by have:=x.yU;omega,o,e⟩;exact⟨this.2.1,this.2.2.1⟩
 have ne8: ∀b,b=pe\/b=bx\/itb x b->b≠b8:=fun b hb=>by
  rcases hb with rfl|rfl|hb
  . exact n2.2.1
  . exact n2.2.2.2.1
  exact(hA.n3 b hb).2.2.2.1
 refine⟨B,⟨⟨fun b hb=>(kp b (by omega) (by omega)).trans (h1 b hb),by omega⟩,aCt sp1 (fun b hb=>o2 b (ne8 b hb)),?_,fun b hb=>?_,aT h5 (kp bx n2.2.2.2.1 (aQK ndb.1)),?_,aT h7 (kp b3 (aQK n2.2.2.2.2.2) (aQK ndb.2.2.1)),h8⟩,⟨by omega,fun b hb hnb=>kp b (fun e=>hnb ((h8 b).2 (by simp[e]))) (fun e=>hnb ((h8 b).2 (by rcases hpos with q|q<;>rw[e]<;>simp[q]))),hos.trans ⟨rfl,rfl,rfl⟩⟩,fun b hb=>.inl hb⟩
 . by_cases c:d.1=pe
   . rw[c]at fd1 fd;obtain⟨rfl,rfl⟩:=YG h3 fd;refine⟨_,aT fd1 (o2 pe n2.2.1),by simpa using h3l,fun v hv=>?_⟩;rcases aZn hv with hv|rfl
     . exact h3o v hv
     rfl
   exact⟨cs,aT h3 (kp pe n2.2.1 (aQK c)),h3l,h3o⟩
 . by_cases c:b=d.1
   . subst c;obtain⟨c0,hc0⟩:=h4 _ hb;obtain⟨rfl,rfl⟩:=YG hc0 fd;exact⟨_,aT fd1 (o2 _ (ne8 _ (.inr (.inr hb))))⟩
   obtain⟨c0,hc0⟩:=h4 b hb;exact⟨c0,aT hc0 (kp b (ne8 b (.inr (.inr hb))) c)⟩
 have:=eH h6' (us:=[.int .i64 ((k:Int)+1)]) rfl;rw[aVM];exact this
end
theorem aEw{w W:World}{bs:Option Addr}{L:List kT}(hI:bP w bs L)(hs:w.heap.size<=W.heap.size)(hb: ∀b,b<w.heap.size->W.heap[b]? =w.heap[b]?):bP W bs L:=fun i hi=>by
 obtain⟨g,o,e,hg,hr⟩:=hI i hi;exact⟨g,o,e,by omega,fun j v hv=>(aOx (hb g hg)).trans (hr j v hv)⟩
theorem aGb{p:Nat}(us:List Value)(k:Nat)(W:World)(b:Nat)(hb:b≠p):(W.setCells p k us).heap[b]? =W.heap[b]? :=by
 induction us generalizing k W with
 |nil=>rfl
 |cons u us ih=>exact(ih (k+1) _).trans (by simp[World.setCell,aMr,aQK hb])
section
variable{w0:World}{x:Xp}{fh:FuncId}{caps:Array Value}
theorem zQ(hck:Same w0 19 #[x.v] (.int .i64 0))(hI:bP w0 x.bs x.L)(hn:x.L.length<=256)(h0:x.bs=none->x.L.length=0)(w:World)(hw:Below w0.heap.size w0 w)(hH:QE w x.pl.length fh caps):
 Calls Tryz.prog 35 #[x.v,.func (.func fh) #[] caps] w fun e w'=> ∃cs:List Value,e=.returned (.tuple #[.agg cs.toArray,.int .i64 0])/\cs.length=36/\(∀v ∈ cs,v.oneCell'=true)/\Below w.heap.size w w':=by
 refine(aM8 (n:=0)).1 ?_;refine DR (args:=[x.v,.func (.func fh) #[] caps]) (N:=29) Tryz.func35 (show _=some chC by kernel_rfl) Tryz.ntmps35 (by simp) fun a h=>?_;rw[a0a];refine aEK (aH aZ9 fun ops l hK hk=>?_);refine sV (v:=pa w.heap.size 0) hk h (fun _ ho=>pJ (v:=x.v) ho (sT h) rfl) fun l a hk h=>?_;have A0:Al w (w.alloc (.cells x.l.toArray 35)) w.heap.size 35 x.l:=dY x.l;change wpListIn _ _ _ _ _ _ _ (w.alloc (.cells x.l.toArray 35));generalize w.alloc (.cells x.l.toArray 35)=W0 at A0 ⊢;obtain⟨p0,hp0⟩: ∃p,p=w.heap.size:=⟨_,rfl⟩;rw[<-hp0]at A0 h;refine sV (v:=pa W0.heap.size 0) hk h (fun _ ho=>pJ (v:=.func (.func fh) #[] caps) ho (sT h) rfl) fun l a hk h=>?_;have A1:Al W0 (W0.alloc (.cells [Value.func (.func fh) #[] caps].toArray 97)) W0.heap.size 97 [.func (.func fh) #[] caps]:=dY _;change wpListIn _ _ _ _ _ _ _ (W0.alloc (.cells [Value.func (.func fh) #[] caps].toArray 97));generalize W0.alloc (.cells [Value.func (.func fh) #[] caps].toArray 97)=W1 at A1 ⊢;obtain⟨b3,hb3⟩: ∃p,p=W0.heap.size:=⟨_,rfl⟩;rw[<-hb3]at A1 h;refine sV (v:=pa W1.heap.size 0) hk h (fun _ ho=>jV ho (Tryz.zeroValue35 W1)) fun l a hk h=>?_;have A2:Al W1 (W1.alloc (.cells (jI 0 z0 0 z0 0 z0 (.slice none 0 0) false false).toArray 35)) W1.heap.size 35 (jI 0 z0 0 z0 0 z0 (.slice none 0 0) false false):=dY _;change wpListIn _ _ _ _ _ _ _ (W1.alloc (.cells (jI 0 z0 0 z0 0 z0 (.slice none 0 0) false false).toArray 35));generalize W1.alloc (.cells (jI 0 z0 0 z0 0 z0 (.slice none 0 0) false false).toArray 35)=W2 at A2 ⊢;obtain⟨pr,hpr⟩: ∃p,p=W1.heap.size:=⟨_,rfl⟩;rw[<-hpr]at A2 h;refine aC (v:=.int .i64 0) hk h fun l a hk h=>?_;obtain⟨e0,k0⟩:=dF A0;obtain⟨e1,k1⟩:=dF A1;obtain⟨e2,k2⟩:=dF A2;have y0:=A0.2.1;have y1:=A1.2.1;have y2:=A2.2.1;have o2:Os w W2:=A0.2.2.2.2.trans (A1.2.2.2.2.trans A2.2.2.2.2);have b2:Below w.heap.size w W2:=⟨o2.1,o2.2.1,o2.2.2,by omega,fun b hb=>(k2 b (by omega)).trans ((k1 b (by omega)).trans (k0 b hb))⟩;have f0:fF W2 p0 35 x.l:=aT A0.2.2.2.1 ((k2 _ (by omega)).trans (k1 _ (by omega)));have f3:fF W2 b3 97 [.func (.func fh) #[] caps]:=aT A1.2.2.2.1 (k2 _ (by omega));have fr:fF W2 pr 35 (jI 0 z0 0 z0 0 z0 (.slice none 0 0) false false):=A2.2.2.2.1;have w02:Below w0.heap.size w0 W2:=⟨b2.os.trans hw.os,b2.tape.trans hw.tape,b2.output.trans hw.output,by have:=hw.size;have:=b2.size;omega,fun b hb=>(b2.block b (by have:=hw.size;omega)).trans (hw.block b hb)⟩;refine s0 hk (aEK (aEK (aH aZ8 fun ops l hK hk=>?_)));refine sV (v:=x.v) hk h (fun _ ho=>fE (aW f0) Tryz.underlying35 rfl (by kernel_rfl) ho (sT h)) fun l a hk h=>?_;refine sc hk h rfl (by decide) (fun _ ho=>jB ho Tryz.func19) (R:=fun e W3=>e=.returned (.int .i64 0)/\Below W2.heap.size W2 W3) (by rw[aFZ,sT h (v:=x.v)];exact hck W2 w02) (fun e W3 hR=>⟨_,hR.1,fun l a hk h=>?_⟩);obtain⟨_,B3⟩:=hR;refine aV (v:=.int .i64 0) hk h fun l a hk h=>?_;refine s0 hk (aEK (aH aZ7 fun ops l hK hk=>?_));refine mV (v:=.int .i64 0) hk h fun l a hk h=>?_;refine sV (v:=.bool false) hk h (fun _ ho=>JK (q:=.i64) (m:=0) (m':=0) ho (sT h) rfl) fun l a hk h=>?_;refine s0 hk (aPo (sT h) (aNH (aEK (aH aZ6 fun ops l hK hk=>?_))));have h:Sl 29 [(2,pa p0 0),(3,pa b3 0),(4,pa pr 0)] a:=cO h;have s3:=B3.size;have f0':=aT f0 (B3.block p0 (by omega));refine sV (v:=x.v) hk h (fun _ ho=>fE (aW f0') Tryz.underlying35 rfl (by kernel_rfl) ho (sT h)) fun l a hk h=>?_;have w03:Below w0.heap.size w0 W3:=⟨B3.os.trans w02.os,B3.tape.trans w02.tape,B3.output.trans w02.output,by have:=w02.size;omega,fun b hb=>(B3.block b (by have:=w02.size;omega)).trans (w02.block b hb)⟩;refine sc hk h rfl (by decide) (fun _ ho=>jB ho Tryz.func55) (R:=fun e W4=> ∃ad,e=.returned ({ x with bs:=ad,cp:=x.L.length }:Xp).v/\uS W3 W4 ad x.L/\Below W3.heap.size W3 W4)
  (by rw[aFZ,sT h (v:=x.v)];exact aLG (KJ hI w03.size w03.block) hn h0) (fun e W4 ⟨ad,ev,hN,hB⟩=>⟨_,ev,fun l a hk h=>?_⟩)
 obtain⟨y,hy⟩: ∃y:Xp,y={ x with bs:=ad,cp:=x.L.length }:=⟨_,rfl⟩;rw[<-hy]at h;have yL:y.L=x.L:=by rw[hy]
 have yB:y.bs=ad:=by rw[hy]
 have ypl:y.pl=x.pl:=by rw[hy];rfl
 have s4:=hB.size;refine sV (v:=pa W4.heap.size 0) hk h (fun _ ho=>jV ho (Tryz.zeroValue35 W4)) fun l a hk h=>?_;have A4:Al W4 (W4.alloc (.cells (jI 0 z0 0 z0 0 z0 (.slice none 0 0) false false).toArray 35)) W4.heap.size 35 (jI 0 z0 0 z0 0 z0 (.slice none 0 0) false false):=dY _;change wpListIn _ _ _ _ _ _ _ (W4.alloc (.cells (jI 0 z0 0 z0 0 z0 (.slice none 0 0) false false).toArray 35));generalize W4.alloc (.cells (jI 0 z0 0 z0 0 z0 (.slice none 0 0) false false).toArray 35)=W5 at A4 ⊢;obtain⟨pe,hpe⟩: ∃p,p=W4.heap.size:=⟨_,rfl⟩;rw[<-hpe]at A4 h;refine ss (g:=none) hk h rfl (fun _ ho=>iG (b:=pe) (off:=0) (cs:=y.l) (show World.there _ _ 0 36 from bD A4.2.2.2.1) (by kernel_rfl) (TP y) ho (sT h) (sT h)) (fun l hk=>?_);have A5:=sJ (us:=y.l) A4 rfl;generalize W5.setCells pe 0 y.l=W6 at A5 ⊢;refine s0 hk (aEK (aH aZ5 fun ops l hK hk=>?_));have h:Sl 29 [(3,pa b3 0),(4,pa pr 0),(7,pa pe 0)] a:=cO h;refine sV (v:=pa W6.heap.size 0) hk h (fun _ ho=>JL ho (Tryz.zeroValue3 W6) rfl) fun l a hk h=>?_;have A6:Al W6 (W6.alloc (.cells #[.int .i64 0] 3)) W6.heap.size 3 [.int .i64 0]:=dY _;refine ss (g:=none) hk h rfl (fun _ ho=>lG ho (sT h) rfl rfl (show World.there _ W6.heap.size 0 1 from bD A6.2.2.2.1) (by kernel_rfl) rfl) (fun l hk=>?_);have A7:=sJ (us:=[.int .i64 ((0:Nat):Int)]) A6 rfl;refine s0 hk ?_;change Code.wpIn _ _ _ _ _ _ ((W6.alloc (.cells #[.int .i64 0] 3)).setCells W6.heap.size 0 [.int .i64 ((0:Nat):Int)]);generalize (W6.alloc (.cells #[.int .i64 0] 3)).setCells W6.heap.size 0 [.int .i64 ((0:Nat):Int)]=W7 at A7 ⊢;obtain⟨b8,hb8⟩: ∃p,p=W6.heap.size:=⟨_,rfl⟩;rw[<-hb8]at A7 h;refine aEK (aEK (aH aZ4 fun ops l hK hk=>?_));refine sc hk h rfl (by decide) (fun _ ho=>jB ho Tryz.func29) (R:=fun e W8=>e=.returned (.func (.func 50) #[] #[pa W7.heap.size 0])/\Al W7 W8 W7.heap.size 84 [pa pe 0]) (by rw[aFZ,sT h (v:=pa pe 0)];exact places_any pe W7) (fun e W8 hR=>⟨_,hR.1,fun l a hk h=>?_⟩);obtain⟨_,A8⟩:=hR;refine s0 hk ?_;obtain⟨bx,hbx⟩: ∃p,p=W7.heap.size:=⟨_,rfl⟩;rw[<-hbx]at A8 h;have h:Sl 29 [(3,pa b3 0),(4,pa pr 0),(7,pa pe 0),(8,pa b8 0),(19,.func (.func 50) #[] #[pa bx 0])] a:=cO h;obtain⟨e5,k5⟩:=dF A5;obtain⟨e7,k7⟩:=dF A7;obtain⟨e8,k8⟩:=dF A8;have y5:=A5.2.1;have y7:=A7.2.1;have y8:=A8.2.1;have kk4: ∀b,b<W4.heap.size->W8.heap[b]? =W4.heap[b]? :=fun b hb=>(k8 b (by omega)).trans ((k7 b (by omega)).trans (k5 b hb));have kk3: ∀b,b<W2.heap.size->W8.heap[b]? =W2.heap[b]? :=fun b hb=>(kk4 b (by omega)).trans ((hB.block b (by omega)).trans (B3.block b hb));have old: ∀b,b<w.heap.size->W8.heap[b]? =w.heap[b]? :=fun b hb=>(kk3 b (by omega)).trans (b2.block b hb);have os8:Os w W8:=o2.trans (Os.trans ⟨B3.os,B3.tape,B3.output⟩ (Os.trans ⟨hB.os,hB.tape,hB.output⟩ (A5.2.2.2.2.trans (A7.2.2.2.2.trans A8.2.2.2.2))));have fpe:fF W8 pe 35 y.l:=aT A5.2.2.2.1 ((k8 pe (by omega)).trans (k7 pe (by omega)));have fb8:fF W8 b8 3 [.int .i64 ((0:Nat):Int)]:=aT A7.2.2.2.1 (k8 b8 (by omega));have fbx:fF W8 bx 84 [pa pe 0]:=A8.2.2.2.1;have fb3:fF W8 b3 97 [.func (.func fh) #[] caps]:=aT f3 (kk3 b3 (by omega));have fpr:fF W8 pr 35 (jI 0 z0 0 z0 0 z0 (.slice none 0 0) false false):=aT fr (kk3 pr (by omega));have aYV:bP W8 y.bs y.L:=by rw[yL,yB];exact aEw hN.1 (by omega) kk4
 have hit: ∀b,itb y b->W3.heap.size<=b/\b<W4.heap.size/\ ∃cs,fF W4 b 79 cs:=by
  rintro b ⟨q1,o,q2⟩;rw[yL]at q1;rw[yB]at q2;obtain⟨g,cs,e,h1,h2,_⟩:=hN.2 q1;rw[e]at q2;cases q2;exact⟨h1,dH h2,cs,h2⟩
 have hAp:Apart w y pe bx b8 b3:=⟨⟨by omega,by omega,by omega,by omega⟩,⟨by omega,by omega,by omega,by omega,by omega,by omega⟩,fun b hb=>by obtain⟨q1,q2,_⟩:=hit b hb;exact⟨by omega,by omega,by omega,by omega,by omega⟩⟩;have hH':QE w y.pl.length fh caps:=by rw[ypl];exact hH
 have i0:Ic w y (.func (.func fh) #[] caps) pe bx b8 b3 0 (fun b=>b<w.heap.size\/b=pe\/b=bx\/b=b8\/b=b3\/itb y b) W8:=
  ⟨⟨old,by omega⟩,Xp.sp fpe aYV (aY (j:=0) fbx rfl),⟨y.l,fpe,rfl,TP y⟩,fun b hb=>by obtain⟨_,q2,cs,q3⟩:=hit b hb;exact⟨cs,aT q3 (kk4 b q2)⟩,fbx,fb8,fb3,fun b=>a1s⟩
 have hD:=y.aDh pe;have hpl:y.pl=tV y.PT (y.D pe).length:=by rw[hD];rfl
 have hn':y.L.length<=256:=by rw[yL];exact hn
 refine aP7 (JJ (I:=Ic w y (.func (.func fh) #[] caps) pe bx b8 b3) (Ax:=fun k a' B W=>Ic w y (.func (.func fh) #[] caps) pe bx b8 b3 k B W/\Sl 29 [(3,pa b3 0),(8,pa b8 0),(10,pa ((y.D pe).getD (y.pl.getD k (0,0)).1 (0,0)).1 (((y.D pe).getD (y.pl.getD k (0,0)).1 (0,0)).2+7+(y.pl.getD k (0,0)).2))] a')
  (Rd:=Sp y.kd y.fk y.tk bx pe y.bs y.cp y.R y.PT) (N:=y.pl.length) (enc:=YP (y.D pe) (tV y.PT (y.D pe).length)) (gf:=50) (lb:= #[pa bx 0])
  aBv (fun a'=>⟨fun k B W h=>aBv.lt k B W h.1,fun k B W W' h hs hk=>⟨aBv.keep k B W W' h.1 hs hk,h.2⟩⟩) (sT h) (fun args w=>a0U Tryz.func50 (by kernel_rfl) (show _=some plC by kernel_rfl) args w) (fun k W=>rfl) i0 (fun k B W h=>h.2.1) ?_ ?_ ?_ ?_)
 . rw[hpl];exact O5 (by rw[y.yU];omega)
 . intro l' k B W hk g;rw[<-hpl];unfold YP;rw[aM9];have h1:=nZ (d:=20) (v:=.agg #[.int .i64 ((y.pl.getD k (0,0)).1:Int),.int .i64 ((y.pl.getD k (0,0)).2:Int),(W.cell? ⟨((y.D pe).getD (y.pl.getD k (0,0)).1 (0,0)).1,((y.D pe).getD (y.pl.getD k (0,0)).1 (0,0)).2+7+(y.pl.getD k (0,0)).2,none⟩).getD undef]) (show Sl 29 _ { tmps:=a.tmps,defers:=[] }from⟨h.size,rfl,h.val⟩) (by decide);have h2:=nZ (d:=21) (v:=pa ((y.D pe).getD (y.pl.getD k (0,0)).1 (0,0)).1 (((y.D pe).getD (y.pl.getD k (0,0)).1 (0,0)).2+7+(y.pl.getD k (0,0)).2)) h1 (by decide);have h3:Sl 29 [(3,pa b3 0),(8,pa b8 0),(21,pa ((y.D pe).getD (y.pl.getD k (0,0)).1 (0,0)).1 (((y.D pe).getD (y.pl.getD k (0,0)).1 (0,0)).2+7+(y.pl.getD k (0,0)).2))] _:=cO h2;refine aH aZ3 fun ops l hK hk'=>?_;refine aV (v:=pa ((y.D pe).getD (y.pl.getD k (0,0)).1 (0,0)).1 (((y.D pe).getD (y.pl.getD k (0,0)).1 (0,0)).2+7+(y.pl.getD k (0,0)).2)) hk' h3 fun l a hk' h=>?_;exact s0 hk' ⟨B,⟨g,cO h⟩,Rest.refl _ _,fun b hb=>.inl hb⟩
 . intro l' k a' B W hk g;exact aLI hAp hH' hn' hk g.1 g.2
 intro Db B' W' hI' hrest hgrow hDl hnB hdef;obtain⟨⟨g1,g1'⟩,g2,⟨cs,g3,g3l,g3o⟩,_⟩:=hI';have aY1: ¬(pr<w.heap.size\/pr=pe\/pr=bx\/pr=b8\/pr=b3\/itb y pr):=by
  rintro(q|q|q|q|q|q)<;>first|omega|skip
  have:=(hit pr q).1;omega
 have aUi:fF W' pr 35 (jI 0 z0 0 z0 0 z0 (.slice none 0 0) false false):=aT fpr (hrest.2.1 pr (by omega) aY1);refine aEK (aH aU1 fun ops l hK hk=>?_);have h:Sl 29 [(4,pa pr 0),(7,pa pe 0)] { a with defers:={ target:=.collected Db,args:= #[] }::a.defers } [{ target:=.collected Db,args:= #[] }]:=⟨h.size,by show _::a.defers=_;rw[h.defs],fun e he=>by
  simp only[aGv,aMt,aV2]at he;rcases he with rfl|rfl
  . exact h.val _ (by simp)
  exact h.val _ (by simp)⟩
 refine sV (v:=.agg cs.toArray) hk h (fun _ ho=>fE (aW g3) Tryz.underlying35 rfl (by rw[g3l];kernel_rfl) ho (sT h)) fun l a hk h=>?_;refine ss (g:=none) hk h rfl (fun _ ho=>iG (b:=pr) (off:=0) (cs:=cs) (by rw[g3l];exact(show World.there _ _ 0 36 from bD aUi)) (by rw[g3l];kernel_rfl) g3o ho (sT h) (sT h)) (fun l hk=>?_);have aZi:=eH aUi (us:=cs) g3l;refine aC (v:=.int .i64 0) hk h fun l a hk h=>?_;refine s0 hk (aQE ?_);show LeavesInM _ _ _ _ _ _ a.defers _ _;rw[h.defs];have sz:=Sk.jU (p:=pr) cs 0 W';have aUe:pr≠Db:=by omega
 have aT6:(W'.setCells pr 0 cs).heap[Db]? =some (.deferred (some [])):=(aGb cs 0 W' Db (aQK aUe)).trans hdef;have aZh:fF ((W'.setCells pr 0 cs).putObj Db (.deferred none)) pr 35 cs:=aT aZi (rQ aUe);have rr:=JF (P:=Tryz.prog) (W:=(W'.setCells pr 0 cs).putObj Db (.deferred none)) (fn:=Tryz.f35) h (i:=4) (j:=5) (t:=35) (b:=pr) (v:=.agg cs.toArray) (u:=.int .i64 0) rfl (by simp) (by simp) (aQO _ _ _ _ cs _ (aW aZh) Tryz.underlying35 rfl (by rw[g3l];kernel_rfl));refine⟨by simp,.inl ⟨_,_,rfl,a0O aT6,_,rr,cs,rfl,g3l,g3o,?_⟩⟩;have sr:=hrest.1;have bs:=Sk.iL (B:=w.heap.size) (b:=pr) (by omega) cs 0 (aDl w.heap.size W');refine⟨bs.os.trans (hrest.2.2.1.trans os8.1),bs.tape.trans (hrest.2.2.2.1.trans os8.2.1),bs.output.trans (hrest.2.2.2.2.trans os8.2.2),by simp[sz];omega,fun b hb=>?_⟩;exact(rQ (by omega)).trans ((bs.block b hb).trans (g1 b hb))
end
end Rf
end
section
open Go.RowKit
namespace Rf
open Sk (oD lH key aY nH eH dH bD aW qQ nT jI exV kT cZ bP yS z0 Rt SS Same)
open Bk (Dt)
open Ev (fF)
noncomputable def saC:Code:=match(Tryz.f41).body with
 |some c=>c
 |none=>.skip
noncomputable def aSA:Code:=dZ [] saC
theorem aXu:RK aSA [km 4 1,kn 5 4,(none,none,.store 5 (.tmp 5) (.const (.int .u8 0)))]:=⟨by kernel_rfl,by kernel_rfl⟩
theorem aXv:saC=aSA:=by kernel_rfl
noncomputable def waC:Code:=match(Tryz.f40).body with
 |some c=>c
 |none=>.skip
noncomputable def aWX:Code:=dZ [] waC
theorem aWY:waC=aWX:=by kernel_rfl
noncomputable def laC:Code:=match(Tryz.f36).body with
 |some c=>c
 |none=>.skip
noncomputable def aTS:Code:=dZ [] laC
theorem aYO:RK aTS [km 5 1,kl 6 37 2,km 7 0,(none,some 8,.indexAddr 37 (.tmp 6) (.tmp 7)),kf 9 46 8 2,kl 10 5 9,kn 11 5,ks' 5 11 10]:=⟨by kernel_rfl,by kernel_rfl⟩
theorem aYP:laC=aTS:=by kernel_rfl
noncomputable def stC:Code:=match(Tryz.f22).body with
 |some c=>c
 |none=>.skip
noncomputable def aSx:Code:=dZ [0] stC
theorem aXs:RK aSx [(none,some 1,.box 35 (.tmp 0)),(none,some 2,.alloc 35),kc 3 (.int .i64 0)]:=⟨by kernel_rfl,by kernel_rfl⟩
noncomputable def str1:Code:=dZ [1,0] stC
theorem aXr:RK str1 [kl 4 35 1,(none,some 5,.call ⟨.value (.func 35),#[(.tmp 4),(.func 41)],#[35,97]⟩),kx 6 5 0,kx 7 5 1,ks' 35 2 6,ka 3 7]:=⟨by kernel_rfl,by kernel_rfl⟩
theorem aXt:stC=(.seq aSx (.seq str1 .ret)):=by kernel_rfl
noncomputable def wiC:Code:=match(Tryz.f21).body with
 |some c=>c
 |none=>.skip
noncomputable def aRp:Code:=dZ [0] wiC
theorem aWL:RK aRp [(none,some 2,.box 35 (.tmp 0)),(none,some 3,.box 5 (.tmp 1)),(none,some 4,.alloc 35),kc 5 (.int .i64 0)]:=⟨by kernel_rfl,by kernel_rfl⟩
noncomputable def aRo:Code:=dZ [1,0,0] wiC
theorem aWK:RK aRo [kl 7 5 3,(none,some 8,.call ⟨.value (.func 32),#[(.tmp 7)],#[5]⟩),ka 6 8]:=⟨by kernel_rfl,by kernel_rfl⟩
noncomputable def aRn:Code:=dZ [1,0,1,0] wiC
theorem aWJ:RK aRn [km 9 6,(none,some 10,.binOp .neq 38 (.tmp 9) (.const (.int .i64 0)) 38)]:=⟨by kernel_rfl,by kernel_rfl⟩
noncomputable def aRm:Code:=dZ [1,0,1,1,0,0] wiC
theorem aWI:RK aRm [(none,some 11,.build 35 #[]),km 12 6,ks' 35 4 11,ka 5 12]:=⟨by kernel_rfl,by kernel_rfl⟩
noncomputable def aRl:Code:=dZ [1,1,0] wiC
theorem aWH:RK aRl [kl 13 35 2,(none,some 14,.makeFunc (.func 40) #[] #[(.tmp 3)]),(none,some 15,.call ⟨.value (.func 35),#[(.tmp 13),(.tmp 14)],#[35,97]⟩),kx 16 15 0,kx 17 15 1,ks' 35 4 16,ka 5 17]:=⟨by kernel_rfl,by kernel_rfl⟩
theorem aWM:wiC=(.seq aRp (.seq (.seq aRo (.seq aRn (.cond (.tmp 10) (.seq aRm .ret) .skip))) (.seq aRl .ret))):=by kernel_rfl
theorem aEA(w:World)(NP:Nat):QE w NP 41 #[]:=by
 refine⟨fun args w'=>a0U Tryz.func41 (by kernel_rfl) (show _=some saC by kernel_rfl) args w',fun q b off mk W hq hs hold hc ht=>?_⟩;rw[Array.append_empty];refine(aM8 (n:=0)).1 ?_;refine fO (args:=[.int .i64 (q:Int),pa b off]) (N:=6) Tryz.func41 (show _=some saC by kernel_rfl) Tryz.ntmps41 (by simp) fun a h=>?_;rw[aXv];refine aH aXu fun ops l hK hk=>?_;refine mV (v:=pa b off) hk h fun l a hk h=>?_;refine nV (v:=pa b off) hk h fun l a hk h=>?_;refine ss (g:=none) hk h rfl (fun _ ho=>lG (b:=b) (off:=off) (v:=.int .u8 0) ho (sT h) rfl rfl ht (by kernel_rfl) rfl) (fun l hk=>?_);exact s0 hk (F6 h Tryz.results41 ⟨⟨_,rfl⟩,0,rfl,rfl,rfl,rfl⟩).1
theorem aOb(t:TypeId)(m n:Int)(x y:Operand)(W:World): ∃z:Int,(do eqGuard .or t x y (.int .u8 m) (.int .u8 n);binOp .or t (.int .u8 m) (.int .u8 n)).run Tryz.prog W=.ok (.int .u8 z) W:=by
 refine⟨IntKind.u8.wrap (BitVec.ofInt IntKind.u8.bits m ||| BitVec.ofInt IntKind.u8.bits n).toNat,?_⟩;simp[eqGuard,binOp,Op.intBits]
theorem aH0{w:World}{NP bm:Nat}{m0:Int}(hm:w.cell? ⟨bm,0,none⟩=some (.int .u8 m0))(hbm:bm<w.heap.size):QE w NP 40 #[pa bm 0]:=by
 refine⟨fun args w'=>a0U Tryz.func40 (by kernel_rfl) (show _=some waC by kernel_rfl) args w',fun q b off mk W hq hs hold hc ht=>?_⟩;refine(aM8 (n:=0)).1 ?_;refine fO (args:=[.int .i64 (q:Int),pa b off,pa bm 0]) (N:=11) Tryz.func40 (show _=some waC by kernel_rfl) Tryz.ntmps40 (by simp) fun a h=>?_;rw[aWY];have hm2:W.drew.cell? ⟨bm,0,none⟩=some (.int .u8 m0):=(aOx (hold bm hbm)).trans hm;have hc2:W.drew.cell? ⟨b,off,none⟩=some (.int .u8 mk):=hc;obtain⟨z,hz⟩:=aOb 5 mk m0 (.tmp 7) (.tmp 8) W.drew;have h:Sl 11 [(1,pa b off),(2,pa bm 0)] a:=cO h;refine PS (Pz:=[(5,[],.move (.tmp 1),pa b off),(6,[0],.nilCheck (.tmp 5),pa b off),(7,[1],.load 5 (.tmp 6),.int .u8 mk),(8,[],.load 5 (.tmp 2),.int .u8 m0),(9,[2,3],.binOp .or 5 (.tmp 7) (.tmp 8) 5,.int .u8 z),(10,[0,0,1,2,3,4],.nilCheck (.tmp 5),pa b off)]) (T:=[(none,none,.store 5 (.tmp 10) (.tmp 9))]) (TA:=[[5,4,0,1,2,3,4]]) (by kernel_rfl) (And.intro (by kernel_rfl) (by kernel_rfl)) (by kernel_rfl) (by kernel_rfl) (by simp) (by kernel_rfl) (by simp) (by simp) (by kernel_rfl) (by kernel_rfl) h (fun j x hx o a ho h=>?_) (fun ops l a hK hk h=>?_)
 . match j,hx with
   |0,hx=>cases hx;exact jC ho (sT h)
   |1,hx=>cases hx;change Sl 11 ([(5,pa b off)]++_) a at h;exact AY ho (sT h)
   |2,hx=>cases hx;change Sl 11 ([(6,pa b off)]++_) a at h;exact kD (b:=b) (off:=off) DY ho (sT h) hc2
   |3,hx=>cases hx;exact kD (b:=bm) (off:=0) DY ho (sT h) hm2
   |4,hx=>cases hx;change Sl 11 ([(7,.int .u8 mk),(8,.int .u8 m0)]++_) a at h;exact yK ho (sT h) (sT h) hz
   |5,hx=>cases hx;change Sl 11 ([(5,pa b off),(5,pa b off),(6,pa b off),(7,.int .u8 mk),(8,.int .u8 m0),(9,.int .u8 z)]++_) a at h;exact AY ho (sT h)
   |j+6,hx=>cases hx
 change Sl 11 ([(5,pa b off),(6,pa b off),(7,.int .u8 mk),(8,.int .u8 m0),(9,.int .u8 z),(10,pa b off)]++_) a at h;refine ss (g:=none) hk h rfl (fun _ ho=>lG (b:=b) (off:=off) (v:=.int .u8 z) ho (sT h) (sT h) rfl ht (by kernel_rfl) rfl) (fun l hk=>?_);exact s0 hk (F6 h Tryz.results40 ⟨⟨_,rfl⟩,z,rfl,rfl,rfl,rfl⟩).1
theorem LM:vF Tryz.prog 46 2=some 2:=by kernel_rfl
theorem aLk{w:World}{NP bl:Nat}{ad:Option Addr}{cl:Nat->List Value}(hl:w.cell? ⟨bl,0,none⟩=some (.slice ad NP NP))(hbl:bl<w.heap.size)(hA:iW w ad NP cl)(hcl: ∀q,q<NP-> ∃m:Int,(cl q)[2]? =some (.int .u8 m)):QE w NP 36 #[pa bl 0]:=by
 refine⟨fun args w'=>a0U Tryz.func36 (by kernel_rfl) (show _=some laC by kernel_rfl) args w',fun q b off mk W hq hs hold hc ht=>?_⟩;refine(aM8 (n:=0)).1 ?_;refine fO (args:=[.int .i64 (q:Int),pa b off,pa bl 0]) (N:=12) Tryz.func36 (show _=some laC by kernel_rfl) Tryz.ntmps36 (by simp) fun a h=>?_;rw[aYP];obtain⟨g,rfl,hg,hr⟩:=hA q hq;obtain⟨m,hm⟩:=hcl q hq;have hl2:W.cell? ⟨bl,0,none⟩=some (.slice (some ⟨g,0,none⟩) NP NP):=(aOx (hold bl hbl)).trans hl;have hm2:W.cell? ⟨g,0+q * 3+2,none⟩=some (.int .u8 m):=by rw[aHv];exact(aOx (hold g hg)).trans (hr 2 _ hm)
 refine aH aYO fun ops l hK hk=>?_;refine mV (v:=pa b off) hk h fun l a hk h=>?_;refine lV JX (v:=.slice (some ⟨g,0,none⟩) NP NP) hk h hl2 fun l a hk h=>?_;refine mV (v:=.int .i64 (q:Int)) hk h fun l a hk h=>?_;refine sV (v:=pa g (0+q * 3)) hk h (fun _ ho=>tK (g:=g) (off:=0) (n:=NP) (cp:=NP) (el:=46) (sz:=3) (by kernel_rfl) (by kernel_rfl) hq ho (sT h) (sT h)) fun l a hk h=>?_;refine sV (v:=pa g (0+q * 3+2)) hk h (fun _ ho=>dA (b:=g) (o':=0+q * 3) LM ho (sT h)) fun l a hk h=>?_;refine lV (b:=g) (off:=0+q * 3+2) DY (v:=.int .u8 m) hk h hm2 fun l a hk h=>?_;refine nV (v:=pa b off) hk h fun l a hk h=>?_;refine ss (g:=none) hk h rfl (fun _ ho=>lG (b:=b) (off:=off) (v:=.int .u8 m) ho (sT h) (sT h) rfl ht (by kernel_rfl) rfl) (fun l hk=>?_);exact s0 hk (F6 h Tryz.results36 ⟨⟨_,rfl⟩,m,rfl,rfl,rfl,rfl⟩).1
theorem dB{P:Program}{W:World}{a:Act}{o:Oper}{x:Operand}{i:Nat}{vs:Array Value}{v:Value}(hv:vs[i]? =some v)(ho:o.op=.extract x i)(hx:a.eval x=.tuple vs):(execOp a.eval o).run P W=.ok (.value v) W:=by
 unfold execOp;simp[ho,hx,Instr.extract,hv]
def aFu(w:World)(e:Ending)(w':World):Prop:= ∃cs:List Value,e=.returned (.tuple #[.agg cs.toArray,.int .i64 0])/\cs.length=36/\(∀v ∈ cs,v.oneCell'=true)/\Below w.heap.size w w'
abbrev zE:List Value:=jI 0 z0 0 z0 0 z0 (.slice none 0 0) false false
section
variable{w0:World}{x:Xp}
theorem aF2(hck:Same w0 19 #[x.v] (.int .i64 0))(hI:bP w0 x.bs x.L)(hn:x.L.length<=256)(h0:x.bs=none->x.L.length=0)(w:World)(hw:Below w0.heap.size w0 w):
 Calls Tryz.prog 22 #[x.v] w (aFu w):=by
 refine(aM8 (n:=0)).1 ?_;refine fO (args:=[x.v]) (N:=8) Tryz.func22 (show _=some stC by kernel_rfl) Tryz.ntmps22 (by simp) fun a h=>?_;rw[aXt];refine aEK (aH aXs fun ops l hK hk=>?_);refine sV (v:=pa w.heap.size 0) hk h (fun _ ho=>pJ (v:=x.v) ho (sT h) rfl) fun l a hk h=>?_;have A0:Al w (w.alloc (.cells x.l.toArray 35)) w.heap.size 35 x.l:=dY x.l;change wpListIn _ _ _ _ _ _ _ (w.alloc (.cells x.l.toArray 35));generalize w.alloc (.cells x.l.toArray 35)=W0 at A0 ⊢;obtain⟨p0,hp0⟩: ∃p,p=w.heap.size:=⟨_,rfl⟩;rw[<-hp0]at A0 h;refine sV (v:=pa W0.heap.size 0) hk h (fun _ ho=>jV ho (Tryz.zeroValue35 W0)) fun l a hk h=>?_;have A1:Al W0 (W0.alloc (.cells zE.toArray 35)) W0.heap.size 35 zE:=dY _;change wpListIn _ _ _ _ _ _ _ (W0.alloc (.cells zE.toArray 35));generalize W0.alloc (.cells zE.toArray 35)=W1 at A1 ⊢;obtain⟨pr,hpr⟩: ∃p,p=W0.heap.size:=⟨_,rfl⟩;rw[<-hpr]at A1 h;refine aC (v:=.int .i64 0) hk h fun l a hk h=>?_;obtain⟨e0,k0⟩:=dF A0;obtain⟨e1,k1⟩:=dF A1;have y0:=A0.2.1;have y1:=A1.2.1;have o1:Os w W1:=A0.2.2.2.2.trans A1.2.2.2.2;have b1:Below w.heap.size w W1:=⟨o1.1,o1.2.1,o1.2.2,by omega,fun b hb=>(k1 b (by omega)).trans (k0 b hb)⟩;have f0:fF W1 p0 35 x.l:=aT A0.2.2.2.1 (k1 _ (by omega));have w01:Below w0.heap.size w0 W1:=⟨b1.os.trans hw.os,b1.tape.trans hw.tape,b1.output.trans hw.output,by have:=hw.size;have:=b1.size;omega,fun b hb=>(b1.block b (by have:=hw.size;omega)).trans (hw.block b hb)⟩;refine s0 hk (aEK (aH aXr fun ops l hK hk=>?_));refine sV (v:=x.v) hk h (fun _ ho=>fE (aW f0) Tryz.underlying35 rfl (by kernel_rfl) ho (sT h)) fun l a hk h=>?_;refine sc hk h rfl (by decide) (fun _ ho=>jB ho Tryz.func35) (R:=aFu W1) (by
  rw[XQ,sT h (k:=4) (v:=x.v)];exact zQ hck hI hn h0 W1 w01 (aEA W1 _)) (fun e W2 ⟨cs,ev,c1,c2,B2⟩=>⟨_,ev,fun l a hk h=>?_⟩)
 refine sV (v:=.agg cs.toArray) hk h (fun _ ho=>dB (vs:= #[.agg cs.toArray,.int .i64 0]) rfl ho (sT h)) fun l a hk h=>?_;refine sV (v:=.int .i64 0) hk h (fun _ ho=>dB (vs:= #[.agg cs.toArray,.int .i64 0]) rfl ho (sT h)) fun l a hk h=>?_;have s2:=B2.size;have zN:fF W2 pr 35 zE:=aT A1.2.2.2.1 (B2.block pr (by omega));refine ss (g:=none) hk h rfl (fun _ ho=>iG (b:=pr) (off:=0) (cs:=cs) (by rw[c1];exact(show World.there _ _ 0 36 from bD zN)) (by rw[c1];kernel_rfl) c2 ho (sT h) (sT h)) (fun l hk=>?_);have LJ:=eH zN (us:=cs) c1;refine aV (v:=.int .i64 0) hk h fun l a hk h=>?_;refine s0 hk (aQE ?_);have rr:=JF (P:=Tryz.prog) (W:=W2.setCells pr 0 cs) (fn:=Tryz.f22) h (i:=2) (j:=3) (t:=35) (b:=pr) (v:=.agg cs.toArray) (u:=.int .i64 0) rfl (by simp) (by simp) (aQO _ _ _ _ cs _ (aW LJ) Tryz.underlying35 rfl (by rw[c1];kernel_rfl));have b2:Below w.heap.size w W2:=⟨B2.os.trans b1.os,B2.tape.trans b1.tape,B2.output.trans b1.output,by omega,fun b hb=>(B2.block b (by omega)).trans (b1.block b hb)⟩;exact(⟨h.defs,_,rr,cs,rfl,c1,c2,Sk.iL (by omega) _ _ b2⟩:bodyPost Tryz.prog Tryz.f22 (aFu w) .ret a _)
end
end Rf
end
section
open Go.RowKit
namespace Rf
open Sk (oD lH key aY nH eH dH bD aW qQ nT jI exV kT cZ bP yS z0 Rt SS Same)
open Bk (Dt)
open Ev (fF)
noncomputable def mkC:Code:=match(Tryz.f32).body with
 |some c=>c
 |none=>.skip
noncomputable def aTb:Code:=dZ [0] mkC
theorem aYk:RK aTb [kc 2 (.int .i64 0)]:=⟨by kernel_rfl,by kernel_rfl⟩
noncomputable def aTa:Code:=dZ [1,0,0] mkC
theorem aYj:RK aTa [km 3 0,(none,some 4,.binOp .lss 5 (.tmp 3) (.const (.int .u8 1)) 5),km 5 4,kg 2 false (km 6 0),(some (2,false),some 7,.binOp .gtr 5 (.tmp 6) (.const (.int .u8 3)) 5),(none,some 8,.pick (.tmp 5) (.const (.bool true)) (.tmp 7))]:=⟨by kernel_rfl,by kernel_rfl⟩
noncomputable def aPb:Code:=dZ [1,0,1,0,0] mkC
theorem aYi:RK aPb [kc 2 (.int .i64 9)]:=⟨by kernel_rfl,by kernel_rfl⟩
noncomputable def aPa:Code:=dZ [1,1,0] mkC
theorem aYh:RK aPa [kc 2 (.int .i64 0)]:=⟨by kernel_rfl,by kernel_rfl⟩
theorem aYl:mkC=(.seq aTb (.seq (.seq aTa (.cond (.tmp 8) (.seq aPb .ret) .skip)) (.seq aPa .ret))):=by kernel_rfl
noncomputable def pnC:Code:=match(Tryz.f9).body with
 |some c=>c
 |none=>.skip
noncomputable def aSV:Code:=dZ [0] pnC
theorem aXY:RK aSV [(none,some 1,.box 35 (.tmp 0)),kc 2 (.bool false),kc 3 (.int .i64 0)]:=⟨by kernel_rfl,by kernel_rfl⟩
noncomputable def aSU:Code:=dZ [1,0] pnC
theorem aXX:RK aSU [kl 9 35 1,(none,some 10,.call ⟨.value (.func 7),#[(.tmp 9)],#[35]⟩),km 8 10,kx 11 8 0,kx 12 8 1,ka 4 11,ka 5 12]:=⟨by kernel_rfl,by kernel_rfl⟩
noncomputable def aST:Code:=dZ [1,1,0,0] pnC
theorem aXW:RK aST [km 13 5,(none,some 14,.binOp .neq 38 (.tmp 13) (.const (.int .i64 0)) 38)]:=⟨by kernel_rfl,by kernel_rfl⟩
noncomputable def aXP:Code:=dZ [1,1,0,1,0,0] pnC
noncomputable def aSS:Code:=dZ [1,1,1,0,0] pnC
theorem aXV:RK aSS [km 16 4,(none,some 17,.call ⟨.builtin .len,#[(.tmp 16)],#[37]⟩),(none,some 18,.move (.const (.int .i64 0)))]:=⟨by kernel_rfl,by kernel_rfl⟩
noncomputable def aSR:Code:=dZ [1,1,1,0,1,0,0,0] pnC
theorem aXU:RK aSR [(none,some 19,.binOp .lss 3 (.tmp 18) (.tmp 17) 3)]:=⟨by kernel_rfl,by kernel_rfl⟩
noncomputable def aSQ:Code:=dZ [1,1,1,0,1,0,0,1,1,0,0,0] pnC
theorem aXT:RK aSQ [(none,some 20,.indexAddr 37 (.tmp 16) (.tmp 18)),kl 21 46 20,(none,some 7,.alloc 46),ks' 46 7 21]:=⟨by kernel_rfl,by kernel_rfl⟩
noncomputable def aSP:Code:=dZ [1,1,1,0,1,0,0,1,1,0,0,1,0] pnC
theorem aXS:RK aSP [kf 22 46 7 2,kl 23 5 22,(none,some 24,.binOp .neq 5 (.tmp 23) (.const (.int .u8 0)) 5)]:=⟨by kernel_rfl,by kernel_rfl⟩
noncomputable def aSO:Code:=dZ [1,1,1,0,1,0,0,1,1,0,0,1,1,0,0] pnC
theorem aXR:RK aSO [kc 2 (.bool false),kc 3 (.int .i64 0)]:=⟨by kernel_rfl,by kernel_rfl⟩
noncomputable def aOm:Code:=dZ [1,1,1,0,1,0,0,1,1,1] pnC
theorem aXQ:RK aOm [(none,some 25,.binOp .add 3 (.tmp 18) (.const (.int .i64 1)) 3),km 18 25]:=⟨by kernel_rfl,by kernel_rfl⟩
noncomputable def aMD:Code:=dZ [1,1,1,1,0] pnC
theorem aSW:RK aMD [kc 2 (.bool true),kc 3 (.int .i64 0)]:=⟨by kernel_rfl,by kernel_rfl⟩
theorem aXZ:pnC=(.seq aSV (.seq aSU (.seq (.seq aST (.cond (.tmp 14) (.seq aXP .ret) .skip)) (.seq (.seq aSS (.block 0 (.loop (.seq aSR (.seq (.cond (.tmp 19) .skip (.exit 0)) (.seq (.block 1 (.seq aSQ (.seq aSP (.cond (.tmp 24) (.seq aSO .ret) .skip)))) aOm)))))) (.seq aMD .ret))))):=by kernel_rfl
noncomputable def NW:Code:=match(Tryz.f11).body with
 |some c=>c
 |none=>.skip
noncomputable def aTl:Code:=dZ [0] NW
theorem aYw:RK aTl [(none,some 2,.box 35 (.tmp 0)),kc 4 (.int .u8 0),kc 5 (.int .i64 0)]:=⟨by kernel_rfl,by kernel_rfl⟩
noncomputable def aTk:Code:=dZ [1,0,0] NW
theorem aYv:RK aTk [km 13 1,(none,some 14,.call ⟨.value (.func 32),#[(.tmp 13)],#[5]⟩),ka 6 14]:=⟨by kernel_rfl,by kernel_rfl⟩
noncomputable def aTj:Code:=dZ [1,0,1,0] NW
theorem aYu:RK aTj [km 15 6,(none,some 16,.binOp .neq 38 (.tmp 15) (.const (.int .i64 0)) 38)]:=⟨by kernel_rfl,by kernel_rfl⟩
noncomputable def aTi:Code:=dZ [1,0,1,1,0,0] NW
theorem aYt:RK aTi [km 17 6,kc 4 (.int .u8 0),ka 5 17]:=⟨by kernel_rfl,by kernel_rfl⟩
noncomputable def aTh:Code:=dZ [1,1,0] NW
theorem aYs:RK aTh [kl 19 35 2,(none,some 20,.call ⟨.value (.func 7),#[(.tmp 19)],#[35]⟩),km 18 20,kx 21 18 0,kx 22 18 1,ka 7 21,ka 8 22]:=⟨by kernel_rfl,by kernel_rfl⟩
noncomputable def aTg:Code:=dZ [1,1,1,0,0] NW
theorem aYr:RK aTg [km 23 8,(none,some 24,.binOp .neq 38 (.tmp 23) (.const (.int .i64 0)) 38)]:=⟨by kernel_rfl,by kernel_rfl⟩
noncomputable def aYn:Code:=dZ [1,1,1,0,1,0,0] NW
noncomputable def aTf:Code:=dZ [1,1,1,1,0] NW
theorem aYq:RK aTf [kc 9 (.bool true),kc 10 (.bool false)]:=⟨by kernel_rfl,by kernel_rfl⟩
noncomputable def aTe:Code:=dZ [1,1,1,1,1,0,0] NW
theorem aYp:RK aTe [km 26 7,(none,some 27,.call ⟨.builtin .len,#[(.tmp 26)],#[37]⟩),(none,some 28,.move (.const (.int .i64 0)))]:=⟨by kernel_rfl,by kernel_rfl⟩
noncomputable def aTd:Code:=dZ [1,1,1,1,1,0,1,0,0,0] NW
theorem aYo:RK aTd [(none,some 29,.binOp .lss 3 (.tmp 28) (.tmp 27) 3)]:=⟨by kernel_rfl,by kernel_rfl⟩
noncomputable def aMR:Code:=dZ [1,1,1,1,1,0,1,0,0,1,1,0,0,0] NW
theorem aTu:RK aMR [(none,some 30,.indexAddr 37 (.tmp 26) (.tmp 28)),kl 31 46 30,(none,some 12,.alloc 46),ks' 46 12 31]:=⟨by kernel_rfl,by kernel_rfl⟩
noncomputable def aHC:Code:=dZ [1,1,1,1,1,0,1,0,0,1,1,0,0,1,0] NW
theorem aTt:RK aHC [km 32 9,km 33 32,kg 1 true (kf 34 46 12 2),kg 1 true (kl 35 5 34),kg 1 true (km 36 1),(some (1,true),some 37,.binOp .and 5 (.tmp 35) (.tmp 36) 5),kg 1 true (km 38 1),(some (1,true),some 39,.binOp .eql 5 (.tmp 37) (.tmp 38) 5),(none,some 40,.pick (.tmp 33) (.tmp 39) (.const (.bool false))),ka 9 40]:=⟨by kernel_rfl,by kernel_rfl⟩
noncomputable def aHB:Code:=dZ [1,1,1,1,1,0,1,0,0,1,1,0,0,1,1] NW
theorem aTs:RK aHB [km 41 10,km 42 41,kg 1 false (kf 43 46 12 2),kg 1 false (kl 44 5 43),kg 1 false (km 45 1),(some (1,false),some 46,.binOp .and 5 (.tmp 44) (.tmp 45) 5),(some (1,false),some 47,.binOp .neq 5 (.tmp 46) (.const (.int .u8 0)) 5),(none,some 48,.pick (.tmp 42) (.const (.bool true)) (.tmp 47)),ka 10 48]:=⟨by kernel_rfl,by kernel_rfl⟩
noncomputable def aHA:Code:=dZ [1,1,1,1,1,0,1,0,0,1,1,1] NW
theorem aTr:RK aHA [(none,some 49,.binOp .add 3 (.tmp 28) (.const (.int .i64 1)) 3),km 28 49]:=⟨by kernel_rfl,by kernel_rfl⟩
noncomputable def aMQ:Code:=dZ [1,1,1,1,1,1,0,0,0] NW
theorem aTq:RK aMQ [km 51 9,ka 50 51]:=⟨by kernel_rfl,by kernel_rfl⟩
noncomputable def aMP:Code:=dZ [1,1,1,1,1,1,0,0,1,0,0] NW
theorem aTp:RK aMP [kc 4 (.int .u8 3),kc 5 (.int .i64 0)]:=⟨by kernel_rfl,by kernel_rfl⟩
noncomputable def aMO:Code:=dZ [1,1,1,1,1,1,0,0,1,1,0] NW
theorem aTo:RK aMO [km 53 10,ka 52 53]:=⟨by kernel_rfl,by kernel_rfl⟩
noncomputable def aMN:Code:=dZ [1,1,1,1,1,1,0,0,1,1,1,0,0] NW
theorem aTn:RK aMN [kc 4 (.int .u8 2),kc 5 (.int .i64 0)]:=⟨by kernel_rfl,by kernel_rfl⟩
noncomputable def aHz:Code:=dZ [1,1,1,1,1,1,1,0] NW
theorem aTm:RK aHz [kc 4 (.int .u8 1),kc 5 (.int .i64 0)]:=⟨by kernel_rfl,by kernel_rfl⟩
theorem aYy:NW=(.seq aTl (.seq (.seq aTk (.seq aTj (.cond (.tmp 16) (.seq aTi .ret) .skip))) (.seq aTh (.seq (.seq aTg (.cond (.tmp 24) (.seq aYn .ret) .skip)) (.seq aTf (.seq (.seq aTe (.block 0 (.loop (.seq aTd (.seq (.cond (.tmp 29) .skip (.exit 0)) (.seq (.block 1 (.seq aMR (.seq aHC aHB))) aHA)))))) (.seq (.block 2 (.seq aMQ (.cond (.tmp 50) (.seq aMP .ret) (.seq aMO (.cond (.tmp 52) (.seq aMN .ret) .skip))))) (.seq aHz .ret)))))))):=by kernel_rfl
theorem aGr{P:Program}{W:World}{a:Act}{o:Oper}{t yt:TypeId}{x y:Operand}{q:IntKind}{m m':Int}(ho:o.op=.binOp .gtr t x y yt)(hx:a.eval x=.int q m)(hy:a.eval y=.int q m'):(execOp a.eval o).run P W=.ok (.value (.bool (decide (m'<m)))) W:=
 yK ho hx hy (by simp[eqGuard,binOp,Op.intCmp])
theorem aHy(m:Int)(W:World):Calls Tryz.prog 32 #[.int .u8 m] W fun e W1=>e=.returned (.int .i64 (if 1<=m/\m<=3 then 0 else 9))/\W1=W:=by
 refine(aM8 (n:=0)).1 ?_;refine fO (args:=[.int .u8 m]) (N:=9) Tryz.func32 (show _=some mkC by kernel_rfl) Tryz.ntmps32 (by simp) fun a h=>?_;rw[aYl];refine aEK (aH aYk fun ops l hK hk=>?_);refine aC (v:=.int .i64 0) hk h fun l a hk h=>?_;refine s0 hk (aEK (aEK (aH aYj fun ops l hK hk=>?_)));refine mV (v:=.int .u8 m) hk h fun l a hk h=>?_;have fin: ∀(t:Bool) (l:List Oper) (a:Act),t= !decide (1<=m/\m<=3)->l=[]->Sl 9 [(8,.bool t)] a->(Code.cond (.tmp 8) (.seq aPb .ret) .skip).wpIn (FR none) 0 Tryz.prog (Exit.then ((Code.seq aPa .ret).wpIn (FR none) 0 Tryz.prog (bodyPost Tryz.prog Tryz.f32 fun e W1=>e=.returned (.int .i64 (if 1<=m/\m<=3 then 0 else 9))/\W1=W)) (bodyPost Tryz.prog Tryz.f32 fun e W1=>e=.returned (.int .i64 (if 1<=m/\m<=3 then 0 else 9))/\W1=W)) a W:=by
  intro t l a ht _ h;refine jJ (t:=t) h (by simp) (fun c=>?_) (fun c=>?_)
  . refine aEK (aH aYi fun ops l hK hk=>?_);refine aC (v:=.int .i64 9) hk h fun l a hk h=>?_;refine s0 hk (aQE ?_);exact kZ (R:=fun e W1=>e=.returned (.int .i64 (if 1<=m/\m<=3 then 0 else 9))/\W1=W) (i:=2) (v:=.int .i64 9) h Tryz.results32 (by simp) ⟨by rw[aFv (fun hh=>by rw[c,aEy hh]at ht;cases ht)],rfl⟩
  refine aNH (aEK (aH aYh fun ops l hK hk=>?_));refine aC (v:=.int .i64 0) hk h fun l a hk h=>?_;refine s0 hk (aQE ?_);exact kZ (R:=fun e W1=>e=.returned (.int .i64 (if 1<=m/\m<=3 then 0 else 9))/\W1=W) (i:=2) (v:=.int .i64 0) h Tryz.results32 (by simp) ⟨by rw[aFw (a1N fun hh=>by rw[c,aEm hh]at ht;cases ht)],rfl⟩
 by_cases c:m<1
 . refine sV (v:=.bool true) hk h (fun _ ho=>by have:=BA (P:=Tryz.prog) (W:=W) (q:=.u8) ho (sT h (v:=.int .u8 m)) (m':=1) rfl;rw[aEy c]at this;exact this) fun l a hk h=>?_;refine mV (v:=.bool true) hk h fun l a hk h=>?_;refine sX hK hk h 5 fun l a hk h=>?_;refine sX hK hk h 5 fun l a hk h=>?_;refine sV (v:=.bool true) hk h (fun _ ho=>jM ho (sT h) rfl) fun l a hk h=>?_;exact s0 hk (fin true [] a (by rw[aEm (by omega)];rfl) rfl (cO h))
 refine sV (v:=.bool false) hk h (fun _ ho=>by have:=BA (P:=Tryz.prog) (W:=W) (q:=.u8) ho (sT h (v:=.int .u8 m)) (m':=1) rfl;rw[aEm c]at this;exact this) fun l a hk h=>?_;refine mV (v:=.bool false) hk h fun l a hk h=>?_;refine mG (v:=.int .u8 m) hK hk h 5 fun l a hk h=>?_;refine sG (v:=.bool (decide (3<m))) hK hk h 5 (fun _ ho=>aGr (q:=.u8) ho (sT h) rfl) fun l a hk h=>?_;refine sV (v:=.bool (decide (3<m))) hk h (fun _ ho=>mZ ho (sT h) (sT h)) fun l a hk h=>?_;exact s0 hk (fin (decide (3<m)) [] a (if d:3<m then(by rw[aEy d,aEm (by omega)];rfl)else(by rw[aEm d,aEy (by omega)];rfl)) rfl (cO h))
def mE(m:Int):Int:=if 1<=m/\m<=3 then 0 else 9
theorem aCK(m:Int)(W:World):Calls Tryz.prog 32 #[.int .u8 m] W fun e W1=>e=.returned (.int .i64 (mE m))/\W1=W:=aHy m W
def OkU(er:Int)(w:World)(e:Ending)(w':World):Prop:=(∃u,e=.returned (.tuple #[u,.int .i64 er]))/\Below w.heap.size w w'
def OkA(er:Int)(w:World)(e:Ending)(w':World):Prop:= ∃cs:List Value,e=.returned (.tuple #[.agg cs.toArray,.int .i64 er])/\cs.length=36/\(∀v ∈ cs,v.oneCell'=true)/\Below w.heap.size w w'
theorem gI{W W1:World}{s:Nat}{el:TypeId}{vs:List Value}(h:Al W W1 s el vs):Below W.heap.size W W1:=⟨h.2.2.2.2.1,h.2.2.2.2.2.1,h.2.2.2.2.2.2,(dF h).1,(dF h).2⟩
theorem bG{n:Nat}{w W W':World}(h:Below n w W)(k:Below W.heap.size W W')(hn:n<=w.heap.size):Below n w W':=⟨k.os.trans h.os,k.tape.trans h.tape,k.output.trans h.output,aJi h.size k.size,fun b hb=>(k.block b (by have:=h.size;omega)).trans (h.block b hb)⟩
theorem aU9(W:World):(Instr.build 35 #[]).run Tryz.prog W=.ok (.agg zE.toArray) W:=by kernel_rfl
theorem aDN{W:World}{a:Act}{o:Oper}(ho:o.op=.build 35 #[]):(execOp a.eval o).run Tryz.prog W=.ok (.value (.agg zE.toArray)) W:=by
 have h:(#[]:Array (Nat × Operand)).map (fun p=>(p.1,a.eval p.2))= #[]:=by simp
 unfold execOp;simp only[ho,aCA,aEz];rw[h,aU9];rfl
theorem aFE: ∀v ∈ zE,v.oneCell'=true:=by
 have h:zE.all (fun v=>v.oneCell')=true:=by kernel_rfl
 exact fun v hv=>(aJr.1 h) v hv
theorem zB{P:Program}{W:World}{a:Act}{o:Oper}{t yt:TypeId}{x y:Operand}{q:IntKind}{m m':Int}(e:m=m')(ho:o.op=.binOp .neq t x y yt)(hx:a.eval x=.int q m)(hy:a.eval y=.int q m'):(execOp a.eval o).run P W=.ok (.value (.bool false)) W:=by
 have:=JK (P:=P) (W:=W) ho hx hy;rw[aEy e]at this;exact this
def pz(W:World)(cs:List Value):World:=(W.alloc (.cells #[.int .i64 0,.int .i64 0,.int .u8 0] 46)).setCells W.heap.size 0 cs
theorem aIY(x:Xp)(q:Nat)(W:World):Al W (pz W (x.cl q)) W.heap.size 46 (x.cl q):=sJ (us:=x.cl q) (dY (W:=W) (el:=46) [.int .i64 0,.int .i64 0,.int .u8 0]) rfl
theorem wrap_succ{q n:Nat}(h:q<n)(hn:n<10000000):IntKind.i64.wrap ((q:Int)+1)=(q:Int)+1:=by
 have hb:IntKind.i64.bits=64:=rfl;unfold IntKind.wrap;simp[IntKind.signed,hb];omega
theorem aIb:vF Tryz.prog 46 0=some 0:=by kernel_rfl
theorem aIa:vF Tryz.prog 46 1=some 1:=by kernel_rfl
section
variable{w0:World}{x:Xp}
theorem aJ3(hck:Same w0 19 #[x.v] (.int .i64 0))(hI:bP w0 x.bs x.L)(hn:x.L.length<=256)(h0:x.bs=none->x.L.length=0)(m:Int)(w:World)(hw:Below w0.heap.size w0 w):
 Calls Tryz.prog 21 #[x.v,.int .u8 m] w (OkA (mE m) w):=by
 refine(aM8 (n:=0)).1 ?_;refine fO (args:=[x.v,.int .u8 m]) (N:=18) Tryz.func21 (show _=some wiC by kernel_rfl) Tryz.ntmps21 (by simp) fun a h=>?_;rw[aWM];refine aEK (aH aWL fun ops l hK hk=>?_);refine sV (v:=pa w.heap.size 0) hk h (fun _ ho=>pJ (v:=x.v) ho (sT h) rfl) fun l a hk h=>?_;have A0:Al w (w.alloc (.cells x.l.toArray 35)) w.heap.size 35 x.l:=dY x.l;change wpListIn _ _ _ _ _ _ _ (w.alloc (.cells x.l.toArray 35));generalize w.alloc (.cells x.l.toArray 35)=W0 at A0 ⊢;obtain⟨p0,hp0⟩: ∃p,p=w.heap.size:=⟨_,rfl⟩;rw[<-hp0]at A0 h;refine sV (v:=pa W0.heap.size 0) hk h (fun _ ho=>pJ (v:=.int .u8 m) ho (sT h) rfl) fun l a hk h=>?_;have A1:Al W0 (W0.alloc (.cells #[.int .u8 m] 5)) W0.heap.size 5 [.int .u8 m]:=dY [.int .u8 m];change wpListIn _ _ _ _ _ _ _ (W0.alloc (.cells #[.int .u8 m] 5));generalize W0.alloc (.cells #[.int .u8 m] 5)=W1 at A1 ⊢;obtain⟨pm,hpm⟩: ∃p,p=W0.heap.size:=⟨_,rfl⟩;rw[<-hpm]at A1 h;refine sV (v:=pa W1.heap.size 0) hk h (fun _ ho=>jV ho (Tryz.zeroValue35 W1)) fun l a hk h=>?_;have A2:Al W1 (W1.alloc (.cells zE.toArray 35)) W1.heap.size 35 zE:=dY zE;change wpListIn _ _ _ _ _ _ _ (W1.alloc (.cells zE.toArray 35));generalize W1.alloc (.cells zE.toArray 35)=W2 at A2 ⊢;obtain⟨pr,hpr⟩: ∃p,p=W1.heap.size:=⟨_,rfl⟩;rw[<-hpr]at A2 h;refine aC (v:=.int .i64 0) hk h fun l a hk h=>?_;obtain⟨e0,k0⟩:=dF A0;obtain⟨e1,k1⟩:=dF A1;obtain⟨e2,k2⟩:=dF A2;have y0:=A0.2.1;have y1:=A1.2.1;have y2:=A2.2.1;have b2:Below w.heap.size w W2:=bG (bG (gI A0) (gI A1) (aDT _)) (gI A2) (aDT _);have f0:fF W2 p0 35 x.l:=aT A0.2.2.2.1 ((k2 _ (by omega)).trans (k1 _ (by omega)));have f1:fF W2 pm 5 [.int .u8 m]:=aT A1.2.2.2.1 (k2 _ (by omega));have f2:=A2.2.2.2.1;have w02:Below w0.heap.size w0 W2:=bG hw b2 (aDT _);refine s0 hk (aEK (aEK (aH aWK fun ops l hK hk=>?_)));refine lV (b:=pm) (off:=0) DY (v:=.int .u8 m) hk h (aY (j:=0) f1 rfl) fun l a hk h=>?_;refine sc hk h rfl (by decide) (fun _ ho=>jB ho Tryz.func32) (R:=fun e W3=>e=.returned (.int .i64 (mE m))/\W3=W2) (by rw[aFZ,sT h (v:=.int .u8 m)];exact aCK m W2) (fun e W3 hR=>⟨_,hR.1,fun l a hk h=>?_⟩);rw[hR.2];refine aV (v:=.int .i64 (mE m)) hk h fun l a hk h=>?_;refine s0 hk (aEK (aH aWJ fun ops l hK hk=>?_));refine mV (v:=.int .i64 (mE m)) hk h fun l a hk h=>?_;refine sV (v:=.bool (!decide (mE m=0))) hk h (fun _ ho=>JK (q:=.i64) ho (sT h) rfl) fun l a hk h=>?_;refine s0 hk (jJ (t:= !decide (mE m=0)) h (by simp) (fun c=>?_) (fun c=>aNH ?_))
 . refine aEK (aH aWI fun ops l hK hk=>?_);refine sV (v:=.agg zE.toArray) hk h (fun _ ho=>aDN ho) fun l a hk h=>?_;refine mV (v:=.int .i64 (mE m)) hk h fun l a hk h=>?_;refine ss (g:=none) hk h rfl (fun _ ho=>iG (b:=pr) (off:=0) (cs:=zE) (show World.there _ _ 0 36 from bD f2) (by kernel_rfl) aFE ho (sT h) (sT h)) (fun l hk=>?_);have LJ:=eH f2 (us:=zE) rfl;refine aV (v:=.int .i64 (mE m)) hk h fun l a hk h=>?_;refine s0 hk (aQE ?_);have rr:=JF (P:=Tryz.prog) (W:=W2.setCells pr 0 zE) (fn:=Tryz.f21) h (i:=4) (j:=5) (t:=35) (b:=pr) (v:=.agg zE.toArray) (u:=.int .i64 (mE m)) rfl (by simp) (by simp) (aQO _ _ _ _ zE _ (aW LJ) Tryz.underlying35 rfl (by kernel_rfl));exact(⟨h.defs,_,rr,zE,rfl,rfl,aFE,Sk.iL (by omega) _ _ b2⟩:bodyPost Tryz.prog Tryz.f21 (OkA (mE m) w) .ret a _)
 have hm0:mE m=0:=by simpa using c
 refine aEK (aH aWH fun ops l hK hk=>?_);refine sV (v:=x.v) hk h (fun _ ho=>fE (aW f0) Tryz.underlying35 rfl (by kernel_rfl) ho (sT h)) fun l a hk h=>?_;refine sV (v:=.func (.func 40) #[] #[pa pm 0]) hk h (fun _ ho=>QY ho (sT h)) fun l a hk h=>?_;refine sc hk h rfl (by decide) (fun _ ho=>jB ho Tryz.func35) (R:=aFu W2) (by
  rw[XQ,sT h (k:=13) (v:=x.v),sT h (k:=14) (v:=.func (.func 40) #[] #[pa pm 0])];exact zQ hck hI hn h0 W2 w02 (aH0 (m0:=m) (aY (j:=0) f1 rfl) (by omega))) (fun e W9 ⟨cs,ev,c1,c2,B2⟩=>⟨_,ev,fun l a hk h=>?_⟩)
 refine sV (v:=.agg cs.toArray) hk h (fun _ ho=>dB (vs:= #[.agg cs.toArray,.int .i64 0]) rfl ho (sT h)) fun l a hk h=>?_;refine sV (v:=.int .i64 0) hk h (fun _ ho=>dB (vs:= #[.agg cs.toArray,.int .i64 0]) rfl ho (sT h)) fun l a hk h=>?_;have s2:=B2.size;have zN:fF W9 pr 35 zE:=aT f2 (B2.block pr (by omega));refine ss (g:=none) hk h rfl (fun _ ho=>iG (b:=pr) (off:=0) (cs:=cs) (by rw[c1];exact(show World.there _ _ 0 36 from bD zN)) (by rw[c1];kernel_rfl) c2 ho (sT h) (sT h)) (fun l hk=>?_);have LJ:=eH zN (us:=cs) c1;refine aV (v:=.int .i64 0) hk h fun l a hk h=>?_;refine s0 hk (aQE ?_);have rr:=JF (P:=Tryz.prog) (W:=W9.setCells pr 0 cs) (fn:=Tryz.f21) h (i:=4) (j:=5) (t:=35) (b:=pr) (v:=.agg cs.toArray) (u:=.int .i64 0) rfl (by simp) (by simp) (aQO _ _ _ _ cs _ (aW LJ) Tryz.underlying35 rfl (by rw[c1];kernel_rfl));exact(⟨h.defs,_,rr,cs,by rw[hm0],c1,c2,Sk.iL (by omega) _ _ (bG b2 B2 (aDT _))⟩:bodyPost Tryz.prog Tryz.f21 (OkA (mE m) w) .ret a _)
theorem aGz(hck:Same w0 19 #[x.v] (.int .i64 0))(hI:bP w0 x.bs x.L)(hn:x.L.length<=256)(w:World)(hw:Below w0.heap.size w0 w):
 Calls Tryz.prog 9 #[x.v] w (OkU 0 w):=by
 refine(aM8 (n:=0)).1 ?_;refine fO (args:=[x.v]) (N:=26) Tryz.func9 (show _=some pnC by kernel_rfl) Tryz.ntmps9 (by simp) fun a h=>?_;rw[aXZ];refine aEK (aH aXY fun ops l hK hk=>?_);refine sV (v:=pa w.heap.size 0) hk h (fun _ ho=>pJ (v:=x.v) ho (sT h) rfl) fun l a hk h=>?_;have A0:Al w (w.alloc (.cells x.l.toArray 35)) w.heap.size 35 x.l:=dY x.l;change wpListIn _ _ _ _ _ _ _ (w.alloc (.cells x.l.toArray 35));generalize w.alloc (.cells x.l.toArray 35)=W0 at A0 ⊢;obtain⟨p0,hp0⟩: ∃p,p=w.heap.size:=⟨_,rfl⟩;rw[<-hp0]at A0 h;refine aC (v:=.bool false) hk h fun l a hk h=>?_;refine aC (v:=.int .i64 0) hk h fun l a hk h=>?_;have f0:=A0.2.2.2.1;have aNL:Below w0.heap.size w0 W0:=bG hw (gI A0) (aDT _);refine s0 hk (aEK (aH aXX fun ops l hK hk=>?_));refine sV (v:=x.v) hk h (fun _ ho=>fE (aW f0) Tryz.underlying35 rfl (by kernel_rfl) ho (sT h)) fun l a hk h=>?_;refine sc hk h rfl (by decide) (fun _ ho=>jB ho Tryz.func7) (R:=fun e w'=> ∃ad,e=.returned (.tuple #[x.sl ad,.int .i64 0])/\iW w' ad x.pl.length x.cl/\Below W0.heap.size W0 w') (by rw[aFZ,sT h (v:=x.v)];exact AB hck hI hn W0 aNL) (fun e WW ⟨ad,ev,hL,BW⟩=>⟨_,ev,fun l a hk h=>?_⟩);refine mV (v:=.tuple #[x.sl ad,.int .i64 0]) hk h fun l a hk h=>?_;refine sV (v:=x.sl ad) hk h (fun _ ho=>dB (vs:= #[x.sl ad,.int .i64 0]) rfl ho (sT h)) fun l a hk h=>?_;refine sV (v:=.int .i64 0) hk h (fun _ ho=>dB (vs:= #[x.sl ad,.int .i64 0]) rfl ho (sT h)) fun l a hk h=>?_;refine aV (v:=x.sl ad) hk h fun l a hk h=>?_;refine aV (v:=.int .i64 0) hk h fun l a hk h=>?_;have bW:Below w.heap.size w WW:=bG (gI A0) BW (aDT _);refine s0 hk (aEK (aEK (aH aXW fun ops l hK hk=>?_)));refine mV (v:=.int .i64 0) hk h fun l a hk h=>?_;refine sV (v:=.bool false) hk h (fun _ ho=>zB (q:=.i64) (m:=0) (m':=0) rfl ho (sT h) rfl) fun l a hk h=>?_;refine s0 hk (aPo (sT h) (aNH (aEK (aEK (aH aXV fun ops l hK hk=>?_)))));refine mV (v:=x.sl ad) hk h fun l a hk h=>?_;refine sV (v:=.int .i64 (x.pl.length:Int)) hk h (fun _ ho=>yJ (s:=ad) (c:=x.pl.length) (el:=46) (by kernel_rfl) ho (sT h)) fun l a hk h=>?_;refine sV (v:=.int .i64 ((0:Nat):Int)) hk h (fun _ ho=>jC ho rfl) fun l a hk h=>?_;refine s0 hk (aP7 (pV (fun k a W=> ∃q,k+q=x.pl.length/\Below w.heap.size w W/\iW W ad x.pl.length x.cl/\Sl 26 [(16,x.sl ad),(17,.int .i64 (x.pl.length:Int)),(18,.int .i64 (q:Int))] a) ?_ (m:=x.pl.length) ⟨0,rfl,bW,hL,cO h⟩));intro k a W ⟨q,hkq,hB,hL,h⟩;refine aEK (aH aXU fun ops l hK hk=>?_);refine sV (v:=.bool (decide ((q:Int)<(x.pl.length:Int)))) hk h (fun _ ho=>BA (q:=.i64) ho (sT h) (sT h)) fun l a hk h=>?_;refine s0 hk (aEK (jJ (t:=decide ((q:Int)<(x.pl.length:Int))) h (by simp) (fun hi=>aNH ?_) (fun hi=>a0T ?_)))
 . refine aEK (aP7 (aEK ?_));have hq:q<x.pl.length:=by have:=aHY hi;omega
   obtain⟨g,rfl,hg,hr⟩:=hL q hq;refine aH aXT fun ops l hK hk=>?_;refine sV (v:=pa g (0+q * 3)) hk h (fun _ ho=>tK (g:=g) (off:=0) (n:=x.pl.length) (cp:=x.pl.length) (el:=46) (sz:=3) (by kernel_rfl) (by kernel_rfl) hq ho (sT h) (sT h)) fun l a hk h=>?_;refine sV (v:=.agg (x.cl q).toArray) hk h (fun _ ho=>fE (b:=g) (off:=0+q * 3) (cs:=x.cl q) (by rw[aHv];exact hr) Tryz.underlying46 rfl (by kernel_rfl) ho (sT h)) fun l a hk h=>?_;refine sV (v:=pa W.heap.size 0) hk h (fun _ ho=>jV ho (Tryz.zeroValue46 W)) fun l a hk h=>?_;refine ss (g:=none) hk h rfl (fun _ ho=>iG (b:=W.heap.size) (off:=0) (cs:=x.cl q) (show World.there _ _ 0 3 from bD (dY (W:=W) (el:=46) [.int .i64 0,.int .i64 0,.int .u8 0]).2.2.2.1) (by kernel_rfl) (MI x q) ho (sT h) (sT h)) (fun l hk=>?_);have AZ:=aIY x q W;change wpListIn _ _ _ _ _ _ _ (pz W (x.cl q));generalize pz W (x.cl q)=W1 at AZ ⊢;obtain⟨p,hp⟩: ∃p,p=W.heap.size:=⟨_,rfl⟩;rw[<-hp]at AZ h;obtain⟨ez,kz⟩:=dF AZ;have fz:=AZ.2.2.2.1;have bz:Below w.heap.size w W1:=bG hB (gI AZ) (aDT _);have lz:iW W1 (some ⟨g,0,none⟩) x.pl.length x.cl:=hL.later ez kz;refine s0 hk (aEK (aH aXS fun ops l hK hk=>?_));have fz2:W1.cell? ⟨p,0+2,none⟩=some (.int .u8 (mkv (x.dt (x.pl.getD q (0,0)).1) (x.pl.getD q (0,0)).2)):=aY (j:=0+2) fz rfl;generalize (mkv (x.dt (x.pl.getD q (0,0)).1) (x.pl.getD q (0,0)).2)=mk at fz2;refine sV (v:=pa p (0+2)) hk h (fun _ ho=>dA (b:=p) (o':=0) LM ho (sT h)) fun l a hk h=>?_;refine lV (b:=p) (off:=0+2) DY (v:=.int .u8 mk) hk h fz2 fun l a hk h=>?_;refine sV (v:=.bool (!decide (mk=0))) hk h (fun _ ho=>JK (q:=.u8) ho (sT h) rfl) fun l a hk h=>?_;refine s0 hk (jJ (t:= !decide (mk=0)) h (by simp) (fun c=>aEK (aH aXR fun ops l hK hk=>?_)) (fun c=>aNH ?_))
   . refine aC (v:=.bool false) hk h fun l a hk h=>?_;refine aC (v:=.int .i64 0) hk h fun l a hk h=>?_;refine s0 hk (aQE ?_);exact wV (R:=OkU 0 w) (i:=2) (j:=3) (v:=.bool false) (u:=.int .i64 0) h Tryz.results9 (by simp) (by simp) ⟨⟨_,rfl⟩,bz⟩
   show aOm.wpIn _ _ _ _ _ _;refine aH aXQ fun ops l hK hk=>?_;refine sV (v:=.int .i64 ((q:Int)+1)) hk h (fun _ ho=>JM ho (sT h) rfl (wrap_succ hq (x.V9 hn))) fun l a hk h=>?_;refine mV (v:=.int .i64 ((q:Int)+1)) hk h fun l a hk h=>?_;exact s0 hk ⟨k - 1,by omega,q+1,by omega,bz,lz,by rw[aVM];exact cO h⟩
 refine aEK (aH aSW fun ops l hK hk=>?_);refine aC (v:=.bool true) hk h fun l a hk h=>?_;refine aC (v:=.int .i64 0) hk h fun l a hk h=>?_;refine s0 hk (aQE ?_);exact wV (R:=OkU 0 w) (i:=2) (j:=3) (v:=.bool true) (u:=.int .i64 0) h Tryz.results9 (by simp) (by simp) ⟨⟨_,rfl⟩,hB⟩
end
theorem aCw(t:TypeId)(m n:Int)(x y:Operand)(W:World): ∃z:Int,(do eqGuard .and t x y (.int .u8 m) (.int .u8 n);binOp .and t (.int .u8 m) (.int .u8 n)).run Tryz.prog W=.ok (.int .u8 z) W:=by
 refine⟨IntKind.u8.wrap (BitVec.ofInt IntKind.u8.bits m &&& BitVec.ofInt IntKind.u8.bits n).toNat,?_⟩;simp[eqGuard,binOp,Op.intBits]
theorem aYA{r:Option Nat}{Q:Exit->Act->World->Prop}{a:Act}{W:World}{p:Nat}{m mk:Int}{bA bS:Bool}{v26 v27 v28:Value}(h:Sl 54 [(1,.int .u8 m),(9,.bool bA),(10,.bool bS),(12,pa p 0),(26,v26),(27,v27),(28,v28)] a)(hc:W.cell? ⟨p,0+2,none⟩=some (.int .u8 mk))(k: ∀b' a,Sl 54 [(1,.int .u8 m),(9,.bool b'),(10,.bool bS),(12,pa p 0),(26,v26),(27,v27),(28,v28)] a->Q .normal a W):aHC.wpIn (FR r) 0 Tryz.prog Q a W:=by
 refine aH aTt fun ops l hK hk=>?_;refine mV (v:=.bool bA) hk h fun l a hk h=>?_;refine mV (v:=.bool bA) hk h fun l a hk h=>?_;obtain⟨z,hz⟩:=aCw 5 mk m (.tmp 35) (.tmp 36) W
 cases bA with
 |true=>
  refine sG (v:=pa p (0+2)) hK hk h 33 (fun _ ho=>dA (b:=p) (o':=0) LM ho (sT h)) fun l a hk h=>?_;refine sG (v:=.int .u8 mk) hK hk h 33 (fun _ ho=>kD (b:=p) (off:=0+2) DY ho (sT h) hc) fun l a hk h=>?_;refine mG (v:=.int .u8 m) hK hk h 33 fun l a hk h=>?_;refine sG (v:=.int .u8 z) hK hk h 33 (fun _ ho=>yK ho (sT h) (sT h) hz) fun l a hk h=>?_;refine mG (v:=.int .u8 m) hK hk h 33 fun l a hk h=>?_;refine sG (v:=.bool (decide (z=m))) hK hk h 33 (fun _ ho=>OY (q:=.u8) ho (sT h) (sT h)) fun l a hk h=>?_;refine sV (v:=.bool (decide (z=m))) hk h (fun _ ho=>jM ho (sT h) (sT h)) fun l a hk h=>?_;refine aV (v:=.bool (decide (z=m))) hk h fun l a hk h=>?_;exact s0 hk (k (decide (z=m)) _ (cO h))
 |false=>
  refine sX hK hk h 33 fun l a hk h=>?_;refine sX hK hk h 33 fun l a hk h=>?_;refine sX hK hk h 33 fun l a hk h=>?_;refine sX hK hk h 33 fun l a hk h=>?_;refine sX hK hk h 33 fun l a hk h=>?_;refine sX hK hk h 33 fun l a hk h=>?_;refine sV (v:=.bool false) hk h (fun _ ho=>mZ ho (sT h) rfl) fun l a hk h=>?_;refine aV (v:=.bool false) hk h fun l a hk h=>?_;exact s0 hk (k false _ (cO h))
theorem aYz{r:Option Nat}{Q:Exit->Act->World->Prop}{a:Act}{W:World}{p:Nat}{m mk:Int}{bA bS:Bool}{v26 v27 v28:Value}(h:Sl 54 [(1,.int .u8 m),(9,.bool bA),(10,.bool bS),(12,pa p 0),(26,v26),(27,v27),(28,v28)] a)(hc:W.cell? ⟨p,0+2,none⟩=some (.int .u8 mk))(k: ∀b' a,Sl 54 [(1,.int .u8 m),(9,.bool bA),(10,.bool b'),(12,pa p 0),(26,v26),(27,v27),(28,v28)] a->Q .normal a W):aHB.wpIn (FR r) 0 Tryz.prog Q a W:=by
 refine aH aTs fun ops l hK hk=>?_;refine mV (v:=.bool bS) hk h fun l a hk h=>?_;refine mV (v:=.bool bS) hk h fun l a hk h=>?_;obtain⟨z,hz⟩:=aCw 5 mk m (.tmp 44) (.tmp 45) W
 cases bS with
 |false=>
  refine sG (v:=pa p (0+2)) hK hk h 42 (fun _ ho=>dA (b:=p) (o':=0) LM ho (sT h)) fun l a hk h=>?_;refine sG (v:=.int .u8 mk) hK hk h 42 (fun _ ho=>kD (b:=p) (off:=0+2) DY ho (sT h) hc) fun l a hk h=>?_;refine mG (v:=.int .u8 m) hK hk h 42 fun l a hk h=>?_;refine sG (v:=.int .u8 z) hK hk h 42 (fun _ ho=>yK ho (sT h) (sT h) hz) fun l a hk h=>?_;refine sG (v:=.bool (!decide (z=0))) hK hk h 42 (fun _ ho=>JK (q:=.u8) ho (sT h) rfl) fun l a hk h=>?_;refine sV (v:=.bool (!decide (z=0))) hk h (fun _ ho=>mZ ho (sT h) (sT h)) fun l a hk h=>?_;refine aV (v:=.bool (!decide (z=0))) hk h fun l a hk h=>?_;exact s0 hk (k (!decide (z=0)) _ (cO h))
 |true=>
  refine sX hK hk h 42 fun l a hk h=>?_;refine sX hK hk h 42 fun l a hk h=>?_;refine sX hK hk h 42 fun l a hk h=>?_;refine sX hK hk h 42 fun l a hk h=>?_;refine sX hK hk h 42 fun l a hk h=>?_;refine sV (v:=.bool true) hk h (fun _ ho=>jM ho (sT h) rfl) fun l a hk h=>?_;refine aV (v:=.bool true) hk h fun l a hk h=>?_;exact s0 hk (k true _ (cO h))
section
variable{w0:World}{x:Xp}
theorem aEn(hck:Same w0 19 #[x.v] (.int .i64 0))(hI:bP w0 x.bs x.L)(hn:x.L.length<=256)(m:Int)(w:World)(hw:Below w0.heap.size w0 w):
 Calls Tryz.prog 11 #[x.v,.int .u8 m] w (OkU (mE m) w):=by
 refine(aM8 (n:=0)).1 ?_;refine fO (args:=[x.v,.int .u8 m]) (N:=54) Tryz.func11 (show _=some NW by kernel_rfl) Tryz.ntmps11 (by simp) fun a h=>?_;rw[aYy];refine aEK (aH aYw fun ops l hK hk=>?_);refine sV (v:=pa w.heap.size 0) hk h (fun _ ho=>pJ (v:=x.v) ho (sT h) rfl) fun l a hk h=>?_;have A0:Al w (w.alloc (.cells x.l.toArray 35)) w.heap.size 35 x.l:=dY x.l;change wpListIn _ _ _ _ _ _ _ (w.alloc (.cells x.l.toArray 35));generalize w.alloc (.cells x.l.toArray 35)=W0 at A0 ⊢;obtain⟨p0,hp0⟩: ∃p,p=w.heap.size:=⟨_,rfl⟩;rw[<-hp0]at A0 h;refine aC (v:=.int .u8 0) hk h fun l a hk h=>?_;refine aC (v:=.int .i64 0) hk h fun l a hk h=>?_;have f0:=A0.2.2.2.1;have bA0:=gI A0;have aNL:Below w0.heap.size w0 W0:=bG hw bA0 (aDT _);refine s0 hk (aEK (aEK (aH aYv fun ops l hK hk=>?_)));refine mV (v:=.int .u8 m) hk h fun l a hk h=>?_;refine sc hk h rfl (by decide) (fun _ ho=>jB ho Tryz.func32) (R:=fun e W3=>e=.returned (.int .i64 (mE m))/\W3=W0) (by rw[aFZ,sT h (v:=.int .u8 m)];exact aCK m W0) (fun e W3 hR=>⟨_,hR.1,fun l a hk h=>?_⟩);rw[hR.2];refine aV (v:=.int .i64 (mE m)) hk h fun l a hk h=>?_;refine s0 hk (aEK (aH aYu fun ops l hK hk=>?_));refine mV (v:=.int .i64 (mE m)) hk h fun l a hk h=>?_;refine sV (v:=.bool (!decide (mE m=0))) hk h (fun _ ho=>JK (q:=.i64) ho (sT h) rfl) fun l a hk h=>?_;refine s0 hk (jJ (t:= !decide (mE m=0)) h (by simp) (fun c=>aEK (aH aYt fun ops l hK hk=>?_)) (fun c=>aNH ?_))
 . refine mV (v:=.int .i64 (mE m)) hk h fun l a hk h=>?_;refine aC (v:=.int .u8 0) hk h fun l a hk h=>?_;refine aV (v:=.int .i64 (mE m)) hk h fun l a hk h=>?_;refine s0 hk (aQE ?_);exact wV (R:=OkU (mE m) w) (i:=4) (j:=5) (v:=.int .u8 0) (u:=.int .i64 (mE m)) h Tryz.results11 (by simp) (by simp) ⟨⟨_,rfl⟩,bA0⟩
 have hm0:mE m=0:=by simpa using c
 refine aEK (aH aYs fun ops l hK hk=>?_);refine sV (v:=x.v) hk h (fun _ ho=>fE (aW f0) Tryz.underlying35 rfl (by kernel_rfl) ho (sT h)) fun l a hk h=>?_;refine sc hk h rfl (by decide) (fun _ ho=>jB ho Tryz.func7) (R:=fun e w'=> ∃ad,e=.returned (.tuple #[x.sl ad,.int .i64 0])/\iW w' ad x.pl.length x.cl/\Below W0.heap.size W0 w') (by rw[aFZ,sT h (v:=x.v)];exact AB hck hI hn W0 aNL) (fun e WW ⟨ad,ev,hL,BW⟩=>⟨_,ev,fun l a hk h=>?_⟩);refine mV (v:=.tuple #[x.sl ad,.int .i64 0]) hk h fun l a hk h=>?_;refine sV (v:=x.sl ad) hk h (fun _ ho=>dB (vs:= #[x.sl ad,.int .i64 0]) rfl ho (sT h)) fun l a hk h=>?_;refine sV (v:=.int .i64 0) hk h (fun _ ho=>dB (vs:= #[x.sl ad,.int .i64 0]) rfl ho (sT h)) fun l a hk h=>?_;refine aV (v:=x.sl ad) hk h fun l a hk h=>?_;refine aV (v:=.int .i64 0) hk h fun l a hk h=>?_;have bW:Below w.heap.size w WW:=bG bA0 BW (aDT _);refine s0 hk (aEK (aEK (aH aYr fun ops l hK hk=>?_)));refine mV (v:=.int .i64 0) hk h fun l a hk h=>?_;refine sV (v:=.bool false) hk h (fun _ ho=>zB (q:=.i64) (m:=0) (m':=0) rfl ho (sT h) rfl) fun l a hk h=>?_;refine s0 hk (aPo (sT h) (aNH (aEK (aH aYq fun ops l hK hk=>?_))));refine aC (v:=.bool true) hk h fun l a hk h=>?_;refine aC (v:=.bool false) hk h fun l a hk h=>?_;refine s0 hk (aEK (aEK (aH aYp fun ops l hK hk=>?_)));refine mV (v:=x.sl ad) hk h fun l a hk h=>?_;refine sV (v:=.int .i64 (x.pl.length:Int)) hk h (fun _ ho=>yJ (s:=ad) (c:=x.pl.length) (el:=46) (by kernel_rfl) ho (sT h)) fun l a hk h=>?_;refine sV (v:=.int .i64 ((0:Nat):Int)) hk h (fun _ ho=>jC ho rfl) fun l a hk h=>?_;refine s0 hk (aP7 (pV (fun k a W=> ∃q bA bS,k+q=x.pl.length/\Below w.heap.size w W/\iW W ad x.pl.length x.cl/\Sl 54 [(26,x.sl ad),(27,.int .i64 (x.pl.length:Int)),(28,.int .i64 (q:Int)),(1,.int .u8 m),(9,.bool bA),(10,.bool bS)] a) ?_ (m:=x.pl.length) ⟨0,true,false,rfl,bW,hL,cO h⟩));intro k a W ⟨q,bA,bS,hkq,hB,hL,h⟩;refine aEK (aH aYo fun ops l hK hk=>?_);refine sV (v:=.bool (decide ((q:Int)<(x.pl.length:Int)))) hk h (fun _ ho=>BA (q:=.i64) ho (sT h) (sT h)) fun l a hk h=>?_;refine s0 hk (aEK (jJ (t:=decide ((q:Int)<(x.pl.length:Int))) h (by simp) (fun hi=>aNH ?_) (fun hi=>a0T ?_)))
 . refine aEK (aP7 (aEK ?_));have hq:q<x.pl.length:=by have:=aHY hi;omega
   obtain⟨g,rfl,hg,hr⟩:=hL q hq;refine aH aTu fun ops l hK hk=>?_;refine sV (v:=pa g (0+q * 3)) hk h (fun _ ho=>tK (g:=g) (off:=0) (n:=x.pl.length) (cp:=x.pl.length) (el:=46) (sz:=3) (by kernel_rfl) (by kernel_rfl) hq ho (sT h) (sT h)) fun l a hk h=>?_;refine sV (v:=.agg (x.cl q).toArray) hk h (fun _ ho=>fE (b:=g) (off:=0+q * 3) (cs:=x.cl q) (by rw[aHv];exact hr) Tryz.underlying46 rfl (by kernel_rfl) ho (sT h)) fun l a hk h=>?_;refine sV (v:=pa W.heap.size 0) hk h (fun _ ho=>jV ho (Tryz.zeroValue46 W)) fun l a hk h=>?_;refine ss (g:=none) hk h rfl (fun _ ho=>iG (b:=W.heap.size) (off:=0) (cs:=x.cl q) (show World.there _ _ 0 3 from bD (dY (W:=W) (el:=46) [.int .i64 0,.int .i64 0,.int .u8 0]).2.2.2.1) (by kernel_rfl) (MI x q) ho (sT h) (sT h)) (fun l hk=>?_);have AZ:=aIY x q W;change wpListIn _ _ _ _ _ _ _ (pz W (x.cl q));generalize pz W (x.cl q)=W1 at AZ ⊢;obtain⟨p,hp⟩: ∃p,p=W.heap.size:=⟨_,rfl⟩;rw[<-hp]at AZ h;obtain⟨ez,kz⟩:=dF AZ;have fz:=AZ.2.2.2.1;have bz:Below w.heap.size w W1:=bG hB (gI AZ) (aDT _);have lz:iW W1 (some ⟨g,0,none⟩) x.pl.length x.cl:=hL.later ez kz;have fz2:W1.cell? ⟨p,0+2,none⟩=some (.int .u8 (mkv (x.dt (x.pl.getD q (0,0)).1) (x.pl.getD q (0,0)).2)):=aY (j:=0+2) fz rfl;refine s0 hk (aEK (aYA (p:=p) (m:=m) (bA:=bA) (bS:=bS) (v26:=x.sl (some ⟨g,0,none⟩)) (v27:=.int .i64 (x.pl.length:Int)) (v28:=.int .i64 (q:Int)) (cO h) fz2 fun b1 a h=>?_));refine aYz (p:=p) (m:=m) (bA:=b1) (bS:=bS) (v26:=x.sl (some ⟨g,0,none⟩)) (v27:=.int .i64 (x.pl.length:Int)) (v28:=.int .i64 (q:Int)) (cO h) fz2 fun b2 a h=>?_;show aHA.wpIn _ _ _ _ _ _;refine aH aTr fun ops l hK hk=>?_;refine sV (v:=.int .i64 ((q:Int)+1)) hk h (fun _ ho=>JM ho (sT h) rfl (wrap_succ hq (x.V9 hn))) fun l a hk h=>?_;refine mV (v:=.int .i64 ((q:Int)+1)) hk h fun l a hk h=>?_;exact s0 hk ⟨k - 1,by omega,q+1,b1,b2,by omega,bz,lz,by rw[aVM];exact cO h⟩
 refine aEK (aP7 (aEK (aH aTq fun ops l hK hk=>?_)));refine mV (v:=.bool bA) hk h fun l a hk h=>?_;refine aV (v:=.bool bA) hk h fun l a hk h=>?_;refine s0 hk (jJ (t:=bA) h (by simp) (fun c=>aEK (aH aTp fun ops l hK hk=>?_)) (fun c=>aEK (aH aTo fun ops l hK hk=>?_)))
 . refine aC (v:=.int .u8 3) hk h fun l a hk h=>?_;refine aC (v:=.int .i64 0) hk h fun l a hk h=>?_;refine s0 hk (aQE ?_);exact wV (R:=OkU (mE m) w) (i:=4) (j:=5) (v:=.int .u8 3) (u:=.int .i64 0) h Tryz.results11 (by simp) (by simp) ⟨⟨_,by rw[hm0]⟩,hB⟩
 refine mV (v:=.bool bS) hk h fun l a hk h=>?_;refine aV (v:=.bool bS) hk h fun l a hk h=>?_;refine s0 hk (jJ (t:=bS) h (by simp) (fun c=>aEK (aH aTn fun ops l hK hk=>?_)) (fun c=>aNH ?_))
 . refine aC (v:=.int .u8 2) hk h fun l a hk h=>?_;refine aC (v:=.int .i64 0) hk h fun l a hk h=>?_;refine s0 hk (aQE ?_);exact wV (R:=OkU (mE m) w) (i:=4) (j:=5) (v:=.int .u8 2) (u:=.int .i64 0) h Tryz.results11 (by simp) (by simp) ⟨⟨_,by rw[hm0]⟩,hB⟩
 show(Code.seq aHz .ret).wpIn _ _ _ _ _ _;refine aEK (aH aTm fun ops l hK hk=>?_);refine aC (v:=.int .u8 1) hk h fun l a hk h=>?_;refine aC (v:=.int .i64 0) hk h fun l a hk h=>?_;refine s0 hk (aQE ?_);exact wV (R:=OkU (mE m) w) (i:=4) (j:=5) (v:=.int .u8 1) (u:=.int .i64 0) h Tryz.results11 (by simp) (by simp) ⟨⟨_,by rw[hm0]⟩,hB⟩
end
end Rf
end
section
open Go.RowKit
namespace Rf
open Sk (oD lH key aY nH eH dH bD aW qQ nT jI exV kT cZ bP yS z0 Rt SS Same)
open Bk (Dt)
open Ev (fF)
noncomputable def zK:Code:=match(Tryz.f15).body with
 |some c=>c
 |none=>.skip
noncomputable def aM1:Code:=dZ [0] zK
theorem aTQ:RK aM1 [(none,some 2,.box 35 (.tmp 0)),(none,some 3,.box 37 (.tmp 1)),(none,some 4,.alloc 35),kc 5 (.int .i64 0)]:=⟨by kernel_rfl,by kernel_rfl⟩
noncomputable def aM0:Code:=dZ [1,0] zK
theorem aTP:RK aM0 [kl 11 35 2,(none,some 12,.call ⟨.value (.func 7),#[(.tmp 11)],#[35]⟩),km 10 12,kx 13 10 0,kx 14 10 1,ka 6 13,ka 7 14]:=⟨by kernel_rfl,by kernel_rfl⟩
noncomputable def aMZ:Code:=dZ [1,1,0,0] zK
theorem aTO:RK aMZ [km 15 7,(none,some 16,.binOp .neq 38 (.tmp 15) (.const (.int .i64 0)) 38)]:=⟨by kernel_rfl,by kernel_rfl⟩
noncomputable def aTJ:Code:=dZ [1,1,0,1,0,0] zK
noncomputable def aMY:Code:=dZ [1,1,1,0,0] zK
theorem aTN:RK aMY [km 19 6,(none,some 20,.call ⟨.builtin .len,#[(.tmp 19)],#[37]⟩),kl 21 37 3,(none,some 22,.call ⟨.builtin .len,#[(.tmp 21)],#[37]⟩),(none,some 23,.binOp .neq 3 (.tmp 20) (.tmp 22) 3)]:=⟨by kernel_rfl,by kernel_rfl⟩
noncomputable def aTI:Code:=dZ [1,1,1,0,1,0,0] zK
noncomputable def aMX:Code:=dZ [1,1,1,1,0,0] zK
theorem aTM:RK aMX [kl 25 37 3,(none,some 26,.call ⟨.builtin .len,#[(.tmp 25)],#[37]⟩),(none,some 27,.move (.const (.int .i64 0)))]:=⟨by kernel_rfl,by kernel_rfl⟩
noncomputable def aMW:Code:=dZ [1,1,1,1,0,1,0,0,0] zK
theorem aTL:RK aMW [(none,some 28,.binOp .lss 3 (.tmp 27) (.tmp 26) 3)]:=⟨by kernel_rfl,by kernel_rfl⟩
noncomputable def aMV:Code:=dZ [1,1,1,1,0,1,0,0,1,1,0,0,0] zK
theorem aTK:RK aMV [km 29 27,(none,some 30,.indexAddr 37 (.tmp 25) (.tmp 27)),kl 31 46 30,(none,some 9,.alloc 46),ka 8 29,ks' 46 9 31]:=⟨by kernel_rfl,by kernel_rfl⟩
noncomputable def aMU:Code:=dZ [1,1,1,1,0,1,0,0,1,1,0,0,1,0] zK
noncomputable def aPj:Code:=dZ [1,1,1,1,0,1,0,0,1,1,0,0,1,1,0,0] zK
noncomputable def aBh:Code:=dZ [1,1,1,1,0,1,0,0,1,1,1] zK
theorem aPl:RK aBh [(none,some 56,.binOp .add 3 (.tmp 27) (.const (.int .i64 1)) 3),km 27 56]:=⟨by kernel_rfl,by kernel_rfl⟩
noncomputable def aHO:Code:=dZ [1,1,1,1,1,0] zK
theorem aPk:RK aHO [kl 57 35 2,(none,some 58,.makeFunc (.func 36) #[] #[(.tmp 3)]),(none,some 59,.call ⟨.value (.func 35),#[(.tmp 57),(.tmp 58)],#[35,97]⟩),kx 60 59 0,kx 61 59 1,ks' 35 4 60,ka 5 61]:=⟨by kernel_rfl,by kernel_rfl⟩
theorem aTR:zK=(.seq aM1 (.seq aM0 (.seq (.seq aMZ (.cond (.tmp 16) (.seq aTJ .ret) .skip)) (.seq (.seq aMY (.cond (.tmp 23) (.seq aTI .ret) .skip)) (.seq (.seq aMX (.block 0 (.loop (.seq aMW (.seq (.cond (.tmp 28) .skip (.exit 0)) (.seq (.block 1 (.seq aMV (.seq aMU (.cond (.tmp 54) (.seq aPj .ret) .skip)))) aBh)))))) (.seq aHO .ret)))))):=by kernel_rfl
theorem aLb{r:Option Nat}{Q:Exit->Act->World->Prop}{a:Act}{W:World}{x:Xp}{p p0 pl pr g2 q:Nat}{d i mk:Int}{v25 v26 v27:Value}(hq:q<x.pl.length)(hmk:mk<=3)
 (c0:W.drew.cell? ⟨p,0+0,none⟩=some (.int .i64 d)) (c1:W.drew.cell? ⟨p,0+1,none⟩=some (.int .i64 i)) (c2:W.drew.cell? ⟨p,0+2,none⟩=some (.int .u8 mk))
 (d0:W.drew.cell? ⟨g2,0+q * 3+0,none⟩=some (.int .i64 d)) (d1:W.drew.cell? ⟨g2,0+q * 3+1,none⟩=some (.int .i64 i))
 (h:Sl 62 [(2,pa p0 0),(3,pa pl 0),(4,pa pr 0),(6,x.sl (some ⟨g2,0,none⟩)),(8,.int .i64 (q:Int)),(9,pa p 0),(25,v25),(26,v26),(27,v27)] a) (k: ∀a,Sl 62 [(54,.bool false),(2,pa p0 0),(3,pa pl 0),(4,pa pr 0),(6,x.sl (some ⟨g2,0,none⟩)),(25,v25),(26,v26),(27,v27)] a->Q .normal a W.drew):aMU.wpIn (FR r) 0 Tryz.prog Q a W:=by
 have h:Sl 62 [(2,pa p0 0),(3,pa pl 0),(4,pa pr 0),(6,x.sl (some ⟨g2,0,none⟩)),(8,.int .i64 (q:Int)),(9,pa p 0),(25,v25),(26,v26),(27,v27)] a:=h;refine aP4 (Pz:=[(none,32,[],.fieldAddr 46 (.tmp 9) 0,pa p (0+0)),(none,33,[0],.load 3 (.tmp 32),.int .i64 d),(none,34,[],.move (.tmp 6),x.sl (some ⟨g2,0,none⟩)),(none,35,[],.move (.tmp 8),.int .i64 (q:Int)),(none,36,[2,3],.indexAddr 37 (.tmp 34) (.tmp 35),pa g2 (0+q * 3)),(none,37,[4],.fieldAddr 46 (.tmp 36) 0,pa g2 (0+q * 3+0)),(none,38,[5],.load 3 (.tmp 37),.int .i64 d),(none,39,[1,6],.binOp .neq 3 (.tmp 33) (.tmp 38) 3,.bool false),(none,40,[7],.move (.tmp 39),.bool false),(some (8,false),41,[8],.fieldAddr 46 (.tmp 9) 1,pa p (0+1)),(some (8,false),42,[9,8],.load 3 (.tmp 41),.int .i64 i),(some (8,false),43,[8],.move (.tmp 6),x.sl (some ⟨g2,0,none⟩)),(some (8,false),44,[8],.move (.tmp 8),.int .i64 (q:Int)),(some (8,false),45,[11,12,8],.indexAddr 37 (.tmp 43) (.tmp 44),pa g2 (0+q * 3)),(some (8,false),46,[13,8],.fieldAddr 46 (.tmp 45) 1,pa g2 (0+q * 3+1)),(some (8,false),47,[14,8],.load 3 (.tmp 46),.int .i64 i),(some (8,false),48,[10,15,8],.binOp .neq 3 (.tmp 42) (.tmp 47) 3,.bool false),(none,49,[8,16],.pick (.tmp 40) (.const (.bool true)) (.tmp 48),.bool false),(none,50,[17,8],.move (.tmp 49),.bool false),(some (18,false),51,[18],.fieldAddr 46 (.tmp 9) 2,pa p (0+2)),(some (18,false),52,[19,18],.load 5 (.tmp 51),.int .u8 mk),(some (18,false),53,[20,18],.binOp .gtr 5 (.tmp 52) (.const (.int .u8 3)) 5,.bool false),(none,54,[18,21],.pick (.tmp 50) (.const (.bool true)) (.tmp 53),.bool false)]) (T:=[]) (TA:=[]) (by kernel_rfl) (And.intro (by kernel_rfl) (by kernel_rfl)) (by kernel_rfl) (by kernel_rfl) (by simp) (by kernel_rfl) (by simp) (by simp) (.inl rfl) (by kernel_rfl) h (fun j y hy=>?_) (fun ops l a hK hk h=>?_)
 . match j,hy with
   |0,hy=>
    cases hy
    refine .inr ⟨rfl,fun o a ho h=>?_⟩;change Sl 62 ([]++_) a at h;exact dA (b:=p) (o':=0) aIb ho (sT h)
   |1,hy=>
    cases hy
    refine .inr ⟨rfl,fun o a ho h=>?_⟩;change Sl 62 ([(32,pa p (0+0))]++_) a at h;exact kD (b:=p) (off:=0+0) WO ho (sT h) c0
   |2,hy=>
    cases hy
    refine .inr ⟨rfl,fun o a ho h=>?_⟩;change Sl 62 ([]++_) a at h;exact jC ho (sT h)
   |3,hy=>
    cases hy
    refine .inr ⟨rfl,fun o a ho h=>?_⟩;change Sl 62 ([]++_) a at h;exact jC ho (sT h)
   |4,hy=>
    cases hy
    refine .inr ⟨rfl,fun o a ho h=>?_⟩;change Sl 62 ([(34,x.sl (some ⟨g2,0,none⟩)),(35,.int .i64 (q:Int))]++_) a at h;exact tK (g:=g2) (off:=0) (n:=x.pl.length) (cp:=x.pl.length) (el:=46) (sz:=3) (by kernel_rfl) (by kernel_rfl) hq ho (sT h) (sT h)
   |5,hy=>
    cases hy
    refine .inr ⟨rfl,fun o a ho h=>?_⟩;change Sl 62 ([(36,pa g2 (0+q * 3))]++_) a at h;exact dA (b:=g2) (o':=0+q * 3) aIb ho (sT h)
   |6,hy=>
    cases hy
    refine .inr ⟨rfl,fun o a ho h=>?_⟩;change Sl 62 ([(37,pa g2 (0+q * 3+0))]++_) a at h;exact kD (b:=g2) (off:=0+q * 3+0) WO ho (sT h) d0
   |7,hy=>
    cases hy
    refine .inr ⟨rfl,fun o a ho h=>?_⟩;change Sl 62 ([(33,.int .i64 d),(38,.int .i64 d)]++_) a at h;exact zB (q:=.i64) rfl ho (sT h (v:=.int .i64 d)) (sT h (v:=.int .i64 d))
   |8,hy=>
    cases hy
    refine .inr ⟨rfl,fun o a ho h=>?_⟩;change Sl 62 ([(39,.bool false)]++_) a at h;exact jC ho (sT h)
   |9,hy=>
    cases hy
    refine .inr ⟨rfl,fun o a ho h=>?_⟩;change Sl 62 ([(40,.bool false)]++_) a at h;exact dA (b:=p) (o':=0) aIa ho (sT h)
   |10,hy=>
    cases hy
    refine .inr ⟨rfl,fun o a ho h=>?_⟩;change Sl 62 ([(41,pa p (0+1)),(40,.bool false)]++_) a at h;exact kD (b:=p) (off:=0+1) WO ho (sT h) c1
   |11,hy=>
    cases hy
    refine .inr ⟨rfl,fun o a ho h=>?_⟩;change Sl 62 ([(40,.bool false)]++_) a at h;exact jC ho (sT h)
   |12,hy=>
    cases hy
    refine .inr ⟨rfl,fun o a ho h=>?_⟩;change Sl 62 ([(40,.bool false)]++_) a at h;exact jC ho (sT h)
   |13,hy=>
    cases hy
    refine .inr ⟨rfl,fun o a ho h=>?_⟩;change Sl 62 ([(43,x.sl (some ⟨g2,0,none⟩)),(44,.int .i64 (q:Int)),(40,.bool false)]++_) a at h;exact tK (g:=g2) (off:=0) (n:=x.pl.length) (cp:=x.pl.length) (el:=46) (sz:=3) (by kernel_rfl) (by kernel_rfl) hq ho (sT h) (sT h)
   |14,hy=>
    cases hy
    refine .inr ⟨rfl,fun o a ho h=>?_⟩;change Sl 62 ([(45,pa g2 (0+q * 3)),(40,.bool false)]++_) a at h;exact dA (b:=g2) (o':=0+q * 3) aIa ho (sT h)
   |15,hy=>
    cases hy
    refine .inr ⟨rfl,fun o a ho h=>?_⟩;change Sl 62 ([(46,pa g2 (0+q * 3+1)),(40,.bool false)]++_) a at h;exact kD (b:=g2) (off:=0+q * 3+1) WO ho (sT h) d1
   |16,hy=>
    cases hy
    refine .inr ⟨rfl,fun o a ho h=>?_⟩;change Sl 62 ([(42,.int .i64 i),(47,.int .i64 i),(40,.bool false)]++_) a at h;exact zB (q:=.i64) rfl ho (sT h (v:=.int .i64 i)) (sT h (v:=.int .i64 i))
   |17,hy=>
    cases hy
    refine .inr ⟨rfl,fun o a ho h=>?_⟩;change Sl 62 ([(40,.bool false),(48,.bool false)]++_) a at h;exact mZ ho (sT h) (sT h)
   |18,hy=>
    cases hy
    refine .inr ⟨rfl,fun o a ho h=>?_⟩;change Sl 62 ([(49,.bool false),(40,.bool false)]++_) a at h;exact jC ho (sT h)
   |19,hy=>
    cases hy
    refine .inr ⟨rfl,fun o a ho h=>?_⟩;change Sl 62 ([(50,.bool false)]++_) a at h;exact dA (b:=p) (o':=0) LM ho (sT h)
   |20,hy=>
    cases hy
    refine .inr ⟨rfl,fun o a ho h=>?_⟩;change Sl 62 ([(51,pa p (0+2)),(50,.bool false)]++_) a at h;exact kD (b:=p) (off:=0+2) DY ho (sT h) c2
   |21,hy=>
    cases hy
    refine .inr ⟨rfl,fun o a ho h=>?_⟩;change Sl 62 ([(52,.int .u8 mk),(50,.bool false)]++_) a at h;exact by have:=aGr (P:=Tryz.prog) (W:=W.drew) (q:=.u8) ho (sT h (v:=.int .u8 mk)) (m':=3) rfl;rw[aEm (by omega)]at this;exact this
   |22,hy=>
    cases hy
    refine .inr ⟨rfl,fun o a ho h=>?_⟩;change Sl 62 ([(50,.bool false),(53,.bool false)]++_) a at h;exact mZ ho (sT h) (sT h)
   |j+23,hy=>cases hy
 change Sl 62 ([(32,pa p (0+0)),(33,.int .i64 d),(34,x.sl (some ⟨g2,0,none⟩)),(35,.int .i64 (q:Int)),(36,pa g2 (0+q * 3)),(37,pa g2 (0+q * 3+0)),(38,.int .i64 d),(39,.bool false),(40,.bool false),(41,pa p (0+1)),(42,.int .i64 i),(43,x.sl (some ⟨g2,0,none⟩)),(44,.int .i64 (q:Int)),(45,pa g2 (0+q * 3)),(46,pa g2 (0+q * 3+1)),(47,.int .i64 i),(48,.bool false),(49,.bool false),(50,.bool false),(51,pa p (0+2)),(52,.int .u8 mk),(53,.bool false),(54,.bool false)]++_) a at h;exact s0 hk (k a (cO h))
section
variable{w0:World}{x:Xp}
theorem aBi(hck:Same w0 19 #[x.v] (.int .i64 0))(hI:bP w0 x.bs x.L)(hn:x.L.length<=256)(h0:x.bs=none->x.L.length=0)(hmk: ∀q,q<x.pl.length->mkv (x.dt (x.pl.getD q (0,0)).1) (x.pl.getD q (0,0)).2<=3)(w:World)(hw:Below w0.heap.size w0 w){al:Option Addr}(hLi:iW w al x.pl.length x.cl):
 Calls Tryz.prog 15 #[x.v,x.sl al] w (OkA 0 w):=by
 refine(aM8 (n:=0)).1 ?_;refine fO (args:=[x.v,x.sl al]) (N:=62) Tryz.func15 (show _=some zK by kernel_rfl) Tryz.ntmps15 (by simp) fun a h=>?_;rw[aTR];refine aEK (aH aTQ fun ops l hK hk=>?_);refine sV (v:=pa w.heap.size 0) hk h (fun _ ho=>pJ (v:=x.v) ho (sT h) rfl) fun l a hk h=>?_;have A0:Al w (w.alloc (.cells x.l.toArray 35)) w.heap.size 35 x.l:=dY x.l;change wpListIn _ _ _ _ _ _ _ (w.alloc (.cells x.l.toArray 35));generalize w.alloc (.cells x.l.toArray 35)=W0 at A0 ⊢;obtain⟨p0,hp0⟩: ∃p,p=w.heap.size:=⟨_,rfl⟩;rw[<-hp0]at A0 h;refine sV (v:=pa W0.heap.size 0) hk h (fun _ ho=>pJ (v:=x.sl al) ho (sT h) rfl) fun l a hk h=>?_;have A1:Al W0 (W0.alloc (.cells #[x.sl al] 37)) W0.heap.size 37 [x.sl al]:=dY [x.sl al];change wpListIn _ _ _ _ _ _ _ (W0.alloc (.cells #[x.sl al] 37));generalize W0.alloc (.cells #[x.sl al] 37)=W1 at A1 ⊢;obtain⟨pl,hpl⟩: ∃p,p=W0.heap.size:=⟨_,rfl⟩;rw[<-hpl]at A1 h;refine sV (v:=pa W1.heap.size 0) hk h (fun _ ho=>jV ho (Tryz.zeroValue35 W1)) fun l a hk h=>?_;have A2:Al W1 (W1.alloc (.cells zE.toArray 35)) W1.heap.size 35 zE:=dY zE;change wpListIn _ _ _ _ _ _ _ (W1.alloc (.cells zE.toArray 35));generalize W1.alloc (.cells zE.toArray 35)=W2 at A2 ⊢;obtain⟨pr,hpr⟩: ∃p,p=W1.heap.size:=⟨_,rfl⟩;rw[<-hpr]at A2 h;refine aC (v:=.int .i64 0) hk h fun l a hk h=>?_;obtain⟨e0,k0⟩:=dF A0;obtain⟨e1,k1⟩:=dF A1;obtain⟨e2,k2⟩:=dF A2;have y0:=A0.2.1;have y1:=A1.2.1;have y2:=A2.2.1;have b2:Below w.heap.size w W2:=bG (bG (gI A0) (gI A1) (aDT _)) (gI A2) (aDT _);have f0:fF W2 p0 35 x.l:=aT A0.2.2.2.1 ((k2 _ (by omega)).trans (k1 _ (by omega)));have f1:fF W2 pl 37 [x.sl al]:=aT A1.2.2.2.1 (k2 _ (by omega));have f2:=A2.2.2.2.1;have w02:Below w0.heap.size w0 W2:=bG hw b2 (aDT _);refine s0 hk (aEK (aH aTP fun ops l hK hk=>?_));refine sV (v:=x.v) hk h (fun _ ho=>fE (aW f0) Tryz.underlying35 rfl (by kernel_rfl) ho (sT h)) fun l a hk h=>?_;refine sc hk h rfl (by decide) (fun _ ho=>jB ho Tryz.func7) (R:=fun e w'=> ∃ad,e=.returned (.tuple #[x.sl ad,.int .i64 0])/\iW w' ad x.pl.length x.cl/\Below W2.heap.size W2 w') (by rw[aFZ,sT h (v:=x.v)];exact AB hck hI hn W2 w02) (fun e WW ⟨ad,ev,hO,BW⟩=>⟨_,ev,fun l a hk h=>?_⟩);refine mV (v:=.tuple #[x.sl ad,.int .i64 0]) hk h fun l a hk h=>?_;refine sV (v:=x.sl ad) hk h (fun _ ho=>dB (vs:= #[x.sl ad,.int .i64 0]) rfl ho (sT h)) fun l a hk h=>?_;refine sV (v:=.int .i64 0) hk h (fun _ ho=>dB (vs:= #[x.sl ad,.int .i64 0]) rfl ho (sT h)) fun l a hk h=>?_;refine aV (v:=x.sl ad) hk h fun l a hk h=>?_;refine aV (v:=.int .i64 0) hk h fun l a hk h=>?_;have bW:Below w.heap.size w WW:=bG b2 BW (aDT _);have g0:fF WW p0 35 x.l:=aT f0 (BW.block p0 (by omega));have g1:fF WW pl 37 [x.sl al]:=aT f1 (BW.block pl (by omega));have g2:fF WW pr 35 zE:=aT f2 (BW.block pr (by omega));have hLi:iW WW al x.pl.length x.cl:=hLi.later bW.size bW.block;have sW:=BW.size;refine s0 hk (aEK (aEK (aH aTO fun ops l hK hk=>?_)));refine mV (v:=.int .i64 0) hk h fun l a hk h=>?_;refine sV (v:=.bool false) hk h (fun _ ho=>zB (q:=.i64) (m:=0) (m':=0) rfl ho (sT h) rfl) fun l a hk h=>?_;refine s0 hk (aPo (sT h) (aNH (aEK (aEK (aH aTN fun ops l hK hk=>?_)))));refine mV (v:=x.sl ad) hk h fun l a hk h=>?_;refine sV (v:=.int .i64 (x.pl.length:Int)) hk h (fun _ ho=>yJ (s:=ad) (c:=x.pl.length) (el:=46) (by kernel_rfl) ho (sT h)) fun l a hk h=>?_;refine lV (b:=pl) (off:=0) JX (v:=x.sl al) hk h (aY (j:=0) g1 rfl) fun l a hk h=>?_;refine sV (v:=.int .i64 (x.pl.length:Int)) hk h (fun _ ho=>yJ (s:=al) (c:=x.pl.length) (el:=46) (by kernel_rfl) ho (sT h)) fun l a hk h=>?_;refine sV (v:=.bool false) hk h (fun _ ho=>zB (q:=.i64) (m:=(x.pl.length:Int)) (m':=(x.pl.length:Int)) rfl ho (sT h) (sT h)) fun l a hk h=>?_;refine s0 hk (aPo (sT h) (aNH (aEK (aEK (aH aTM fun ops l hK hk=>?_)))));refine lV (b:=pl) (off:=0) JX (v:=x.sl al) hk h (aY (j:=0) g1 rfl) fun l a hk h=>?_;refine sV (v:=.int .i64 (x.pl.length:Int)) hk h (fun _ ho=>yJ (s:=al) (c:=x.pl.length) (el:=46) (by kernel_rfl) ho (sT h)) fun l a hk h=>?_;refine sV (v:=.int .i64 ((0:Nat):Int)) hk h (fun _ ho=>jC ho rfl) fun l a hk h=>?_;refine s0 hk (aP7 (pV (fun k a W=> ∃q,k+q=x.pl.length/\Below WW.heap.size WW W/\Sl 62 [(2,pa p0 0),(3,pa pl 0),(4,pa pr 0),(6,x.sl ad),(25,x.sl al),(26,.int .i64 (x.pl.length:Int)),(27,.int .i64 (q:Int))] a) ?_ (m:=x.pl.length) ⟨0,rfl,aDl _ _,cO h⟩));intro k a W ⟨q,hkq,hB,h⟩;have hLl:iW W al x.pl.length x.cl:=hLi.later hB.size hB.block;have hOl:iW W ad x.pl.length x.cl:=hO.later hB.size hB.block;have sB:=hB.size;refine aEK (aH aTL fun ops l hK hk=>?_);refine sV (v:=.bool (decide ((q:Int)<(x.pl.length:Int)))) hk h (fun _ ho=>BA (q:=.i64) ho (sT h) (sT h)) fun l a hk h=>?_;refine s0 hk (aEK (jJ (t:=decide ((q:Int)<(x.pl.length:Int))) h (by simp) (fun hi=>aNH ?_) (fun hi=>a0T ?_)))
 . refine aEK (aP7 (aEK ?_));have hq:q<x.pl.length:=by have:=aHY hi;omega
   obtain⟨g,rfl,hg,hr⟩:=hLl q hq;obtain⟨go,rfl,hgo,hro⟩:=hOl q hq;refine aH aTK fun ops l hK hk=>?_;refine mV (v:=.int .i64 (q:Int)) hk h fun l a hk h=>?_;refine sV (v:=pa g (0+q * 3)) hk h (fun _ ho=>tK (g:=g) (off:=0) (n:=x.pl.length) (cp:=x.pl.length) (el:=46) (sz:=3) (by kernel_rfl) (by kernel_rfl) hq ho (sT h) (sT h)) fun l a hk h=>?_;refine sV (v:=.agg (x.cl q).toArray) hk h (fun _ ho=>fE (b:=g) (off:=0+q * 3) (cs:=x.cl q) (by rw[aHv];exact hr) Tryz.underlying46 rfl (by kernel_rfl) ho (sT h)) fun l a hk h=>?_;refine sV (v:=pa W.heap.size 0) hk h (fun _ ho=>jV ho (Tryz.zeroValue46 W)) fun l a hk h=>?_;refine aV (v:=.int .i64 (q:Int)) hk h fun l a hk h=>?_;refine ss (g:=none) hk h rfl (fun _ ho=>iG (b:=W.heap.size) (off:=0) (cs:=x.cl q) (show World.there _ _ 0 3 from bD (dY (W:=W) (el:=46) [.int .i64 0,.int .i64 0,.int .u8 0]).2.2.2.1) (by kernel_rfl) (MI x q) ho (sT h) (sT h)) (fun l hk=>?_);have AZ:=aIY x q W;change wpListIn _ _ _ _ _ _ _ (pz W (x.cl q));generalize pz W (x.cl q)=W1 at AZ ⊢;obtain⟨p,hp⟩: ∃p,p=W.heap.size:=⟨_,rfl⟩;rw[<-hp]at AZ h;obtain⟨ez,kz⟩:=dF AZ;have fz:=AZ.2.2.2.1;have bz:Below WW.heap.size WW W1:=bG hB (gI AZ) (aDT _);have bz':Below WW.heap.size WW W1.drew:=⟨bz.os,bz.tape,bz.output,bz.size,bz.block⟩;have ro: ∀j v,(x.cl q)[j]? =some v->W1.drew.cell? ⟨go,0+q * 3+j,none⟩=some v:=fun j v hv=>by rw[aHv];exact(aOx (kz go hgo)).trans (hro j v hv)
   refine s0 hk (aEK ?_);refine aLb (x:=x) (p:=p) (g2:=go) (q:=q) (p0:=p0) (pl:=pl) (pr:=pr) (v25:=x.sl (some ⟨g,0,none⟩)) (v26:=.int .i64 (x.pl.length:Int)) (v27:=.int .i64 (q:Int)) hq (hmk q hq) (aY (j:=0+0) fz rfl) (aY (j:=0+1) fz rfl) (aY (j:=0+2) fz rfl) (ro 0 _ rfl) (ro 1 _ rfl) (cO h) (fun a h=>?_);refine aPo (sT h) (aNH ?_);show aBh.wpIn _ _ _ _ _ _;refine aH aPl fun ops l hK hk=>?_;refine sV (v:=.int .i64 ((q:Int)+1)) hk h (fun _ ho=>JM ho (sT h) rfl (wrap_succ hq (x.V9 hn))) fun l a hk h=>?_;refine mV (v:=.int .i64 ((q:Int)+1)) hk h fun l a hk h=>?_;exact s0 hk ⟨k - 1,by omega,q+1,by omega,bz',by rw[aVM];exact cO h⟩
 refine aEK (aH aPk fun ops l hK hk=>?_);have q0:fF W p0 35 x.l:=aT g0 (hB.block p0 (by omega));have q1:fF W pl 37 [x.sl al]:=aT g1 (hB.block pl (by omega));have q2:fF W pr 35 zE:=aT g2 (hB.block pr (by omega));have bV:Below w.heap.size w W:=bG bW hB (aDT _);have w0V:Below w0.heap.size w0 W:=bG hw bV (aDT _);refine sV (v:=x.v) hk h (fun _ ho=>fE (aW q0) Tryz.underlying35 rfl (by kernel_rfl) ho (sT h)) fun l a hk h=>?_;refine sV (v:=.func (.func 36) #[] #[pa pl 0]) hk h (fun _ ho=>QY ho (sT h)) fun l a hk h=>?_;refine sc hk h rfl (by decide) (fun _ ho=>jB ho Tryz.func35) (R:=aFu W) (by
  rw[XQ,sT h (k:=57) (v:=x.v),sT h (k:=58) (v:=.func (.func 36) #[] #[pa pl 0])];exact zQ hck hI hn h0 W w0V (aLk (cl:=x.cl) (aY (j:=0) q1 rfl) (dH q1) (hLi.later hB.size hB.block) (fun q _=>⟨_,rfl⟩))) (fun e W9 ⟨cs,ev,c1,c2,B2⟩=>⟨_,ev,fun l a hk h=>?_⟩)
 refine sV (v:=.agg cs.toArray) hk h (fun _ ho=>dB (vs:= #[.agg cs.toArray,.int .i64 0]) rfl ho (sT h)) fun l a hk h=>?_;refine sV (v:=.int .i64 0) hk h (fun _ ho=>dB (vs:= #[.agg cs.toArray,.int .i64 0]) rfl ho (sT h)) fun l a hk h=>?_;have s2:=B2.size;have zN:fF W9 pr 35 zE:=aT q2 (B2.block pr (by omega));refine ss (g:=none) hk h rfl (fun _ ho=>iG (b:=pr) (off:=0) (cs:=cs) (by rw[c1];exact(show World.there _ _ 0 36 from bD zN)) (by rw[c1];kernel_rfl) c2 ho (sT h) (sT h)) (fun l hk=>?_);have LJ:=eH zN (us:=cs) c1;refine aV (v:=.int .i64 0) hk h fun l a hk h=>?_;refine s0 hk (aQE ?_);have rr:=JF (P:=Tryz.prog) (W:=W9.setCells pr 0 cs) (fn:=Tryz.f15) h (i:=4) (j:=5) (t:=35) (b:=pr) (v:=.agg cs.toArray) (u:=.int .i64 0) rfl (by simp) (by simp) (aQO _ _ _ _ cs _ (aW LJ) Tryz.underlying35 rfl (by rw[c1];kernel_rfl));exact(⟨h.defs,_,rr,cs,rfl,c1,c2,Sk.iL (by omega) _ _ (bG bV B2 (aDT _))⟩:bodyPost Tryz.prog Tryz.f15 (OkA 0 w) .ret a _)
end
end Rf
end
section
open Go.RowKit
namespace Rf
open Sk (oD lH key aY nH eH dH bD aW qQ nT jI exV kT cZ bP yS z0 Rt SS Same)
open Bk (Dt)
open Ev (fF)
noncomputable def UL:Code:=match(Tryz.f5).body with
 |some c=>c
 |none=>.skip
noncomputable def aTz:Code:=dZ [0] UL
theorem aYK:RK aTz [(none,some 2,.box 35 (.tmp 0)),kc 4 (.bool false)]:=⟨by kernel_rfl,by kernel_rfl⟩
noncomputable def aTy:Code:=dZ [1,0,0] UL
theorem aYJ:RK aTy [kl 19 35 2,(none,some 20,.call ⟨.value (.func 18),#[(.tmp 19)],#[35]⟩)]:=⟨by kernel_rfl,by kernel_rfl⟩
noncomputable def aYC:Code:=dZ [1,0,1,0,0] UL
noncomputable def aTx:Code:=dZ [1,1,0] UL
theorem aYI:RK aTx [kl 22 35 2,(none,some 23,.call ⟨.value (.func 19),#[(.tmp 22)],#[35]⟩),ka 5 23]:=⟨by kernel_rfl,by kernel_rfl⟩
noncomputable def aTw:Code:=dZ [1,1,1,0,0] UL
theorem aYH:RK aTw [km 24 5,kl 25 35 2,(none,some 26,.call ⟨.value (.func 20),#[(.tmp 25)],#[35]⟩),(none,some 27,.binOp .neq 3 (.tmp 24) (.tmp 26) 3)]:=⟨by kernel_rfl,by kernel_rfl⟩
noncomputable def aYB:Code:=dZ [1,1,1,0,1,0,0] UL
noncomputable def aTv:Code:=dZ [1,1,1,1,0] UL
theorem aYG:RK aTv [km 28 5,ka 6 28]:=⟨by kernel_rfl,by kernel_rfl⟩
noncomputable def aPh:Code:=dZ [1,1,1,1,1,0,0] UL
theorem aYF:RK aPh [km 29 1,(none,some 30,.binOp .lss 5 (.tmp 29) (.const (.int .u8 1)) 5),km 31 30,kg 2 false (km 32 1),(some (2,false),some 33,.binOp .gtr 5 (.tmp 32) (.const (.int .u8 3)) 5),(none,some 34,.pick (.tmp 31) (.const (.bool true)) (.tmp 33))]:=⟨by kernel_rfl,by kernel_rfl⟩
noncomputable def aK4:Code:=dZ [1,1,1,1,1,0,1,0] UL
theorem aYE:RK aK4 [kc 6 (.int .i64 9)]:=⟨by kernel_rfl,by kernel_rfl⟩
noncomputable def aPg:Code:=dZ [1,1,1,1,1,1,0] UL
theorem aYD:RK aPg [kl 36 35 2,km 37 1,(none,some 38,.call ⟨.value (.func 11),#[(.tmp 36),(.tmp 37)],#[35,5]⟩),km 35 38,kx 39 35 0,kx 40 35 1,ka 7 39,ka 8 40]:=⟨by kernel_rfl,by kernel_rfl⟩
noncomputable def aHJ:Code:=dZ [1,1,1,1,1,1,1,0] UL
theorem aTF:RK aHJ [kl 42 35 2,km 43 1,(none,some 44,.call ⟨.value (.func 21),#[(.tmp 42),(.tmp 43)],#[35,5]⟩),km 41 44,kx 45 41 0,kx 46 41 1,(none,some 9,.alloc 35),ks' 35 9 45,ka 10 46]:=⟨by kernel_rfl,by kernel_rfl⟩
noncomputable def aHI:Code:=dZ [1,1,1,1,1,1,1,1,0] UL
theorem aTE:RK aHI [kl 48 35 2,(none,some 49,.call ⟨.value (.func 7),#[(.tmp 48)],#[35]⟩),km 47 49,kx 50 47 0,kx 51 47 1,ka 11 50,ka 12 51]:=⟨by kernel_rfl,by kernel_rfl⟩
noncomputable def aHH:Code:=dZ [1,1,1,1,1,1,1,1,1,0] UL
theorem aTD:RK aHH [kl 53 35 2,(none,some 54,.call ⟨.value (.func 22),#[(.tmp 53)],#[35]⟩),km 52 54,kx 55 52 0,kx 56 52 1,(none,some 13,.alloc 35),ks' 35 13 55,ka 14 56]:=⟨by kernel_rfl,by kernel_rfl⟩
noncomputable def aHG:Code:=dZ [1,1,1,1,1,1,1,1,1,1,0] UL
theorem aTC:RK aHG [kl 58 35 2,(none,some 59,.call ⟨.value (.func 9),#[(.tmp 58)],#[35]⟩),km 57 59,kx 60 57 0,kx 61 57 1,ka 15 60,ka 16 61]:=⟨by kernel_rfl,by kernel_rfl⟩
noncomputable def aHF:Code:=dZ [1,1,1,1,1,1,1,1,1,1,1,0] UL
theorem aTB:RK aHF [kl 63 35 2,km 64 11,(none,some 65,.call ⟨.value (.func 15),#[(.tmp 63),(.tmp 64)],#[35,37]⟩),km 62 65,kx 66 62 0,kx 67 62 1,(none,some 17,.alloc 35),ks' 35 17 66,ka 18 67]:=⟨by kernel_rfl,by kernel_rfl⟩
noncomputable def aHE:Code:=dZ [1,1,1,1,1,1,1,1,1,1,1,1,0] UL
theorem aTA:RK aHE [km 68 8,km 69 6,(none,some 70,.binOp .eql 38 (.tmp 68) (.tmp 69) 38),km 71 70,kg 3 true (km 72 10),kg 3 true (km 73 6),(some (3,true),some 74,.binOp .eql 38 (.tmp 72) (.tmp 73) 38),(none,some 75,.pick (.tmp 71) (.tmp 74) (.const (.bool false))),km 76 75,kg 8 true (km 77 12),kg 8 true (km 78 5),(some (8,true),some 79,.binOp .eql 38 (.tmp 77) (.tmp 78) 38),(none,some 80,.pick (.tmp 76) (.tmp 79) (.const (.bool false))),km 81 80,kg 13 true (km 82 14),kg 13 true (km 83 5),(some (13,true),some 84,.binOp .eql 38 (.tmp 82) (.tmp 83) 38),(none,some 85,.pick (.tmp 81) (.tmp 84) (.const (.bool false))),km 86 85,kg 18 true (km 87 16),kg 18 true (km 88 5),(some (18,true),some 89,.binOp .eql 38 (.tmp 87) (.tmp 88) 38),(none,some 90,.pick (.tmp 86) (.tmp 89) (.const (.bool false))),km 91 90,kg 23 true (km 92 18),kg 23 true (km 93 5),(some (23,true),some 94,.binOp .eql 38 (.tmp 92) (.tmp 93) 38),(none,some 95,.pick (.tmp 91) (.tmp 94) (.const (.bool false))),km 96 95,kg 28 true (km 97 5),(some (28,true),some 98,.binOp .eql 38 (.tmp 97) (.const (.int .i64 0)) 38),kg 28 true (km 99 98),kg 31 false (km 100 11),(some (31,false),some 101,.call ⟨.builtin .len,#[(.tmp 100)],#[37]⟩),(some (31,false),some 102,.binOp .eql 3 (.tmp 101) (.const (.int .i64 0)) 3),(some (28,true),some 103,.pick (.tmp 99) (.const (.bool true)) (.tmp 102)),(none,some 104,.pick (.tmp 96) (.tmp 103) (.const (.bool false))),km 105 104,(some (37,true),some 106,.call ⟨.value (.func 12),#[],#[]⟩),(none,some 107,.pick (.tmp 105) (.tmp 106) (.const (.bool false))),ka 4 107]:=⟨by kernel_rfl,by kernel_rfl⟩
theorem aYL:UL=(.seq aTz (.seq (.seq aTy (.cond (.tmp 20) (.seq aYC .ret) .skip)) (.seq aTx (.seq (.seq aTw (.cond (.tmp 27) (.seq aYB .ret) .skip)) (.seq aTv (.seq (.seq aPh (.cond (.tmp 34) aK4 .skip)) (.seq aPg (.seq aHJ (.seq aHI (.seq aHH (.seq aHG (.seq aHF (.seq aHE .ret))))))))))))):=by kernel_rfl
theorem scg{P:Program}{r:Option Nat}{n N:Nat}{ops:Array Oper}{Q:Exit->Act->World->Prop}{S:List (Nat × Value)}{a:Act}{ds:List Deferred}{l:List Oper}{p:Op}{ks:List (Option (Tmp × Bool) × Option Tmp × Op)}{W:World}{j:Nat}{b:Bool}{d d0:Nat}{g0:Option (Tmp × Bool)}{p0:Op}{K:List (Option (Tmp × Bool) × Option Tmp × Op)}
 (hK:ops.toList.map key=K) (hk:l.map key=(some (j,b),some d,p)::ks) (h:Sl N S a ds) (hj:K[j]? =some (g0,some d0,p0)) (hm:(d0,.bool b) ∈ S) (hp:nG p=false) (hd:d<N)
 {f:FuncId} {args:Array Value} {R:Ending->World->Prop} (hrun: ∀o:Oper,o.op=p->(execOp a.eval o).run P W=.ok (.enter f args) W) (hc:Calls P f args W R)
 (k: ∀e W1,R e W1-> ∃v,e=.returned v/\ ∀l a,l.map key=ks->Sl N ((d,v)::S.filter (fun e=>e.1 !=d)) a ds->wpListIn (FR r) n P ops Q l a W1):wpListIn (FR r) n P ops Q l a W:=by
 obtain⟨o,l',rfl,e,hl⟩:=Sk.pO hk;simp only[key,aNl]at e;obtain⟨hg,hd',rfl⟩:=e;unfold wpListIn;rw[aFw ((aCp hK hj hg h hm).trans (by cases b<;>rfl))];refine BF (by unfold aBb;cases ho:o.op<;>first|rfl|(rw[ho]at hp;cases hp)) ?_;unfold Oper.wp;rw[hrun o rfl,Oper.upon_enter];refine hc.mono fun e W1 hR=>?_;obtain⟨v,rfl,hk'⟩:=k e W1 hR;show wpListIn (FR r) n P ops Q l' (a.put o.dst v) W1;rw[hd'];exact hk' l' _ hl (nZ h hd)
theorem aDJ{P:Program}{W:World}{a:Act}{o:Oper}{f:FuncId}{fn:Func}{c:Code}(ho:o.op=.call ⟨.value (.func f),#[],#[]⟩)(hf:P.funcs[f]? =some fn)(hs:(fn.name== "runtime.NumGoroutine")=false)(hb:fn.body=some c):(execOp a.eval o).run P W=.ok (.enter f #[]) W:=by
 have:=Sk.JA (w:=W) (a:=a) ho hf hs hb;simpa using this
def ez(W:World)(cs:List Value):World:=(W.alloc (.cells zE.toArray 35)).setCells W.heap.size 0 cs
theorem aIZ{cs:List Value}(hc:cs.length=36)(W:World):Al W (ez W cs) W.heap.size 35 cs:=sJ (us:=cs) (dY (W:=W) (el:=35) zE) hc
theorem first_any{r:Option Nat}{Q:Exit->Act->World->Prop}{a:Act}{W:World}{p0:Nat}{m:Int}(h:Sl 108 [(1,.int .u8 m),(2,pa p0 0),(5,.int .i64 0),(6,.int .i64 0)] a)(k: ∀a,Sl 108 [(1,.int .u8 m),(2,pa p0 0),(5,.int .i64 0),(6,.int .i64 (mE m))] a->Q .normal a W):(Code.seq aPh (.cond (.tmp 34) aK4 .skip)).wpIn (FR r) 0 Tryz.prog Q a W:=by
 refine aEK (aH aYF fun ops l hK hk=>?_);refine mV (v:=.int .u8 m) hk h fun l a hk h=>?_;have fin: ∀(t:Bool) (l:List Oper) (a:Act),t= !decide (1<=m/\m<=3)->l=[]->Sl 108 [(34,.bool t),(1,.int .u8 m),(2,pa p0 0),(5,.int .i64 0),(6,.int .i64 0)] a->(Code.cond (.tmp 34) aK4 .skip).wpIn (FR r) 0 Tryz.prog Q a W:=by
  intro t l a ht _ h;refine jJ (t:=t) h (by simp) (fun c=>?_) (fun c=>aNH ?_)
  . refine aH aYE fun ops l hK hk=>?_;refine aC (v:=.int .i64 9) hk h fun l a hk h=>?_;refine s0 hk (k _ ?_);have e:mE m=9:=by unfold mE;rw[aFv (fun hh=>by rw[c,aEy hh]at ht;cases ht)]
    rw[e];exact(cO h)
  have e:mE m=0:=by unfold mE;rw[aFw (a1N fun hh=>by rw[c,aEm hh]at ht;cases ht)]
  rw[e]at k;exact k _ (cO h)
 by_cases c:m<1
 . refine sV (v:=.bool true) hk h (fun _ ho=>by have:=BA (P:=Tryz.prog) (W:=W) (q:=.u8) ho (sT h (v:=.int .u8 m)) (m':=1) rfl;rw[aEy c]at this;exact this) fun l a hk h=>?_;refine mV (v:=.bool true) hk h fun l a hk h=>?_;refine sX hK hk h 31 fun l a hk h=>?_;refine sX hK hk h 31 fun l a hk h=>?_;refine sV (v:=.bool true) hk h (fun _ ho=>jM ho (sT h) rfl) fun l a hk h=>?_;exact s0 hk (fin true [] a (by rw[aEm (by omega)];rfl) rfl (cO h))
 refine sV (v:=.bool false) hk h (fun _ ho=>by have:=BA (P:=Tryz.prog) (W:=W) (q:=.u8) ho (sT h (v:=.int .u8 m)) (m':=1) rfl;rw[aEm c]at this;exact this) fun l a hk h=>?_;refine mV (v:=.bool false) hk h fun l a hk h=>?_;refine mG (v:=.int .u8 m) hK hk h 31 fun l a hk h=>?_;refine sG (v:=.bool (decide (3<m))) hK hk h 31 (fun _ ho=>aGr (q:=.u8) ho (sT h) rfl) fun l a hk h=>?_;refine sV (v:=.bool (decide (3<m))) hk h (fun _ ho=>mZ ho (sT h) (sT h)) fun l a hk h=>?_;exact s0 hk (fin (decide (3<m)) [] a (if d:3<m then(by rw[aEy d,aEm (by omega)];rfl)else(by rw[aEm d,aEy (by omega)];rfl)) rfl (cO h))
section
variable{w0:World}{x:Xp}
theorem aPi{r:Option Nat}{Q:Exit->Act->World->Prop}{a:Act}{W:World}{p0:Nat}{m:Int}(hck:Same w0 19 #[x.v] (.int .i64 0))(hI:bP w0 x.bs x.L)(hn:x.L.length<=256)(h0:x.bs=none->x.L.length=0)(hw:Below w0.heap.size w0 W)(f:fF W p0 35 x.l)(h:Sl 108 [(1,.int .u8 m),(2,pa p0 0),(5,.int .i64 0),(6,.int .i64 (mE m))] a)(k: ∀a W1,Below W.heap.size W W1->Sl 108 [(1,.int .u8 m),(2,pa p0 0),(5,.int .i64 0),(6,.int .i64 (mE m)),(8,.int .i64 (mE m))] a->Q .normal a W1):aPg.wpIn (FR r) 0 Tryz.prog Q a W:=by
 refine aH aYD fun ops l hK hk=>?_;refine sV (v:=x.v) hk h (fun _ ho=>fE (aW f) Tryz.underlying35 rfl (by kernel_rfl) ho (sT h)) fun l a hk h=>?_;refine mV (v:=.int .u8 m) hk h fun l a hk h=>?_;refine sc hk h rfl (by decide) (fun _ ho=>jB ho Tryz.func11) (R:=OkU (mE m) W) (by rw[XQ,sT h (k:=36) (v:=x.v),sT h (k:=37) (v:=.int .u8 m)];exact aEn hck hI hn m W hw) (fun e W1 ⟨⟨u,ev⟩,B⟩=>⟨_,ev,fun l a hk h=>?_⟩);refine mV (v:=.tuple #[u,.int .i64 (mE m)]) hk h fun l a hk h=>?_;refine sV (v:=u) hk h (fun _ ho=>dB (vs:= #[u,.int .i64 (mE m)]) rfl ho (sT h)) fun l a hk h=>?_;refine sV (v:=.int .i64 (mE m)) hk h (fun _ ho=>dB (vs:= #[u,.int .i64 (mE m)]) rfl ho (sT h)) fun l a hk h=>?_;refine aV (v:=u) hk h fun l a hk h=>?_;refine aV (v:=.int .i64 (mE m)) hk h fun l a hk h=>?_;exact s0 hk (k _ _ B (cO h))
theorem aLa{r:Option Nat}{Q:Exit->Act->World->Prop}{a:Act}{W:World}{p0:Nat}{m:Int}(hck:Same w0 19 #[x.v] (.int .i64 0))(hI:bP w0 x.bs x.L)(hn:x.L.length<=256)(h0:x.bs=none->x.L.length=0)(hw:Below w0.heap.size w0 W)(f:fF W p0 35 x.l)(h:Sl 108 [(1,.int .u8 m),(2,pa p0 0),(5,.int .i64 0),(6,.int .i64 (mE m)),(8,.int .i64 (mE m))] a)(k: ∀a W1,Below W.heap.size W W1->Sl 108 [(1,.int .u8 m),(2,pa p0 0),(5,.int .i64 0),(6,.int .i64 (mE m)),(8,.int .i64 (mE m)),(10,.int .i64 (mE m))] a->Q .normal a W1):aHJ.wpIn (FR r) 0 Tryz.prog Q a W:=by
 refine aH aTF fun ops l hK hk=>?_;refine sV (v:=x.v) hk h (fun _ ho=>fE (aW f) Tryz.underlying35 rfl (by kernel_rfl) ho (sT h)) fun l a hk h=>?_;refine mV (v:=.int .u8 m) hk h fun l a hk h=>?_;refine sc hk h rfl (by decide) (fun _ ho=>jB ho Tryz.func21) (R:=OkA (mE m) W) (by rw[XQ,sT h (k:=42) (v:=x.v),sT h (k:=43) (v:=.int .u8 m)];exact aJ3 hck hI hn h0 m W hw) (fun e W1 ⟨cs,ev,c1,c2,B⟩=>⟨_,ev,fun l a hk h=>?_⟩);refine mV (v:=.tuple #[.agg cs.toArray,.int .i64 (mE m)]) hk h fun l a hk h=>?_;refine sV (v:=.agg cs.toArray) hk h (fun _ ho=>dB (vs:= #[.agg cs.toArray,.int .i64 (mE m)]) rfl ho (sT h)) fun l a hk h=>?_;refine sV (v:=.int .i64 (mE m)) hk h (fun _ ho=>dB (vs:= #[.agg cs.toArray,.int .i64 (mE m)]) rfl ho (sT h)) fun l a hk h=>?_;refine sV (v:=pa W1.heap.size 0) hk h (fun _ ho=>jV ho (Tryz.zeroValue35 W1)) fun l a hk h=>?_;refine ss (g:=none) hk h rfl (fun _ ho=>iG (b:=W1.heap.size) (off:=0) (cs:=cs) (by rw[c1];exact(show World.there _ _ 0 36 from bD (dY (W:=W1) (el:=35) zE).2.2.2.1)) (by rw[c1];kernel_rfl) c2 ho (sT h) (sT h)) (fun l hk=>?_);have AZ:=aIZ c1 W1;change wpListIn _ _ _ _ _ _ _ (ez W1 cs);generalize ez W1 cs=W2 at AZ ⊢;have B2:=bG B (gI AZ) (aDT _);refine aV (v:=.int .i64 (mE m)) hk h fun l a hk h=>?_;exact s0 hk (k _ _ B2 (cO h))
theorem aK9{r:Option Nat}{Q:Exit->Act->World->Prop}{a:Act}{W:World}{p0:Nat}{m:Int}(hck:Same w0 19 #[x.v] (.int .i64 0))(hI:bP w0 x.bs x.L)(hn:x.L.length<=256)(h0:x.bs=none->x.L.length=0)(hw:Below w0.heap.size w0 W)(f:fF W p0 35 x.l)(h:Sl 108 [(1,.int .u8 m),(2,pa p0 0),(5,.int .i64 0),(6,.int .i64 (mE m)),(8,.int .i64 (mE m)),(10,.int .i64 (mE m))] a)(k: ∀a W1 ad,Below W.heap.size W W1->iW W1 ad x.pl.length x.cl->Sl 108 [(1,.int .u8 m),(2,pa p0 0),(5,.int .i64 0),(6,.int .i64 (mE m)),(8,.int .i64 (mE m)),(10,.int .i64 (mE m)),(11,x.sl ad),(12,.int .i64 0)] a->Q .normal a W1):aHI.wpIn (FR r) 0 Tryz.prog Q a W:=by
 refine aH aTE fun ops l hK hk=>?_;refine sV (v:=x.v) hk h (fun _ ho=>fE (aW f) Tryz.underlying35 rfl (by kernel_rfl) ho (sT h)) fun l a hk h=>?_;refine sc hk h rfl (by decide) (fun _ ho=>jB ho Tryz.func7) (R:=fun e w'=> ∃ad,e=.returned (.tuple #[x.sl ad,.int .i64 0])/\iW w' ad x.pl.length x.cl/\Below W.heap.size W w') (by rw[aFZ,sT h (v:=x.v)];exact AB hck hI hn W hw) (fun e W1 ⟨ad,ev,hL,B⟩=>⟨_,ev,fun l a hk h=>?_⟩);refine mV (v:=.tuple #[x.sl ad,.int .i64 0]) hk h fun l a hk h=>?_;refine sV (v:=x.sl ad) hk h (fun _ ho=>dB (vs:= #[x.sl ad,.int .i64 0]) rfl ho (sT h)) fun l a hk h=>?_;refine sV (v:=.int .i64 0) hk h (fun _ ho=>dB (vs:= #[x.sl ad,.int .i64 0]) rfl ho (sT h)) fun l a hk h=>?_;refine aV (v:=x.sl ad) hk h fun l a hk h=>?_;refine aV (v:=.int .i64 0) hk h fun l a hk h=>?_;exact s0 hk (k _ _ ad B hL (cO h))
theorem aK8{r:Option Nat}{Q:Exit->Act->World->Prop}{a:Act}{W:World}{p0:Nat}{m:Int}(hck:Same w0 19 #[x.v] (.int .i64 0))(hI:bP w0 x.bs x.L)(hn:x.L.length<=256)(h0:x.bs=none->x.L.length=0){ad:Option Addr}(hw:Below w0.heap.size w0 W)(f:fF W p0 35 x.l)(h:Sl 108 [(1,.int .u8 m),(2,pa p0 0),(5,.int .i64 0),(6,.int .i64 (mE m)),(8,.int .i64 (mE m)),(10,.int .i64 (mE m)),(11,x.sl ad),(12,.int .i64 0)] a)(k: ∀a W1,Below W.heap.size W W1->Sl 108 [(1,.int .u8 m),(2,pa p0 0),(5,.int .i64 0),(6,.int .i64 (mE m)),(8,.int .i64 (mE m)),(10,.int .i64 (mE m)),(11,x.sl ad),(12,.int .i64 0),(14,.int .i64 0)] a->Q .normal a W1):aHH.wpIn (FR r) 0 Tryz.prog Q a W:=by
 refine aH aTD fun ops l hK hk=>?_;refine sV (v:=x.v) hk h (fun _ ho=>fE (aW f) Tryz.underlying35 rfl (by kernel_rfl) ho (sT h)) fun l a hk h=>?_;refine sc hk h rfl (by decide) (fun _ ho=>jB ho Tryz.func22) (R:=aFu W) (by rw[aFZ,sT h (v:=x.v)];exact aF2 hck hI hn h0 W hw) (fun e W1 ⟨cs,ev,c1,c2,B⟩=>⟨_,ev,fun l a hk h=>?_⟩);refine mV (v:=.tuple #[.agg cs.toArray,.int .i64 0]) hk h fun l a hk h=>?_;refine sV (v:=.agg cs.toArray) hk h (fun _ ho=>dB (vs:= #[.agg cs.toArray,.int .i64 0]) rfl ho (sT h)) fun l a hk h=>?_;refine sV (v:=.int .i64 0) hk h (fun _ ho=>dB (vs:= #[.agg cs.toArray,.int .i64 0]) rfl ho (sT h)) fun l a hk h=>?_;refine sV (v:=pa W1.heap.size 0) hk h (fun _ ho=>jV ho (Tryz.zeroValue35 W1)) fun l a hk h=>?_;refine ss (g:=none) hk h rfl (fun _ ho=>iG (b:=W1.heap.size) (off:=0) (cs:=cs) (by rw[c1];exact(show World.there _ _ 0 36 from bD (dY (W:=W1) (el:=35) zE).2.2.2.1)) (by rw[c1];kernel_rfl) c2 ho (sT h) (sT h)) (fun l hk=>?_);have AZ:=aIZ c1 W1;change wpListIn _ _ _ _ _ _ _ (ez W1 cs);generalize ez W1 cs=W2 at AZ ⊢;have B2:=bG B (gI AZ) (aDT _);refine aV (v:=.int .i64 0) hk h fun l a hk h=>?_;exact s0 hk (k _ _ B2 (cO h))
theorem aK7{r:Option Nat}{Q:Exit->Act->World->Prop}{a:Act}{W:World}{p0:Nat}{m:Int}(hck:Same w0 19 #[x.v] (.int .i64 0))(hI:bP w0 x.bs x.L)(hn:x.L.length<=256)(h0:x.bs=none->x.L.length=0){ad:Option Addr}(hw:Below w0.heap.size w0 W)(f:fF W p0 35 x.l)(h:Sl 108 [(1,.int .u8 m),(2,pa p0 0),(5,.int .i64 0),(6,.int .i64 (mE m)),(8,.int .i64 (mE m)),(10,.int .i64 (mE m)),(11,x.sl ad),(12,.int .i64 0),(14,.int .i64 0)] a)(k: ∀a W1,Below W.heap.size W W1->Sl 108 [(1,.int .u8 m),(2,pa p0 0),(5,.int .i64 0),(6,.int .i64 (mE m)),(8,.int .i64 (mE m)),(10,.int .i64 (mE m)),(11,x.sl ad),(12,.int .i64 0),(14,.int .i64 0),(16,.int .i64 0)] a->Q .normal a W1):aHG.wpIn (FR r) 0 Tryz.prog Q a W:=by
 refine aH aTC fun ops l hK hk=>?_;refine sV (v:=x.v) hk h (fun _ ho=>fE (aW f) Tryz.underlying35 rfl (by kernel_rfl) ho (sT h)) fun l a hk h=>?_;refine sc hk h rfl (by decide) (fun _ ho=>jB ho Tryz.func9) (R:=OkU 0 W) (by rw[aFZ,sT h (v:=x.v)];exact aGz hck hI hn W hw) (fun e W1 ⟨⟨u,ev⟩,B⟩=>⟨_,ev,fun l a hk h=>?_⟩);refine mV (v:=.tuple #[u,.int .i64 0]) hk h fun l a hk h=>?_;refine sV (v:=u) hk h (fun _ ho=>dB (vs:= #[u,.int .i64 0]) rfl ho (sT h)) fun l a hk h=>?_;refine sV (v:=.int .i64 0) hk h (fun _ ho=>dB (vs:= #[u,.int .i64 0]) rfl ho (sT h)) fun l a hk h=>?_;refine aV (v:=u) hk h fun l a hk h=>?_;refine aV (v:=.int .i64 0) hk h fun l a hk h=>?_;exact s0 hk (k _ _ B (cO h))
theorem aK6{r:Option Nat}{Q:Exit->Act->World->Prop}{a:Act}{W:World}{p0:Nat}{m:Int}(hck:Same w0 19 #[x.v] (.int .i64 0))(hI:bP w0 x.bs x.L)(hn:x.L.length<=256)(h0:x.bs=none->x.L.length=0){ad:Option Addr}(hmk: ∀q,q<x.pl.length->mkv (x.dt (x.pl.getD q (0,0)).1) (x.pl.getD q (0,0)).2<=3)(hL:iW W ad x.pl.length x.cl)(hw:Below w0.heap.size w0 W)(f:fF W p0 35 x.l)(h:Sl 108 [(1,.int .u8 m),(2,pa p0 0),(5,.int .i64 0),(6,.int .i64 (mE m)),(8,.int .i64 (mE m)),(10,.int .i64 (mE m)),(11,x.sl ad),(12,.int .i64 0),(14,.int .i64 0),(16,.int .i64 0)] a)(k: ∀a W1,Below W.heap.size W W1->Sl 108 [(1,.int .u8 m),(2,pa p0 0),(5,.int .i64 0),(6,.int .i64 (mE m)),(8,.int .i64 (mE m)),(10,.int .i64 (mE m)),(11,x.sl ad),(12,.int .i64 0),(14,.int .i64 0),(16,.int .i64 0),(18,.int .i64 0)] a->Q .normal a W1):aHF.wpIn (FR r) 0 Tryz.prog Q a W:=by
 refine aH aTB fun ops l hK hk=>?_;refine sV (v:=x.v) hk h (fun _ ho=>fE (aW f) Tryz.underlying35 rfl (by kernel_rfl) ho (sT h)) fun l a hk h=>?_;refine mV (v:=x.sl ad) hk h fun l a hk h=>?_;refine sc hk h rfl (by decide) (fun _ ho=>jB ho Tryz.func15) (R:=OkA 0 W) (by rw[XQ,sT h (k:=63) (v:=x.v),sT h (k:=64) (v:=x.sl ad)];exact aBi hck hI hn h0 hmk W hw hL) (fun e W1 ⟨cs,ev,c1,c2,B⟩=>⟨_,ev,fun l a hk h=>?_⟩);refine mV (v:=.tuple #[.agg cs.toArray,.int .i64 0]) hk h fun l a hk h=>?_;refine sV (v:=.agg cs.toArray) hk h (fun _ ho=>dB (vs:= #[.agg cs.toArray,.int .i64 0]) rfl ho (sT h)) fun l a hk h=>?_;refine sV (v:=.int .i64 0) hk h (fun _ ho=>dB (vs:= #[.agg cs.toArray,.int .i64 0]) rfl ho (sT h)) fun l a hk h=>?_;refine sV (v:=pa W1.heap.size 0) hk h (fun _ ho=>jV ho (Tryz.zeroValue35 W1)) fun l a hk h=>?_;refine ss (g:=none) hk h rfl (fun _ ho=>iG (b:=W1.heap.size) (off:=0) (cs:=cs) (by rw[c1];exact(show World.there _ _ 0 36 from bD (dY (W:=W1) (el:=35) zE).2.2.2.1)) (by rw[c1];kernel_rfl) c2 ho (sT h) (sT h)) (fun l hk=>?_);have AZ:=aIZ c1 W1;change wpListIn _ _ _ _ _ _ _ (ez W1 cs);generalize ez W1 cs=W2 at AZ ⊢;have B2:=bG B (gI AZ) (aDT _);refine aV (v:=.int .i64 0) hk h fun l a hk h=>?_;exact s0 hk (k _ _ B2 (cO h))
theorem aK5{r:Option Nat}{Q:Exit->Act->World->Prop}{a:Act}{W:World}{p0:Nat}{m:Int}{ad:Option Addr}(hl:Same w0 12 #[] (.bool true))(hw:Below w0.heap.size w0 W)(h:Sl 108 [(1,.int .u8 m),(2,pa p0 0),(5,.int .i64 0),(6,.int .i64 (mE m)),(8,.int .i64 (mE m)),(10,.int .i64 (mE m)),(11,x.sl ad),(12,.int .i64 0),(14,.int .i64 0),(16,.int .i64 0),(18,.int .i64 0)] a)(k: ∀a W1,Below W.heap.size W W1->Sl 108 [(4,.bool true)] a->Q .normal a W1):aHE.wpIn (FR r) 0 Tryz.prog Q a W:=by
 refine aH aTA fun ops l hK hk=>?_;refine mV (v:=.int .i64 (mE m)) hk h fun l a hk h=>?_;refine mV (v:=.int .i64 (mE m)) hk h fun l a hk h=>?_;refine sV (v:=.bool true) hk h (fun _ ho=>vV (q:=.i64) ho (sT h (v:=.int .i64 (mE m))) (sT h (v:=.int .i64 (mE m))) rfl) fun l a hk h=>?_;refine mV (v:=.bool true) hk h fun l a hk h=>?_;refine mG (v:=.int .i64 (mE m)) hK hk h 71 fun l a hk h=>?_;refine mG (v:=.int .i64 (mE m)) hK hk h 71 fun l a hk h=>?_;refine sG (v:=.bool true) hK hk h 71 (fun _ ho=>vV (q:=.i64) ho (sT h (v:=.int .i64 (mE m))) (sT h (v:=.int .i64 (mE m))) rfl) fun l a hk h=>?_;refine sV (v:=.bool true) hk h (fun _ ho=>jM ho (sT h) (sT h)) fun l a hk h=>?_;refine mV (v:=.bool true) hk h fun l a hk h=>?_;have h:Sl 108 [(76,.bool true),(1,.int .u8 m),(2,pa p0 0),(5,.int .i64 0),(6,.int .i64 (mE m)),(8,.int .i64 (mE m)),(10,.int .i64 (mE m)),(11,x.sl ad),(12,.int .i64 0),(14,.int .i64 0),(16,.int .i64 0),(18,.int .i64 0)] a:=(cO h);refine mG (v:=.int .i64 0) hK hk h 76 fun l a hk h=>?_;refine mG (v:=.int .i64 0) hK hk h 76 fun l a hk h=>?_;refine sG (v:=.bool true) hK hk h 76 (fun _ ho=>vV (q:=.i64) ho (sT h (v:=.int .i64 0)) (sT h (v:=.int .i64 0)) rfl) fun l a hk h=>?_;refine sV (v:=.bool true) hk h (fun _ ho=>jM ho (sT h) (sT h)) fun l a hk h=>?_;refine mV (v:=.bool true) hk h fun l a hk h=>?_;have h:Sl 108 [(81,.bool true),(1,.int .u8 m),(2,pa p0 0),(5,.int .i64 0),(6,.int .i64 (mE m)),(8,.int .i64 (mE m)),(10,.int .i64 (mE m)),(11,x.sl ad),(12,.int .i64 0),(14,.int .i64 0),(16,.int .i64 0),(18,.int .i64 0)] a:=(cO h);refine mG (v:=.int .i64 0) hK hk h 81 fun l a hk h=>?_;refine mG (v:=.int .i64 0) hK hk h 81 fun l a hk h=>?_;refine sG (v:=.bool true) hK hk h 81 (fun _ ho=>vV (q:=.i64) ho (sT h (v:=.int .i64 0)) (sT h (v:=.int .i64 0)) rfl) fun l a hk h=>?_;refine sV (v:=.bool true) hk h (fun _ ho=>jM ho (sT h) (sT h)) fun l a hk h=>?_;refine mV (v:=.bool true) hk h fun l a hk h=>?_;have h:Sl 108 [(86,.bool true),(1,.int .u8 m),(2,pa p0 0),(5,.int .i64 0),(6,.int .i64 (mE m)),(8,.int .i64 (mE m)),(10,.int .i64 (mE m)),(11,x.sl ad),(12,.int .i64 0),(14,.int .i64 0),(16,.int .i64 0),(18,.int .i64 0)] a:=(cO h);refine mG (v:=.int .i64 0) hK hk h 86 fun l a hk h=>?_;refine mG (v:=.int .i64 0) hK hk h 86 fun l a hk h=>?_;refine sG (v:=.bool true) hK hk h 86 (fun _ ho=>vV (q:=.i64) ho (sT h (v:=.int .i64 0)) (sT h (v:=.int .i64 0)) rfl) fun l a hk h=>?_;refine sV (v:=.bool true) hk h (fun _ ho=>jM ho (sT h) (sT h)) fun l a hk h=>?_;refine mV (v:=.bool true) hk h fun l a hk h=>?_;have h:Sl 108 [(91,.bool true),(1,.int .u8 m),(2,pa p0 0),(5,.int .i64 0),(6,.int .i64 (mE m)),(8,.int .i64 (mE m)),(10,.int .i64 (mE m)),(11,x.sl ad),(12,.int .i64 0),(14,.int .i64 0),(16,.int .i64 0),(18,.int .i64 0)] a:=(cO h);refine mG (v:=.int .i64 0) hK hk h 91 fun l a hk h=>?_;refine mG (v:=.int .i64 0) hK hk h 91 fun l a hk h=>?_;refine sG (v:=.bool true) hK hk h 91 (fun _ ho=>vV (q:=.i64) ho (sT h (v:=.int .i64 0)) (sT h (v:=.int .i64 0)) rfl) fun l a hk h=>?_;refine sV (v:=.bool true) hk h (fun _ ho=>jM ho (sT h) (sT h)) fun l a hk h=>?_;refine mV (v:=.bool true) hk h fun l a hk h=>?_;have h:Sl 108 [(96,.bool true),(1,.int .u8 m),(2,pa p0 0),(5,.int .i64 0),(6,.int .i64 (mE m)),(8,.int .i64 (mE m)),(10,.int .i64 (mE m)),(11,x.sl ad),(12,.int .i64 0),(14,.int .i64 0),(16,.int .i64 0),(18,.int .i64 0)] a:=(cO h);refine mG (v:=.int .i64 0) hK hk h 96 fun l a hk h=>?_;refine sG (v:=.bool true) hK hk h 96 (fun _ ho=>vV (q:=.i64) (m:=0) (m':=0) ho (sT h) rfl rfl) fun l a hk h=>?_;refine mG (v:=.bool true) hK hk h 96 fun l a hk h=>?_;refine sX hK hk h 99 fun l a hk h=>?_;refine sX hK hk h 99 fun l a hk h=>?_;refine sX hK hk h 99 fun l a hk h=>?_;refine sG (v:=.bool true) hK hk h 96 (fun _ ho=>jM ho (sT h) rfl) fun l a hk h=>?_;refine sV (v:=.bool true) hk h (fun _ ho=>jM ho (sT h) (sT h)) fun l a hk h=>?_;refine mV (v:=.bool true) hk h fun l a hk h=>?_;refine scg hK hk h (d0:=105) rfl (by simp) rfl (by decide) (fun _ ho=>aDJ ho Tryz.func12 (by kernel_rfl) (show _=some ((Tryz.f12).body.getD .skip) by kernel_rfl)) (hl W hw) (fun e W1 hR=>⟨_,hR.1,fun l a hk h=>?_⟩);refine sV (v:=.bool true) hk h (fun _ ho=>jM ho (sT h) (sT h)) fun l a hk h=>?_;refine aV (v:=.bool true) hk h fun l a hk h=>?_;exact s0 hk (k _ _ hR.2 (cO h))
theorem aPn(hck:Same w0 19 #[x.v] (.int .i64 0))(hI:bP w0 x.bs x.L)(hn:x.L.length<=256)(h0:x.bs=none->x.L.length=0)(hmk: ∀q,q<x.pl.length->mkv (x.dt (x.pl.getD q (0,0)).1) (x.pl.getD q (0,0)).2<=3)(hbig:Same w0 18 #[x.v] (.bool false))(hl:Same w0 12 #[] (.bool true))(hrf:Same w0 20 #[x.v] (.int .i64 0))(m:Int):
 Same w0 5 #[x.v,.int .u8 m] (.bool true):=by
 intro w hw;refine(aM8 (n:=0)).1 ?_;refine fO (args:=[x.v,.int .u8 m]) (N:=108) Tryz.func5 (show _=some UL by kernel_rfl) Tryz.ntmps5 (by simp) fun a h=>?_;rw[aYL];refine aEK (aH aYK fun ops l hK hk=>?_);refine sV (v:=pa w.heap.size 0) hk h (fun _ ho=>pJ (v:=x.v) ho (sT h) rfl) fun l a hk h=>?_;have A0:Al w (w.alloc (.cells x.l.toArray 35)) w.heap.size 35 x.l:=dY x.l;change wpListIn _ _ _ _ _ _ _ (w.alloc (.cells x.l.toArray 35));generalize w.alloc (.cells x.l.toArray 35)=W0 at A0 ⊢;obtain⟨p0,hp0⟩: ∃p,p=w.heap.size:=⟨_,rfl⟩;rw[<-hp0]at A0 h;refine aC (v:=.bool false) hk h fun l a hk h=>?_;have f:=A0.2.2.2.1;have bw:Below w.heap.size w W0:=gI A0;have b0:Below w0.heap.size w0 W0:=bG hw bw (aDT _);refine s0 hk (aEK (aEK (aH aYJ fun ops l hK hk=>?_)));refine sV (v:=x.v) hk h (fun _ ho=>fE (aW f) Tryz.underlying35 rfl (by kernel_rfl) ho (sT h)) fun l a hk h=>?_;refine sc hk h rfl (by decide) (fun _ ho=>jB ho Tryz.func18) (R:=fun e W9=>e=.returned (.bool false)/\Below W0.heap.size W0 W9) (by rw[aFZ,sT h (v:=x.v)];exact hbig W0 b0) (fun e W1 hR=>⟨_,hR.1,fun l a hk h=>?_⟩);have f:fF W1 p0 35 x.l:=aT f (hR.2.block p0 (dH f));have b1:Below w0.heap.size w0 W1:=bG b0 hR.2 (aDT _);have bw:Below w.heap.size w W1:=bG bw hR.2 (aDT _);refine s0 hk (aPo (sT h) (aNH (aEK (aH aYI fun ops l hK hk=>?_))));refine sV (v:=x.v) hk h (fun _ ho=>fE (aW f) Tryz.underlying35 rfl (by kernel_rfl) ho (sT h)) fun l a hk h=>?_;refine sc hk h rfl (by decide) (fun _ ho=>jB ho Tryz.func19) (R:=fun e W9=>e=.returned (.int .i64 0)/\Below W1.heap.size W1 W9) (by rw[aFZ,sT h (v:=x.v)];exact hck W1 b1) (fun e W2 hR=>⟨_,hR.1,fun l a hk h=>?_⟩);have f:fF W2 p0 35 x.l:=aT f (hR.2.block p0 (dH f));have b2:Below w0.heap.size w0 W2:=bG b1 hR.2 (aDT _);have bw:Below w.heap.size w W2:=bG bw hR.2 (aDT _);refine aV (v:=.int .i64 0) hk h fun l a hk h=>?_;refine s0 hk (aEK (aEK (aH aYH fun ops l hK hk=>?_)));refine mV (v:=.int .i64 0) hk h fun l a hk h=>?_;refine sV (v:=x.v) hk h (fun _ ho=>fE (aW f) Tryz.underlying35 rfl (by kernel_rfl) ho (sT h)) fun l a hk h=>?_;refine sc hk h rfl (by decide) (fun _ ho=>jB ho Tryz.func20) (R:=fun e W9=>e=.returned (.int .i64 0)/\Below W2.heap.size W2 W9) (by rw[aFZ,sT h (v:=x.v)];exact hrf W2 b2) (fun e W3 hR=>⟨_,hR.1,fun l a hk h=>?_⟩);have f:fF W3 p0 35 x.l:=aT f (hR.2.block p0 (dH f));have b3:Below w0.heap.size w0 W3:=bG b2 hR.2 (aDT _);have bw:Below w.heap.size w W3:=bG bw hR.2 (aDT _);refine sV (v:=.bool false) hk h (fun _ ho=>zB (q:=.i64) (m:=0) (m':=0) rfl ho (sT h) (sT h)) fun l a hk h=>?_;refine s0 hk (aPo (sT h) (aNH (aEK (aH aYG fun ops l hK hk=>?_))));refine mV (v:=.int .i64 0) hk h fun l a hk h=>?_;refine aV (v:=.int .i64 0) hk h fun l a hk h=>?_;refine s0 hk (aEK (first_any (p0:=p0) (m:=m) (cO h) fun a h=>?_));refine aEK (aPi hck hI hn h0 b3 f h fun a W4 B h=>?_);have f:fF W4 p0 35 x.l:=aT f (B.block p0 (dH f));have b4:Below w0.heap.size w0 W4:=bG b3 B (aDT _);have bw:Below w.heap.size w W4:=bG bw B (aDT _);refine aEK (aLa hck hI hn h0 b4 f h fun a W5 B h=>?_);have f:fF W5 p0 35 x.l:=aT f (B.block p0 (dH f));have b5:Below w0.heap.size w0 W5:=bG b4 B (aDT _);have bw:Below w.heap.size w W5:=bG bw B (aDT _);refine aEK (aK9 hck hI hn h0 b5 f h fun a W6 ad B hL h=>?_);have f:fF W6 p0 35 x.l:=aT f (B.block p0 (dH f));have b6:Below w0.heap.size w0 W6:=bG b5 B (aDT _);have bw:Below w.heap.size w W6:=bG bw B (aDT _);refine aEK (aK8 hck hI hn h0 b6 f h fun a W7 B h=>?_);have f:fF W7 p0 35 x.l:=aT f (B.block p0 (dH f));have b7:Below w0.heap.size w0 W7:=bG b6 B (aDT _);have bw:Below w.heap.size w W7:=bG bw B (aDT _);have hL:=hL.later B.size B.block;refine aEK (aK7 hck hI hn h0 b7 f h fun a W8 B h=>?_);have f:fF W8 p0 35 x.l:=aT f (B.block p0 (dH f));have b8:Below w0.heap.size w0 W8:=bG b7 B (aDT _);have bw:Below w.heap.size w W8:=bG bw B (aDT _);have hL:=hL.later B.size B.block;refine aEK (aK6 hck hI hn h0 hmk hL b8 f h fun a W9 B h=>?_);have f:fF W9 p0 35 x.l:=aT f (B.block p0 (dH f));have b9:Below w0.heap.size w0 W9:=bG b8 B (aDT _);have bw:Below w.heap.size w W9:=bG bw B (aDT _);refine aEK (aK5 hl b9 h fun a W10 B h=>?_);refine aQE ?_;exact kZ (R:=fun r w'=>r=.returned (.bool true)/\Below w.heap.size w w') (i:=4) (v:=.bool true) h Tryz.results5 (by simp) ⟨rfl,bG bw B (aDT _)⟩
end
end Rf
end
section
open Go.RowKit
namespace Ev
noncomputable def DT.okO(B:Tab)(lt:Value)(ps:List IC)(os:List xM)(h0:Tr HO)(d g:Nat)(f:FuncId)(a4Q:List AA)(cells:List AV)(T:DT):List QF->Bool:=
 DT.rec (motive:=fun _=>List QF->Bool) (fun v fs=>VN g v (sF (tbL B.up lt fs ps os) d (B.l+1) [] f [.agg (a4Q.map (AA.av B.l))] ⟨setH h0 B.l (.ro cells),B.l+1⟩)) (fun _=>true)
  (fun c x y _ _ iht ihf fs=>band (band (iC g x) (iC g y)) (band (iht ((c,x,y,true)::fs)) (ihf ((c,x,y,false)::fs)))) T
theorem aAK{B:Tab}{w0 w:World}{lt:Value}{ps:List IC}{os:List xM}{g d:Nat}{h0:Tr HO}{f:FuncId}{a4Q:List AA}{cells:List AV}{gb o c:Nat}(hB:gX B w0)(hst:jK B.g.n B.l w0 h0)(hg:Nat.ble (g+1) B.g.n=true)
 (hp: ∀e ∈ ps,WG g e=true/\EP B.p lt e) (ho: ∀e ∈ os,FT B g e=true/\wP B.p w0 lt e) (has:a4Q.all (AA.ok g)=true) (hcs:kC g cells=true) (hy:Nat.ble yF f=false) (hw:Below w0.heap.size w0 w)
 (hgb:gb<w0.heap.size) (hrd: ∀(i:Nat) (x:AV),cells[i]? =some x->w.cell? ⟨gb,o+i,none⟩=some (dS lt x)) (hbx: ∃x,w.heap[gb]? =some x) (T:DT):
 ∀fs,(∀e ∈ fs,aDg g lt e)->T.okO B lt ps os h0 d g f a4Q cells fs=true->T.live lt->
  Calls B.p f #[.agg (a4Q.map (AA.den lt gb o c)).toArray] w fun e w'=>Below w.heap.size w w'/\e=.returned (T.den lt):=by
 induction T with
 | leaf v=>
  intro fs hf h _;have h:VN g v (sF (tbL B.up lt fs ps os) d (B.l+1) [] f [.agg (a4Q.map (AA.av B.l))] ⟨setH h0 B.l (.ro cells),B.l+1⟩)=true:=h
  cases hr:sF (tbL B.up lt fs ps os) d (B.l+1) [] f [.agg (a4Q.map (AA.av B.l))] ⟨setH h0 B.l (.ro cells),B.l+1⟩with
  |none=>rw[hr]at h;cases h
  | some p=>
   rw[hr]at h;obtain⟨v',s'⟩:=p;obtain⟨ρ,hs⟩:=hst (fun _=>⟨0,0,lt⟩) w hw;have hg':g<B.g.n:=by have:=aIl hg;omega
   have hgl:g<B.l:=aFz hg' (@aQ.gn G0 _ _ _ _ _ hs);have hρ:ρ.cp g=⟨0,0,lt⟩:=(@aQ.gl G0 _ _ _ _ _ hs g hg').2.2;have OC:(ρ.CX B.l gb o c).cp g=⟨0,0,lt⟩:=by rw[(ZQ ρ B.l gb o c g hgl).2.2];exact hρ
   have hgd:@Gd G0 (B.l+1) g:=⟨by omega,fun q=>q⟩;have hs1:=aGi (g:=gb) (o:=o) (c:=c) (cells:=cells) hs hgb (fun i x hx=>by rw[kM OC x (aKa hcs i x hx)];exact hrd i x hx) hbx (@sS G0 _ _ hgd cells hcs);have hT:=aAh (aRx hB) hg hf hp ho;have hsc:@iE G0 (B.l+1) [.agg (a4Q.map (AA.av B.l))]:=⟨aVf hgd a4Q has,trivial⟩;have hden:([AV.agg (a4Q.map (AA.av B.l))].map (den (ρ.CX B.l gb o c))).toArray= #[.agg (a4Q.map (AA.den lt gb o c)).toArray]:=by
    have:(a4Q.map (AA.av B.l)).map (den (ρ.CX B.l gb o c))=a4Q.map (AA.den lt gb o c):=by
     rw[aZm];refine List.map_congr_left fun a ha=>?_;have hok:=aJr.1 has a ha
     cases a with
     |s u=>exact kM OC u hok
     |o n=>simp[AA.av,AA.den,den,Env.CX,Env.cap]
    simp[den,dQ,this]
   have:=(MO hT d G0 _ _ _ _ _ _ _ hr _ w hs1 hsc).1 hy;rw[hden]at this;refine this.mono ?_;rintro e w' ⟨ρ',rfl,h3,_⟩;have fr:=@Stp.fr G0 _ _ _ _ _ _ _ _ h3;have sat:=@Stp.sat G0 _ _ _ _ _ _ _ _ h3;have D8:ρ'.cp g=⟨0,0,lt⟩:=(@aQ.gl G0 _ _ _ _ _ sat g hg').2.2;refine⟨⟨fr.os,fr.tape,fr.output,fr.size,fun r hr=>fr.block r hr (fun b o h3 h4=>absurd (show B.l+1<=b from h3) (a1P.2 (@aQ.lt G0 _ _ _ _ _ hs1 b o h4)))⟩,?_⟩;obtain⟨k1,k2⟩:=aI (show band (eqS v' v) (iC g v)=true from h);rw[uK _ _ k1];show Ending.returned _=.returned (dS lt v);rw[kM D8 v k2]
 |no=>intro fs _ _ h;exact h.elim
 | node c x y t u iht ihu=>
  intro fs hf h hl;obtain⟨h1,h2⟩:=aI (show band (band (iC g x) (iC g y)) (band (t.okO B lt ps os h0 d g f a4Q cells ((c,x,y,true)::fs)) (u.okO B lt ps os h0 d g f a4Q cells ((c,x,y,false)::fs)))=true from h);obtain⟨h3,h4⟩:=aI h1;obtain⟨h5,h6⟩:=aI h2
  cases hb:iU c (dS lt x) (dS lt y)with
  | true=>
   refine(iht _ (fun e he=>by
    rcases aGv.1 he with rfl|he
    . exact⟨h3,h4,hb⟩
    exact hf e he) h5 (hl.1 hb)).mono ?_
   rintro e w' ⟨k1,rfl⟩;refine⟨k1,?_⟩;show _=Ending.returned (cond (iU c (dS lt x) (dS lt y)) _ _);rw[hb];rfl
  | false=>
   refine(ihu _ (fun e he=>by
    rcases aGv.1 he with rfl|he
    . exact⟨h3,h4,hb⟩
    exact hf e he) h6 (hl.2 hb)).mono ?_
   rintro e w' ⟨k1,rfl⟩;refine⟨k1,?_⟩;show _=Ending.returned (cond (iU c (dS lt x) (dS lt y)) _ _);rw[hb];rfl
theorem DZ{B:Tab}{w0:World}{lt:Value}{g d:Nat}{h0:Tr HO}{f:FuncId}{a4Q:List AA}{cells:List AV}{gb o c:Nat}{T:DT}{AS VC:List Value}{v:Value}
 (h:T.okO B lt [] [] h0 d g f a4Q cells []=true) (hB:gX B w0) (hst:jK B.g.n B.l w0 h0) (hl:T.live lt) (hgb:gb<w0.heap.size) (hrd: ∀(i:Nat) (x:Value),VC[i]? =some x->w0.cell? ⟨gb,o+i,none⟩=some x) (hbx: ∃x,w0.heap[gb]? =some x)
 (hc:(aOE B [] [] g f a4Q cells,a4Q.map (AA.den lt gb o c),cells.map (dS lt),T.den lt)=(true,AS,VC,v)):ZT B.p w0 f #[.agg AS.toArray] v:=by
 simp only[aNl]at hc;obtain⟨c1,rfl,rfl,rfl⟩:=hc;obtain⟨q1,c1⟩:=aI (show band (Nat.ble (g+1) B.g.n) _=true from c1);obtain⟨_,c1⟩:=aI c1;obtain⟨_,c1⟩:=aI c1;obtain⟨q2,c1⟩:=aI c1;obtain⟨q3,q4⟩:=aI c1;intro w hw;refine(aAK (gb:=gb) (o:=o) (c:=c) hB hst q1 (fun e he=>by cases he) (fun e he=>by cases he) q2 q3 (by cases hb:Nat.ble yF f with|false=>rfl|true=>rw[hb]at q4;cases q4) hw hgb (fun i x hx=>?_) ?_ T [] (fun e he=>by cases he) h hl).mono fun e w' k=>⟨k.2,k.1⟩
 . exact(hw.cell (p:=⟨gb,_,none⟩) hgb).trans (hrd i _ (by rw[aFx,hx];rfl))
 obtain⟨x,hx⟩:=hbx;exact⟨x,(hw.block gb hgb).trans hx⟩
end Ev
end
section
open Go.RowKit Go.Lib
namespace Sk
open Ev (AA AV DT LG tb0 aN iD iI aX DZ dS QF)
abbrev eKb:List AV:=[(qu 0),(qb 1),(qb 2),(qs 3),(qi 4),(qi 5),(qs 6),(qs 7),(qu 8),(qu 9),(qu 10),(qu 11),(qb 12),(qb 13),(qs 14),(qi 15),(qi 16),(qs 17),(qs 18),(qu 19),(qu 20),(qu 21),(qu 22),(qb 23),(qb 24),(qs 25),(qi 26),(qi 27),(qs 28),(qs 29),(qu 30),(qu 31),(qu 32),(iI 33),(qb 34),(qb 35)]
def aQl(n:Nat):List AA:=(eKb.take 33).map .s++[.o n,.s (qb 34),.s (qb 35)]
def itC(b:Nat):List AV:=[qb b,qb (b+1),qs (b+2),qi (b+3),qi (b+4),qs (b+5),qs (b+6),qu (b+7),qu (b+8),qu (b+9),qb (b+10),qb (b+11),qb (b+12),qs (b+13),qi (b+14),qi (b+15),qs (b+16),qs (b+17),qu (b+18),qu (b+19),qu (b+20)]
def aQk(n:Nat):List AV:=(List.range n).flatMap fun i=>itC (36+21 * i)
def itS(b:Nat):List Nat:=[b+2,b+5,b+6,b+13,b+16,b+17]
def bigS(n:Nat):List Nat:=[3,6,7,14,17,18,25,28,29]++(List.range n).flatMap fun i=>itS (36+21 * i)
def lU(tl:DT):List Nat->DT
 |[]=>tl
 |k::t=>.node 1 (.v (.int .i64 20)) (aX 7 .i64 [qs k]) (.leaf qt) (lU tl t)
def aEJ:List Nat->List QF->List QF
 |[],fs=>fs
 |k::t,fs=>aEJ t ((1,.v (.int .i64 20),aX 7 .i64 [qs k],false)::fs)
noncomputable abbrev okB(l:Value)(n:Nat)(T:DT)(fs:List QF):Bool:=T.okO tb0 l [] [] .nil 60 LG 18 (aQl n) (aQk n) fs
noncomputable def seg(l:Value)(n a b:Nat)(tl:DT):Bool:=okB l n (lU tl (((bigS n).drop a).take (b - a))) (aEJ ((bigS n).take a) [])
theorem aG5{l:Value}{n:Nat}{tl:DT}(k:Nat)(t:List Nat)(fs:List QF):okB l n (lU tl (k::t)) fs=Ev.band (Ev.band (Ev.iC LG (.v (.int .i64 20))) (Ev.iC LG (aX 7 .i64 [qs k]))) (Ev.band (okB l n (.leaf qt) ((1,.v (.int .i64 20),aX 7 .i64 [qs k],true)::fs)) (okB l n (lU tl t) ((1,.v (.int .i64 20),aX 7 .i64 [qs k],false)::fs))):=rfl
theorem aCC{l:Value}{n:Nat}{tl:DT}: ∀(S:List Nat) (fs:List QF),okB l n (lU .no S) fs=true->okB l n tl (aEJ S fs)=true->okB l n (lU tl S) fs=true
 |[],_,_,h=>h
 |k::t,fs,h,g=>by
  rw[aG5]at h ⊢;obtain⟨h1,h2⟩:=Ev.aI h;obtain⟨h3,h4⟩:=Ev.aI h2;rw[h1,h3,aCC t _ h4 g];rfl
theorem ZB(tl:DT): ∀S S':List Nat,lU tl (S++S')=lU (lU tl S') S
 |[],_=>rfl
 |k::t,S'=>by show DT.node _ _ _ _ (lU tl (t++S'))=DT.node _ _ _ _ _;rw[ZB tl t S']
theorem YK: ∀(S S':List Nat) (fs:List QF),aEJ (S++S') fs=aEJ S' (aEJ S fs)
 |[],_,_=>rfl
 |k::t,S',fs=>YK t S' _
theorem lC{l:Value}{n a b c:Nat}{tl:DT}(hab:a<=b)(hbc:b<=c)(h:seg l n a b .no=true)(g:seg l n b c tl=true):seg l n a c tl=true:=by
 unfold seg at *;have e:((bigS n).drop a).take (c - a)=((bigS n).drop a).take (b - a)++((bigS n).drop b).take (c - b):=by
  have:c - a=(b - a)+(c - b):=by omega
  rw[this,List.take_add,a04,show a+(b - a)=b by omega]
 have e2:(bigS n).take b=(bigS n).take a++((bigS n).drop a).take (b - a):=by
  have:b=a+(b - a):=by omega
  conv=>lhs;rw[this]
  rw[List.take_add]
 rw[e,ZB];refine aCC _ _ h ?_;rw[<-YK,<-e2];exact g
theorem aN8(l:Value):seg l 1 0 15 (.leaf qf)=true:=by kernel_rfl
theorem aLS(l:Value):okB l 1 (lU (.leaf qf) (bigS 1)) []=true:=(aN8 l:seg l 1 0 15 (.leaf qf)=true)
theorem aN7(l:Value):seg l 2 0 21 (.leaf qf)=true:=by kernel_rfl
theorem aLR(l:Value):okB l 2 (lU (.leaf qf) (bigS 2)) []=true:=(aN7 l:seg l 2 0 21 (.leaf qf)=true)
theorem aN6(l:Value):seg l 3 0 27 (.leaf qf)=true:=by kernel_rfl
theorem aLQ(l:Value):okB l 3 (lU (.leaf qf) (bigS 3)) []=true:=(aN6 l:seg l 3 0 27 (.leaf qf)=true)
theorem aN5(l:Value):seg l 4 0 33 (.leaf qf)=true:=by kernel_rfl
theorem aLP(l:Value):okB l 4 (lU (.leaf qf) (bigS 4)) []=true:=(aN5 l:seg l 4 0 33 (.leaf qf)=true)
theorem aN4(l:Value):seg l 5 0 39 (.leaf qf)=true:=by kernel_rfl
theorem aLO(l:Value):okB l 5 (lU (.leaf qf) (bigS 5)) []=true:=(aN4 l:seg l 5 0 39 (.leaf qf)=true)
theorem aN3(l:Value):seg l 6 0 45 (.leaf qf)=true:=by kernel_rfl
theorem aLN(l:Value):okB l 6 (lU (.leaf qf) (bigS 6)) []=true:=(aN3 l:seg l 6 0 45 (.leaf qf)=true)
theorem aN2(l:Value):seg l 7 0 51 (.leaf qf)=true:=by kernel_rfl
theorem aLM(l:Value):okB l 7 (lU (.leaf qf) (bigS 7)) []=true:=(aN2 l:seg l 7 0 51 (.leaf qf)=true)
theorem aN1(l:Value):seg l 8 0 38 .no=true:=by kernel_rfl
theorem aN0(l:Value):seg l 8 38 57 (.leaf qf)=true:=by kernel_rfl
theorem aLL(l:Value):okB l 8 (lU (.leaf qf) (bigS 8)) []=true:=(lC (by decide) (by decide) (aN1 l) (aN0 l):seg l 8 0 57 (.leaf qf)=true)
theorem aNZ(l:Value):seg l 9 0 42 .no=true:=by kernel_rfl
theorem aNY(l:Value):seg l 9 42 63 (.leaf qf)=true:=by kernel_rfl
theorem aLK(l:Value):okB l 9 (lU (.leaf qf) (bigS 9)) []=true:=(lC (by decide) (by decide) (aNZ l) (aNY l):seg l 9 0 63 (.leaf qf)=true)
theorem aKn(l:Value):seg l 10 0 35 .no=true:=by kernel_rfl
theorem aKm(l:Value):seg l 10 35 55 .no=true:=by kernel_rfl
theorem aKl(l:Value):seg l 10 55 69 (.leaf qf)=true:=by kernel_rfl
theorem aIJ(l:Value):okB l 10 (lU (.leaf qf) (bigS 10)) []=true:=(lC (by decide) (by decide) (aKn l) (lC (by decide) (by decide) (aKm l) (aKl l)):seg l 10 0 69 (.leaf qf)=true)
theorem aKk(l:Value):seg l 11 0 38 .no=true:=by kernel_rfl
theorem aKj(l:Value):seg l 11 38 60 .no=true:=by kernel_rfl
theorem aKi(l:Value):seg l 11 60 75 (.leaf qf)=true:=by kernel_rfl
theorem aII(l:Value):okB l 11 (lU (.leaf qf) (bigS 11)) []=true:=(lC (by decide) (by decide) (aKk l) (lC (by decide) (by decide) (aKj l) (aKi l)):seg l 11 0 75 (.leaf qf)=true)
theorem aKh(l:Value):seg l 12 0 34 .no=true:=by kernel_rfl
theorem aKg(l:Value):seg l 12 34 54 .no=true:=by kernel_rfl
theorem aKf(l:Value):seg l 12 54 69 .no=true:=by kernel_rfl
theorem aKe(l:Value):seg l 12 69 81 (.leaf qf)=true:=by kernel_rfl
theorem aIH(l:Value):okB l 12 (lU (.leaf qf) (bigS 12)) []=true:=(lC (by decide) (by decide) (aKh l) (lC (by decide) (by decide) (aKg l) (lC (by decide) (by decide) (aKf l) (aKe l))):seg l 12 0 81 (.leaf qf)=true)
end Sk
end
section
open Go.RowKit Go.Lib
namespace Sk
open Bk (Dt eP)
open Ev (AA AV DT LG tb0 aN iD iI aX DZ dS QF iU aOE aJ)
def strD(d:Dt):List ByteArray:=[d.dg,d.mo,d.da]
def strs(d f t:Dt)(L:List kT):List ByteArray:=strD d++(strD f++(strD t++L.flatMap fun a=>strD a.1++strD a.2.2))
abbrev szL(lt:Value)(S:List Nat):List Value:=S.map fun k=>dS lt (aX 7 .i64 [qs k])
abbrev szS(l:List ByteArray):List Value:=l.map fun s=>Value.int .i64 (s.size:Int)
theorem EL(lt:Value): ∀S:List Nat,(lU (.leaf qf) S).live lt
 |[]=>trivial
 |_::t=>⟨fun _=>trivial,fun _=>EL lt t⟩
theorem MS(lt:Value): ∀S:List Nat,∃b:Bool,(lU (.leaf qf) S).den lt=.bool b/\(b=false-> ∀k ∈ S,iU 1 (.int .i64 20) (dS lt (aX 7 .i64 [qs k]))=false)
 |[]=>⟨false,rfl,fun _ k hk=>by cases hk⟩
 | k::t=>by
  obtain⟨b,e,h⟩:=MS lt t
  cases ha:iU 1 (.int .i64 20) (dS lt (aX 7 .i64 [qs k]))with
  |true=>exact⟨true,by show cond (iU 1 (.int .i64 20) (dS lt (aX 7 .i64 [qs k]))) _ _=_;rw[ha];rfl,fun c=>by cases c⟩
  |false=>
   refine⟨b,by show cond (iU 1 (.int .i64 20) (dS lt (aX 7 .i64 [qs k]))) _ _=_;rw[ha];exact e,fun c j hj=>?_⟩;rcases aGv.1 hj with rfl|hj
   . exact ha
   exact h c j hj
theorem OU{lt:Value}{S:List Nat}{l:List ByteArray}(e:szL lt S=szS l)(h: ∀k ∈ S,iU 1 (.int .i64 20) (dS lt (aX 7 .i64 [qs k]))=false): ∀s ∈ l,s.size<=20:=by
 intro s hs;have h1:Value.int .i64 (s.size:Int) ∈ szS l:=aMm.2 ⟨s,hs,rfl⟩;rw[<-e]at h1;obtain⟨k,hk,h2⟩:=aMm.1 h1;have h3:=h k hk;rw[h2]at h3;have h4:decide ((20:Int)<(s.size:Int))=false:=h3;have:=aOC h4;omega
theorem aCU{w:World}{g:Nat}: ∀(L:List kT) (o:Nat),(∀i,i<L.length->w.rangeAt g (o+i * 21) (L.getD i cZ).l)->w.rangeAt g o (L.flatMap kT.l)
 |[],o,_=>fun j v hv=>by simp at hv
 | a ::L,o,h=>fun j v hv=>by
  rw[List.flatMap_cons]at hv
  by_cases c:j<21
  . rw[aFT (by show j<21;exact c)]at hv;have:=h 0 (by simp) j v hv;simpa using this
  rw[aGq (by show 21<=j;omega)]at hv;have:=aCU L (o+21) (fun i hi=>by
   have:=h (i+1) (by simpa using hi);rw[show o+(i+1) * 21=o+21+i * 21 by omega]at this;exact this) (j - 21) v hv
  rw[show o+21+(j - 21)=o+j by omega]at this;exact this
section
variable{w0:World}{d f t:Dt}{bs:Option Addr}{cp:Nat}{kd fk tk:Int}{ey lt:Bool}{L:List kT}
def oK(w0:World)(kd:Int)(d:Dt)(fk:Int)(f:Dt)(tk:Int)(t:Dt)(bs:Option Addr)(cp:Nat)(ey lt:Bool)(L:List kT):Prop:= ∃b:Bool,Same w0 18 #[exV kd d fk f tk t (.slice bs L.length cp) ey lt] (.bool b)/\(b=false->L.length<=12/\ ∀s ∈ strs d f t L,s.size<=20)
theorem kR{n:Nat}{g o:Nat}{l:Value}(h:okB l n (lU (.leaf qf) (bigS n)) []=true)
 (hc:(aOE tb0 [] [] LG 18 (aQl n) (aQk n),(aQl n).map (AA.den l g o cp),(aQk n).map (dS l),(lU (.leaf qf) (bigS n)).den l)=(true,jI kd d fk f tk t (.slice (some ⟨g,o,none⟩) L.length cp) ey lt,L.flatMap kT.l,(lU (.leaf qf) (bigS n)).den l))
 (hs:szL l (bigS n)=szS (strs d f t L)) (hI:bP w0 (some ⟨g,o,none⟩) L) (h0:0<L.length) (hn:L.length<=12):oK w0 kd d fk f tk t (some ⟨g,o,none⟩) cp ey lt L:=by
 obtain⟨b,e,hb⟩:=MS l (bigS n);obtain⟨g',o',e',hg,_⟩:=hI 0 h0
 cases e'
 have hrd:=aCU L o (fun i hi=>by
  obtain⟨g',o',e',_,hr⟩:=hI i hi
  cases e';exact hr)
 have hh: ∃y,w0.heap[g]? =some y:=⟨w0.heap[g],aJn hg⟩;have:=DZ h (aN w0) (iD w0) (EL l _) hg hrd hh hc;rw[e]at this;exact⟨b,this,fun c=>⟨hn,OU hs (hb c)⟩⟩
def aCj:DT:=.node 1 (.v (.int .i64 12)) (aX 8 .i64 [iI 33]) (.leaf qt) (.node 1 (.v (.int .i64 0)) (aX 8 .i64 [iI 33]) .no (lU (.leaf qf) (bigS 0)))
theorem aKR(l:Value):aCj.ok tb0 l [] [] .nil 60 LG 18 [.agg eK] []=true:=by kernel_rfl
abbrev KC(kd:Int)(d:Dt)(fk:Int)(f:Dt)(tk:Int)(t:Dt)(v:Value)(ey lt:Bool)(L:List kT):Value:=.agg (jI kd d fk f tk t v ey lt++L.flatMap kT.l).toArray
theorem aQj(hL:L.length=0\/13<=L.length):oK w0 kd d fk f tk t bs cp ey lt L:=by
 obtain⟨n,hN⟩: ∃n,n=L.length:=⟨_,rfl⟩;have A:=fun hl=>aJ (aKR (KC kd d fk f tk t (.slice bs n cp) ey lt [])) (aN w0) (iD w0) .nil .nil hl (v:=aCj.den (KC kd d fk f tk t (.slice bs n cp) ey lt [])) (args:= #[exV kd d fk f tk t (.slice bs n cp) ey lt]) (by kernel_rfl);unfold oK;rw[<-hN]at hL ⊢;rcases hL with rfl|hn
 . obtain rfl:L=[]:=List.eq_nil_of_length_eq_zero hN.symm;obtain⟨b,e,hb⟩:=MS (KC kd d fk f tk t (.slice bs 0 cp) ey lt []) (bigS 0);refine⟨b,?_,fun c=>⟨by omega,OU (by kernel_rfl) (hb c)⟩⟩;have:=A ⟨fun _=>trivial,fun _=>⟨fun h=>(by cases h),fun _=>EL _ _⟩⟩;rw[<-e];exact this
 refine⟨true,?_,fun c=>by cases c⟩;have:=A ⟨fun _=>trivial,fun h=>(by have h:decide ((12:Int)<(n:Int))=false:=h;rw[aEy (by omega)]at h;cases h)⟩;have e:aCj.den (KC kd d fk f tk t (.slice bs n cp) ey lt [])=.bool true:=by
  show cond (decide ((12:Int)<(n:Int))) _ _=_;rw[aEy (by omega)];rfl
 rw[<-e];exact this
theorem aL1{g o:Nat}{a0:kT}(hI:bP w0 (some ⟨g,o,none⟩) [a0]):oK w0 kd d fk f tk t (some ⟨g,o,none⟩) cp ey lt [a0]:=
 kR (l:=KC kd d fk f tk t (.slice (some ⟨g,o,none⟩) 1 cp) ey lt [a0]) (aLS _) (by kernel_rfl) (by kernel_rfl) hI (aQT _) (by simp)
theorem aL0{g o:Nat}{a0 a1:kT}(hI:bP w0 (some ⟨g,o,none⟩) [a0,a1]):oK w0 kd d fk f tk t (some ⟨g,o,none⟩) cp ey lt [a0,a1]:=
 kR (l:=KC kd d fk f tk t (.slice (some ⟨g,o,none⟩) 2 cp) ey lt [a0,a1]) (aLR _) (by kernel_rfl) (by kernel_rfl) hI (aQT _) (by simp)
theorem aLZ{g o:Nat}{a0 a1 a2:kT}(hI:bP w0 (some ⟨g,o,none⟩) [a0,a1,a2]):oK w0 kd d fk f tk t (some ⟨g,o,none⟩) cp ey lt [a0,a1,a2]:=
 kR (l:=KC kd d fk f tk t (.slice (some ⟨g,o,none⟩) 3 cp) ey lt [a0,a1,a2]) (aLQ _) (by kernel_rfl) (by kernel_rfl) hI (aQT _) (by simp)
theorem aLY{g o:Nat}{a0 a1 a2 a3:kT}(hI:bP w0 (some ⟨g,o,none⟩) [a0,a1,a2,a3]):oK w0 kd d fk f tk t (some ⟨g,o,none⟩) cp ey lt [a0,a1,a2,a3]:=
 kR (l:=KC kd d fk f tk t (.slice (some ⟨g,o,none⟩) 4 cp) ey lt [a0,a1,a2,a3]) (aLP _) (by kernel_rfl) (by kernel_rfl) hI (aQT _) (by simp)
theorem aLX{g o:Nat}{a0 a1 a2 a3 a4:kT}(hI:bP w0 (some ⟨g,o,none⟩) [a0,a1,a2,a3,a4]):oK w0 kd d fk f tk t (some ⟨g,o,none⟩) cp ey lt [a0,a1,a2,a3,a4]:=
 kR (l:=KC kd d fk f tk t (.slice (some ⟨g,o,none⟩) 5 cp) ey lt [a0,a1,a2,a3,a4]) (aLO _) (by kernel_rfl) (by kernel_rfl) hI (aQT _) (by simp)
theorem aLW{g o:Nat}{a0 a1 a2 a3 a4 a5:kT}(hI:bP w0 (some ⟨g,o,none⟩) [a0,a1,a2,a3,a4,a5]):oK w0 kd d fk f tk t (some ⟨g,o,none⟩) cp ey lt [a0,a1,a2,a3,a4,a5]:=
 kR (l:=KC kd d fk f tk t (.slice (some ⟨g,o,none⟩) 6 cp) ey lt [a0,a1,a2,a3,a4,a5]) (aLN _) (by kernel_rfl) (by kernel_rfl) hI (aQT _) (by simp)
theorem aLV{g o:Nat}{a0 a1 a2 a3 a4 a5 a6:kT}(hI:bP w0 (some ⟨g,o,none⟩) [a0,a1,a2,a3,a4,a5,a6]):oK w0 kd d fk f tk t (some ⟨g,o,none⟩) cp ey lt [a0,a1,a2,a3,a4,a5,a6]:=
 kR (l:=KC kd d fk f tk t (.slice (some ⟨g,o,none⟩) 7 cp) ey lt [a0,a1,a2,a3,a4,a5,a6]) (aLM _) (by kernel_rfl) (by kernel_rfl) hI (aQT _) (by simp)
theorem aLU{g o:Nat}{a0 a1 a2 a3 a4 a5 a6 a7:kT}(hI:bP w0 (some ⟨g,o,none⟩) [a0,a1,a2,a3,a4,a5,a6,a7]):oK w0 kd d fk f tk t (some ⟨g,o,none⟩) cp ey lt [a0,a1,a2,a3,a4,a5,a6,a7]:=
 kR (l:=KC kd d fk f tk t (.slice (some ⟨g,o,none⟩) 8 cp) ey lt [a0,a1,a2,a3,a4,a5,a6,a7]) (aLL _) (by kernel_rfl) (by kernel_rfl) hI (aQT _) (by simp)
theorem aLT{g o:Nat}{a0 a1 a2 a3 a4 a5 a6 a7 a8:kT}(hI:bP w0 (some ⟨g,o,none⟩) [a0,a1,a2,a3,a4,a5,a6,a7,a8]):oK w0 kd d fk f tk t (some ⟨g,o,none⟩) cp ey lt [a0,a1,a2,a3,a4,a5,a6,a7,a8]:=
 kR (l:=KC kd d fk f tk t (.slice (some ⟨g,o,none⟩) 9 cp) ey lt [a0,a1,a2,a3,a4,a5,a6,a7,a8]) (aLK _) (by kernel_rfl) (by kernel_rfl) hI (aQT _) (by simp)
theorem aIM{g o:Nat}{a0 a1 a2 a3 a4 a5 a6 a7 a8 a9:kT}(hI:bP w0 (some ⟨g,o,none⟩) [a0,a1,a2,a3,a4,a5,a6,a7,a8,a9]):oK w0 kd d fk f tk t (some ⟨g,o,none⟩) cp ey lt [a0,a1,a2,a3,a4,a5,a6,a7,a8,a9]:=
 kR (l:=KC kd d fk f tk t (.slice (some ⟨g,o,none⟩) 10 cp) ey lt [a0,a1,a2,a3,a4,a5,a6,a7,a8,a9]) (aIJ _) (by kernel_rfl) (by kernel_rfl) hI (aQT _) (by simp)
theorem aIL{g o:Nat}{a0 a1 a2 a3 a4 a5 a6 a7 a8 a9 a10:kT}(hI:bP w0 (some ⟨g,o,none⟩) [a0,a1,a2,a3,a4,a5,a6,a7,a8,a9,a10]):oK w0 kd d fk f tk t (some ⟨g,o,none⟩) cp ey lt [a0,a1,a2,a3,a4,a5,a6,a7,a8,a9,a10]:=
 kR (l:=KC kd d fk f tk t (.slice (some ⟨g,o,none⟩) 11 cp) ey lt [a0,a1,a2,a3,a4,a5,a6,a7,a8,a9,a10]) (aII _) (by kernel_rfl) (by kernel_rfl) hI (aQT _) (by simp)
theorem aIK{g o:Nat}{a0 a1 a2 a3 a4 a5 a6 a7 a8 a9 a10 a11:kT}(hI:bP w0 (some ⟨g,o,none⟩) [a0,a1,a2,a3,a4,a5,a6,a7,a8,a9,a10,a11]):oK w0 kd d fk f tk t (some ⟨g,o,none⟩) cp ey lt [a0,a1,a2,a3,a4,a5,a6,a7,a8,a9,a10,a11]:=
 kR (l:=KC kd d fk f tk t (.slice (some ⟨g,o,none⟩) 12 cp) ey lt [a0,a1,a2,a3,a4,a5,a6,a7,a8,a9,a10,a11]) (aIH _) (by kernel_rfl) (by kernel_rfl) hI (aQT _) (by simp)
theorem aL2(hI:bP w0 bs L):oK w0 kd d fk f tk t bs cp ey lt L:=by
 by_cases c:L.length=0\/13<=L.length
 . exact aQj c
 obtain⟨g,o,e,_⟩:=hI 0 (by omega);subst e
 match L,c with
 |[],c=>exact absurd (.inl rfl) c
 |[a0],c=>exact aL1 hI
 |[a0,a1],c=>exact aL0 hI
 |[a0,a1,a2],c=>exact aLZ hI
 |[a0,a1,a2,a3],c=>exact aLY hI
 |[a0,a1,a2,a3,a4],c=>exact aLX hI
 |[a0,a1,a2,a3,a4,a5],c=>exact aLW hI
 |[a0,a1,a2,a3,a4,a5,a6],c=>exact aLV hI
 |[a0,a1,a2,a3,a4,a5,a6,a7],c=>exact aLU hI
 |[a0,a1,a2,a3,a4,a5,a6,a7,a8],c=>exact aLT hI
 |[a0,a1,a2,a3,a4,a5,a6,a7,a8,a9],c=>exact aIM hI
 |[a0,a1,a2,a3,a4,a5,a6,a7,a8,a9,a10],c=>exact aIL hI
 |[a0,a1,a2,a3,a4,a5,a6,a7,a8,a9,a10,a11],c=>exact aIK hI
 |_::_::_::_::_::_::_::_::_::_::_::_::_::l,c=>exact absurd (.inr (by simp only[aSv];omega)) c
end
end Sk
end
section
open Go.RowKit Go.Lib
namespace Sk
open Ev (rH fA hp AV xM LG NY uF FT wP)
def g0:AV:=.v (.int .u8 0)
def g1:AV:=.v (.int .i64 0)
def g2:AV:=.v (.bool false)
def g3:AV:=.v (.string ⟨#[]⟩)
def g4:AV:=.v (.string ⟨#[50,48,48,52]⟩)
def g5:AV:=.v (.int .u8 1)
def g6:AV:=.v (.string ⟨#[48,54]⟩)
def g23:AV:=.v (.int .u8 2)
def g7:AV:=.agg [g2,g2,(.v (.string ⟨#[50,48,48,53]⟩)),g1,g1,(.v (.string ⟨#[48,50]⟩)),g3,g0,g23,g0]
def g8:AV:=.agg [g5,g2,g2,g4,g1,g1,g6,g3,g5,g5,g0,g0,g2,g2,g3,g1,g1,g3,g3,g0,g0,g0,g0,g2,g2,g3,g1,g1,g3,g3,g0,g0,g0,(.v (.slice none 0 0)),g2,g2]
def g9:AV:=.v (.int .u8 3)
def g10:AV:=.agg [g5,g2,g2,g4,g1,g1,g6,g3,g5,g0,g0,g0,g2,g2,g3,g1,g1,g3,g3,g0,g0,g0,g0,g2,g2,g3,g1,g1,g3,g3,g0,g0,g0,(.v (.slice none 0 0)),g2,g2]
def g11:AV:=.agg [g5,g2,g2,g4,g1,g1,g6,g3,g0,g0,g0,g0,g2,g2,g3,g1,g1,g3,g3,g0,g0,g0,g0,g2,g2,g3,g1,g1,g3,g3,g0,g0,g0,(.v (.slice none 0 0)),g2,g2]
def g12:AV:=.v (.int .i64 2)
def g13:AV:=.agg [g2,g2,g4,g1,g1,g6,g3,g9,g23,g0]
def g14:AV:=.agg [g5,g2,g2,g4,g1,g1,g6,g3,g9,g23,g0,g0,g2,g2,g3,g1,g1,g3,g3,g0,g0,g0,g0,g2,g2,g3,g1,g1,g3,g3,g0,g0,g0,(.v (.slice none 0 0)),g2,g2]
def g15:AV:=.agg [g2,g2,g4,g1,g1,g3,g3,g5,g0,g0]
def g16:AV:=.agg [g5,g2,g2,g4,g1,g1,g6,g3,g9,g9,g0,g0,g2,g2,g3,g1,g1,g3,g3,g0,g0,g0,g0,g2,g2,g3,g1,g1,g3,g3,g0,g0,g0,(.v (.slice none 0 0)),g2,g2]
def g17:AV:=.agg [g2,g2,g4,g1,g1,g6,g3,g5,g0,g0]
def g18:AV:=.agg [g2,g2,g4,g1,g1,g6,g3,g0,g0,g0]
def g19:AV:=.agg [g2,g2,g4,g1,g1,g6,g3,g9,g9,g0]
def g20:AV:=.agg [g2,g2,g4,g1,g1,g6,g3,g5,g5,g0]
def g21:AV:=.agg [g23,g2,g2,g3,g1,g1,g3,g3,g0,g0,g0,g5,g2,g2,g4,g1,g1,g3,g3,g5,g0,g0,g5,g2,g2,(.v (.string ⟨#[50,48,48,53]⟩)),g1,g1,(.v (.string ⟨#[48,50]⟩)),g3,g0,g23,g0,(.v (.slice none 0 0)),g2,g2]
def g22:AV:=.agg [g0,g0,g0]
def g24:AV:=.v (.string ⟨#[50,48,48,52,45,48,54]⟩)
def g25:AV:=.v (.bool true)
def g26:AV:=.v (.int .i64 1)
def g27:AV:=.agg [g5,g0,g0]
def g28:AV:=.agg [g5,g2,g2,(.v (.string ⟨#[50,48,48,53]⟩)),g1,g1,(.v (.string ⟨#[48,50]⟩)),g3,g0,g23,g0]
def g29:AV:=.v (.string ⟨#[63,50,48,48,52,45,48,54]⟩)
def g30:AV:=.v (.string ⟨#[50,48,48,52,63,45,48,54]⟩)
def g31:AV:=.v (.int .i64 2005)
def g32:AV:=.dG [g1,g2]
def g33:AV:=.dG [(.v (.string ⟨#[37,50,48,48,52,45,126,48,54]⟩)),g1]
def g34:AV:=.agg [g2,g2,(.v (.string ⟨#[50,48,48,53]⟩)),g1,g1]
def g35:AV:=.v (.string ⟨#[50,48,48,52,63,45,48,54,126]⟩)
def g36:AV:=.agg [g9,g23,g0]
def g37:AV:=.v (.string ⟨#[50,48,48,53,45,126,48,50]⟩)
def g38:AV:=.agg [g5,g2,g2,g4,g1,g1,g3,g3,g5,g0,g0]
def g39:AV:=.v (.string ⟨#[50,48,48,52,45,48,54,63]⟩)
def g40:AV:=.v (.string ⟨#[50,48,48,52,45,48,54,37]⟩)
def g41:AV:=.agg [g2,g2,g4,g1,g1]
def XL:List xM:=([([(.v (.int .u8 50))],(.dG [g0,g2])),([(.v (.int .u8 63))],(.dG [g5,g25])),([(.v (.int .u8 48))],(.dG [g0,g2])),([g0],(.dG [g0,g2])),([(.v (.int .u8 45))],(.dG [g0,g2])),([(.v (.int .u8 37))],(.dG [g9,g25])),([(.v (.int .u8 126))],(.dG [g23,g25]))].map fun e:List AV × AV=>(201,e))++([([g22,g12],g1),([g27,g12],g1),([(.agg [g0,g5,g0]),g12],g1),([(.agg [g5,g5,g0]),g12],g1),([(.agg [g0,g9,g0]),g12],g1),([(.agg [g9,g9,g0]),g12],g1),([g22,g26],g1),([g27,g26],g1),([(.agg [g0,g23,g0]),g12],g1),([(.agg [g5,g23,g0]),g12],g1),([g36,g12],g1)].map fun e:List AV × AV=>(123,e))++([([g17],g32),([g20],g32),([g18],g32),([g19],g32),([g15],g32),([g7],g32),([g13],g32)].map fun e:List AV × AV=>(120,e))++([([g41],g1),([g34],g1)].map fun e:List AV × AV=>(126,e))++([([g6,(.v (.int .i64 12))],g25),([(.v (.string ⟨#[48,50]⟩)),(.v (.int .i64 12))],g25)].map fun e:List AV × AV=>(122,e))++([([g17],g12),([g20],g12),([g18],g12),([g19],g12),([g15],g26),([g7],g12),([g13],g12)].map fun e:List AV × AV=>(89,e))++([([g17],g2),([g20],g2),([g18],g2),([g19],g2),([g15],g2),([g7],g2),([g13],g2)].map fun e:List AV × AV=>(165,e))++([([g30],(.v (.string ⟨#[100,100,100,100,63,45,100,100]⟩))),([g24],(.v (.string ⟨#[100,100,100,100,45,100,100]⟩))),([g4],(.v (.string ⟨#[100,100,100,100]⟩))),([g37],(.v (.string ⟨#[100,100,100,100,45,126,100,100]⟩))),([g29],(.v (.string ⟨#[63,100,100,100,100,45,100,100]⟩)))].map fun e:List AV × AV=>(167,e))++[(11,[g8,g0],(.dG [g0,(.v (.int .i64 9))]))]++([([(.v (.int .i64 2004))],(.v (.int .i64 486))),([g31],(.v (.int .i64 487))),([(.v (.int .i64 2006))],(.v (.int .i64 487)))].map fun e:List AV × AV=>(280,e))
theorem a0m:XL.all (NY rH .nilIface hp LG 100 ([]))=true:=by kernel_rfl
def aBd:List xM:=([([g22,g27,g12],(.dG [g27,g1])),([g22,(.agg [g0,g5,g0]),g12],(.dG [(.agg [g5,g5,g0]),g1])),([g22,g22,g12],(.dG [g22,g1])),([g22,(.agg [g0,g9,g0]),g12],(.dG [(.agg [g9,g9,g0]),g1])),([g22,g27,g26],(.dG [g27,g1])),([(.agg [g0,g23,g0]),g22,g12],(.dG [(.agg [g0,g23,g0]),g1])),([g22,(.agg [g5,g23,g0]),g12],(.dG [g36,g1])),([g27,g22,g12],(.dG [g27,g1]))].map fun e:List AV × AV=>(208,e))++([([g17],g25),([g20],g25),([g18],g25),([g19],g25),([g15],g25),([g7],g25),([g13],g25)].map fun e:List AV × AV=>(121,e))++([([g30,g17],g12),([g39,g20],g26),([g24,g18],g1),([g40,g19],g26),([(.v (.string ⟨#[50,48,48,52,63]⟩)),g15],g26),([g37,g7],g12),([g35,g13],g12),([g29,g17],g12)].map fun e:List AV × AV=>(119,e))++([([g41],(.dG [(.v (.int .i64 2004)),g1])),([g34],(.dG [g31,g1]))].map fun e:List AV × AV=>(141,e))++([([g15],g5),([g7],g23)].map fun e:List AV × AV=>(144,e))++[(273,[g31],(.dG [g2,g1]))]++([([g22,g12],(.dG [g22,g22,g1])),([g36,g12],(.dG [g36,g22,g1]))].map fun e:List AV × AV=>(90,e))++[(91,[g41],(.dG [g4,g1]))]
theorem a0l:aBd.all (NY rH .nilIface hp LG 100 (XL++[]))=true:=by kernel_rfl
def aEk:List xM:=([([g17],g1),([g20],g1),([g18],g1),([g19],g1),([g15],g1),([g7],g1),([g13],g1)].map fun e:List AV × AV=>(88,e))++([([g31,g26],(.v (.int .i64 31))),([g31,g12],(.v (.int .i64 28)))].map fun e:List AV × AV=>(234,e))
theorem a0k:aEk.all (NY rH .nilIface hp LG 100 (aBd++(XL++[])))=true:=by kernel_rfl
def aHo:List xM:=([([g17],g1),([g20],g1),([g18],g1),([g19],g1),([g15],g1),([g7],g1),([g13],g1)].map fun e:List AV × AV=>(61,e))++([([g18],(.dG [g24,g1])),([g13],g33)].map fun e:List AV × AV=>(57,e))
theorem a0j:aHo.all (NY rH .nilIface hp LG 100 (aEk++(aBd++(XL++[]))))=true:=by kernel_rfl
def aKV:List xM:=([([g30],(.dG [g10,g12,g1,g1])),([g39],(.dG [g8,g26,g1,g1])),([g24],(.dG [g11,g1,g1,g1])),([g40],(.dG [g16,g26,g1,g1])),([g35],(.dG [g14,g12,g1,g1])),([g29],(.dG [g10,g12,g1,g1]))].map fun e:List AV × AV=>(34,e))++([([g10],g1),([g8],g1),([g11],g1),([g16],g1),([g14],g1)].map fun e:List AV × AV=>(19,e))++([([g38],g1),([g28],g1)].map fun e:List AV × AV=>(99,e))++([([g15],(.dG [(.agg [(.v (.int .i8 0)),(.v (.int .i64 731946)),(.v (.int .i8 0)),(.v (.int .i64 732311))]),g1])),([g7],(.dG [(.agg [(.v (.int .i8 0)),(.v (.int .i64 732343)),(.v (.int .i8 0)),(.v (.int .i64 732370))]),g1]))].map fun e:List AV × AV=>(100,e))
theorem a0i:aKV.all (NY rH .nilIface hp LG 100 (aHo++(aEk++(aBd++(XL++[])))))=true:=by kernel_rfl
def aO8:List xM:=([([g10,g5],(.dG [g23,g1])),([g8,g5],(.dG [g9,g1])),([g11,g5],(.dG [g5,g1])),([g16,g23],(.dG [g9,g1])),([g8,g9],(.dG [g23,g1]))].map fun e:List AV × AV=>(11,e))++[(62,[g38,g28],g1)]++([([g11],(.dG [g24,g1])),([g14],g33)].map fun e:List AV × AV=>(16,e))
theorem a0h:aO8.all (NY rH .nilIface hp LG 100 (aKV++(aHo++(aEk++(aBd++(XL++[]))))))=true:=by kernel_rfl
def aS8:List xM:=[(34,[(.v (.string ⟨#[50,48,48,52,63,47,50,48,48,53,45,126,48,50]⟩))],(.dG [g21,g12,g1,g1]))]++[(19,[g21],g1)]
theorem a0g:aS8.all (NY rH .nilIface hp LG 100 (aO8++(aKV++(aHo++(aEk++(aBd++(XL++[])))))))=true:=by kernel_rfl
theorem c35:[(12,[],AV.v (.bool true))].all (NY rH .nilIface hp LG 100 (aS8++(aO8++(aKV++(aHo++(aEk++(aBd++(XL++[]))))))))=true:=by kernel_rfl
theorem aBg{w0:World}(hst:SS w0):Same w0 12 #[] (.bool true):=
 (uF (l:=.nilIface) (fA w0) hst (by rfl) (uF (fA w0) hst (by rfl) (uF (fA w0) hst (by rfl) (uF (fA w0) hst (by rfl) (uF (fA w0) hst (by rfl) (uF (fA w0) hst (by rfl) (uF (fA w0) hst (by rfl) (uF (fA w0) hst (by rfl) (fun e he=>by cases he) a0m) a0l) a0k) a0j) a0i) a0h) a0g) c35 _ (aOz _ (aHS ..))).2
end Sk
end
section
open Go.ChangeShapes Go.WideShapes Go.ChangeAt Go.RowKit Go.Lib
namespace Rf
open Bk (Dt eP)
open Sk (kT cZ bP yS jI exV z0)
section
variable{H:Type}{enc:TypeId × Value->H}{w:World}{base:Nat}{spare:Nat->Bool}{held:Bool}
theorem QL{P:Program}{t:TypeId}{f0 f1 f2 f3 f4:Field}{fuel:Nat}{cs:List Value}{x:DataW H × List MemPlace}(ht:P.underlying t=some (.struct #[f0,f1,f2,f3,f4]))(h:DataW.trod enc P w base spare held fuel t cs=some x):
 ∃y0 y1 y2 y3 y4 n,x=(.agg [y0.1,y1.1,y2.1,y3.1,y4.1],y0.2++(y1.2++(y2.2++(y3.2++y4.2))))/\cs.length=P.cellsOf t/\DataW.trod enc P w base spare held n f0.type ((cs.drop f0.offset).take (P.cellsOf f0.type))=some y0/\
  DataW.trod enc P w base spare held n f1.type ((cs.drop f1.offset).take (P.cellsOf f1.type))=some y1/\DataW.trod enc P w base spare held n f2.type ((cs.drop f2.offset).take (P.cellsOf f2.type))=some y2/\
  DataW.trod enc P w base spare held n f3.type ((cs.drop f3.offset).take (P.cellsOf f3.type))=some y3/\DataW.trod enc P w base spare held n f4.type ((cs.drop f4.offset).take (P.cellsOf f4.type))=some y4:=by
 obtain⟨xs,n,_,rfl,hl,hlen,hf⟩:=a0t ht h
 match xs,hlen with
 |[y0,y1,y2,y3,y4],_=>exact⟨y0,y1,y2,y3,y4,n,by simp,hl,by simpa using hf 0 f0 rfl,by simpa using hf 1 f1 rfl,by simpa using hf 2 f2 rfl,by simpa using hf 3 f3 rfl,by simpa using hf 4 f4 rfl⟩
theorem QK{P:Program}{t:TypeId}{f0 f1 f2 f3 f4 f5 f6:Field}{fuel:Nat}{cs:List Value}{x:DataW H × List MemPlace}(ht:P.underlying t=some (.struct #[f0,f1,f2,f3,f4,f5,f6]))(h:DataW.trod enc P w base spare held fuel t cs=some x):
 ∃(y0 y1 y2 y3 y4 y5 y6:DataW H × List MemPlace) (n:Nat),DataW.trod enc P w base spare held n f0.type ((cs.drop f0.offset).take (P.cellsOf f0.type))=some y0/\
  DataW.trod enc P w base spare held n f1.type ((cs.drop f1.offset).take (P.cellsOf f1.type))=some y1/\DataW.trod enc P w base spare held n f2.type ((cs.drop f2.offset).take (P.cellsOf f2.type))=some y2/\
  DataW.trod enc P w base spare held n f3.type ((cs.drop f3.offset).take (P.cellsOf f3.type))=some y3/\DataW.trod enc P w base spare held n f4.type ((cs.drop f4.offset).take (P.cellsOf f4.type))=some y4/\
  DataW.trod enc P w base spare held n f5.type ((cs.drop f5.offset).take (P.cellsOf f5.type))=some y5/\DataW.trod enc P w base spare held n f6.type ((cs.drop f6.offset).take (P.cellsOf f6.type))=some y6:=by
 obtain⟨xs,n,_,rfl,hl,hlen,hf⟩:=a0t ht h
 match xs,hlen with
 |[y0,y1,y2,y3,y4,y5,y6],_=>exact⟨y0,y1,y2,y3,y4,y5,y6,n,by simpa using hf 0 f0 rfl,by simpa using hf 1 f1 rfl,by simpa using hf 2 f2 rfl,by simpa using hf 3 f3 rfl,by simpa using hf 4 f4 rfl,by simpa using hf 5 f5 rfl,by simpa using hf 6 f6 rfl⟩
theorem trod_struct3{P:Program}{t:TypeId}{f0 f1 f2:Field}{fuel:Nat}{cs:List Value}{x:DataW H × List MemPlace}(ht:P.underlying t=some (.struct #[f0,f1,f2]))(h:DataW.trod enc P w base spare held fuel t cs=some x):
 ∃(y0 y1 y2:DataW H × List MemPlace) (n:Nat),DataW.trod enc P w base spare held n f0.type ((cs.drop f0.offset).take (P.cellsOf f0.type))=some y0/\
  DataW.trod enc P w base spare held n f1.type ((cs.drop f1.offset).take (P.cellsOf f1.type))=some y1/\DataW.trod enc P w base spare held n f2.type ((cs.drop f2.offset).take (P.cellsOf f2.type))=some y2:=by
 obtain⟨xs,n,_,rfl,hl,hlen,hf⟩:=a0t ht h
 match xs,hlen with
 |[y0,y1,y2],_=>exact⟨y0,y1,y2,n,by simpa using hf 0 f0 rfl,by simpa using hf 1 f1 rfl,by simpa using hf 2 f2 rfl⟩
theorem aBX:Tryz.prog.cellsOf 35=36:=by kernel_rfl
theorem Y4:Tryz.prog.cellsOf 32=11:=by kernel_rfl
theorem aBW:Tryz.prog.cellsOf 79=21:=by kernel_rfl
theorem Y3:Tryz.prog.cellsOf 33=1:=by kernel_rfl
theorem zT:Tryz.prog.cellsOf 30=10:=by kernel_rfl
theorem aBV:Tryz.prog.cellsOf 27=5:=by kernel_rfl
theorem Y2:Tryz.prog.cellsOf 28=3:=by kernel_rfl
theorem zU:Tryz.prog.cellsOf 4=1:=by kernel_rfl
theorem PU:Tryz.prog.cellsOf 9=1:=by kernel_rfl
theorem aEW:Tryz.prog.cellsOf 3=1:=by kernel_rfl
theorem MJ:Tryz.prog.cellsOf 5=1:=by kernel_rfl
theorem b64{x:Int}(h:(Lit.int .i64 x).wf=true): -9223372036854775808<=x/\x<9223372036854775808:=by
 simp[Lit.wf,IntKind.min,IntKind.max,IntKind.signed,IntKind.bits]at h;omega
theorem b8{x:Int}(h:(Lit.int .u8 x).wf=true):0<=x/\x<256:=by
 simp[Lit.wf,IntKind.min,IntKind.max,IntKind.signed,IntKind.bits]at h;omega
def Nb(d:Dt):Prop:= -9223372036854775808<=d.sig/\d.sig<9223372036854775808/\0<=d.m0/\0<=d.m1/\0<=d.m2
theorem aDr{fuel:Nat}{c0 c1 c2 c3 c4 c5 c6 c7 c8 c9:Value}{x:DataW H × List MemPlace}(hf:DataW.trod enc Tryz.prog w base spare held fuel 30 [c0,c1,c2,c3,c4,c5,c6,c7,c8,c9]=some x):
 ∃d:Dt,.agg #[c0,c1,c2,c3,c4,c5,c6,c7,c8,c9]=eP d/\ -9223372036854775808<=d.sig/\d.sig<9223372036854775808/\0<=d.m0/\0<=d.m1/\0<=d.m2:=by
 obtain⟨y0,y1,y2,y3,n,hx,_,h0,h1,h2,h3⟩:=Go.Joins.trod_struct4 Tryz.underlying30 hf;rw[aBV]at h0;rw[PU]at h1 h2;rw[Y2]at h3;obtain⟨s5,e5,_,w5⟩:=a0F Tryz.underlying9 h1;obtain⟨s6,e6,_,w6⟩:=a0F Tryz.underlying9 h2;obtain⟨z0,z1,z2,z3,z4,n2,_,_,g0,g1,g2,g3,g4⟩:=QL Tryz.underlying27 h0;rw[zU]at g0 g1;rw[PU]at g2;rw[aEW]at g3 g4;obtain⟨n0,e0,_⟩:=aWe Tryz.underlying4 g0;obtain⟨n1,e1,_⟩:=aWe Tryz.underlying4 g1;obtain⟨s2,e2,_,w2⟩:=a0F Tryz.underlying9 g2;obtain⟨i3,e3,_,w3⟩:=aVP Tryz.underlying3 g3;obtain⟨i4,e4,_,w4⟩:=aVP Tryz.underlying3 g4;obtain⟨u0,u1,u2,n3,_,k0,k1,k2⟩:=trod_array3 (c0:=c7) (c1:=c8) (c2:=c9) Tryz.underlying28 MJ h3;obtain⟨i7,e7,_,w7⟩:=aVP Tryz.underlying5 k0;obtain⟨i8,e8,_,w8⟩:=aVP Tryz.underlying5 k1;obtain⟨i9,e9,_,w9⟩:=aVP Tryz.underlying5 k2;have f0:c0=.bool n0:=by simpa using e0
 have f1:c1=.bool n1:=by simpa using e1
 have f2:c2=.string s2:=by simpa using e2
 have f3:c3=.int .i64 i3:=by simpa using e3
 have f4:c4=.int .i64 i4:=by simpa using e4
 have f5:c5=.string s5:=by simpa using e5
 have f6:c6=.string s6:=by simpa using e6
 have f7:c7=.int .u8 i7:=by simpa using e7
 have f8:c8=.int .u8 i8:=by simpa using e8
 have f9:c9=.int .u8 i9:=by simpa using e9
 subst f0 f1 f2 f3 f4 f5 f6 f7 f8 f9;exact⟨⟨n0,n1,s2,i3,i4,s5,s6,i7,i8,i9⟩,rfl,(b64 w4).1,(b64 w4).2,(b8 w7).1,(b8 w8).1,(b8 w9).1⟩
theorem cell_lt{w:World}{a:Addr}{v:Value}(h:w.cell? a=some v):a.block<w.heap.size:=by
 unfold World.cell? at h
 by_cases hl:a.block<w.heap.size
 . exact hl
 exfalso;have:w.heap[a.block]? =none:=aLF (by omega);simp[this]at h
theorem sQ{fuel:Nat}{c0 c1 c2 c3 c4 c5 c6 c7 c8 c9:Value}{x:DataW H × List MemPlace}(hf:DataW.trod enc Tryz.prog w base spare held fuel 30 [c0,c1,c2,c3,c4,c5,c6,c7,c8,c9]=some x):
 ∃d:Dt,[c0,c1,c2,c3,c4,c5,c6,c7,c8,c9]=dtL d/\Nb d:=by
 obtain⟨d,e,hb⟩:=aDr hf;refine⟨d,?_,hb⟩;unfold eP at e;simp only[Value.agg.injEq,Array.mk.injEq]at e;exact e
theorem IU{fuel:Nat}{k c0 c1 c2 c3 c4 c5 c6 c7 c8 c9:Value}{x:DataW H × List MemPlace}(h:DataW.trod enc Tryz.prog w base spare held fuel 32 [k,c0,c1,c2,c3,c4,c5,c6,c7,c8,c9]=some x):
 ∃(q:Int) (d:Dt),k=.int .u8 q/\[c0,c1,c2,c3,c4,c5,c6,c7,c8,c9]=dtL d/\Nb d:=by
 obtain⟨y0,y1,n,_,_,h0,h1⟩:=trod_struct2 Tryz.underlying32 h;rw[MJ]at h0;rw[zT]at h1;obtain⟨q,e0,_,_⟩:=aVP Tryz.underlying5 h0;obtain⟨d,e1,hb⟩:=sQ (c0:=c0) (c1:=c1) (c2:=c2) (c3:=c3) (c4:=c4) (c5:=c5) (c6:=c6) (c7:=c7) (c8:=c8) (c9:=c9) h1;exact⟨q,d,by simpa using e0,e1,hb⟩
theorem aDq{fuel:Nat}{c0 c1 c2 c3 c4 c5 c6 c7 c8 c9 c10 c11 c12 c13 c14 c15 c16 c17 c18 c19 c20:Value}{x:DataW H × List MemPlace}(h:DataW.trod enc Tryz.prog w base spare held fuel 79 [c0,c1,c2,c3,c4,c5,c6,c7,c8,c9,c10,c11,c12,c13,c14,c15,c16,c17,c18,c19,c20]=some x):
 ∃a:kT,[c0,c1,c2,c3,c4,c5,c6,c7,c8,c9,c10,c11,c12,c13,c14,c15,c16,c17,c18,c19,c20]=a.l/\Nb a.1/\Nb a.2.2:=by
 obtain⟨y0,y1,y2,n,h0,h1,h2⟩:=trod_struct3 Tryz.underlying79 h;rw[zT]at h0 h2;rw[zU]at h1;obtain⟨d,e0,b0⟩:=sQ (c0:=c0) (c1:=c1) (c2:=c2) (c3:=c3) (c4:=c4) (c5:=c5) (c6:=c6) (c7:=c7) (c8:=c8) (c9:=c9) h0;obtain⟨r,e1,_⟩:=aWe Tryz.underlying4 h1;obtain⟨f,e2,b2⟩:=sQ (c0:=c11) (c1:=c12) (c2:=c13) (c3:=c14) (c4:=c15) (c5:=c16) (c6:=c17) (c7:=c18) (c8:=c19) (c9:=c20) h2;simp only[dtL,a0Z,a0I]at e0 e2;obtain⟨rfl,rfl,rfl,rfl,rfl,rfl,rfl,rfl,rfl,rfl⟩:=e0;obtain⟨rfl,rfl,rfl,rfl,rfl,rfl,rfl,rfl,rfl,rfl⟩:=e2;have f1:c10=.bool r:=by simpa using e1
 subst f1;exact⟨(d,r,f),rfl,b0,b2⟩
theorem aAd{fuel:Nat}{c:Value}{x:DataW H × List MemPlace}(h:DataW.trod enc Tryz.prog w base spare held fuel 33 [c]=some x):
 ∃(bs:Option Addr) (L:List kT) (cp:Nat),c=.slice bs L.length cp/\bP w bs L/\(bs=none->L.length=0)/\ ∀a ∈ L,Nb a.1/\Nb a.2.2:=by
 rcases Go.Deep.open_slice Tryz.underlying33 h with⟨h0,_⟩|⟨a,len,cap,m,n,D,Pl,h0,hb,hl,hm,hmm,_,hx⟩
 . simp at h0;exact⟨none,[],0,h0,fun i hi=>absurd hi (a0X _),fun _=>rfl,fun a ha=>by cases ha⟩
 simp at h0;rw[aBW]at hx;have key: ∀i,i<len-> ∃r:kT,(∃g o,some a=some ⟨g,o,none⟩/\g<w.heap.size/\w.rangeAt g (o+i * 21) r.l)/\Nb r.1/\Nb r.2.2:=by
  intro i hi;obtain⟨cs,h1,h2⟩:=hx i (by rw[hmm];split<;>omega);obtain⟨_,hlen,hc⟩:=aWi h1
  match cs,hlen with
  | [c0,c1,c2,c3,c4,c5,c6,c7,c8,c9,c10,c11,c12,c13,c14,c15,c16,c17,c18,c19,c20],_=>
   obtain⟨r,e,hbd⟩:=aDq h2;rw[e]at hc;obtain⟨cs2,q1,q2⟩:=hx 0 (by rw[hmm];split<;>omega);obtain⟨_,qlen,qc⟩:=aWi q1;have q0:=qc 0 (by omega);obtain⟨g,o,spot⟩:=a;have hs:spot=none:=by
    match cs2,qlen with
    |d0::_,_=>simpa[Addr.add]using World.cell?_spot q0
   subst hs;have at_: ∀j v,r.l[j]? =some v->w.cell? ⟨g,o+i * 21+j,none⟩=some v:=fun j v hv=>by
    have:=hc j (by have:=(aEX.1 hv).1;exact this);rw[Go.Deep.add_add,aV9,<-aMC]at this;rw[this];exact hv
   exact⟨r,⟨g,o,rfl,cell_lt (at_ 0 _ rfl),at_⟩,hbd⟩
 classical
 obtain⟨f,hf⟩: ∃f:Nat->kT,∀i,i<len->(∃g o,some a=some ⟨g,o,none⟩/\g<w.heap.size/\w.rangeAt g (o+i * 21) (f i).l)/\Nb (f i).1/\Nb (f i).2.2:=
  ⟨fun i=>if hi:i<len then Classical.choose (key i hi)else cZ,fun i hi=>by
   have:=Classical.choose_spec (key i hi);simp only[dif_pos hi];exact this⟩
 refine⟨some a,(List.range len).map f,cap,by simpa using h0,fun i hi=>?_,fun e=>(by cases e),fun r hr=>?_⟩
 . have hi:i<len:=by simpa using hi
   have e:((List.range len).map f).getD i cZ=f i:=by simp[List.getD,aFx,aQB hi]
   rw[e];exact(hf i hi).1
 obtain⟨i,hi,rfl⟩:=aMm.1 hr;exact(hf i (aUc.1 hi)).2
theorem aDW{r:Reach}{b0:Nat}{v:Value}{x:DataW H}{ps:List MemPlace}(hv:Value.okWide Tryz.prog w r b0 35 v)(hd:DataW.Trod enc Tryz.prog w base spare held 35 v x ps):
 ∃y:Xp,v=y.v/\bP w y.bs y.L/\(y.bs=none->y.L.length=0)/\0<=y.kd/\Nb y.d/\Nb y.f/\Nb y.t/\ ∀a ∈ y.L,Nb a.1/\Nb a.2.2:=by
 obtain⟨cs,rfl,hsz⟩:=okWide_struct Tryz.underlying35 hv;obtain⟨fuel,hf⟩:=hd;rw[aBX]at hsz;obtain⟨l⟩:=cs;have hsz:l.length=36:=hsz;obtain⟨l1,l2,rfl,hl1,hl2⟩: ∃l1 l2,l=l1++l2/\l1.length=18/\l2.length=18:=⟨l.take 18,l.drop 18,(aWv 18 l).symm,by simp;omega,by simp;omega⟩
 match l1,hl1,l2,hl2 with
 |[c0,c1,c2,c3,c4,c5,c6,c7,c8,c9,c10,c11,c12,c13,c14,c15,c16,c17],_,[c18,c19,c20,c21,c22,c23,c24,c25,c26,c27,c28,c29,c30,c31,c32,c33,c34,c35],_=>
  simp only[List.cons_append,aWb]at hf hsz ⊢;obtain⟨y0,y1,y2,y3,y4,y5,y6,m,h0,h1,h2,h3,h4,h5,h6⟩:=QK Tryz.underlying35 hf;rw[MJ]at h0;rw[zT]at h1;rw[Y4]at h2 h3;rw[Y3]at h4;rw[zU]at h5 h6;obtain⟨kd,e0,_,w0⟩:=aVP Tryz.underlying5 h0;obtain⟨d,e1,bd⟩:=sQ (c0:=c1) (c1:=c2) (c2:=c3) (c3:=c4) (c4:=c5) (c5:=c6) (c6:=c7) (c7:=c8) (c8:=c9) (c9:=c10) h1;obtain⟨fk,f,e2,e2',bf⟩:=IU (k:=c11) (c0:=c12) (c1:=c13) (c2:=c14) (c3:=c15) (c4:=c16) (c5:=c17) (c6:=c18) (c7:=c19) (c8:=c20) (c9:=c21) h2;obtain⟨tk,t,e3,e3',bt⟩:=IU (k:=c22) (c0:=c23) (c1:=c24) (c2:=c25) (c3:=c26) (c4:=c27) (c5:=c28) (c6:=c29) (c7:=c30) (c8:=c31) (c9:=c32) h3;obtain⟨bs,L,cp,e4,hI,hn,hb⟩:=aAd (c:=c33) h4;obtain⟨ey,e5,_⟩:=aWe Tryz.underlying4 h5;obtain⟨lt,e6,_⟩:=aWe Tryz.underlying4 h6;have f0:c0=.int .u8 kd:=by simpa[Value.cells]using e0
  have f5:c34=.bool ey:=by simpa[Value.cells]using e5
  have f6:c35=.bool lt:=by simpa[Value.cells]using e6
  simp only[dtL,a0Z,a0I]at e1 e2' e3';obtain⟨rfl,rfl,rfl,rfl,rfl,rfl,rfl,rfl,rfl,rfl⟩:=e1;obtain⟨rfl,rfl,rfl,rfl,rfl,rfl,rfl,rfl,rfl,rfl⟩:=e2';obtain⟨rfl,rfl,rfl,rfl,rfl,rfl,rfl,rfl,rfl,rfl⟩:=e3';subst f0 f5 f6 e2 e3 e4;exact⟨⟨kd,d,fk,f,tk,t,bs,cp,L,ey,lt⟩,rfl,hI,hn,(b8 w0).1,bd,bf,bt,hb⟩
end
end Rf
end
section
open Go.RowKit
namespace Rf
open Sk (kT cZ bP z0 Rt SS Same Sm strD zS exV)
open Bk (Dt)
theorem VB{d:Dt}(h: ∀s ∈ strD d,s.size<=20)(b:Nb d):Sm d:=
 ⟨by have:=h d.mo (by simp[strD]);omega,by have:=h d.dg (by simp[strD]);omega,by have:=h d.da (by simp[strD]);omega,b.1,b.2.1,b.2.2.1,b.2.2.2.1,b.2.2.2.2⟩
theorem mk_le{d:Dt}(h:d.err=0)(i:Nat):mkv d i<=3:=by
 have hf:d.form=0:=by
  unfold Dt.err at h
  split at h
  . rename_i c;exact h
  rename_i c;simpa using c
 have hm:=(Bk.Dt.mP hf).2.2.2;unfold Bk.kS at hm
 split at hm
 . rename_i c
   unfold mkv;split
   . exact c.1
   . exact c.2.1
   exact c.2.2.1
 omega
theorem aLc{w0:World}(hst:SS w0){x:Xp}(hI:bP w0 x.bs x.L)(h0:x.bs=none->x.L.length=0)(hkd:0<=x.kd)(hd:Nb x.d)(hf:Nb x.f)(ht:Nb x.t)(hL: ∀a ∈ x.L,Nb a.1/\Nb a.2.2)(m:Int):
 Same w0 5 #[x.v,.int .u8 m] (.bool true):=by
 have hlv:=Sk.aBg hst;obtain⟨b,hb,hsh⟩:=Sk.aL2 (kd:=x.kd) (d:=x.d) (fk:=x.fk) (f:=x.f) (tk:=x.tk) (t:=x.t) (cp:=x.cp) (ey:=x.ey) (lt:=x.lt) hI
 cases b with
 |true=>exact Sk.aSK x.d x.f x.t x.bs x.L.length x.cp x.kd x.fk x.tk x.ey x.lt m w0 hb hlv
 | false=>
  obtain⟨hn,hs⟩:=hsh rfl;have sd:=VB (fun s h=>hs s (aOz _ h)) hd;have sf:=VB (fun s h=>hs s (aPp _ (aOz _ h))) hf;have st:=VB (fun s h=>hs s (aPp _ (aPp _ (aOz _ h)))) ht;have sL: ∀i,i<x.L.length->Sm (x.L.getD i cZ).1/\Sm (x.L.getD i cZ).2.2:=by
   intro i hi;have e:x.L.getD i cZ=x.L[i]:=by simp[List.getD,hi]
   have hm:x.L.getD i cZ ∈ x.L:=by rw[e];exact aVJ hi
   have hb:=hL _ hm;have hh:=fun s (h:s ∈ strD (x.L.getD i cZ).1++strD (x.L.getD i cZ).2.2)=>hs s (aPp _ (aPp _ (aPp _ (List.mem_flatMap.2 ⟨_,hm,h⟩))));exact⟨VB (fun s h=>hh s (aOz _ h)) hb.1,VB (fun s h=>hh s (aPp _ h)) hb.2⟩
  obtain⟨r,hr0,A,B,hR⟩:=Sk.aBU (cp:=x.cp) (ey:=x.ey) (lt:=x.lt) hst hkd sd sf st sL (by omega) hI
  by_cases c:r=0
  . subst c;have hR:=hR rfl;refine aPn A hI (by omega) h0 (fun q hq=>?_) hb hlv B m;have hp:=x.aGA hq;refine mk_le (Xp.right hR _ ?_) _;show x.Z5.getD _ z0 ∈ x.Z5;rw[List.getD,aEH hp.1];exact aVJ hp.1
  have he:1<=r:=by omega
  have bf:(r==0)=false:=by simpa using c
  have cf: ∀ {α:Type} (a b:α),cond (r==0) a b=b:=fun a b=>by rw[bf];rfl
  have HW:=zS (Sk.aKy x.d x.f x.t x.bs x.L.length x.cp x.kd x.fk x.tk x.ey x.lt r w0 he A) (cf _ _);have HS:=zS (Sk.aKz x.d x.f x.t x.bs x.L.length x.cp x.kd x.fk x.tk x.ey x.lt r w0 he A) (cf _ _);have HP:=zS (Sk.aKA x.d x.f x.t x.bs x.L.length x.cp x.kd x.fk x.tk x.ey x.lt r w0 he HW) (cf _ _);have HL:=zS (Sk.aSI x.d x.f x.t x.bs x.L.length x.cp x.kd x.fk x.tk x.ey x.lt r w0 he HW) (cf _ _);have HM:=Sk.aGu x.d x.f x.t x.bs x.L.length x.cp x.kd x.fk x.tk x.ey x.lt m r w0 he HW;have HV:=Sk.aOf x.d x.f x.t x.bs x.L.length x.cp x.kd x.fk x.tk x.ey x.lt m r w0 he A;have fin:=fun a b H4 H5=>Sk.aSJ x.d x.f x.t x.bs x.L.length x.cp x.kd x.fk x.tk x.ey x.lt m r a b w0 he hb hlv A B H4 H5 HW HS HP HL
  by_cases c1:m<1
  . exact zS (fin 9 9 (zS HM (by rw[aEy c1];rfl)) (zS HV (by rw[aEy c1];rfl))) (by rw[aWz,aEy c1,bf];rfl)
  by_cases c2:3<m
  . exact zS (fin 9 9 (zS HM (by rw[aEm c1,aEy c2];rfl)) (zS HV (by rw[aEm c1,aEy c2];rfl))) (by rw[aWz,aEm c1,aEy c2,bf];rfl)
  exact zS (fin r r (zS HM (by rw[aEm c1,aEm c2,bf];rfl)) (zS HV (by rw[aEm c1,aEm c2,bf];rfl))) (by rw[aWz,aEm c1,aEm c2,bf];rfl)
end Rf
end
section
open Go.ChangeShapes Go.WideShapes Go.ChangeAt Go.RowKit
namespace Un
theorem own:ownKnob Tryz.prog.godebug=none:=by kernel_rfl
noncomputable def laidWorld(os:Os):World:=
 { World.doorLaid Tryz.prog 4000 os with heap:=(World.doorLaid Tryz.prog 4000 os).heap.modify 7 fun
  | .cells _ t frozen=>.cells ((Go.Pinned.utf8FirstZ.map fun(n:Nat)=>Value.int .u8 n).toArray) t frozen
  |o=>o }
theorem laid_met(os:Os)(args:Array Value):laidMetH Tryz.prog Rows.qualitiesErrorsRow.laid ((laidWorld os).forCall (fun _ _=>0) ⟨#[],args,[]⟩).memory:=
 laidMetH_of_parts3 (fuel:=8) (laidMet_of_run' 8 (by kernel_rfl) (by kernel_rfl)) (by kernel_rfl) (by kernel_rfl)
end Un
end
section
open Go.ChangeShapes Go.WideShapes Go.ChangeAt Go.RowKit
theorem aYd:Tryz.prog.funcs.toList.all (fun f=> !f.goes)=true:=by kernel_rfl
theorem aLn{P:Program}(h:P.funcs.toList.all (fun f=> !f.goes)=true)(f:FuncId):P.goes f=false:=by
 have hall: ∀fn ∈ P.funcs,Func.goes fn=false:=fun fn hf=>by
  have:=aJr.1 h fn (Array.mem_toList_iff.2 hf);simpa using this
 have h1: ∀g:FuncId,(P.funcs[g]?).any Func.goes=false:=fun g=>by
  cases hg:P.funcs[g]? with
  |none=>rfl
  |some fn=>exact hall fn (aWy hg)
 have h2:P.funcs.any Func.goes=false:=by
  rw[Array.any_eq_false'];intro x hx hc;rw[hall x hx]at hc;cases hc
 unfold Program.goes;rw[h2,aVQ,a1m];rw[List.any_eq_false];intro g _;rw[h1 g];exact Bool.false_ne_true
theorem aEC{P:Program}(h:P.funcs.toList.all (fun f=> !f.goes)=true)(c:OpenClaim)(hs:c.start=.entering):c.goesBy P=false:=by
 unfold OpenClaim.goesBy Program.goesAt;rw[hs];simp only[a1m];unfold Program.goesFrom
 cases P.funcNamed c.func with
 |none=>rfl
 |some f=>exact aLn h f
namespace Facts
theorem wf:(Rows.qualitiesErrorsRow.wf (OpenSpec.ofChange (OpenSpec.ofChange Rows.qualitiesErrorsSpec).bare))=true:=by kernel_rfl
theorem laidOut:(laidOutB Tryz.pinned.checked.prog)=true:=by kernel_rfl
theorem mapsRowed:(mapsRowed Tryz.pinned.checked.prog)=true:=by kernel_rfl
theorem inPlace:(Rows.qualitiesErrorsRow.inPlace==Tryz.pinned.checked.prog.inPlace 5)=true:=by kernel_rfl
theorem unfollowed:(Rows.qualitiesErrorsRow.unfollowed==Tryz.pinned.checked.prog.unfollowed 5)=true:=by kernel_rfl
theorem recurses:(Rows.qualitiesErrorsRow.recurses==Tryz.pinned.checked.prog.recurses 5)=true:=by kernel_rfl
theorem named:(Rows.qualitiesErrorsRow.named==Tryz.pinned.checked.prog.varsNamed 5)=true:=by kernel_rfl
theorem plainKeys:(Rows.qualitiesErrorsRow.plainKeys==Tryz.pinned.checked.prog.plainKeys)=true:=by kernel_rfl
theorem stopsHeard:(Tryz.pinned.checked.prog.stopsHeard)=true:=by kernel_rfl
theorem mayEnter:(Tryz.pinned.checked.prog.mayEnter)=true:=by kernel_rfl
theorem lifts:(Rows.qualitiesErrorsRow.lifted==Tryz.pinned.checked.prog.liftsFinal)=true:=by kernel_rfl
theorem make:(Tryz.pinned.checked.prog.make==some Rows.qualitiesErrorsRow.make)=true:=by kernel_rfl
theorem bt{a b:Bool}(h:a=true)(h2:b=true):(a&&b)=true:=by rw[h,h2];rfl
theorem joined:joinedFacts Tryz.pinned.checked.prog 5 Tryz.f5 (OpenSpec.ofChange Rows.qualitiesErrorsSpec).bare Rows.qualitiesErrorsRow=true:=by
 unfold joinedFacts;exact(bt (bt (bt (bt (bt (bt (bt (bt (bt (bt (bt (bt (bt (bt (bt (bt (bt (bt (bt (bt (bt (bt (bt (bt (bt (bt (bt (bt (bt (bt (bt wf laidOut) mapsRowed) (by kernel_rfl)) (by kernel_rfl)) (by kernel_rfl)) (by kernel_rfl)) (by kernel_rfl)) (by kernel_rfl)) inPlace) unfollowed) recurses) named) (by kernel_rfl)) (by kernel_rfl)) (by kernel_rfl)) (by kernel_rfl)) (by kernel_rfl)) (by kernel_rfl)) (by kernel_rfl)) (by kernel_rfl)) (by kernel_rfl)) plainKeys) (by kernel_rfl)) stopsHeard) mayEnter) lifts) make) (by kernel_rfl)) (by kernel_rfl)) (by kernel_rfl)) (by kernel_rfl))
theorem goes:false=Rows.qualitiesErrorsRow.goesBy Tryz.pinned.checked.prog:=(aEC aYd _ rfl).symm
end Facts
end

section
open Go.ChangeShapes Go.WideShapes Go.ChangeAt Go.RowKit
theorem VO{H:Type}{enc:TypeId × Value->H}{C:Checked}{os:Os}{f:FuncId}{fn:Func}{s:OpenSpec}{conds:List PathCond}{apart:Bool}{laid:List (String × DataW Unit)}(w0:World)(args:Array Value)(hos:w0.os=os)
 (hv:(w0.forCall (fun _ _=>0) ⟨#[],args,[]⟩).variablesRefB C.prog=true)
 (hr:((w0.forCall (fun _ _=>0) ⟨#[],args,[]⟩).heap.toList.drop C.prog.globals.size).take ((begin C.prog (fun _ _=>0) default).world.heap.size - C.prog.globals.size)=(begin C.prog (fun _ _=>0) default).world.heap.toList.drop C.prog.globals.size)
 (hok:Input.okWideB C.prog (w0.forCall (fun _ _=>0) ⟨#[],args,[]⟩) f ⟨#[],args,[]⟩=true)
 (hrow:s.preRow enc C.prog fn conds apart laid (w0.forCall (fun _ _=>0) ⟨#[],args,[]⟩).memory args):
 ∃(w:World) (tape:Tape) (i:Input),w.os=os/\(w.forCall tape i).Shaped C.prog/\i.vars=[]/\Input.okWide C.prog (w.forCall tape i) .any w.heap.size f i/\
  s.preRow enc C.prog fn conds apart laid (w.forCall tape i).memory i.args/\({ modest:=false }:Assume).holds C.prog (lone (Frame.enter C.prog f i.args .normal) [] (w.forCall tape i)):=by
 obtain⟨w,tape,i,h1,h2,h3,h4,h5,h6,_⟩:=OpenSpec.witness_stopped_atRef (enc:=enc) (C:=C) (fn:=fn) (s:=s) (conds:=conds) (apart:=apart) (laid:=laid) false w0 args hos hv hr hok hrow (fun _ _ _=>0);exact⟨w,tape,i,h1,h2,h3,h4,h5,h6⟩
end
section
open Go.ChangeShapes Go.WideShapes Go.ChangeAt Go.RowKit
theorem NQ{H:Type}{W W':World}(hg:Below W.heap.size W W'){p:MemPlace}(h:p.block<W.heap.size):W.sameAt W' p:=by
 cases p with
 |cell b off=>exact hg.cell (p:=⟨b,off,none⟩) h
 |map b=>exact hg.block b h
theorem aLr:laidOutB Tryz.prog=true:=by kernel_rfl
theorem PK:Tryz.prog.readableRec 35=true:=by kernel_rfl
theorem aIh:35<Tryz.prog.types.size:=aHY (by kernel_rfl)
theorem qY(H:Type)(enc:TypeId × Value->H)(W:World)(base:Nat)(args:Array Value)(ds gs:List (DataW H))(before:List MemPlace)
 (hval: ∀(j:Nat) t v,Tryz.f5.params[j]? =some t->args[j]? =some v->Value.okWide Tryz.prog W .any base t v)
 (hW:DataW.Whole enc Tryz.prog Tryz.f5.params.toList Rows.qualitiesErrorsSpec.vars false W args.toList ds gs before) (hL:laidMetH Tryz.prog Rows.qualitiesErrorsRow.laid W):
 Calls Tryz.prog 5 args W fun e W'=> ∃v,e=.returned v/\Rows.qualitiesErrorsSpec.post enc Tryz.prog Tryz.f5 false true false false W args v W':=by
 have hW':=hW;obtain⟨p,q,hA0,hV,rfl,hfz,hnd⟩:=hW;have hA:DataW.TrodAll enc Tryz.prog W 0 (fun _=>true) true Tryz.f5.params.toList args.toList ds p:=hA0;rw[Tryz.params5]at hA hval;obtain⟨v0,v1,d0,d1,p0,p1,rfl,rfl,rfl,h0,h1⟩:=trodAll_two hA;obtain⟨rfl,rfl⟩:=trodVars_none hV;obtain⟨x,rfl,hI,h0',hkd,bd,bf,bt,bL⟩:=Rf.aDW (hval 0 35 v0 rfl rfl) h0;obtain⟨mk,rfl,rfl,rfl,wmk⟩:=open_int Tryz.underlying5 (hval 1 5 v1 rfl rfl) h1;have hlt: ∀y ∈ p0,y.block<W.heap.size:=fun y hy=>DataW.TrodAll.lt hA0 y (aOz _ hy);clear hA0;simp only[aUz]at hW';refine(Rf.aLc (Ev.aDx hL) hI h0' hkd bd bf bt bL mk W (aDl _ _)).mono fun e W' ⟨he,hg⟩=>?_;subst he;obtain⟨m,hm⟩:=h0;have h0':DataW.Trod enc Tryz.prog W' 0 (fun b=>decide (b<W.heap.size)) true 35 x.v d0 p0:=
  ⟨m,DataW.trod_stays (kids_book aLr PK) (fun ht hu=>book_sized PK ht hu) (fun h=>by cases h) ⟨aIh,book_self _⟩ hm (fun y hy=>NQ (H:=H) hg (hlt y hy)) (fun y hy=>aEy (hlt y hy))⟩
 exact⟨_,rfl,_,_,_,[],p0++[],[],hW',trodAll_mk1 (shut_bool Tryz.underlying4 true),⟨p0,[],h0',trodAll_mk1 (shut_int Tryz.underlying5 wmk),rfl⟩,rfl,hg.frame _,fun h=>by cases h⟩
theorem uX(os:Os){H:Type}(enc:TypeId × Value->H): ∃places,DataW.whole enc Tryz.prog ((Un.laidWorld os).forCall (fun _ _=>0) ⟨#[],#[(⟨0,Sk.z0,0,Sk.z0,0,Sk.z0,none,0,[],false,false⟩:Rf.Xp).v,.int .u8 0],[]⟩).memory Tryz.f5.params.toList Rows.qualitiesErrorsSpec.vars false #[(⟨0,Sk.z0,0,Sk.z0,0,Sk.z0,none,0,[],false,false⟩:Rf.Xp).v,.int .u8 0].toList 8=some ([.agg [.lit (.int .u8 0),.agg [.agg [.lit (.bool false),.lit (.bool false),.lit (.string []),.lit (.int .i64 0),.lit (.int .i64 0)],.lit (.string []),.lit (.string []),.agg [.lit (.int .u8 0),.lit (.int .u8 0),.lit (.int .u8 0)]],.agg [.lit (.int .u8 0),.agg [.agg [.lit (.bool false),.lit (.bool false),.lit (.string []),.lit (.int .i64 0),.lit (.int .i64 0)],.lit (.string []),.lit (.string []),.agg [.lit (.int .u8 0),.lit (.int .u8 0),.lit (.int .u8 0)]]],.agg [.lit (.int .u8 0),.agg [.agg [.lit (.bool false),.lit (.bool false),.lit (.string []),.lit (.int .i64 0),.lit (.int .i64 0)],.lit (.string []),.lit (.string []),.agg [.lit (.int .u8 0),.lit (.int .u8 0),.lit (.int .u8 0)]]],.nil,.lit (.bool false),.lit (.bool false)],.lit (.int .u8 0)],[],places):=
 ⟨[],by kernel_rfl⟩
theorem xQ(os:Os)(args:Array Value):laidMetH Tryz.prog Rows.qualitiesErrorsRow.laid ((Un.laidWorld os).forCall (fun _ _=>0) ⟨#[],args,[]⟩).memory:=by
 exact Un.laid_met os args
theorem tN(os:Os)(started:os.Started)(H:Type)(enc:TypeId × Value->H)(F:Stop.Interp):
 ReturnsInHanded {} Tryz.checked os 5 .any ((OpenSpec.ofChange Rows.qualitiesErrorsSpec).preRow enc Tryz.prog Tryz.f5 Rows.qualitiesErrorsRow.domain false Rows.qualitiesErrorsRow.laid) (((OpenSpec.ofChange Rows.qualitiesErrorsSpec).at F).post enc Tryz.prog Tryz.f5 false true false false):=by
 obtain⟨places,hx⟩:=uX os enc;refine returnsInHanded_of_row (C:=Tryz.checked) (s:=OpenSpec.ofChange Rows.qualitiesErrorsSpec) Un.own started (by kernel_rfl) Tryz.func5
  (VO (enc:=enc) (C:=Tryz.checked) (Un.laidWorld os) #[(⟨0,Sk.z0,0,Sk.z0,0,Sk.z0,none,0,[],false,false⟩:Rf.Xp).v,.int .u8 0] rfl (by kernel_rfl) (by kernel_rfl) (by kernel_rfl)
    (OpenSpec.preRow_of_cond 8 hx (by kernel_rfl) (fun k hk=>by cases hk) (by kernel_rfl) (xQ os _))) ?_
 intro W base args ds gs before hval hW _ _ _ hL _ _;exact qY H enc W base args ds gs before hval hW hL
theorem vY:Rows.QualitiesErrorsSaid:=
 OpenClaim.holds_of_cond 5 Tryz.f5 rfl rfl rfl rfl rfl rfl rfl ⟨rfl,rfl,rfl,rfl,rfl⟩ rfl rfl rfl rfl rfl (by kernel_rfl) Tryz.func5 Facts.joined
  (aHY (by kernel_rfl)) (by unfold Func.isWrapper;first|(rw[aFw (by decide +kernel)];kernel_rfl)|(rw[aFv (by decide +kernel)];exact⟨rfl,rfl⟩))
  (fun os started H enc _ F=>by rw[OpenClaim.pre_eq_preRow];exact tN os started H enc F)
theorem uY(f:FuncId)(fn:Func)(hf:Tryz.pinned.checked.prog.funcNamed "circa/circalaw35.QualitiesErrors" =some f)(hfn:Tryz.pinned.checked.prog.funcs[f]? =some fn):
 true=Tryz.pinned.checked.prog.looks []/\ ∀(j:Nat) t,fn.params[j]? =some t->Tryz.pinned.checked.prog.wantsStandIn t=false:=by
 obtain rfl:f=5:=aOa ((show Tryz.prog.funcNamed "circa/circalaw35.QualitiesErrors" =some 5 by kernel_rfl).symm.trans hf) |>.symm
 obtain rfl:fn=Tryz.f5:=(aOa (Tryz.func5.symm.trans hfn)).symm;refine⟨by kernel_rfl,fun j t ht=>?_⟩;rw[Tryz.params5]at ht;have hm:=aWy ht;simp only[List.mem_toArray,aGv,aMt,aV2]at hm;rcases hm with rfl|rfl
 . exact(show Tryz.prog.wantsStandIn 35=false by kernel_rfl)
 exact(show Tryz.prog.wantsStandIn 5=false by kernel_rfl)
theorem qualitiesErrors_card:Rows.QualitiesErrorsCardSaid:=
 Claim7.holds_tied_plain_at .later [] _ _ _ _ vY (fun _ h=>by cases h) (by kernel_rfl) (fun _ h=>by cases h) qualitiesErrors_row_tie rfl ⟨rfl,rfl⟩ (by kernel_rfl) rfl uY Facts.goes
end
end Go.Proofs.YtebgcnnhokclaaaGreatDoor
