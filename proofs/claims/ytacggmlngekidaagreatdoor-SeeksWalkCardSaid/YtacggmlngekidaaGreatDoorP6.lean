/- The law: its walk,its plain law,the card. -/
import Derived.Test.YtacggmlngekidaaGreatDoorRows
import Derived.Test.YtacggmlngekidaaGreatDoorCards
import Derived.Test.YtacggmlngekidaaGreatDoorTie
import Derived.Test.YtacggmlngekidaaGreatDoorP1
import Derived.Test.YtacggmlngekidaaGreatDoorP3
import Derived.Test.YtacggmlngekidaaGreatDoorP4
import Derived.Test.YtacggmlngekidaaGreatDoorP5
import Derived.Deep.MidRow
import Derived.Great.BuildSlice
import Derived.Great.Walk
import Derived.KernelRfl
import Derived.Deep.CutBlock
import Derived.WalkKit
import Derived.ProofKit
import Derived.OpenShut
import Derived.Deep.DeepHandedRow
import Derived.Lib.LaidTab
import Derived.ChangeAlike
import Derived.LaidMore
import Derived.LaidHandle
import Derived.SevenTiedAt
import Derived.MakeChecks
import Derived.Deep.DeepWitnessRef
import Derived.RowKit
set_option linter.unusedSimpArgs false
set_option linter.unusedVariables false
set_option maxRecDepth 1000000
set_option maxHeartbeats 8000000
set_option linter.unusedSectionVars false
namespace Go.Proofs.YtacggmlngekidaaGreatDoor
abbrev aK3:=@Prod.mk.inj
abbrev aNK:=@Int.eq_ofNat_of_zero_le
abbrev aV5:=@List.all_nil
abbrev aWi:=@List.map_toArray
abbrev aWW:=@Go.Great.wpList_allocTo
abbrev aXB:=@Go.Joins.trod_struct4
section
namespace Bk
open Cal
def Dt.lo(d:Dt)(y m k:Int):Int:=lK y (d.mOf m) (d.kOf k)
def Dt.hi(d:Dt)(y m k:Int):Int:=sV y (d.mOf m) (d.kOf k)
theorem iF{d:Dt}(hf:d.form=0){y m k:Int}(h:d.Fill y m k):
 (d.aH=0/\d.mo.size=0/\d.da.size=0/\m=0/\k=0/\d.lo y m k=st y/\d.hi y m k=st (y+1) - 1)\/
 (d.aH≠0/\d.mo.size≠0/\d.da.size=0/\m=d.aH/\21<=m/\m<=41/\k=0/\d.lo y m k=st y+bY y (dF m)/\d.hi y m k=qZ y (dF m) (eH m))\/
 (d.aH=0/\d.mo.size≠0/\d.da.size=0/\1<=m/\m<=12/\k=0/\d.lo y m k=st y+bY y m/\d.hi y m k=st y+bY y (m+1) - 1)\/
 (d.aH=0/\d.mo.size≠0/\d.da.size≠0/\1<=m/\m<=12/\1<=k/\k<=Cal.len y m/\d.lo y m k=st y+bY y m+k - 1/\d.hi y m k=st y+bY y m+k - 1):=by
 obtain⟨hin,hm,hk,hl⟩:=h;have hbd:d.aH=0\/(21<=d.aH/\d.aH<=41):=iZ d.mo;have hk0:d.da.size=0->k=0:=fun e=>by
  unfold Dt.ds at hk;rw[aFV e,aLi]at hk;exact hk
 unfold Dt.lo Dt.hi lK sV Dt.mOf Dt.kOf;rcases jB hf with⟨h1,h2,h3⟩|⟨h1,h2,h3,h4⟩|⟨h1,h2,h3⟩
 . refine .inr (.inl ?_);rw[Dt.mM h1,aLi]at hm;have e:=aBb y m (by omega) (by omega);rw[aB9 h2,aB9 (by omega),aFV (by omega),aB9 (by omega),aFV (by omega),e];exact⟨h1,h2,h3,hm,by omega,by omega,hk0 h3,rfl,rfl⟩
 . rw[Dt.qN h1 h2,eY]at hm
   by_cases c:d.da.size=0
   . refine .inr (.inr (.inl ?_));have:=hk0 c;subst this;rw[aB9 h2,aFV c,aB9 (by omega),aB9 (by omega),aFV rfl,aB9 (by omega),aB9 (by omega),aFV rfl];exact⟨h1,h2,c,by omega,by omega,rfl,rfl,rfl⟩
   refine .inr (.inr (.inr ?_));unfold Dt.ds at hk;rw[aB9 c,eY]at hk;unfold Dt.len at hl;rw[aB9 c]at hl;rw[aB9 h2,aB9 c,aB9 (by omega),aB9 (by omega),aB9 (by omega),aB9 (by omega),aB9 (by omega),aB9 (by omega)];exact⟨h1,h2,c,by omega,by omega,by omega,hl,rfl,rfl⟩
 refine .inl ?_;have:=hk0 h3;subst this;unfold Dt.ms at hm;rw[aB9 (by simp[h1]),aFV h2,aLi]at hm;rw[aFV h2,aFV rfl,aFV rfl];exact⟨h1,h2,h3,hm,rfl,rfl,rfl⟩
theorem lD{y a b:Int}(h1:1<=a)(h:a<=b)(h2:b<=13):bY y a<=bY y b:=by
 by_cases c:a=b
 . subst c;omega
 have:=@wX y a b h1 (by omega) h2;have:=dJ y a;omega
theorem ES{y a b:Int}(h1:1<=a)(h:a<b)(h2:b<=13):bY y a<bY y b:=by
 have:=@wX y a b h1 h h2;have:=dJ y a;omega
theorem aEz{y z sf k:Int}(h0:1<=sf)(h1:sf<=12)(h2:3<=k)(h3:k<=6)(h4:sf+k<=15)(h:y<z):qZ y sf k<st z+bY z sf:=by
 have e1:=st_succ y;have m1:=@fU (y+1) z (by omega);have c0:=@dW z sf (by omega) (by omega);unfold qZ
 split
 . have c1:=@lD y (sf+k) 13 (by omega) (by omega) (by omega);rw[iG]at c1;omega
 have c1:=@lD (y+1) (sf+k - 12) 3 (by omega) (by omega) (by omega);have c2:bY (y+1) 3<=60:=by
  have:=SH (y+1);have:=dJ (y+1) 1;have:=pK (y+1);unfold bY;simp;unfold leap at *;unfold lp at *;split<;>omega
 have c3:61<=bY z sf:=by
  have:=@lD z 8 sf (by omega) (by omega) (by omega);have e:212<=bY z 8:=by unfold bY;simp;have:=pK z;omega
  omega
 by_cases q:z=y+1
 . subst q;omega
 have m2:=@fU (y+1) z (by omega);omega
theorem aEA{y sf k:Int}(h0:1<=sf)(h1:sf<=12)(h2:3<=k)(h3:k<=6)(h4:sf+k<=15):st y+bY y sf<=qZ y sf k:=by
 have e1:=st_succ y;unfold qZ
 split
 . have c1:=@ES y sf (sf+k) (by omega) (by omega) (by omega);omega
 have c1:=@lD y sf 13 (by omega) (by omega) (by omega);rw[iG]at c1;have c2:=@ES (y+1) 1 (sf+k - 12) (by omega) (by omega) (by omega);have c3:=uQ (y+1);omega
theorem uM{d:Dt}(hf:d.form=0){y m k:Int}(h:d.Fill y m k):d.lo y m k<=d.hi y m k:=by
 have e1:=st_succ y;have l1:=pK y;rcases iF hf h with⟨_,_,_,_,_,a,b⟩|⟨_,_,_,_,_,_,_,a,b⟩|⟨_,_,_,m0,m1,_,a,b⟩|⟨_,_,_,_,_,_,_,a,b⟩
 . rw[a,b];omega
 . rw[a,b];have f:=J8 m;exact aEA (by omega) (by omega) (by omega) (by omega) (by omega)
 . rw[a,b];have:=@ES y m (m+1) (by omega) (by omega) (by omega);omega
 rw[a,b];omega
theorem NC{d:Dt}(hf:d.form=0){y m k z n j:Int}(h:d.Fill y m k)(g:d.Fill z n j)(hl:xR y m k z n j):d.hi y m k<d.lo z n j:=by
 have e1:=st_succ y;have l1:=pK y;have hyz:y<=z:=by unfold xR at hl;omega
 have m1:=@fU y z hyz;have hst:y<z->st (y+1)<=st z:=fun c=>by have:=@fU (y+1) z (by omega);omega
 unfold xR at hl;rcases iF hf h with⟨a1,a2,a3,a4,a5,_,a7⟩|⟨a1,a2,a3,a4,a5,a6,a7,_,a9⟩|⟨a1,a2,a3,a4,a5,a6,_,a8⟩|⟨a1,a2,a3,a4,a5,a6,a7,_,a9⟩<;>
 rcases iF hf g with⟨b1,b2,b3,b4,b5,b6,_⟩|⟨b1,b2,b3,b4,b5,b6,b7,b8,_⟩|⟨b1,b2,b3,b4,b5,b6,b7,_⟩|⟨b1,b2,b3,b4,b5,b6,b7,b8,_⟩<;>
 first|(exfalso;omega)|skip
 . rw[a7,b6];have:=hst (by omega);omega
 . rw[a9,b8];have f:=J8 m;have e:n=m:=by omega
   subst e;exact aEz (by omega) (by omega) (by omega) (by omega) (by omega) (by omega)
 . rw[a8,b7]
   by_cases q:y=z
   . subst q;have:=@lD y (m+1) n (by omega) (by omega) (by omega);omega
   have:=hst (by omega);have c1:=@lD y (m+1) 13 (by omega) (by omega) (by omega);rw[iG]at c1;have c0:=@dW z n (by omega) (by omega);omega
 rw [a9,b8];have c2:=bH y m (by omega) (by omega)
 by_cases q:y=z
 . subst q
   by_cases r:m=n
   . subst r;omega
   have:=@lD y (m+1) n (by omega) (by omega) (by omega);omega
 have:=hst (by omega);have c1:=@lD y (m+1) 13 (by omega) (by omega) (by omega);rw[iG]at c1;have c0:=@dW z n (by omega) (by omega);omega
def cY(day:Int):Int:=bT day
def cM(day:Int):Int:=AL (bT day) (day - st (bT day))
def cK(day:Int):Int:=day - st (bT day) - bY (bT day) (cM day)+1
theorem rZ(day:Int):1<=cM day/\cM day<=12/\1<=cK day/\cK day<=Cal.len (cY day) (cM day)/\day=st (cY day)+bY (cY day) (cM day)+cK day - 1/\st (cY day)<=day/\day<st (cY day+1):=by
 obtain⟨s1,s2⟩:=gK day;have s3:=s2;rw[st_succ]at s2;obtain⟨m0,m1,m2,m3⟩:=@lS (bT day) (day - st (bT day)) (by omega) (by omega);have c:=bH (bT day) (AL (bT day) (day - st (bT day))) m0 m1;unfold cK cM cY;refine⟨m0,m1,by omega,by omega,by omega,s1,s3⟩
theorem aCj{d:Dt}(hf:d.form=0)(hs:d.aH=0){y m k:Int}(h:d.Fill y m k)(day:Int):d.lo y m k<=day↔d.le y m k (cY day) (cM day) (cK day):=by
 obtain⟨m0,m1,k0,k1,e,s1,s2⟩:=rZ day;generalize cY day=Y at *;generalize cM day=M at *;generalize cK day=K at *;have e1:=st_succ y;have E1:=st_succ Y;have cl:y<Y->st (y+1)<=st Y:=fun c=>by have:=@fU (y+1) Y (by omega);omega
 have cg:Y<y->st (Y+1)<=st y:=fun c=>by have:=@fU (Y+1) y (by omega);omega
 have l1:=pK y;unfold Dt.le;rcases iF hf h with⟨a1,a2,a3,a4,a5,a6,_⟩|⟨a1,_⟩|⟨a1,a2,a3,a4,a5,a6,a7,_⟩|⟨a1,a2,a3,a4,a5,a6,a7,a8,_⟩
 . rw[a6];constructor
   . intro g
     by_cases c:Y<y
     . have:=cg c;omega
     omega
   rintro(g|⟨g,_⟩)
   . have:=cl g;omega
   subst g;omega
 . exact absurd hs a1
 . rw [a7];have c0:=@dW y m (by omega) (by omega);constructor
   . intro g
     by_cases c:Y<y
     . have:=cg c;omega
     by_cases q:y=Y
     . subst q
       by_cases r:M<m
       . have c1:=@lD y (M+1) m (by omega) (by omega) (by omega);rw[bH y M (by omega) (by omega)]at c1;omega
       omega
     omega
   rintro(g|⟨g,g2⟩)
   . have:=cl g;have c1:=@lD y m 13 (by omega) (by omega) (by omega);rw[iG]at c1;omega
   subst g;have c1:=@lD y m M (by omega) (by omega) (by omega);omega
 rw [a8];have c0:=@dW y m (by omega) (by omega);have cs:=bH y m (by omega) (by omega);constructor
 . intro g
   by_cases c:Y<y
   . have:=cg c;omega
   by_cases q:y=Y
   . subst q
     by_cases r:M<m
     . have c1:=@lD y (M+1) m (by omega) (by omega) (by omega);rw[bH y M (by omega) (by omega)]at c1;omega
     by_cases t:m=M
     . subst t;omega
     omega
   omega
 rintro(g|⟨g,g2⟩)
 . have:=cl g;have c1:=@lD y (m+1) 13 (by omega) (by omega) (by omega);rw[iG]at c1;omega
 subst g
 by_cases t:m=M
 . subst t;omega
 have c1:=@lD y (m+1) M (by omega) (by omega) (by omega);omega
theorem pW{d:Dt}(hf:d.form=0)(hs:d.aH≠0){y m k:Int}(h:d.Fill y m k)(cy ck:Int):d.le y m k cy 99 ck↔y<=cy:=by
 rcases iF hf h with⟨a1,_⟩|⟨a1,a2,a3,a4,a5,a6,a7,_⟩|⟨a1,_⟩|⟨a1,_⟩
 . exact absurd a1 hs
 . unfold Dt.le;omega
 . exact absurd a1 hs
 exact absurd a1 hs
theorem AQ{d:Dt}(hf:d.form=0)(hs:d.aH≠0){y m k:Int}(h:d.Fill y m k):st y<=d.lo y m k/\d.lo y m k<st (y+1)/\k=0/\m=d.aH/\d.mo.size≠0/\d.da.size=0:=by
 rcases iF hf h with⟨a1,_⟩|⟨a1,a2,a3,a4,a5,a6,a7,a8,_⟩|⟨a1,_⟩|⟨a1,_⟩
 . exact absurd a1 hs
 . have f:=J8 m;have c1:=@ES y (dF m) 13 (by omega) (by omega) (by omega);rw[iG]at c1;have c0:=@dW y (dF m) (by omega) (by omega);have:=st_succ y;rw[a8];exact⟨by omega,by omega,a7,a4,a2,a3⟩
 . exact absurd a1 hs
 exact absurd a1 hs
end Bk
end
section
open Go.RowKit Go.Lib
namespace Sk
open Un (ba bt ri rb bZ)
open Cal
open Bk (Dt aW cvv cvF rv lW lK sV xR cY cM cK)
open Ev (aV dQ hp)
def eR(d:Dt)(y m k:Int):RB:=⟨0,d.lo y m k,0,d.hi y m k,true⟩
def nR:RB:=⟨0,0,0,0,false⟩
section
variable{d:Dt}{w0:World}
theorem zV(hc:d.dO=0):d.form=0/\d.err=0/\d.sig<=0:=by
 refine⟨Bk.dZ hc,?_,?_⟩<;> · unfold Bk.Dt.dO at hc;split at hc<;>first|omega|(split at hc<;>omega)
theorem aF4(hc:d.dO=0){y m k:Int}(F:d.Fill y m k):IC d y m k=(d.lo y m k,d.hi y m k,0):=by
 obtain⟨_,h1,h2⟩:=zV hc;unfold IC;rw[aB9 (by omega),aB9 (fun g=>g ⟨h2,hc,m,k,F,.inr rfl,.inr rfl⟩)]
 rfl
theorem ZN(hc:d.dO=0){y m k:Int}(F:d.Fill y m k): -9223372036854775808<d.lo y m k/\d.lo y m k<9223372036854775807:=by
 have hin:=jU hc F.1;have b0:=Un.jQ (y:=y) (by omega) (by omega);have hf:=Bk.dZ hc;rcases Bk.iF hf F with⟨_,_,_,_,_,a,b⟩|⟨_,_,_,_,_,_,_,a,b⟩|⟨_,_,_,m0,m1,_,a,b⟩|⟨_,_,_,m0,m1,k0,k1,a,b⟩
 . rw[a];omega
 . have f:=Bk.J8 m;have c0:=@dW y (Bk.dF m) (by omega) (by omega);rw[a];omega
 . have c0:=@dW y m (by omega) (by omega);rw[a];omega
 have c0:=@dW y m (by omega) (by omega);have:=dJ y m;rw[a];omega
theorem IQ(h:C9 d w0)(hc:d.dO=0){y m k:Int}(F:d.Fill y m k):Same w0 283 #[aW d,cvv y m k,.bool true] (eR d y m k).v:=by
 have hin:=jU hc F.1;have H:=BR y m k (by omega) (by omega) h;rw[aF4 hc F]at H;exact aC7 d y m k _ _ _ true h.st H
theorem DX(h:C9 d w0){y m k:Int}(y0: -9223372036854775808<=y)(y1:y<9223372036854775808):Same w0 283 #[aW d,cvv y m k,.bool false] nR.v:=
 aC7 d y m k _ _ _ false h.st (BR y m k y0 y1 h)
theorem rP(h:C9 d w0)(hc:d.dO=0)(hn: ∀y m k,¬d.Fill y m k):Same w0 283 #[aW d,cvv 0 0 0,.bool true] nR.v:=by
 have H:=BR 0 0 0 (by omega) (by omega) h;have e:IC d 0 0 0=(0,0,1):=by
  obtain⟨_,h1,h2⟩:=zV hc;unfold IC;rw[aB9 (by omega),aFV (fun g=>by obtain⟨_,_,n,j,F,_⟩:=g;exact hn _ _ _ F)]
 rw[e]at H;exact aC7 d 0 0 0 _ _ _ true h.st H
theorem QS(h:C9 d w0)(hc:d.dO=0)(cy cm ck:Int)(y0: -9223372036854775808<=cy)(y1:cy<9223372036854775808):
 ∃y m k ok,d.jF cy cm ck y m k ok/\d.oG (cy,cm,ck)=(y,m,k,ok):=by
 obtain⟨e,w',fr,⟨y,m,k,ok,hF,_⟩,_⟩:=Bk.EM d cy cm ck w0 h.hk h.mo h.dg h.m0 h.m1 h.m2 y0 y1 [];rcases hF with⟨_,hS⟩|⟨hn,_⟩
 . refine⟨y,m,k,ok,hS,?_⟩;unfold Bk.Dt.oG;rw[aFV hc];exact Bk.Dt.aID hS
 exact absurd hc hn
theorem J5(h:C9 d w0)(hc:d.dO=0)(cy cm ck:Int)(y0: -9223372036854775808<=cy)(y1:cy<9223372036854775808):
 ∃y m k ok,d.jW cy cm ck y m k ok/\d.qM (cy,cm,ck)=(y,m,k,ok):=by
 obtain⟨e,w',fr,⟨y,m,k,ok,hF,_⟩,_⟩:=Bk.SB d cy cm ck w0 h.hk h.mo h.dg h.m0 h.m1 h.m2 y0 y1 [];rcases hF with⟨_,hS⟩|⟨hn,_⟩
 . refine⟨y,m,k,ok,hS,?_⟩;unfold Bk.Dt.qM;rw[aFV hc];exact Bk.Dt.aHT hS
 exact absurd hc hn
theorem UU(h:C9 d w0)(hc:d.dO=0)(cy cm ck:Int)(y0: -9223372036854775808<=cy)(y1:cy<9223372036854775808):
 ∃y m k ok,∃r:RB,d.jF cy cm ck y m k ok/\Same w0 291 #[aW d,cvv cy cm ck] (.tuple #[cvv y m k,.bool ok,.int .i64 0])/\Same w0 283 #[aW d,cvv y m k,.bool ok] r.v/\((ok=true/\r=eR d y m k)\/(ok=false/\r=nR)):=by
 obtain⟨y,m,k,ok,hS,hN⟩:=QS h hc cy cm ck y0 y1;have P:=xO cy cm ck y0 y1 h;unfold cvF at P;rw[hN,hc]at P;rcases hS with⟨rfl,F,g⟩|⟨rfl,rfl,rfl,rfl,g⟩
 . exact⟨y,m,k,true,eR d y m k,.inl ⟨rfl,F,g⟩,P,IQ h hc F,.inl ⟨rfl,rfl⟩⟩
 exact⟨0,0,0,false,nR,.inr ⟨rfl,rfl,rfl,rfl,g⟩,P,DX h (by omega) (by omega),.inr ⟨rfl,rfl⟩⟩
theorem IU(h:C9 d w0)(hc:d.dO=0)(cy cm ck:Int)(y0: -9223372036854775808<=cy)(y1:cy<9223372036854775808):
 ∃y m k ok,∃r:RB,d.jW cy cm ck y m k ok/\Same w0 287 #[aW d,cvv cy cm ck] (.tuple #[cvv y m k,.bool ok,.int .i64 0])/\Same w0 283 #[aW d,cvv y m k,.bool ok] r.v/\((ok=true/\r=eR d y m k)\/(ok=false/\r=nR)):=by
 obtain⟨y,m,k,ok,hS,hN⟩:=J5 h hc cy cm ck y0 y1;have P:=aEV cy cm ck y0 y1 h;unfold cvF at P;rw[hN,hc]at P;rcases hS with⟨rfl,F,g⟩|⟨rfl,rfl,rfl,rfl,g⟩
 . exact⟨y,m,k,true,eR d y m k,.inl ⟨rfl,F,g⟩,P,IQ h hc F,.inl ⟨rfl,rfl⟩⟩
 exact⟨0,0,0,false,nR,.inr ⟨rfl,rfl,rfl,rfl,g⟩,P,DX h (by omega) (by omega),.inr ⟨rfl,rfl⟩⟩
def aNJ(d:Dt)(r:RB):Prop:=(∃y m k,d.Fill y m k/\r=eR d y m k/\ ∀z n j,d.Fill z n j-> ¬xR z n j y m k)\/(r=nR/\ ∀z n j,¬d.Fill z n j)
def aRp(d:Dt)(r:RB):Prop:=(∃y m k,d.Fill y m k/\r=eR d y m k/\ ∀z n j,d.Fill z n j-> ¬xR y m k z n j)\/(r=nR/\ ∀z n j,¬d.Fill z n j)
theorem Z5(h:C9 d w0)(hc:d.dO=0): ∃r:RB,Same w0 276 #[aW d] r.v/\aNJ d r:=by
 obtain⟨y,m,k,ok,hS,hN⟩:=QS h hc (-9223372036854775808) 0 0 (by omega) (by omega);have N:=Z7 h;unfold cv3 at N;rw[hN,hc]at N;have hge: ∀z n j,d.Fill z n j->d.ge z n j (-9223372036854775808) 0 0:=fun z n j F=>by have:=jU hc F.1;unfold Bk.Dt.ge;omega
 rcases hS with⟨_,F,_,g⟩|⟨_,rfl,rfl,rfl,g⟩
 . have hin:=jU hc F.1;exact⟨eR d y m k,aDF (hst:=h.st) (H0:=N) (H1:=IQ h hc F) (H2:=DX h (by omega) (by omega)),.inl ⟨y,m,k,F,rfl,fun z n j G=>g z n j G (hge z n j G)⟩⟩
 have hn: ∀z n j,¬d.Fill z n j:=fun z n j G=>g z n j G (hge z n j G);exact⟨nR,aDF (hst:=h.st) (H0:=N) (H1:=rP h hc hn) (H2:=DX h (by omega) (by omega)),.inr ⟨rfl,hn⟩⟩
theorem IZ(h:C9 d w0)(hc:d.dO=0): ∃r:RB,Same w0 278 #[aW d] r.v/\aRp d r:=by
 obtain⟨y,m,k,ok,hS,hN⟩:=J5 h hc 9223372036854775807 0 0 (by omega) (by omega);have N:=MW h;unfold cv3 at N;rw[hN,hc]at N;have hle: ∀z n j,d.Fill z n j->d.le z n j 9223372036854775807 0 0:=fun z n j F=>by have:=jU hc F.1;unfold Bk.Dt.le;omega
 rcases hS with⟨_,F,_,g⟩|⟨_,rfl,rfl,rfl,g⟩
 . have hin:=jU hc F.1;exact⟨eR d y m k,aB3 (hst:=h.st) (H0:=N) (H1:=IQ h hc F) (H2:=DX h (by omega) (by omega)),.inl ⟨y,m,k,F,rfl,fun z n j G=>g z n j G (hle z n j G)⟩⟩
 have hn: ∀z n j,¬d.Fill z n j:=fun z n j G=>g z n j G (hle z n j G);exact⟨nR,aB3 (hst:=h.st) (H0:=N) (H1:=rP h hc hn) (H2:=DX h (by omega) (by omega)),.inr ⟨rfl,hn⟩⟩
theorem aJ2(day:Int)(hk:lW w0)(st:aV dQ.g.n dQ.l w0 hp)(h0: -9223372036854775808<=day)(h1:day<9223372036854775808):
 ∃y m k e:Int,Same w0 286 #[.int .i64 day] (.tuple #[cvv y m k,.int .i64 e])/\(-10000000000000000<=y/\y<=10000000000000000)/\(1<=m+1/\m<=12)/\(0<=k/\k<=31)/\
  ((e=0/\y=cY day/\m=cM day/\k=cK day)\/(e≠0/\ ¬(-10000000000000000<=cY day/\cY day<=10000000000000000))):=by
 have HM:=fun W hb=>Un.oK day W (hk.below (w':=W) hb).cal h0 h1;obtain⟨m0,m1,k0,k1,e,s1,s2⟩:=Bk.rZ day;have hl:=dJ (cY day) (cM day);have hcu:=@dW (cY day) (cM day) (by omega) (by omega);unfold bZ at HM
 by_cases c: -10000000000000000<=bT day/\bT day<=10000000000000000
 . simp only[aFV c]at HM;have hS:=aOE day _ _ _ st HM (fun W hb=>Un.iP _ _ W (hk.below hb).cal c.1 c.2 m0 m1);have ek:IntKind.i64.wrap (IntKind.i64.wrap (day - (Cal.st (bT day)+bY (bT day) (AL (bT day) (day - Cal.st (bT day)))))+1)=cK day:=by
    have e2:day - (Cal.st (bT day)+bY (bT day) (AL (bT day) (day - Cal.st (bT day))))=cK day - 1:=by unfold cK cM;omega
    rw[e2,aGZ,aGZ];omega
   rw[ek]at hS;refine⟨cY day,cM day,cK day,0,hS,c,by omega,by omega,.inl ⟨rfl,rfl,rfl,rfl⟩⟩
 simp only[aB9 c]at HM;exact⟨0,0,0,6,aDP day st HM,by omega,by omega,by omega,.inr ⟨by omega,c⟩⟩
theorem aDd(h:C9 d w0)(hc:d.dO=0):Same w0 288 #[aW d] (.tuple #[.int .u8 d.prec,.int .i64 0]):=by
 have H:=RD h;obtain⟨_,h1,_⟩:=zV hc;rw[h1]at H;exact H
end
end Sk
end
section
open Go.RowKit Go.Lib
namespace Sk
open Un (ba bt ri rb bZ)
open Cal
open Bk (Dt aW cvv cvF rv lW lK sV xR cY cM cK)
open Ev (aV dQ hp)
def JE(d:Dt)(day:Int)(r:RB):Prop:=(∃y m k,d.Fill y m k/\r=eR d y m k/\d.lo y m k<=day/\ ∀z n j,d.Fill z n j->d.lo z n j<=day-> ¬xR y m k z n j)\/(r=nR/\ ∀z n j,d.Fill z n j->day<d.lo z n j)
def WQ(d:Dt)(y m k:Int)(r:RB):Prop:=(∃z n j,d.Fill z n j/\r=eR d z n j/\xR y m k z n j/\ ∀a b c,d.Fill a b c->xR y m k a b c-> ¬xR a b c z n j)\/(r=nR/\ ∀a b c,d.Fill a b c-> ¬xR y m k a b c)
def aCQ(d:Dt)(day:Int)(r:RB):Prop:=(∃y m k,d.Fill y m k/\r=eR d y m k/\day<=d.lo y m k/\ ∀z n j,d.Fill z n j->day<=d.lo z n j-> ¬xR z n j y m k)\/(r=nR/\ ∀z n j,d.Fill z n j->d.lo z n j<day)
def aCP(d:Dt)(day:Int)(r:RB):Prop:=(∃y m k,d.Fill y m k/\r=eR d y m k/\d.hi y m k<=day/\ ∀z n j,d.Fill z n j->d.hi z n j<=day-> ¬xR y m k z n j)\/(r=nR/\ ∀z n j,d.Fill z n j->day<d.hi z n j)
section
variable{d:Dt}{w0:World}
theorem IX{d:Dt}(hf:d.form=0){y m k:Int}(F:d.Fill y m k):st y<=d.lo y m k/\d.lo y m k<st (y+1):=by
 have e1:=st_succ y;have l1:=pK y;rcases Bk.iF hf F with⟨_,_,_,_,_,a,b⟩|⟨_,_,_,_,_,_,_,a,b⟩|⟨_,_,_,m0,m1,_,a,b⟩|⟨_,_,_,m0,m1,k0,k1,a,b⟩
 . rw[a];omega
 . have f:=Bk.J8 m;have c0:=@dW y (Bk.dF m) (by omega) (by omega);have c1:=@Bk.ES y (Bk.dF m) 13 (by omega) (by omega) (by omega);rw[iG]at c1;rw[a];omega
 . have c0:=@dW y m (by omega) (by omega);have c1:=@Bk.ES y m 13 (by omega) (by omega) (by omega);rw[iG]at c1;rw[a];omega
 have c0:=@dW y m (by omega) (by omega);have c1:=@Bk.lD y (m+1) 13 (by omega) (by omega) (by omega);rw[iG]at c1;have c2:=bH y m (by omega) (by omega);rw[a];omega
theorem IK{d:Dt}(hf:d.form=0){y m k:Int}(F:d.Fill y m k){day:Int}(h:d.lo y m k<=day):y<=cY day:=by
 have h1:=IX hf F;have h2:=(Bk.rZ day).2.2.2.2.2.2
 by_cases c:y<=cY day
 . exact c
 have:=@fU (cY day+1) y (by omega);omega
theorem vY{d:Dt}(hf:d.form=0):(d.prec=0↔d.aH≠0)/\(d.prec=1↔d.mo.size=0)/\(d.prec=2↔d.aH=0/\d.mo.size≠0/\d.da.size=0):=by
 unfold Bk.Dt.prec;rcases Bk.jB hf with⟨h1,h2,h3⟩|⟨h1,h2,h3,h4⟩|⟨h1,h2,h3⟩
 . rw[aB9 (by omega),aB9 h2,aFV h1];simp[h1,h2]
 . by_cases c:d.da.size=0
   . rw[aB9 (by omega),aB9 h2,aB9 (by omega)];simp[h1,h2,c]
   rw[aFV c];simp[h1,h2,c]
 rw[aB9 (by omega),aFV h2];simp[h1,h2]
theorem NZ (day:Int) (h0: -9223372036854775808<=day) (h1:day<9223372036854775808) (h:C9 d w0) (hc:d.dO=0): ∃r:RB,Same w0 281 #[aW d,.int .i64 day] r.v/\JE d day r:=by
 have hf:=Bk.dZ hc;obtain⟨L,HL,sL⟩:=IZ h hc;obtain⟨cy,cm,ck,ce,HC,bc,bm,bk,sC⟩:=aJ2 day h.hk h.st h0 h1;have HP:=aDd h hc;obtain⟨y1,m1,k1,ok1,r1,S1,P1,R1,e1⟩:=IU h hc cy cm ck (by omega) (by omega);have q1: -10000000000000000<=y1/\y1<=10000000000000000:=by
  rcases S1 with⟨_,F,_⟩|⟨_,g,_⟩
  . exact jU hc F.1
  omega
 obtain⟨y2,m2,k2,ok2,r2,S2,P2,R2,e2⟩:=IU h hc (y1 - 1) 99 0 (by omega) (by omega);obtain⟨y3,m3,k3,ok3,r3,S3,P3,R3,e3⟩:=IU h hc cy 99 ck (by omega) (by omega);have q3: -10000000000000000<=y3/\y3<=10000000000000000:=by
  rcases S3 with⟨_,F,_⟩|⟨_,g,_⟩
  . exact jU hc F.1
  omega
 obtain⟨y4,m4,k4,ok4,r4,S4,P4,R4,e4⟩:=IU h hc (y3 - 1) 99 0 (by omega) (by omega);have w1:y1 - 1=IntKind.i64.wrap (y1 - 1):=by rw[aGZ];omega
 have w3:y3 - 1=IntKind.i64.wrap (y3 - 1):=by rw[aGZ];omega
 rw[w1]at P2;rw[w3]at P4;have HB:=aNj (d:=d) (day:=day) (hst:=h.st) (H0:=HL) (H1:=HC) (H2:=HP) (H3:=P1) (H4:=R1) (H5:=P2) (H6:=R2) (H7:=P3) (H8:=R3) (H9:=P4) (H10:=R4);clear HL HC HP P1 P2 P3 P4 R1 R2 R3 R4;have key: ∀r:RB,JE d day r->(∀v,Same w0 281 #[aW d,.int .i64 day] v->v=r.v-> ∃r:RB,Same w0 281 #[aW d,.int .i64 day] r.v/\JE d day r):=fun r hr v hv e=>⟨r,e ▸ hv,hr⟩;rcases sL with⟨yL,mL,kL,FL,rfl,gL⟩|⟨rfl,gL⟩
 rotate_left
 . exact key nR (.inr ⟨rfl,fun z n j G=>absurd G (gL z n j)⟩) _ HB rfl
 by_cases cL:day<d.lo yL mL kL
 rotate_left
 . refine key (eR d yL mL kL) (.inl ⟨yL,mL,kL,FL,rfl,by omega,fun z n j G _=>gL z n j G⟩) _ HB ?_;show cond true (cond (decide (day<d.lo yL mL kL)) _ _) _=_;rw[aCw cL];rfl
 have bL:=jU hc FL.1;have hup:cY day<=10000000000000000:=by
  have h1:=(IX hf FL).2;have h2:=(Bk.rZ day).2.2.2.2.2.1
  by_cases c:cY day<=10000000000000000
  . exact c
  have:=@fU (yL+1) (cY day) (by omega);omega
 rcases sC with⟨rfl,rfl,rfl,rfl⟩|⟨hce,aZJ⟩
 rotate_left
 . have hno: ∀z n j,d.Fill z n j->day<d.lo z n j:=fun z n j G=>by
    have hz:=jU hc G.1
    by_cases c:day<d.lo z n j
    . exact c
    have:=IK hf G (day:=day) (by omega);omega
   refine key nR (.inr ⟨rfl,hno⟩) _ HB ?_;show cond true (cond (decide (day<d.lo yL mL kL)) (cond (ce==0) _ _) _) _=_;rw[aAP cL,show(ce==0)=false by simpa using hce];rfl
 by_cases hs:d.aH=0
 . have hp0:(d.prec==0)=false:=by
    have:=(vY hf).1;rw[aAO];intro g;exact(this.1 g) hs
   rcases S1 with⟨rfl,F,hle,g⟩|⟨rfl,rfl,rfl,rfl,g⟩
   . rcases e1 with⟨_,rfl⟩|⟨e,_⟩
     rotate_left
     . cases e
     have hlo:=(Bk.aCj hf hs F day).2 hle;refine key (eR d y1 m1 k1) (.inl ⟨y1,m1,k1,F,rfl,hlo,fun z n j G hz=>g z n j G ((Bk.aCj hf hs G day).1 hz)⟩) _ HB ?_;show cond true (cond (decide (day<d.lo yL mL kL)) (cond true (cond (d.prec==0) _ (cond true (cond (decide (day<d.lo y1 m1 k1)) _ _) _)) _) _) _=_;rw[aAP cL,hp0,aCw (show ¬day<d.lo y1 m1 k1 by omega)];rfl
   rcases e1 with⟨e,_⟩|⟨_,rfl⟩
   . cases e
   refine key nR (.inr ⟨rfl,fun z n j G=>?_⟩) _ HB ?_
   . by_cases c:day<d.lo z n j
     . exact c
     exact absurd ((Bk.aCj hf hs G day).1 (by omega)) (g z n j G)
   show cond true (cond (decide (day<d.lo yL mL kL)) (cond true (cond (d.prec==0) _ (cond false _ _)) _) _) _=_;rw[aAP cL,hp0];rfl
 have hp0:(d.prec==0)=true:=by
  have:=(vY hf).1;rw[aFZ];exact this.2 hs
 rcases S3 with⟨rfl,F,hle,g⟩|⟨rfl,rfl,rfl,rfl,g⟩
 . rcases e3 with⟨_,rfl⟩|⟨e,_⟩
   rotate_left
   . cases e
   have hy:=(Bk.pW hf hs F _ _).1 hle;obtain⟨s0,s1,s2,s3,s4,s5⟩:=Bk.AQ hf hs F;have hmax: ∀z n j,d.Fill z n j->d.lo z n j<=day->z<=y3:=fun z n j G hz=>by
    have h2:=IK hf G hz;have h3:=g z n j G ((Bk.pW hf hs G _ _).2 h2);unfold xR at h3;omega
   by_cases c3:day<d.lo y3 m3 k3
   . have hlt: ∀z n j,d.Fill z n j->d.lo z n j<=day->z<=y3 - 1:=fun z n j G hz=>by
      have h2:=hmax z n j G hz;obtain⟨_,_,t2,t3,_⟩:=Bk.AQ hf hs G
      by_cases c:z=y3
      . subst c;rw[t2,t3]at hz;rw[s2,s3]at c3;omega
      omega
     rcases S4 with⟨rfl,F4,aWp,g4⟩|⟨rfl,rfl,rfl,rfl,g4⟩
     . rcases e4 with⟨_,rfl⟩|⟨e,_⟩
       rotate_left
       . cases e
       have hy4:=(Bk.pW hf hs F4 _ _).1 aWp;have aWn:d.lo y4 m4 k4<=day:=by
        have h1:=(Bk.AQ hf hs F4).2.1;have h2:=@fU (y4+1) (cY day) (by omega);have h3:=(Bk.rZ day).2.2.2.2.2.1;omega
       refine key (eR d y4 m4 k4) (.inl ⟨y4,m4,k4,F4,rfl,aWn,fun z n j G hz=>g4 z n j G ((Bk.pW hf hs G _ _).2 (hlt z n j G hz))⟩) _ HB ?_;show cond true (cond (decide (day<d.lo yL mL kL)) (cond true (cond (d.prec==0) (cond true (cond (decide (day<d.lo y3 m3 k3)) _ _) _) _) _) _) _=_;rw[aAP cL,hp0,aAP c3];rfl
     rcases e4 with⟨e,_⟩|⟨_,rfl⟩
     . cases e
     refine key nR (.inr ⟨rfl,fun z n j G=>?_⟩) _ HB ?_
     . by_cases c:day<d.lo z n j
       . exact c
       exact absurd ((Bk.pW hf hs G _ _).2 (hlt z n j G (by omega))) (g4 z n j G)
     show cond true (cond (decide (day<d.lo yL mL kL)) (cond true (cond (d.prec==0) (cond true (cond (decide (day<d.lo y3 m3 k3)) _ _) _) _) _) _) _=_;rw[aAP cL,hp0,aAP c3];rfl
   refine key (eR d y3 m3 k3) (.inl ⟨y3,m3,k3,F,rfl,by omega,fun z n j G hz=>?_⟩) _ HB ?_
   . have h2:=IK hf G hz;exact g z n j G ((Bk.pW hf hs G _ _).2 h2)
   show cond true (cond (decide (day<d.lo yL mL kL)) (cond true (cond (d.prec==0) (cond true (cond (decide (day<d.lo y3 m3 k3)) _ _) _) _) _) _) _=_;rw[aAP cL,hp0,aCw c3];rfl
 rcases e3 with⟨e,_⟩|⟨_,rfl⟩
 . cases e
 refine key nR (.inr ⟨rfl,fun z n j G=>?_⟩) _ HB ?_
 . by_cases c:day<d.lo z n j
   . exact c
   exact absurd ((Bk.pW hf hs G _ _).2 (IK hf G (by omega))) (g z n j G)
 show cond true (cond (decide (day<d.lo yL mL kL)) (cond true (cond (d.prec==0) (cond false _ _) _) _) _) _=_;rw[aAP cL,hp0];rfl
theorem aNf{d:Dt}(hf:d.form=0){y m k:Int}(F:d.Fill y m k):cY (d.lo y m k)=y/\(d.aH=0->d.mo.size≠0->cM (d.lo y m k)=m/\(d.da.size≠0->cK (d.lo y m k)=k)):=by
 have hy:cY (d.lo y m k)=y:=jY (IX hf F).1 (IX hf F).2;refine⟨hy,fun hs hm=>?_⟩;have e:cM (d.lo y m k)=AL y (d.lo y m k - st y):=by unfold cM;unfold cY at hy;rw[hy]
 have e2:cK (d.lo y m k)=d.lo y m k - st y - bY y (cM (d.lo y m k))+1:=by unfold cK;unfold cY at hy;rw[hy]
 rcases Bk.iF hf F with⟨_,a,_⟩|⟨a,_⟩|⟨_,_,a2,m0,m1,_,a,b⟩|⟨_,_,a2,m0,m1,k0,k1,a,b⟩
 . exact absurd a hm
 . exact absurd hs a
 . have c:=bH y m m0 m1;have l:=dJ y m;have e3:cM (d.lo y m k)=m:=by rw[e];exact tV m0 m1 (by omega) (by omega)
   exact⟨e3,fun g=>absurd a2 g⟩
 have c:=bH y m m0 m1;have e3:cM (d.lo y m k)=m:=by rw[e];exact tV m0 m1 (by omega) (by omega)
 refine⟨e3,fun _=>?_⟩;rw[e2,e3,a];omega
theorem aDp{d:Dt}(hf:d.form=0){y m k z n j:Int}(F:d.Fill y m k)(G:d.Fill z n j)(h:d.lo y m k<d.lo z n j):xR y m k z n j:=by
 by_cases c:xR y m k z n j
 . exact c
 by_cases e:xR z n j y m k
 . have:=Bk.NC hf G F e;have:=Bk.uM hf G;omega
 obtain⟨rfl,rfl,rfl⟩:=Bk.BI c e;omega
theorem aIZ{d:Dt}(hf:d.form=0){y m k z n j:Int}(F:d.Fill y m k)(G:d.Fill z n j)(h:xR y m k z n j):d.lo y m k<d.lo z n j:=by
 have:=Bk.NC hf F G h;have:=Bk.uM hf F;omega
theorem xU{y m k cy cm ck z n j:Int}{ok:Bool}{r:RB}(S:d.jF cy cm ck z n j ok)(e:(ok=true/\r=eR d z n j)\/(ok=false/\r=nR))(hg: ∀a b c,d.Fill a b c->(d.ge a b c cy cm ck↔xR y m k a b c)):WQ d y m k r:=by
 rcases S with⟨rfl,F,hge,g⟩|⟨rfl,_,_,_,g⟩
 . rcases e with⟨_,rfl⟩|⟨e,_⟩
   . exact .inl ⟨z,n,j,F,rfl,(hg _ _ _ F).1 hge,fun a b c G hl=>g a b c G ((hg _ _ _ G).2 hl)⟩
   cases e
 rcases e with⟨e,_⟩|⟨_,rfl⟩
 . cases e
 exact .inr ⟨rfl,fun a b c G hl=>g a b c G ((hg _ _ _ G).2 hl)⟩
theorem aIL(h:C9 d w0)(hc:d.dO=0){y m k:Int}(F:d.Fill y m k): ∃r:RB,Same w0 284 #[aW d,r4 0 (d.lo y m k) 0 (d.hi y m k)] r.v/\WQ d y m k r:=by
 have hf:=Bk.dZ hc;have bl:=ZN hc F;have by':=jU hc F.1
 obtain⟨ey,em⟩:=aNf hf F;obtain⟨m0,m1,k0,k1,_⟩:=Bk.rZ (d.lo y m k);have hlen:=dJ (cY (d.lo y m k)) (cM (d.lo y m k));obtain⟨L,HL,sL⟩:=IZ h hc;obtain⟨cy,cm,ck,ce,HC,bc,bm,bk,sC⟩:=aJ2 (d.lo y m k) h.hk h.st (by omega) (by omega);have HP:=aDd h hc;obtain⟨rfl,rfl,rfl,rfl⟩:ce=0/\cy=y/\cm=cM (d.lo y m k)/\ck=cK (d.lo y m k):=by
  rcases sC with⟨a,b,c,e⟩|⟨_,hn⟩
  . exact⟨a,b.trans ey,c,e⟩
  exact absurd (by rw[ey];omega) hn
 generalize hcm:cM (d.lo cy m k)=M at *;generalize hck:cK (d.lo cy m k)=K at *;have w1:cy+1=IntKind.i64.wrap (cy+1):=by rw[aGZ];omega
 have w2:M+1=IntKind.i64.wrap (M+1):=by rw[aGZ];omega
 have w3:K+1=IntKind.i64.wrap (K+1):=by rw[aGZ];omega
 obtain⟨y1,n1,j1,ok1,r1,S1,P1,R1,e1⟩:=UU h hc (cy+1) 0 0 (by omega) (by omega);obtain⟨y2,n2,j2,ok2,r2,S2,P2,R2,e2⟩:=UU h hc cy (M+1) 0 (by omega) (by omega);obtain⟨y3,n3,j3,ok3,r3,S3,P3,R3,e3⟩:=UU h hc cy M (K+1) (by omega) (by omega);rw[w1]at P1;rw[w2]at P2;rw[w3]at P3;have HB:=aIM (d:=d) (ra:=0) (rl:=d.lo cy m k) (rb:=0) (rh:=d.hi cy m k) (hst:=h.st) (hz:=rfl) (H0:=HL) (H1:=HC) (H2:=HP) (H3:=P1) (H4:=R1) (H5:=P2) (H6:=R2) (H7:=P3) (H8:=R3);clear HL HC HP P1 P2 P3 R1 R2 R3;have key: ∀r:RB,WQ d cy m k r->(∀v,Same w0 284 #[aW d,r4 0 (d.lo cy m k) 0 (d.hi cy m k)] v->v=r.v-> ∃r:RB,Same w0 284 #[aW d,r4 0 (d.lo cy m k) 0 (d.hi cy m k)] r.v/\WQ d cy m k r):=fun r hr v hv e=>⟨r,e ▸ hv,hr⟩;rcases sL with⟨yL,mL,kL,FL,rfl,gL⟩|⟨rfl,gL⟩
 rotate_left
 . exact absurd F (gL _ _ _)
 by_cases cz:(0:Int)=0/\d.lo yL mL kL=d.lo cy m k/\(0:Int)=0/\d.hi yL mL kL=d.hi cy m k
 . refine key nR (.inr ⟨rfl,fun a b c G hl=>?_⟩) _ HB ?_
   . have h1:=aIZ hf F G hl;exact gL a b c G (aDp hf FL G (by omega))
   show cond true (cond (decide ((0:Int)=0/\d.lo yL mL kL=d.lo cy m k/\(0:Int)=0/\d.hi yL mL kL=d.hi cy m k)) _ _) _=_;rw[aAP cz];rfl
 have aDe: ∀v:Value,(cond true (cond (decide ((0:Int)=0/\d.lo yL mL kL=d.lo cy m k/\(0:Int)=0/\d.hi yL mL kL=d.hi cy m k)) (.tuple #[(r4 0 0 0 0),(.bool false)]) (cond ((0:Int)==0) v (.tuple #[(r4 0 0 0 0),(.bool false)]))) (.tuple #[(r4 0 0 0 0),(.bool false)]))=v:=fun v=>by
  rw[aCw cz];rfl
 obtain⟨p0,p1,p2⟩:=vY hf
 by_cases hs:d.aH=0
 rotate_left
 . obtain⟨_,_,t2,t3,t4,t5⟩:=Bk.AQ hf hs F;refine key r1 (xU S1 e1 fun a b c G=>?_) _ HB ?_
   . obtain⟨_,_,u2,u3,_⟩:=Bk.AQ hf hs G;have:=Bk.iZ d.mo;unfold Bk.Dt.aH at *;unfold Bk.Dt.ge xR;omega
   refine(aDe _).trans ?_;rw[show (d.prec==0)=true by rw[aFZ];exact p0.2 hs];rfl
 have q0:(d.prec==0)=false:=by rw[aAO];intro g;exact p0.1 g hs
 by_cases hm:d.mo.size=0
 . refine key r1 (xU S1 e1 fun a b c G=>?_) _ HB ?_
   . rcases Bk.iF hf F with⟨_,_,a3,a4,a5,_⟩|⟨a1,_⟩|⟨_,a1,_⟩|⟨_,a1,_⟩<;>first|exact absurd hs a1|exact absurd hm a1|skip
     rcases Bk.iF hf G with⟨_,_,b3,b4,b5,_⟩|⟨b1,_⟩|⟨_,b1,_⟩|⟨_,b1,_⟩<;>first|exact absurd hs b1|exact absurd hm b1|skip
     unfold Bk.Dt.ge xR;omega
   refine(aDe _).trans ?_;rw[q0,show(d.prec==1)=true by rw[aFZ];exact p1.2 hm];rfl
 have q1:(d.prec==1)=false:=by rw[aAO];intro g;exact hm (p1.1 g)
 obtain⟨eM,eK⟩:=em hs hm
 by_cases hd:d.da.size=0
 . refine key r2 (xU S2 e2 fun a b c G=>?_) _ HB ?_
   . rcases Bk.iF hf F with⟨_,a1,_⟩|⟨a1,_⟩|⟨_,_,a3,a4,a5,a6,_⟩|⟨_,_,a1,_⟩<;>first|exact absurd hs a1|exact absurd a1 hm|exact absurd hd a1|skip
     rcases Bk.iF hf G with⟨_,b1,_⟩|⟨b1,_⟩|⟨_,_,b3,b4,b5,b6,_⟩|⟨_,_,b1,_⟩<;>first|exact absurd hs b1|exact absurd b1 hm|exact absurd hd b1|skip
     unfold Bk.Dt.ge xR;omega
   refine(aDe _).trans ?_;rw[q0,q1,show(d.prec==2)=true by rw[aFZ];exact p2.2 ⟨hs,hm,hd⟩];rfl
 have eK:=eK hd;refine key r3 (xU S3 e3 fun a b c G=>?_) _ HB ?_
 . unfold Bk.Dt.ge xR;omega
 refine(aDe _).trans ?_;rw[q0,q1,show(d.prec==2)=false by rw[aAO];intro g;exact hd (p2.1 g).2.2];rfl
theorem aMS(day:Int)(h0: -9223372036854775808<=day)(h1:day<9223372036854775808)(h:C9 d w0)(hc:d.dO=0): ∃r:RB,Same w0 277 #[aW d,.int .i64 day] r.v/\aCQ d day r:=by
 have hf:=Bk.dZ hc;obtain⟨F,HF,sF⟩:=Z5 h hc;obtain⟨B,HB,sB⟩:=NZ day h0 h1 h hc;have key: ∀r:RB,aCQ d day r->(∀v,Same w0 277 #[aW d,.int .i64 day] v->v=r.v-> ∃r:RB,Same w0 277 #[aW d,.int .i64 day] r.v/\aCQ d day r):=fun r hr v hv e=>⟨r,e ▸ hv,hr⟩;rcases sB with⟨yB,mB,kB,FB,rfl,lB,gB⟩|⟨rfl,gB⟩
 . obtain⟨N,HN,sN⟩:=aIL h hc FB;have HV:=aJo (d:=d) (day:=day) (hst:=h.st) (H0:=HF) (H1:=HB) (H2:=HN);rcases sF with⟨yF,mF,kF,FF,rfl,gF⟩|⟨rfl,gF⟩
   rotate_left
   . exact absurd FB (gF _ _ _)
   by_cases cF:d.lo yF mF kF<day
   rotate_left
   . refine key (eR d yF mF kF) (.inl ⟨_,_,_,FF,rfl,by omega,fun z n j G _=>gF z n j G⟩) _ HV ?_;show cond true (cond (decide (d.lo yF mF kF<day)) _ _) _=_;rw[aCw cF];rfl
   by_cases cB:d.lo yB mB kB=day
   . refine key (eR d yB mB kB) (.inl ⟨_,_,_,FB,rfl,by omega,fun z n j G hz hl=>?_⟩) _ HV ?_
     . have:=aIZ hf G FB hl;omega
     show cond true (cond (decide (d.lo yF mF kF<day)) (cond true (cond (d.lo yB mB kB==day) _ _) _) _) _=_;rw[aAP cF,show(d.lo yB mB kB==day)=true by rw[aFZ];exact cB];rfl
   have hv: ∀v:Value,cond true (cond (decide (d.lo yF mF kF<day)) (cond true (cond (d.lo yB mB kB==day) (.tuple #[(r4 0 (d.lo yB mB kB) 0 (d.hi yB mB kB)),(.bool true)]) v) (.tuple #[(r4 0 (d.lo yB mB kB) 0 (d.hi yB mB kB)),(.bool false)])) (.tuple #[(r4 0 (d.lo yF mF kF) 0 (d.hi yF mF kF)),(.bool true)])) (.tuple #[(r4 0 (d.lo yF mF kF) 0 (d.hi yF mF kF)),(.bool false)])=v:=fun v=>by
    rw[aAP cF,show(d.lo yB mB kB==day)=false by rw[aAO];exact cB];rfl
   have hbl: ∀z n j,d.Fill z n j->day<=d.lo z n j->xR yB mB kB z n j:=fun z n j G hz=>aDp hf FB G (by omega);rcases sN with⟨z,n,j,G,rfl,hl,g⟩|⟨rfl,g⟩
   . refine key (eR d z n j) (.inl ⟨_,_,_,G,rfl,?_,fun a b c A ha=>g a b c A (hbl a b c A ha)⟩) _ HV (hv _)
     by_cases c:day<=d.lo z n j
     . exact c
     exact absurd hl (gB z n j G (by omega))
   refine key nR (.inr ⟨rfl,fun a b c A=>?_⟩) _ HV (hv _)
   by_cases q:d.lo a b c<day
   . exact q
   exact absurd (hbl a b c A (by omega)) (g a b c A)
 obtain⟨N,_,HN⟩:=aP2 nR ⟨show -9223372036854775808<=(0:Int) by omega,show(0:Int)<9223372036854775808 by omega⟩ h;have HV:=aJo (d:=d) (day:=day) (hst:=h.st) (H0:=HF) (H1:=HB) (H2:=HN);rcases sF with⟨yF,mF,kF,FF,rfl,gF⟩|⟨rfl,gF⟩
 . have:=gB _ _ _ FF;refine key (eR d yF mF kF) (.inl ⟨_,_,_,FF,rfl,by omega,fun z n j G _=>gF z n j G⟩) _ HV ?_;show cond true (cond (decide (d.lo yF mF kF<day)) _ _) _=_;rw[aCw (by omega)];rfl
 exact key nR (.inr ⟨rfl,fun z n j G=>absurd G (gF z n j)⟩) _ HV rfl
theorem aCW(day:Int)(h0: -9223372036854775808<=day)(h1:day<9223372036854775808)(h:C9 d w0)(hc:d.dO=0): ∃r:RB,Same w0 280 #[aW d,.int .i64 day] r.v/\aCP d day r:=by
 have hf:=Bk.dZ hc;obtain⟨L,HL,sL⟩:=IZ h hc;obtain⟨B,HB,sB⟩:=NZ day h0 h1 h hc;have key: ∀r:RB,aCP d day r->(∀v,Same w0 280 #[aW d,.int .i64 day] v->v=r.v-> ∃r:RB,Same w0 280 #[aW d,.int .i64 day] r.v/\aCP d day r):=fun r hr v hv e=>⟨r,e ▸ hv,hr⟩;have bB: -9223372036854775808<=B.lo - 1+1/\B.lo - 1<9223372036854775807/\(B.is=true-> -9223372036854775808<B.lo):=by
  rcases sB with⟨y,m,k,FB,rfl,_⟩|⟨rfl,_⟩
  . have:=ZN hc FB;show _<=d.lo y m k - 1+1/\d.lo y m k - 1<_/\(true=true->_<d.lo y m k);omega
  show _<=(0:Int) - 1+1/\(0:Int) - 1<_/\(false=true->_);simp
 obtain⟨C,HC,sC⟩:=NZ (IntKind.i64.wrap (B.lo - 1)) (mX _).1 (mX _).2 h hc;have HV:=aO8 (d:=d) (day:=day) (hst:=h.st) (H0:=HL) (H1:=HB) (H2:=HC);rcases sL with⟨yL,mL,kL,FL,rfl,gL⟩|⟨rfl,gL⟩
 rotate_left
 . exact key nR (.inr ⟨rfl,fun z n j G=>absurd G (gL z n j)⟩) _ HV rfl
 by_cases cL:day<d.hi yL mL kL
 rotate_left
 . refine key (eR d yL mL kL) (.inl ⟨_,_,_,FL,rfl,by omega,fun z n j G _=>gL z n j G⟩) _ HV ?_;show cond true (cond (decide (day<d.hi yL mL kL)) _ _) _=_;rw[aCw cL];rfl
 rcases sB with⟨yB,mB,kB,FB,rfl,lB,gB⟩|⟨rfl,gB⟩
 rotate_left
 . refine key nR (.inr ⟨rfl,fun z n j G=>by have:=gB z n j G;have:=Bk.uM hf G;omega⟩) _ HV ?_;show cond true (cond (decide (day<d.hi yL mL kL)) (cond false _ _) _) _=_;rw[aAP cL];rfl
 by_cases cB:day<d.hi yB mB kB
 rotate_left
 . refine key (eR d yB mB kB) (.inl ⟨_,_,_,FB,rfl,by omega,fun z n j G hz=>gB z n j G (by have:=Bk.uM hf G;omega)⟩) _ HV ?_;show cond true (cond (decide (day<d.hi yL mL kL)) (cond true (cond (decide (day<d.hi yB mB kB)) _ _) _) _) _=_;rw[aAP cL,aCw cB];rfl
 have bl:=ZN hc FB;have ew:IntKind.i64.wrap (d.lo yB mB kB - 1)=d.lo yB mB kB - 1:=by rw[aGZ];omega
 have sC:JE d (d.lo yB mB kB - 1) C:=by rw[<-ew];exact sC
 have hv: ∀v:Value,cond true (cond (decide (day<d.hi yL mL kL)) (cond true (cond (decide (day<d.hi yB mB kB)) (cond (d.lo yB mB kB==(-9223372036854775808)) (.tuple #[(r4 0 0 0 0),(.bool false)]) v) (.tuple #[(r4 0 (d.lo yB mB kB) 0 (d.hi yB mB kB)),(.bool true)])) (.tuple #[(r4 0 (d.lo yB mB kB) 0 (d.hi yB mB kB)),(.bool false)])) (.tuple #[(r4 0 (d.lo yL mL kL) 0 (d.hi yL mL kL)),(.bool true)])) (.tuple #[(r4 0 (d.lo yL mL kL) 0 (d.hi yL mL kL)),(.bool false)])=v:=fun v=>by
  rw[aAP cL,aAP cB,show(d.lo yB mB kB==(-9223372036854775808))=false by rw[aAO];omega];rfl
 have hz: ∀z n j,d.Fill z n j->d.hi z n j<=day->xR z n j yB mB kB:=fun z n j G hz=>by
  have h2:=Bk.uM hf G;have h3:=gB z n j G (by omega)
  by_cases c:xR z n j yB mB kB
  . exact c
  obtain⟨rfl,rfl,rfl⟩:=Bk.BI h3 c;omega
 rcases sC with⟨y,m,k,FC,rfl,lC,gC⟩|⟨rfl,gC⟩
 . have hl:=Bk.NC hf FC FB (aDp hf FC FB (by omega));refine key (eR d y m k) (.inl ⟨_,_,_,FC,rfl,by omega,fun z n j G hh=>gC z n j G ?_⟩) _ HV (hv _);have:=Bk.NC hf G FB (hz z n j G hh);have:=Bk.uM hf G;omega
 refine key nR (.inr ⟨rfl,fun z n j G=>?_⟩) _ HV (hv _)
 by_cases c:day<d.hi z n j
 . exact c
 have:=aIZ hf G FB (hz z n j G (by omega));have:=gC z n j G;omega
end
end Sk
end
section
open Go.RowKit Go.Lib
namespace Sk
open Un (ba bt ri rb aI)
open Cal
open Bk (Rw Dt aW lW xR)
open Ev (aV dQ hp)
def aNp(w1:World)(k:Int)(bs:Option Addr)(n cp:Nat)(d:Dt)(p a lo b hi:Int):Prop:=
 ∃ (J:Nat->RB->Prop) (r0:RB),Same w1 12 #[fam k (.slice bs n cp) d p a lo b hi] (aAB r0)/\(r0.is=true->J 0 r0)/\(∀i r,J i r->r.b=0\/r.b=1)/\
  ∀(i:Nat) (r:RB),i<40->J i r->r.b=0-> ∃q:RB,Same w1 13 #[fam k (.slice bs n cp) d p a lo b hi,.int .i64 (IntKind.i64.wrap (r.hi+1))] (aAB q)/\
   (q.is=true->r.hi<q.lo/\Same w1 14 #[fam k (.slice bs n cp) d p a lo b hi,.int .i64 (IntKind.i64.wrap (q.lo - 1))] (aAB r)/\J (i+1) q)
def aNN(w1:World)(k:Int)(bs:Option Addr)(n cp:Nat)(d:Dt)(p a lo b hi:Int):Prop:=
 ∃ (J:Nat->RB->Prop) (r0:RB),Same w1 15 #[fam k (.slice bs n cp) d p a lo b hi] (aAB r0)/\(r0.is=true->J 0 r0)/\(∀i r,J i r->r.a=0\/r.a= -1)/\
  ∀(i:Nat) (r:RB),i<40->J i r->r.a=0-> ∃q:RB,Same w1 14 #[fam k (.slice bs n cp) d p a lo b hi,.int .i64 (IntKind.i64.wrap (r.lo - 1))] (aAB q)/\
   (q.is=true->q.hi<r.lo/\J (i+1) q)
section
variable{w1:World}{bs:Option Addr}{n cp:Nat}{d:Dt}{p a lo b hi:Int}
theorem aSr{ua ul ub uh:Int}(hst:aV dQ.g.n dQ.l w1 hp)(hC:Same w1 8 #[fam 1 (.slice bs n cp) d p a lo b hi] (.int .i64 0))
 (hS:Same w1 58 #[fam 1 (.slice bs n cp) d p a lo b hi] (.iface 128 (r4 ua ul ub uh))) (hb:ub=0\/ub=1) (h0: -4611686018427387904<=uh) (h1:uh<=4611686018427387904) (hle:ua=0->ub=0->ul<=uh):
 aNp w1 1 bs n cp d p a lo b hi:=by
 refine⟨fun _ r=>r=⟨ua,ul,ub,uh,true⟩,⟨ua,ul,ub,uh,true⟩,aIb 1 bs n cp d p a lo b hi ua ul ub uh hst hC hS,fun _=>rfl,fun i r h=>by subst h;exact hb,?_⟩;rintro i r _ rfl hz;have hz:ub=0:=hz;subst hz;refine⟨⟨0,0,0,0,false⟩,DC (aL8 1 bs n cp d p a lo b hi (IntKind.i64.wrap (uh+1)) ua ul 0 uh hst hC hS) ?_,fun q=>by cases q⟩;have e:IntKind.i64.wrap (uh+1)=uh+1:=qH (by omega) (by omega);rw[e]
 by_cases c:ua=0
 . rw[show (ua==0)=true by simpa using c,aAP (show ul<uh+1 by have:=hle c rfl;omega)];rfl
 rw[show (ua==0)=false by simpa using c];rfl
theorem aTB{ua ul ub uh:Int}(hst:aV dQ.g.n dQ.l w1 hp)(hC:Same w1 8 #[fam 1 (.slice bs n cp) d p a lo b hi] (.int .i64 0))
 (hS:Same w1 58 #[fam 1 (.slice bs n cp) d p a lo b hi] (.iface 128 (r4 ua ul ub uh))) (ha:ua=0\/ua= -1) (h0: -4611686018427387904<=ul) (h1:ul<=4611686018427387904) (hle:ua=0->ub=0->ul<=uh):
 aNN w1 1 bs n cp d p a lo b hi:=by
 refine⟨fun _ r=>r=⟨ua,ul,ub,uh,true⟩,⟨ua,ul,ub,uh,true⟩,aL7 1 bs n cp d p a lo b hi ua ul ub uh hst hC hS,fun _=>rfl,fun i r h=>by subst h;exact ha,?_⟩;rintro i r _ rfl hz;have hz:ua=0:=hz;subst hz;refine⟨⟨0,0,0,0,false⟩,DC (aL5 1 bs n cp d p a lo b hi (IntKind.i64.wrap (ul - 1)) 0 ul ub uh hst hC hS) ?_,fun q=>by cases q⟩;have e:IntKind.i64.wrap (ul - 1)=ul - 1:=qH (by omega) (by omega);rw[e]
 by_cases c:ub=0
 . rw[show (ub==0)=true by simpa using c,aAP (show ul - 1<uh by have:=hle rfl c;omega)];rfl
 rw[show (ub==0)=false by simpa using c];rfl
structure UJ(p a lo b hi:Int)(i:Nat)(r:RB):Prop where
 is:r.is=true
 ra:r.a=0
 rb:r.b=0
 un:aKl p r.lo r.hi
 lo:0<=bK 0 r.lo a lo
 hi:bK 0 r.hi b hi<=0
 b0:p=3-> -4611686018427387904 - (i:Int)<=r.lo
 b1:p=3->r.hi<=4611686018427387904+(i:Int)
theorem aQX{x lo a:Int}(ha:a=0)(h:0<=bK 0 x a lo):lo<=x:=by
 subst ha;unfold bK at h;split at h
 . omega
 split at h
 . omega
 split at h
 . omega
 omega
theorem aJ0{x hi b:Int}(hb:b=0)(h:bK 0 x b hi<=0):x<=hi:=by
 subst hb;unfold bK at h;split at h
 . omega
 split at h
 . omega
 split at h
 . omega
 omega
theorem VG{t:Int × Int × Int}(h:(VH a lo b hi t).is=true):t.2.2=0/\0<=bK 0 t.1 a lo/\bK 0 t.2.1 b hi<=0/\VH a lo b hi t=⟨0,t.1,0,t.2.1,true⟩:=by
 unfold VH at h ⊢
 by_cases c:t.2.2=0/\0<=bK 0 t.1 a lo/\bK 0 t.2.1 b hi<=0
 . rw[aFV c];exact⟨c.1,c.2.1,c.2.2,rfl⟩
 rw[aB9 c]at h;cases h
theorem aCX{i:Nat}{t:Int × Int × Int}{day:Int}(hpr:1<=p/\p<=3)(ht:aI p day=t)(h:(VH a lo b hi t).is=true)(h0:p=3-> -4611686018427387904 - (i:Int)<=day/\day<=4611686018427387904+(i:Int)):UJ p a lo b hi i (VH a lo b hi t):=by
 obtain⟨h1,h2,h3,h4⟩:=VG h;obtain⟨x,y,e⟩:=t;dsimp only at h1 h2 h3 h4;subst h1;rw[h4];have hu:=aPa hpr ht;have hd:p=3->x=day/\y=day:=fun q=>by
  subst q;unfold aI Un.kS at ht;rw[aB9 (by omega),aFV rfl]at ht;simp only[aOL]at ht;omega
 refine⟨rfl,rfl,rfl,hu,h2,h3,fun q=>?_,fun q=>?_⟩
 . have:=hd q;have:=h0 q;show _<=x;omega
 have:=hd q;have:=h0 q;show y<=_;omega
theorem aO9(hst:aV dQ.g.n dQ.l w1 hp)(hk:lW w1)(hC:Same w1 8 #[fam 3 (.slice bs n cp) d p a lo b hi] (.int .i64 0))(hpr:1<=p/\p<=3)
 (g0: -4611686018427387904<=lo) (g1:lo<=4611686018427387904) (g2: -4611686018427387904<=hi) (g3:hi<=4611686018427387904):aNp w1 3 bs n cp d p a lo b hi:=by
 have HF:=aIW 3 bs n cp d p a lo b hi _ _ _ _ _ hst hC (RI hk hst (p:=p) (by omega) (by omega) (by omega) (by omega));refine⟨UJ p a lo b hi,_,HF,fun h=>?_,fun i r h=>.inl h.rb,?_⟩
 . by_cases c:a=0
   . rw[aFV c]at h ⊢;exact aCX hpr rfl h (fun _=>by omega)
   rw[aB9 c]at h;cases h
 rintro i ⟨ra,x,rb',y,ris⟩ aWt hJ _;obtain⟨q1,q2,q3,hu,h2,h3,b0,b1⟩:=hJ;dsimp only at q1 q2 q3 hu h2 h3 b0 b1;subst q1 q2 q3;have hxy:=hu.le;have hbd: -9223372036854775808<=y/\y+1<9223372036854775807:=by
  rcases hu.bd with⟨c,e⟩|⟨c,e1,e2⟩
  . have:=b0 c;have:=b1 c;omega
  omega
 have ew:IntKind.i64.wrap (y+1)=y+1:=qH (by omega) (by omega);have HR:=aMG 3 bs n cp d p a lo b hi (y+1) _ _ _ _ _ hst hC (aIS (a:=a) (lo:=lo) (b:=b) (hi:=hi) (y+1) hk hst hpr (by omega) (by omega) (by omega) (by omega) (by
  by_cases c:a=0
  . right;have:=aQX c h2;omega
  exact .inl c) (fun e=>(hu.next (aI p (y+1)).1 (aI p (y+1)).2.1 (by rw[<-e])).1))
 refine⟨_,by show Same w1 _ #[_,.int .i64 (IntKind.i64.wrap (y+1))] _;rw[ew];exact HR,fun hq=>?_⟩;have hJ':=aCX (i:=i+1) hpr rfl hq (fun c=>by have:=b0 c;have:=b1 c;omega);obtain⟨t1,t2,t3,t4⟩:=VG hq;obtain⟨hn,_⟩:=hu.next (aI p (y+1)).1 (aI p (y+1)).2.1 (by rw[<-t1]);rw[t4];rw[t4]at hJ';have hle2:=hJ'.un.le;dsimp only at hle2 ⊢;refine⟨by omega,?_,hJ'⟩;rw[hn];have ew2:IntKind.i64.wrap (y+1 - 1)=y:=by rw[show y+1 - 1=y by omega];exact qH (by omega) (by omega)
 rw[ew2];have HU:=aDo 3 bs n cp d p a lo b hi y _ _ _ _ _ hst hC (ZF (a:=a) (lo:=lo) (b:=b) (hi:=hi) y hk hst hpr (by omega) (by omega) (by omega) (by omega) (by
  by_cases c:b=0
  . right;have:=aJ0 c t3;omega
  exact .inl c) (fun _=>by rw[hu.self]))
 rw[hu.self]at HU;have e:VH a lo b hi (x,y,0)=⟨0,x,0,y,true⟩:=by unfold VH;rw[aFV ⟨rfl,h2,h3⟩]
 rw[e]at HU;exact HU
theorem aQN(hst:aV dQ.g.n dQ.l w1 hp)(hk:lW w1)(hC:Same w1 8 #[fam 3 (.slice bs n cp) d p a lo b hi] (.int .i64 0))(hpr:1<=p/\p<=3)
 (g0: -4611686018427387904<=lo) (g1:lo<=4611686018427387904) (g2: -4611686018427387904<=hi) (g3:hi<=4611686018427387904):aNN w1 3 bs n cp d p a lo b hi:=by
 have HF:=aMF 3 bs n cp d p a lo b hi _ _ _ _ _ hst hC (ZG hk hst (p:=p) (by omega) (by omega) (by omega) (by omega));refine⟨UJ p a lo b hi,_,HF,fun h=>?_,fun i r h=>.inl h.ra,?_⟩
 . by_cases c:b=0
   . rw[aFV c]at h ⊢;exact aCX hpr rfl h (fun _=>by omega)
   rw[aB9 c]at h;cases h
 rintro i ⟨ra,x,rb',y,ris⟩ aWt hJ _;obtain⟨q1,q2,q3,hu,h2,h3,b0,b1⟩:=hJ;dsimp only at q1 q2 q3 hu h2 h3 b0 b1;subst q1 q2 q3;have hxy:=hu.le;have hbd: -9223372036854775808<x - 1/\x - 1<9223372036854775807:=by
  rcases hu.bd with⟨c,e⟩|⟨c,e1,e2⟩
  . have:=b0 c;have:=b1 c;omega
  omega
 have ew:IntKind.i64.wrap (x - 1)=x - 1:=qH (by omega) (by omega);have HR:=aDo 3 bs n cp d p a lo b hi (x - 1) _ _ _ _ _ hst hC (ZF (a:=a) (lo:=lo) (b:=b) (hi:=hi) (x - 1) hk hst hpr (by omega) (by omega) (by omega) (by omega) (by
  by_cases c:b=0
  . right;have:=aJ0 c h3;omega
  exact .inl c) (fun e=>(hu.prev (aI p (x - 1)).1 (aI p (x - 1)).2.1 (by rw[<-e])).1))
 refine⟨_,by show Same w1 _ #[_,.int .i64 (IntKind.i64.wrap (x - 1))] _;rw[ew];exact HR,fun hq=>?_⟩;have hJ':=aCX (i:=i+1) hpr rfl hq (fun c=>by have:=b0 c;have:=b1 c;omega);obtain⟨t1,t2,t3,t4⟩:=VG hq;obtain⟨hn,_⟩:=hu.prev (aI p (x - 1)).1 (aI p (x - 1)).2.1 (by rw[<-t1]);refine⟨?_,hJ'⟩;rw[t4];dsimp only;omega
theorem aTd{d:Dt}(hc:d.dO=0){y m k:Int}(F:d.Fill y m k): -9223372036854775808<d.hi y m k/\d.hi y m k<9223372036854775806:=by
 have hin:=jU hc F.1;have b0:=Un.jQ (y:=y) (by omega) (by omega);have b1:=Un.jQ (y:=y+1) (by omega) (by omega);have hf:=Bk.dZ hc;rcases Bk.iF hf F with⟨_,_,_,_,_,a,b⟩|⟨_,_,_,_,_,_,_,a,b⟩|⟨_,_,_,m0,m1,_,a,b⟩|⟨_,_,_,m0,m1,k0,k1,a,b⟩
 . rw[b];omega
 . have f:=Bk.J8 m;have c0:=@Bk.aEB y (Bk.dF m) (Bk.eH m) hin.1 hin.2 (by omega) (by omega) (by omega);rw[b];omega
 . have c0:=@dW y (m+1) (by omega) (by omega);rw[b];omega
 have c0:=@dW y m (by omega) (by omega);have:=dJ y m;rw[b];omega
theorem aSs(h:C9 d w1)(hc:d.dO=0)(hC:Same w1 8 #[fam 2 (.slice bs n cp) d p a lo b hi] (.int .i64 0)):aNp w1 2 bs n cp d p a lo b hi:=by
 have hf:=Bk.dZ hc;obtain⟨r0,H0,s0⟩:=Z5 h hc;refine⟨fun _ r=> ∃y m k,d.Fill y m k/\r=eR d y m k,r0,aJB 2 bs n cp d p a lo b hi _ _ _ _ _ h.st hC H0,fun hr=>?_,?_,?_⟩
 . rcases s0 with⟨y,m,k,F,e,_⟩|⟨e,_⟩
   . exact⟨y,m,k,F,e⟩
   rw[e]at hr;cases hr
 . rintro i r ⟨y,m,k,F,rfl⟩;exact .inl rfl
 rintro i r _ ⟨y,m,k,F,rfl⟩ _;have hb:=aTd hc F;have ew:IntKind.i64.wrap (d.hi y m k+1)=d.hi y m k+1:=qH (by omega) (by omega);obtain⟨q,Hq,sq⟩:=aMS (d.hi y m k+1) (by omega) (by omega) h hc;have HR:=aMX 2 bs n cp d p a lo b hi (d.hi y m k+1) _ _ _ _ _ h.st hC Hq;refine⟨q,by show Same w1 _ #[_,.int .i64 (IntKind.i64.wrap (d.hi y m k+1))] _;rw[ew];exact HR,fun hq=>?_⟩;rcases sq with⟨z,u,j,G,rfl,hz,gz⟩|⟨rfl,_⟩
 rotate_left
 . cases hq
 have hzb:=ZN hc G;refine⟨by show d.hi y m k<d.lo z u j;omega,?_,z,u,j,G,rfl⟩;have ew2:IntKind.i64.wrap (d.lo z u j - 1)=d.lo z u j - 1:=qH (by omega) (by omega);obtain⟨r,Hr,sr⟩:=aCW (d.lo z u j - 1) (by omega) (by omega) h hc;have HU:=aDI 2 bs n cp d p a lo b hi (d.lo z u j - 1) _ _ _ _ _ h.st hC Hr;show Same w1 _ #[_,.int .i64 (IntKind.i64.wrap (d.lo z u j - 1))] _;rw[ew2];have e:r=eR d y m k:=by
  rcases sr with⟨y2,m2,k2,F2,rfl,h2,g2⟩|⟨rfl,g2⟩
  . have n1:=g2 y m k F (by omega);have n2: ¬xR y m k y2 m2 k2:=fun hl=>by
     have q1:=Bk.NC hf F F2 hl;have q2:=Bk.uM hf F2;exact gz y2 m2 k2 F2 (by omega) (aDp hf F2 G (by omega))
    obtain⟨rfl,rfl,rfl⟩:=Bk.BI n1 n2
    rfl
  have:=g2 y m k F;omega
 rw[e]at HU;exact HU
theorem aTC(h:C9 d w1)(hc:d.dO=0)(hC:Same w1 8 #[fam 2 (.slice bs n cp) d p a lo b hi] (.int .i64 0)):aNN w1 2 bs n cp d p a lo b hi:=by
 have hf:=Bk.dZ hc;obtain⟨r0,H0,s0⟩:=IZ h hc;refine⟨fun _ r=> ∃y m k,d.Fill y m k/\r=eR d y m k,r0,aMW 2 bs n cp d p a lo b hi _ _ _ _ _ h.st hC H0,fun hr=>?_,?_,?_⟩
 . rcases s0 with⟨y,m,k,F,e,_⟩|⟨e,_⟩
   . exact⟨y,m,k,F,e⟩
   rw[e]at hr;cases hr
 . rintro i r ⟨y,m,k,F,rfl⟩;exact .inl rfl
 rintro i r _ ⟨y,m,k,F,rfl⟩ _;have hb:=ZN hc F;have ew:IntKind.i64.wrap (d.lo y m k - 1)=d.lo y m k - 1:=qH (by omega) (by omega);obtain⟨q,Hq,sq⟩:=aCW (d.lo y m k - 1) (by omega) (by omega) h hc;have HR:=aDI 2 bs n cp d p a lo b hi (d.lo y m k - 1) _ _ _ _ _ h.st hC Hq;refine⟨q,by show Same w1 _ #[_,.int .i64 (IntKind.i64.wrap (d.lo y m k - 1))] _;rw[ew];exact HR,fun hq=>?_⟩;rcases sq with⟨z,u,j,G,rfl,hz,gz⟩|⟨rfl,_⟩
 rotate_left
 . cases hq
 exact⟨by show d.hi z u j<d.lo y m k;omega,z,u,j,G,rfl⟩
end
end Sk
end
section
open Go.RowKit Go.Lib
namespace Sk
open Bk (Dt aW)
open Ev (aV dQ hp dU Lf PD aT fV)
section
variable{w1:World}{k:Int}{bs:Option Addr}{n cp:Nat}{d:Dt}{p a lo b hi:Int}
theorem aO3{Q:Exit->Act->World->Prop}{c:Int}(hst:SS w1)(hc:0<c)(R:Same w1 7 #[fam k (.slice bs n cp) d p a lo b hi] (.int .i64 c))(S:Same w1 8 #[fam k (.slice bs n cp) d p a lo b hi] (.int .i64 c))
 (L:Same w1 9 #[] (.bool true)) {P:List Nat} {a0:Act} {w:World} (hw:dU w1 146 P [(44,lF k (.slice bs n cp) d p a lo b hi)] [(2,.bool false),(3,pt P 0)] a0 w)
 (hQ: ∀P' F' a' w',dU w1 146 P' F' [(2,.bool true)] a' w'->Q .ret a' w'):(aT [1,1] kJ).wp Tryz.prog Q a0 w:=by
 refine aSo k bs n cp d p a lo b hi c hst R S L hw ⟨fun _=>⟨fun g=>?_,fun _ P' a' w' _ s=>hQ P' _ a' w' s⟩,fun g=>absurd hc (aPA g)⟩;have:c=0:=by simpa using g
 omega
theorem TT{Q:Exit->Act->World->Prop}(hst:SS w1)(R:Same w1 7 #[fam k (.slice bs n cp) d p a lo b hi] (.int .i64 0))(U:aNp w1 k bs n cp d p a lo b hi)(D:aNN w1 k bs n cp d p a lo b hi)
 (L:Same w1 9 #[] (.bool true)) {P:List Nat} {a0:Act} {w:World} (hw:dU w1 146 P [(44,lF k (.slice bs n cp) d p a lo b hi)] [(2,.bool false),(3,pt P 0)] a0 w)
 (hQ: ∀P' F' a' w',dU w1 146 P' F' [(2,.bool true)] a' w'->Q .ret a' w'):(aT [1,1] kJ).wp Tryz.prog Q a0 w:=by
 obtain⟨J,r0,HF,hJ0,hone,hstep⟩:=U;obtain⟨J2,l0,HL,hJ2,aTb,hstep2⟩:=D;refine aO6 k bs n cp d p a lo b hi r0.a r0.lo r0.b r0.hi r0.is hst R HF hw (fun P1 a1 w1' _ s1=>?_);show(fV 3 (aT [1,1] kJ)).wp _ Q a1 w1';rw[show fV 3 (aT [1,1] kJ)=.seq (.seq (aT [1,1,1,1,1,0,0] kJ) (aT [1,1,1,1,1,0,1] kJ)) (aT [1,1,1,1,1,1] kJ) by kernel_rfl];refine aVA (aVA ?_);refine aVm k bs n cp d p a lo b hi r0.a r0.lo r0.b r0.hi r0.is hst (EZ s1 (by intro e he;simp only[aG4,aNL,aUG]at he ⊢;rcases he with h|h|h|h<;>simp[h])) (fun P2 a2 w2 _ s2=>?_);show(aT [1,1,1,1,1,0,1] kJ).wp _ _ a2 w2;refine aQf hst J hone hstep r0 hJ0 (EZ s2 (by intro e he;simp only[aG4,aNL,aUG]at he ⊢;rcases he with h|h|h|h|h<;>simp[h])) (fun r P3 a3 w3 s3=>?_);show(aT [1,1,1,1,1,1] kJ).wp _ Q a3 w3;refine aO5 k bs n cp d p a lo b hi r.a r.lo r.b r.hi l0.a l0.lo l0.b l0.hi l0.is hst HL s3 (fun P4 a4 w4 _ s4=>?_);show(fV 2 (aT [1,1,1,1,1,1] kJ)).wp _ Q a4 w4;rw[show fV 2 (aT [1,1,1,1,1,1] kJ)=.seq (.seq (aT [1,1,1,1,1,1,1,1,0,0] kJ) (aT [1,1,1,1,1,1,1,1,0,1] kJ)) (aT [1,1,1,1,1,1,1,1,1] kJ) by kernel_rfl];refine aVA (aVA ?_);refine aSm k bs n cp d p a lo b hi l0.a l0.lo l0.b l0.hi l0.is hst (EZ s4 (by intro e he;simp only[aG4,aNL,aUG]at he ⊢;rcases he with h|h|h|h<;>simp[h])) (fun P5 a5 w5 _ s5=>?_);show(aT [1,1,1,1,1,1,1,1,0,1] kJ).wp _ _ a5 w5;refine aQg hst J2 aTb hstep2 l0 hJ2 (EZ s5 (by intro e he;simp only[aG4,aNL,aUG]at he ⊢;rcases he with h|h|h|h|h<;>simp[h])) (fun r' P6 a6 w6 s6=>?_);show(aT [1,1,1,1,1,1,1,1,1] kJ).wp _ Q a6 w6;exact aSn k bs n cp d p a lo b hi r'.a r'.lo r'.b r'.hi hst L s6 (fun P7 a7 w7 _ s7=>hQ P7 _ a7 w7 s7)
end
end Sk
end
section
open Go.RowKit Go.Lib
namespace Sk
open Bk (Dt aW lW)
open Ev (aV dQ hp dU Lf PD aT fV)
structure aCS(k:Int)(bs:Option Addr)(n:Nat)(f:Nat->R4)(d:Dt)(p a lo b hi:Int)(w:World):Prop where
 ok:aK6 k bs n f d p a lo b hi w
 k0:0<=k
 one:k=1->n=1->((f 0).a=0\/(f 0).a= -1)/\((f 0).b=0\/(f 0).b=1)/\(-4611686018427387904<=(f 0).lo/\(f 0).lo<=4611686018427387904)/\(-4611686018427387904<=(f 0).hi/\(f 0).hi<=4611686018427387904)/\((f 0).a=0->(f 0).b=0->(f 0).lo<=(f 0).hi)
 un:k=3->(-4611686018427387904<=lo/\lo<=4611686018427387904)/\(-4611686018427387904<=hi/\hi<=4611686018427387904)
theorem aF6{n:Nat}{p a b:Int}{U:Bool}{S R:Int}{d:Dt}{X M FT:Bool}(h:IE 2 n p a b U S R d.err d.sig X M FT=0):d.dO=0:=by
 unfold IE at h;rw[aB9 (by omega)]at h
 by_cases c:U=false
 . rw[aFV c]at h;omega
 rw[aB9 c,aB9 (by omega),aFV rfl]at h
 by_cases e:d.err=0
 . rw[aB9 (by omega)]at h;unfold Bk.Dt.dO;rw[aB9 (by omega)]
   by_cases q:d.sig=0/\X=true/\M=true
   . rw[aB9 (by omega)]
   rw[aB9 q]at h;omega
 rw[aFV e]at h;exact absurd h e
theorem aO2{w1:World}{k:Int}{bs:Option Addr}{n cp:Nat}{f:Nat->R4}{d:Dt}{p a lo b hi:Int}{Q:Exit->Act->World->Prop}(hst:SS w1)(hk:lW w1)(F:aCS k bs n f d p a lo b hi w1)
 (L:Same w1 9 #[] (.bool true)) {P:List Nat} {a0:Act} {w:World} (hw:dU w1 146 P [(44,lF k (.slice bs n cp) d p a lo b hi)] [(2,.bool false),(3,pt P 0)] a0 w)
 (hQ: ∀P' F' a' w',dU w1 146 P' F' [(2,.bool true)] a' w'->Q .ret a' w'):(aT [1,1] kJ).wp Tryz.prog Q a0 w:=by
 have h:=F.ok;have D:C9 d w1:=⟨hk,hst,h.mo,h.dg,h.m0,h.m1,h.m2⟩;obtain⟨zd,hd1,hd2⟩:=aJT d;obtain⟨zr,hr1,hr2⟩:=aLT a lo b hi;obtain⟨M,hm1,hm2⟩:=aFL d.m0 d.m1 d.m2;obtain⟨e,he⟩: ∃e,e=IE k n p a b (qI k (decide (n=0)) zd (p==0) zr) (mG f n) (dM a lo b hi) d.err d.sig (xX d) M (FY p a lo b hi):=⟨_,rfl⟩;have hsame:Same w1 22 #[fam k (.slice bs n cp) d p a lo b hi] (.int .i64 e):=by
  have:=QC k bs n cp f d p a lo b hi hst hk h ⟨hd1,hd2⟩ ⟨hr1,hr2⟩ ⟨hm1,hm2⟩;rw[<-he]at this;exact this
 have aQq:Same w1 21 #[fam k (.slice bs n cp) d p a lo b hi] (.int .i64 e):=by
  have:=O9 k bs n cp f d p a lo b hi zd zr M w1 hst h F.k0 ⟨hd1,hd2⟩ ⟨hr1,hr2⟩ ⟨hm1,hm2⟩;rw[<-he]at this;exact this
 have hep:0<=d.err:=by
  by_cases c:d.err=0
  . omega
  have:=aDJ c;omega
 have e0:0<=e:=by rw[he];exact aJD _ _ _ _ _ _ _ _ _ _ _ _ _ (aEw f n) hep
 have S:=aEF hst hsame;have R:=aET hst e0 aQq
 by_cases hbad:0<IG k n e
 . exact aO3 hst hbad R S L hw hQ
 have hb0:IG k n e=0:=by have:=@aJ7 k n e e0;omega
 obtain⟨ez,k3⟩:=aGn hb0;rw[hb0]at R S;have ez':=ez;rw[he]at ez;obtain⟨k1,kn,kp⟩:=aF5 ez;have hkk:k=1\/k=2\/k=3:=by omega
 rcases hkk with rfl|rfl|rfl
 . have hn:n=1:=by
    have:=kn rfl;unfold IG at hb0;rw[aB9 (by omega)]at hb0
    by_cases c:1<n
    . rw[aFV ⟨rfl,c⟩]at hb0;omega
    omega
   obtain⟨g1,g2,g3,g4,g5⟩:=F.one rfl hn;have hS:Same w1 58 #[fam 1 (.slice bs n cp) d p a lo b hi] (.iface 128 (r4 (f 0).a (f 0).lo (f 0).b (f 0).hi)):=fun W hb=>XY bs n cp f d p a lo b hi W (h.run.later hb) (by omega);exact TT hst R (aSr hst S hS g2 g4.1 g4.2 g5) (aTB hst S hS g1 g3.1 g3.2 g5) L hw hQ
 . have hc:=aF6 ez;exact TT hst R (aSs D hc S) (aTC D hc S) L hw hQ
 obtain⟨g1,g2⟩:=F.un rfl;exact TT hst R (aO9 hst hk S (kp rfl) g1.1 g1.2 g2.1 g2.2) (aQN hst hk S (kp rfl) g1.1 g1.2 g2.1 g2.2) L hw hQ
end Sk
end
section
open Go.RowKit Go.Lib
namespace Sk
open Bk (Dt aW)
open Ev (aV DT LG dQ tb2 jP hp uY iW iV lT kR OJ FQ lY aN AV yJ rG dS aG aJ eG kX lX dU Lf PD dY aT fV FT Ans rV)
abbrev zFl:List Value:=[.int .u8 0,.slice none 0 0,.bool false,.bool false,.string ⟨#[]⟩,.int .i64 0,.int .i64 0,.string ⟨#[]⟩,.string ⟨#[]⟩,.int .u8 0,.int .u8 0,.int .u8 0,.int .u8 0,.int .i8 0,.int .i64 0,.int .i8 0,.int .i64 0]
abbrev dl(d:Bk.Dt):List Value:=[.bool d.neg,.bool d.long,.string d.dg,.int .i64 d.ex,.int .i64 d.sig,.string d.mo,.string d.da,.int .u8 d.m0,.int .u8 d.m1,.int .u8 d.m2]
noncomputable def sK:Code:=match(Tryz.f6).body with
 |some c=>c
 |none=>.skip
def yf0:AV:=aN 5 .u8 [(qu 0),(.v (.int .u8 5))]
def yf1:AV:=aN 5 .u8 [(qu 2),(.v (.int .u8 4))]
def yf2:AV:=aN 5 .u8 [(qu 1),(.v (.int .u8 3))]
def yf3:AV:=aN 1 .u8 [(.v (.int .u8 1)),yf2]
def yf4:List AV:=[.v (.int .u8 1),aN 5 .u8 [(qu 1),.v (.int .u8 3)]]
def yf5:List AV:=[(qb 16),(qb 17),(qs 18),(qi 19),(qi 20),(qs 21),(qs 22),(qu 23),(qu 24),(qu 25)]
def QL:List AV:=[(qu 0),(qu 1),(qu 2),(qu 3),(qb 4),(kR 5),(qu 6),(qu 7),(qu 8),(qu 9),(qu 10),(qu 11),(qu 12),(iW 13),(qu 14),(lY 15)]
def yf7:List AV:=[.v (.int .u8 0),.v (.slice none 0 0),qf,qf,.v (.string ⟨#[]⟩),qz,qz,.v (.string ⟨#[]⟩),.v (.string ⟨#[]⟩),.v (.int .u8 0),.v (.int .u8 0),.v (.int .u8 0),.v (.int .u8 0),q8,qz,q8,qz]
def yf8:List AV:=[(.v (.int .u8 0)),(.v (.slice none 0 0)),qf,qf,(.v (.string ⟨#[]⟩)),qz,qz,(.v (.string ⟨#[]⟩)),(.v (.string ⟨#[]⟩)),(.v (.int .u8 0)),(.v (.int .u8 0)),(.v (.int .u8 0)),(.v (.int .u8 0)),q8,qz,q8,qz]
def aKM:lX:=(.node 0 yf0 (.v (.int .u8 1)) lX.no (.node 0 yf0 (.v (.int .u8 2)) lX.no (.node 0 yf0 (.v (.int .u8 3)) lX.no (.node 0 yf0 (.v (.int .u8 4)) lX.no (.leaf .normal [(1,.p 0),(2,.p 1)] [(32,QL),(44,yf8)])))))
theorem aFs(l:Value):aKM.ok tb2 l [] [] hp 60 LG 101 60 2 (aT [] sK) [(0,.s (.agg QL))] [] []=true:=by kernel_rfl
theorem aPP(kk pp oo fo nn z0 z1 mo da k0 k1 k2 fr my:Int)(ng:Bool)(bs:Option Addr)(n cp:Nat){w0 w:World}{P:List Nat}{a0:Act}{Q:Exit->Act->World->Prop}(hst:SS w0) (hw:dU w0 101 P [] [(0,(.agg (fArg kk pp oo fo ng nn z0 z1 mo da k0 k1 k2 fr my (.slice bs n cp)).toArray))] a0 w)(HP:((((Int.tmod kk 5)==1)=true->False)/\(((Int.tmod kk 5)==1)=false->((((Int.tmod kk 5)==2)=true->False)/\(((Int.tmod kk 5)==2)=false->((((Int.tmod kk 5)==3)=true->False)/\(((Int.tmod kk 5)==3)=false->((((Int.tmod kk 5)==4)=true->False)/\(((Int.tmod kk 5)==4)=false->Lf w0 101 P [(32,(fArg kk pp oo fo ng nn z0 z1 mo da k0 k1 k2 fr my (.slice bs n cp))),(44,zFl)] (fun P=>[(1,.pointer (some ⟨P.getD 0 0,0,none⟩)),(2,.pointer (some ⟨P.getD 1 0,0,none⟩))]) (PD Tryz.prog Q 2 (aT [] sK) .normal)))))))))):(aT [] sK).wp Tryz.prog Q a0 w:=
 dY (aFs (.agg #[.int .u8 kk,.int .u8 pp,.int .u8 oo,.int .u8 fo,.bool ng,.int .u16 nn,.int .u8 z0,.int .u8 z1,.int .u8 mo,.int .u8 da,.int .u8 k0,.int .u8 k1,.int .u8 k2,.int .i16 fr,.int .u8 my,(.slice bs n cp)])) (jP w0) hst .nil .nil hw HP (by kernel_rfl)
def aT8:lX:=(.node 0 yf0 (.v (.int .u8 1)) lX.no (.node 0 yf0 (.v (.int .u8 2)) lX.no (.node 0 yf0 (.v (.int .u8 3)) (.leaf .ret [(1,.p 0),(2,.p 1)] [(32,QL),(44,[(.v (.int .u8 4)),(.v (.slice none 0 0)),qf,qf,(.v (.string ⟨#[]⟩)),qz,qz,(.v (.string ⟨#[]⟩)),(.v (.string ⟨#[]⟩)),(.v (.int .u8 0)),(.v (.int .u8 0)),(.v (.int .u8 0)),(.v (.int .u8 0)),(.v (.int .i8 (-1))),qz,q8,(aN 6 .i64 [(iW 13)])])]) lX.no)))
theorem aPL(l:Value):aT8.ok tb2 l [] [] hp 60 LG 101 60 0 (aT [] sK) [(0,.s (.agg QL))] [] []=true:=by kernel_rfl
theorem of3(kk pp oo fo nn z0 z1 mo da k0 k1 k2 fr my:Int)(ng:Bool)(bs:Option Addr)(n cp:Nat){w0 w:World}{P:List Nat}{a0:Act}{Q:Exit->Act->World->Prop}(hst:SS w0) (hw:dU w0 101 P [] [(0,(.agg (fArg kk pp oo fo ng nn z0 z1 mo da k0 k1 k2 fr my (.slice bs n cp)).toArray))] a0 w)(HP:((((Int.tmod kk 5)==1)=true->False)/\(((Int.tmod kk 5)==1)=false->((((Int.tmod kk 5)==2)=true->False)/\(((Int.tmod kk 5)==2)=false->((((Int.tmod kk 5)==3)=true->Lf w0 101 P [(32,(fArg kk pp oo fo ng nn z0 z1 mo da k0 k1 k2 fr my (.slice bs n cp))),(44,[(.int .u8 4),(.slice none 0 0),(.bool false),(.bool false),(.string ⟨#[]⟩),(.int .i64 0),(.int .i64 0),(.string ⟨#[]⟩),(.string ⟨#[]⟩),(.int .u8 0),(.int .u8 0),(.int .u8 0),(.int .u8 0),(.int .i8 (-1)),(.int .i64 0),(.int .i8 0),(.int .i64 (IntKind.i64.wrap fr))])] (fun P=>[(1,.pointer (some ⟨P.getD 0 0,0,none⟩)),(2,.pointer (some ⟨P.getD 1 0,0,none⟩))]) (Q .ret))/\(((Int.tmod kk 5)==3)=false->False))))))):(aT [] sK).wp Tryz.prog Q a0 w:=
 dY (aPL (.agg #[.int .u8 kk,.int .u8 pp,.int .u8 oo,.int .u8 fo,.bool ng,.int .u16 nn,.int .u8 z0,.int .u8 z1,.int .u8 mo,.int .u8 da,.int .u8 k0,.int .u8 k1,.int .u8 k2,.int .i16 fr,.int .u8 my,(.slice bs n cp)])) (jP w0) hst .nil .nil hw HP (by kernel_rfl)
def aT7:lX:=(.node 0 yf0 (.v (.int .u8 1)) lX.no (.node 0 yf0 (.v (.int .u8 2)) lX.no (.node 0 yf0 (.v (.int .u8 3)) lX.no (.node 0 yf0 (.v (.int .u8 4)) (.leaf .ret [(1,.p 0),(2,.p 1)] [(32,QL),(44,[(.v (.int .u8 5)),(.v (.slice none 0 0)),qf,qf,(.v (.string ⟨#[]⟩)),qz,qz,(.v (.string ⟨#[]⟩)),(.v (.string ⟨#[]⟩)),(.v (.int .u8 0)),(.v (.int .u8 0)),(.v (.int .u8 0)),(.v (.int .u8 0)),q8,(aN 6 .i64 [(iW 13)]),(.v (.int .i8 1)),qz])]) lX.no))))
theorem aPK(l:Value):aT7.ok tb2 l [] [] hp 60 LG 101 60 0 (aT [] sK) [(0,.s (.agg QL))] [] []=true:=by kernel_rfl
theorem of4(kk pp oo fo nn z0 z1 mo da k0 k1 k2 fr my:Int)(ng:Bool)(bs:Option Addr)(n cp:Nat){w0 w:World}{P:List Nat}{a0:Act}{Q:Exit->Act->World->Prop}(hst:SS w0) (hw:dU w0 101 P [] [(0,(.agg (fArg kk pp oo fo ng nn z0 z1 mo da k0 k1 k2 fr my (.slice bs n cp)).toArray))] a0 w)(HP:((((Int.tmod kk 5)==1)=true->False)/\(((Int.tmod kk 5)==1)=false->((((Int.tmod kk 5)==2)=true->False)/\(((Int.tmod kk 5)==2)=false->((((Int.tmod kk 5)==3)=true->False)/\(((Int.tmod kk 5)==3)=false->((((Int.tmod kk 5)==4)=true->Lf w0 101 P [(32,(fArg kk pp oo fo ng nn z0 z1 mo da k0 k1 k2 fr my (.slice bs n cp))),(44,[(.int .u8 5),(.slice none 0 0),(.bool false),(.bool false),(.string ⟨#[]⟩),(.int .i64 0),(.int .i64 0),(.string ⟨#[]⟩),(.string ⟨#[]⟩),(.int .u8 0),(.int .u8 0),(.int .u8 0),(.int .u8 0),(.int .i8 0),(.int .i64 (IntKind.i64.wrap fr)),(.int .i8 1),(.int .i64 0)])] (fun P=>[(1,.pointer (some ⟨P.getD 0 0,0,none⟩)),(2,.pointer (some ⟨P.getD 1 0,0,none⟩))]) (Q .ret))/\(((Int.tmod kk 5)==4)=false->False))))))))):(aT [] sK).wp Tryz.prog Q a0 w:=
 dY (aPK (.agg #[.int .u8 kk,.int .u8 pp,.int .u8 oo,.int .u8 fo,.bool ng,.int .u16 nn,.int .u8 z0,.int .u8 z1,.int .u8 mo,.int .u8 da,.int .u8 k0,.int .u8 k1,.int .u8 k2,.int .i16 fr,.int .u8 my,(.slice bs n cp)])) (jP w0) hst .nil .nil hw HP (by kernel_rfl)
def aT9:lX:=(.node 0 yf0 (.v (.int .u8 1)) lX.no (.node 0 yf0 (.v (.int .u8 2)) (.node 0 yf1 (.v (.int .u8 1)) (.node 0 yf1 (.v (.int .u8 2)) lX.no (.leaf .ret [(1,.p 0),(2,.p 1)] [(32,QL),(44,[(.v (.int .u8 3)),(.v (.slice none 0 0)),qf,qf,(.v (.string ⟨#[]⟩)),qz,qz,(.v (.string ⟨#[]⟩)),(.v (.string ⟨#[]⟩)),(.v (.int .u8 0)),(.v (.int .u8 0)),(.v (.int .u8 0)),yf3,(.v (.int .i8 (-1))),qz,q8,(qi 20)])])) (.node 0 yf1 (.v (.int .u8 2)) (.leaf .ret [(1,.p 0),(2,.p 1)] [(32,QL),(44,[(.v (.int .u8 3)),(.v (.slice none 0 0)),qf,qf,(.v (.string ⟨#[]⟩)),qz,qz,(.v (.string ⟨#[]⟩)),(.v (.string ⟨#[]⟩)),(.v (.int .u8 0)),(.v (.int .u8 0)),(.v (.int .u8 0)),yf3,q8,(qi 16),(.v (.int .i8 1)),qz])]) (.leaf .ret [(1,.p 0),(2,.p 1)] [(32,QL),(44,[(.v (.int .u8 3)),(.v (.slice none 0 0)),qf,qf,(.v (.string ⟨#[]⟩)),qz,qz,(.v (.string ⟨#[]⟩)),(.v (.string ⟨#[]⟩)),(.v (.int .u8 0)),(.v (.int .u8 0)),(.v (.int .u8 0)),yf3,q8,(qi 16),q8,(qi 20)])]))) lX.no))
theorem aPM(l:Value):aT9.ok tb2 l [] [(20,[aN 6 .i64 [(iW 13)],aN 6 .i64 [aN 1 .u8 yf4]],.aS [rK q8 (qi 16) q8 (qi 17),(qi 18)]),(20,[aN 1 .i64 [aN 6 .i64 [(iW 13)],aN 6 .i64 [(qu 14)]],aN 6 .i64 [aN 1 .u8 yf4]],.aS [rK q8 (qi 19) q8 (qi 20),(qi 21)])] hp 60 LG 101 60 0 (aT [] sK) [(0,.s (.agg QL))] [] []=true:=by kernel_rfl
theorem of2(kk pp oo fo nn z0 z1 mo da k0 k1 k2 fr my xl xh xe yl yh ye:Int)(ng:Bool)(bs:Option Addr)(n cp:Nat){w0 w:World}{P:List Nat}{a0:Act}{Q:Exit->Act->World->Prop}(hst:SS w0) (H0:Same w0 20 #[(.int .i64 (IntKind.i64.wrap fr)),(.int .i64 (IntKind.i64.wrap (IntKind.u8.wrap (1+(Int.tmod pp 3)))))] (.tuple #[(r4 0 xl 0 xh),(.int .i64 xe)]))(H1:Same w0 20 #[(.int .i64 (IntKind.i64.wrap ((IntKind.i64.wrap fr)+(IntKind.i64.wrap my)))),(.int .i64 (IntKind.i64.wrap (IntKind.u8.wrap (1+(Int.tmod pp 3)))))] (.tuple #[(r4 0 yl 0 yh),(.int .i64 ye)]))(hw:dU w0 101 P [] [(0,(.agg (fArg kk pp oo fo ng nn z0 z1 mo da k0 k1 k2 fr my (.slice bs n cp)).toArray))] a0 w)(HP:((((Int.tmod kk 5)==1)=true->False)/\(((Int.tmod kk 5)==1)=false->((((Int.tmod kk 5)==2)=true->((((Int.tmod oo 4)==1)=true->((((Int.tmod oo 4)==2)=true->False)/\(((Int.tmod oo 4)==2)=false->Lf w0 101 P [(32,(fArg kk pp oo fo ng nn z0 z1 mo da k0 k1 k2 fr my (.slice bs n cp))),(44,[(.int .u8 3),(.slice none 0 0),(.bool false),(.bool false),(.string ⟨#[]⟩),(.int .i64 0),(.int .i64 0),(.string ⟨#[]⟩),(.string ⟨#[]⟩),(.int .u8 0),(.int .u8 0),(.int .u8 0),(.int .u8 (IntKind.u8.wrap (1+(Int.tmod pp 3)))),(.int .i8 (-1)),(.int .i64 0),(.int .i8 0),(.int .i64 yh)])] (fun P=>[(1,.pointer (some ⟨P.getD 0 0,0,none⟩)),(2,.pointer (some ⟨P.getD 1 0,0,none⟩))]) (Q .ret))))/\(((Int.tmod oo 4)==1)=false->((((Int.tmod oo 4)==2)=true->Lf w0 101 P [(32,(fArg kk pp oo fo ng nn z0 z1 mo da k0 k1 k2 fr my (.slice bs n cp))),(44,[(.int .u8 3),(.slice none 0 0),(.bool false),(.bool false),(.string ⟨#[]⟩),(.int .i64 0),(.int .i64 0),(.string ⟨#[]⟩),(.string ⟨#[]⟩),(.int .u8 0),(.int .u8 0),(.int .u8 0),(.int .u8 (IntKind.u8.wrap (1+(Int.tmod pp 3)))),(.int .i8 0),(.int .i64 xl),(.int .i8 1),(.int .i64 0)])] (fun P=>[(1,.pointer (some ⟨P.getD 0 0,0,none⟩)),(2,.pointer (some ⟨P.getD 1 0,0,none⟩))]) (Q .ret))/\(((Int.tmod oo 4)==2)=false->Lf w0 101 P [(32,(fArg kk pp oo fo ng nn z0 z1 mo da k0 k1 k2 fr my (.slice bs n cp))),(44,[(.int .u8 3),(.slice none 0 0),(.bool false),(.bool false),(.string ⟨#[]⟩),(.int .i64 0),(.int .i64 0),(.string ⟨#[]⟩),(.string ⟨#[]⟩),(.int .u8 0),(.int .u8 0),(.int .u8 0),(.int .u8 (IntKind.u8.wrap (1+(Int.tmod pp 3)))),(.int .i8 0),(.int .i64 xl),(.int .i8 0),(.int .i64 yh)])] (fun P=>[(1,.pointer (some ⟨P.getD 0 0,0,none⟩)),(2,.pointer (some ⟨P.getD 1 0,0,none⟩))]) (Q .ret))))))/\(((Int.tmod kk 5)==2)=false->False))))):(aT [] sK).wp Tryz.prog Q a0 w:=
 dY (aPM (.agg #[.int .u8 kk,.int .u8 pp,.int .u8 oo,.int .u8 fo,.bool ng,.int .u16 nn,.int .u8 z0,.int .u8 z1,.int .u8 mo,.int .u8 da,.int .u8 k0,.int .u8 k1,.int .u8 k2,.int .i16 fr,.int .u8 my,(.slice bs n cp),.int .i64 xl,.int .i64 xh,.int .i64 xe,.int .i64 yl,.int .i64 yh,.int .i64 ye])) (jP w0) hst .nil (.cons H0 (.cons H1 .nil)) hw HP (by kernel_rfl)
def aT6:lX:=(.leaf .normal [(1,.p 0),(2,.p 1)] [(32,QL),(44,yf8)])
theorem aPJ(l:Value):aT6.ok tb2 l [] [] hp 60 LG 101 60 1 (aT [] sK) [(0,.s (.agg QL))] [] []=true:=by kernel_rfl
theorem ofA(kk pp oo fo nn z0 z1 mo da k0 k1 k2 fr my:Int)(ng:Bool)(bs:Option Addr)(n cp:Nat){w0 w:World}{P:List Nat}{a0:Act}{Q:Exit->Act->World->Prop}(hst:SS w0) (hw:dU w0 101 P [] [(0,(.agg (fArg kk pp oo fo ng nn z0 z1 mo da k0 k1 k2 fr my (.slice bs n cp)).toArray))] a0 w)(HP:Lf w0 101 P [(32,(fArg kk pp oo fo ng nn z0 z1 mo da k0 k1 k2 fr my (.slice bs n cp))),(44,zFl)] (fun P=>[(1,.pointer (some ⟨P.getD 0 0,0,none⟩)),(2,.pointer (some ⟨P.getD 1 0,0,none⟩))]) (PD Tryz.prog Q 1 (aT [] sK) .normal)):(aT [] sK).wp Tryz.prog Q a0 w:=
 dY (aPJ (.agg #[.int .u8 kk,.int .u8 pp,.int .u8 oo,.int .u8 fo,.bool ng,.int .u16 nn,.int .u8 z0,.int .u8 z1,.int .u8 mo,.int .u8 da,.int .u8 k0,.int .u8 k1,.int .u8 k2,.int .i16 fr,.int .u8 my,(.slice bs n cp)])) (jP w0) hst .nil .nil hw HP (by kernel_rfl)
def aT5:lX:=(.leaf .normal [(1,.p 0),(2,.p 1),(12,.s yf0)] [(32,QL),(44,yf8)])
theorem aPI(l:Value):aT5.ok tb2 l [] [] hp 60 LG 101 60 0 (aT [1,0,0] sK) [(1,.p 0),(2,.p 1)] [(32,QL),(44,yf7)] []=true:=by kernel_rfl
theorem ofB(kk pp oo fo nn z0 z1 mo da k0 k1 k2 fr my:Int)(ng:Bool)(bs:Option Addr)(n cp:Nat){w0 w:World}{P:List Nat}{a0:Act}{Q:Exit->Act->World->Prop}(hst:SS w0) (hw:dU w0 101 P [(32,(fArg kk pp oo fo ng nn z0 z1 mo da k0 k1 k2 fr my (.slice bs n cp))),(44,zFl)] [(1,.pointer (some ⟨P.getD 0 0,0,none⟩)),(2,.pointer (some ⟨P.getD 1 0,0,none⟩))] a0 w)(HP:Lf w0 101 P [(32,(fArg kk pp oo fo ng nn z0 z1 mo da k0 k1 k2 fr my (.slice bs n cp))),(44,zFl)] (fun P=>[(1,.pointer (some ⟨P.getD 0 0,0,none⟩)),(2,.pointer (some ⟨P.getD 1 0,0,none⟩)),(12,(.int .u8 (Int.tmod kk 5)))]) (Q .normal)):(aT [1,0,0] sK).wp Tryz.prog Q a0 w:=
 dY (aPI (.agg #[.int .u8 kk,.int .u8 pp,.int .u8 oo,.int .u8 fo,.bool ng,.int .u16 nn,.int .u8 z0,.int .u8 z1,.int .u8 mo,.int .u8 da,.int .u8 k0,.int .u8 k1,.int .u8 k2,.int .i16 fr,.int .u8 my,(.slice bs n cp)])) (jP w0) hst .nil .nil hw HP (by kernel_rfl)
def aRl:lX:=(.leaf .normal [(1,.p 0),(2,.p 1),(13,.s qt)] [(32,QL),(44,yf8)])
theorem aMq(l:Value):aRl.ok tb2 l [] [] hp 60 LG 101 60 0 (aT [1,0,1,0,0] sK) [(12,.s (.v (.int .u8 1))),(1,.p 0),(2,.p 1)] [(32,QL),(44,yf7)] []=true:=by kernel_rfl
theorem aVS(kk pp oo fo nn z0 z1 mo da k0 k1 k2 fr my:Int)(ng:Bool)(bs:Option Addr)(n cp:Nat){w0 w:World}{P:List Nat}{a0:Act}{Q:Exit->Act->World->Prop}(hst:SS w0) (hw:dU w0 101 P [(32,(fArg kk pp oo fo ng nn z0 z1 mo da k0 k1 k2 fr my (.slice bs n cp))),(44,zFl)] [(12,(.int .u8 1)),(1,.pointer (some ⟨P.getD 0 0,0,none⟩)),(2,.pointer (some ⟨P.getD 1 0,0,none⟩))] a0 w)(HP:Lf w0 101 P [(32,(fArg kk pp oo fo ng nn z0 z1 mo da k0 k1 k2 fr my (.slice bs n cp))),(44,zFl)] (fun P=>[(1,.pointer (some ⟨P.getD 0 0,0,none⟩)),(2,.pointer (some ⟨P.getD 1 0,0,none⟩)),(13,(.bool true))]) (Q .normal)):(aT [1,0,1,0,0] sK).wp Tryz.prog Q a0 w:=
 dY (aMq (.agg #[.int .u8 kk,.int .u8 pp,.int .u8 oo,.int .u8 fo,.bool ng,.int .u16 nn,.int .u8 z0,.int .u8 z1,.int .u8 mo,.int .u8 da,.int .u8 k0,.int .u8 k1,.int .u8 k2,.int .i16 fr,.int .u8 my,(.slice bs n cp)])) (jP w0) hst .nil .nil hw HP (by kernel_rfl)
def aT4:lX:=(.node 0 (qi 20) qz (.node 0 (qi 26) (.v (.int .i64 1)) (.node 1 qz (qi 20) lX.no (.leaf .ret [(1,.p 0),(2,.p 1)] [(32,QL),(44,[(.v (.int .u8 2)),(.v (.slice none 0 0)),(qb 16),(qb 17),(qs 18),(qi 19),(qi 20),(qs 21),(qs 22),(.v (.int .u8 0)),(.v (.int .u8 0)),(.v (.int .u8 0)),(.v (.int .u8 0)),q8,qz,q8,qz]),(37,yf5)])) (.leaf .normal [(1,.p 0),(2,.p 1)] [(32,QL),(44,yf8),(37,yf5)])) (.leaf .normal [(1,.p 0),(2,.p 1)] [(32,QL),(44,yf8),(37,yf5)]))
theorem aPH(l:Value):aT4.ok tb2 l [] [(17,[.agg yf5],(qi 26))] hp 60 LG 101 60 1 (aT [1,0,1,0,1,0,1] sK) [(1,.p 0),(2,.p 1),(3,.p 2)] [(32,QL),(44,yf7),(37,yf5)] []=true:=by kernel_rfl
theorem ofD(kk pp oo fo nn z0 z1 mo da k0 k1 k2 fr my qx:Int)(ng:Bool)(bs:Option Addr)(n cp:Nat)(d:Dt){w0 w:World}{P:List Nat}{a0:Act}{Q:Exit->Act->World->Prop}(hst:SS w0) (H0:Same w0 17 #[(aW d)] (.int .i64 qx))(hw:dU w0 101 P [(32,(fArg kk pp oo fo ng nn z0 z1 mo da k0 k1 k2 fr my (.slice bs n cp))),(44,zFl),(37,(dl d))] [(1,.pointer (some ⟨P.getD 0 0,0,none⟩)),(2,.pointer (some ⟨P.getD 1 0,0,none⟩)),(3,.pointer (some ⟨P.getD 2 0,0,none⟩))] a0 w)(HP:(((d.sig==0)=true->(((qx==1)=true->(((decide (0<d.sig))=true->False)/\((decide (0<d.sig))=false->Lf w0 101 P [(32,(fArg kk pp oo fo ng nn z0 z1 mo da k0 k1 k2 fr my (.slice bs n cp))),(44,[(.int .u8 2),(.slice none 0 0),(.bool d.neg),(.bool d.long),(.string d.dg),(.int .i64 d.ex),(.int .i64 d.sig),(.string d.mo),(.string d.da),(.int .u8 0),(.int .u8 0),(.int .u8 0),(.int .u8 0),(.int .i8 0),(.int .i64 0),(.int .i8 0),(.int .i64 0)]),(37,(dl d))] (fun P=>[(1,.pointer (some ⟨P.getD 0 0,0,none⟩)),(2,.pointer (some ⟨P.getD 1 0,0,none⟩))]) (PD Tryz.prog Q 1 (aT [1,0,1,0,1,0,1] sK) .ret))))/\((qx==1)=false->Lf w0 101 P [(32,(fArg kk pp oo fo ng nn z0 z1 mo da k0 k1 k2 fr my (.slice bs n cp))),(44,zFl),(37,(dl d))] (fun P=>[(1,.pointer (some ⟨P.getD 0 0,0,none⟩)),(2,.pointer (some ⟨P.getD 1 0,0,none⟩))]) (PD Tryz.prog Q 1 (aT [1,0,1,0,1,0,1] sK) .normal))))/\((d.sig==0)=false->Lf w0 101 P [(32,(fArg kk pp oo fo ng nn z0 z1 mo da k0 k1 k2 fr my (.slice bs n cp))),(44,zFl),(37,(dl d))] (fun P=>[(1,.pointer (some ⟨P.getD 0 0,0,none⟩)),(2,.pointer (some ⟨P.getD 1 0,0,none⟩))]) (PD Tryz.prog Q 1 (aT [1,0,1,0,1,0,1] sK) .normal)))):(aT [1,0,1,0,1,0,1] sK).wp Tryz.prog Q a0 w:=
 dY (aPH (.agg #[.int .u8 kk,.int .u8 pp,.int .u8 oo,.int .u8 fo,.bool ng,.int .u16 nn,.int .u8 z0,.int .u8 z1,.int .u8 mo,.int .u8 da,.int .u8 k0,.int .u8 k1,.int .u8 k2,.int .i16 fr,.int .u8 my,(.slice bs n cp),.bool d.neg,.bool d.long,.string d.dg,.int .i64 d.ex,.int .i64 d.sig,.string d.mo,.string d.da,.int .u8 d.m0,.int .u8 d.m1,.int .u8 d.m2,.int .i64 qx])) (jP w0) hst .nil (.cons H0 .nil) hw HP (by kernel_rfl)
end Sk
end
section
open Go.RowKit Go.Lib
namespace Sk
open Un (ba bt)
open Ev (OQ aRz dU)
section
variable{w w':World}{p q:Nat}{el:TypeId}{vs us:List Value}
theorem MR(h:OQ w p el vs){j:Nat}{v:Value}(hv:vs[j]? =some v):w.cell? ⟨p,j,none⟩=some v:=by
 obtain⟨c,fr,h1,_,rfl⟩:=h;have:c[j]? =some v:=by rw[<-aGY];exact hv
 simp[World.cell?,h1,this]
theorem aJp(h:OQ w p el vs){j:Nat}(hj:j<vs.length):w.frozen? ⟨p,j,none⟩=false:=by
 obtain⟨c,fr,h1,h2,rfl⟩:=h;have:=h2 j (by simpa using hj);obtain⟨lo,hi⟩:=fr;simp[World.frozen?,h1];simp at this;omega
theorem EJ(h:OQ w p el vs):w.rangeAt p 0 vs:=fun j v hv=>by rw[aJU];exact MR h hv
theorem EI(h:OQ w p el vs):w.there p 0 vs.length:=fun j hj=>by
 rw[aJU];exact⟨by rw[MR h (aGX hj)];rfl,aJp h hj⟩
theorem aCg(h:OQ w p el vs):p<w.heap.size:=by
 obtain⟨c,fr,h1,_⟩:=h
 by_cases hl:p<w.heap.size
 . exact hl
 rw[aKY (by omega)]at h1;cases h1
theorem RZ(h:OQ w p el vs)(hb:Below w.heap.size w w'):OQ w' p el vs:=by
 have hp:=aCg h;obtain⟨c,fr,h1,h2,h3⟩:=h;exact⟨c,fr,(hb.block p hp).trans h1,h2,h3⟩
theorem VP:OQ (w.alloc (.cells vs.toArray el)) w.heap.size el vs:=⟨vs.toArray,(0,0),aU9 w _,fun i _=>by simp,rfl⟩
theorem aMT(h:OQ w p el vs)(k:Nat)(v:Value):OQ (w.setCell ⟨p,k,none⟩ v) p el (vs.set k v):=by
 obtain⟨c,fr,h1,h2,rfl⟩:=h;refine⟨c.setIfInBounds k v,fr,?_,fun i hi=>h2 i (by simpa using hi),by simp⟩;simp[World.setCell,aU8,h1]
theorem ZX: ∀(us:List Value) (k:Nat) {w:World} {vs:List Value},OQ w p el vs->k+us.length=vs.length->OQ (w.setCells p k us) p el (vs.take k++us)
 |[],k,w,vs,h,e=>by
  have:vs.take k++[]=vs:=by rw[aSJ,aRy (by simp at e;omega)]
  rw[this];exact h
 | u ::us,k,w,vs,h,e=>by
  have:=ZX us (k+1) (aMT h k u) (by simp at e ⊢;omega);have e2:(vs.set k u).take (k+1)++us=vs.take k++(u::us):=by
   have hk:k<vs.length:=by simp at e;omega
   apply aVY;intro j;rcases Nat.lt_trichotomy j k with h1|h1|h1
   . rw[aLc (by simp;omega),aLc (by simp;omega),aOH (by omega),aOH h1,List.getElem?_set_ne (by omega)]
   . subst h1;rw[aLc (by simp;omega),aK9 (by simp;omega),aOH (by omega),aXa hk];simp[Nat.min_eq_left (aRF hk)]
   rw[aK9 (by simp;omega),aK9 (by simp;omega)];obtain⟨d,rfl⟩: ∃d,j=k+1+d:=⟨j - (k+1),by omega⟩;have e3:k+1+d - (List.take (k+1) (vs.set k u)).length=d:=by simp;omega
   have e4:k+1+d - (List.take k vs).length=d+1:=by simp;omega
   rw[e3,e4];rfl
  rw[e2]at this;exact this
theorem RY(h:OQ w p el vs)(hl:us.length=vs.length):OQ (w.setCells p 0 us) p el us:=by
 have:=ZX us 0 h (by omega);simpa using this
theorem QV: ∀(us:List Value) (k:Nat) (w:World),(w.setCells p k us).heap.size=w.heap.size
 |[],_,_=>rfl
 |u::us,k,w=>(QV us (k+1) _).trans (by simp[World.setCell])
end
theorem zG{B b:Nat}{a:World}(hb:B<=b): ∀(us:List Value) (k:Nat) {w:World},Below B a w->Below B a (w.setCells b k us)
 |[],_,_,h=>h
 |u::us,k,_,h=>zG hb us (k+1) (h.setCell (p:=⟨b,k,none⟩) hb u)
theorem AP{w0 w:World}{N:Nat}{P:List Nat}{F:List (TypeId × List Value)}{S:List (Nat × Value)}{a:Act}(hw:dU w0 N P F S a w){j:Nat}{e:TypeId × List Value}(he:F[j]? =some e):OQ w (P.getD j 0) e.1 e.2/\w0.heap.size<=P.getD j 0/\P[j]? =some (P.getD j 0):=by
 have hj:j<P.length:=by rw[hw.fr.1];exact(aIY.1 he).1
 have hp:P[j]? =some (P.getD j 0):=by simp[List.getD,aGX hj]
 exact⟨hw.fr.2 j _ e hp he,hw.new _ (aOt hp),hp⟩
theorem aBg{W:World}{bs:Option Addr}{n:Nat}{f:Nat->R4}{p k:Nat}{us:List Value}(h:wZ W bs n f)(hg: ∀g o s,bs=some ⟨g,o,s⟩->g≠p):wZ (W.setCells p k us) bs n f:=fun i hi=>by
 obtain⟨g,o,e,hl,c0,c1,c2,c3⟩:=h i hi;have hne:=hg _ _ _ e;have q: ∀j,(W.setCells p k us).cell? ⟨g,j,none⟩=W.cell? ⟨g,j,none⟩:=fun j=>aRM _ _ _ _ _ (fun e _=>absurd e hne);exact⟨g,o,e,by rw[QV];exact hl,by rw[q];exact c0,by rw[q];exact c1,by rw[q];exact c2,by rw[q];exact c3⟩
theorem XP{w0 w w1:World}{N:Nat}{P:List Nat}{F:List (TypeId × List Value)}{S S':List (Nat × Value)}{a a':Act}(hw:dU w0 N P F S a w)(hb:Below w.heap.size w w1){el:TypeId}{z vs:List Value}(hz:vs.length=z.length)
 (hs:a'.tmps.size=N) (hd:a'.defers=[]) (hv: ∀e ∈ S',a'.tmps[e.1]? =some e.2):dU w0 N (P++[w1.heap.size]) (F++[(el,vs)]) S' a' ((w1.alloc (.cells z.toArray el)).setCells w1.heap.size 0 vs):=by
 have b1:Below w.heap.size w ((w1.alloc (.cells z.toArray el)).setCells w1.heap.size 0 vs):=zG hb.size _ _ (ba hb _);have l0:=hw.below.size;have l1:=hb.size;have lt: ∀p ∈ P,p<w.heap.size:=fun p hp=>by
  obtain⟨j,hj⟩:=aVa hp;have hjl:j<F.length:=by rw[<-hw.fr.1];exact(aIY.1 hj).1
  exact aCg (hw.fr.2 j p F[j] hj (aGX hjl))
 refine⟨bt hw.below b1,fun p hp=>?_,?_,⟨by simp[hw.fr.1],fun j p e hp he=>?_⟩,hs,hd,hv⟩
 . rcases aLf.1 hp with hp|hp
   . exact hw.new p hp
   obtain rfl:=aLi.1 hp;omega
 . refine List.nodup_append.2 ⟨hw.nd,by simp,fun x hx y hy=>?_⟩;obtain rfl:=aLi.1 hy;have:=lt x hx;omega
 by_cases hj:j<P.length
 . rw[aLc hj]at hp;rw[aLc (by rw[<-hw.fr.1];exact hj)]at he;exact RZ (hw.fr.2 j p e hp he) b1
 rw[aK9 (by omega)]at hp;rw[aK9 (by rw[<-hw.fr.1];omega),<-hw.fr.1]at he;obtain⟨h0,rfl⟩:j - P.length=0/\w1.heap.size=p:=by
  cases hk:j - P.length with
  |zero=>rw[hk]at hp;exact⟨rfl,by simpa using hp⟩
  |succ k=>rw[hk]at hp;simp at hp
 rw[h0]at he;obtain rfl:(el,vs)=e:=by simpa using he
 exact RY VP hz
theorem JZ{w0 w:World}{N:Nat}{P:List Nat}{e1 e2:TypeId × List Value}{S:List (Nat × Value)}{a:Act}(hw:dU w0 N P [e1,e2] S a w): ∃p q,P=[p,q]:=by
 have:=hw.fr.1
 match P,this with
 |[p,q],_=>exact⟨p,q,rfl⟩
section
variable{P:Program}
theorem FH{o:Oper}{a:Act}{w:World}{e:TypeId}{z:Array Value}(ho:o.op=.alloc e)(hz:(zeroValue e).run P w=.ok (.agg z) w):(execOp a.eval o).run P w=.ok (.value (.pointer (some ⟨w.heap.size,0,none⟩))) (w.alloc (.cells z e)):=by
 unfold execOp;simp[ho,Instr.alloc,hz,newVar,Go.newRow,Value.cells]
theorem X4{o:Oper}{a:Act}{w:World}{e:TypeId}{x:Operand}{i b off:Nat}{fields:Array Field}{fl:Field}(ho:o.op=.fieldAddr e x i)(hx:a.eval x=.pointer (some ⟨b,off,none⟩))(hu:P.underlying e=some (.struct fields))(hf:fields[i]? =some fl)
 (hz:P.cellsOf fl.type≠0) (hi:(P.underlying fl.type).isSome=true):(execOp a.eval o).run P w=.ok (.value (.pointer (some ⟨b,off+fl.offset,none⟩))) w:=by
 have hsz:=@Ev.vK Ev.G0 P fl.type _ rfl (@Ev.qO Ev.G0 P fl.type hi) w;unfold execOp;simp only[ho,Instr.fieldAt,aFW,aG5 hu w,aCR,hf,hx,Instr.sureAddr,aGf,fieldPlace,hsz,aB9 hz,Addr.add_mid]
theorem zK{o:Oper}{a:Act}{w:World}{f:FuncId}{fn:Func}{c:Code}{args:Array Operand}{ats:Array TypeId}(hop:o.op=.call ⟨.value (.func f),args,ats⟩)(hf:P.funcs[f]? =some fn)(hname:(fn.name== "runtime.NumGoroutine")=false)(hb:fn.body=some c):
 (execOp a.eval o).run P w=.ok (.enter f (args.map a.eval)) w:=by
 have h1:fn.name≠ "runtime.NumGoroutine" :=by simpa using hname
 have ef:a.eval (.func f)=.func (.func f) #[] #[]:=rfl;unfold execOp;simp[hop,resolve,Deferred.ofValue,invoke,ef,callFunc,hf,h1,hb]
abbrev key(o:Oper):Option (Tmp × Bool) × Option Tmp × Op:=(o.guard,o.dst,o.op)
theorem G7{α β:Type}{f:α->β}: ∀ {l:List α} {x:β} {t:List β},l.map f=x::t-> ∃a l',l=a::l'/\f a=x/\l'.map f=t
 |[],_,_,h=>by simp at h
 |a::l,x,t,h=>⟨a,l,rfl,(aWO h).1,(aWO h).2⟩
theorem aQd{α β:Type}{f:α->β}{l:List α}(h:l.map f=[]):l=[]:=by simpa using h
theorem sS{ops:Array Oper}{rest:List Oper}{o:Oper}{a:Act}{w:World}{Q:Exit->Act->World->Prop}(hg:o.guard=none){d:Option Tmp}(hd:o.dst=d)
 {f:FuncId} {args:Array Value} (hrun:(execOp a.eval o).run P w=.ok (.enter f args) w) {R:Ending->World->Prop} (hc:Calls P f args w R)
 (h: ∀e w',R e w'-> ∃v,e=.returned v/\wpList P ops Q rest (a.put d v) w'):wpList P ops Q (o::rest) a w:=by
 subst hd;refine wpList_plain hg fun K hK=>?_;unfold Oper.wp;rw[hrun,Oper.upon_enter];refine hc.mono fun e w' hh=>?_;obtain⟨v,rfl,hw⟩:=h _ _ hh;exact hK _ _ hw
def aLW:Code->List Oper
 | .region _ ops _=>ops.toList
 |_=>[]
def aDc:Code->Bool
 | .region _ _ b=>b
 |_=>true
theorem TS{c:Code}{Q:Exit->Act->World->Prop}{a:Act}{w:World}(hd:aDc c=false)(h: ∀ops,wpList P ops Q (aLW c) a w):c.wp P Q a w:=by
 cases c with
 |region id ops b=>
  obtain rfl:b=false:=hd;exact wp_region_list (h ops)
 |_=>cases hd
theorem vX{a:Act}{k:Nat}{v:Value}(h:k<a.tmps.size):(a.put (some k) v).eval (.tmp k)=v:=by
 simp[Act.put,Act.eval,aR6,h]
theorem lV{a:Act}{j:Nat}{u:Value}(h:a.tmps[j]? =some u):a.eval (.tmp j)=u:=by
 simp[Act.eval,h]
end
end Sk
end
section
namespace Bk
theorem aMN{d:Dt}(h:d.JG=true): ∃y,d.In y:=by
 unfold Dt.In
 cases hm:d.mask
 . exact⟨_,rfl⟩
 obtain⟨h4,hx⟩:d.dg.size=4/\allB bU d.dg=true:=by
  unfold Dt.JG at h
  cases hl:d.long
  . rw[hl]at h;obtain⟨a,b,_⟩:=iC h;exact⟨a,b⟩
  rw[hl]at h;have hd:=(jG h).2.2.1;have:=(jV (pY hd)).2 hd;unfold Dt.mask at hm;rw[this]at hm;cases hm
 have g:=fun i hi=>CB hx i hi;have g0:=g 0 (by omega);have g1:=g 1 (by omega);have g2:=g 2 (by omega);have g3:=g 3 (by omega);obtain⟨j,hj,hj8⟩:=(wK 88 d.dg).1 hm;have key: ∀x:Int,x=88\/(48<=x/\x<=57)-> ∃o:Int,0<=o/\o<=9/\(x=88\/x=48+o)/\(x=88->o=9):=fun x hx=>by
  by_cases c:x=88
  . exact⟨9,by omega,by omega,.inl c,fun _=>rfl⟩
  exact⟨x - 48,by omega,by omega,.inr (by omega),fun e=>absurd e c⟩
 obtain⟨a,a0,a1,a2,a3⟩:=key _ g0;obtain⟨b,b0,b1,b2,b3⟩:=key _ g1;obtain⟨c,c0,c1,c2,c3⟩:=key _ g2;obtain⟨e,e0,e1,e2,e3⟩:=key _ g3;have hM:oO (aY d.dg) (1000 * a+100 * b+10 * c+e):=(nD _ _).2 ⟨a,b,c,e,a0,a1,b0,b1,c0,c1,e0,e1,rfl,a2,b2,c2,e2⟩
 cases hn:d.neg
 . exact⟨_,by rw[aFV rfl,aB9 (by decide)];exact hM⟩
 refine⟨-(1000 * a+100 * b+10 * c+e),?_⟩;rw[aFV rfl,aFV rfl,Int.neg_neg];refine⟨hM,?_⟩;have:j=0\/j=1\/j=2\/j=3:=by omega
 rcases this with rfl|rfl|rfl|rfl
 . have:=a3 hj8;omega
 . have:=b3 hj8;omega
 . have:=c3 hj8;omega
 have:=e3 hj8;omega
def moX(k:Nat):ByteArray:=if k=0 then⟨#[48,88]⟩else if k=1 then⟨#[49,88]⟩else if k=2 then⟨#[88,50]⟩else if k=3 then⟨#[88,88]⟩else if k=4 then⟨#[88,48]⟩else⟨#[88,57]⟩
def daX(k:Nat):ByteArray:=if k=0 then⟨#[48,88]⟩else if k=1 then⟨#[49,88]⟩else if k=2 then⟨#[50,88]⟩else if k=3 then⟨#[51,88]⟩else if k=4 then⟨#[88,48]⟩else if k=5 then⟨#[88,49]⟩else if k=6 then⟨#[88,88]⟩else⟨#[88,56]⟩
def jX(m:Nat):ByteArray:=if m=0 then⟨#[]⟩else if m<=12 then twoS m else if m<=33 then twoS (m+8)else moX (m - 34)
def aIO(m:Nat):Nat:=if m=2 then 28 else if m=4\/m=6\/m=9\/m=11\/m=39 then 30 else 31
def zU(m k:Nat):ByteArray:=if k=0 then⟨#[]⟩else if k<=31 then twoS (min k (aIO m))else if m=2/\k=35 then daX 2 else daX (k - 32)
def aC3(mo da:ByteArray):Bool:=(List.range 12).any fun n=>jD mo ((n:Int)+1)&&(List.range 31).any fun j=>jD da ((j:Int)+1)&&decide (j+1<=(if n+1=2 then 28 else if n+1=4\/n+1=6\/n+1=9\/n+1=11 then 30 else 31))
def aP6(m:Nat):Bool:=m==0||(decide ((jX m).size=2)&&(decide (dB (jX m)≠0)||dP (jX m) 12))
def aQS(m k:Nat):Bool:=m==0||(k==0||(decide (dB (jX m)≠0)||(decide ((zU m k).size=2)&&(dP (zU m k) 31&&aC3 (jX m) (zU m k)))))
theorem aMC:((List.range 40).all fun m=>aP6 m)=true:=by kernel_rfl
theorem aNd:((List.range 40).all fun m=>(List.range 40).all fun k=>aQS m k)=true:=by kernel_rfl
theorem aBX{m:Nat}(h:m<40):aP6 m=true:=by
 have:=aMC;rw[aJL]at this;exact this m (aRH.2 h)
theorem aQR{m k:Nat}(h:m<40)(hk:k<40):aQS m k=true:=by
 have:=aNd;rw[aJL]at this;have:=this m (aRH.2 h);rw[aJL]at this;exact this k (aRH.2 hk)
theorem U2{m:Nat}(h:m<40)(h0:m≠0):(jX m).size=2/\(dB (jX m)≠0\/dP (jX m) 12=true):=by
 have:=aBX h;unfold aP6 at this;simp only[aJj,aFU,aFK,aFZ]at this;rcases this with h|h
 . exact absurd h h0
 exact h
theorem aCr{m k:Nat}(h:m<40)(hk:k<40)(h0:m≠0)(k0:k≠0)(hs:dB (jX m)=0):(zU m k).size=2/\dP (zU m k) 31=true/\aC3 (jX m) (zU m k)=true:=by
 have:=aQR h hk;unfold aQS at this;simp only[aJj,aFU,aFK,aFZ]at this;rcases this with h|h|h|h
 . exact absurd h h0
 . exact absurd h k0
 . exact absurd hs h
 exact h
theorem aEu{mo da:ByteArray}(h:aC3 mo da=true): ∃n j:Int,1<=n/\n<=12/\jD mo n=true/\1<=j/\j<=31/\jD da j=true/\ ∀y,j<=Cal.len y n:=by
 unfold aC3 at h;simp only[aU2,aRH,aFU,aFK]at h;obtain⟨n,hn,ha,j,hj,hb,hl⟩:=h;refine⟨(n:Int)+1,(j:Int)+1,by omega,by omega,ha,by omega,by omega,hb,fun y=>?_⟩;unfold Cal.len Cal.lp
 (repeat' split at hl)<;>(repeat' split)<;>omega
def dgt(n:Nat):UInt8:=UInt8.ofNat (48+n)
def iR(n:Nat):ByteArray:=⟨#[dgt (n / 1000),dgt (n / 100 % 10),dgt (n / 10 % 10),dgt (n % 10)]⟩
theorem V7{n:Nat}(h:n<=9):(dgt n).toNat=48+n:=by unfold dgt;rw[aRX];omega
def TG(neg long:Bool)(s:ByteArray)(ex sig:Int):Prop:=GN neg long s ex sig=true/\(hasB 88 s=false->fK s ex≠10000000000000000)/\0<=sig/\sig<=100/\0<=ex/\ex<=16/\s.size<=5
def aDZ(neg long:Bool)(s:ByteArray)(ex sig:Int):Prop:=TG neg long s ex sig\/(GN neg long s ex sig=false/\TG false long s ex sig)
theorem aCh(n:Nat):(iR n).size=4:=rfl
theorem EK{n:Nat}(h:n<10000):allB bG (iR n)=true:=by
 show([dgt (n / 1000),dgt (n / 100 % 10),dgt (n / 10 % 10),dgt (n % 10)].all fun b=>bG (b.toNat:Int))=true;have e: ∀k,k<=9->bG ((dgt k).toNat:Int)=true:=fun k hk=>by rw[V7 hk];unfold bG;exact aAP (by omega)
 simp only[aOx,aV5,aUn,aFU];exact⟨e _ (by omega),e _ (by omega),e _ (by omega),e _ (by omega)⟩
theorem zQ{neg:Bool}{s:ByteArray}{sig:Int}(h4:s.size=4)(hx:allB bU s=true)(hn:neg=true->allB ZO s=false)(hs:sig≠0->hasB 88 s=false)(s0:0<=sig)(s1:sig<=4):TG neg false s 0 sig:=by
 refine⟨?_,fun h8=>?_,s0,by omega,by omega,by omega,by omega⟩
 . unfold GN gX;rw[aAP h4,hx];have e1:(neg&&allB ZO s)=false:=by cases neg;rfl;rw[hn rfl];rfl
   have e2:(!decide (sig=0)&&hasB 88 s)=false:=by
    by_cases c:sig=0
    . rw[aAP c];rfl
    rw[hs c,aRI]
   rw[e1,e2,aAP s0,aAP (show sig<=(s.size:Int)+0 by omega)]
   rfl
 have hd:=(jV hx).1 h8;have:=nV hd h4;unfold fK;unfold p10;simp;omega
theorem LM{n:Nat}(hn:n<10000)(neg:Bool){sig:Int}(s0:0<=sig)(s1:sig<=4):aDZ neg false (iR n) 0 sig:=by
 have hd:=EK hn;have hx:=pY hd;have h8:=(jV hx).2 hd
 by_cases c:neg=true/\allB ZO (iR n)=true
 . refine .inr ⟨?_,zQ rfl hx (fun h=>by cases h) (fun _=>h8) s0 s1⟩;unfold GN gX;rw[c.1,c.2,hx];simp
 exact .inl (zQ rfl hx (fun h=>by cases e:allB ZO (iR n);rfl;exact absurd ⟨h,e⟩ c) (fun _=>h8) s0 s1)
def xS(s:ByteArray)(a b:Int):Nat->ByteArray
 |0=>⟨#[]⟩
 |i+1=>xS s a b i++(if(i:Int)=a\/(i:Int)=b then⟨#[88]⟩else s.extract i (i+1))
theorem xC(s:ByteArray)(a b:Int)(i:Nat):xS s a b (i+1)=xS s a b i++(if(i:Int)=a\/(i:Int)=b then⟨#[88]⟩else s.extract i (i+1)):=rfl
theorem aHj{s:ByteArray}(h4:s.size=4)(hd:allB bG s=true){a b:Int}(a0:0<=a)(a1:a<4):(xS s a b 4).size=4/\allB bU (xS s a b 4)=true/\hasB 88 (xS s a b 4)=true:=by
 have hl:s.data.toList.length=4:=by simpa using h4
 match e:s.data.toList,hl with
 | [x0,x1,x2,x3],_=>
  have hs:s=⟨#[x0,x1,x2,x3]⟩:=zX e;have hx:=hd;unfold allB at hx;rw[e]at hx;simp only[aOx,aV5,aUn,aFU]at hx;obtain⟨y0,y1,y2,y3⟩:=hx;have dx: ∀z:Int,bG z=true->bU z=true:=fun z h=>by unfold bG at h;unfold bU;rw[h];rfl
  have t0:s.extract 0 1=⟨#[x0]⟩:=by rw[hs];rfl
  have t1:s.extract 1 2=⟨#[x1]⟩:=by rw[hs];rfl
  have t2:s.extract 2 3=⟨#[x2]⟩:=by rw[hs];rfl
  have t3:s.extract 3 4=⟨#[x3]⟩:=by rw[hs];rfl
  have key: ∀(i:Nat) (t:ByteArray) (x:UInt8),t=⟨#[x]⟩->bG (x.toNat:Int)=true-> ∃z:UInt8,(if(i:Int)=a\/(i:Int)=b then(⟨#[88]⟩:ByteArray)else t)=⟨#[z]⟩/\bU (z.toNat:Int)=true/\((i:Int)=a->z=88):=fun i t x ht hx=>by
   split
   . exact⟨88,rfl,rfl,fun _=>rfl⟩
   rename_i h;exact⟨x,ht,dx _ hx,fun c=>absurd (.inl c) h⟩
  obtain⟨z0,e0,d0,w0⟩:=key 0 _ x0 t0 y0;obtain⟨z1,e1,d1,w1⟩:=key 1 _ x1 t1 y1;obtain⟨z2,e2,d2,w2⟩:=key 2 _ x2 t2 y2;obtain⟨z3,e3,d3,w3⟩:=key 3 _ x3 t3 y3;have hE:xS s a b 4=⟨#[z0,z1,z2,z3]⟩:=by
   rw[xC,xC,xC,xC];rw[e0,e1,e2,e3];exact zX (by simp[xS])
  rw[hE];refine⟨rfl,?_,?_⟩
  . show([z0,z1,z2,z3].all fun b=>bU (b.toNat:Int))=true;simp only[aOx,aV5,aUn,aFU];exact⟨d0,d1,d2,d3⟩
  show([z0,z1,z2,z3].any fun b=>decide ((b.toNat:Int)=88))=true;simp only[aVK,List.any_nil,aUz,aJj,aFK];have:a=0\/a=1\/a=2\/a=3:=by omega
  rcases this with h|h|h|h
  . exact .inl (by rw[w0 (by omega)];rfl)
  . exact .inr (.inl (by rw[w1 (by omega)];rfl))
  . exact .inr (.inr (.inl (by rw[w2 (by omega)];rfl)))
  exact .inr (.inr (.inr (by rw[w3 (by omega)];rfl)))
theorem aP3{n:Nat}(hn:n<10000)(neg:Bool){a b:Int}(a0:0<=a)(a1:a<4):aDZ neg false (xS (iR n) a b 4) 0 0:=by
 obtain⟨h4,hx,h8⟩:=aHj (s:=iR n) rfl (EK hn) (b:=b) a0 a1;refine .inl (zQ h4 hx (fun _=>?_) (fun h=>absurd rfl h) (by omega) (by omega))
 cases e:allB ZO (xS (iR n) a b 4)
 . rfl
 obtain⟨j,hj,hj8⟩:=(wK 88 _).1 h8;have:=(kH ZO _).1 e j hj;rw[hj8]at this;cases this
def L9(n z:Nat):ByteArray:=⟨#[dgt (z % 9+1)]⟩++iR n
theorem aFO{n:Nat}(hn:n<10000)(z:Nat):allB bG (L9 n z)=true:=by
 have h2:=EK hn;have e: ∀k,k<=9->bG ((dgt k).toNat:Int)=true:=fun k hk=>by rw[V7 hk];unfold bG;exact aAP (by omega)
 unfold allB at h2 ⊢;unfold L9;rw[aXC,aRr,List.all_append,h2,aUn];show([dgt (z % 9+1)].all fun b=>bG (b.toNat:Int))=true;simp only[aOx,aV5,aUn];exact e _ (by omega)
theorem aFG(neg:Bool){s t:ByteArray}{n z k:Nat}{ex sig:Int}(hn:n<10000)(hs:s=L9 n z)(ht:t=s.extract 0 k)(k0:1<=k)(k1:k<=5)(e0:0<=ex)(e1:ex<=11)(hk:ex=0->k=5)(s0:0<=sig)(s1:sig<=k+ex):aDZ neg true t ex sig:=by
 have hd:=aFO hn z;have hsz:s.size=5:=by rw[hs];rfl
 have htz:t.size=k:=by rw[ht,aUp,hsz];omega
 have hb: ∀i,i<k->aY t i=aY s i:=fun i hi=>by
  rw[bQ t i (by omega),bQ s i (by omega)];subst ht;rw[ByteArray.getElem_extract];simp
 have hdt:allB bG t=true:=by
  rw[kH];intro i hi;rw[hb i (by omega)];rw[<-hs]at hd;exact(kH bG s).1 hd i (by omega)
 have hb0:aY t 0≠48:=by
  rw[hb 0 (by omega),hs];show((dgt (z % 9+1)).toNat:Int)≠48;rw[V7 (by omega)];omega
 have hm1:iT t<100000:=by
  have:=dec_lt t.data.toList 0 0 (yI hdt) (by decide);rw[aJU]at this;have htl:t.data.toList.length=t.size:=by simp
  have hp:(10:Nat) ^ t.data.toList.length<=10 ^ 5:=aRK (by omega) (by omega);have hp2:(10:Nat) ^ 5=100000:=by decide
  unfold iT;omega
 have hm0:=wW t;have hp:p10 ex.toNat<=100000000000/\1<=p10 ex.toNat:=by
  have:ex.toNat<=11:=by omega
  refine⟨?_,UN _⟩;unfold p10;have h1:(10:Nat) ^ ex.toNat<=10 ^ 11:=aRK (by omega) this;have h3:(10:Nat) ^ 11=100000000000:=by decide
  have e:((10:Int) ^ ex.toNat)=((10 ^ ex.toNat:Nat):Int):=by simp
  rw[e];omega
 have hm:fK t ex<10000000000000000:=by
  unfold fK;have:iT t * p10 ex.toNat<=99999 * 100000000000:=Int.mul_le_mul (by omega) hp.1 (by omega) (by omega);omega
 refine .inl ⟨?_,fun _=>by omega,s0,by omega,e0,by omega,by omega⟩;unfold GN fM;simp only[aTF,aFU,aFK,Bool.not_eq_true',aUv,aD5];rw[htz];refine⟨⟨by omega,by omega,hdt,hb0,e0,by omega,?_,by omega⟩,s0,by omega⟩
 by_cases c:ex=0
 . right;have:=hk c;omega
 exact .inl c
theorem aMI{d:Dt}(hy:TG d.neg d.long d.dg d.ex d.sig)(hsm:0<d.sig->d.mo.size=0){m k:Nat}(hm:m<40)(hk:k<40)(hmo:d.mo=jX m\/d.mo.size=0)(hda:d.da.size=0\/(d.mo=jX m/\m≠0/\k≠0/\d.aH=0/\d.da=zU m k))(hma:jZ d.m0 d.m1 d.m2 (comps d.mo d.da)=0):
 d.err=0/\ ∃y m k,d.Fill y m k:=by
 obtain⟨h1,h2,h3,h4,h5,h6,h7⟩:=hy;have hmz:d.mo.size=0\/(d.aH≠0\/dP d.mo 12=true):=by
  rcases hmo with h|h
  . by_cases c:m=0
    . left;rw[h,c];rfl
    right;have:=(U2 hm c).2;unfold Dt.aH;rw[h];exact this
  exact .inl h
 have aJk:d.far=false:=by
  unfold Dt.far
  cases e:d.mask
  . have:decide (d.mag=10000000000000000)=false:=aCw (h2 e);rw[this];simp
  simp
 have hyo:d.lI=true:=by
  unfold Dt.lI;have e:(decide (0<d.sig)&& !decide (d.mo.size=0))=false:=by
   by_cases c:0<d.sig
   . rw[aAP (hsm c)];simp
   rw[aCw c];rfl
  rw[aJk,e,show d.JG=true from h1];rfl
 have hf:d.form=0:=by
  unfold Dt.form;rw [hyo,aB9 (by decide),aB9 (by
   rcases hmz with h|h|h
   . rw[aAP h];simp
   . rw[aCw h];simp
   . rw[h];simp),aB9 (by
   rcases hda with h|⟨e1,e2,e3,e4,e5⟩
   . rw[aAP h];simp
   have hs:=(U2 hm e2).1;have:dB (jX m)=0:=by rw[<-e1];exact e4
   have hh:=aCr hm hk e2 e3 this;rw[e5,e1,aCw (show ¬(jX m).size=0 by omega),aAP e4,hh.2.1];simp)]
  exact hma
 have hfil : ∃y m k,d.Fill y m k:=by
  obtain⟨y,hy⟩:=aMN (d:=d) h1;rcases hda with h|⟨e1,e2,e3,e4,e5⟩
  . have : ∃n,n ∈ d.ms:=by
     unfold Dt.ms
     split
     . exact⟨_,aG1 ..⟩
     rename_i hz
     split
     . exact⟨_,aG1 ..⟩
     rename_i hz2
     have hz0:d.aH=0:=by omega
     rcases hmz with g|g|g
     . exact absurd g hz2
     . exact absurd hz0 g
     rw[MX]at g
     cases e:dV d.mo 12 with
     |nil=>exact absurd e g
     |cons x l=>exact⟨x,aG1 ..⟩
    obtain⟨n,hn⟩:=this;refine⟨y,n,0,hy,hn,?_,?_⟩
    . unfold Dt.ds;rw[aFV h];exact aG1 ..
    unfold Dt.len;rw[aFV h];omega
  have:dB (jX m)=0:=by rw[<-e1];exact e4
  have hh:=aCr hm hk e2 e3 this;have hs:=(U2 hm e2).1;obtain⟨n,j,n0,n1,na,j0,j1,ja,hl⟩:=aEu hh.2.2;refine⟨y,n,j,hy,?_,?_,?_⟩
  . unfold Dt.ms;rw[aB9 (by omega),aB9 (by rw[e1];omega),eY];exact⟨n0,by omega,by rw[e1];exact na⟩
  . unfold Dt.ds;rw[aB9 (by rw[e5];omega),eY];exact⟨j0,by omega,by rw[e5];exact ja⟩
  unfold Dt.len;split
  . rename_i hz;rw[e5]at hz;omega
  exact hl y
 refine⟨?_,hfil⟩;unfold Dt.err;rw[hf,aB9 (by decide),aB9 (fun h=>h.2 hfil)]
end Bk
end
section
open Go.RowKit Go.Lib
namespace Bk
open Un (ba bt ri rb aU bF)
theorem VZ: ∀k:Nat,k<10->CG.extract k (k+1)=⟨#[dgt k]⟩:=by decide
theorem aJv{m:Nat}(h:m<10000):CG.extract (m / 1000) (m / 1000+1)++CG.extract (m / 100 % 10) (m / 100 % 10+1)++CG.extract (m / 10 % 10) (m / 10 % 10+1)++CG.extract (m % 10) (m % 10+1)=iR m:=by
 rw[VZ _ (by omega),VZ _ (by omega),VZ _ (by omega),VZ _ (by omega)];exact zX (by simp[iR])
theorem aJw(n:Nat)(w:World)(h:n<65536):
 Calls Tryz.prog 59 #[.int .u16 n] w fun r w'=>r=.returned (.string (iR (n % 10000)))/\Below w.heap.size w w':=by
 obtain⟨m,hm0⟩: ∃m,m=n % 10000:=⟨_,rfl⟩;rw[<-hm0];have HT:=GK (aJv (m:=m) (by omega));have HM:=GK hm0;unfold CG at HT;clear hm0
 go_enter Tryz.func59,Tryz.ntmps59
 go_upto_region 2 with(fail)
 go_cut [0] (fun s wx=>s=.int .u16 (m:Int)/\w=wx)
 case first=>
  clear HT
  go_wp2
  go_meet
  exact⟨by rw[HM.out];go_num,rfl⟩
 case rest=>
 obtain⟨rfl,rfl⟩:=hcut;have hm:m<10000:=by rw[HM.out];omega
 go_wp2
 go_quiet (fail)
 go_wp2
 all_goals go_ret
 all_goals exact⟨rs HT.out,below_drewN (aAL _ _) _⟩
def WV(f:Nat)(neg:Bool)(n z0 z1 mo da k0 k1 k2:Nat):List Value:=[.int .u8 f,.bool neg,.int .u16 n,.int .u8 z0,.int .u8 z1,.int .u8 mo,.int .u8 da,.int .u8 k0,.int .u8 k1,.int .u8 k2]
theorem aFI(f:Nat)(neg:Bool)(n z0 z1 mo da k0 k1 k2:Nat)(w:World)(h:mo<256):
 Calls Tryz.prog 34 #[.agg (WV f neg n z0 z1 mo da k0 k1 k2).toArray] w fun r w'=>r=.returned (.string (jX (mo % 40)))/\Below w.heap.size w w':=by
 have hD:Rw w.heap.size (WV f neg n z0 z1 mo da k0 k1 k2) w _:=Rw.fresh (aAL _ _) _ 28;have HT:=GK (fun(n:Nat) (h:n<=99) w=>AZ n w h);unfold WV at hD;unfold WV;obtain⟨m,hm0⟩: ∃m,m=mo % 40:=⟨_,rfl⟩;rw[<-hm0];have HM:=GK hm0;clear hm0
 go_enter Tryz.func34,Tryz.ntmps34
 go_upto_region 1 with(fail)
 generalize World.alloc _ _=W0 at hD ⊢;have c5:=hD.cell 5 _ rfl;have hB:=hD.below
 go_cut [3] (fun s wx=>s=.int .i64 (m:Int)/\Below w.heap.size w wx)
 case first=>
  clear HT
  go_wp2
  go_meet
  exact⟨by rw[HM.out];go_num,hB⟩
 case rest=>
 obtain⟨rfl,hB⟩:=hcut;clear c5 hD;have hm:m<40:=by rw[HM.out];omega
 clear HM
 by_cases c0:m=0
 . subst c0;clear HT
   go_wp2
   go_ret
   exact⟨rfl,hB⟩
 by_cases c1:m<=12
 . have HQ:Hid (twoS m=jX m):=GK (by unfold jX;rw[aB9 c0,aFV c1]);have HT2:=GK (fun w=>HT.out m (by omega) w);clear HT
   go_wp2_with (go_at_call 61;with_reducible refine(HT2.out _).mono ?_;rintro _ w' ⟨rfl,hb⟩)
   go_ret
   exact⟨rs HQ.out,bt hB hb⟩
 by_cases c2:m<=33
 . have HQ:Hid (twoS (m+8)=jX m):=GK (by unfold jX;rw[aB9 c0,aB9 c1,aFV c2]);have HT2:Hid (∀w,Calls Tryz.prog 61 #[.int .i64 ((m:Int)+8)] w fun r w'=>r=.returned (.string (twoS (m+8)))/\Below w.heap.size w w'):=GK (fun w=>HT.out (m+8) (by omega) w);clear HT
   go_wp2_with (go_at_call 61;with_reducible refine(HT2.out _).mono ?_;rintro _ w' ⟨rfl,hb⟩)
   go_ret
   exact⟨rs HQ.out,bt hB hb⟩
 clear HT;have:m=34\/m=35\/m=36\/m=37\/m=38\/m=39:=by omega
 rcases this with rfl|rfl|rfl|rfl|rfl|rfl
 all_goals
  go_wp2
  go_ret
  exact⟨rfl,by first|exact bt hB (ba (aAL _ _) _)|exact ba hB _⟩
def dtB(m:Nat):Bool:=((jX m).data.toList==[48,50])==decide (m=2)&&(((jX m).data.toList==[48,52])==decide (m=4)&&(((jX m).data.toList==[48,54])==decide (m=6)&&(((jX m).data.toList==[48,57])==decide (m=9)&&(((jX m).data.toList==[49,49])==decide (m=11)&&((jX m).data.toList==[88,57])==decide (m=39)))))
theorem aQM:((List.range 40).all fun m=>dtB m)=true:=by kernel_rfl
theorem aOB{m:Nat}(h:m<40){s:ByteArray}(hs:s=jX m):(s.toList==[48,50])=decide (m=2)/\(s.toList==[48,52])=decide (m=4)/\(s.toList==[48,54])=decide (m=6)/\(s.toList==[48,57])=decide (m=9)/\(s.toList==[49,49])=decide (m=11)/\(s.toList==[88,57])=decide (m=39):=by
 have:=aQM;rw[aJL]at this;have:=this m (aRH.2 h);unfold dtB at this;rw[aUF,hs];simp only[aFU,aFZ]at this;exact this
theorem aNc(f:Nat)(neg:Bool)(n z0 z1 mo da k0 k1 k2 m:Nat)(w:World)(h:da<256)(hm:m<40)(h0:m≠0)(hs:dB (jX m)=0):
 Calls Tryz.prog 36 #[.agg (WV f neg n z0 z1 mo da k0 k1 k2).toArray,.string (jX m)] w fun r w'=>r=.returned (.string (zU m (da % 40)))/\Below w.heap.size w w':=by
 have hD:Rw w.heap.size (WV f neg n z0 z1 mo da k0 k1 k2) w _:=Rw.fresh (aAL _ _) _ 28;have HT:=GK (fun(n:Nat) (h:n<=99) w=>AZ n w h);unfold WV at hD;unfold WV;obtain⟨k,hk0⟩: ∃k,k=da % 40:=⟨_,rfl⟩;rw[<-hk0];have HM:=GK hk0;clear hk0;obtain⟨s,hs0⟩: ∃s,s=jX m:=⟨_,rfl⟩;rw[<-hs0];have HS:=GK hs0;have HZ:=GK hs;clear hs0 hs
 go_enter Tryz.func36,Tryz.ntmps36
 go_upto_region 1 with(fail)
 generalize World.alloc _ _=W0 at hD ⊢;have c6:=hD.cell 6 _ rfl;have hB:=hD.below
 go_cut [5] (fun s wx=>s=.int .i64 (k:Int)/\Below w.heap.size w wx)
 case first=>
  clear HT
  go_wp2
  go_meet
  exact⟨by rw[HM.out];go_num,hB⟩
 case rest=>
 obtain⟨rfl,hB⟩:=hcut;clear c6 hD;have hk:k<40:=by rw[HM.out];omega
 clear HM
 by_cases c0:k=0
 . subst c0;clear HT HS HZ
   go_wp2
   go_ret
   exact⟨rfl,hB⟩
 by_cases c1:k<=31
 . obtain⟨M,hM0⟩: ∃M,M=aIO m:=⟨_,rfl⟩;have HMS:=GK hM0;have hq0:twoS (min k M)=zU m k:=by unfold zU;rw[aB9 c0,aFV c1,hM0]
   have hmin:min k M<=99:=by omega
   have HQ:=GK hq0;have HT2:=GK (fun w=>HT.out (min k M) hmin w);clear hM0 hq0 hmin HT
   go_upto_block 0 with(fail)
   go_cut [6] (fun s wx=>s=.int .i64 (M:Int)/\Below w.heap.size w wx)
   case first=>
    clear HZ HT2 HQ;obtain⟨t2,t4,t6,t9,t11,t39⟩:=aOB hm HS.out;clear HS;have hM:=HMS.out;clear HMS;unfold aIO at hM
    by_cases g2:m=2
    . rw[aFV g2]at hM;rw[aAP g2]at t2;subst hM;clear t4 t6 t9 t11 t39 g2 hm h0
      go_wp2
      go_meet
      exact⟨rfl,hB⟩
    rw[aB9 g2]at hM;rw[aCw g2]at t2
    by_cases g4:m=4\/m=6\/m=9\/m=11\/m=39
    . rw[aFV g4]at hM;subst hM;rcases g4 with rfl|rfl|rfl|rfl|rfl
      all_goals
       simp only[aUV,Nat.reduceEqDiff,aUH]at t4 t6 t9 t11 t39;clear hm h0 g2
       go_wp2
       go_meet
       exact⟨rfl,hB⟩
    rw[aB9 g4]at hM;subst hM;rw[aCw (by omega)]at t4 t6 t9 t11 t39;clear g4 g2 hm h0
    go_wp2
    go_meet
    exact⟨rfl,hB⟩
   case rest=>
   obtain⟨rfl,hB⟩:=hcut;clear HMS HS HZ;rw[show ((min k M:Nat):Int)=min (k:Int) (M:Int)from by omega]at HT2
   go_wp2_with (go_at_call 61;with_reducible refine(HT2.out _).mono ?_;rintro _ w' ⟨rfl,hb⟩)
   go_ret
   exact⟨rs HQ.out,bt hB hb⟩
 have t2:=(aOB hm HS.out).1;clear HT HZ HS;have hkk:k=32\/k=33\/k=34\/k=35\/k=36\/k=37\/k=38\/k=39:=by omega
 by_cases g2:m=2
 . subst g2;rw[aAP rfl]at t2;rcases hkk with rfl|rfl|rfl|rfl|rfl|rfl|rfl|rfl
   all_goals
    go_wp2
    go_ret
    exact⟨rfl,by first|exact bt hB (ba (aAL _ _) _)|exact ba hB _⟩
 have HQ:Hid (daX (k - 32)=zU m k):=GK (by unfold zU;rw[aB9 c0,aB9 c1,aB9 (fun h=>g2 h.1)]);rw[aCw g2]at t2;rcases hkk with rfl|rfl|rfl|rfl|rfl|rfl|rfl|rfl
 all_goals
  go_wp2
  go_ret
  exact⟨rs (by rw[<-HQ.out];rfl),by first|exact bt hB (ba (aAL _ _) _)|exact ba hB _⟩
end Bk
end
section
open Go.RowKit Go.Lib
namespace Bk
open Un (ba bt ri rb aU bF)
theorem aCV{s:ByteArray}(a b:Int)(h4:s.size=4): ∀i,i<=4->(xS s a b i).size=i
 |0,_=>rfl
 |i+1,h=>by
  rw[xC,ByteArray.size_append,aCV a b h4 i (by omega)]
  split
  . rfl
  rw[aUp];omega
theorem extract_all(s:ByteArray):s.extract 0 s.size=s:=by
 apply zX;simp
def N9:ByteArray:=⟨#[49,50,51,52,53,54,55,56,57]⟩
theorem aWS: ∀k:Nat,k<9->N9.extract k (k+1)=⟨#[dgt (k+1)]⟩:=by decide
def yl(f:Nat)(neg:Bool)(n z0 z1:Nat):List Value:=[.int .u8 f,.bool neg,.int .u16 n,.int .u8 z0,.int .u8 z1]
def iQ(neg long:Bool)(s:ByteArray)(ex sig:Int):List Value:=[.bool neg,.bool long,.string s,.int .i64 ex,.int .i64 sig]
def aXu(w:World)(e:Ending)(w':World):Prop:= ∃neg long s ex sig,TG neg long s ex sig/\e=.returned (yv neg long s ex sig)/\Below w.heap.size w w'
theorem RS:(Tryz.prog.info? 35).map (·.size)=some 5:=by kernel_rfl
structure Yw(p:Nat)(f:Nat)(fZ:Bool)(n z0 z1:Nat)(neg long:Bool)(s:ByteArray)(ex sig:Int)(w W:World):Prop where
 x:Rw w.heap.size (yl f fZ n z0 z1) w W
 r:Rw (w.heap.size+1) (iQ false false ⟨#[]⟩ 0 0) w W
 y:Rw p (iQ neg long s ex sig) w W
 n:w.heap.size+1<p
theorem Yw.later{p f:Nat}{fZ:Bool}{n z0 z1:Nat}{neg long:Bool}{s:ByteArray}{ex sig:Int}{w W W2:World}(h:Yw p f fZ n z0 z1 neg long s ex sig w W)(hb:Below W.heap.size W W2):Yw p f fZ n z0 z1 neg long s ex sig w W2:=
 ⟨h.x.later hb,h.r.later hb,h.y.later hb,h.n⟩
theorem Yw.set{p f:Nat}{fZ:Bool}{n z0 z1:Nat}{neg long:Bool}{s:ByteArray}{ex sig:Int}{w W:World}(h:Yw p f fZ n z0 z1 neg long s ex sig w W)(k:Nat)(hk:k<5)(v:Value)
 {neg' long':Bool} {s':ByteArray} {ex' aPs:Int} (e:(iQ neg long s ex sig).set k v=iQ neg' long' s' ex' aPs):Yw p f fZ n z0 z1 neg' long' s' ex' aPs w (W.setCell ⟨p,k,none⟩ v):=
 ⟨h.x.other (by have:=h.n;omega) h.y.new k v,h.r.other (by have:=h.n;omega) h.y.new k v,by have:=h.y.set k hk v;rw[e]at this;exact this,h.n⟩
theorem Yw.cells{p f:Nat}{fZ:Bool}{n z0 z1:Nat}{neg long:Bool}{s:ByteArray}{ex sig:Int}{w W:World}(h:Yw p f fZ n z0 z1 neg long s ex sig w W):
 W.cell? ⟨w.heap.size,0,none⟩=some (.int .u8 f)/\W.cell? ⟨w.heap.size,1,none⟩=some (.bool fZ)/\W.cell? ⟨w.heap.size,2,none⟩=some (.int .u16 n)/\W.cell? ⟨w.heap.size,3,none⟩=some (.int .u8 z0)/\W.cell? ⟨w.heap.size,4,none⟩=some (.int .u8 z1)/\
 W.cell? ⟨p,0,none⟩=some (.bool neg)/\W.cell? ⟨p,1,none⟩=some (.bool long)/\W.cell? ⟨p,2,none⟩=some (.string s)/\W.cell? ⟨p,3,none⟩=some (.int .i64 ex)/\W.cell? ⟨p,4,none⟩=some (.int .i64 sig)/\
 W.frozen? ⟨p,0,none⟩=false/\W.frozen? ⟨p,1,none⟩=false/\W.frozen? ⟨p,2,none⟩=false/\W.frozen? ⟨p,3,none⟩=false/\W.frozen? ⟨p,4,none⟩=false:=
 ⟨h.x.cell 0 _ rfl,h.x.cell 1 _ rfl,h.x.cell 2 _ rfl,h.x.cell 3 _ rfl,h.x.cell 4 _ rfl,h.y.cell 0 _ rfl,h.y.cell 1 _ rfl,h.y.cell 2 _ rfl,h.y.cell 3 _ rfl,h.y.cell 4 _ rfl,
  h.y.free 0 (by unfold iQ;simp),h.y.free 1 (by unfold iQ;simp),h.y.free 2 (by unfold iQ;simp),h.y.free 3 (by unfold iQ;simp),h.y.free 4 (by unfold iQ;simp)⟩
theorem aLF(f:Nat)(fZ:Bool)(n z0 z1:Nat)(w:World)(hf:f<256)(hn:n<65536)(h0:z0<256)(h1:z1<256):
 Calls Tryz.prog 33 #[.agg (yl f fZ n z0 z1).toArray] w (aXu w):=by
 have hX:Rw w.heap.size (yl f fZ n z0 z1) w _:=Rw.fresh (aAL _ _) _ 25;have hX2:=Rw.fresh hX.below (iQ false false ⟨#[]⟩ 0 0) 35;simp only[fC]at hX2;have hA:_/\_:=⟨hX.later (ba (aAL _ _) (.cells (iQ false false ⟨#[]⟩ 0 0).toArray 35)),hX2⟩;clear hX hX2;have H4:=GK (fun w=>aJw n w hn);obtain⟨m,hm0⟩: ∃m,m=n % 10000:=⟨_,rfl⟩;have hm:m<10000:=by omega
 rw[<-hm0]at H4;clear hm0;obtain⟨g,hg0⟩: ∃g,g=f % 6:=⟨_,rfl⟩;have HG:=GK hg0;clear hg0;have HM:=GK hm;clear hm;have HCK:=GK (fun neg long s ex sig w hs s0 s1=>FM neg long s ex sig w hs s0 s1);unfold yl iQ at hA;unfold yl
 go_enter Tryz.func33,Tryz.ntmps33
 go_upto_region 1 with(fail)
 generalize World.alloc _ _=W0 at hA ⊢;have HD:Hid (Rw w.heap.size (yl f fZ n z0 z1) w W0):=GK hA.1;have HF:Hid (Rw (w.heap.size+1) (iQ false false ⟨#[]⟩ 0 0) w W0):=GK hA.2;clear hA
 go_cut [3] (fun s3 wx=> ∃p,s3=.pointer (some ⟨p,0,none⟩)/\Yw p f fZ n z0 z1 fZ false (iR m) 0 0 w wx)
 case first=>
  have c1:=HD.out.cell 1 _ rfl;have c2:=HD.out.cell 2 _ rfl;clear HCK HG HM;have HN:Hid (Rw W0.heap.size (iQ false false ⟨#[]⟩ 0 0) w (W0.alloc (.cells #[.bool false,.bool false,.string ⟨#[]⟩,.int .i64 0,.int .i64 0] 35))):=GK (Rw.fresh HD.out.below _ _);have lt0:=HD.out.lt;have HLT:=GK HF.out.lt
  go_region_with (go_at_call 59;with_reducible refine(H4.out _).mono ?_;rintro _ w' ⟨rfl,hb⟩;first
   |(replace HD:=GK (HD.out.later (by first|exact hb|exact bt (aAL _ _).drew hb|exact bt (aAL _ _).drew.drew hb|exact bt (aAL _ _).drew.drew.drew hb));replace HF:=GK (HF.out.later (by first|exact hb|exact bt (aAL _ _).drew hb|exact bt (aAL _ _).drew.drew hb|exact bt (aAL _ _).drew.drew.drew hb));clear hb c1 c2 lt0 HN;have lt0:=HD.out.lt;have c1:=HD.out.cell 1 _ rfl;have c2:=HD.out.cell 2 _ rfl)
   | (have hb2:Below (W0.alloc (.cells #[.bool false,.bool false,.string ⟨#[]⟩,.int .i64 0,.int .i64 0] 35)).heap.size (W0.alloc (.cells #[.bool false,.bool false,.string ⟨#[]⟩,.int .i64 0,.int .i64 0] 35)) w':=(by first|exact hb|exact bt (aAL _ _).drew hb|exact bt (aAL _ _).drew.drew hb)
      replace HN:=GK (HN.out.later hb2);replace HD:=GK (HD.out.later (bt (ba (aAL _ _) _) hb2));replace HF:=GK (HF.out.later (bt (ba (aAL _ _) _) hb2));clear hb hb2 c1 c2 lt0;have lt0:=HD.out.lt;have c1:=HD.out.cell 1 _ rfl;have c2:=HD.out.cell 2 _ rfl;have n0:=HN.out.cell 0 _ rfl;have n1:=HN.out.cell 1 _ rfl;have n2:=HN.out.cell 2 _ rfl;have n3:=HN.out.cell 3 _ rfl;have n4:=HN.out.cell 4 _ rfl;have f0:=HN.out.free 0 (by unfold iQ;simp);have f1:=HN.out.free 1 (by unfold iQ;simp);have f2:=HN.out.free 2 (by unfold iQ;simp);have f3:=HN.out.free 3 (by unfold iQ;simp);have f4:=HN.out.free 4 (by unfold iQ;simp)))
  all_goals (go_wp2_with fail)
  all_goals go_meet
  all_goals first
   | (have e2:=HN.out.new
      have e1:=HLT.out;exact⟨_,rfl,HD.out.others (by omega) e2 (iQ fZ false (iR m) 0 0) 0,HF.out.others (by omega) e2 (iQ fZ false (iR m) 0 0) 0,HN.out.eU (iQ fZ false (iR m) 0 0) rfl,e1⟩)
   |exact⟨_,rfl,HD.out.later (ba (aAL _ _) _),HF.out.later (ba (aAL _ _) _),Rw.fresh HD.out.below (iQ fZ false (iR m) 0 0) _,HF.out.lt⟩
 case rest=>
 obtain⟨p,rfl,hW⟩:=hcut;clear HD HF H4;obtain⟨x0,x1,x2,x3,x4,y0,y1,y2,y3,y4,z0',z1',z2',z3',z4'⟩:=hW.cells
 go_upto_region 2 with(fail)
 go_cut [16] (fun s wx=>s=.int .u8 (g:Int)/\wc=wx)
 case first=>
  clear HCK HM
  go_wp2
  go_meet
  exact⟨by rw[HG.out];go_num,rfl⟩
 case rest=>
 obtain⟨rfl,rfl⟩:=hcut
 go_upto_block 0 with(fail)
 go_cut [] (fun wx=> ∃neg long s ex sig,aDZ neg long s ex sig/\Yw p f fZ n z0 z1 neg long s ex sig w wx)
 case first=>
  clear HCK
  by_cases g3:g=3
  . subst g3;have HW:=GK hW;clear hW
    go_upto_region 4 with(fail)
    go_cut [4,5] (fun s4 s5 wx=> ∃a b:Int,s4=.int .i64 a/\s5=.int .i64 b/\0<=a/\a<4/\0<=b/\b<4/\Yw p f fZ n z0 z1 fZ false (iR m) 0 0 w wx)
    case first=>
     clear HM
     go_region
     all_goals (go_wp2_with fail)
     all_goals go_meet
     all_goals exact⟨_,_,rfl,rfl,by omega,by omega,by omega,by omega,HW.out.later (aAL _ _).drew⟩
    case rest=>
    obtain⟨a,b,rfl,rfl,a0,a1,b0,b1,hW⟩:=hcut;clear HW x0 x1 x2 x3 x4 y0 y1 y2 y3 y4 z0' z1' z2' z3' z4';have HM2:=GK (⟨a0,a1⟩:_/\_);clear b0 b1 a0 a1
    go_upto_block 1 with(fail)
    go_wp2
    go_loopw [6,7] (fun s6 s7 wr=> ∃i:Nat,i<=4/\s7=.int .i64 i/\s6=.string (xS (iR m) a b i)/\Yw p f fZ n z0 z1 fZ false (iR m) 0 0 w wr) (fun _ i _=>4 - (intOf i).toNat)
    case atStart=>exact⟨0,by omega,rfl,rfl,hW⟩
    case round=>
     obtain⟨i,hi,rfl,rfl,hW⟩:=hrel
     by_cases hlt:i<4
     . have e4:(iR m).size=4:=rfl;have eX:(xS (iR m) a b i).size=i:=aCV a b rfl i (by omega);have HNX:=GK (xC (iR m) a b i);obtain⟨x0,x1,x2,x3,x4,y0,y1,y2,y3,y4,z0',z1',z2',z3',z4'⟩:=hW.cells;have HW:=GK hW;clear hW;generalize xS (iR m) a b i=X at *
       by_cases ha:(i:Int)=a\/(i:Int)=b
       . rw[aFV ha]at HNX;have key:((i:Int)==a)=true\/(((i:Int)==a)=false/\((i:Int)==b)=true):=by
          by_cases c:(i:Int)=a
          . exact .inl (by rw[aFZ];exact c)
          exact .inr ⟨by rw[aAO];exact c,by rw[aFZ];exact ha.resolve_left c⟩
         clear ha;rcases key with t1|⟨t1,t2⟩
         all_goals
          go_wp2
          go_roundw
          case rel=>exact⟨i+1,by omega,by go_num,by rw[HNX.out],HW.out⟩
          case measure=>simp[intOf];omega
       rw[aB9 ha]at HNX;have t1:((i:Int)==a)=false:=by rw[aAO];exact fun c=>ha (.inl c)
       have t2:((i:Int)==b)=false:=by rw[aAO];exact fun c=>ha (.inr c)
       clear ha
       go_wp2
       go_roundw
       case rel=>exact⟨i+1,by omega,by go_num,by rw[HNX.out],HW.out⟩
       case measure=>simp[intOf];omega
     obtain rfl:i=4:=by omega
     have HQ:=GK (aP3 HM.out fZ (b:=b) HM2.out.1 HM2.out.2);obtain⟨x0,x1,x2,x3,x4,y0,y1,y2,y3,y4,z0',z1',z2',z3',z4'⟩:=hW.cells;have HW:=GK hW;clear hW HM
     go_wp2
     go_meet
     exact⟨_,_,_,_,_,HQ.out,HW.out.set 2 (by omega) _ rfl⟩
  by_cases g4:g=4
  . subst g4;have HW:=GK hW;clear hW;have hm:=HM.out;have HQ:=GK (LM hm fZ (sig:=1+(z0:Int) % 4) (by omega) (by omega));clear hm HM
    go_wp2
    go_meet
    exact⟨_,_,_,_,_,HQ.out,HW.out.set 4 (by omega) _ rfl⟩
  by_cases g5:g=5
  . subst g5;have HW:=GK hW;clear hW
    go_upto_region 17 with(fail)
    go_cut [] (fun wx=>Yw p f fZ n z0 z1 fZ true (L9 m z0) 0 0 w wx)
    case first=>
     have e4:(iR m).size=4:=aCh m;have HN:Hid (N9.extract (z0 % 9) (z0 % 9+1)++iR m=L9 m z0):=GK (by rw[aWS _ (by omega)];rfl);unfold N9 at HN;clear HM;generalize iR m=s4 at *
     go_region
     all_goals (go_wp2_with fail)
     all_goals go_meet
     all_goals
      have h1:=HW.out.set 1 (by omega) (.bool true) (neg':=fZ) (long':=true) (s':=s4) (ex':=0) (aPs:=0) rfl;rw[HN.out];exact(h1.set 2 (by omega) (.string (L9 m z0)) rfl).later (aAL _ _).drew
    case rest=>
    have hW:=hcut;clear HW x0 x1 x2 x3 x4 y0 y1 y2 y3 y4 z0' z1' z2' z3' z4';obtain⟨x0,x1,x2,x3,x4,y0,y1,y2,y3,y4,z0',z1',z2',z3',z4'⟩:=hW.cells;obtain⟨S,hS⟩: ∃S,S=L9 m z0:=⟨_,rfl⟩;have e5:S.size=5:=by rw[hS];rfl
    have HS:=GK hS;have HW:=GK hW;rw[<-hS]at HW y2;clear hW hS;obtain⟨b3,hb3⟩: ∃b,decide (0<(z1:Int) % 3)=b:=⟨_,rfl⟩
    go_upto_if 83 with(fail)
    clear hb3
    go_cut [] (fun wx=> ∃(t:ByteArray) (k:Nat) (ex:Int),t=S.extract 0 k/\t.size=k/\1<=k/\k<=5/\0<=ex/\ex<=11/\(ex=0->k=5)/\Yw p f fZ n z0 z1 fZ true t ex 0 w wx)
    case first=>
     clear HM
     cases b3
     case true=>
      obtain⟨k,hk0⟩: ∃k,k=1+z1 % 5:=⟨_,rfl⟩;have hwr:IntKind.u8.wrap (1+(z1:Int) % 5)=(k:Int):=by rw[IntKind.wrap_u8];omega
      have k0:1<=k:=by omega
      have k1:k<=5:=by omega
      clear hk0;have HK:=GK (⟨k0,k1⟩:_/\_);have HT:Hid ((S.extract 0 k).size=k):=GK (by rw[aUp];omega)
      go_wp2
      go_meet
      have h1:Yw p f fZ n z0 z1 fZ true (S.extract 0 k) 0 0 w _:=HW.out.set 2 (by omega) (.string (S.extract 0 k)) rfl;exact⟨S.extract 0 k,k,1+(z1:Int) / 16 % 11,rfl,HT.out,HK.out.1,HK.out.2,by omega,by omega,fun h=>by omega,h1.set 3 (by omega) _ rfl⟩
     case false=>
      have HT:Hid (S=S.extract 0 5):=GK (by rw[<-e5];exact(extract_all S).symm)
      go_wp2
      go_meet
      exact⟨S,5,0,HT.out,e5,by omega,by omega,by omega,by omega,fun _=>rfl,HW.out⟩
    case rest=>
    obtain⟨t,k,ex,ht,hk,k0,k1,e0,e1,hz,hW⟩:=hcut;clear HW x0 x1 x2 x3 x4 y0 y1 y2 y3 y4 z0' z1' z2' z3' z4';obtain⟨x0,x1,x2,x3,x4,y0,y1,y2,y3,y4,z0',z1',z2',z3',z4'⟩:=hW.cells;have HW:=GK hW;clear hW;have ht4:t.size=k:=hk;have m0:0<=(z0:Int) / 16 % ((k:Int)+ex+1):=aUl _ (by omega);have m1:(z0:Int) / 16 % ((k:Int)+ex+1)<(k:Int)+ex+1:=aUL _ (by omega);have HQ:=GK (aFG fZ (sig:=(z0:Int) / 16 % ((k:Int)+ex+1)) HM.out HS.out ht k0 k1 e0 e1 hz m0 (by omega));clear HM HS ht hz
    go_wp2
    go_meet
    exact⟨_,_,_,_,_,HQ.out,HW.out.set 4 (by omega) _ rfl⟩
  have hm:=HM.out;have HQ:=GK (LM hm fZ (sig:=0) (by omega) (by omega));have HW:=GK hW;clear hW hm HM x0 x1 x2 x3 x4 y0 y1 y2 y3 y4 z0' z1' z2' z3' z4'
  go_wp2
  go_meet
  exact⟨_,_,_,_,_,HQ.out,HW.out⟩
 case rest=>
 obtain⟨neg,long,s,ex,sig,hQ,hW⟩:=hcut;obtain⟨x0,x1,x2,x3,x4,y0,y1,y2,y3,y4,z0',z1',z2',z3',z4'⟩:=hW.cells;have HW:=GK hW;clear hW;rcases hQ with hq|⟨hn,hq⟩
 . have aK2:Hid (∀w,Calls Tryz.prog 60 #[.agg (iQ neg long s ex sig).toArray] w fun r w'=>r=.returned (.int .i64 1)/\Below w.heap.size w w'):=GK (fun w=>by
    have:=HCK.out neg long s ex sig w (by have:=hq.2.2.2.2.2.2;omega) (by have:=hq.2.2.1;omega) (by have:=hq.2.2.2.1;omega);rw[hq.1,aFV rfl]at this;exact this)
   have HQ:=GK hq;clear HCK hq HG HM;unfold iQ at aK2
   go_upto_region 24 with(go_at_call 60;with_reducible refine(aK2.out _).mono ?_;rintro _ w' ⟨rfl,hb⟩;replace HW:=GK (HW.out.later hb);clear hb x0 x1 x2 x3 x4 y0 y1 y2 y3 y4 z0' z1' z2' z3' z4')
   obtain⟨x0,x1,x2,x3,x4,y0,y1,y2,y3,y4,z0',z1',z2',z3',z4'⟩:=HW.out.cells;have r0:=HW.out.r.cell 0 _ rfl;have r1:=HW.out.r.cell 1 _ rfl;have r2:=HW.out.r.cell 2 _ rfl;have r3:=HW.out.r.cell 3 _ rfl;have r4:=HW.out.r.cell 4 _ rfl;have s0:=HW.out.r.free 0 (by unfold iQ;simp);have s1:=HW.out.r.free 1 (by unfold iQ;simp);have s2:=HW.out.r.free 2 (by unfold iQ;simp);have s3:=HW.out.r.free 3 (by unfold iQ;simp);have s4:=HW.out.r.free 4 (by unfold iQ;simp)
   go_wp2
   have hY:=HW.out.r.eU (iQ neg long s ex sig) rfl;exact aG2 (v:=yv neg long s ex sig) (jA Tryz.results33 _ rfl (aQl _ _ 0 35 (iQ neg long s ex sig) _ hY.range Tryz.underlying35 rfl RS)) rfl ⟨_,_,_,_,_,HQ.out,rfl,hY.below⟩
 have aK2:Hid (∀w,Calls Tryz.prog 60 #[.agg (iQ neg long s ex sig).toArray] w fun r w'=>r=.returned (.int .i64 0)/\Below w.heap.size w w'):=GK (fun w=>by
  have:=HCK.out neg long s ex sig w (by have:=hq.2.2.2.2.2.2;omega) (by have:=hq.2.2.1;omega) (by have:=hq.2.2.2.1;omega);rw[hn,aB9 (by decide)]at this;exact this)
 have HQ:=GK hq;clear HCK hq hn HG HM;unfold iQ at aK2
 go_upto_region 23 with(go_at_call 60;with_reducible refine(aK2.out _).mono ?_;rintro _ w' ⟨rfl,hb⟩;replace HW:=GK (HW.out.later hb);clear hb x0 x1 x2 x3 x4 y0 y1 y2 y3 y4 z0' z1' z2' z3' z4')
 obtain⟨x0,x1,x2,x3,x4,y0,y1,y2,y3,y4,z0',z1',z2',z3',z4'⟩:=HW.out.cells
 go_upto_region 24 with(fail)
 have hN:Yw p f fZ n z0 z1 false long s ex sig w _:=HW.out.set 0 (by omega) (.bool false) rfl;clear HW x0 x1 x2 x3 x4 y0 y1 y2 y3 y4 z0' z1' z2' z3' z4';generalize World.setCell _ _ _=W9 at hN ⊢;have HW:=GK hN;clear hN;obtain⟨x0,x1,x2,x3,x4,y0,y1,y2,y3,y4,z0',z1',z2',z3',z4'⟩:=HW.out.cells;have r0:=HW.out.r.cell 0 _ rfl;have r1:=HW.out.r.cell 1 _ rfl;have r2:=HW.out.r.cell 2 _ rfl;have r3:=HW.out.r.cell 3 _ rfl;have r4:=HW.out.r.cell 4 _ rfl;have s0:=HW.out.r.free 0 (by unfold iQ;simp);have s1:=HW.out.r.free 1 (by unfold iQ;simp);have s2:=HW.out.r.free 2 (by unfold iQ;simp);have s3:=HW.out.r.free 3 (by unfold iQ;simp);have s4:=HW.out.r.free 4 (by unfold iQ;simp)
 go_wp2
 have hY:=HW.out.r.eU (iQ false long s ex sig) rfl;exact aG2 (v:=yv false long s ex sig) (jA Tryz.results33 _ rfl (aQl _ _ 0 35 (iQ false long s ex sig) _ hY.range Tryz.underlying35 rfl RS)) rfl ⟨_,_,_,_,_,HQ.out,rfl,hY.below⟩
end Bk
end
section
open Go.RowKit Go.Lib
namespace Bk
open Un (ba bt ri rb aU bF)
def aUc(w:World)(e:Ending)(w':World):Prop:= ∃d:Dt,d.err=0/\(∃y m k,d.Fill y m k)/\d.dg.size<=5/\d.mo.size<=2/\d.da.size<=2/\0<=d.sig/\d.sig<=100/\0<=d.m0/\0<=d.m1/\0<=d.m2/\e=.returned (aW d)/\Below w.heap.size w w'
def zD:Dt:=⟨false,false,⟨#[]⟩,0,0,⟨#[]⟩,⟨#[]⟩,0,0,0⟩
structure Dw(p:Nat)(xs:List Value)(d:Dt)(w W:World):Prop where
 x:Rw w.heap.size xs w W
 r:Rw (w.heap.size+1) (bP zD) w W
 y:Rw p (bP d) w W
 n:w.heap.size+1<p
theorem Dw.later{p:Nat}{xs:List Value}{d:Dt}{w W W2:World}(h:Dw p xs d w W)(hb:Below W.heap.size W W2):Dw p xs d w W2:=
 ⟨h.x.later hb,h.r.later hb,h.y.later hb,h.n⟩
theorem Dw.set{p:Nat}{xs:List Value}{d:Dt}{w W:World}(h:Dw p xs d w W)(k:Nat)(hk:k<10)(v:Value){d':Dt}(e:(bP d).set k v=bP d'):Dw p xs d' w (W.setCell ⟨p,k,none⟩ v):=
 ⟨h.x.other (by have:=h.n;omega) h.y.new k v,h.r.other (by have:=h.n;omega) h.y.new k v,by have:=h.y.set k hk v;rw[e]at this;exact this,h.n⟩
def dOf(neg long:Bool)(s:ByteArray)(ex sig:Int)(mo da:ByteArray):Dt:=⟨neg,long,s,ex,sig,mo,da,0,0,0⟩
theorem aNe (f:Nat) (fZ:Bool) (n z0 z1 mo da k0 k1 k2:Nat) (w:World) (hf:f<256) (hn:n<65536) (h0:z0<256) (h1:z1<256) (h2:mo<256) (h3:da<256) (h4:k0<256) (h5:k1<256) (h6:k2<256):
 Calls Tryz.prog 16 #[.agg (WV f fZ n z0 z1 mo da k0 k1 k2).toArray] w (aUc w):=by
 have hX:Rw w.heap.size (WV f fZ n z0 z1 mo da k0 k1 k2) w _:=Rw.fresh (aAL _ _) _ 28;have hX2:=Rw.fresh hX.below (bP zD) 37;simp only[fC]at hX2;have hA:_/\_:=⟨hX.later (ba (aAL _ _) (.cells (bP zD).toArray 37)),hX2⟩;clear hX hX2;have HY:=GK (fun w=>aLF f fZ n z0 z1 w hf hn h0 h1);have HM:=GK (fun w=>aFI f fZ n z0 z1 mo da k0 k1 k2 w h2);have HDY:=GK (fun m w hm hz hs=>aNc f fZ n z0 z1 mo da k0 k1 k2 m w h3 hm hz hs);have HSE:=GK (fun d w=>qL d w);have HCO:=GK (fun d w=>KY d w);have HK:=GK (⟨h4,h5,h6⟩:_/\_/\_);obtain⟨m,hm0⟩: ∃m,m=mo % 40:=⟨_,rfl⟩;obtain⟨k,hk0⟩: ∃k,k=da % 40:=⟨_,rfl⟩;have hm:m<40:=by omega
 have hk:k<40:=by omega
 rw[<-hm0]at HM;rw[<-hk0]at HDY;clear hm0 hk0 hf hn h0 h1 h2 h3 h4 h5 h6;unfold bP zD at hA;unfold yl at HY;unfold WV at hA HM HDY;unfold WV
 go_enter Tryz.func16,Tryz.ntmps16
 go_upto_region 1 with(fail)
 generalize World.alloc _ _=W0 at hA ⊢;have HD:Hid (Rw w.heap.size (WV f fZ n z0 z1 mo da k0 k1 k2) w W0):=GK hA.1;have HF:Hid (Rw (w.heap.size+1) (bP zD) w W0):=GK hA.2;clear hA
 go_cut [3] (fun s3 wx=> ∃p neg long s ex sig,s3=.pointer (some ⟨p,0,none⟩)/\TG neg long s ex sig/\Dw p (WV f fZ n z0 z1 mo da k0 k1 k2) (dOf neg long s ex sig ⟨#[]⟩ ⟨#[]⟩) w wx)
 case first=>
  have c0:=HD.out.cell 0 _ rfl;have c1:=HD.out.cell 1 _ rfl;have c2:=HD.out.cell 2 _ rfl;have c3:=HD.out.cell 3 _ rfl;have c4:=HD.out.cell 4 _ rfl;clear HM HDY HSE HCO
  go_wp2_with (go_at_call 33;refine(HY.out _).mono ?_;rintro _ w1 ⟨neg,long,s,ex,sig,hg,rfl,hb⟩;unfold yv)
  go_meet
  exact⟨_,_,_,_,_,_,rfl,hg,(HD.out.later hb).later (ba (aAL _ _) _),(HF.out.later hb).later (ba (aAL _ _) _),Rw.fresh (bt HD.out.below hb) (bP (dOf neg long s ex sig ⟨#[]⟩ ⟨#[]⟩)) _,(HF.out.later hb).lt⟩
 case rest=>
 obtain⟨p,neg,long,s,ex,sig,rfl,hg,hW⟩:=hcut;have HG:=GK hg;clear HD HF HY hg;obtain⟨bs,hbs⟩: ∃b,(sig==0)=b:=⟨_,rfl⟩;have HBS:Hid ((bs=true/\sig=0)\/(bs=false/\sig≠0)):=GK (by
  cases hb:bs
  . rw[hb]at hbs;exact .inr ⟨rfl,by simpa using hbs⟩
  rw[hb]at hbs;exact .inl ⟨rfl,by simpa using hbs⟩)
 have q4:World.cell? _ ⟨p,4,none⟩=some (.int .i64 sig):=hW.y.rF.2.2.2.2.1
 go_upto_if 12 with(fail)
 clear hbs q4
 go_cut [] (fun wx=> ∃wC:ByteArray,((sig=0/\wC=jX m)\/(sig≠0/\wC=⟨#[]⟩))/\Dw p (WV f fZ n z0 z1 mo da k0 k1 k2) (dOf neg long s ex sig wC ⟨#[]⟩) w wx)
 case first=>
  clear HDY HSE HCO;rcases HBS.out with⟨rfl,e⟩|⟨rfl,e⟩
  . have HE:=GK e;clear e HBS;have c0:=hW.x.cell 0 _ rfl;have c1:=hW.x.cell 1 _ rfl;have c2:=hW.x.cell 2 _ rfl;have c3:=hW.x.cell 3 _ rfl;have c4:=hW.x.cell 4 _ rfl;have c5:=hW.x.cell 5 _ rfl;have c6:=hW.x.cell 6 _ rfl;have c7:=hW.x.cell 7 _ rfl;have c8:=hW.x.cell 8 _ rfl;have c9:=hW.x.cell 9 _ rfl;have HW:=GK hW;clear hW
    go_upto_region 3 with(fail)
    go_wp2_with (go_at_call 34;refine(HM.out _).mono ?_;rintro _ w2 ⟨rfl,hb⟩;replace HW:=GK (HW.out.later hb);clear hb c0 c1 c2 c3 c4 c5 c6 c7 c8 c9;have d5:=HW.out.y.cell 5 _ rfl;have z5:=HW.out.y.free 5 (by unfold bP;simp))
    go_meet
    exact⟨_,.inl ⟨HE.out,rfl⟩,HW.out.set 5 (by omega) (.string (jX m)) rfl⟩
  go_wp2
  go_meet
  exact⟨_,.inr ⟨e,rfl⟩,hW⟩
 case rest=>
 obtain⟨wC,hmo,hW⟩:=hcut;have HMO:=GK hmo;clear HBS HM hmo
 go_upto_region 4 with(fail)
 go_cut [23] (fun s23 wx=> ∃b:Bool,s23=.bool b/\(b=true↔(wC.size≠0/\dB wC=0))/\Dw p (WV f fZ n z0 z1 mo da k0 k1 k2) (dOf neg long s ex sig wC ⟨#[]⟩) w wx)
 case first=>
  clear HDY HMO HCO;have q0:World.cell? _ ⟨p,0,none⟩=some (.bool neg):=hW.y.cell 0 _ rfl;have q1:World.cell? _ ⟨p,1,none⟩=some (.bool long):=hW.y.cell 1 _ rfl;have q2:World.cell? _ ⟨p,2,none⟩=some (.string s):=hW.y.cell 2 _ rfl;have q3:World.cell? _ ⟨p,3,none⟩=some (.int .i64 ex):=hW.y.cell 3 _ rfl;have q4:World.cell? _ ⟨p,4,none⟩=some (.int .i64 sig):=hW.y.cell 4 _ rfl;have q5:World.cell? _ ⟨p,5,none⟩=some (.string wC):=hW.y.cell 5 _ rfl;have q6:World.cell? _ ⟨p,6,none⟩=some (.string ⟨#[]⟩):=hW.y.cell 6 _ rfl;have q7:World.cell? _ ⟨p,7,none⟩=some (.int .u8 0):=hW.y.cell 7 _ rfl;have q8:World.cell? _ ⟨p,8,none⟩=some (.int .u8 0):=hW.y.cell 8 _ rfl;have q9:World.cell? _ ⟨p,9,none⟩=some (.int .u8 0):=hW.y.cell 9 _ rfl;have HW:=GK hW;clear hW;rcases fA wC with⟨e0,x0⟩|⟨e0,x0⟩
  . clear HSE
    go_wp2
    go_meet
    exact⟨false,rfl,⟨fun h=>(by cases h),fun h=>absurd e0 h.1⟩,HW.out⟩
  have aRq:Hid (∀w,Calls Tryz.prog 35 #[.agg #[.bool neg,.bool long,.string s,.int .i64 ex,.int .i64 sig,.string wC,.string ⟨#[]⟩,.int .u8 0,.int .u8 0,.int .u8 0]] w fun r w'=>r=.returned (.int .i64 (dB wC))/\Below w.heap.size w w'):=GK (fun w=>HSE.out (dOf neg long s ex sig wC ⟨#[]⟩) w);have HE:=GK e0;clear HSE e0
  by_cases e:dB wC=0
  . rw[e]at aRq;have HE2:=GK e;clear e
    go_wp2_with (go_at_call 35;refine(aRq.out _).mono ?_;rintro _ w2 ⟨rfl,hb⟩;replace HW:=GK (HW.out.later hb);clear hb)
    go_meet
    exact⟨true,rfl,⟨fun _=>⟨HE.out,HE2.out⟩,fun _=>rfl⟩,HW.out⟩
  have HE2:=GK e;have t1:(dB wC==0)=false:=by rw[aAO];exact e
  clear e
  go_wp2_with (go_at_call 35;refine(aRq.out _).mono ?_;rintro _ w2 ⟨rfl,hb⟩;replace HW:=GK (HW.out.later hb);clear hb)
  go_meet
  exact⟨false,rfl,⟨fun h=>(by cases h),fun h=>absurd h.2 HE2.out⟩,HW.out⟩
 case rest=>
 obtain⟨b,rfl,hb,hW⟩:=hcut;have HB:=GK hb;clear hb
 go_upto_if 23 with(fail)
 go_cut [] (fun wx=> ∃WB:ByteArray,(WB.size=0\/(wC=jX m/\m≠0/\k≠0/\dB wC=0/\WB=zU m k))/\Dw p (WV f fZ n z0 z1 mo da k0 k1 k2) (dOf neg long s ex sig wC WB) w wx)
 case first=>
  clear HSE HCO
  cases b
  case false=>
   go_wp2
   go_meet
   exact⟨_,.inl rfl,hW⟩
  case true=>
   obtain⟨h1,h2⟩:=HB.out.1 rfl;obtain⟨hs0,rfl⟩:sig=0/\wC=jX m:=by
    rcases HMO.out with h|⟨_,h⟩
    . exact h
    exfalso;apply h1;rw[h];rfl
   have hm0:m≠0:=fun e=>h1 (by rw[e];rfl);have aXJ:=GK (fun w=>HDY.out m w hm hm0 h2);have HQ:Hid ((zU m k).size=0\/(m≠0/\k≠0/\dB (jX m)=0)):=GK (by
    by_cases e:k=0
    . left;rw[e];rfl
    exact .inr ⟨hm0,e,h2⟩)
   clear HDY hm0 h1 h2 hs0 HMO HB;generalize jX m=M at *;generalize zU m k=K at *;have c0:=hW.x.cell 0 _ rfl;have c1:=hW.x.cell 1 _ rfl;have c2:=hW.x.cell 2 _ rfl;have c3:=hW.x.cell 3 _ rfl;have c4:=hW.x.cell 4 _ rfl;have c5:=hW.x.cell 5 _ rfl;have c6:=hW.x.cell 6 _ rfl;have c7:=hW.x.cell 7 _ rfl;have c8:=hW.x.cell 8 _ rfl;have c9:=hW.x.cell 9 _ rfl;have q0:World.cell? _ ⟨p,0,none⟩=some (.bool neg):=hW.y.cell 0 _ rfl;have q1:World.cell? _ ⟨p,1,none⟩=some (.bool long):=hW.y.cell 1 _ rfl;have q2:World.cell? _ ⟨p,2,none⟩=some (.string s):=hW.y.cell 2 _ rfl;have q3:World.cell? _ ⟨p,3,none⟩=some (.int .i64 ex):=hW.y.cell 3 _ rfl;have q4:World.cell? _ ⟨p,4,none⟩=some (.int .i64 sig):=hW.y.cell 4 _ rfl;have q5:World.cell? _ ⟨p,5,none⟩=some (.string M):=hW.y.cell 5 _ rfl;have q6:World.cell? _ ⟨p,6,none⟩=some (.string ⟨#[]⟩):=hW.y.cell 6 _ rfl;have q7:World.cell? _ ⟨p,7,none⟩=some (.int .u8 0):=hW.y.cell 7 _ rfl;have q8:World.cell? _ ⟨p,8,none⟩=some (.int .u8 0):=hW.y.cell 8 _ rfl;have q9:World.cell? _ ⟨p,9,none⟩=some (.int .u8 0):=hW.y.cell 9 _ rfl;have HW:=GK hW;clear hW
   go_upto_region 5 with(fail)
   go_wp2_with (go_at_call 36;refine(aXJ.out _).mono ?_;rintro _ w2 ⟨rfl,hb⟩;replace HW:=GK (HW.out.later hb);clear hb c0 c1 c2 c3 c4 c5 c6 c7 c8 c9 q0 q1 q2 q3 q4 q5 q6 q7 q8 q9;have d5:=HW.out.y.cell 6 _ rfl;have z5:=HW.out.y.free 6 (by unfold bP;simp))
   go_meet
   exact⟨K,HQ.out.imp id fun h=>⟨by first|rfl|trivial,h.1,h.2.1,h.2.2,by first|rfl|trivial⟩,HW.out.set 6 (by omega) (.string K) rfl⟩
 case rest=>
 obtain⟨WB,hda,hW⟩:=hcut;have HDA:=GK hda;clear hda HDY HSE HB;have HC2:Hid (∀(a0 a1 a2:Int) w,Calls Tryz.prog 37 #[.agg #[.bool neg,.bool long,.string s,.int .i64 ex,.int .i64 sig,.string wC,.string WB,.int .u8 a0,.int .u8 a1,.int .u8 a2]] w fun r w'=>r=.returned (.int .i64 (comps wC WB))/\Below w.heap.size w w'):=GK (fun a0 a1 a2 w=>HCO.out ⟨neg,long,s,ex,sig,wC,WB,a0,a1,a2⟩ w);clear HCO;obtain⟨N,hN⟩: ∃N:Nat,comps wC WB=N:=⟨(comps wC WB).toNat,by unfold comps;(repeat' split)<;>omega⟩;have hN1:1<=N/\N<=3:=by unfold comps at hN;(repeat' split at hN)<;>omega
 rw[hN]at HC2;have HN:=GK hN;clear hN;obtain⟨hN1,hN3⟩:=hN1
 go_wp2
 go_loopw [4] (fun s4 wr=> ∃i:Nat,i<=N/\s4=.int .i64 i/\ ∃a0 a1 a2:Int,0<=a0/\a0<=3/\0<=a1/\a1<=3/\0<=a2/\a2<=3/\(i<=0->a0=0)/\(i<=1->a1=0)/\(i<=2->a2=0)/\Dw p (WV f fZ n z0 z1 mo da k0 k1 k2) ⟨neg,long,s,ex,sig,wC,WB,a0,a1,a2⟩ w wr) (fun i _=>4 - (intOf i).toNat)
 case atStart=>exact⟨0,by omega,rfl,0,0,0,by omega,by omega,by omega,by omega,by omega,by omega,fun _=>rfl,fun _=>rfl,fun _=>rfl,hW⟩
 case round=>
  obtain⟨i,hi,rfl,a0,a1,a2,b0,b1,b2,b3,b4,b5,g0,g1,g2,hW⟩:=hrel;have HA:=GK (⟨b0,b1,b2,b3,b4,b5,g0,g1,g2⟩:_/\_/\_/\_/\_/\_/\_/\_/\_);clear b0 b1 b2 b3 b4 b5 g0 g1 g2;have q0:World.cell? _ ⟨p,0,none⟩=some (.bool neg):=hW.y.cell 0 _ rfl;have q1:World.cell? _ ⟨p,1,none⟩=some (.bool long):=hW.y.cell 1 _ rfl;have q2:World.cell? _ ⟨p,2,none⟩=some (.string s):=hW.y.cell 2 _ rfl;have q3:World.cell? _ ⟨p,3,none⟩=some (.int .i64 ex):=hW.y.cell 3 _ rfl;have q4:World.cell? _ ⟨p,4,none⟩=some (.int .i64 sig):=hW.y.cell 4 _ rfl;have q5:World.cell? _ ⟨p,5,none⟩=some (.string wC):=hW.y.cell 5 _ rfl;have q6:World.cell? _ ⟨p,6,none⟩=some (.string WB):=hW.y.cell 6 _ rfl;have q7:World.cell? _ ⟨p,7,none⟩=some (.int .u8 a0):=hW.y.cell 7 _ rfl;have q8:World.cell? _ ⟨p,8,none⟩=some (.int .u8 a1):=hW.y.cell 8 _ rfl;have q9:World.cell? _ ⟨p,9,none⟩=some (.int .u8 a2):=hW.y.cell 9 _ rfl;have c0:=hW.x.cell 0 _ rfl;have c1:=hW.x.cell 1 _ rfl;have c2:=hW.x.cell 2 _ rfl;have c3:=hW.x.cell 3 _ rfl;have c4:=hW.x.cell 4 _ rfl;have c5:=hW.x.cell 5 _ rfl;have c6:=hW.x.cell 6 _ rfl;have c7:=hW.x.cell 7 _ rfl;have c8:=hW.x.cell 8 _ rfl;have c9:=hW.x.cell 9 _ rfl;have HW:=GK hW;clear hW
  by_cases hlt:i<N
  . have hi3:i=0\/i=1\/i=2:=by omega
    obtain⟨u0,u1,u2⟩:=HK.out;rcases hi3 with rfl|rfl|rfl
    . go_wp2_with (go_at_call 37;refine(HC2.out _ _ _ _).mono ?_;rintro _ w2 ⟨rfl,hb⟩;replace HW:=GK (HW.out.later hb);clear hb c0 c1 c2 c3 c4 c5 c6 c7 c8 c9 q0 q1 q2 q3 q4 q5 q6 q7 q8 q9;have c7:=HW.out.x.cell 7 _ rfl;have c8:=HW.out.x.cell 8 _ rfl;have c9:=HW.out.x.cell 9 _ rfl;have q7:=HW.out.y.cell 7 _ rfl;have q8:=HW.out.y.cell 8 _ rfl;have q9:=HW.out.y.cell 9 _ rfl;have z7:=HW.out.y.free 7 (by unfold bP;simp);have z8:=HW.out.y.free 8 (by unfold bP;simp);have z9:=HW.out.y.free 9 (by unfold bP;simp))
      go_roundw
      case rel=>
       obtain⟨b0,b1,b2,b3,b4,b5,g0,g1,g2⟩:=HA.out;exact⟨1,by omega,rfl,(k0:Int) % 4,a1,a2,by omega,by omega,b2,b3,b4,b5,fun h=>absurd h (by omega),fun _=>g1 (by omega),fun _=>g2 (by omega),HW.out.set 7 (by omega) _ rfl⟩
      case measure=>simp[intOf]
    . go_wp2_with (go_at_call 37;refine(HC2.out _ _ _ _).mono ?_;rintro _ w2 ⟨rfl,hb⟩;replace HW:=GK (HW.out.later hb);clear hb c0 c1 c2 c3 c4 c5 c6 c7 c8 c9 q0 q1 q2 q3 q4 q5 q6 q7 q8 q9;have c7:=HW.out.x.cell 7 _ rfl;have c8:=HW.out.x.cell 8 _ rfl;have c9:=HW.out.x.cell 9 _ rfl;have q7:=HW.out.y.cell 7 _ rfl;have q8:=HW.out.y.cell 8 _ rfl;have q9:=HW.out.y.cell 9 _ rfl;have z7:=HW.out.y.free 7 (by unfold bP;simp);have z8:=HW.out.y.free 8 (by unfold bP;simp);have z9:=HW.out.y.free 9 (by unfold bP;simp))
      go_roundw
      case rel=>
       obtain⟨b0,b1,b2,b3,b4,b5,g0,g1,g2⟩:=HA.out;exact⟨2,by omega,rfl,a0,(k1:Int) % 4,a2,b0,b1,by omega,by omega,b4,b5,fun h=>absurd h (by omega),fun h=>absurd h (by omega),fun _=>g2 (by omega),HW.out.set 8 (by omega) _ rfl⟩
      case measure=>simp[intOf]
    go_wp2_with (go_at_call 37;refine(HC2.out _ _ _ _).mono ?_;rintro _ w2 ⟨rfl,hb⟩;replace HW:=GK (HW.out.later hb);clear hb c0 c1 c2 c3 c4 c5 c6 c7 c8 c9 q0 q1 q2 q3 q4 q5 q6 q7 q8 q9;have c7:=HW.out.x.cell 7 _ rfl;have c8:=HW.out.x.cell 8 _ rfl;have c9:=HW.out.x.cell 9 _ rfl;have q7:=HW.out.y.cell 7 _ rfl;have q8:=HW.out.y.cell 8 _ rfl;have q9:=HW.out.y.cell 9 _ rfl;have z7:=HW.out.y.free 7 (by unfold bP;simp);have z8:=HW.out.y.free 8 (by unfold bP;simp);have z9:=HW.out.y.free 9 (by unfold bP;simp))
    go_roundw
    case rel=>
     obtain⟨b0,b1,b2,b3,b4,b5,g0,g1,g2⟩:=HA.out;exact⟨3,by omega,rfl,a0,a1,(k2:Int) % 4,b0,b1,b2,b3,by omega,by omega,fun h=>absurd h (by omega),fun h=>absurd h (by omega),fun h=>absurd h (by omega),HW.out.set 9 (by omega) _ rfl⟩
    case measure=>simp[intOf]
  obtain rfl:i=N:=by omega
  have HR:Hid (∀d:Dt,d=⟨neg,long,s,ex,sig,wC,WB,a0,a1,a2⟩->d.err=0/\(∃y m k,d.Fill y m k)/\d.dg.size<=5/\d.mo.size<=2/\d.da.size<=2/\0<=d.sig/\d.sig<=100/\0<=d.m0/\0<=d.m1/\0<=d.m2):=GK (by
   rintro d rfl;obtain⟨b0,b1,b2,b3,b4,b5,g0,g1,g2⟩:=HA.out;have hy:=HG.out;have hms:wC.size<=2:=by
    rcases HMO.out with⟨_,h⟩|⟨_,h⟩
    . by_cases e:m=0
      . rw[h,e];show(0:Nat)<=2;omega
      have:=(U2 hm e).1;rw[h];omega
    rw[h];show(0:Nat)<=2;omega
   have hds:WB.size<=2:=by
    rcases HDA.out with h|⟨h1,h2,h3,h4,h5⟩
    . omega
    have:=(aCr hm hk h2 h3 (by rw[<-h1];exact h4)).1;rw[h5];omega
   have hma:jZ a0 a1 a2 (comps wC WB)=0:=by
    rw[HN.out];unfold jZ;rw[aFV ⟨b1,b3,b5,fun h=>g2 (by omega),fun h=>g1 (by omega)⟩]
   have:=aMI (d:=⟨neg,long,s,ex,sig,wC,WB,a0,a1,a2⟩) hy (fun h=>by
    rcases HMO.out with⟨h1,_⟩|⟨_,h1⟩
    . have h:0<sig:=h;omega
    . show wC.size=0;rw[h1];rfl) hm hk (by
    rcases HMO.out with⟨_,h1⟩|⟨_,h1⟩
    . exact .inl h1
    right;show wC.size=0;rw[h1];rfl) HDA.out hma
   exact⟨this.1,this.2,hy.2.2.2.2.2.2,hms,hds,hy.2.2.1,hy.2.2.2.1,b0,b2,b4⟩)
  clear HA HN HMO HDA HG
  go_wp2_with (go_at_call 37;refine(HC2.out _ _ _ _).mono ?_;rintro _ w2 ⟨rfl,hb⟩;replace HW:=GK (HW.out.later hb);clear hb c0 c1 c2 c3 c4 c5 c6 c7 c8 c9 q0 q1 q2 q3 q4 q5 q6 q7 q8 q9;have q0:World.cell? _ ⟨p,0,none⟩=some (.bool neg):=HW.out.y.cell 0 _ rfl;have q1:World.cell? _ ⟨p,1,none⟩=some (.bool long):=HW.out.y.cell 1 _ rfl;have q2:World.cell? _ ⟨p,2,none⟩=some (.string s):=HW.out.y.cell 2 _ rfl;have q3:World.cell? _ ⟨p,3,none⟩=some (.int .i64 ex):=HW.out.y.cell 3 _ rfl;have q4:World.cell? _ ⟨p,4,none⟩=some (.int .i64 sig):=HW.out.y.cell 4 _ rfl;have q5:World.cell? _ ⟨p,5,none⟩=some (.string wC):=HW.out.y.cell 5 _ rfl;have q6:World.cell? _ ⟨p,6,none⟩=some (.string WB):=HW.out.y.cell 6 _ rfl;have q7:World.cell? _ ⟨p,7,none⟩=some (.int .u8 a0):=HW.out.y.cell 7 _ rfl;have q8:World.cell? _ ⟨p,8,none⟩=some (.int .u8 a1):=HW.out.y.cell 8 _ rfl;have q9:World.cell? _ ⟨p,9,none⟩=some (.int .u8 a2):=HW.out.y.cell 9 _ rfl;have r0:=HW.out.r.cell 0 _ rfl;have s0:=HW.out.r.free 0 (by unfold bP;simp);have r1:=HW.out.r.cell 1 _ rfl;have s1:=HW.out.r.free 1 (by unfold bP;simp);have r2:=HW.out.r.cell 2 _ rfl;have s2:=HW.out.r.free 2 (by unfold bP;simp);have r3:=HW.out.r.cell 3 _ rfl;have s3:=HW.out.r.free 3 (by unfold bP;simp);have r4:=HW.out.r.cell 4 _ rfl;have s4:=HW.out.r.free 4 (by unfold bP;simp);have r5:=HW.out.r.cell 5 _ rfl;have s5:=HW.out.r.free 5 (by unfold bP;simp);have r6:=HW.out.r.cell 6 _ rfl;have s6:=HW.out.r.free 6 (by unfold bP;simp);have r7:=HW.out.r.cell 7 _ rfl;have s7:=HW.out.r.free 7 (by unfold bP;simp);have r8:=HW.out.r.cell 8 _ rfl;have s8:=HW.out.r.free 8 (by unfold bP;simp);have r9:=HW.out.r.cell 9 _ rfl;have s9:=HW.out.r.free 9 (by unfold bP;simp))
  have hY:=HW.out.r.eU (bP ⟨neg,long,s,ex,sig,wC,WB,a0,a1,a2⟩) rfl;have hR:=HR.out _ rfl;exact aG2 (v:=aW ⟨neg,long,s,ex,sig,wC,WB,a0,a1,a2⟩) (jA Tryz.results16 _ rfl (aQl _ _ 0 37 (bP ⟨neg,long,s,ex,sig,wC,WB,a0,a1,a2⟩) _ hY.range Tryz.underlying37 rfl dX)) rfl ⟨_,hR.1,hR.2.1,hR.2.2.1,hR.2.2.2.1,hR.2.2.2.2.1,hR.2.2.2.2.2.1,hR.2.2.2.2.2.2.1,hR.2.2.2.2.2.2.2.1,hR.2.2.2.2.2.2.2.2.1,hR.2.2.2.2.2.2.2.2.2,rfl,hY.below⟩
end Bk
end
section
open Go.RowKit
namespace Un
open Cal
theorem aPw (p a lo b hi x y e:Int) (w:World) (he0:0<=e)
 (HH: ∀W,Calls Tryz.prog 47 #[.int .i64 lo,.int .i64 p] W fun r w'=>r=.returned (.tuple #[rv 0 x 0 y,.int .i64 e])/\Below W.heap.size W w'):
 Calls Tryz.prog 87 #[rv a lo b hi,.int .i64 p] w fun r w'=>r=.returned (.int .i64 (if(decide (a=0)&&(decide (e=0)&&(decide (b=0)&&(decide (x=lo)&&decide (y=hi)))))then 1 else 0))/\Below w.heap.size w w':=by
 replace HH:=GK HH;obtain⟨R,hR⟩: ∃R:Int,R=(if(decide (a=0)&&(decide (e=0)&&(decide (b=0)&&(decide (x=lo)&&decide (y=hi)))))then 1 else 0):=⟨_,rfl⟩;rw[<-hR];replace hR:=GK hR;unfold rv at HH ⊢
 by_cases ha:a=0
 . subst ha
   by_cases hbz:b=0
   . subst hbz
     go_enter Tryz.func87,Tryz.ntmps87
     go_wp2_with fail
     refine(HH.out _).mono ?_;rintro _ w1 ⟨rfl,hb1⟩;obtain⟨q0,q1,q2,q3,z0,z1,z2,z3⟩:=dR hb1
     by_cases he:e=0
     . subst he;have hb1':=ba hb1 (.cells #[.int .i8 0,.int .i64 x,.int .i8 0,.int .i64 y] 42);obtain⟨q0,q1,q2,q3,z0,z1,z2,z3⟩:=dR hb1'
       go_wp2_with fail
       all_goals
        clear q0 q1 q2 q3 z0 z1 z2 z3 HH
        subst_vars
        go_ret
        refine⟨?_,bt (ba (aAL _ _) _) hb1'⟩;clear hb1' hb1;refine ri ?_
        first|(simp;done)|(simp_all;done)|(simp_all;omega)
     have t:0<e:=by omega
     replace he:=GK he
     go_wp2_with fail
     go_ret
     exact⟨ri (by rw[hR.out];simp[he.out]),bt (ba (aAL _ _) _) (ba hb1 _)⟩
   have t:(b !=0)=true:=by rw[aLa];exact hbz
   replace hbz:=GK hbz
   go_enter Tryz.func87,Tryz.ntmps87
   go_wp2_with fail
   go_ret
   exact⟨ri (by rw[hR.out];simp[hbz.out]),ba (aAL _ _) _⟩
 have t:(a !=0)=true:=by rw[aLa];exact ha
 replace ha:=GK ha
 go_enter Tryz.func87,Tryz.ntmps87
 go_wp2_with fail
 go_ret
 exact⟨ri (by rw[hR.out];simp[ha.out]),ba (aAL _ _) _⟩
theorem X9(i p:Int)(w:World)(hp:p<1\/3<p):
 Calls Tryz.prog 20 #[.int .i64 i,.int .i64 p] w fun r w'=>r=.returned (.tuple #[rv 0 0 0 0,.int .i64 18])/\Below w.heap.size w w':=by
 rcases hp with hp|hp
 . go_enter Tryz.func20,Tryz.ntmps20
   go_wp2_with fail
   refine aG2 (v:=.tuple #[rv 0 0 0 0,.int .i64 18]) (by simp[results,Tryz.results20,go_sem,rv]) rfl ⟨rfl,?_⟩;exact ba (aAL _ _) _
 go_enter Tryz.func20,Tryz.ntmps20
 go_wp2_with fail
 refine aG2 (v:=.tuple #[rv 0 0 0 0,.int .i64 18]) (by simp[results,Tryz.results20,go_sem,rv]) rfl ⟨rfl,?_⟩;exact ba (aAL _ _) _
theorem aBl(i:Int)(w:World):
 Calls Tryz.prog 20 #[.int .i64 i,.int .i64 3] w fun r w'=>r=.returned (.tuple #[rv 0 i 0 i,.int .i64 0])/\Below w.heap.size w w':=by
 go_enter Tryz.func20,Tryz.ntmps20
 go_wp2_with fail
 refine(tK _ _ _).mono ?_;rintro _ w1 ⟨rfl,hb1⟩;unfold rv;obtain⟨q0,q1,q2,q3,z0,z1,z2,z3⟩:=dR hb1
 go_wp2_with fail
 refine aG2 (v:=.tuple #[rv 0 i 0 i,.int .i64 0]) (by simp[results,Tryz.results20,go_sem,rv,q0,q1,q2,q3]) rfl ⟨rfl,?_⟩;exact((((bt (ba (aAL _ _) _) hb1).setCell (aCU _) _).setCell (aCU _) _).setCell (aCU _) _).setCell (aCU _) _
theorem aBn(i:Int)(w:World)(y0: -10000000000000000<=i)(y1:i<=10000000000000000):
 Calls Tryz.prog 20 #[.int .i64 i,.int .i64 1] w fun r w'=>r=.returned (.tuple #[rv 0 (st i) 0 (st (i+1) - 1),.int .i64 0])/\Below w.heap.size w w':=by
 have HU:=fun W=>AX i W y0 y1;generalize st (i+1) - 1=hi at *;generalize st i=lo at *;unfold rv at HU ⊢;replace HU:=GK HU
 go_enter Tryz.func20,Tryz.ntmps20
 go_wp2_with fail
 refine(HU.out _).mono ?_;rintro _ w1 ⟨rfl,hb1⟩;obtain⟨q0,q1,q2,q3,z0,z1,z2,z3⟩:=dR hb1
 go_wp2_with fail
 refine aG2 (v:=.tuple #[rv 0 lo 0 hi,.int .i64 0]) (by simp[results,Tryz.results20,go_sem,rv,q0,q1,q2,q3]) rfl ⟨rfl,?_⟩;exact((((bt (ba (aAL _ _) _) hb1).setCell (aCU _) _).setCell (aCU _) _).setCell (aCU _) _).setCell (aCU _) _
theorem O7(i:Int)(w:World)(hi: ¬(-10000000000000000<=i/\i<=10000000000000000)):
 Calls Tryz.prog 20 #[.int .i64 i,.int .i64 1] w fun r w'=>r=.returned (.tuple #[rv 0 0 0 0,.int .i64 6])/\Below w.heap.size w w':=by
 by_cases c:i< -10000000000000000
 . clear hi
   go_enter Tryz.func20,Tryz.ntmps20
   go_wp2_with fail
   refine aG2 (v:=.tuple #[rv 0 0 0 0,.int .i64 6]) (by simp[results,Tryz.results20,go_sem,rv]) rfl ⟨rfl,?_⟩;exact ba (aAL _ _) _
 have c2:10000000000000000<i:=by omega
 clear hi
 go_enter Tryz.func20,Tryz.ntmps20
 go_wp2_with fail
 refine aG2 (v:=.tuple #[rv 0 0 0 0,.int .i64 6]) (by simp[results,Tryz.results20,go_sem,rv]) rfl ⟨rfl,?_⟩;exact ba (aAL _ _) _
theorem aBm(i:Int)(w:World)(h0: -9223372036854775808<=i)(h1:i<9223372036854775808)(hy: -10000000000000000<=i / 12/\i / 12<=10000000000000000):
 Calls Tryz.prog 20 #[.int .i64 i,.int .i64 2] w fun r w'=>r=.returned (.tuple #[rv 0 (st (i / 12)+bY (i / 12) (i % 12+1)) 0 (st (i / 12)+bY (i / 12) (i % 12+2) - 1),.int .i64 0])/\Below w.heap.size w w':=by
 obtain⟨y0,y1⟩:=hy;have HF:=fun W=>oJ i 12 W (by omega) (by omega) h0 h1;have e:i - 12 * (i / 12)=i % 12:=by omega
 have m0:0<=i % 12:=by omega
 have m1:i % 12<12:=by omega
 have HU:=fun W=>AU (i / 12) (i % 12+1) W y0 y1 (by omega) (by omega);rw[show i % 12+1+1=i % 12+2 by omega]at HU;generalize st (i / 12)+bY (i / 12) (i % 12+2) - 1=hi at *;generalize st (i / 12)+bY (i / 12) (i % 12+1)=lo at *;have E:wrap64 (i - 12 * (i / 12))=i % 12:=by rw[e];exact wrap_in (by omega) (by omega)
 clear e;unfold rv at HU ⊢;replace HU:=GK HU;replace HF:=GK HF;generalize i % 12=m at *;generalize i / 12=y at *
 go_enter Tryz.func20,Tryz.ntmps20
 go_wp2_with (go_at_call 43;refine(HF.out _).mono ?_;rintro e w' ⟨rfl,rfl⟩)
 refine(HU.out _).mono ?_;rintro _ w1 ⟨rfl,hb1⟩;obtain⟨q0,q1,q2,q3,z0,z1,z2,z3⟩:=dR hb1
 go_wp2_with fail
 refine aG2 (v:=.tuple #[rv 0 lo 0 hi,.int .i64 0]) (by simp[results,Tryz.results20,go_sem,rv,q0,q1,q2,q3]) rfl ⟨rfl,?_⟩;exact((((bt (ba (aAL _ _) _) hb1).setCell (aCU _) _).setCell (aCU _) _).setCell (aCU _) _).setCell (aCU _) _
theorem O6(i:Int)(w:World)(h0: -9223372036854775808<=i)(h1:i<9223372036854775808)(hy: ¬(-10000000000000000<=i / 12/\i / 12<=10000000000000000)):
 Calls Tryz.prog 20 #[.int .i64 i,.int .i64 2] w fun r w'=>r=.returned (.tuple #[rv 0 0 0 0,.int .i64 6])/\Below w.heap.size w w':=by
 have HF:=fun W=>oJ i 12 W (by omega) (by omega) h0 h1;have e:i - 12 * (i / 12)=i % 12:=by omega
 have m0:0<=i % 12:=by omega
 have m1:i % 12<12:=by omega
 have E:wrap64 (i - 12 * (i / 12))=i % 12:=by rw[e];exact wrap_in (by omega) (by omega)
 clear e;replace HF:=GK HF;generalize i % 12=m at *;generalize i / 12=y at *
 by_cases c:y< -10000000000000000
 . clear hy
   go_enter Tryz.func20,Tryz.ntmps20
   go_wp2_with (go_at_call 43;refine(HF.out _).mono ?_;rintro e w' ⟨rfl,rfl⟩)
   refine aG2 (v:=.tuple #[rv 0 0 0 0,.int .i64 6]) (by simp[results,Tryz.results20,go_sem,rv]) rfl ⟨rfl,?_⟩;exact ba (aAL _ _) _
 have c2:10000000000000000<y:=by omega
 clear hy
 go_enter Tryz.func20,Tryz.ntmps20
 go_wp2_with (go_at_call 43;refine(HF.out _).mono ?_;rintro e w' ⟨rfl,rfl⟩)
 refine aG2 (v:=.tuple #[rv 0 0 0 0,.int .i64 6]) (by simp[results,Tryz.results20,go_sem,rv]) rfl ⟨rfl,?_⟩;exact ba (aAL _ _) _
theorem aEQ(p i:Int)(w:World)(h0: -9223372036854775808<=i)(h1:i<9223372036854775808):
 Calls Tryz.prog 20 #[.int .i64 i,.int .i64 p] w fun r w'=>r=.returned (.tuple #[rv 0 (QI p i).1 0 (QI p i).2.1,.int .i64 (QI p i).2.2])/\Below w.heap.size w w':=by
 unfold QI
 by_cases hp:p<1\/3<p
 . rw[aFV hp];exact X9 i p w hp
 rw[aB9 hp];obtain rfl|rfl|rfl:p=1\/p=2\/p=3:=by omega
 . rw[aB9 (by omega),aFV rfl]
   by_cases hy: -10000000000000000<=i/\i<=10000000000000000
   . rw[aFV hy];exact aBn i w hy.1 hy.2
   rw[aB9 hy];exact O7 i w hy
 . rw[aB9 (by omega),aB9 (by omega)];unfold pI
   by_cases hy: -10000000000000000<=i / 12/\i / 12<=10000000000000000
   . rw[aFV hy];exact aBm i w h0 h1 hy
   rw[aB9 hy];exact O6 i w h0 h1 hy
 rw[aFV rfl];exact aBl i w
end Un
end
section
open Go.RowKit Go.Lib
namespace Sk
open Un (ba bt ri rb)
open Bk (Dt aW lW jA)
open Ev (aV dQ hp OQ dU Lf PD aT fV)
def aAH(w:World)(e:Ending)(w':World):Prop:= ∃k bs n cp,∃f:Nat->R4,∃d p a lo b hi,e=.returned (fam k (.slice bs n cp) d p a lo b hi)/\Below w.heap.size w w'/\aCS k bs n f d p a lo b hi w'
theorem aIa{w':World}{bs:Option Addr}{n:Nat}{f:Nat->R4}(hr:wZ w' bs n f)(hB: ∀j,(f j).Bd)(h1:n=1->aKU (f 0)):aCS 1 bs n f z0 0 0 0 0 0 w':=by
 refine⟨⟨hr,hB,?_,?_,?_,?_,?_,?_,?_,?_,?_,?_,?_,?_,?_,?_⟩,by omega,fun _ hn=>⟨(h1 hn).a,(h1 hn).b,⟨(h1 hn).l0,(h1 hn).l1⟩,⟨(h1 hn).h0,(h1 hn).h1⟩,(h1 hn).le⟩,fun q=>by omega⟩<;>decide
theorem MP:(Tryz.prog.info? 44).map (·.size)=some 17:=by kernel_rfl
theorem aJf:(Tryz.prog.info? 32).map (·.size)=some 16:=by kernel_rfl
abbrev OfQ(w0:World):Exit->Act->World->Prop:=bodyPost Tryz.prog Tryz.f6 (aAH w0)
theorem aI1(k:Int)(bs:Option Addr)(n cp:Nat)(d:Dt)(p a lo b hi:Int):(lF k (.slice bs n cp) d p a lo b hi).toArray.all (·.oneCell')=true:=by
 simp[lF,Value.oneCell']
theorem aIv{w0 w:World}{a:Act}{p:Nat}{k:Int}{bs:Option Addr}{n cp:Nat}{f:Nat->R4}{d:Dt}{pp aa lo b hi:Int}(h2:a.tmps[2]? =some (.pointer (some ⟨p,0,none⟩)))(hd:a.defers=[])
 (hf:OQ w p 44 (lF k (.slice bs n cp) d pp aa lo b hi)) (hb:Below w0.heap.size w0 w) (F:aCS k bs n f d pp aa lo b hi w):OfQ w0 .ret a w:=
 aG2 (v:=fam k (.slice bs n cp) d pp aa lo b hi) (jA Tryz.results6 _ (by simp[h2]) (aQl w p 0 _ _ _ (EJ hf) Tryz.underlying44 rfl MP)) hd ⟨_,_,_,_,f,_,_,_,_,_,_,rfl,hb,F⟩
theorem aCZ{c:Code}{s r:Nat}{w0 w:World}{P:List Nat}{F:List (TypeId × List Value)}{S:List (Nat × Value)}{a:Act}{xs zs:List Value}{Q:Exit->Act->World->Prop}
 (hc:(aDc c,(aLW c).map key)=(false,[(none,some s,.load 32 (.tmp 1)),(none,some r,.call ⟨.value (.func 19),#[.tmp s],#[32]⟩),(none,none,.store 44 (.tmp 2) (.tmp r))]))
 (hs:s<101) (hr:r<101) (s2:s≠2) (r2:r≠2) (hx:xs.length=16) (hz:zs.length=17)
 (hw:dU w0 101 P F S a w) (h1:(1,pt P 0) ∈ S) (h2:(2,pt P 1) ∈ S) (f1:F[0]? =some (32,xs)) (f2:F[1]? =some (44,zs))
 (HO: ∀W,Below w0.heap.size w0 W->Calls Tryz.prog 19 #[.agg xs.toArray] W (xA W))
 (hQ: ∀a' w',OfQ w0 .ret a' w'->Q .ret a' w'):(Code.seq c .ret).wp Tryz.prog Q a w:=by
 obtain⟨hd,hm⟩:=aK3 hc;obtain⟨o1,l1,e1,k1,hm⟩:=G7 hm;obtain⟨o2,l2,e2,k2,hm⟩:=G7 hm;obtain⟨o3,l3,e3,k3,hm⟩:=G7 hm;have e4:=aQd hm;subst e4 e3 e2;obtain⟨g1,k1⟩:=aK3 k1;obtain⟨d1,p1⟩:=aK3 k1;obtain⟨g2,k2⟩:=aK3 k2;obtain⟨d2,p2⟩:=aK3 k2;obtain⟨g3,k3⟩:=aK3 k3;obtain⟨d3,p3⟩:=aK3 k3;obtain⟨b1,n1,q1⟩:=AP hw f1;obtain⟨b2,n2,q2⟩:=AP hw f2;have v1:=hw.val _ h1;have v2:=hw.val _ h2;dsimp only at v1 v2 b1 b2;refine aVA (TS hd fun ops=>?_);rw[e1];refine aG6 g1 _ (.tmp 1) p1 _ 0 (lV v1) _ _ (EJ b1) Tryz.underlying32 rfl (by rw[aJf,hx]) ?_;rw[d1];have hrun:=zK (P:=Tryz.prog) (a:=a.put (some s) (.agg xs.toArray)) (w:=w) p2 Tryz.func19 (by kernel_rfl) rfl;have ea:(#[Operand.tmp s].map (a.put (some s) (.agg xs.toArray)).eval)= #[.agg xs.toArray]:=by
  rw[aWi];show(List.toArray [(a.put (some s) (.agg xs.toArray)).eval (.tmp s)])=_;rw[vX (by rw[hw.size];exact hs)]
 rw[ea]at hrun;refine sS g2 d2 hrun (HO w hw.below) fun e w1 hR=>?_;obtain⟨bs,n,cp,f,rfl,hb,hr',hB,h4,ho,hg⟩:=hR;refine⟨_,rfl,?_⟩;have l2:=aCg b2;have b2':=RZ b2 hb;have hsz:(a.put (some s) (.agg xs.toArray)).tmps.size=101:=by simp[Act.put,hw.size]
 have y2:(a.put (some s) (.agg xs.toArray)).tmps[2]? =some (pt P 1):=by simp[Act.put,s2,v2]
 have z2:((a.put (some s) (.agg xs.toArray)).put (some r) (fam 1 (.slice bs n cp) z0 0 0 0 0 0)).tmps[2]? =some (pt P 1):=by
  rw[<-y2];simp only[Act.put];rw[aO7 r2]
 refine aRo g3 _ (.tmp 2) (.tmp r) p3 (P.getD 1 0) 0 (lF 1 (.slice bs n cp) z0 0 0 0 0 0).toArray (lV z2) (vX (by rw[hsz];exact hr)) ?_ MP (aI1 1 bs n cp z0 0 0 0 0 0) ?_
 . have:=EI b2';rw[hz]at this;exact this
 rw[d3];show(Code.ret).wp _ Q _ _;refine wp_ret (hQ _ _ (aIv (p:=P.getD 1 0) (f:=f) ?_ ?_ (RY b2' (by rw[hz];rfl)) (zG n2 _ _ (bt hw.below hb)) ?_))
 . exact z2
 . exact hw.defs
 exact aIa (aBg hr' fun g o s hbs h=>by have:=hg g o s hbs;omega) hB ho
theorem vZ{v:Value}{w0:World}(h: ∀a0,dU w0 101 [] [] [(0,v)] a0 w0->sK.wp Tryz.prog (OfQ w0) a0 w0):Calls Tryz.prog 6 #[v] w0 (aAH w0):=by
 refine calls_of_wp Tryz.func6 (show _=some sK by kernel_rfl) (h _ ⟨aAL _ _,fun p q=>(aNL q).elim,aVn,⟨rfl,fun j p e q=>by simp at q⟩,?_,rfl,fun e he=>?_⟩)
 . simp[Tryz.ntmps6]
 obtain rfl:=aLi.1 he;simp
theorem oQ{w0 w:World}{a:Act}{P:List Nat}{F:List (TypeId × List Value)}{S:List (Nat × Value)}{k:Int}{d:Dt}{pp aa lo b hi:Int}(hw:dU w0 101 P F S a w)(h2:(2,pt P 1) ∈ S)(f2:F[1]? =some (44,lF k (.slice none 0 0) d pp aa lo b hi))
 (h:aCS k none 0 (fun _=>⟨0,0,0,0⟩) d pp aa lo b hi w):OfQ w0 .ret a w:=by
 obtain⟨b2,n2,q2⟩:=AP hw f2;exact aIv (hw.val _ h2) hw.defs b2 hw.below h
theorem xZ{w:World}{k:Int}{d:Dt}{pp aa lo b hi:Int}(k0:0<=k)(k1:k≠1)(hm:d.mo.size<=1000)(hd:d.dg.size<=1000)(ha:d.da.size<=1000)(s0: -9223372036854775808<=d.sig)(s1:d.sig<9223372036854775808)(m0:0<=d.m0)(m1:0<=d.m1)(m2:0<=d.m2)
 (p0:0<=pp) (p1:pp<256) (l: -4611686018427387904<=lo/\lo<=4611686018427387904) (h: -4611686018427387904<=hi/\hi<=4611686018427387904):aCS k none 0 (fun _=>⟨0,0,0,0⟩) d pp aa lo b hi w:=
 ⟨⟨fun i hi=>by omega,fun _=>aNQ,hm,hd,ha,s0,s1,m0,m1,m2,p0,p1,by omega,by omega,by omega,by omega⟩,k0,fun e=>absurd e k1,fun _=>⟨l,h⟩⟩
section
variable{kk pp oo fo nn z0' z1 mo da k0 k1 k2 fr my:Int}{ng:Bool}{bs:Option Addr}{n cp:Nat}{w0:World}
theorem aMs(hst:SS w0)(hk1:Int.tmod kk 5≠1)(hk2:Int.tmod kk 5≠2)(hk3:Int.tmod kk 5≠3)(hk4:Int.tmod kk 5≠4)
 (HO: ∀W,Below w0.heap.size w0 W->Calls Tryz.prog 19 #[.agg (fArg kk pp oo fo ng nn z0' z1 mo da k0 k1 k2 fr my (.slice bs n cp)).toArray] W (xA W)):
 Calls Tryz.prog 6 #[.agg (fArg kk pp oo fo ng nn z0' z1 mo da k0 k1 k2 fr my (.slice bs n cp)).toArray] w0 (aAH w0):=by
 refine vZ fun a0 hw=>?_;refine aPP kk pp oo fo nn z0' z1 mo da k0 k1 k2 fr my ng bs n cp hst hw ⟨fun h=>hk1 (by simpa using h),fun _=>⟨fun h=>hk2 (by simpa using h),fun _=>⟨fun h=>hk3 (by simpa using h),fun _=>⟨fun h=>hk4 (by simpa using h),fun _=>?_⟩⟩⟩⟩;intro P' a' w' _ hw';show(fV 2 (aT [] sK)).wp _ _ _ _;rw[show fV 2 (aT [] sK)=.seq (aT [1,1,0] sK) .ret by kernel_rfl];exact aCZ (s:=99) (r:=100) (by kernel_rfl) (by decide) (by decide) (by decide) (by decide) rfl rfl hw' (.head _) (.tail _ (.head _)) rfl rfl HO (fun _ _ h=>h)
theorem aIu(hst:SS w0)(hk:Int.tmod kk 5=3)(f0: -32768<=fr)(f1:fr<32768):
 Calls Tryz.prog 6 #[.agg (fArg kk pp oo fo ng nn z0' z1 mo da k0 k1 k2 fr my (.slice bs n cp)).toArray] w0 (aAH w0):=by
 have wf:IntKind.i64.wrap fr=fr:=by rw[aGZ];omega
 refine vZ fun a0 hw=>?_;refine of3 kk pp oo fo nn z0' z1 mo da k0 k1 k2 fr my ng bs n cp hst hw ⟨fun h=>by simp[hk]at h,fun _=>⟨fun h=>by simp[hk]at h,fun _=>⟨fun _=>?_,fun h=>by simp[hk]at h⟩⟩⟩;intro P' a' w' _ hw';rw[wf]at hw';exact oQ (k:=4) (d:=z0) (pp:=0) (aa:= -1) (lo:=0) (b:=0) (hi:=fr) hw' (.tail _ (.head _)) rfl (xZ (by decide) (by decide) (by decide) (by decide) (by decide) (by decide) (by decide) (by decide) (by decide) (by decide) (by decide) (by decide) (by decide) (by omega))
theorem aMt(hst:SS w0)(hk:Int.tmod kk 5=4)(f0: -32768<=fr)(f1:fr<32768):
 Calls Tryz.prog 6 #[.agg (fArg kk pp oo fo ng nn z0' z1 mo da k0 k1 k2 fr my (.slice bs n cp)).toArray] w0 (aAH w0):=by
 have wf:IntKind.i64.wrap fr=fr:=by rw[aGZ];omega
 refine vZ fun a0 hw=>?_;refine of4 kk pp oo fo nn z0' z1 mo da k0 k1 k2 fr my ng bs n cp hst hw ⟨fun h=>by simp[hk]at h,fun _=>⟨fun h=>by simp[hk]at h,fun _=>⟨fun h=>by simp[hk]at h,fun _=>⟨fun _=>?_,fun h=>by simp[hk]at h⟩⟩⟩⟩;intro P' a' w' _ hw';rw[wf]at hw';exact oQ (k:=5) (d:=z0) (pp:=0) (aa:=0) (lo:=fr) (b:=1) (hi:=0) hw' (.tail _ (.head _)) rfl (xZ (by decide) (by decide) (by decide) (by decide) (by decide) (by decide) (by decide) (by decide) (by decide) (by decide) (by decide) (by decide) (by omega) (by decide))
theorem J4{y:Int}(h0: -50000<=y)(h1:y<=50000): -20000000<=Cal.st y/\Cal.st y<=20000000:=by
 unfold Cal.st Cal.OM;constructor<;>omega
theorem aKb{p i:Int}(hp:1<=p/\p<=3)(h0: -40000<=i)(h1:i<=40000):(-4611686018427387904<=(Un.QI p i).1/\(Un.QI p i).1<=4611686018427387904)/\(-4611686018427387904<=(Un.QI p i).2.1/\(Un.QI p i).2.1<=4611686018427387904):=by
 obtain rfl|rfl|rfl:p=1\/p=2\/p=3:=by omega
 . have e:Un.QI 1 i=(Cal.st i,Cal.st (i+1) - 1,0):=by
    unfold Un.QI;rw[aB9 (by omega),aB9 (by omega),aFV rfl,aFV ⟨by omega,by omega⟩]
   have a:=J4 (y:=i) (by omega) (by omega);have b:=J4 (y:=i+1) (by omega) (by omega);rw[e];dsimp only;omega
 . have e:Un.QI 2 i=(Cal.st (i / 12)+Cal.bY (i / 12) (i % 12+1),Cal.st (i / 12)+Cal.bY (i / 12) (i % 12+2) - 1,0):=by
    unfold Un.QI Un.pI;rw[aB9 (by omega),aB9 (by omega),aB9 (by omega),aFV ⟨by omega,by omega⟩]
   have a:=J4 (y:=i / 12) (by omega) (by omega);have b:=Cal.dW (y:=i / 12) (m:=i % 12+1) (by omega) (by omega);have c:=Cal.dW (y:=i / 12) (m:=i % 12+2) (by omega) (by omega);rw[e];dsimp only;omega
 rw[show Un.QI 3 i=(i,i,0) by simp[Un.QI]];dsimp only;omega
theorem KR{p i:Int}(h0: -9223372036854775808<=i)(h1:i<9223372036854775808):Same w0 20 #[.int .i64 i,.int .i64 p] (.tuple #[r4 0 (Un.QI p i).1 0 (Un.QI p i).2.1,.int .i64 (Un.QI p i).2.2]):=fun W _=>Un.aEQ p i W h0 h1
theorem aPN(hst:SS w0)(hk:Int.tmod kk 5=2)(f0: -32768<=fr)(f1:fr<32768)(m0:0<=my)(m1:my<256)(hp0:0<=pp)(hp1:pp<256):
 Calls Tryz.prog 6 #[.agg (fArg kk pp oo fo ng nn z0' z1 mo da k0 k1 k2 fr my (.slice bs n cp)).toArray] w0 (aAH w0):=by
 have wf:IntKind.i64.wrap fr=fr:=by rw[aGZ];omega
 have wm:IntKind.i64.wrap my=my:=by rw[aGZ];omega
 have wfm:IntKind.i64.wrap (fr+my)=fr+my:=by rw[aGZ];omega
 have t3:Int.tmod pp 3=pp % 3:=Int.tmod_eq_emod_of_nonneg hp0;have wp:IntKind.u8.wrap (1+Int.tmod pp 3)=1+Int.tmod pp 3:=by rw[IntKind.wrap_u8,t3];omega
 have wp2:IntKind.i64.wrap (1+Int.tmod pp 3)=1+Int.tmod pp 3:=by rw[aGZ,t3];omega
 have H0:Same w0 20 _ _:=KR (w0:=w0) (p:=1+Int.tmod pp 3) (i:=fr) (by omega) (by omega);have H1:Same w0 20 _ _:=KR (w0:=w0) (p:=1+Int.tmod pp 3) (i:=fr+my) (by omega) (by omega);obtain⟨⟨a1,a2⟩,a3,a4⟩:=aKb (p:=1+Int.tmod pp 3) (i:=fr) (by omega) (by omega) (by omega);obtain⟨⟨b1,b2⟩,b3,b4⟩:=aKb (p:=1+Int.tmod pp 3) (i:=fr+my) (by omega) (by omega) (by omega);refine vZ fun a0 hw=>?_;refine of2 kk pp oo fo nn z0' z1 mo da k0 k1 k2 fr my _ _ _ _ _ _ ng bs n cp hst (by rw[wf,wp,wp2];exact H0) (by rw[wf,wm,wfm,wp,wp2];exact H1) hw ⟨fun h=>by simp[hk]at h,fun _=>⟨fun _=>?_,fun h=>by simp[hk]at h⟩⟩;rw[wp];have hq: ∀ {aa lo b hi:Int} {w:World},(-4611686018427387904<=lo/\lo<=4611686018427387904)->(-4611686018427387904<=hi/\hi<=4611686018427387904)->aCS 3 none 0 (fun _=>⟨0,0,0,0⟩) z0 (1+Int.tmod pp 3) aa lo b hi w:=fun l h=>
  xZ (by decide) (by decide) (by decide) (by decide) (by decide) (by decide) (by decide) (by decide) (by decide) (by decide) (by omega) (by omega) l h
 refine⟨fun h1=>⟨fun h2=>?_,fun _=>?_⟩,fun _=>⟨fun _=>?_,fun _=>?_⟩⟩
 . simp only[aFZ]at h1 h2;omega
 . intro P' a' w' _ hw';exact oQ (k:=3) (d:=z0) (aa:= -1) (lo:=0) (b:=0) hw' (.tail _ (.head _)) rfl (hq (by decide) ⟨b3,b4⟩)
 . intro P' a' w' _ hw';exact oQ (k:=3) (d:=z0) (aa:=0) (b:=1) (hi:=0) hw' (.tail _ (.head _)) rfl (hq ⟨a1,a2⟩ (by decide))
 intro P' a' w' _ hw';exact oQ (k:=3) (d:=z0) (aa:=0) (b:=0) hw' (.tail _ (.head _)) rfl (hq ⟨a1,a2⟩ ⟨b3,b4⟩)
theorem dX:(Tryz.prog.info? 37).map (·.size)=some 10:=by kernel_rfl
theorem aDQ:Tryz.prog.cellsOf 28=10:=by kernel_rfl
theorem aQk:(Tryz.prog.info? 28).map (·.size)=some 10:=by kernel_rfl
abbrev zDl:List Value:=[.bool false,.bool false,.string ⟨#[]⟩,.int .i64 0,.int .i64 0,.string ⟨#[]⟩,.string ⟨#[]⟩,.int .u8 0,.int .u8 0,.int .u8 0]
theorem aEa(w:World):(zeroValue 37).run Tryz.prog w=.ok (.agg zDl.toArray) w:=Tryz.zeroValue37 w
abbrev dA(fo:Int)(ng:Bool)(nn z0 z1 mo da k0 k1 k2:Int):List Value:=[.int .u8 fo,.bool ng,.int .u16 nn,.int .u8 z0,.int .u8 z1,.int .u8 mo,.int .u8 da,.int .u8 k0,.int .u8 k1,.int .u8 k2]
theorem aPO(hst:SS w0)(hk:Int.tmod kk 5=1)
 (HO: ∀W,Below w0.heap.size w0 W->Calls Tryz.prog 19 #[.agg (fArg kk pp oo fo ng nn z0' z1 mo da k0 k1 k2 fr my (.slice bs n cp)).toArray] W (xA W))
 (HD: ∀W,Below w0.heap.size w0 W->Calls Tryz.prog 16 #[.agg (dA fo ng nn z0' z1 mo da k0 k1 k2).toArray] W (Bk.aUc W)):
 Calls Tryz.prog 6 #[.agg (fArg kk pp oo fo ng nn z0' z1 mo da k0 k1 k2 fr my (.slice bs n cp)).toArray] w0 (aAH w0):=by
 refine vZ fun a0 hw=>?_;refine ofA kk pp oo fo nn z0' z1 mo da k0 k1 k2 fr my ng bs n cp hst hw ?_;intro P1 a1 w1 _ hw1;obtain⟨p,q,rfl⟩:=JZ hw1;show(fV 1 (aT [] sK)).wp _ _ _ _;rw[show fV 1 (aT [] sK)=.seq (.seq (aT [1,0,0] sK) (.block 0 (.seq (aT [1,0,1,0,0] sK) (.cond (.tmp 13) (.seq (aT [1,0,1,0,1,0,0] sK) (aT [1,0,1,0,1,0,1] sK)) (aT [1,0,1,0,1,1] sK))))) (aT [1,1] sK) by kernel_rfl];refine aVA (aVA ?_);refine ofB kk pp oo fo nn z0' z1 mo da k0 k1 k2 fr my ng bs n cp hst hw1 ?_;intro P2 a2 w2 _ hw2;obtain⟨p,q,rfl⟩:=JZ hw2;refine wp_block (aVA ?_);have ZT:=hw2;rw[hk]at ZT;refine aVS kk pp oo fo nn z0' z1 mo da k0 k1 k2 fr my ng bs n cp hst ⟨ZT.below,ZT.new,ZT.nd,ZT.fr,ZT.size,ZT.defs,fun e he=>ZT.val e (by
  rcases aG4.1 he with rfl|he
  . exact .tail _ (.tail _ (.head _))
  rcases aG4.1 he with rfl|he
  . exact .head _
  obtain rfl:=aLi.1 he;exact .tail _ (.head _))⟩ ?_
 intro P3 a3 w3 _ hw3;obtain⟨p,q,rfl⟩:=JZ hw3;refine wp_cond_true (lV (hw3.val _ (.tail _ (.tail _ (.head _))))) (aVA ?_);obtain⟨hd,hm⟩:=aK3 (show(aDc (aT [1,0,1,0,1,0,0] sK),(aLW (aT [1,0,1,0,1,0,0] sK)).map key)=(false,[(none,some 15,.fieldAddr 32 (.tmp 1) 3),(none,some 16,.load 28 (.tmp 15)),(none,some 17,.call ⟨.value (.func 16),#[.tmp 16],#[28]⟩),(none,some 3,.alloc 37),(none,none,.store 37 (.tmp 3) (.tmp 17))]) by kernel_rfl);obtain⟨o1,l1,e1,K1,hm⟩:=G7 hm;obtain⟨o2,l2,e2,K2,hm⟩:=G7 hm;obtain⟨o3,l3,e3,K3,hm⟩:=G7 hm;obtain⟨o4,l4,e4,K4,hm⟩:=G7 hm;obtain⟨o5,l5,e5,K5,hm⟩:=G7 hm;have e6:=aQd hm;subst e6 e5 e4 e3 e2;obtain⟨g1,K1⟩:=aK3 K1;obtain⟨d1,p1⟩:=aK3 K1;obtain⟨g2,K2⟩:=aK3 K2;obtain⟨d2,p2⟩:=aK3 K2;obtain⟨g3,K3⟩:=aK3 K3;obtain⟨d3,p3⟩:=aK3 K3;obtain⟨g4,K4⟩:=aK3 K4;obtain⟨d4,p4⟩:=aK3 K4;obtain⟨g5,K5⟩:=aK3 K5;obtain⟨d5,p5⟩:=aK3 K5;obtain⟨b1,n1,-⟩:=AP (j:=0) hw3 rfl;have v1:=hw3.val _ (.head _);have v2:=hw3.val _ (.tail _ (.head _));have hsz:=hw3.size;dsimp only[List.getD_cons_zero,List.getD_cons_succ]at b1 v1 v2;refine TS hd fun ops=>?_;rw[e1];refine Go.Great.wpList_readTo g1 _ d1 (.pointer (some ⟨p,3,none⟩)) (X4 p1 (lV v1) Tryz.underlying32 rfl (by show Tryz.prog.cellsOf 28≠0;rw[aDQ];decide) (by kernel_rfl)) ?_;refine aG6 g2 _ (.tmp 15) p2 p 3 (vX (by rw[hsz];decide)) (dA fo ng nn z0' z1 mo da k0 k1 k2) _ (fun j v hv=>?_) Tryz.underlying28 rfl aQk ?_
 . have hj:j<10:=(aIY.1 hv).1;have g: ∀l:List Value,dA fo ng nn z0' z1 mo da k0 k1 k2=l.take 10->l[j]? =some v:=fun l e=>by rw[e,aOH hj]at hv;exact hv
   have g:=g ((fArg kk pp oo fo ng nn z0' z1 mo da k0 k1 k2 fr my (.slice bs n cp)).drop 3) rfl;rw[aUk]at g;exact MR b1 g
 rw[d2];obtain⟨a4,ha4⟩: ∃x,x=(a3.put (some 15) (.pointer (some ⟨p,3,none⟩))).put (some 16) (.agg (dA fo ng nn z0' z1 mo da k0 k1 k2).toArray):=⟨_,rfl⟩;rw[<-ha4];have s4:a4.tmps.size=101:=by rw[ha4];simp[Act.put,hsz]
 have u4:a4.eval (.tmp 16)=.agg (dA fo ng nn z0' z1 mo da k0 k1 k2).toArray:=by
  rw[ha4];exact vX (by simp[Act.put,hsz])
 have y1:a4.tmps[1]? =some (.pointer (some ⟨p,0,none⟩)):=by rw[ha4];simp[Act.put,v1]
 have y2:a4.tmps[2]? =some (.pointer (some ⟨q,0,none⟩)):=by rw[ha4];simp[Act.put,v2]
 have y3:a4.defers=[]:=by rw[ha4];exact hw3.defs
 clear ha4;have hrun:=zK (P:=Tryz.prog) (a:=a4) (w:=w3) p3 Tryz.func16 (by kernel_rfl) rfl;rw[aWi]at hrun;have hrun:(execOp a4.eval o3).run Tryz.prog w3=.ok (.enter _ (List.toArray [a4.eval (.tmp 16)])) w3:=hrun;rw[u4]at hrun;refine sS g3 d3 hrun (HD w3 hw3.below) fun e w4 hR=>?_;obtain⟨d,hde,-,dg,dm,dd,sg0,sg1,m0,m1,m2,rfl,hb⟩:=hR;refine⟨_,rfl,?_⟩;refine aWW g4 _ d4 (.pointer (some ⟨w4.heap.size,0,none⟩)) (.cells zDl.toArray 37) (FH p4 (aEa w4)) ?_;obtain⟨a5,ha5⟩: ∃x,x=(a4.put (some 17) (aW d)).put (some 3) (.pointer (some ⟨w4.heap.size,0,none⟩)):=⟨_,rfl⟩;rw[<-ha5];have s5:a5.tmps.size=101:=by rw[ha5];simp[Act.put,s4]
 have x1:a5.tmps[1]? =some (.pointer (some ⟨p,0,none⟩)):=by rw[ha5];simp[Act.put,y1]
 have x2:a5.tmps[2]? =some (.pointer (some ⟨q,0,none⟩)):=by rw[ha5];simp[Act.put,y2]
 have x3:a5.tmps[3]? =some (.pointer (some ⟨w4.heap.size,0,none⟩)):=by rw[ha5];simp[Act.put,s4]
 have x17:a5.tmps[17]? =some (aW d):=by rw[ha5];simp[Act.put,s4]
 have x9:a5.defers=[]:=by rw[ha5];exact y3
 clear ha5;refine aRo g5 _ (.tmp 3) (.tmp 17) p5 w4.heap.size 0 (dl d).toArray (lV x3) (lV x17) (EI (vs:=zDl) VP) dX (by simp[Value.oneCell']) ?_;rw[d5];show(aT [1,0,1,0,1,0,1] sK).wp _ _ _ _;have hw4:dU w0 101 [p,q,w4.heap.size] [(32,fArg kk pp oo fo ng nn z0' z1 mo da k0 k1 k2 fr my (.slice bs n cp)),(44,zFl),(37,dl d)] [(1,.pointer (some ⟨p,0,none⟩)),(2,.pointer (some ⟨q,0,none⟩)),(3,.pointer (some ⟨w4.heap.size,0,none⟩))] a5 ((w4.alloc (.cells zDl.toArray 37)).setCells w4.heap.size 0 (dl d)):=
  XP hw3 hb rfl s5 x9 fun e he=>by
   rcases aG4.1 he with rfl|he
   . exact x1
   rcases aG4.1 he with rfl|he
   . exact x2
   obtain rfl:=aLi.1 he;exact x3
 have HX:Same w0 17 #[aW d] (.int .i64 (if xX d then 1 else 0)):=fun W _=>aHP d W (by omega) (by omega) (by omega);have leaf: ∀(P':List Nat) (a':Act) (w':World) (Q:Exit->Act->World->Prop),(∀a' w',OfQ w0 .ret a' w'->Q .ret a' w')->dU w0 101 P' [(32,fArg kk pp oo fo ng nn z0' z1 mo da k0 k1 k2 fr my (.slice bs n cp)),(44,zFl),(37,dl d)] [(1,pt P' 0),(2,pt P' 1)] a' w'->
  (fV 1 (aT [1,0,1,0,1,0,1] sK)).wp Tryz.prog Q a' w':=fun P' a' w' Q hQ hw'=>by
  rw[show fV 1 (aT [1,0,1,0,1,0,1] sK)=.seq (aT [1,0,1,0,1,0,1,1,0] sK) .ret by kernel_rfl];exact aCZ (s:=29) (r:=30) (by kernel_rfl) (by decide) (by decide) (by decide) (by decide) rfl rfl hw' (.head _) (.tail _ (.head _)) rfl rfl HO hQ
 refine ofD kk pp oo fo nn z0' z1 mo da k0 k1 k2 fr my _ ng bs n cp d hst HX hw4 ⟨fun hs=>⟨fun _=>⟨fun h=>?_,fun _=>?_⟩,fun _=>?_⟩,fun _=>?_⟩
 . simp only[aFZ,aFK]at hs h;omega
 . intro P' a' w' _ hw';show OfQ w0 .ret a' w';exact oQ (k:=2) (d:={ d with m0:=0,m1:=0,m2:=0 }) (pp:=0) (aa:=0) (lo:=0) (b:=0) (hi:=0) hw' (.tail _ (.head _)) rfl (xZ (by decide) (by decide) (by show d.mo.size<=1000;omega) (by show d.dg.size<=1000;omega) (by show d.da.size<=1000;omega) (by show _<=d.sig;omega) (by show d.sig<_;omega) (aRT 0) (aRT 0) (aRT 0) (by decide) (by decide) (by decide) (by decide))
 . intro P' a' w' _ hw';exact leaf P' a' w' _ (fun _ _ h=>h) hw'
 intro P' a' w' _ hw';exact leaf P' a' w' _ (fun _ _ h=>h) hw'
end
end Sk
end
section
open Go.RowKit Go.Lib
namespace Sk
open Ev (aV DT LG dQ tb2 jP hp uY iW iV lT kR OJ FQ lY aN AV yJ rG dS aG aJ eG kX lX dU Lf PD dY aT fV FT Ans rV)
def aT3:lX:=(.leaf .normal [(1,.p 0),(2,.s qf)] [(32,[(qu 0),(qu 1),(qu 2),(qu 3),(qb 4),(kR 5),(qu 6),(qu 7),(qu 8),(qu 9),(qu 10),(qu 11),(qu 12),(iW 13),(qu 14),(lY 15)])])
theorem aPG(l:Value):aT3.ok tb2 l [] [] hp 60 LG 146 60 1 (aT [] kJ) [(0,.s (.agg [(qu 0),(qu 1),(qu 2),(qu 3),(qb 4),(kR 5),(qu 6),(qu 7),(qu 8),(qu 9),(qu 10),(qu 11),(qu 12),(iW 13),(qu 14),(lY 15)]))] [] []=true:=by kernel_rfl
theorem wkA(kk pp oo fo nn z0 z1 mo da k0 k1 k2 fr my:Int)(ng:Bool)(bs:Option Addr)(n cp:Nat){w0 w:World}{P:List Nat}{a0:Act}{Q:Exit->Act->World->Prop}(hst:SS w0) (hw:dU w0 146 P [] [(0,(.agg #[(.int .u8 kk),(.int .u8 pp),(.int .u8 oo),(.int .u8 fo),(.bool ng),(.int .u16 nn),(.int .u8 z0),(.int .u8 z1),(.int .u8 mo),(.int .u8 da),(.int .u8 k0),(.int .u8 k1),(.int .u8 k2),(.int .i16 fr),(.int .u8 my),(.slice bs n cp)]))] a0 w)(HP:Lf w0 146 P [(32,[(.int .u8 kk),(.int .u8 pp),(.int .u8 oo),(.int .u8 fo),(.bool ng),(.int .u16 nn),(.int .u8 z0),(.int .u8 z1),(.int .u8 mo),(.int .u8 da),(.int .u8 k0),(.int .u8 k1),(.int .u8 k2),(.int .i16 fr),(.int .u8 my),(.slice bs n cp)])] (fun P=>[(1,.pointer (some ⟨P.getD 0 0,0,none⟩)),(2,(.bool false))]) (PD Tryz.prog Q 1 (aT [] kJ) .normal)):(aT [] kJ).wp Tryz.prog Q a0 w:=
 dY (aPG (.agg #[.int .u8 kk,.int .u8 pp,.int .u8 oo,.int .u8 fo,.bool ng,.int .u16 nn,.int .u8 z0,.int .u8 z1,.int .u8 mo,.int .u8 da,.int .u8 k0,.int .u8 k1,.int .u8 k2,.int .i16 fr,.int .u8 my,(.slice bs n cp)])) (jP w0) hst .nil .nil hw HP (by kernel_rfl)
end Sk
end
section
open Go.RowKit Go.Lib
namespace Sk
open Un Bk
theorem QM{w:World}(hst:SS w):lW w:=by
 obtain⟨ρ,hs⟩:=hst (fun _=>⟨0,0,.nilIface⟩) w (aAL _ _);have look: ∀b o,Ev.EH Ev.hp b=some o->(Ev.Hs.mk Ev.hp 15).look [] b=some o:=fun b o h=>h;have gl:=@Ev.aO.gl Ev.G0 _ _ _ _ _ hs;obtain⟨_,c0,_⟩:=@Ev.aO.obj Ev.G0 _ _ _ _ _ hs 2 (.ro Ev.k2) (look _ _ (by kernel_rfl));obtain⟨_,c3,_⟩:=@Ev.aO.obj Ev.G0 _ _ _ _ _ hs 5 (.ro Ev.k5) (look _ _ (by kernel_rfl));obtain⟨_,c13,_⟩:=@Ev.aO.obj Ev.G0 _ _ _ _ _ hs 14 (.ro Ev.k14) (look _ _ (by kernel_rfl));obtain⟨_,c1,_⟩:=@Ev.aO.obj Ev.G0 _ _ _ _ _ hs 1 (.ro Ev.k1) (look _ _ (by kernel_rfl));obtain⟨_,c4,_⟩:=@Ev.aO.obj Ev.G0 _ _ _ _ _ hs 3 (.ro Ev.k3) (look _ _ (by kernel_rfl));obtain⟨_,c5,_⟩:=@Ev.aO.obj Ev.G0 _ _ _ _ _ hs 4 (.ro Ev.k4) (look _ _ (by kernel_rfl));have l0:=gl 2 (by show _<12;decide);have l3:=gl 5 (by show _<12;decide);have l1:=gl 1 (by show _<12;decide);have l4:=gl 3 (by show _<12;decide);have l5:=gl 4 (by show _<12;decide);rw[l0.1,l0.2.1]at c0;rw[l3.1,l3.2.1]at c3;rw[l1.1,l1.2.1]at c1;rw[l4.1,l4.2.1]at c4;rw[l5.1,l5.2.1]at c5;refine⟨⟨⟨ρ.blk 14,ρ.off 14,c3 0 _ rfl,c13 0 _ rfl,c13 1 _ rfl,c13 2 _ rfl,c13 3 _ rfl,c13 4 _ rfl,c13 5 _ rfl⟩,fun i hi=>?_⟩,fun i hi=>?_,⟨_,_,c4 0 (.mp 13) rfl⟩,⟨_,_,c5 0 (.mp 12) rfl⟩⟩
 . have:i=0\/i=1\/i=2\/i=3\/i=4\/i=5\/i=6\/i=7\/i=8\/i=9\/i=10\/i=11:=by omega
   rcases this with rfl|rfl|rfl|rfl|rfl|rfl|rfl|rfl|rfl|rfl|rfl|rfl
   . exact c0 0 (.v (.int .i64 (ml 0))) rfl
   . exact c0 1 (.v (.int .i64 (ml 1))) rfl
   . exact c0 2 (.v (.int .i64 (ml 2))) rfl
   . exact c0 3 (.v (.int .i64 (ml 3))) rfl
   . exact c0 4 (.v (.int .i64 (ml 4))) rfl
   . exact c0 5 (.v (.int .i64 (ml 5))) rfl
   . exact c0 6 (.v (.int .i64 (ml 6))) rfl
   . exact c0 7 (.v (.int .i64 (ml 7))) rfl
   . exact c0 8 (.v (.int .i64 (ml 8))) rfl
   . exact c0 9 (.v (.int .i64 (ml 9))) rfl
   . exact c0 10 (.v (.int .i64 (ml 10))) rfl
   exact c0 11 (.v (.int .i64 (ml 11))) rfl
 have:i=0\/i=1\/i=2\/i=3\/i=4\/i=5\/i=6\/i=7\/i=8\/i=9\/i=10\/i=11\/i=12\/i=13\/i=14\/i=15\/i=16\/i=17\/i=18\/i=19\/i=20\/i=21\/i=22\/i=23\/i=24\/i=25\/i=26\/i=27\/i=28\/i=29\/i=30\/i=31\/i=32\/i=33\/i=34\/i=35\/i=36\/i=37\/i=38\/i=39\/i=40\/i=41:=by omega
 rcases this with rfl|rfl|rfl|rfl|rfl|rfl|rfl|rfl|rfl|rfl|rfl|rfl|rfl|rfl|rfl|rfl|rfl|rfl|rfl|rfl|rfl|rfl|rfl|rfl|rfl|rfl|rfl|rfl|rfl|rfl|rfl|rfl|rfl|rfl|rfl|rfl|rfl|rfl|rfl|rfl|rfl|rfl
 . exact c1 0 (.v (.int .i64 (qE 0))) rfl
 . exact c1 1 (.v (.int .i64 (qE 1))) rfl
 . exact c1 2 (.v (.int .i64 (qE 2))) rfl
 . exact c1 3 (.v (.int .i64 (qE 3))) rfl
 . exact c1 4 (.v (.int .i64 (qE 4))) rfl
 . exact c1 5 (.v (.int .i64 (qE 5))) rfl
 . exact c1 6 (.v (.int .i64 (qE 6))) rfl
 . exact c1 7 (.v (.int .i64 (qE 7))) rfl
 . exact c1 8 (.v (.int .i64 (qE 8))) rfl
 . exact c1 9 (.v (.int .i64 (qE 9))) rfl
 . exact c1 10 (.v (.int .i64 (qE 10))) rfl
 . exact c1 11 (.v (.int .i64 (qE 11))) rfl
 . exact c1 12 (.v (.int .i64 (qE 12))) rfl
 . exact c1 13 (.v (.int .i64 (qE 13))) rfl
 . exact c1 14 (.v (.int .i64 (qE 14))) rfl
 . exact c1 15 (.v (.int .i64 (qE 15))) rfl
 . exact c1 16 (.v (.int .i64 (qE 16))) rfl
 . exact c1 17 (.v (.int .i64 (qE 17))) rfl
 . exact c1 18 (.v (.int .i64 (qE 18))) rfl
 . exact c1 19 (.v (.int .i64 (qE 19))) rfl
 . exact c1 20 (.v (.int .i64 (qE 20))) rfl
 . exact c1 21 (.v (.int .i64 (qE 21))) rfl
 . exact c1 22 (.v (.int .i64 (qE 22))) rfl
 . exact c1 23 (.v (.int .i64 (qE 23))) rfl
 . exact c1 24 (.v (.int .i64 (qE 24))) rfl
 . exact c1 25 (.v (.int .i64 (qE 25))) rfl
 . exact c1 26 (.v (.int .i64 (qE 26))) rfl
 . exact c1 27 (.v (.int .i64 (qE 27))) rfl
 . exact c1 28 (.v (.int .i64 (qE 28))) rfl
 . exact c1 29 (.v (.int .i64 (qE 29))) rfl
 . exact c1 30 (.v (.int .i64 (qE 30))) rfl
 . exact c1 31 (.v (.int .i64 (qE 31))) rfl
 . exact c1 32 (.v (.int .i64 (qE 32))) rfl
 . exact c1 33 (.v (.int .i64 (qE 33))) rfl
 . exact c1 34 (.v (.int .i64 (qE 34))) rfl
 . exact c1 35 (.v (.int .i64 (qE 35))) rfl
 . exact c1 36 (.v (.int .i64 (qE 36))) rfl
 . exact c1 37 (.v (.int .i64 (qE 37))) rfl
 . exact c1 38 (.v (.int .i64 (qE 38))) rfl
 . exact c1 39 (.v (.int .i64 (qE 39))) rfl
 . exact c1 40 (.v (.int .i64 (qE 40))) rfl
 exact c1 41 (.v (.int .i64 (qE 41))) rfl
theorem vG{w W:World}(h:SS w)(hb:Below w.heap.size w W):SS W:=fun lv u hu=>by
 obtain⟨ρ,s⟩:=h lv u (bt hb hu)
 letI:Ev.Gh:=Ev.G0
 exact⟨ρ,s.gl,s.QA,s.good,s.gn,s.ln,s.y8,s.rD,hu,s.lt,s.obj,fun b o q hl=>absurd (s.lt b o q) (Nat.not_lt.2 hl),fun b o q hl=>aF7 (s.old b o q hl) hb.size,s.inj⟩
theorem aJ3{w:World}{g o:Nat}{v:Value}(h:w.cell? ⟨g,o,none⟩=some v):g<w.heap.size:=by
 by_cases hl:g<w.heap.size
 . exact hl
 simp[World.cell?,aKY (show w.heap.size<=g by omega)]at h
theorem aC2{w:World}(h:SS w):0<w.heap.size/\ ∃x,w.heap[0]? =some x:=by
 obtain⟨t,p,e⟩:=(QM h).syn;have:=aJ3 e;have h0:0<w.heap.size:=by omega
 exact⟨h0,_,aLd h0⟩
end Sk
end
section
open Go.RowKit Go.Lib
namespace Sk
open Ev (dQ aQ hp AV rG LG VA wF G6 xB)
def g6:AV:=.v (.string ⟨#[48,48,48,88]⟩)
def g1:AV:=.v (.int .i64 0)
def g0:AV:=.agg [(.v (.bool false)),(.v (.bool false)),g6,g1,g1,(.v (.string ⟨#[]⟩)),(.v (.string ⟨#[]⟩)),(.v (.int .u8 0)),(.v (.int .u8 0)),(.v (.int .u8 0))]
def g2:AV:=.v (.int .i8 0)
def g3:AV:=.v (.int .i64 1)
def g15:AV:=.v (.int .i64 366)
def g18:AV:=.v (.int .i64 730)
def g14:AV:=.v (.bool true)
def g4:AV:=.aS [(.agg [g2,g15,g2,g18]),g14]
def g5:AV:=.v (.int .i64 (-1))
def g7:AV:=.v (.int .i64 31)
def g8:AV:=.v (.int .i64 2)
def g9:AV:=.aS [(.agg [g2,g1,g2,g1]),(.v (.bool false))]
def g10:AV:=.aS [(.agg [g3,g1,g1]),g14,g1]
def g11:AV:=.agg [g2,(.v (.int .i64 3288)),g2,(.v (.int .i64 3652))]
def g12:AV:=.v (.int .i64 12)
def g13:AV:=.v (.int .i64 4)
def g16:AV:=.v (.int .i64 3)
def g17:AV:=.agg [g2,(.v (.int .i64 731)),g2,(.v (.int .i64 1095))]
def g19:AV:=.v (.int .i64 91)
def g20:AV:=.v (.int .i64 9)
def g21:AV:=.v (.int .i64 400)
def g22:AV:=.agg [(.v (.int .i8 1)),g1]
def g23:AV:=.aS [g1,g1]
def g24:AV:=.v (.int .i64 30)
def g25:AV:=.agg [g2,g1,g2,(.v (.int .i64 365))]
def g26:AV:=.v (.int .i64 5)
def g27:AV:=.agg [g2,g1]
def g28:AV:=.v (.int .i64 367)
def g29:AV:=.v (.int .i64 364)
def g30:AV:=.agg [g1,g1,g1]
def g31:AV:=.aS [g3,g1]
def g32:AV:=.aS [(.agg [g2,g19,g2,(.v (.int .i64 120))]),g1]
def g33:AV:=.agg [g2,g7]
def aBW:List rG:=([([g27,g27],g1),([g33,g22],g5),([g33,g33],g1),([(.agg [g2,(.v (.int .i64 59))]),g22],g5),([g27,g33],g5),([(.agg [g2,(.v (.int .i64 60))]),g33],g3),([(.agg [g2,(.v (.int .i64 90))]),g22],g5),([(.agg [(.v (.int .i8 (-1))),g1]),(.agg [g2,g26])],g5),([(.agg [g2,g26]),(.agg [g2,g26])],g1),([g27,(.agg [g2,g3])],g5),([(.agg [g2,g16]),(.agg [g2,g13])],g5),([g27,(.agg [g2,g16])],g5),([(.agg [g2,g3]),(.agg [g2,g13])],g5),([(.agg [g2,g16]),g27],g3),([(.agg [g2,g16]),(.agg [g2,g3])],g3),([g27,g22],g5)].map fun e:List AV × AV=>(78,e))++[(51,[g0],g1)]++([([g6,g1],g23),([g6,g20],(.aS [g20,g1])),([g6,g3],g31),([g6,g8],(.aS [g8,g1]))].map fun e:List AV × AV=>(160,e))++([([g1],g1),([g3],g3),([g20],g16),([(.v (.int .i64 10))],g16),([(.v (.int .i64 201))],(.v (.int .i64 49))),([(.v (.int .i64 101))],(.v (.int .i64 25))),([(.v (.int .i64 51))],(.v (.int .i64 13))),([(.v (.int .i64 26))],(.v (.int .i64 7))),([(.v (.int .i64 13))],g13),([(.v (.int .i64 7))],g8),([g13],g3),([g8],g3),([g16],g3),([(.v (.int .i64 301))],(.v (.int .i64 73))),([(.v (.int .i64 351))],(.v (.int .i64 85))),([(.v (.int .i64 376))],g19),([(.v (.int .i64 389))],(.v (.int .i64 95))),([(.v (.int .i64 395))],(.v (.int .i64 96))),([(.v (.int .i64 398))],(.v (.int .i64 97))),([g21],(.v (.int .i64 97))),([(.v (.int .i64 399))],(.v (.int .i64 97))),([g5],g1)].map fun e:List AV × AV=>(205,e))++([([g6,(.v (.int .i64 9223372036854775807))],(.aS [g20,g1])),([g6,g3],g31),([g6,g5],(.aS [g1,(.v (.int .i64 16))])),([g6,g1],g23)].map fun e:List AV × AV=>(161,e))
theorem aW8:aBW.all (VA dQ .nilIface hp LG 100 ([]))=true:=by kernel_rfl
def aFH:List rG:=([([(.agg [g2,g1,g2,g1])],g1),([(.agg [g2,g7,(.v (.int .i8 1)),g1])],g1),([(.agg [(.v (.int .i8 (-1))),g1,g2,g26])],g1),([(.agg [g2,g26,g2,g26])],g1),([(.agg [g2,g1,g2,g3])],g1),([(.agg [g2,g16,g2,g13])],g1),([(.agg [g2,g1,(.v (.int .i8 1)),g1])],g1)].map fun e:List AV × AV=>(49,e))++([([g0,g30],(.aS [g30,g14,g1])),([g0,(.agg [g20,g1,g1])],(.aS [(.agg [g20,g1,g1]),g14,g1])),([g0,(.agg [g3,g1,g1])],g10),([g0,(.agg [g8,g1,g1])],(.aS [(.agg [g8,g1,g1]),g14,g1]))].map fun e:List AV × AV=>(291,e))++([([g21],g31),([g15],g31),([g28],g31),([g18],g31),([g5],(.aS [g5,g1])),([g29],g23),([g7],g23),([g24],g23),([(.v (.int .i64 100))],g23),([g19],g23)].map fun e:List AV × AV=>(140,e))++([([g3,g8],(.aS [(.v (.int .i64 397)),g1])),([g3,g3],(.aS [g15,g1])),([g3,g12],(.aS [(.v (.int .i64 700)),g1])),([g5,g12],(.aS [(.v (.int .i64 (-31))),g1])),([g1,g12],(.aS [(.v (.int .i64 335)),g1])),([g1,g8],(.aS [g7,g1])),([g1,g3],g23),([g1,g13],(.aS [g19,g1])),([g1,g16],(.aS [(.v (.int .i64 60)),g1]))].map fun e:List AV × AV=>(157,e))++([([g0,(.agg [g3,g8,g13])],g10),([g0,(.agg [g3,g3,g3])],g10),([g0,(.agg [g3,g3,g8])],g10),([g0,(.agg [g3,g12,g7])],g10),([g0,(.agg [g5,g12,g7])],(.aS [g30,(.v (.bool false)),g1])),([g0,(.agg [g1,g12,g24])],(.aS [g30,g14,g1]))].map fun e:List AV × AV=>(287,e))
theorem aW7:aFH.all (VA dQ .nilIface hp LG 100 (aBW++[]))=true:=by kernel_rfl
def aIN:List rG:=([([g0,g30],(.aS [g25,g1])),([g0,(.agg [g20,g1,g1])],(.aS [g11,g1])),([g0,(.agg [g3,g1,g1])],(.aS [(.agg [g2,g15,g2,g18]),g1])),([g0,(.agg [g8,g1,g1])],(.aS [g17,g1]))].map fun e:List AV × AV=>(290,e))++([([g21],(.aS [g3,g8,g1])),([g15],(.aS [g3,g3,g1])),([g28],(.aS [g3,g3,g1])),([g18],(.aS [g3,g12,g1])),([g5],(.aS [g5,g12,g1])),([g29],(.aS [g1,g12,g1])),([g7],(.aS [g1,g8,g1])),([g24],(.aS [g1,g3,g1])),([(.v (.int .i64 100))],(.aS [g1,g13,g1])),([g19],(.aS [g1,g13,g1]))].map fun e:List AV × AV=>(143,e))
theorem aW6:aIN.all (VA dQ .nilIface hp LG 100 (aFH++(aBW++[])))=true:=by kernel_rfl
def aMA:List rG:=[(276,[g0],(.aS [g25,g14]))]++[(278,[g0],(.aS [g11,g14]))]++([([g21],(.aS [(.agg [g3,g8,g13]),g1])),([g15],(.aS [(.agg [g3,g3,g3]),g1])),([g28],(.aS [(.agg [g3,g3,g8]),g1])),([g18],(.aS [(.agg [g3,g12,g7]),g1])),([g5],(.aS [(.agg [g5,g12,g7]),g1])),([g29],(.aS [(.agg [g1,g12,g24]),g1]))].map fun e:List AV × AV=>(286,e))++([([g7,(.v (.int .u8 2))],(.aS [(.agg [g2,g7,g2,(.v (.int .i64 59))]),g1])),([g24,(.v (.int .u8 2))],(.aS [(.agg [g2,g1,g2,g24]),g1])),([(.v (.int .i64 100)),(.v (.int .u8 2))],g32),([g19,(.v (.int .u8 2))],g32)].map fun e:List AV × AV=>(85,e))
theorem aW5:aMA.all (VA dQ .nilIface hp LG 100 (aIN++(aFH++(aBW++[]))))=true:=by kernel_rfl
def aP4:List rG:=([([g0,g21],g4),([g0,g15],g4),([g0,g28],g4),([g0,g18],g4),([g0,(.v (.int .i64 3289))],(.aS [g11,g14])),([g0,g5],g9),([g0,g29],(.aS [g25,g14]))].map fun e:List AV × AV=>(281,e))++([([g0,(.agg [g2,g15,g2,g18])],(.aS [g17,g14])),([g0,g11],g9)].map fun e:List AV × AV=>(284,e))
theorem aW4:aP4.all (VA dQ .nilIface hp LG 100 (aMA++(aIN++(aFH++(aBW++[])))))=true:=by kernel_rfl
def aSY:List rG:=([([g0,g21],g4),([g0,g5],g9)].map fun e:List AV × AV=>(275,e))++([([g0,g15],g4),([g0,g28],(.aS [g17,g14])),([g0,(.v (.int .i64 3289))],g9)].map fun e:List AV × AV=>(277,e))++([([g0,g18],g4),([g0,g29],g9)].map fun e:List AV × AV=>(280,e))
theorem aW3:aSY.all (VA dQ .nilIface hp LG 100 (aP4++(aMA++(aIN++(aFH++(aBW++[]))))))=true:=by kernel_rfl
theorem cLv:[(9,[],AV.v (.bool true))].all (VA dQ .nilIface hp LG 100 (aSY++(aP4++(aMA++(aIN++(aFH++(aBW++[])))))))=true:=by kernel_rfl
theorem aBZ{w0:World}(hst:SS w0):Same w0 9 #[] (.bool true):=
 (wF (l:=.nilIface) (aQ w0) hst (by rfl) (wF (aQ w0) hst (by rfl) (wF (aQ w0) hst (by rfl) (wF (aQ w0) hst (by rfl) (wF (aQ w0) hst (by rfl) (wF (aQ w0) hst (by rfl) (wF (aQ w0) hst (by rfl) (fun e he=>by cases he) aW8) aW7) aW6) aW5) aW4) aW3) cLv _ (aUy _ (aG1 ..))).2
end Sk
end
section
open Go.RowKit Go.Lib
namespace Sk
open Un (ba bt ri rb)
open Bk (Dt aW lW)
open Ev (aV dQ hp OQ dU Lf PD aT fV)
theorem LD{w W:World}{bs:Option Addr}{n:Nat}(h:OG w bs n)(hb:Below w.heap.size w W):OG W bs n:=fun hn=>by
 obtain⟨g,o,b,e,hg,⟨x,hx⟩,hc,hB⟩:=h hn;exact⟨g,o,b,e,by have:=hb.size;omega,⟨x,(hb.block g hg).trans hx⟩,fun i hi=>(hb.cell (p:=⟨g,_,none⟩) hg).trans (hc i hi),hB⟩
structure FIn(kk pp oo fo nn z0 z1 mo da k0 k1 k2 fr my:Int)(bs:Option Addr)(n:Nat)(w:World):Prop where
 pp:0<=pp/\pp<256
 fo:0<=fo/\fo<256
 nn:0<=nn/\nn<65536
 z0:0<=z0/\z0<256
 z1:0<=z1/\z1<256
 mo:0<=mo/\mo<256
 da:0<=da/\da<256
 k0:0<=k0/\k0<256
 k1:0<=k1/\k1<256
 k2:0<=k2/\k2<256
 fr: -32768<=fr/\fr<32768
 my:0<=my/\my<256
 sl:OG w bs n
section
variable{kk pp oo fo nn z0' z1 mo da k0 k1 k2 fr my:Int}{ng:Bool}{bs:Option Addr}{n cp:Nat}{w0:World}
theorem zL(hst:SS w0)(h:FIn kk pp oo fo nn z0' z1 mo da k0 k1 k2 fr my bs n w0):
 Calls Tryz.prog 6 #[.agg (fArg kk pp oo fo ng nn z0' z1 mo da k0 k1 k2 fr my (.slice bs n cp)).toArray] w0 (aAH w0):=by
 have HO: ∀W,Below w0.heap.size w0 W->Calls Tryz.prog 19 #[.agg (fArg kk pp oo fo ng nn z0' z1 mo da k0 k1 k2 fr my (.slice bs n cp)).toArray] W (xA W):=fun W hb=>
  one_any (vG hst hb) (LD h.sl hb) h.fr.1 h.fr.2 h.my.1 h.my.2 (aC2 (vG hst hb)).1 (aC2 (vG hst hb)).2
 by_cases c1:Int.tmod kk 5=1
 . refine aPO hst c1 HO fun W _=>?_;obtain⟨a0,rfl⟩:=aNK h.fo.1;obtain⟨a1,rfl⟩:=aNK h.nn.1;obtain⟨a2,rfl⟩:=aNK h.z0.1;obtain⟨a3,rfl⟩:=aNK h.z1.1;obtain⟨a4,rfl⟩:=aNK h.mo.1;obtain⟨a5,rfl⟩:=aNK h.da.1;obtain⟨a6,rfl⟩:=aNK h.k0.1;obtain⟨a7,rfl⟩:=aNK h.k1.1;obtain⟨a8,rfl⟩:=aNK h.k2.1;exact Bk.aNe a0 ng a1 a2 a3 a4 a5 a6 a7 a8 W (by have:=h.fo.2;omega) (by have:=h.nn.2;omega) (by have:=h.z0.2;omega) (by have:=h.z1.2;omega) (by have:=h.mo.2;omega) (by have:=h.da.2;omega) (by have:=h.k0.2;omega) (by have:=h.k1.2;omega) (by have:=h.k2.2;omega)
 by_cases c2:Int.tmod kk 5=2
 . exact aPN hst c2 h.fr.1 h.fr.2 h.my.1 h.my.2 h.pp.1 h.pp.2
 by_cases c3:Int.tmod kk 5=3
 . exact aIu hst c3 h.fr.1 h.fr.2
 by_cases c4:Int.tmod kk 5=4
 . exact aMt hst c4 h.fr.1 h.fr.2
 exact aMs hst c1 c2 c3 c4 HO
abbrev WkQ(w0:World):Exit->Act->World->Prop:=bodyPost Tryz.prog Tryz.f4 fun e w'=>e=.returned (.bool true)/\Below w0.heap.size w0 w'
theorem aHk{v:Value}{w0:World}(h: ∀a0,dU w0 146 [] [] [(0,v)] a0 w0->kJ.wp Tryz.prog (WkQ w0) a0 w0):Calls Tryz.prog 4 #[v] w0 fun e w'=>e=.returned (.bool true)/\Below w0.heap.size w0 w':=by
 refine calls_of_wp Tryz.func4 (show _=some kJ by kernel_rfl) (h _ ⟨aAL _ _,fun p q=>(aNL q).elim,aVn,⟨rfl,fun j p e q=>by simp at q⟩,?_,rfl,fun e he=>?_⟩)
 . simp[Tryz.ntmps4]
 obtain rfl:=aLi.1 he;simp
theorem aG7(w:World):(zeroValue 44).run Tryz.prog w=.ok (.agg zFl.toArray) w:=Tryz.zeroValue44 w
theorem aO4(hst:SS w0)(h:FIn kk pp oo fo nn z0' z1 mo da k0 k1 k2 fr my bs n w0):
 Calls Tryz.prog 4 #[.agg (fArg kk pp oo fo ng nn z0' z1 mo da k0 k1 k2 fr my (.slice bs n cp)).toArray] w0 fun e w'=>e=.returned (.bool true)/\Below w0.heap.size w0 w':=by
 refine aHk fun a0 hw=>?_;refine wkA kk pp oo fo nn z0' z1 mo da k0 k1 k2 fr my ng bs n cp hst hw ?_;intro P3 a3 w3 _ hw3;show(fV 1 (aT [] kJ)).wp _ _ _ _;rw[show fV 1 (aT [] kJ)=.seq (aT [1,0] kJ) (aT [1,1] kJ) by kernel_rfl];refine aVA ?_;obtain⟨hd,hm⟩:=aK3 (show(aDc (aT [1,0] kJ),(aLW (aT [1,0] kJ)).map key)=(false,[(none,some 18,.load 32 (.tmp 1)),(none,some 19,.call ⟨.value (.func 6),#[.tmp 18],#[32]⟩),(none,some 3,.alloc 44),(none,none,.store 44 (.tmp 3) (.tmp 19))]) by kernel_rfl);obtain⟨o1,l1,e1,K1,hm⟩:=G7 hm;obtain⟨o2,l2,e2,K2,hm⟩:=G7 hm;obtain⟨o3,l3,e3,K3,hm⟩:=G7 hm;obtain⟨o4,l4,e4,K4,hm⟩:=G7 hm;have e6:=aQd hm;subst e6 e4 e3 e2;obtain⟨g1,K1⟩:=aK3 K1;obtain⟨d1,p1⟩:=aK3 K1;obtain⟨g2,K2⟩:=aK3 K2;obtain⟨d2,p2⟩:=aK3 K2;obtain⟨g3,K3⟩:=aK3 K3;obtain⟨d3,p3⟩:=aK3 K3;obtain⟨g4,K4⟩:=aK3 K4;obtain⟨d4,p4⟩:=aK3 K4;obtain⟨b1,n1,-⟩:=AP (j:=0) hw3 rfl;have v1:=hw3.val _ (.head _);have v2:=hw3.val _ (.tail _ (.head _));have hsz:=hw3.size;dsimp only at b1 v1 v2;refine TS hd fun ops=>?_;rw[e1];refine aG6 g1 _ (.tmp 1) p1 _ 0 (lV v1) (fArg kk pp oo fo ng nn z0' z1 mo da k0 k1 k2 fr my (.slice bs n cp)) _ (EJ b1) Tryz.underlying32 rfl aJf ?_;rw[d1];obtain⟨X,hX⟩: ∃X,X=Value.agg (fArg kk pp oo fo ng nn z0' z1 mo da k0 k1 k2 fr my (.slice bs n cp)).toArray:=⟨_,rfl⟩;rw[<-hX];have s4:(a3.put (some 18) X).tmps.size=146:=by simp[Act.put,hsz]
 have y2:(a3.put (some 18) X).tmps[2]? =some (.bool false):=by simp[Act.put,v2]
 have hrun:=zK (P:=Tryz.prog) (a:=a3.put (some 18) X) (w:=w3) p2 Tryz.func6 (by kernel_rfl) rfl;rw[aWi]at hrun;have hrun:(execOp (a3.put (some 18) X).eval o2).run Tryz.prog w3=.ok (.enter _ (List.toArray [(a3.put (some 18) X).eval (.tmp 18)])) w3:=hrun;rw[vX (by rw[hsz];decide),hX]at hrun;rw[hX]at s4 y2 ⊢;have h3:FIn kk pp oo fo nn z0' z1 mo da k0 k1 k2 fr my bs n w3:=⟨h.pp,h.fo,h.nn,h.z0,h.z1,h.mo,h.da,h.k0,h.k1,h.k2,h.fr,h.my,LD h.sl hw3.below⟩;refine sS g2 d2 hrun (zL (ng:=ng) (cp:=cp) (vG hst hw3.below) h3) fun e w4 hR=>?_;obtain⟨k,bs',n',cp',f,d,p,a,lo,b,hi,rfl,hb,F⟩:=hR;refine⟨_,rfl,?_⟩;refine aWW g3 _ d3 (.pointer (some ⟨w4.heap.size,0,none⟩)) (.cells zFl.toArray 44) (FH p3 (aG7 w4)) ?_;obtain⟨a4,ha4⟩: ∃x,x=a3.put (some 18) (Value.agg (fArg kk pp oo fo ng nn z0' z1 mo da k0 k1 k2 fr my (.slice bs n cp)).toArray):=⟨_,rfl⟩;rw[<-ha4]at s4 y2 ⊢;have y3:a4.defers=[]:=by rw[ha4];exact hw3.defs
 clear ha4;obtain⟨a5,ha5⟩: ∃x,x=(a4.put (some 19) (fam k (.slice bs' n' cp') d p a lo b hi)).put (some 3) (.pointer (some ⟨w4.heap.size,0,none⟩)):=⟨_,rfl⟩;rw[<-ha5];have s5:a5.tmps.size=146:=by rw[ha5];simp[Act.put,s4]
 have x2:a5.tmps[2]? =some (.bool false):=by rw[ha5];simp[Act.put,y2]
 have x3:a5.tmps[3]? =some (.pointer (some ⟨w4.heap.size,0,none⟩)):=by rw[ha5];simp[Act.put,s4]
 have x19:a5.tmps[19]? =some (fam k (.slice bs' n' cp') d p a lo b hi):=by rw[ha5];simp[Act.put,s4]
 have x9:a5.defers=[]:=by rw[ha5];exact y3
 clear ha5;refine aRo g4 _ (.tmp 3) (.tmp 19) p4 w4.heap.size 0 (lF k (.slice bs' n' cp') d p a lo b hi).toArray (lV x3) (lV x19) (EI (vs:=zFl) VP) MP (aI1 k bs' n' cp' d p a lo b hi) ?_;rw[d4];show(aT [1,1] kJ).wp _ _ _ _;have hs4:SS w4:=vG hst (bt hw3.below hb);have hw4:dU w4 146 [w4.heap.size] [(44,lF k (.slice bs' n' cp') d p a lo b hi)] [(2,.bool false),(3,.pointer (some ⟨w4.heap.size,0,none⟩))] a5 ((w4.alloc (.cells zFl.toArray 44)).setCells w4.heap.size 0 (lF k (.slice bs' n' cp') d p a lo b hi)):=
  XP (P:=[]) (F:=[]) (S:=[]) (a:=a5) (w:=w4) ⟨aAL _ _,fun p q=>(aNL q).elim,aVn,⟨rfl,fun j p e q=>by simp at q⟩,s5,x9,fun e he=>by cases he⟩ (aAL _ _) rfl s5 x9 fun e he=>by
   rcases aG4.1 he with rfl|he
   . exact x2
   obtain rfl:=aLi.1 he;exact x3
 refine aO2 hs4 (QM hs4) F (aBZ hs4) hw4 fun P' F' a' w' hw'=>?_;refine aG2 (v:=.bool true) ?_ hw'.defs ⟨rfl,bt (bt hw3.below hb) hw'.below⟩;have:=hw'.val _ (.head _);dsimp only at this;simp[results,Tryz.results4,this]
end
end Sk
end
section
open Go.ChangeShapes Go.WideShapes Go.ChangeAt Go.RowKit Go.Lib
namespace Sk
open Bk (Dt aW)
section
variable{H:Type}{enc:TypeId × Value->H}{w:World}{base:Nat}{spare:Nat->Bool}{held:Bool}
theorem aXr{x:Int}(h:(Lit.int .u16 x).wf=true):0<=x/\x<65536:=by
 simp[Lit.wf,IntKind.min,IntKind.max,IntKind.signed,IntKind.bits]at h;omega
theorem aXs{x:Int}(h:(Lit.int .i16 x).wf=true): -32768<=x/\x<32768:=by
 simp[Lit.wf,IntKind.min,IntKind.max,IntKind.signed,IntKind.bits]at h;omega
theorem XJ{P:Program}{t e:TypeId}{fuel:Nat}{c0 c1:Value}{x:DataW H × List MemPlace}(ht:P.underlying t=some (.array 2 e))(hce:P.cellsOf e=1)
 (h:DataW.trod enc P w base spare held fuel t [c0,c1]=some x): ∃y0 y1 n,DataW.trod enc P w base spare held n e [c0]=some y0/\DataW.trod enc P w base spare held n e [c1]=some y1:=by
 obtain⟨xs,n,_,rfl,_,hlen,hf⟩:=DataW.trod_array ht h
 match xs,hlen with
 |[y0,y1],_=>exact⟨y0,y1,n,by simpa[hce]using hf 0 (by decide),by simpa[hce]using hf 1 (by decide)⟩
theorem TV{P:Program}{t:TypeId}{f0 f1 f2 f3 f4 f5 f6:Field}{fuel:Nat}{cs:List Value}{x:DataW H × List MemPlace}(ht:P.underlying t=some (.struct #[f0,f1,f2,f3,f4,f5,f6]))(h:DataW.trod enc P w base spare held fuel t cs=some x):
 ∃(y0 y1 y2 y3 y4 y5 y6:DataW H × List MemPlace) (n:Nat),DataW.trod enc P w base spare held n f0.type ((cs.drop f0.offset).take (P.cellsOf f0.type))=some y0/\
  DataW.trod enc P w base spare held n f1.type ((cs.drop f1.offset).take (P.cellsOf f1.type))=some y1/\DataW.trod enc P w base spare held n f2.type ((cs.drop f2.offset).take (P.cellsOf f2.type))=some y2/\
  DataW.trod enc P w base spare held n f3.type ((cs.drop f3.offset).take (P.cellsOf f3.type))=some y3/\DataW.trod enc P w base spare held n f4.type ((cs.drop f4.offset).take (P.cellsOf f4.type))=some y4/\
  DataW.trod enc P w base spare held n f5.type ((cs.drop f5.offset).take (P.cellsOf f5.type))=some y5/\DataW.trod enc P w base spare held n f6.type ((cs.drop f6.offset).take (P.cellsOf f6.type))=some y6:=by
 obtain⟨xs,n,_,rfl,hl,hlen,hf⟩:=DataW.trod_struct ht h
 match xs,hlen with
 |[y0,y1,y2,y3,y4,y5,y6],_=>exact⟨y0,y1,y2,y3,y4,y5,y6,n,by simpa using hf 0 f0 rfl,by simpa using hf 1 f1 rfl,by simpa using hf 2 f2 rfl,by simpa using hf 3 f3 rfl,by simpa using hf 4 f4 rfl,by simpa using hf 5 f5 rfl,by simpa using hf 6 f6 rfl⟩
theorem aNh:Tryz.prog.cellsOf 32=16:=by kernel_rfl
theorem aNg:Tryz.prog.cellsOf 25=5:=by kernel_rfl
theorem NR:Tryz.prog.cellsOf 23=2:=by kernel_rfl
theorem aGj:Tryz.prog.cellsOf 22=1:=by kernel_rfl
theorem aGl:Tryz.prog.cellsOf 29=1:=by kernel_rfl
theorem aGk:Tryz.prog.cellsOf 30=1:=by kernel_rfl
theorem aPi{fuel:Nat}{c0 c1 c2 c3 c4 c5 c6 c7 c8 c9:Value}{x:DataW H × List MemPlace}(hf:DataW.trod enc Tryz.prog w base spare held fuel 28 [c0,c1,c2,c3,c4,c5,c6,c7,c8,c9]=some x):
 ∃(f:Int) (neg:Bool) (n z0 z1 mo da k0 k1 k2:Int),c0=.int .u8 f/\c1=.bool neg/\c2=.int .u16 n/\c3=.int .u8 z0/\c4=.int .u8 z1/\c5=.int .u8 mo/\c6=.int .u8 da/\c7=.int .u8 k0/\c8=.int .u8 k1/\c9=.int .u8 k2/\
  (0<=f/\f<256)/\(0<=n/\n<65536)/\(0<=z0/\z0<256)/\(0<=z1/\z1<256)/\(0<=mo/\mo<256)/\(0<=da/\da<256)/\(0<=k0/\k0<256)/\(0<=k1/\k1<256)/\(0<=k2/\k2<256):=by
 obtain⟨y0,y1,y2,y3,n,hx,_,h0,h1,h2,h3⟩:=aXB Tryz.underlying28 hf;rw[aNg]at h0;rw[sD]at h1 h2;rw[aAo]at h3;obtain⟨i5,e5,_,w5⟩:=aLw Tryz.underlying5 h1;obtain⟨i6,e6,_,w6⟩:=aLw Tryz.underlying5 h2;obtain⟨z0,z1,z2,z3,n2,_,_,g0,g1,g2,g3⟩:=aXB Tryz.underlying25 h0;rw[sD]at g0;rw[aCv]at g1;rw[aGj]at g2;rw[NR]at g3;obtain⟨i0,e0,_,w0⟩:=aLw Tryz.underlying5 g0;obtain⟨b1,e1,_⟩:=DataW.trod_bool Tryz.underlying4 g1;obtain⟨i2,e2,_,w2⟩:=aLw Tryz.underlying22 g2;obtain⟨v0,v1,n4,j0,j1⟩:=XJ (c0:=c3) (c1:=c4) Tryz.underlying23 sD g3;obtain⟨i3,e3,_,w3⟩:=aLw Tryz.underlying5 j0;obtain⟨i4,e4,_,w4⟩:=aLw Tryz.underlying5 j1;obtain⟨u0,u1,u2,n3,_,k0,k1,k2⟩:=trod_array3 (c0:=c7) (c1:=c8) (c2:=c9) Tryz.underlying26 sD h3;obtain⟨i7,e7,_,w7⟩:=aLw Tryz.underlying5 k0;obtain⟨i8,e8,_,w8⟩:=aLw Tryz.underlying5 k1;obtain⟨i9,e9,_,w9⟩:=aLw Tryz.underlying5 k2;exact⟨i0,b1,i2,i3,i4,i5,i6,i7,i8,i9,by simpa using e0,by simpa using e1,by simpa using e2,by simpa using e3,by simpa using e4,by simpa using e5,by simpa using e6,by simpa using e7,by simpa using e8,by simpa using e9,b8 w0,aXr w2,b8 w3,b8 w4,b8 w5,b8 w6,b8 w7,b8 w8,b8 w9⟩
theorem aEl{fuel:Nat}{c0 c1:Value}{x:DataW H × List MemPlace}(h:DataW.trod enc Tryz.prog w base spare held fuel 23 [c0,c1]=some x): ∃p q:Int,c0=.int .u8 p/\c1=.int .u8 q/\(0<=p/\p<256)/\(0<=q/\q<256):=by
 obtain⟨v0,v1,n4,j0,j1⟩:=XJ Tryz.underlying23 sD h;obtain⟨i3,e3,_,w3⟩:=aLw Tryz.underlying5 j0;obtain⟨i4,e4,_,w4⟩:=aLw Tryz.underlying5 j1;exact⟨i3,i4,by simpa using e3,by simpa using e4,b8 w3,b8 w4⟩
theorem aAY{fuel:Nat}{c:Value}{x:DataW H × List MemPlace}(h:DataW.trod enc Tryz.prog w base spare held fuel 30 [c]=some x):
 ∃bs n cp,c=.slice bs n cp/\OG w bs n:=by
 rcases Go.Deep.open_slice Tryz.underlying30 h with⟨h0,_⟩|⟨a,len,cap,m,n,D,Pl,h0,hb,hl,hm,hmm,_,hx⟩
 . simp at h0;exact⟨none,0,0,h0,fun hn=>absurd hn (by omega)⟩
 simp at h0;rw[NR]at hx;refine⟨some a,len,cap,h0,fun hn=>?_⟩;obtain⟨cs2,q1,q2⟩:=hx 0 (by rw[hmm];split<;>omega);obtain⟨_,qlen,qc⟩:=aUq q1;have q0:=qc 0 (by decide);obtain⟨g,o,spot⟩:=a;have hs:spot=none:=by
  match cs2,qlen with
  |[d0,d1],_=>simpa[Addr.add]using World.cell?_spot q0
 subst hs;have key: ∀i,∃pq:Int × Int,(i<len->w.cell? ⟨g,o+i * 2,none⟩=some (.int .u8 pq.1)/\w.cell? ⟨g,o+i * 2+1,none⟩=some (.int .u8 pq.2))/\(0<=pq.1/\pq.1<256)/\(0<=pq.2/\pq.2<256):=by
  intro i
  by_cases hi:i<len
  . obtain⟨cs,h1,h2⟩:=hx i (by rw[hmm];split<;>omega);obtain⟨_,hlen,hc⟩:=aUq h1
    match cs,hlen with
    |[c0,c1],_=>
     obtain⟨p,q,rfl,rfl,hp,hq⟩:=aEl h2;have g0:=hc 0 (by decide);have g1:=hc 1 (by decide);simp only[List.getElem?_cons_zero,aWN]at g0 g1;rw[Go.Deep.add_add]at g0 g1;rw[add_plain]at g0 g1;exact⟨(p,q),fun _=>⟨g0,g1⟩,hp,hq⟩
  exact⟨(0,0),fun h=>absurd h hi,by decide,by decide⟩
 obtain⟨ch,hch⟩:=Classical.axiomOfChoice key;have c00:=((hch 0).1 hn).1;have hg:=cell_lt c00;refine⟨g,o,fun j=>if j % 2=0 then(ch (j / 2)).1 else(ch (j / 2)).2,rfl,hg,⟨_,aLd hg⟩,fun j hj=>?_,fun j=>?_⟩
 . have q:=(hch (j / 2)).1 (by omega);dsimp only
   by_cases c:j % 2=0
   . rw[aFV c];have:=q.1;rwa[show o+j / 2 * 2=o+j by omega]at this
   rw[aB9 c];have:=q.2;rwa[show o+j / 2 * 2+1=o+j by omega]at this
 have q:=(hch (j / 2)).2;dsimp only
 split
 . exact q.1
 exact q.2
theorem aPB{r:Reach}{b0:Nat}{v:Value}{x:DataW H}{ps:List MemPlace}(hv:Value.okWide Tryz.prog w r b0 32 v)(hd:DataW.Trod enc Tryz.prog w base spare held 32 v x ps):
 ∃(kk pp oo fo:Int) (ng:Bool) (nn z0 z1 mo da k0 k1 k2 fr my:Int) (bs:Option Addr) (n cp:Nat),v=.agg (fArg kk pp oo fo ng nn z0 z1 mo da k0 k1 k2 fr my (.slice bs n cp)).toArray/\FIn kk pp oo fo nn z0 z1 mo da k0 k1 k2 fr my bs n w:=by
 obtain⟨cs,rfl,hsz⟩:=okWide_struct Tryz.underlying32 hv;obtain⟨fuel,hf⟩:=hd;rw[aNh]at hsz;obtain⟨l⟩:=cs
 match l,hsz with
 |[c0,c1,c2,c3,c4,c5,c6,c7,c8,c9,c10,c11,c12,c13,c14,c15],_=>
  obtain⟨y0,y1,y2,y3,y4,y5,y6,m,h0,h1,h2,h3,h4,h5,h6⟩:=TV Tryz.underlying32 hf;rw[sD]at h0 h1 h2 h5;rw[aDQ]at h3;rw[aGl]at h4;rw[aGk]at h6;obtain⟨kk,e0,_,w0⟩:=aLw Tryz.underlying5 h0;obtain⟨pp,e1,_,w1⟩:=aLw Tryz.underlying5 h1;obtain⟨oo,e2,_,w2⟩:=aLw Tryz.underlying5 h2;obtain⟨fr,e4,_,w4⟩:=aLw Tryz.underlying29 h4;obtain⟨my,e5,_,w5⟩:=aLw Tryz.underlying5 h5;obtain⟨bs,n,cp,e6,hP⟩:=aAY (c:=c15) h6;obtain⟨fo,ng,nn,z0,z1,mo,da,k0,k1,k2,rfl,rfl,rfl,rfl,rfl,rfl,rfl,rfl,rfl,rfl,b0,b2,b3,b4,b5,b6,b7,b8',b9⟩:=aPi (c0:=c3) (c1:=c4) (c2:=c5) (c3:=c6) (c4:=c7) (c5:=c8) (c6:=c9) (c7:=c10) (c8:=c11) (c9:=c12) h3;have f0:c0=.int .u8 kk:=by simpa[Value.cells]using e0
  have f1:c1=.int .u8 pp:=by simpa[Value.cells]using e1
  have f2:c2=.int .u8 oo:=by simpa[Value.cells]using e2
  have f4:c13=.int .i16 fr:=by simpa[Value.cells]using e4
  have f5:c14=.int .u8 my:=by simpa[Value.cells]using e5
  subst f0 f1 f2 f4 f5 e6;exact⟨kk,pp,oo,fo,ng,nn,z0,z1,mo,da,k0,k1,k2,fr,my,bs,n,cp,rfl,⟨b8 w1,b0,b2,b3,b4,b5,b6,b7,b8',b9,aXs w4,b8 w5,hP⟩⟩
end
end Sk
end
section
open Go.ChangeShapes Go.WideShapes Go.ChangeAt Go.RowKit
namespace Un
theorem own:ownKnob Tryz.prog.godebug=none:=by kernel_rfl
noncomputable def laidWorld(os:Os):World:=
 { World.doorLaid Tryz.prog 4000 os with heap:=(World.doorLaid Tryz.prog 4000 os).heap.modify 6 fun
  | .cells _ t frozen=>.cells ((Go.Pinned.utf8FirstZ.map fun(n:Nat)=>Value.int .u8 n).toArray) t frozen
  |o=>o }
theorem laid_met(os:Os)(args:Array Value):laidMetH Tryz.prog Rows.seeksErrorsRow.laid ((laidWorld os).forCall (fun _ _=>0) ⟨#[],args,[]⟩).memory:=
 laidMetH_of_parts3 (fuel:=8) (laidMet_of_run' 8 (by kernel_rfl) (by kernel_rfl)) (by kernel_rfl) (by kernel_rfl)
end Un
end
section
open Go.ChangeShapes Go.WideShapes Go.ChangeAt Go.RowKit
theorem aVX:Tryz.prog.funcs.toList.all (fun f=> !f.goes)=true:=by kernel_rfl
theorem aMQ{P:Program}(h:P.funcs.toList.all (fun f=> !f.goes)=true)(f:FuncId):P.goes f=false:=by
 have hall: ∀fn ∈ P.funcs,Func.goes fn=false:=fun fn hf=>by
  have:=aJL.1 h fn (Array.mem_toList_iff.2 hf);simpa using this
 have h1: ∀g:FuncId,(P.funcs[g]?).any Func.goes=false:=fun g=>by
  cases hg:P.funcs[g]? with
  |none=>rfl
  |some fn=>exact hall fn (aUw hg)
 have h2:P.funcs.any Func.goes=false:=by
  rw[Array.any_eq_false'];intro x hx hc;rw[hall x hx]at hc;cases hc
 unfold Program.goes;rw[h2,aRI,aUz];rw[List.any_eq_false];intro g _;rw[h1 g];exact Bool.false_ne_true
theorem aF0{P:Program}(h:P.funcs.toList.all (fun f=> !f.goes)=true)(c:OpenClaim)(hs:c.start=.entering):c.goesBy P=false:=by
 unfold OpenClaim.goesBy Program.goesAt;rw[hs];simp only[aUz];unfold Program.goesFrom
 cases P.funcNamed c.func with
 |none=>rfl
 |some f=>exact aMQ h f
namespace Facts
theorem wf:(Rows.seeksWalkRow.wf (OpenSpec.ofChange (OpenSpec.ofChange Rows.seeksWalkSpec).bare))=true:=by kernel_rfl
theorem laidOut:(laidOutB Tryz.pinned.checked.prog)=true:=by kernel_rfl
theorem mapsRowed:(mapsRowed Tryz.pinned.checked.prog)=true:=by kernel_rfl
theorem inPlace:(Rows.seeksWalkRow.inPlace==Tryz.pinned.checked.prog.inPlace 4)=true:=by kernel_rfl
theorem unfollowed:(Rows.seeksWalkRow.unfollowed==Tryz.pinned.checked.prog.unfollowed 4)=true:=by kernel_rfl
theorem recurses:(Rows.seeksWalkRow.recurses==Tryz.pinned.checked.prog.recurses 4)=true:=by kernel_rfl
theorem named:(Rows.seeksWalkRow.named==Tryz.pinned.checked.prog.varsNamed 4)=true:=by kernel_rfl
theorem plainKeys:(Rows.seeksWalkRow.plainKeys==Tryz.pinned.checked.prog.plainKeys)=true:=by kernel_rfl
theorem stopsHeard:(Tryz.pinned.checked.prog.stopsHeard)=true:=by kernel_rfl
theorem mayEnter:(Tryz.pinned.checked.prog.mayEnter)=true:=by kernel_rfl
theorem lifts:(Rows.seeksWalkRow.lifted==Tryz.pinned.checked.prog.liftsFinal)=true:=by kernel_rfl
theorem make:(Tryz.pinned.checked.prog.make==some Rows.seeksWalkRow.make)=true:=by kernel_rfl
theorem bt{a b:Bool}(h:a=true)(h2:b=true):(a&&b)=true:=by rw[h,h2];rfl
theorem joined:joinedFacts Tryz.pinned.checked.prog 4 Tryz.f4 (OpenSpec.ofChange Rows.seeksWalkSpec).bare Rows.seeksWalkRow=true:=by
 unfold joinedFacts;exact(bt (bt (bt (bt (bt (bt (bt (bt (bt (bt (bt (bt (bt (bt (bt (bt (bt (bt (bt (bt (bt (bt (bt (bt (bt (bt (bt (bt (bt (bt (bt wf laidOut) mapsRowed) (by kernel_rfl)) (by kernel_rfl)) (by kernel_rfl)) (by kernel_rfl)) (by kernel_rfl)) (by kernel_rfl)) inPlace) unfollowed) recurses) named) (by kernel_rfl)) (by kernel_rfl)) (by kernel_rfl)) (by kernel_rfl)) (by kernel_rfl)) (by kernel_rfl)) (by kernel_rfl)) (by kernel_rfl)) (by kernel_rfl)) plainKeys) (by kernel_rfl)) stopsHeard) mayEnter) lifts) make) (by kernel_rfl)) (by kernel_rfl)) (by kernel_rfl)) (by kernel_rfl))
theorem goes:false=Rows.seeksWalkRow.goesBy Tryz.pinned.checked.prog:=(aF0 aVX _ rfl).symm
end Facts
end

section
open Go.ChangeShapes Go.WideShapes Go.ChangeAt Go.RowKit
theorem X6{H:Type}{enc:TypeId × Value->H}{C:Checked}{os:Os}{f:FuncId}{fn:Func}{s:OpenSpec}{conds:List PathCond}{apart:Bool}{laid:List (String × DataW Unit)}(w0:World)(args:Array Value)(hos:w0.os=os)
 (hv:(w0.forCall (fun _ _=>0) ⟨#[],args,[]⟩).variablesRefB C.prog=true)
 (hr:((w0.forCall (fun _ _=>0) ⟨#[],args,[]⟩).heap.toList.drop C.prog.globals.size).take ((begin C.prog (fun _ _=>0) default).world.heap.size - C.prog.globals.size)=(begin C.prog (fun _ _=>0) default).world.heap.toList.drop C.prog.globals.size)
 (hok:Input.okWideB C.prog (w0.forCall (fun _ _=>0) ⟨#[],args,[]⟩) f ⟨#[],args,[]⟩=true)
 (hrow:s.preRow enc C.prog fn conds apart laid (w0.forCall (fun _ _=>0) ⟨#[],args,[]⟩).memory args):
 ∃(w:World) (tape:Tape) (i:Input),w.os=os/\(w.forCall tape i).Shaped C.prog/\i.vars=[]/\Input.okWide C.prog (w.forCall tape i) .any w.heap.size f i/\
  s.preRow enc C.prog fn conds apart laid (w.forCall tape i).memory i.args/\({ modest:=false }:Assume).holds C.prog (lone (Frame.enter C.prog f i.args .normal) [] (w.forCall tape i)):=by
 obtain⟨w,tape,i,h1,h2,h3,h4,h5,h6,_⟩:=OpenSpec.witness_stopped_atRef (enc:=enc) (C:=C) (fn:=fn) (s:=s) (conds:=conds) (apart:=apart) (laid:=laid) false w0 args hos hv hr hok hrow (fun _ _ _=>0);exact⟨w,tape,i,h1,h2,h3,h4,h5,h6⟩
end
section
open Go.ChangeShapes Go.WideShapes Go.ChangeAt Go.RowKit
theorem O4{H:Type}{W W':World}(hg:Below W.heap.size W W'){p:MemPlace}(h:p.block<W.heap.size):W.sameAt W' p:=by
 cases p with
 |cell b off=>exact hg.cell (p:=⟨b,off,none⟩) h
 |map b=>exact hg.block b h
theorem aWG:laidOutB Tryz.prog=true:=by kernel_rfl
theorem aJF:Tryz.prog.readableRec 32=true:=by kernel_rfl
theorem aTv:32<Tryz.prog.types.size:=aK1 (by kernel_rfl)
theorem zH(H:Type)(enc:TypeId × Value->H)(W:World)(base:Nat)(args:Array Value)(ds gs:List (DataW H))(before:List MemPlace)
 (hval: ∀(j:Nat) t v,Tryz.f4.params[j]? =some t->args[j]? =some v->Value.okWide Tryz.prog W .any base t v)
 (hW:DataW.Whole enc Tryz.prog Tryz.f4.params.toList Rows.seeksWalkSpec.vars false W args.toList ds gs before) (hL:laidMetH Tryz.prog Rows.seeksWalkRow.laid W):
 Calls Tryz.prog 4 args W fun e W'=> ∃v,e=.returned v/\Rows.seeksWalkSpec.post enc Tryz.prog Tryz.f4 false true false false W args v W':=by
 have hW':=hW;obtain⟨p,q,hA0,hV,rfl,hfz,hnd⟩:=hW;have hA:DataW.TrodAll enc Tryz.prog W 0 (fun _=>true) true Tryz.f4.params.toList args.toList ds p:=hA0;rw[Tryz.params4]at hA hval;obtain⟨v0,d0,rfl,rfl,h0⟩:=trodAll_one hA;obtain⟨rfl,rfl⟩:=trodVars_none hV;obtain⟨kk,pp,oo,fo,ng,nn,z0,z1,mo,da,k0,k1,k2,fr,my,bs,n,cp,rfl,hin⟩:=Sk.aPB (hval 0 32 v0 rfl rfl) h0;have hlt: ∀x ∈ p,x.block<W.heap.size:=fun x hx=>DataW.TrodAll.lt hA0 x hx;clear hA0;simp only[aSJ]at hW';have hLm:laidMetH Tryz.prog Rows.seeksErrorsRow.laid W:=by
  rw[show Rows.seeksWalkRow.laid=Rows.seeksErrorsRow.laid from by kernel_rfl]at hL;exact hL
 refine(Sk.aO4 (Ev.aEs hLm) hin).mono fun e W' ⟨he,hg⟩=>?_;subst he;obtain⟨m,hm⟩:=h0;have h0':DataW.Trod enc Tryz.prog W' 0 (fun b=>decide (b<W.heap.size)) true 32 (.agg (Sk.fArg kk pp oo fo ng nn z0 z1 mo da k0 k1 k2 fr my (.slice bs n cp)).toArray) d0 p:=
  ⟨m,DataW.trod_stays (kids_book aWG aJF) (fun ht hu=>book_sized aJF ht hu) (fun h=>by cases h) ⟨aTv,book_self _⟩ hm (fun x hx=>O4 (H:=H) hg (hlt x hx)) (fun x hx=>aAP (hlt x hx))⟩
 exact⟨_,rfl,_,_,_,[],p,[],hW',trodAll_mk1 (shut_bool Tryz.underlying4 true),trodAll_mk1 h0',rfl,hg.frame _,fun h=>by cases h⟩
theorem GU(os:Os){H:Type}(enc:TypeId × Value->H): ∃places,DataW.whole enc Tryz.prog ((Un.laidWorld os).forCall (fun _ _=>0) ⟨#[],#[.agg (Sk.fArg 0 0 0 0 false 0 0 0 0 0 0 0 0 0 0 (.slice none 0 0)).toArray],[]⟩).memory Tryz.f4.params.toList Rows.seeksWalkSpec.vars false #[.agg (Sk.fArg 0 0 0 0 false 0 0 0 0 0 0 0 0 0 0 (.slice none 0 0)).toArray].toList 8=some ([.agg [.lit (.int .u8 0),.lit (.int .u8 0),.lit (.int .u8 0),.agg [.agg [.lit (.int .u8 0),.lit (.bool false),.lit (.int .u16 0),.agg [.lit (.int .u8 0),.lit (.int .u8 0)]],.lit (.int .u8 0),.lit (.int .u8 0),.agg [.lit (.int .u8 0),.lit (.int .u8 0),.lit (.int .u8 0)]],.lit (.int .i16 0),.lit (.int .u8 0),.nil]],[],places):=
 ⟨[],by kernel_rfl⟩
theorem OZ(os:Os)(args:Array Value):laidMetH Tryz.prog Rows.seeksWalkRow.laid ((Un.laidWorld os).forCall (fun _ _=>0) ⟨#[],args,[]⟩).memory:=by
 rw[show Rows.seeksWalkRow.laid=Rows.seeksErrorsRow.laid from by kernel_rfl];exact Un.laid_met os args
theorem DW(os:Os)(started:os.Started)(H:Type)(enc:TypeId × Value->H)(F:Stop.Interp):
 ReturnsInHanded {} Tryz.checked os 4 .any ((OpenSpec.ofChange Rows.seeksWalkSpec).preRow enc Tryz.prog Tryz.f4 Rows.seeksWalkRow.domain false Rows.seeksWalkRow.laid) (((OpenSpec.ofChange Rows.seeksWalkSpec).at F).post enc Tryz.prog Tryz.f4 false true false false):=by
 obtain⟨places,hx⟩:=GU os enc;refine returnsInHanded_of_row (C:=Tryz.checked) (s:=OpenSpec.ofChange Rows.seeksWalkSpec) Un.own started (by kernel_rfl) Tryz.func4
  (X6 (enc:=enc) (C:=Tryz.checked) (Un.laidWorld os) #[.agg (Sk.fArg 0 0 0 0 false 0 0 0 0 0 0 0 0 0 0 (.slice none 0 0)).toArray] rfl (by kernel_rfl) (by kernel_rfl) (by kernel_rfl)
    (OpenSpec.preRow_of_cond 8 hx (by kernel_rfl) (fun k hk=>by cases hk) (by kernel_rfl) (OZ os _))) ?_
 intro W base args ds gs before hval hW _ _ _ hL _ _;exact zH H enc W base args ds gs before hval hW hL
theorem J9:Rows.SeeksWalkSaid:=
 OpenClaim.holds_of_cond 4 Tryz.f4 rfl rfl rfl rfl rfl rfl rfl ⟨rfl,rfl,rfl,rfl,rfl⟩ rfl rfl rfl rfl rfl (by kernel_rfl) Tryz.func4 Facts.joined
  (aK1 (by kernel_rfl)) (by unfold Func.isWrapper;first|(rw[aFV (by decide +kernel)];kernel_rfl)|(rw[aB9 (by decide +kernel)];exact⟨rfl,rfl⟩))
  (fun os started H enc _ F=>by rw[OpenClaim.pre_eq_preRow];exact DW os started H enc F)
theorem GX(f:FuncId)(fn:Func)(hf:Tryz.pinned.checked.prog.funcNamed "circa/circalaw30.SeeksWalk" =some f)(hfn:Tryz.pinned.checked.prog.funcs[f]? =some fn):
 true=Tryz.pinned.checked.prog.looks []/\ ∀(j:Nat) t,fn.params[j]? =some t->Tryz.pinned.checked.prog.wantsStandIn t=false:=by
 obtain rfl:f=4:=aLh ((show Tryz.prog.funcNamed "circa/circalaw30.SeeksWalk" =some 4 by kernel_rfl).symm.trans hf) |>.symm
 obtain rfl:fn=Tryz.f4:=(aLh (Tryz.func4.symm.trans hfn)).symm;refine⟨by kernel_rfl,fun j t ht=>?_⟩;rw[Tryz.params4]at ht;have hm:=aUw ht;simp only[List.mem_toArray,aG4,aNL,aUG]at hm;rcases hm with rfl
 . exact(show Tryz.prog.wantsStandIn 32=false by kernel_rfl)
theorem seeksWalk_card:Rows.SeeksWalkCardSaid:=
 Claim7.holds_tied_plain_at .later [] _ _ _ _ J9 (fun _ h=>by cases h) (by kernel_rfl) (fun _ h=>by cases h) seeksWalk_row_tie rfl ⟨rfl,rfl⟩ (by kernel_rfl) rfl GX Facts.goes
end
end Go.Proofs.YtacggmlngekidaaGreatDoor
