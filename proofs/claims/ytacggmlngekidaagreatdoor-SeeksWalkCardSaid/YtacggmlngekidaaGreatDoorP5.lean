import Derived.Test.YtacggmlngekidaaGreatDoorP1
import Derived.Test.YtacggmlngekidaaGreatDoorP2
import Derived.Test.YtacggmlngekidaaGreatDoorP3
import Derived.Test.YtacggmlngekidaaGreatDoorP4
import Derived.OpenShut
import Derived.Deep.Slices
import Derived.Deep.Strs
import Derived.Lib.SmallJoins
import Derived.Laws.IdiomArrays
import Derived.ProofKit
import Derived.WalkKit
import Derived.Deep.LoopGhost
set_option linter.unusedSimpArgs false
set_option linter.unusedVariables false
set_option maxRecDepth 1000000
set_option maxHeartbeats 8000000
set_option linter.unusedSectionVars false
namespace Go.Proofs.YtacggmlngekidaaGreatDoor
abbrev aUp:=@ByteArray.size_extract
abbrev aUC:=@bne_eq_false_iff_eq
abbrev aU1:=@Nat.le_add_right
abbrev aVA:=@Go.wp_seq
abbrev aWO:=@List.cons.inj
abbrev aXC:=@ByteArray.data_append
section
open Go.RowKit Go.Lib
namespace Bk
open Un (ba bt ri rb aU bF)
theorem aQc{b:Nat->Int}{v:Int}(h0:0<=v):oO b v↔(nd v 4<=0/\ ∀j,j<4->b (3 - j)=88\/b (3 - j)=48+nd v j % 10):=by
 have e4:nd v 4=v / 10000:=rfl;constructor
 . rintro⟨_,h1,f0,f1,f2,f3⟩;refine⟨by omega,fun j hj=>?_⟩;have hf:=LQ v h0 h1 j hj;obtain rfl|rfl|rfl|rfl:j=0\/j=1\/j=2\/j=3:=by omega
   . have:=f3;unfold cO at this;rw[<-hf.2.2.2];exact this
   . have:=f2;unfold cO at this;rw[<-hf.2.2.2];exact this
   . have:=f1;unfold cO at this;rw[<-hf.2.2.2];exact this
   have:=f0;unfold cO at this;rw[<-hf.2.2.2];exact this
 rintro⟨h1,hf⟩;have h1:v<=9999:=by omega
 refine LX h0 h1 fun i hi=>?_;have hd:=LQ v h0 h1 (3 - i) (by omega);have hj:=hf (3 - i) (by omega);rw[show 3 - (3 - i)=i by omega]at hj hd;unfold cO;rw[hd.2.2.2];exact hj
theorem aDb{d:Dt}(hy:d.dg.size<=1000)(hk:d.JG=true)(hm:d.mask=false): ∀w,Calls Tryz.prog 91 #[.string d.dg,.int .i64 d.ex] w fun r w'=>r=.returned (.tuple #[.int .i64 d.mag,.int .i64 1])/\w=w':=by
 intro w;obtain⟨e,he,hle,hd,hl⟩: ∃e:Nat,d.ex=e/\e<=16/\allB bG d.dg=true/\d.mag<=10000000000000000:=by
  have hk':GN d.neg d.long d.dg d.ex d.sig=true:=hk
  cases hl:d.long
  . rw[hl]at hk';obtain⟨a1,a2,a3,a4,a5,a6,a7⟩:=iC hk';have hd:=(jV a2).1 hm;refine⟨0,a3,by omega,hd,?_⟩;unfold Dt.mag fK;rw[a3];have:=nV hd a1;have e:p10 (Int.toNat 0)=1:=rfl;rw[e];omega
  rw[hl]at hk';obtain⟨a1,a2,a3,a4,a5,a6,a7,a8,a9⟩:=jG hk';exact⟨d.ex.toNat,by omega,by omega,a3,a7⟩
 have:=nG d.dg e w hy (by omega) hd;rw[he];have e2:pJ (fK d.dg e)=(d.mag,1):=by
  unfold pJ;rw[show fK d.dg e=d.mag by unfold Dt.mag;rw[he],aFV hl]
 rw[e2]at this;exact this
theorem LY{d:Dt}(hk:d.JG=true)(hm:d.mask=true):d.dg.size=4/\allB bU d.dg=true/\d.ex=0:=by
 have hk':GN d.neg d.long d.dg d.ex d.sig=true:=hk
 cases hl:d.long
 . rw[hl]at hk';obtain⟨a1,a2,a3,_⟩:=iC hk';exact⟨a1,a2,a3⟩
 rw[hl]at hk';obtain⟨a1,a2,a3,a4,a5,a6,a7,a8,a9⟩:=jG hk';have:=(jV (pY a3)).2 a3;have hm:hasB 88 d.dg=true:=hm;rw[this]at hm;cases hm
def aOJ(I:Prop)(w:World)(e:Ending)(w':World):Prop:= ∃x:Int,((x=1/\I)\/(x=0/\ ¬I))/\e=.returned (.int .i64 x)/\Below w.heap.size w w'
theorem aLX (d:Dt) (n:Int) (w:World) (hy:d.dg.size<=1000) (hk:d.JG=true) (hs:d.sig<=0) (n0: -9223372036854775808<=n) (n1:n<9223372036854775808):
 Calls Tryz.prog 98 #[yv d.neg d.long d.dg d.ex d.sig,.int .i64 n] w (aOJ (d.In n) w):=by
 have hY:=Ym.new d.neg d.long d.dg d.ex d.sig w 35;have hM:=fun w=>vV d.neg d.long d.dg d.ex d.sig w (by unfold maxLen;omega);change ∀w,Calls _ _ _ w fun r w'=>r=.returned (.int .i64 (if d.mask then 1 else 0))/\_ at hM;have hbd:d.In n-> -10000000000000000<=n/\n<=10000000000000000:=fun h=>Dt.jU hk h
 cases hm:d.mask
 . have HG:=GK (aDb hy hk hm);have hI:d.In n↔n=(if d.neg=true then -d.mag else d.mag):=by unfold Dt.In;rw[hm];simp
   have mp:0<=d.mag:=nS _ _;have mp2:d.mag<=10000000000000000:=by
    have hx:d.In (if d.neg=true then -d.mag else d.mag):=by unfold Dt.In;rw[hm];simp
    have:=Dt.jU hk hx
    split at this<;>omega
   rw[hm]at hM;have HM:=GK hM;generalize d.In n=I at *;generalize d.mag=m at *;clear hM hm hk;generalize d.neg=neg at *;generalize d.long=long at *;generalize d.dg=s at *;generalize d.ex=ex at *;generalize d.sig=sig at *;have HI:=GK hI;have HBD:=GK hbd;clear hI hbd;unfold yv
   cases neg
   all_goals
    as_aux_lemma=>
     go_enter Tryz.func98,Tryz.ntmps98
     go_upto_region 1 with(fail)
     generalize World.alloc _ _=W0 at hY ⊢;obtain⟨q0,q1,q2,q3,q4,qB⟩:=id hY
     go_wp2_with (first
      |(go_at_call 122;with_reducible refine(HM.out _).mono ?_;rintro _ w' ⟨rfl,hb⟩;replace hY:=hY.later (by first|exact hb|exact bt (aAL _ _).drew hb|exact bt (aAL _ _).drew.drew hb);clear hb;obtain⟨q0,q1,q2,q3,q4,qB⟩:=id hY)
      |(go_at_call 91;with_reducible refine(HG.out _).mono ?_;rintro _ w' ⟨rfl,rfl⟩))
     rotate_left
     go_quiet (fail)
     go_wp2
     all_goals go_ret
     all_goals
      refine⟨_,?_,rfl,by first|exact hY.below|exact below_drewN hY.below _⟩;have hI:=HI.out;have hbd:=HBD.out
      first
      |exact .inl ⟨rfl,hI.2 (by(try simp only[aFZ,aLa,aAO,aFK,aD5,aRC,aFU,aJj,aVo,aTF,aRv,reduceCtorEq]at *);omega)⟩
      |exact .inr ⟨rfl,fun c=>by have h1:=hI.1 c;have h2:=hbd c;(try simp only[aFZ,aLa,aAO,aFK,aD5,aRC,aFU,aJj,aVo,aTF,aRv,reduceCtorEq]at *);omega⟩
 obtain ⟨h4,hx,-⟩:=LY hk hm;rw[hm]at hM;have HM:=GK hM;obtain⟨v,hv⟩: ∃v,v=(if d.neg=true then -n else n):=⟨_,rfl⟩;have hI:d.In n↔(oO (aY d.dg) v/\(d.neg=true->v≠0)):=by
  unfold Dt.In;rw[hm,aFV rfl,hv]
  cases d.neg
  . simp
  simp only[aTF];exact⟨fun h=>⟨h.1,fun _=>by omega⟩,fun h=>⟨h.1,by have:=h.2 (by trivial);omega⟩⟩
 have hnd: ∀k,k<4->nd v (k+1)=nd v k / 10:=fun k hk=>by
  obtain rfl|rfl|rfl|rfl:k=0\/k=1\/k=2\/k=3:=by omega
  . rfl
  . show v / 100=v / 10 / 10;omega
  . show v / 1000=v / 100 / 10;omega
  show v / 10000=v / 1000 / 10;omega
 have hn0: ∀k,k<=4->0<=v->v<=10000000000000000->0<=nd v k/\nd v k<=10000000000000000:=fun k hk h0 h1=>by
  obtain rfl|rfl|rfl|rfl|rfl:k=0\/k=1\/k=2\/k=3\/k=4:=by omega
  . exact⟨h0,h1⟩
  . show 0<=v / 10/\v / 10<=_;omega
  . show 0<=v / 100/\v / 100<=_;omega
  . show 0<=v / 1000/\v / 1000<=_;omega
  show 0<=v / 10000/\v / 10000<=_;omega
 have aTo:0<=v->(oO (aY d.dg) v↔(nd v 4<=0/\ ∀j,j<4->aY d.dg (3 - j)=88\/aY d.dg (3 - j)=48+nd v j % 10)):=fun h=>aQc h;have hmb:oO (aY d.dg) v->0<=v/\v<=9999:=fun h=>⟨h.1,h.2.1⟩;have hst:nd v 0=v:=rfl;generalize d.In n=I at *;generalize oO (aY d.dg) v=M at *;generalize nd v=N at *;clear hM hm hk;generalize d.neg=neg at *;generalize d.long=long at *;generalize d.dg=s at *;generalize d.ex=ex at *;generalize d.sig=sig at *;have HI:=GK hI;have HMB:=GK hmb;have aUj:=GK aTo;have HND:=GK hnd;have HN0:=GK hn0;have HST:=GK hst;clear hI hbd hmb aTo hnd hn0 hst hx;unfold yv
 cases neg
 all_goals
  simp only[aTF,aRv,reduceCtorEq]at hv
  as_aux_lemma=>
   go_enter Tryz.func98,Tryz.ntmps98
   go_upto_region 1 with(fail)
   generalize World.alloc _ _=W0 at hY ⊢;obtain⟨q0,q1,q2,q3,q4,qB⟩:=id hY
   go_wp2_with (go_at_call 122;with_reducible refine(HM.out _).mono ?_;rintro _ w' ⟨rfl,hb⟩;replace hY:=hY.later (by first|exact hb|exact bt (aAL _ _).drew hb|exact bt (aAL _ _).drew.drew hb|exact bt (aAL _ _).drew.drew.drew hb);clear hb;obtain⟨q0,q1,q2,q3,q4,qB⟩:=id hY)
   any_goals
    (go_ret
     refine⟨_,?_,rfl,hY.below⟩;have hI:=HI.out;have hmb:=HMB.out;exact .inr ⟨rfl,fun c=>by have h1:=hI.1 c;have h2:=hmb h1.1;have h3:=h1.2;(try simp only[aFZ,aLa,aUC,aAO,aFK,aD5,aRC,aFU,aJj,aVo,aUe,reduceCtorEq,aSN,aUd]at *);omega⟩)
   have hvn:0<=v/\v<=10000000000000000/\v≠0\/0<=v/\v<=10000000000000000/\v=n:=by(try simp only[aFZ,aLa,aUC,aAO,aFK,aD5,aRC,aFU,aJj,aVo]at *);omega
   have HVN:Hid (I↔M):=GK (by
    have hI:=HI.out;rcases hvn with⟨_,_,hne⟩|⟨_,_,he⟩
    . exact hI.trans ⟨fun h=>h.1,fun h=>⟨h,fun _=>hne⟩⟩
    refine hI.trans ⟨fun h=>h.1,fun h=>⟨h,fun c=>?_⟩⟩
    first|(cases c;done)|((try simp only[aFZ,aLa,aUC,aAO,aFK,aD5,aRC,aFU,aJj,aVo]at *);omega))
   have v0:0<=v:=by omega
   have v1:v<=10000000000000000:=by omega
   clear hvn HI HM;have HM4:=GK (aUj.out v0);have HB:Hid (∀k,k<=4->0<=N k/\N k<=10000000000000000):=GK (fun k hk=>HN0.out k hk v0 v1);clear HN0 aUj HMB;have HW:=GK hY.below
   go_loop [1,5] (fun nv iv=> ∃k:Nat,k<=4/\iv=.int .i64 (3 - (k:Int))/\nv=.int .i64 (N k)/\ ∀j,j<k->aY s (3 - j)=88\/aY s (3 - j)=48+N j % 10) (fun _ iv=>(intOf iv+1).toNat)
   case atStart=>exact⟨0,by omega,rfl,aRx _ (by rw[HST.out];omega),fun j h=>by omega⟩
   case round=>
    obtain⟨k,hk,rfl,rfl,hj⟩:=hrel;have HJ:=GK hj;have b0:=HB.out k hk;clear hj;have hk5:k=0\/k=1\/k=2\/k=3\/k=4:=by omega
    by_cases k4:k=4
    . subst k4
      by_cases hz:0<N 4
      . have HR:Hid (¬I):=GK (fun c=>by have:=(HM4.out.1 (HVN.out.1 c)).1;omega);clear hk5;generalize N 4=x at *;rw[show (3:Int) - ((4:Nat):Int)= -1 by omega]
        go_wp2
        go_ret
        exact⟨_,.inr ⟨rfl,HR.out⟩,rfl,HW.out⟩
      have HR:Hid I:=GK (HVN.out.2 (HM4.out.2 ⟨by omega,HJ.out⟩));clear hk5;generalize N 4=x at *;rw[show (3:Int) - ((4:Nat):Int)= -1 by omega]
      go_wp2
      go_ret
      exact⟨_,.inl ⟨rfl,HR.out⟩,rfl,HW.out⟩
    have l3:3 - k<s.size:=by omega
    have hb:=bQ s (3 - k) l3;have HE:=GK (HND.out k (by omega));have bb:=aQ3 s (3 - k);have HNO:Hid (¬(aY s (3 - k)=88\/aY s (3 - k)=48+N k % 10)-> ¬I):=GK (fun h c=>h ((HM4.out.1 (HVN.out.1 c)).2 k (by omega)));have HOK:Hid ((aY s (3 - k)=88\/aY s (3 - k)=48+N k % 10)-> ∀j,j<k+1->aY s (3 - j)=88\/aY s (3 - j)=48+N j % 10):=GK (fun h j hj=>by
     by_cases e:j=k
     . subst e;exact h
     exact HJ.out j (by omega))
    have e3:(3:Int) - (k:Int)=((3 - k:Nat):Int):=by omega
    rw[e3];have hm2:(3 - k:Nat)=3 - k:=rfl;generalize hq:3 - k=q at *;have Q3:=GK e3;clear hk5 hm2 hq e3 HB HM4 HJ HND;generalize N k=x at *;obtain⟨x0,x1⟩:=b0;have m0:0<=x % 10:=by omega
    have m1:x % 10<=9:=by omega
    have HBQ:=GK hb;clear hb bb;have K4:=GK k4;clear k4
    by_cases c1:((s[q]'l3).toNat:Int)=88
    . go_wp2
      go_round
      case rel=>exact⟨k+1,by have:=K4.out;omega,aRx _ (by have:=Q3.out;omega),aRx _ HE.out.symm,HOK.out (.inl (by rw[HBQ.out];exact c1))⟩
      case measure=>first|(simp[intOf];done)|(simp[intOf];omega)
    by_cases c2:((s[q]'l3).toNat:Int)=48+x % 10
    . go_wp2
      go_round
      case rel=>exact⟨k+1,by have:=K4.out;omega,aRx _ (by have:=Q3.out;omega),aRx _ HE.out.symm,HOK.out (.inr (by rw[HBQ.out];exact c2))⟩
      case measure=>first|(simp[intOf];done)|(simp[intOf];omega)
    have HR:=GK (HNO.out (by rw[HBQ.out];omega))
    go_wp2
    all_goals first
     |(go_ret;exact⟨_,.inr ⟨rfl,HR.out⟩,rfl,HW.out⟩)
     |(exfalso;(try simp only[aFZ,aLa,aUC,aAO,aFK,aD5,aRC,aFU,aJj,aVo]at *);omega)
end Bk
end
section
open Go.RowKit Go.Lib
namespace Bk
open Un (ba bt ri rb aU bF)
theorem VY(s:ByteArray)(k:Nat)(h:k<s.size):(s.extract k (k+1)).data.toList=[s[k]'h]:=by
 rw[aU3,aVb];have:s.data.toList.extract k (k+1)=[s[k]'h]:=by
  rw[aWF,show k+1 - k=1 by omega,List.take_one,List.head?_drop,aGX (by simpa using h)]
  rfl
 exact this
theorem MF(s:ByteArray)(x:UInt8): ∀k,k<=s.size->(PN s x k).data.toList=(List.range k).map fun i=>if aY s i=88 then x else s.data.toList.getD i 0
 |0,_=>rfl
 |k+1,h=>by
  rw[MC,aXC,aRr,MF s x k (by omega),List.range_succ,aQQ]
  congr 1
  by_cases c:aY s k=88
  . rw[aFV c];simp[c]
  rw[aB9 c,VY s k (by omega)];simp only[aQw,aXy,aB9 c];rw[aRA,aGX (by simp;omega)];rfl
theorem BL(s:ByteArray)(x:UInt8)(k:Nat)(h:k<=s.size):(PN s x k).size=k:=by
 have:=aRx List.length (MF s x k h);simpa using this
theorem IY(s:ByteArray)(x:UInt8)(k:Nat)(h:k<=s.size)(i:Nat)(hi:i<k):aY (PN s x k) i=if aY s i=88 then(x.toNat:Int)else aY s i:=by
 rw[sH (MF s x k h),aRA,aG0,aRw hi];show((if aY s i=88 then x else s.data.toList.getD i 0).toNat:Int)=_
 split
 . rfl
 rfl
theorem aQP{s:ByteArray}(h4:s.size=4)(hd:allB bG s=true):iT s=cZ (aY s):=by
 have h: ∀i,i<4->48<=aY s i/\aY s i<=57:=fun i hi=>by
  have:=(kH _ _).1 hd i (by omega);exact aK1 this
 have hl:s.data.toList.length=4:=by simpa using h4
 match e:s.data.toList,hl with
 |[a,b,c,d],_=>
  have h0:=h 0 (by omega);have h1:=h 1 (by omega);have h2:=h 2 (by omega);have h3:=h 3 (by omega);rw[sH e]at h0 h1 h2 h3;unfold iT cZ;rw[sH e,sH e,sH e,sH e,e];simp only[dec,List.getD_cons_zero,List.getD_cons_succ]at *;omega
theorem aDq{s:ByteArray}{x:UInt8}(h4:s.size=4)(hx:allB bU s=true)(h0:48<=x.toNat)(h1:x.toNat<=57):allB bG (PN s x 4)=true:=by
 rw[kH];intro i hi;rw[BL s x 4 (by omega)]at hi;rw[IY s x 4 (by omega) i hi];have:=CB hx i (by omega);unfold bG
 split
 . exact aAP (by omega)
 exact aAP (by omega)
theorem aWa{s:ByteArray}(h4:s.size=4)(hd:allB bG s=true):fK s 0=cZ (aY s):=by
 unfold fK;rw[show (0:Int).toNat=0 from rfl,aQP h4 hd];unfold p10;simp
def z4:ByteArray:=⟨#[48,48,48,48]⟩
def aL6(j:Nat):ByteArray:=z4.extract 0 j++⟨#[49]⟩++z4.extract (j+1) 4
theorem aBu: ∀j:Nat,j<4->(aL6 j).size=4/\allB bG (aL6 j)=true/\(∀i:Nat,i<4->aY (aL6 j) i=if i=j then 49 else 48):=by decide
theorem aFP{b:Nat->Int}{f:Int}{j:Nat}(hj:j<4)(hf:oO b f)(hn:f≠0)(hz: ∀i,i<4->b i=88\/b i=48)(hl: ∀i,j<i->i<4->b i≠88){o:Nat->Int}(ho: ∀i,i<4->o i=if i=j then 49 else 48):cZ o<=f:=by
 obtain⟨d0,d1,d2,d3,a0,a1,a2,a3,a4,a5,a6,a7,hv,e0,e1,e2,e3⟩:=(nD b f).1 hf;have z0:=hz 0 (by omega);have z1:=hz 1 (by omega);have z2:=hz 2 (by omega);have z3:=hz 3 (by omega);have o0:=ho 0 (by omega);have o1:=ho 1 (by omega);have o2:=ho 2 (by omega);have o3:=ho 3 (by omega);unfold cZ;obtain rfl|rfl|rfl|rfl:j=0\/j=1\/j=2\/j=3:=by omega
 . have l1:=hl 1 (by omega) (by omega);have l2:=hl 2 (by omega) (by omega);have l3:=hl 3 (by omega) (by omega);simp at o0 o1 o2 o3;omega
 . have l2:=hl 2 (by omega) (by omega);have l3:=hl 3 (by omega) (by omega);simp at o0 o1 o2 o3;omega
 . have l3:=hl 3 (by omega) (by omega);simp at o0 o1 o2 o3;omega
 simp at o0 o1 o2 o3;omega
def WM(d:Dt)(w:World)(e:Ending)(w':World):Prop:= ∃a b:Int,(∀y,d.In y->a<=y/\y<=b)/\ -10000000000000000<=a/\b<=10000000000000000/\e=.returned (.tuple #[.int .i64 a,.int .i64 b])/\Below w.heap.size w w'
theorem aES (d :Dt) (w:World) (hy:d.dg.size<=1000) (hk:d.JG=true) (hs:d.sig<=0):
 Calls Tryz.prog 97 #[yv d.neg d.long d.dg d.ex d.sig] w (WM d w):=by
 have hY:=Ym.new d.neg d.long d.dg d.ex d.sig w 35;have hM:=fun w=>vV d.neg d.long d.dg d.ex d.sig w (by unfold maxLen;omega);change ∀w,Calls _ _ _ w fun r w'=>r=.returned (.int .i64 (if d.mask then 1 else 0))/\_ at hM
 cases hm:d.mask
 . have HG:=GK (aDb hy hk hm);have hI: ∀y,d.In y->y=(if d.neg=true then -d.mag else d.mag):=fun y=>by unfold Dt.In;rw[hm];simp
   have mp:0<=d.mag:=nS _ _;have mp2:d.mag<=10000000000000000:=by
    have hx:d.In (if d.neg=true then -d.mag else d.mag):=by unfold Dt.In;rw[hm];simp
    have:=Dt.jU hk hx
    split at this<;>omega
   rw[hm]at hM;have HM:=GK hM;unfold WM;generalize d.In=I at *;generalize d.mag=m at *;clear hM hm hk;generalize d.neg=neg at *;generalize d.long=long at *;generalize d.dg=s at *;generalize d.ex=ex at *;generalize d.sig=sig at *;have HI:=GK hI;clear hI;unfold yv
   cases neg
   all_goals
    as_aux_lemma=>
     go_enter Tryz.func97,Tryz.ntmps97
     go_upto_region 1 with(fail)
     generalize World.alloc _ _=W0 at hY ⊢;obtain⟨q0,q1,q2,q3,q4,qB⟩:=id hY
     go_wp2_with (first
      |(go_at_call 122;with_reducible refine(HM.out _).mono ?_;rintro _ w' ⟨rfl,hb⟩;replace hY:=hY.later (by first|exact hb|exact bt (aAL _ _).drew hb|exact bt (aAL _ _).drew.drew hb|exact bt (aAL _ _).drew.drew.drew hb);clear hb;obtain⟨q0,q1,q2,q3,q4,qB⟩:=id hY)
      |(go_at_call 91;with_reducible refine(HG.out _).mono ?_;rintro _ w' ⟨rfl,rfl⟩))
     go_quiet (fail)
     go_wp2_with (first
      |(go_at_call 122;with_reducible refine(HM.out _).mono ?_;rintro _ w' ⟨rfl,hb⟩;replace hY:=hY.later (by first|exact hb|exact bt (aAL _ _).drew hb|exact bt (aAL _ _).drew.drew hb|exact bt (aAL _ _).drew.drew.drew hb);clear hb;obtain⟨q0,q1,q2,q3,q4,qB⟩:=id hY)
      |(go_at_call 91;with_reducible refine(HG.out _).mono ?_;rintro _ w' ⟨rfl,rfl⟩))
     go_ret2
     exact⟨_,_,fun y h=>by have:=HI.out y h;simp at this;omega,by omega,by omega,rfl,below_drewN hY.below _⟩
 obtain ⟨h4, hx,hex⟩:=LY hk hm;rw[hm]at hM;have HM:=GK hM;have HMG:Hid (∀L:ByteArray,L.size=4->allB bG L=true-> ∀w,Calls Tryz.prog 91 #[.string L,.int .i64 d.ex] w fun r w'=>r=.returned (.tuple #[.int .i64 (cZ (aY L)),.int .i64 1])/\w=w'):=GK (fun L hl hd w=>by
  have:=nG L 0 w (by omega) (by omega) hd;rw[hex];have e:fK L ((0:Nat):Int)=cZ (aY L):=aWa hl hd;have hb:cZ (aY L)<=9999:=by
   rw[<-aQP hl hd];have:=nV hd hl;omega
  have e2:pJ (fK L ((0:Nat):Int))=(cZ (aY L),1):=by rw[e];unfold pJ;rw[aFV (by omega)]
  rw[e2]at this;exact this)
 have hI: ∀y,d.In y->oO (aY d.dg) (if d.neg=true then -y else y)/\(d.neg=true->y≠0):=fun y h=>by
  unfold Dt.In at h;rw[hm,aFV rfl]at h
  cases hn:d.neg
  . rw[hn]at h;simp at h ⊢;exact h
  rw[hn]at h;simp at h ⊢;exact h
 have hmk:=zM h4 hx;have hLO:(PN d.dg 48 4).size=4/\allB bG (PN d.dg 48 4)=true/\ ∀f,oO (aY d.dg) f->cZ (aY (PN d.dg 48 4))<=f:=
  ⟨BL _ _ _ (by omega),aDq h4 hx (by decide) (by decide),(RN hmk (fun i hi=>IY d.dg 48 4 (by omega) i hi)).2⟩
 have hHI:(PN d.dg 57 4).size=4/\allB bG (PN d.dg 57 4)=true/\ ∀f,oO (aY d.dg) f->f<=cZ (aY (PN d.dg 57 4)):=
  ⟨BL _ _ _ (by omega),aDq h4 hx (by decide) (by decide),(BN hmk (fun i hi=>IY d.dg 57 4 (by omega) i hi)).2⟩
 have hZ:PN d.dg 48 4=z4-> ∀i,i<4->aY d.dg i=88\/aY d.dg i=48:=fun e i hi=>by
  have h1:=IY d.dg 48 4 (by omega) i hi;rw[e]at h1;have hz: ∀i:Nat,i<4->aY z4 i=48:=by decide
  rw[hz i hi]at h1
  split at h1
  . rename_i c;exact .inl c
  exact .inr h1.symm
 have hv9: ∀L:ByteArray,L.size=4->allB bG L=true->0<=cZ (aY L)/\cZ (aY L)<=9999:=fun L hl hd=>by
  rw[<-aQP hl hd];have:=nV hd hl;have:=wW L;omega
 have HV9:=GK hv9;unfold WM;generalize d.In=I at *;clear hM hm hk hex hmk hv9 hx;generalize d.neg=neg at *;generalize d.long=long at *;generalize d.dg=s at *;generalize d.ex=ex at *;generalize d.sig=sig at *;have HI:=GK hI;have TK:=GK hLO;have HHI:=GK hHI;have HZ:=GK hZ;clear hI hLO hHI hZ;have HSZ:Hid (∀x k,k<=4->(PN s x k).size=k):=GK (fun x k hk=>BL s x k (by omega));have HBX:Hid (∀k,k<4->((s.extract k (k+1)).toList==[(88:UInt8)])=decide (aY s k=88)):=GK (fun k hk=>by
  rw[show [(88:UInt8)]=ByteArray.toList ⟨#[88]⟩ by rw[aVz],zF,decide_eq_decide];constructor
  . intro e;have h1:=VY s k (by omega);rw[e]at h1;have h2:[(88:UInt8)]=[s[k]'(by omega)]:=h1;rw[bQ s k (by omega),<-(aWO h2).1];rfl
  intro e;apply zX;rw[VY s k (by omega)];rw[bQ s k (by omega)]at e;have:s[k]'(by omega)=(88:UInt8):=by apply aWz;show _=88;omega
  rw[this])
 unfold yv
 go_enter Tryz.func97,Tryz.ntmps97
 go_upto_region 1 with(fail)
 generalize World.alloc _ _=W0 at hY ⊢;obtain⟨q0,q1,q2,q3,q4,qB⟩:=id hY
 go_wp2_with (go_at_call 122;with_reducible refine(HM.out _).mono ?_;rintro _ w' ⟨rfl,hb⟩;replace hY:=hY.later (by first|exact hb|exact bt (aAL _ _).drew hb|exact bt (aAL _ _).drew.drew hb|exact bt (aAL _ _).drew.drew.drew hb);clear hb;obtain⟨q0,q1,q2,q3,q4,qB⟩:=id hY)
 go_loopw [4,5,6] (fun lo hi i wr=> ∃k:Nat,k<=4/\i=.int .i64 k/\lo=.string (PN s 48 k)/\hi=.string (PN s 57 k)/\Ym w.heap.size neg long s ex sig w wr) (fun _ _ i _=>4 - (intOf i).toNat)
 case atStart=>exact⟨0,by omega,rfl,rfl,rfl,hY⟩
 case round=>
  obtain⟨k,hk,rfl,rfl,rfl,hY⟩:=hrel;clear q0 q1 q2 q3 q4 qB;obtain⟨q0,q1,q2,q3,q4,qB⟩:=id hY
  by_cases hlt:k<4
  . have a0:=HSZ.out 48 k (by omega);have a1:=HSZ.out 57 k (by omega);have HL0:=GK (MC s 48 k);have HL1:=GK (MC s 57 k);have hbx:=HBX.out k hlt;generalize PN s 48 k=A at *;generalize PN s 57 k=B at *;have k4:k<s.size:=by omega
    have es:(s.extract k (k+1)).size=1:=by rw[aUp];omega
    by_cases c:aY s k=88
    . rw[aFV c]at HL0 HL1;rw[aAP c]at hbx;have HC:=GK c;clear c
      go_wp2
      go_quiet (fail)
      go_wp2
      go_roundw
      case rel=>exact⟨k+1,by omega,by go_num,by rw[HL0.out],by rw[HL1.out],hY.later (below_drewN (aAL _ _) _)⟩
      case measure=>simp[intOf];omega
    rw[aB9 c]at HL0 HL1;rw[aCw c]at hbx;have HC:=GK c;clear c
    go_wp2
    go_quiet (fail)
    go_wp2
    go_roundw
    case rel=>exact⟨k+1,by omega,by go_num,by rw[HL0.out],by rw[HL1.out],hY.later (below_drewN (aAL _ _) _)⟩
    case measure=>simp[intOf];omega
  obtain rfl:k=4:=by omega
  clear HSZ HBX;obtain⟨A,hA⟩: ∃A,A=PN s 48 4:=⟨_,rfl⟩;obtain⟨B,hB⟩: ∃B,B=PN s 57 4:=⟨_,rfl⟩;rw[<-hA]at TK HZ ⊢;rw[<-hB]at HHI ⊢;clear hA hB;have hZ4:(A.toList==[(48:UInt8),48,48,48])=decide (A=z4):=by
   rw[show [(48:UInt8),48,48,48]=ByteArray.toList z4 by unfold z4;rw[aVz],zF]
  have GB:=GK (HMG.out B HHI.out.1 HHI.out.2.1);have vb:=HV9.out B HHI.out.1 HHI.out.2.1;have HVB:=GK HHI.out.2.2
  by_cases hne:neg=true/\A=z4
  case neg=>
   have GA:=GK (HMG.out A TK.out.1 TK.out.2.1);have va:=HV9.out A TK.out.1 TK.out.2.1;have HVA:=GK TK.out.2.2;clear HMG HV9 TK HHI HZ HM;generalize cZ (aY A)=a at *;generalize cZ (aY B)=b at *
   cases neg
   . clear hZ4
     all_goals
      as_aux_lemma=>
       go_wp2_with (go_at_call 91;first|(with_reducible refine(GA.out _).mono ?_;rintro _ w' ⟨rfl,rfl⟩)|(with_reducible refine(GB.out _).mono ?_;rintro _ w' ⟨rfl,rfl⟩))
       go_ret2
       exact⟨_,_,fun y h=>by have h1:=HI.out y h;simp at h1;have h2:=HVA.out _ h1;have h3:=HVB.out _ h1;omega,by omega,by omega,rfl,hY.below⟩
   have hA4: ¬A=z4:=fun h=>hne ⟨rfl,h⟩;rw[aCw hA4]at hZ4;clear hne hA4
   . as_aux_lemma=>
      go_wp2_with (go_at_call 91;first|(with_reducible refine(GA.out _).mono ?_;rintro _ w' ⟨rfl,rfl⟩)|(with_reducible refine(GB.out _).mono ?_;rintro _ w' ⟨rfl,rfl⟩))
      go_ret2
      exact⟨_,_,fun y h=>by have h1:=HI.out y h;simp at h1;have h2:=HVA.out _ h1.1;have h3:=HVB.out _ h1.1;omega,by omega,by omega,rfl,hY.below⟩
  case pos =>
   obtain⟨rfl,rfl⟩:=hne;have HZ2:=GK (HZ.out rfl);clear HZ TK hZ4 HM;unfold z4;generalize cZ (aY B)=b at *
   go_wp2
   go_loopw [4,9] (fun lo i wr=> ∃(k:Nat) (L:ByteArray),k<=4/\i=.int .i64 k/\lo=.string L/\((L=z4/\ ∀j,j<k->aY s j≠88)\/(∃j,j<k/\aY s j=88/\(∀l,j<l->l<k->aY s l≠88)/\L=aL6 j))/\Ym w.heap.size true long s ex sig w wr) (fun _ i _=>4 - (intOf i).toNat)
   case atStart=>exact⟨0,_,by omega,rfl,rfl,.inl ⟨rfl,fun j h=>by omega⟩,hY⟩
   case round=>
    obtain⟨k,L,hk,rfl,rfl,hL,hY⟩:=hrel;clear q0 q1 q2 q3 q4 qB;obtain⟨q0,q1,q2,q3,q4,qB⟩:=id hY;have HL:=GK hL;clear hL
    by_cases hlt:k<4
    . have k4:k<s.size:=by omega
      have HB2:=GK (bQ s k k4)
      by_cases c:((s[k]'k4).toNat:Int)=88
      . go_wp2
        go_quiet (fail)
        go_wp2
        go_roundw
        case rel=>exact⟨k+1,_,by omega,by go_num,rfl,.inr ⟨k,by omega,by rw[HB2.out];exact c,fun l h1 h2=>by omega,rfl⟩,hY.later (below_drewN (aAL _ _) _)⟩
        case measure=>simp[intOf];omega
      go_wp2
      go_roundw
      case rel=>exact⟨k+1,_,by omega,by go_num,rfl,by
       have hb:aY s k≠88:=by rw[HB2.out];exact c
       rcases HL.out with⟨e1,e2⟩|⟨j,e1,e2,e3,e4⟩
       . refine .inl ⟨e1,fun j hj=>?_⟩
         by_cases e:j=k
         . subst e;exact hb
         exact e2 j (by omega)
       refine .inr ⟨j,by omega,e2,fun l h1 h2=>?_,e4⟩
       by_cases e:l=k
       . subst e;exact hb
       exact e3 l h1 (by omega),hY⟩
      case measure=>simp[intOf];omega
    obtain rfl:k=4:=by omega
    have hL2:L.size=4/\allB bG L=true/\ ∀f,oO (aY s) f->f≠0->cZ (aY L)<=f:=by
     rcases HL.out with⟨rfl,e2⟩|⟨j,e1,e2,e3,rfl⟩
     . refine⟨rfl,by decide,fun f hf hn=>?_⟩;have:cZ (aY z4)=0:=by decide
       have:=hf.1;omega
     obtain⟨g1,g2,g3⟩:=aBu j e1;exact⟨g1,g2,fun f hf hn=>aFP e1 hf hn HZ2.out e3 g3⟩
    have GA:=GK (HMG.out L hL2.1 hL2.2.1);have va:=HV9.out L hL2.1 hL2.2.1;have HVA:=GK hL2.2.2;clear hL2 HL HMG HV9 HHI HZ2;generalize cZ (aY L)=a at *
    go_wp2_with (go_at_call 91;first|(with_reducible refine(GA.out _).mono ?_;rintro _ w' ⟨rfl,rfl⟩)|(with_reducible refine(GB.out _).mono ?_;rintro _ w' ⟨rfl,rfl⟩))
    go_ret2
    exact⟨_,_,fun y h=>by have h1:=HI.out y h;simp at h1;have h2:=HVA.out _ h1.1 (by omega);have h3:=HVB.out _ h1.1;omega,by omega,by omega,rfl,hY.below⟩
end Bk
end
section
open Go.RowKit Go.Lib
namespace Bk
open Un (ba bt ri rb aU bF)
theorem rs{a b:ByteArray}(h:a=b):Ending.returned (.string a)=.returned (.string b):=by rw[h]
theorem AZ(n:Nat)(w:World)(h:n<=99):
 Calls Tryz.prog 61 #[.int .i64 n] w fun r w'=>r=.returned (.string (twoS n))/\Below w.heap.size w w':=by
 have HT:=GK (aLL n (by omega));unfold CG at HT
 go_enter Tryz.func61,Tryz.ntmps61
 go_wp2
 go_quiet (fail)
 go_wp2
 all_goals go_ret
 all_goals exact⟨rs HT.out,below_drewN (aAL _ _) _⟩
theorem vW(s:ByteArray)(n:Nat)(w:World)(h:n<=99):
 Calls Tryz.prog 123 #[.string s,.int .i64 n] w fun r w'=>r=.returned (.int .i64 (if jD s n then 1 else 0))/\Below w.heap.size w w':=by
 have HT:=GK (fun w=>AZ n w h);obtain⟨R,hR⟩: ∃R:Int,R=if jD s n then 1 else 0:=⟨_,rfl⟩
 rw[<-hR];have hRF:(s.size≠2->R=0)/\(s.size=2->(aY s 0=88\/aY s 0=48+(n:Int) / 10)->(aY s 1=88\/aY s 1=48+(n:Int) % 10)->R=1)/\(s.size=2-> ¬(aY s 0=88\/aY s 0=48+(n:Int) / 10)->R=0)/\(s.size=2-> ¬(aY s 1=88\/aY s 1=48+(n:Int) % 10)->R=0):=by
  rw[hR];refine⟨fun h=>by rw[TD h];rfl,fun h1 h2 h3=>?_,fun h1 h2=>?_,fun h1 h2=>?_⟩
  . rw[aFV];unfold jD;simp[h1,h2,h3]
  . rw[show jD s n=false by unfold jD;rw[aMP];intro c;simp at c;omega];rfl
  rw[show jD s n=false by unfold jD;rw[aMP];intro c;simp at c;omega];rfl
 obtain⟨t,ht⟩: ∃t,t=twoS n:=⟨_,rfl⟩;rw[<-ht]at HT;have t2:t.size=2:=by rw[ht];rfl
 have t20:0<t.size:=by omega
 have t21:1<t.size:=by omega
 have b0:((t[0]'t20).toNat:Int)=48+(n:Int) / 10:=by rw[<-bQ t 0 t20,ht];exact aHo h
 have b1:((t[1]'t21).toNat:Int)=48+(n:Int) % 10:=by rw[<-bQ t 1 t21,ht];exact aHn h
 by_cases c:s.size=2
 . have s0:0<s.size:=by omega
   have s1:1<s.size:=by omega
   rw[bQ s 0 s0,bQ s 1 s1,<-b0,<-b1]at hRF;obtain⟨a0,g0⟩: ∃b,(((s[0]'s0).toNat:Int)==88)=b:=⟨_,rfl⟩;obtain⟨a1,g1⟩: ∃b,(((s[0]'s0).toNat:Int)==((t[0]'t20).toNat:Int))=b:=⟨_,rfl⟩;obtain⟨c0,g2⟩: ∃b,(((s[1]'s1).toNat:Int)==88)=b:=⟨_,rfl⟩;obtain⟨c1,g3⟩: ∃b,(((s[1]'s1).toNat:Int)==((t[1]'t21).toNat:Int))=b:=⟨_,rfl⟩;have hR2:R=if(a0||a1)&&(c0||c1)then 1 else 0:=by
    subst g0 g1 g2 g3;simp only[aFU,aJj,aFZ]
    split
    . rename_i h;exact hRF.2.1 c h.1 h.2
    rename_i h
    by_cases q:(((s[0]'s0).toNat:Int)=88\/((s[0]'s0).toNat:Int)=((t[0]'t20).toNat:Int))
    . exact hRF.2.2.2 c (fun e=>h ⟨q,e⟩)
    exact hRF.2.2.1 c q
   replace hR2:=GK hR2;clear hRF hR b0 b1 ht
   cases a0<;>cases a1<;>cases c0<;>cases c1
   all_goals
    as_aux_lemma=>
     go_enter Tryz.func123,Tryz.ntmps123
     go_wp2_with (go_at_call 61;with_reducible refine(HT.out _).mono ?_;rintro _ w' ⟨rfl,hb⟩)
     go_quiet (fail)
     go_wp2
     go_ret
     exact⟨ri hR2.out.symm,below_drewN hb _⟩
 have hR0:=hRF.1 c;clear hR hRF ht b0 b1;subst hR0;have c2:((s.size:Int)==2)=false:=by rw[aAO];omega
 clear c t20 t21 t2
 go_enter Tryz.func123,Tryz.ntmps123
 go_wp2_with (go_at_call 61;with_reducible refine(HT.out _).mono ?_;rintro _ w' ⟨rfl,hb⟩)
 clear HT
 go_quiet (fail)
 go_wp2
 go_ret
 exact⟨rfl,below_drewN hb _⟩
theorem Q7(s:ByteArray)(g:Nat)(w:World)(hg:g<=99):
 Calls Tryz.prog 95 #[.string s,.int .i64 g] w fun r w'=>r=.returned (.int .i64 (if dP s g then 1 else 0))/\Below w.heap.size w w':=by
 have HT:=GK (fun(k:Nat) (hk:k<g) (x:Int) (hx:x=if jD s ((k:Int)+1)then 1 else 0) w=>(by rw[hx];exact vW s (k+1) w (by omega):Calls Tryz.prog 123 #[.string s,.int .i64 ((k:Int)+1)] w fun r w'=>r=.returned (.int .i64 x)/\Below w.heap.size w w'));have HM:=GK (fun(k:Nat) (h:k<g) (ht:jD s ((k:Int)+1)=true)=>(J7 (s:=s) (g:=k+1) (h:=g) (by omega) (by rw[tH,ht,aV7]):dP s g=true));have HN:=GK (fun(k:Nat) (h:dP s k=false) (ht:jD s ((k:Int)+1)=false)=>(by rw[tH,h,ht];rfl:dP s (k+1)=false));obtain⟨R,hR⟩: ∃R:Int,R=if dP s g then 1 else 0:=⟨_,rfl⟩
 rw[<-hR];replace hR:=GK hR
 go_enter Tryz.func95,Tryz.ntmps95
 go_wp2
 go_loopw [5] (fun i wr=> ∃k:Nat,k<=g/\i=.int .i64 ((k:Int)+1)/\dP s k=false/\Below w.heap.size w wr) (fun i _=>g+1 - (intOf i).toNat)
 case atStart=>exact⟨0,aKS _,rfl,rfl,aAL _ _⟩
 case round=>
  obtain⟨k,hk,rfl,hz,hb⟩:=hrel
  by_cases hlt:k<g
  . have hT:=fun x hx w=>HT.out k hlt x hx w;have HB:=GK hb;have HZ:=GK hz;clear hb hz
    cases ha:jD s ((k:Int)+1)
    . have HT2:=GK (hT 0 (by rw[ha];rfl));have HA:=GK ha;clear hT ha
      go_wp2_with (go_at_call 123;with_reducible refine(HT2.out _).mono ?_;rintro _ w' ⟨rfl,hb⟩)
      go_roundw
      case rel=>exact⟨k+1,by omega,by go_num,HN.out k HZ.out HA.out,bt HB.out hb⟩
      case measure=>simp[intOf];omega
    have HT2:=GK (hT 1 (by rw[ha];rfl));have HA:=GK ha;clear hT ha
    go_wp2_with (go_at_call 123;with_reducible refine(HT2.out _).mono ?_;rintro _ w' ⟨rfl,hb⟩)
    go_ret
    exact⟨ri (by rw[hR.out,HM.out k hlt HA.out];rfl),bt HB.out hb⟩
  obtain rfl:k=g:=by omega
  have HB:=GK hb;have HZ:=GK hz;clear hb hz
  go_wp2
  go_ret
  exact⟨ri (by rw[hR.out,HZ.out];rfl),HB.out⟩
theorem KY(d:Dt)(w:World):
 Calls Tryz.prog 37 #[aW d] w fun r w'=>r=.returned (.int .i64 (comps d.mo d.da))/\Below w.heap.size w w':=
 Sk.rJ (Sk.aLq d w) (by rw[QD,QD];unfold comps;simp only[aG3,aFK];(repeat' split)<;>rfl)
theorem qL(d:Dt)(w:World):
 Calls Tryz.prog 35 #[aW d] w fun r w'=>r=.returned (.int .i64 d.aH)/\Below w.heap.size w w':=by
 have hD:=Dm.new d w 37;have HT:=GK (fun(c:Nat) w (h:c<=41)=>AZ c w (by omega));have HS:=GK (fun(c:Nat) (h0:21<=c) (h1:c<=41)=>(XH (s:=d.mo) h0 h1));have HBD:=GK (iZ d.mo);unfold Dt.aH;generalize dB d.mo=z at *;unfold aW
 go_enter Tryz.func35,Tryz.ntmps35
 go_upto_region 1 with(fail)
 generalize w.alloc (.cells #[.bool d.neg,.bool d.long,.string d.dg,.int .i64 d.ex,.int .i64 d.sig,.string d.mo,.string d.da,.int .u8 d.m0,.int .u8 d.m1,.int .u8 d.m2] 37)=W0 at hD ⊢
 go_wp2
 go_loopw [3] (fun i wr=> ∃c:Nat,21<=c/\c<=42/\i=.int .i64 c/\(z=0\/(c:Int)<=z)/\Dm w.heap.size d w wr) (fun i _=>42 - (intOf i).toNat)
 case atStart=>exact⟨21,by omega,by omega,rfl,by have:=HBD.out;omega,hD⟩
 case round=>
  obtain⟨c,h0,h1,rfl,hz,hD⟩:=hrel;obtain⟨q0,q1,q2,q3,q4,q5,q6,q7,q8,q9,qB⟩:=id hD
  by_cases hlt:c<=41
  . have hT:=fun w=>HT.out c w hlt;have hS:=HS.out c h0 hlt;generalize twoS c=t at *;have hb:(d.mo.toList==t.toList)=decide (d.mo=t):=zF _ _;have HT2:=GK hT;have HZ:=GK hz;clear hT hz HT HS
    by_cases e:d.mo=t
    . have hv:=hS.1 e;rw[aAP e]at hb;have HV:=GK hv;clear e hS hv
      go_wp2
      go_region_with (go_at_call 61;with_reducible refine(HT2.out _).mono ?_;rintro _ w' ⟨rfl,hb⟩;have hD:=hD.later (by first|exact hb|exact bt (aAL _ _).drew hb|exact bt (aAL _ _).drew.drew hb);obtain⟨q0,q1,q2,q3,q4,q5,q6,q7,q8,q9,qB⟩:=id hD)
      all_goals (go_wp2_with fail)
      all_goals go_ret
      all_goals exact⟨ri HV.out.symm,hD.below⟩
    have hv: ¬z=c:=fun h=>e (hS.2 h);rw[aCw e]at hb;have HV:=GK hv;clear e hS hv
    go_wp2
    go_region_with (go_at_call 61;with_reducible refine(HT2.out _).mono ?_;rintro _ w' ⟨rfl,hb⟩;have hD:=hD.later (by first|exact hb|exact bt (aAL _ _).drew hb|exact bt (aAL _ _).drew.drew hb);obtain⟨q0,q1,q2,q3,q4,q5,q6,q7,q8,q9,qB⟩:=id hD)
    all_goals (go_wp2_with fail)
    all_goals go_roundw
    all_goals first
     |exact⟨c+1,by omega,by omega,by go_num,by have:=HV.out;have:=HZ.out;omega,hD⟩
     |(simp[intOf];omega)
  obtain rfl:c=42:=by omega
  have HV:Hid (z=0):=GK (by have:=HBD.out;omega);clear hz
  go_wp2
  go_ret
  exact⟨ri HV.out.symm,hD.below⟩
end Bk
end
section
open Go.RowKit Go.Lib
namespace Bk
open Un (ba bt ri rb aU bF)
theorem aHS(a b c n:Int)(w:World)(a0:0<=a)(b0:0<=b)(c0:0<=c)(n0:1<=n)(n1:n<=3):
 Calls Tryz.prog 96 #[.agg #[.int .u8 a,.int .u8 b,.int .u8 c],.int .i64 n] w fun r w'=>r=.returned (.int .i64 (jZ a b c n))/\Below w.heap.size w w':=by
 obtain rfl|rfl|rfl:n=1\/n=2\/n=3:=by omega
 . exact Sk.rJ (Sk.aHa a b c w) (by unfold jZ;simp only[aG3,aFK,aFZ];(repeat' split)<;>first|rfl|(exfalso;omega))
 . exact Sk.rJ (Sk.aG9 a b c w) (by unfold jZ;simp only[aG3,aFK,aFZ];(repeat' split)<;>first|rfl|(exfalso;omega))
 exact Sk.rJ (Sk.aG8 a b c w) (by unfold jZ;simp only[aG3,aFK,aFZ];(repeat' split)<;>first|rfl|(exfalso;omega))
theorem aER(d:Dt)(w:World)(hy:d.dg.size<=1000)(s0: -9223372036854775808<=d.sig)(s1:d.sig<9223372036854775808):
 Calls Tryz.prog 94 #[aW d] w fun r w'=>r=.returned (.int .i64 (if d.lI then 1 else 0))/\Below w.heap.size w w':=by
 have hC: ∀c:Int,(if d.JG then 1 else 0)=c->Sk.Same w 60 #[yv d.neg d.long d.dg d.ex d.sig] (.int .i64 c):=fun c e=>e ▸ fun W _=>FM d.neg d.long d.dg d.ex d.sig W hy s0 s1;have hS:=fun W (_:Below w.heap.size w W)=>qL d W;have hM: ∀c:Int,(if d.mask then 1 else 0)=c->Sk.Same w 122 #[yv d.neg d.long d.dg d.ex d.sig] (.int .i64 c):=fun c e=>e ▸ fun W _=>vV d.neg d.long d.dg d.ex d.sig W (by unfold maxLen;omega);unfold Dt.lI Dt.far
 cases hk:d.JG
 . exact Sk.rJ (Sk.aLm d w (hC 0 (by rw[hk];rfl))) rfl
 have hmg:d.mask=false-> ∀w,Calls Tryz.prog 91 #[.string d.dg,.int .i64 d.ex] w fun r w'=>r=.returned (.tuple #[.int .i64 d.mag,.int .i64 1])/\w=w':=by
  intro hm w;obtain⟨e,he,hle,hd,hl⟩: ∃e:Nat,d.ex=e/\e<=16/\allB bG d.dg=true/\d.mag<=10000000000000000:=by
   have hk':GN d.neg d.long d.dg d.ex d.sig=true:=hk
   cases hl:d.long
   . rw[hl]at hk';obtain⟨a1,a2,a3,a4,a5,a6,a7⟩:=iC hk';have hd:=(jV a2).1 hm;refine⟨0,a3,by omega,hd,?_⟩;unfold Dt.mag fK;rw[a3];have:=nV hd a1;have e:p10 (Int.toNat 0)=1:=rfl;rw[e];omega
   rw[hl]at hk';obtain⟨a1,a2,a3,a4,a5,a6,a7,a8,a9⟩:=jG hk';exact⟨d.ex.toNat,by omega,by omega,a3,a7⟩
  have:=nG d.dg e w hy (by omega) hd;rw[he];have e2:pJ (fK d.dg e)=(d.mag,1):=by
   unfold pJ;rw[show fK d.dg e=d.mag by unfold Dt.mag;rw[he],aFV hl]
  rw[e2]at this;exact this
 have h1:=hC 1 (by rw[hk];rfl)
 cases hx:d.mask
 . refine Sk.rJ (Sk.aLk d d.aH d.mag 1 w h1 hS (hM 0 (by rw[hx];rfl)) (fun W _=>Sk.eqB (hmg hx W))) ?_;rw[QD]
   by_cases c:0<d.sig<;>by_cases e:d.mo.size=0<;>by_cases a:d.aH=24<;>by_cases b:d.aH=28<;>by_cases g:d.aH=30<;>by_cases m:d.mag=10000000000000000<;>cases d.neg<;>simp[aG3,c,e,a,b,g,m]
 refine Sk.rJ (Sk.aLl d d.aH w h1 hS (hM 1 (by rw[hx];rfl))) ?_;rw[QD]
 by_cases c:0<d.sig<;>by_cases e:d.mo.size=0<;>simp[c,e]
theorem YG(d:Dt)(w:World)(hy:d.dg.size<=1000)(s0: -9223372036854775808<=d.sig)(s1:d.sig<9223372036854775808)(m0:0<=d.m0)(m1:0<=d.m1)(m2:0<=d.m2):
 Calls Tryz.prog 71 #[aW d] w fun r w'=>r=.returned (.int .i64 d.form)/\Below w.heap.size w w':=by
 refine Sk.rJ (Sk.aHc d _ d.aH _ _ _ _ w (fun W _=>aER d W hy s0 s1) (fun W _=>qL d W) (fun W _=>Q7 d.mo 12 W (by omega)) (fun W _=>Q7 d.da 31 W (by omega)) (fun W _=>KY d W)
  (fun W _=>aHS d.m0 d.m1 d.m2 (comps d.mo d.da) W m0 m1 m2 (CQ _ _).1 (CQ _ _).2)) ?_
 have hz:d.aH=0\/(21<=d.aH/\d.aH<=41):=iZ d.mo;rw[QD,QD];unfold Dt.form;rcases hz with e3|e3
 . cases d.lI<;>cases dP d.mo 12<;>cases dP d.da 31<;>by_cases e1:d.mo.size=0<;>by_cases e2:d.da.size=0<;>simp[e1,e2,e3]
 have a: ¬d.aH=0:=by omega
 have b:0<d.aH:=by omega
 cases d.lI<;>cases dP d.mo 12<;>cases dP d.da 31<;>by_cases e1:d.mo.size=0<;>by_cases e2:d.da.size=0<;>simp[aG3,e1,e2,a,b]
end Bk
end
section
open Go.RowKit Go.Lib
namespace Bk
open Un (ba bt ri rb aU bF)
theorem own_below{w w':World}{B e size n:Nat}{v:Value}{xs:List Value}(h:w.ownsRow B e size v n xs)(hb:Below w.heap.size w w'):w'.ownsRow B e size v n xs:=by
 refine⟨h.1,?_⟩;rcases h.2 with hn|⟨g,cap,cur,rfl,hg,hgg,rest⟩
 . exact .inl hn
 exact .inr ⟨g,cap,cur,rfl,hg,by rw[hb.block g (aTn.1 hgg).1];exact hgg,rest⟩
theorem aHQ(y m:Int)(w:World)(m0:1<=m)(m1:m<=12):Calls Tryz.prog 125 #[.int .i64 y,.int .i64 m] w fun e w'=>e=.returned (.int .i64 (Cal.len y m))/\w=w':=by
 by_cases h2:m=2
 . subst h2;have t4:=Un.rM y 4;have t1:=Un.JV y 100;have t5:=Un.rM y 400
   by_cases a:y % 4=0<;>by_cases b:y % 100=0<;>by_cases c:y % 400=0<;>
    simp only[a,b,c,aUV,aUH,aVL,aTw]at t4 t1 t5<;>
    (have L:Hid (Cal.len y 2=if(decide (y % 4=0)&&(decide (y % 100≠0)||decide (y % 400=0)))then 29 else 28):=GK (by
      unfold Cal.len Cal.lp Cal.leap;rw[aFV rfl];split<;>rfl)
     simp only[a,b,c,aVo,not_true_eq_false,aVU,aUV,aUH,aQT,aRW,aV7,aUz,aV6,aTF,aRv,aLe]at L;clear a b c m0 m1
     go_enter Tryz.func125,Tryz.ntmps125
     go_wp2
     go_ret
     exact⟨ri (by first|exact L.out.symm|rfl),rfl⟩)
 have:m=1\/m=3\/m=4\/m=5\/m=6\/m=7\/m=8\/m=9\/m=10\/m=11\/m=12:=by omega
 rcases this with rfl|rfl|rfl|rfl|rfl|rfl|rfl|rfl|rfl|rfl|rfl<;>
  (clear m0 m1 h2
   go_enter Tryz.func125,Tryz.ntmps125
   go_wp2
   go_ret
   exact⟨ri (by unfold Cal.len;simp),rfl⟩)
theorem YE(d:Dt)(w:World)(hf:d.form=0):
 Calls Tryz.prog 124 #[aW d] w (aOI d.ms w):=by
 have hD:=Dm.new d w 37;have HS:=GK (fun w=>qL d w);unfold aW at HS;have hbd:d.aH=0\/(21<=d.aH/\d.aH<=41):=iZ d.mo;unfold aW;rcases jB hf with⟨h1,h2,-⟩|⟨h1,h2,h3,-⟩|⟨h1,h2,-⟩
 . have x0:=NH h2;rw[Dt.mM h1];have z0:21<=d.aH:=by omega
   clear hbd h1 h2 hf;generalize d.aH=z at *
   go_enter Tryz.func124,Tryz.ntmps124
   go_upto_region 1 with(fail)
   generalize World.alloc _ _=W0 at hD ⊢;obtain⟨q0,q1,q2,q3,q4,q5,q6,q7,q8,q9,qB⟩:=id hD
   go_wp2_with (go_at_call 35;with_reducible refine(HS.out _).mono ?_;rintro _ w' ⟨rfl,hb⟩;replace hD:=hD.later (by first|exact hb|exact bt (aAL _ _).drew hb|exact bt (aAL _ _).drew.drew hb|exact bt (aAL _ _).drew.drew.drew hb);clear hb;obtain⟨q0,q1,q2,q3,q4,q5,q6,q7,q8,q9,qB⟩:=id hD)
   go_ret
   exact⟨_,rfl,bD.lit (w:=w) z,ba hD.below _⟩
 . have x0:=NH h2;obtain⟨s2,sx,sn⟩:=lH (by omega) h3;rw[Dt.qN h1 h2];rw[h1]at HS;have HT:=GK (fun(k:Nat) (hk:k<12) (x:Int) (hx:x=if jD d.mo ((k:Int)+1)then 1 else 0) w=>(by rw[hx];exact vW d.mo (k+1) w (by omega):Calls Tryz.prog 123 #[.string d.mo,.int .i64 ((k:Int)+1)] w fun r w'=>r=.returned (.int .i64 x)/\Below w.heap.size w w'));have SN:=GK sn;obtain⟨i0,hi,hz0,hz1,hz2⟩:=info_parts ZQ;have HI:=GK hi;have HZ0:=GK hz0;have HZ1:=GK hz1;have HZ2:=GK hz2;clear hbd h1 h2 h3 hf sn sx s2 hi hz0 hz1 hz2
   go_enter Tryz.func124,Tryz.ntmps124
   go_upto_region 1 with(fail)
   generalize World.alloc _ _=W0 at hD ⊢;obtain⟨q0,q1,q2,q3,q4,q5,q6,q7,q8,q9,qB⟩:=id hD
   go_wp2_with (go_at_call 35;with_reducible refine(HS.out _).mono ?_;rintro _ w' ⟨rfl,hb⟩;replace hD:=hD.later (by first|exact hb|exact bt (aAL _ _).drew hb|exact bt (aAL _ _).drew.drew hb|exact bt (aAL _ _).drew.drew.drew hb);clear hb;obtain⟨q0,q1,q2,q3,q4,q5,q6,q7,q8,q9,qB⟩:=id hD)
   go_loopw [3,4] (fun v i wr=> ∃k:Nat,k<=12/\i=.int .i64 ((k:Int)+1)/\wr.ownsRow w'.heap.size 3 1 v (dV d.mo k).length ((dV d.mo k).map (Value.int .i64))/\Below w'.heap.size w' wr) (fun _ i _=>13 - (intOf i).toNat)
   case atStart=>exact⟨0,aKS _,rfl,aVV _ _ _ _,aAL _ _⟩
   case round=>
    obtain⟨k,hk,rfl,hown,hb⟩:=hrel;clear q0 q1 q2 q3 q4 q5 q6 q7 q8 q9 qB
    by_cases hlt:k<12
    . have hle:=aDD d.mo k;have hD2:=hD.later hb;obtain⟨q0,q1,q2,q3,q4,q5,q6,q7,q8,q9,qB⟩:=id hD2
      cases ha:jD d.mo ((k:Int)+1)
      . as_aux_lemma=>
         have HA:=GK (fun w=>HT.out k hlt 0 (by rw[ha];rfl) w);have HE:=GK (MZ ha);have HO:=GK hown;have HB:=GK hb;clear ha hown hb
         go_wp2_with (go_at_call 123;with_reducible refine(HA.out _).mono ?_;rintro _ w2 ⟨rfl,hb⟩)
         have HB2:=GK (bt HB.out hb);have hO2:=GK (own_below HO.out hb)
         go_roundw
         case rel=>exact⟨k+1,by omega,by go_num,by rw[HE.out];exact hO2.out,HB2.out⟩
         case measure=>simp[intOf];omega
      as_aux_lemma=>
       have HA:=GK (fun w=>HT.out k hlt 1 (by rw[ha];rfl) w);have HE:=GK (EL ha);have HO:=GK hown;have HB:=GK hb;clear ha hown hb
       go_wp2_with (first
        |(go_at_call 123;with_reducible refine(HA.out _).mono ?_;rintro _ w2 ⟨rfl,hb⟩;have hown:=own_below HO.out hb;have hB1:=bt HB.out hb)
        |(at_builtin;refine aUQ _ rfl _ _ 114 rfl w'.heap.size 3 i0 (.int .i64 0) 1 8 Tryz.underlying114 HI.out HZ0.out HZ1.out HZ2.out rfl (by decide) _ _ _ rfl (hown.alloc _) ⟨w2.heap.size,0,none⟩ 1 1 [.int .i64 ((k:Int)+1)] rfl rfl ?c1 ?c2 ?c3 ?c4 ?c5 ?_))
       case c1=>
        intro j u hj
        match j,hj with
        |0,hj=>simp at hj;subst hj;simp[Addr.add]
       case c2=>intro u hu;simp at hu;subst hu;rfl
       case c3=>unfold maxLen;omega
       case c4=>omega
       case c5=>have:=hB1.size;simp;omega
       intro v' w3 hown' hgrow _;have hB2:=(hB1.alloc hB1.size (.cells #[.int .i64 ((k:Int)+1)] 3)).grown hgrow (by have:=hB1.size;simp;omega) (fun j hj=>(hown.lt j hj).1);have hO2:w3.ownsRow w'.heap.size 3 1 v' (dV d.mo (k+1)).length ((dV d.mo (k+1)).map (Value.int .i64)):=by rw[HE.out];simpa using hown'
       replace hB2:=GK hB2;replace hO2:=GK hO2;clear hown' hgrow hown hB1
       go_wp2
       go_roundw
       case rel=>exact⟨k+1,by omega,by go_num,hO2.out,hB2.out⟩
       case measure=>simp[intOf];omega
    as_aux_lemma=>
     obtain rfl:k=12:=by omega
     have hS:=bD.own hown SN.out;have HB:=GK (bt hD.below hb);replace hS:=GK hS;clear hown hb HT
     go_wp2
     go_ret
     exact⟨_,rfl,hS.out,HB.out⟩
 have x0:=V3 h2;rw[Dt.BF h1 h2];clear hbd h1 h2 hf HS
 go_enter Tryz.func124,Tryz.ntmps124
 go_upto_region 1 with(fail)
 generalize World.alloc _ _=W0 at hD ⊢;obtain⟨q0,q1,q2,q3,q4,q5,q6,q7,q8,q9,qB⟩:=id hD
 go_wp2_with fail
 go_ret
 exact⟨_,rfl,bD.lit (w:=w) 0,ba hD.below _⟩
end Bk
end
section
open Go.RowKit Go.Lib
namespace Bk
open Un (ba bt ri rb aU bF)
def Dt.yl(d:Dt)(y m:Int):List Int:=if d.da.size=0 then[0]else dV d.da (Cal.len y m).toNat
def aTO(y m k:Int):List Value:=[.int .i64 y,.int .i64 m,.int .i64 k]
def tX(y m:Int)(l:List Int):List Value:=l.flatMap fun k=>aTO y m k
def Dt.qV(d:Dt)(y:Int)(ms:List Int):Nat:=(ms.map fun m=>(d.yl y m).length).sum
def Dt.qX(d:Dt)(y:Int)(ms:List Int):List Value:=ms.flatMap fun m=>tX y m (d.yl y m)
theorem ZI(y m:Int)(l:List Int)(k:Int):tX y m (l++[k])=tX y m l++aTO y m k:=by unfold tX;rw[List.flatMap_append];simp
theorem Dt.aEe(d:Dt)(y:Int)(ms:List Int)(m:Int):d.qV y (ms++[m])=d.qV y ms+(d.yl y m).length:=by unfold Dt.qV;simp
theorem Dt.XB(d:Dt)(y:Int)(ms:List Int)(m:Int):d.qX y (ms++[m])=d.qX y ms++tX y m (d.yl y m):=by unfold Dt.qX;rw[List.flatMap_append];simp
theorem aIV{d:Dt}{y m k:Int}:k ∈ d.yl y m↔(k ∈ d.ds/\k<=d.len y m):=by
 have hl:=Cal.dJ y m;unfold Dt.yl Dt.len Dt.ds
 by_cases c:d.da.size=0
 . rw[aFV c,aFV c,aFV c];simp;omega
 rw[aB9 c,aB9 c,aB9 c,eY,eY];constructor
 . rintro⟨h1,h2,h3⟩;exact⟨⟨h1,by omega,h3⟩,by omega⟩
 rintro⟨⟨h1,h2,h3⟩,h4⟩;exact⟨h1,by omega,h3⟩
theorem aCT(d:Dt)(y:Int): ∀ms:List Int,d.qV y ms<=31 * ms.length
 |[]=>aKS _
 | m::r=>by
  have:=aCT d y r;have h2:(d.yl y m).length<=31:=by
   unfold Dt.yl
   split
   . simp
   have:=oW d.da (Cal.len y m).toNat;have:=Cal.dJ y m;omega
  unfold Dt.qV at *;simp at *;omega
theorem aHX{w:World}{base base':Nat}{e:TypeId}{size:Nat}{v:Value}{n:Nat}{xs:List Value}(h:w.ownsRow base e size v n xs)(hb:base'<=base):w.ownsRow base' e size v n xs:=
 ⟨h.1,h.2.imp id fun⟨g,cap,cur,h1,h2,h3⟩=>⟨g,cap,cur,h1,aI6 hb h2,h3⟩⟩
theorem aJe:(Tryz.prog.info? 112).map (fun i=>(i.zero,i.size,i.bytes))=some (some (.agg #[.int .i64 0,.int .i64 0,.int .i64 0]),3,24):=by kernel_rfl
def aUa(d:Dt)(y:Int)(w:World)(e:Ending)(w':World):Prop:= ∃v,e=.returned v/\w'.ownsRow w.heap.size 112 3 v (d.qV y d.ms) (d.qX y d.ms)/\Below w.heap.size w w'
theorem aLV (d:Dt) (y:Int) (w:World) (hf:d.form=0):
 Calls Tryz.prog 99 #[aW d,.int .i64 y] w (aUa d y w):=by
 have hD:=Dm.new d w 37;have HM:=GK (fun w=>YE d w hf);have hmm:=GK (fmm hf);have hml:=d.UY;unfold aW at HM;unfold aW;obtain⟨i0,hi,hz0,hz1,hz2⟩:=info_parts aJe;have HI:=GK hi;have HZ0:=GK hz0;have HZ1:=GK hz1;have HZ2:=GK hz2;clear hi hz0 hz1 hz2 hf
 go_enter Tryz.func99,Tryz.ntmps99
 go_upto_region 1 with(fail)
 generalize World.alloc _ _=W0 at hD ⊢;obtain⟨q0,q1,q2,q3,q4,q5,q6,q7,q8,q9,qB⟩:=id hD
 go_wp2_with (go_at_call 124;refine(HM.out _).mono ?_;rintro _ w1 ⟨mv,rfl,hm,hb⟩;replace hD:=hD.later hb;clear hb)
 clear HM;obtain⟨gm,cm,rfl,hg,hc⟩:=hm;have HC:=GK hc;clear hc q0 q1 q2 q3 q4 q5 q6 q7 q8 q9 qB;have HW1:=GK hD.below
 go_loopw [5,7] (fun v i wr=> ∃k:Nat,k<=d.ms.length/\i=.int .i64 k/\wr.ownsRow w1.heap.size 112 3 v (d.qV y (d.ms.take k)) (d.qX y (d.ms.take k))/\Below w1.heap.size w1 wr) (fun _ i _=>14 - (intOf i).toNat)
 case atStart=>exact⟨0,aKS _,rfl,aVV _ _ _ _,aAL _ _⟩
 case round =>
  obtain⟨k,hk,rfl,hown,hb⟩:=hrel;have hD2:=hD.later hb;obtain⟨q0,q1,q2,q3,q4,q5,q6,q7,q8,q9,qB⟩:=id hD2
  by_cases hlt:k<d.ms.length
  . have hcell:wr.cell? ⟨gm,k,none⟩=some (.int .i64 (d.ms[k]'hlt)):=(hb.cell (p:=⟨gm,k,none⟩) hg).trans (HC.out k hlt);have htk:d.ms.take (k+1)=d.ms.take k++[d.ms[k]'hlt]:=by rw[aVT hlt]
    have HL1:=GK (htk ▸ d.aEe y (d.ms.take k) (d.ms[k]'hlt):d.qV y (d.ms.take (k+1))=d.qV y (d.ms.take k)+(d.yl y (d.ms[k]'hlt)).length);have HL2:=GK (htk ▸ d.XB y (d.ms.take k) (d.ms[k]'hlt):d.qX y (d.ms.take (k+1))=d.qX y (d.ms.take k)++tX y (d.ms[k]'hlt) (d.yl y (d.ms[k]'hlt)));have hle:=aCT d y (d.ms.take k);have htl:(d.ms.take k).length<=k:=List.length_take_le _ _;have aQt:=fun h=>hmm.out h (d.ms[k]'hlt) (aRV hlt);generalize d.qV y (d.ms.take k)=N0 at *;generalize d.qX y (d.ms.take k)=C0 at *;have HM0:=GK (HC.out k hlt);generalize (d.ms[k]'hlt)=m at *;clear htk;rcases fA d.da with⟨e1,x1⟩|⟨e1,x1⟩
    . have eyl:d.yl y m=[0]:=by unfold Dt.yl;rw[aFV e1]
      rw[eyl]at HL1 HL2;have HB:=GK hb;clear eyl aQt e1 hb
      as_aux_lemma=>
       go_wp2_with (at_builtin;refine aUQ _ rfl _ _ 125 rfl w1.heap.size 112 i0 (.agg #[.int .i64 0,.int .i64 0,.int .i64 0]) 3 24 Tryz.underlying125 HI.out HZ0.out HZ1.out HZ2.out rfl (by decide) _ _ _ rfl (hown.alloc _) ⟨wr.heap.size,0,none⟩ 1 1 [.int .i64 y,.int .i64 m,.int .i64 0] rfl rfl ?c1 ?c2 ?c3 ?c4 ?c5 ?_)
       case c1=>
        intro j u hj
        match j,hj with
        |0,hj=>simp at hj;subst hj;simp[Addr.add]
        |1,hj=>simp at hj;subst hj;simp[Addr.add]
        |2,hj=>simp at hj;subst hj;simp[Addr.add]
       case c2=>intro u hu;simp at hu;rcases hu with rfl|rfl|rfl<;>rfl
       case c3=>unfold maxLen;omega
       case c4=>omega
       case c5=>have:=HB.out.size;simp;omega
       intro v' w3 hown' hgrow _;have hB2:=(HB.out.alloc HB.out.size (.cells #[.int .i64 y,.int .i64 m,.int .i64 0] 112)).grown hgrow (by have:=HB.out.size;simp;omega) (fun j hj=>(hown.lt j hj).1);have hO2:w3.ownsRow w1.heap.size 112 3 v' (d.qV y (d.ms.take (k+1))) (d.qX y (d.ms.take (k+1))):=by rw[HL1.out,HL2.out];exact hown'
       replace hB2:=GK hB2;replace hO2:=GK hO2;clear hown' hgrow hown
       go_wp2
       go_roundw
       case rel=>exact⟨k+1,by omega,by go_num,hO2.out,hB2.out⟩
       case measure=>simp[intOf];omega
    obtain ⟨m0,m12⟩:=aQt e1;have eyl:d.yl y m=dV d.da (Cal.len y m).toNat:=by unfold Dt.yl;rw[aB9 e1]
    have hlb:=Cal.dJ y m;have HLen:=GK (fun w=>aHQ y m w m0 m12);rw[eyl]at HL1 HL2;have HT:=GK (fun(j:Nat) (hj:j<31) (x:Int) (hx:x=if jD d.da ((j:Int)+1)then 1 else 0) w=>(by rw[hx];exact vW d.da (j+1) w (by omega):Calls Tryz.prog 123 #[.string d.da,.int .i64 ((j:Int)+1)] w fun r w'=>r=.returned (.int .i64 x)/\Below w.heap.size w w'));obtain⟨L,hL⟩: ∃L:Nat,Cal.len y m=L:=⟨(Cal.len y m).toNat,by omega⟩;rw[hL]at HLen HL1 HL2 hlb;rw[aPS]at HL1 HL2;clear eyl aQt e1 hL m0 m12;have HB:=GK hb;clear hb
    go_wp2
    clear q0 q1 q2 q3 q4 q5 q6 q7 q8 q9 qB
    go_loopw [5,8] (fun v i wr2=> ∃j:Nat,j<=L/\i=Value.int .i64 ((j:Int)+1)/\wr2.ownsRow w1.heap.size 112 3 v (N0+(dV d.da j).length) (C0++tX y m (dV d.da j))/\Below w1.heap.size w1 wr2) (fun _ i _=>33 - (intOf i).toNat)
    case atStart=>exact⟨0,aKS _,rfl,by simpa[dV,tX]using hown,HB.out⟩
    case round=>
     obtain⟨j,hj,rfl,hown,hb⟩:=hrel;have hD2:=hD.later hb;obtain⟨q0,q1,q2,q3,q4,q5,q6,q7,q8,q9,qB⟩:=id hD2;have hcell:wr.cell? ⟨gm,k,none⟩=some (.int .i64 m):=by exact(hb.cell (p:=⟨gm,k,none⟩) hg).trans HM0.out
     by_cases hlt2:j<L
     . have hle2:=oW d.da j
       cases ha:jD d.da ((j:Int)+1)
       . have HA:=GK (fun w=>HT.out j (by omega) 0 (by rw[ha];rfl) w);have HE:=GK (MZ ha);have HO:=GK hown;have HB3:=GK hb;clear ha hown hb
         as_aux_lemma=>
          go_wp2_with (first
           |(go_at_call 125;with_reducible refine(HLen.out _).mono ?_;rintro _ w' ⟨rfl,rfl⟩)
           |(go_at_call 123;with_reducible refine(HA.out _).mono ?_;rintro _ w4 ⟨rfl,hb⟩))
          have HB4:=GK (bt HB3.out hb);have hO2:=GK (own_below HO.out hb)
          go_roundw
          case rel=>exact⟨j+1,by omega,by go_num,by rw[HE.out];exact hO2.out,HB4.out⟩
          case measure=>simp[intOf];omega
       have HA:=GK (fun w=>HT.out j (by omega) 1 (by rw[ha];rfl) w);have HE:=GK (EL ha);have HO:=GK hown;have HB3:=GK hb;clear ha hown hb
       as_aux_lemma=>
        go_wp2_with (first
         |(go_at_call 125;with_reducible refine(HLen.out _).mono ?_;rintro _ w' ⟨rfl,rfl⟩)
         |(go_at_call 123;with_reducible refine(HA.out _).mono ?_;rintro _ w4 ⟨rfl,hb⟩;have hown:=own_below HO.out hb;have hB1:=bt HB3.out hb;have hcell2:w4.cell? ⟨gm,k,none⟩=some (.int .i64 m):=(hB1.cell (p:=⟨gm,k,none⟩) hg).trans HM0.out)
         |(at_builtin;refine aUQ _ rfl _ _ 125 rfl w1.heap.size 112 i0 (.agg #[.int .i64 0,.int .i64 0,.int .i64 0]) 3 24 Tryz.underlying125 HI.out HZ0.out HZ1.out HZ2.out rfl (by decide) _ _ _ rfl (hown.alloc _) ⟨w4.heap.size,0,none⟩ 1 1 [.int .i64 y,.int .i64 m,.int .i64 ((j:Int)+1)] rfl rfl ?c1 ?c2 ?c3 ?c4 ?c5 ?_))
        case c1=>
         intro j u hj
         match j,hj with
         |0,hj=>simp at hj;subst hj;simp[Addr.add]
         |1,hj=>simp at hj;subst hj;simp[Addr.add]
         |2,hj=>simp at hj;subst hj;simp[Addr.add]
        case c2=>intro u hu;simp at hu;rcases hu with rfl|rfl|rfl<;>rfl
        case c3=>unfold maxLen;omega
        case c4=>omega
        case c5=>have:=hB1.size;simp;omega
        intro v' w3 hown' hgrow _;have hB2:=(hB1.alloc hB1.size (.cells #[.int .i64 y,.int .i64 m,.int .i64 ((j:Int)+1)] 112)).grown hgrow (by have:=hB1.size;simp;omega) (fun j hj=>(hown.lt j hj).1);have hO2:w3.ownsRow w1.heap.size 112 3 v' (N0+(dV d.da (j+1)).length) (C0++tX y m (dV d.da (j+1))):=by
         rw[HE.out,ZI,aUi,<-aRt];exact hown'
        replace hB2:=GK hB2;replace hO2:=GK hO2;clear hown' hgrow hown
        go_wp2
        go_roundw
        case rel=>exact⟨j+1,by omega,by go_num,hO2.out,hB2.out⟩
        case measure=>simp[intOf];omega
     obtain rfl:j=L:=by omega
     have hO2:wr.ownsRow w1.heap.size 112 3 u5 (d.qV y (d.ms.take (k+1))) (d.qX y (d.ms.take (k+1))):=by rw[HL1.out,HL2.out];exact hown
     replace hO2:=GK hO2;have HB3:=GK hb;clear hown hb
     as_aux_lemma=>
      go_wp2_with (go_at_call 125;with_reducible refine(HLen.out _).mono ?_;rintro _ w' ⟨rfl,rfl⟩)
      go_roundw
      case rel=>exact⟨k+1,by omega,by go_num,hO2.out,HB3.out⟩
      case measure=>simp[intOf];omega
  obtain rfl:k=d.ms.length:=by omega
  rw[List.take_length]at hown;have HO:=GK (aHX hown HW1.out.size);have HB:=GK (bt HW1.out hb);clear hown hb HC hmm
  go_wp2
  go_ret
  exact⟨_,rfl,HO.out,HB.out⟩
theorem WX{d:Dt}{y:Int}:0<d.qV y d.ms↔ ∃m k,m ∈ d.ms/\k ∈ d.ds/\k<=d.len y m:=by
 unfold Dt.qV;constructor
 . intro h
   by_cases c: ∃m,m ∈ d.ms/\d.yl y m≠[]
   . obtain⟨m,hm,hn⟩:=c;obtain⟨k,hk⟩:=List.exists_mem_of_ne_nil _ hn;exact⟨m,k,hm,aIV.1 hk⟩
   exfalso;have:(d.ms.map fun m=>(d.yl y m).length).sum=0:=by
    have h2: ∀l:List Int,(∀m,m ∈ l->d.yl y m=[])->(l.map fun m=>(d.yl y m).length).sum=0:=by
     intro l
     induction l with
     |nil=>intro _;rfl
     |cons a l ih=>intro h;simp[h a (aG1 ..),ih (fun m hm=>h m (aHg _ hm))]
    exact h2 d.ms (fun m hm=>by
     cases e:d.yl y m with
     |nil=>rfl
     |cons a l=>exact absurd ⟨m,hm,by rw[e];simp⟩ c)
   omega
 rintro⟨m,k,hm,hk⟩;have hk:=aIV.2 hk;have h2: ∀l:List Int,m ∈ l->0<(l.map fun m=>(d.yl y m).length).sum:=by
  intro l
  induction l with
  |nil=>intro h;cases h
  |cons a l ih=>
   intro h;rcases aG4.1 h with rfl|h
   . have:0<(d.yl y m).length:=List.length_pos_of_mem hk;simp;omega
   have:=ih h;simp;omega
 exact h2 d.ms hm
theorem aEZ{w:World}{base:Nat}{e:TypeId}{size:Nat}{v:Value}{n:Nat}{xs:List Value}(h:w.ownsRow base e size v n xs): ∃bs cp,v=.slice bs n cp:=by
 rcases h.2 with⟨rfl,rfl⟩|⟨g,cap,cur,rfl,_⟩
 . exact⟨none,0,rfl⟩
 exact⟨_,_,rfl⟩
theorem YD (d:Dt) (w:World) (hy:d.dg.size<=1000) (hf:d.form=0) (hs:d.sig<=0):
 Calls Tryz.prog 72 #[aW d] w (aOJ (∃y m k,d.Fill y m k) w):=by
 have hk:=(Dt.iD (Dt.kN hf).1).1;have hD:=Dm.new d w 37;have HSP:=GK (fun w=>aES d w hy hk hs);have HIN:=GK (fun y w h0 h1=>aLX d y w hy hk hs h0 h1);have HYL:=GK (fun y w=>aLV d y w hf);unfold yv at HSP HIN;unfold aW at HYL;unfold aW;obtain⟨P,hP⟩: ∃P:Prop,P= ∃y m k,d.Fill y m k:=⟨_,rfl⟩;rw[<-hP];have HP1:Hid (∀y,d.In y->0<d.qV y d.ms->P):=GK (fun y h1 h2=>by
  obtain⟨m,k,hm,hk⟩:=WX.1 h2;rw[hP];exact⟨y,m,k,h1,hm,hk⟩)
 have HP2:Hid (∀a b:Int,(∀y,d.In y->a<=y/\y<=b)->(∀y,a<=y->y<=b->d.In y->d.qV y d.ms=0)-> ¬P):=GK (fun a b h1 h2 c=>by
  rw[hP]at c;obtain⟨y,m,k,f1,f2,f3⟩:=c;have:=h1 y f1;have h0:=h2 y this.1 this.2 f1;have:=WX.2 ⟨m,k,f2,f3⟩;omega)
 clear hP hk hf
 go_enter Tryz.func72,Tryz.ntmps72
 go_upto_region 1 with(fail)
 generalize World.alloc _ _=W0 at hD ⊢;obtain⟨q0,q1,q2,q3,q4,q5,q6,q7,q8,q9,qB⟩:=id hD
 go_wp2_with (go_at_call 97;refine(HSP.out _).mono ?_;rintro _ w1 ⟨a,b,hab,a0,b0,rfl,hb⟩;replace hD:=hD.later hb;clear hb)
 have HAB:=GK hab;clear hab q0 q1 q2 q3 q4 q5 q6 q7 q8 q9 qB HSP
 go_loopw [5] (fun i wr=> ∃y:Int,a<=y/\(y<=b+1\/y=a)/\i=.int .i64 y/\(∀z,a<=z->z<y->d.In z->d.qV z d.ms=0)/\Dm w.heap.size d w wr) (fun i _=>(b+1 - intOf i).toNat)
 case atStart=>exact⟨a,by omega,.inr rfl,rfl,fun z h1 h2=>by omega,hD⟩
 case round=>
  obtain⟨y,hy0,hy1,rfl,hz,hD⟩:=hrel;obtain⟨q0,q1,q2,q3,q4,q5,q6,q7,q8,q9,qB⟩:=id hD;have HZ:=GK hz;clear hz
  by_cases hlt:y<=b
  . have HI:=GK (fun w=>HIN.out y w (by omega) (by omega))
    by_cases hi:d.In y
    . have HI2:Hid (∀w,Calls Tryz.prog 98 #[.agg #[.bool d.neg,.bool d.long,.string d.dg,.int .i64 d.ex,.int .i64 d.sig],.int .i64 y] w fun r w'=>r=.returned (.int .i64 1)/\Below w.heap.size w w'):=GK (fun w=>by
       refine(HI.out w).mono ?_;rintro e w' ⟨x,⟨rfl,_⟩|⟨rfl,h⟩,rfl,hb⟩
       . exact⟨rfl,hb⟩
       exact absurd hi h)
      have hL: ∀w,Calls Tryz.prog 99 #[.agg #[.bool d.neg,.bool d.long,.string d.dg,.int .i64 d.ex,.int .i64 d.sig,.string d.mo,.string d.da,.int .u8 d.m0,.int .u8 d.m1,.int .u8 d.m2],.int .i64 y] w fun r w'=>(∃bs cp,r=.returned (.slice bs (d.qV y d.ms) cp))/\Below w.heap.size w w':=fun w=>by
       refine(HYL.out y w).mono ?_;rintro e w' ⟨v,rfl,hown,hb⟩;obtain⟨bs,cp,rfl⟩:=aEZ hown;exact⟨⟨bs,cp,rfl⟩,hb⟩
      by_cases hn:d.qV y d.ms=0
      . rw[hn]at hL;have HL:=GK hL;have HN:=GK hn;clear hL hn HI HYL HIN
        as_aux_lemma=>
         go_wp2_with (first
          |(go_at_call 98;with_reducible refine(HI2.out _).mono ?_;rintro _ w2 ⟨rfl,hb⟩;replace hD:=hD.later (by first|exact hb|exact bt (aAL _ _).drew hb|exact bt (aAL _ _).drew.drew hb|exact bt (aAL _ _).drew.drew.drew hb);clear hb;obtain⟨q0,q1,q2,q3,q4,q5,q6,q7,q8,q9,qB⟩:=id hD)
          |(go_at_call 99;with_reducible refine(HL.out _).mono ?_;rintro _ w3 ⟨⟨bs,cp,rfl⟩,hb⟩;replace hD:=hD.later (by first|exact hb|exact bt (aAL _ _).drew hb|exact bt (aAL _ _).drew.drew hb|exact bt (aAL _ _).drew.drew.drew hb);clear hb;obtain⟨q0,q1,q2,q3,q4,q5,q6,q7,q8,q9,qB⟩:=id hD))
         go_roundw
         case rel=>exact⟨y+1,by omega,.inl (by omega),by go_num,fun z h1 h2 h3=>by
          by_cases e:z=y
          . subst e;exact HN.out
          exact HZ.out z h1 (by omega) h3,hD⟩
         case measure=>simp[intOf];omega
      have HPP:=GK (HP1.out y hi (by omega));obtain⟨N,hN⟩: ∃N,d.qV y d.ms=N+1:=⟨d.qV y d.ms - 1,by omega⟩;rw[hN]at hL;have HL:=GK hL;clear hL hn HI HYL HIN hN
      as_aux_lemma=>
       go_wp2_with (first
        |(go_at_call 98;with_reducible refine(HI2.out _).mono ?_;rintro _ w2 ⟨rfl,hb⟩;replace hD:=hD.later (by first|exact hb|exact bt (aAL _ _).drew hb|exact bt (aAL _ _).drew.drew hb|exact bt (aAL _ _).drew.drew.drew hb);clear hb;obtain⟨q0,q1,q2,q3,q4,q5,q6,q7,q8,q9,qB⟩:=id hD)
        |(go_at_call 99;with_reducible refine(HL.out _).mono ?_;rintro _ w3 ⟨⟨bs,cp,rfl⟩,hb⟩;replace hD:=hD.later (by first|exact hb|exact bt (aAL _ _).drew hb|exact bt (aAL _ _).drew.drew hb|exact bt (aAL _ _).drew.drew.drew hb);clear hb;obtain⟨q0,q1,q2,q3,q4,q5,q6,q7,q8,q9,qB⟩:=id hD))
       all_goals first
        |(go_ret;exact⟨1,.inl ⟨rfl,HPP.out⟩,rfl,hD.below⟩)
        |(exfalso;omega)
    have HI2:Hid (∀w,Calls Tryz.prog 98 #[.agg #[.bool d.neg,.bool d.long,.string d.dg,.int .i64 d.ex,.int .i64 d.sig],.int .i64 y] w fun r w'=>r=.returned (.int .i64 0)/\Below w.heap.size w w'):=GK (fun w=>by
     refine(HI.out w).mono ?_;rintro e w' ⟨x,⟨rfl,h⟩|⟨rfl,_⟩,rfl,hb⟩
     . exact absurd h hi
     exact⟨rfl,hb⟩)
    have HN:=GK hi;clear HI HYL HIN hi
    as_aux_lemma=>
     go_wp2_with (go_at_call 98;with_reducible refine(HI2.out _).mono ?_;rintro _ w2 ⟨rfl,hb⟩;replace hD:=hD.later (by first|exact hb|exact bt (aAL _ _).drew hb|exact bt (aAL _ _).drew.drew hb|exact bt (aAL _ _).drew.drew.drew hb);clear hb;obtain⟨q0,q1,q2,q3,q4,q5,q6,q7,q8,q9,qB⟩:=id hD)
     go_roundw
     case rel=>exact⟨y+1,by omega,.inl (by omega),by go_num,fun z h1 h2 h3=>by
      by_cases e:z=y
      . subst e;exact absurd h3 HN.out
      exact HZ.out z h1 (by omega) h3,hD⟩
     case measure=>simp[intOf];omega
  have HNP:=GK (HP2.out a b HAB.out (fun z h1 h2 h3=>HZ.out z h1 (by omega) h3));clear HZ HAB HYL HIN
  as_aux_lemma=>
   go_wp2
   go_ret
   exact⟨0,.inr ⟨rfl,HNP.out⟩,rfl,hD.below⟩
theorem UL(d:Dt)(w:World)(hy:d.dg.size<=1000)(s0: -9223372036854775808<=d.sig)(s1:d.sig<9223372036854775808)(m0:0<=d.m0)(m1:0<=d.m1)(m2:0<=d.m2):
 Calls Tryz.prog 45 #[aW d] w fun r w'=>r=.returned (.int .i64 d.err)/\Below w.heap.size w w':=by
 have hD:=Dm.new d w 37;have HC:=GK (fun w=>YG d w hy s0 s1 m0 m1 m2);unfold aW at HC;obtain⟨R,hR⟩: ∃R,R=d.err:=⟨_,rfl⟩;rw[<-hR];unfold aW
 by_cases hf:d.form=0
 case neg=>
  rw[wU hf]at hR;rw[<-hR]at HC hf;clear hR
  go_enter Tryz.func45,Tryz.ntmps45
  go_upto_region 1 with(fail)
  generalize World.alloc _ _=W0 at hD ⊢;obtain⟨q0,q1,q2,q3,q4,q5,q6,q7,q8,q9,qB⟩:=id hD
  go_wp2_with (go_at_call 71;with_reducible refine(HC.out _).mono ?_;rintro _ w' ⟨rfl,hb⟩;replace hD:=hD.later (by first|exact hb|exact bt (aAL _ _).drew hb|exact bt (aAL _ _).drew.drew hb|exact bt (aAL _ _).drew.drew.drew hb);clear hb;obtain⟨q0,q1,q2,q3,q4,q5,q6,q7,q8,q9,qB⟩:=id hD)
  go_ret
  exact⟨rfl,hD.below⟩
 rw[hf]at HC;rcases fA d.da with⟨c,x⟩|⟨c,x⟩
 case inl=>
  rw[SE hf c]at hR;subst hR;clear c hf
  go_enter Tryz.func45,Tryz.ntmps45
  go_upto_region 1 with(fail)
  generalize World.alloc _ _=W0 at hD ⊢;obtain⟨q0,q1,q2,q3,q4,q5,q6,q7,q8,q9,qB⟩:=id hD
  go_wp2_with (go_at_call 71;with_reducible refine(HC.out _).mono ?_;rintro _ w' ⟨rfl,hb⟩;replace hD:=hD.later (by first|exact hb|exact bt (aAL _ _).drew hb|exact bt (aAL _ _).drew.drew hb|exact bt (aAL _ _).drew.drew.drew hb);clear hb;obtain⟨q0,q1,q2,q3,q4,q5,q6,q7,q8,q9,qB⟩:=id hD)
  go_ret
  exact⟨rfl,hD.below⟩
 have hsg:d.sig<=0:=by
  have:=(Dt.iD (Dt.kN hf).1).2.1
  by_cases g:0<d.sig
  . exact absurd (fmd hf (this g)) c
  omega
 have hS:=fun w=>YD d w hy hf hsg;unfold aW at hS
 by_cases hP: ∃y m k,d.Fill y m k
 . have HS:Hid (∀w,Calls Tryz.prog 72 #[.agg #[.bool d.neg,.bool d.long,.string d.dg,.int .i64 d.ex,.int .i64 d.sig,.string d.mo,.string d.da,.int .u8 d.m0,.int .u8 d.m1,.int .u8 d.m2]] w fun r w'=>r=.returned (.int .i64 1)/\Below w.heap.size w w'):=GK (fun w=>by
    refine(hS w).mono ?_;rintro e w' ⟨x,⟨rfl,_⟩|⟨rfl,h⟩,rfl,hb⟩
    . exact⟨rfl,hb⟩
    exact absurd hP h)
   have hR0:R=0:=by rw[hR];unfold Dt.err;rw[aB9 (by omega),aB9 (fun h=>h.2 hP)]
   subst hR0;clear hS hR hP hf c
   go_enter Tryz.func45,Tryz.ntmps45
   go_upto_region 1 with(fail)
   generalize World.alloc _ _=W0 at hD ⊢;obtain⟨q0,q1,q2,q3,q4,q5,q6,q7,q8,q9,qB⟩:=id hD
   go_wp2_with (first|(go_at_call 71;with_reducible refine(HC.out _).mono ?_;rintro _ w' ⟨rfl,hb⟩;replace hD:=hD.later (by first|exact hb|exact bt (aAL _ _).drew hb|exact bt (aAL _ _).drew.drew hb|exact bt (aAL _ _).drew.drew.drew hb);clear hb;obtain⟨q0,q1,q2,q3,q4,q5,q6,q7,q8,q9,qB⟩:=id hD)|(go_at_call 72;with_reducible refine(HS.out _).mono ?_;rintro _ w' ⟨rfl,hb⟩;replace hD:=hD.later (by first|exact hb|exact bt (aAL _ _).drew hb|exact bt (aAL _ _).drew.drew hb|exact bt (aAL _ _).drew.drew.drew hb);clear hb;obtain⟨q0,q1,q2,q3,q4,q5,q6,q7,q8,q9,qB⟩:=id hD))
   go_ret
   exact⟨rfl,hD.below⟩
 have HS:Hid (∀w,Calls Tryz.prog 72 #[.agg #[.bool d.neg,.bool d.long,.string d.dg,.int .i64 d.ex,.int .i64 d.sig,.string d.mo,.string d.da,.int .u8 d.m0,.int .u8 d.m1,.int .u8 d.m2]] w fun r w'=>r=.returned (.int .i64 0)/\Below w.heap.size w w'):=GK (fun w=>by
  refine(hS w).mono ?_;rintro e w' ⟨x,⟨rfl,h⟩|⟨rfl,_⟩,rfl,hb⟩
  . exact absurd h hP
  exact⟨rfl,hb⟩)
 have hR0:R=8:=by rw[hR];unfold Dt.err;rw[aB9 (by omega),aFV ⟨c,hP⟩]
 subst hR0;clear hS hR hP hf c
 go_enter Tryz.func45,Tryz.ntmps45
 go_upto_region 1 with(fail)
 generalize World.alloc _ _=W0 at hD ⊢;obtain⟨q0,q1,q2,q3,q4,q5,q6,q7,q8,q9,qB⟩:=id hD
 go_wp2_with (first|(go_at_call 71;with_reducible refine(HC.out _).mono ?_;rintro _ w' ⟨rfl,hb⟩;replace hD:=hD.later (by first|exact hb|exact bt (aAL _ _).drew hb|exact bt (aAL _ _).drew.drew hb|exact bt (aAL _ _).drew.drew.drew hb);clear hb;obtain⟨q0,q1,q2,q3,q4,q5,q6,q7,q8,q9,qB⟩:=id hD)|(go_at_call 72;with_reducible refine(HS.out _).mono ?_;rintro _ w' ⟨rfl,hb⟩;replace hD:=hD.later (by first|exact hb|exact bt (aAL _ _).drew hb|exact bt (aAL _ _).drew.drew hb|exact bt (aAL _ _).drew.drew.drew hb);clear hb;obtain⟨q0,q1,q2,q3,q4,q5,q6,q7,q8,q9,qB⟩:=id hD))
 go_ret
 exact⟨rfl,hD.below⟩
end Bk
end
section
open Go.RowKit Go.Lib
namespace Sk
open Un (ba bt ri rb aI)
open Bk (Rw Dt aW hasB aY lW)
open Ev (aV dQ hp)
theorem aDw(p d:Int):0<=(aI p d).2.2:=by
 unfold aI Un.kS
 (repeat' split)<;>simp
theorem aQF(k:Int)(n:Nat)(p a b sig c16 xx JC c10 be bf:Int)(zd zr zm zu zv X:Bool)(hc16:0<=c16)(hsig:c16=0->0<=sig)(hxx:xx=if X=true then 1 else 0)(h09:0<=JC)(hrt:JC=0->(a= -1\/a=0)/\(b=0\/b=1))(hbe:0<=be)(hbf:0<=bf):
 (cond (decide (k<1)) (.int .i64 (18)) (cond (decide (5<k)) (.int .i64 (18)) (cond (k==1) (cond (k==2) (.bool false) (cond zd (cond (k==3) (.bool false) (cond (p==0) (cond (decide (k<3)) (cond zr (cond (((n:Nat):Int)==0) (.int .i64 (17)) (.int .i64 c10)) (.int .i64 (5))) (.bool false)) (.int .i64 (5)))) (.int .i64 (5)))) (cond (decide (0<((n:Nat):Int))) (.int .i64 (5)) (cond (k==2) (cond (k==3) (.bool false) (cond (p==0) (cond (decide (k<3)) (cond zr (cond (decide (0<c16)) (.int .i64 c16) (cond (decide (0<sig)) (.int .i64 (1)) (cond (xx==0) (.int .i64 (1)) (cond zm (.int .i64 (0)) (.int .i64 (1)))))) (.int .i64 (5))) (.bool false)) (.int .i64 (5)))) (cond zd (cond (k==3) (cond (decide (k<3)) (.bool false) (cond (decide (p<1)) (.int .i64 (18)) (cond (decide (3<p)) (.int .i64 (18)) (cond (decide (0<JC)) (.int .i64 (1)) (cond (a==0) (cond (decide (0<be)) (.int .i64 (1)) (cond zu (cond (b==0) (cond (decide (0<bf)) (.int .i64 (1)) (cond zv (.int .i64 (0)) (.int .i64 (1)))) (.int .i64 (0))) (.int .i64 (1)))) (cond (b==0) (cond (decide (0<bf)) (.int .i64 (1)) (cond zv (.int .i64 (0)) (.int .i64 (1)))) (.int .i64 (1)))))))) (cond (p==0) (cond (decide (k<3)) (.bool false) (cond (decide (0<JC)) (.int .i64 (1)) (cond (k==4) (cond (a==0) (.int .i64 (1)) (cond (b==0) (cond (k==5) (.bool false) (.int .i64 (0))) (.int .i64 (1)))) (cond (k==5) (cond (a==0) (cond (b==0) (.int .i64 (1)) (.int .i64 (0))) (.int .i64 (1))) (.bool false))))) (.int .i64 (5)))) (.int .i64 (5))))))))=Value.int .i64 (IE k n p a b (qI k (decide (n=0)) zd (p==0) zr) c10 JC c16 sig X zm (!(decide (a≠0)&&decide (b≠0))&&decide (JC=0)&&(decide (a≠0)||(decide (be=0)&&zu))&&(decide (b≠0)||(decide (bf=0)&&zv)))):=by
 have e0:(((n:Nat):Int)==0)=decide (n=0):=by rw[aKX];simp
 have e1:decide (0<((n:Nat):Int))= !decide (n=0):=by rw[aKX];simp;omega
 rw[e0,e1];have hN: ∃N,N=decide (n=0):=⟨_,rfl⟩;obtain⟨N,hN⟩:=hN;have hn:(n=0)↔N=true:=by rw[hN];simp
 rw[<-hN];obtain⟨Q,hQ⟩: ∃Q,Q=(p==0):=⟨_,rfl⟩;have hq:(p=0)↔Q=true:=by rw[hQ];simp
 rw[<-hQ];clear e0 e1 hN hQ;unfold IE qI;have hk:k<1\/5<k\/k=1\/k=2\/k=3\/k=4\/k=5:=by omega
 rcases hk with h|h|rfl|rfl|rfl|rfl|rfl
 . rw[aFV (.inl h),aAP h];rfl
 . rw[aFV (.inr h),aAP h,aCw (by omega)];rfl
 . rw[aB9 (by omega)]
   cases zd<;>cases zr<;>cases N<;>cases Q<;>simp_all
 . rw[aB9 (by omega)];have e1:decide (0<c16)= !decide (c16=0):=by rw[aKX];simp;omega
   rw[e1]
   by_cases hc:c16=0
   . have e2:decide (0<sig)= !decide (sig=0):=by have:=hsig hc;rw[aKX];simp;omega
     rw[e2]
     by_cases hs:sig=0<;>cases X<;>cases zm<;>cases zd<;>cases zr<;>cases N<;>cases Q<;>simp_all
   cases zd<;>cases zr<;>cases N<;>cases Q<;>simp_all
 . rw [aB9 (by omega)];have e1:decide (0<JC)= !decide (JC=0):=by rw[aKX];simp;omega
   have e2:decide (0<be)= !decide (be=0):=by rw[aKX];simp;omega
   have e3:decide (0<bf)= !decide (bf=0):=by rw[aKX];simp;omega
   rw[e1,e2,e3]
   by_cases h1:p<1
   . cases zd<;>cases N<;>simp_all
   by_cases h2:3<p
   . cases zd<;>cases N<;>simp_all
   have d1:=aCw h1;have d2:=aCw h2;have o:(p<1\/3<p)=False:=eq_false (by omega);rw[d1,d2];simp only[o,aRv];clear d1 d2 o h1 h2 hq
   cases zd
   . cases N<;>simp_all
   cases N
   . simp_all
   by_cases g1:JC=0
   . by_cases g2:a=0<;>by_cases g3:b=0<;>by_cases g4:be=0<;>by_cases g5:bf=0<;>cases zu<;>cases zv<;>simp_all
   simp_all
 . rw[aB9 (by omega)];have e1:decide (0<JC)= !decide (JC=0):=by rw[aKX];simp;omega
   rw[e1]
   by_cases g1:JC=0
   . obtain⟨ha,hb⟩:=hrt g1;rcases ha with rfl|rfl<;>rcases hb with rfl|rfl<;>cases zd<;>cases N<;>cases Q<;>simp_all
   cases zd<;>cases N<;>cases Q<;>simp_all
 rw[aB9 (by omega)];have e1:decide (0<JC)= !decide (JC=0):=by rw[aKX];simp;omega
 rw[e1]
 by_cases g1:JC=0
 . obtain⟨ha,hb⟩:=hrt g1;rcases ha with rfl|rfl<;>rcases hb with rfl|rfl<;>cases zd<;>cases N<;>cases Q<;>simp_all
 cases zd<;>cases N<;>cases Q<;>simp_all
theorem O9(k:Int)(bs:Option Addr)(n cp:Nat)(f:Nat->R4)(d:Dt)(p a lo b hi:Int)(zd zr M:Bool)(w0:World)(hst:aV dQ.g.n dQ.l w0 hp)(h:aK6 k bs n f d p a lo b hi w0)(hk0:0<=k)
 (hd:OU 37 (aW d) (aW z0) zd) (hr:OU 42 (r4 a lo b hi) (r4 0 0 0 0) zr) (hm:OU 26 (.agg #[.int .u8 d.m0,.int .u8 d.m1,.int .u8 d.m2]) (.agg #[.int .u8 0,.int .u8 0,.int .u8 0]) M):
 Same w0 21 #[fam k (.slice bs n cp) d p a lo b hi] (.int .i64 (IE k n p a b (qI k (decide (n=0)) zd (p==0) zr) (mG f n) (dM a lo b hi) d.err d.sig (xX d) M (FY p a lo b hi))):=by
 have hpw:IntKind.i64.wrap p=p:=by rw[aGZ];have:=h.p0;have:=h.p1;omega
 have hep:0<=d.err:=by
  by_cases c:d.err=0
  . omega
  have:=aDJ c;omega
 have hrv:=UE a lo b hi;have hrt:dM a lo b hi=0->(a= -1\/a=0)/\(b=0\/b=1):=fun e=>by
  have g:=vO e;have:=g.low;have:=g.high;omega
 refine fun W hb0=>(aPx k bs n cp d p a lo b hi (mG f n) d.err (if xX d then 1 else 0) (dM a lo b hi) 0 (aI p lo).1 0 (aI p lo).2.1 (aI p lo).2.2 0 (aI p hi).1 0 (aI p hi).2.1 (aI p hi).2.2 zd zr M (decide ((0:Int)=a/\(aI p lo).1=lo)) (decide ((0:Int)=b/\(aI p hi).2.1=hi)) hst hk0 hpw hd hr hm rfl rfl
  (fun W hb=>O8 f bs n cp W h.bd (h.run.later hb)) (fun W _=>Bk.UL d W h.dg h.s0 h.s1 h.m0 h.m1 h.m2) (fun W _=>aHP d W h.mo h.dg h.da) (fun W _=>yV a lo b hi W)
  (fun W _=>by rw[hpw];exact Un.vU lo p W h.h0 h.h1) (fun W _=>by rw[hpw];exact Un.vU hi p W h.h2 h.h3) W hb0).mono ?_
 rintro r w' ⟨rfl,hb⟩;refine⟨aRx Ending.returned ?_,hb⟩;rw[aQF (n:=n) (zd:=zd) (zr:=zr) (p:=p) (c10:=mG f n) (zm:=M) (X:=xX d) (hc16:=hep) (hsig:=aPr) (hxx:=rfl) (h09:=by omega) (hrt:=hrt) (hbe:=aDw p lo) (hbf:=aDw p hi)]
 congr 2
 rw[aDE (p:=p) (a:=a) (lo:=lo) (b:=b) (hi:=hi) rfl (x:=(aI p lo).1) (y:=(aI p lo).2.1) (e:=(aI p lo).2.2) (x':=(aI p hi).1) (y':=(aI p hi).2.1) (e':=(aI p hi).2.2) rfl rfl]
 by_cases ha:a=0<;>by_cases hbb:b=0<;>simp[ha,hbb,eq_comm]
end Sk
end
section
open Go.RowKit Go.Lib
namespace Sk
open Un (ba bt ri rb aI)
open Bk (Rw Dt aW hasB aY lW)
open Ev (aV dQ hp)
theorem XY(bs:Option Addr)(n cp:Nat)(f:Nat->R4)(d:Dt)(p a lo b hi:Int)(w:World)(hs:wZ w bs n f)(hn:0<n):
 Calls Tryz.prog 58 #[fam 1 (.slice bs n cp) d p a lo b hi] w fun r w'=>r=.returned (.iface 128 (r4 (f 0).a (f 0).lo (f 0).b (f 0).hi))/\Below w.heap.size w w':=by
 obtain⟨g,o,rfl,hg,e0,e1,e2,e3⟩:=hs 0 hn;have hR:Rw w.heap.size (lF 1 (.slice (some ⟨g,o,none⟩) n cp) d p a lo b hi) w _:=Rw.fresh (aAL _ _) _ 44;obtain⟨qa,ql,qb,qh,hq⟩: ∃qa ql qb qh,f 0=⟨qa,ql,qb,qh⟩:=⟨_,_,_,_,rfl⟩;rw[hq]at e0 e1 e2 e3 ⊢;simp only[Nat.zero_mul,aLx]at e0 e1 e2 e3;dsimp only at e0 e1 e2 e3 ⊢;have HE:=GK (And.intro hg (And.intro e0 (And.intro e1 (And.intro e2 e3))));clear hs hg e0 e1 e2 e3;unfold fam r4;have hn1:(0:Int)<n:=by omega
 go_enter Tryz.func58,Tryz.ntmps58
 go_upto_region 1 with(fail)
 have H0: ∀i,World.cell? (World.alloc w _) ⟨g,i,none⟩=w.cell? ⟨g,i,none⟩:=fun i=>(hR.below).cell (p:=⟨g,i,none⟩) HE.out.1;generalize World.alloc _ _=W0 at hR H0 ⊢;have c0:=hR.cell 0 _ rfl;have c1:=hR.cell 1 _ rfl;have e0:=(H0 _).trans HE.out.2.1;have e1:=(H0 _).trans HE.out.2.2.1;have e2:=(H0 _).trans HE.out.2.2.2.1;have e3:=(H0 _).trans HE.out.2.2.2.2;clear H0
 go_wp2
 go_ret
 exact⟨rfl,hR.below⟩
end Sk
end
section
open Go.RowKit Go.Lib
namespace Sk
open Ev (aV DT LG dQ aQ hp uY iW iV lT kR OJ FQ lY aN AV yJ rG dS aG aJ eG kX)
def ye0:AV:=.aS [(rK q8 qz q8 qz),(qi 9)]
def ye1:AV:=.aS [(rK q8 qz q8 qz),(qi 12)]
def ye2:AV:=.aS [(rK q8 qz q8 qz),(qi 13)]
def ye3:AV:=.aS [(rK q8 qz q8 qz),(qi 10)]
def ye4:AV:=.aS [(rK q8 (qi 10) q8 (qi 11)),qz]
def ye5:AV:=.aS [(rK q8 (qi 11) q8 (qi 12)),qz]
def ye6:AV:=aN 1 .i64 [(qi 1),(.v (.int .i64 1))]
def ye7:AV:=aN 2 .i64 [(qi 1),(.v (.int .i64 1))]
def ye8:AV:=aN 3 .i64 [(.v (.int .i64 12)),(qi 8)]
def WT:AV:=.aS [(rK q8 qz q8 qz),(.v (.int .i64 1))]
def aEg:AV:=.aS [(rK q8 qz q8 qz),(.v (.int .i64 15))]
def aSi:List AV:=[rK (qe 0) (qi 1) (qe 2) (qi 3),.v (.int .u8 1)]
def aSh:List AV:=[rK (qe 0) (qi 1) (qe 2) (qi 3),.v (.int .u8 2)]
def aSg:List AV:=[rK (qe 0) (qi 1) (qe 2) (qi 3),.v (.int .u8 3)]
def aSf:List AV:=[(aN 1 .i64 [ye8,(qi 9)]),(.v (.int .i64 1))]
def aU4:List AV:=[aN 3 .i64 [.v (.int .i64 12),(qi 8)],(qi 9)]
def aSe:List AV:=[aN 2 .i64 [aN 1 .i64 aU4,.v (.int .i64 1)],.v (.int .i64 1)]
def aKG:DT:=(.node 0 (qe 0) q8 (.node 0 (qi 6) qz (.node 3 (qb 7) (qb 7) (.node 0 (qi 9) qz (.node 0 (qi 8) (.v (.int .i64 9223372036854775807)) (.leaf aEg) (.node 0 (qi 12) qz (.leaf ye4) (.leaf ye1))) (.leaf ye0)) (.leaf WT)) (.leaf WT)) (.leaf WT))
theorem aFq(l:Value):aKG.ok dQ l [(42,rK q8 (qi 4) q8 (qi 5),rK (qe 0) (qi 1) (qe 2) (qi 3),(qb 7))] [(85,[(qi 1),.v (.int .u8 1)],.aS [rK q8 (qi 4) q8 (qi 5),(qi 6)]),(140,[(qi 1)],.aS [(qi 8),(qi 9)]),(141,[aN 1 .i64 [(qi 8),.v (.int .i64 1)]],.aS [(qi 10),(qi 11),(qi 12)])] hp 60 LG 270 aSi []=true:=by kernel_rfl
theorem aPg(a lo b hi x y e i ie l2 h2 e2:Int)(z:Bool){w0:World}(hst:SS w0)(hz:OU 42 (r4 0 x 0 y) (r4 a lo b hi) z)(H0:Same w0 85 #[(.int .i64 lo),(.int .u8 1)] (.tuple #[(r4 0 x 0 y),(.int .i64 e)]))(H1:Same w0 140 #[(.int .i64 lo)] (.tuple #[(.int .i64 i),(.int .i64 ie)]))(H2:Same w0 141 #[(.int .i64 (IntKind.i64.wrap (i+1)))] (.tuple #[(.int .i64 l2),(.int .i64 h2),(.int .i64 e2)])):Same w0 270 #[(r4 a lo b hi),(.int .u8 1)] (cond (a==0) (cond (e==0) (cond z (cond (ie==0) (cond (i==9223372036854775807) (.tuple #[(r4 0 0 0 0),(.int .i64 15)]) (cond (e2==0) (.tuple #[(r4 0 l2 0 h2),(.int .i64 0)]) (.tuple #[(r4 0 0 0 0),(.int .i64 e2)]))) (.tuple #[(r4 0 0 0 0),(.int .i64 ie)])) (.tuple #[(r4 0 0 0 0),(.int .i64 1)])) (.tuple #[(r4 0 0 0 0),(.int .i64 1)])) (.tuple #[(r4 0 0 0 0),(.int .i64 1)])):=
 aG (aFq (.agg #[.int .i8 a,.int .i64 lo,.int .i8 b,.int .i64 hi,.int .i64 x,.int .i64 y,.int .i64 e,.bool z,.int .i64 i,.int .i64 ie,.int .i64 l2,.int .i64 h2,.int .i64 e2])) (aQ w0) hst (.cons hz (fun _ _ _=>⟨by kernel_rfl,by kernel_rfl⟩) .nil) (.cons H0 (.cons H1 (.cons H2 .nil))) (aJ (by kernel_rfl)) (by kernel_rfl)
def aKF:DT:=(.node 0 (qe 0) q8 (.node 0 (qi 6) qz (.node 3 (qb 7) (qb 7) (.node 0 (qi 10) qz (.node 0 (aN 2 .i64 aSf) (.v (.int .i64 9223372036854775807)) (.leaf aEg) (.node 0 (qi 13) qz (.leaf ye5) (.leaf ye2))) (.leaf ye3)) (.leaf WT)) (.leaf WT)) (.leaf WT))
theorem aFp(l:Value):aKF.ok dQ l [(42,rK q8 (qi 4) q8 (qi 5),rK (qe 0) (qi 1) (qe 2) (qi 3),(qb 7))] [(85,[(qi 1),.v (.int .u8 2)],.aS [rK q8 (qi 4) q8 (qi 5),(qi 6)]),(143,[(qi 1)],.aS [(qi 8),(qi 9),(qi 10)]),(144,[aN 1 .i64 aSe],.aS [(qi 11),(qi 12),(qi 13)])] hp 60 LG 270 aSh []=true:=by kernel_rfl
theorem aPf(a lo b hi x y e i m ie l2 h2 e2:Int)(z:Bool){w0:World}(hst:SS w0)(hz:OU 42 (r4 0 x 0 y) (r4 a lo b hi) z)(H0:Same w0 85 #[(.int .i64 lo),(.int .u8 2)] (.tuple #[(r4 0 x 0 y),(.int .i64 e)]))(H1:Same w0 143 #[(.int .i64 lo)] (.tuple #[(.int .i64 i),(.int .i64 m),(.int .i64 ie)]))(H2:Same w0 144 #[(.int .i64 (IntKind.i64.wrap ((IntKind.i64.wrap ((IntKind.i64.wrap ((IntKind.i64.wrap (12 * i))+m)) - 1))+1)))] (.tuple #[(.int .i64 l2),(.int .i64 h2),(.int .i64 e2)])):Same w0 270 #[(r4 a lo b hi),(.int .u8 2)] (cond (a==0) (cond (e==0) (cond z (cond (ie==0) (cond ((IntKind.i64.wrap ((IntKind.i64.wrap ((IntKind.i64.wrap (12 * i))+m)) - 1))==9223372036854775807) (.tuple #[(r4 0 0 0 0),(.int .i64 15)]) (cond (e2==0) (.tuple #[(r4 0 l2 0 h2),(.int .i64 0)]) (.tuple #[(r4 0 0 0 0),(.int .i64 e2)]))) (.tuple #[(r4 0 0 0 0),(.int .i64 ie)])) (.tuple #[(r4 0 0 0 0),(.int .i64 1)])) (.tuple #[(r4 0 0 0 0),(.int .i64 1)])) (.tuple #[(r4 0 0 0 0),(.int .i64 1)])):=
 aG (aFp (.agg #[.int .i8 a,.int .i64 lo,.int .i8 b,.int .i64 hi,.int .i64 x,.int .i64 y,.int .i64 e,.bool z,.int .i64 i,.int .i64 m,.int .i64 ie,.int .i64 l2,.int .i64 h2,.int .i64 e2])) (aQ w0) hst (.cons hz (fun _ _ _=>⟨by kernel_rfl,by kernel_rfl⟩) .nil) (.cons H0 (.cons H1 (.cons H2 .nil))) (aJ (by kernel_rfl)) (by kernel_rfl)
def aKE:DT:=(.node 0 (qe 0) q8 (.node 0 (qi 6) qz (.node 3 (qb 7) (qb 7) (.node 0 (qi 1) (.v (.int .i64 9223372036854775807)) (.leaf aEg) (.leaf (.aS [(.agg [q8,ye6,q8,ye6]),qz]))) (.leaf WT)) (.leaf WT)) (.leaf WT))
theorem aFo(l:Value):aKE.ok dQ l [(42,rK q8 (qi 4) q8 (qi 5),rK (qe 0) (qi 1) (qe 2) (qi 3),(qb 7))] [(85,[(qi 1),.v (.int .u8 3)],.aS [rK q8 (qi 4) q8 (qi 5),(qi 6)])] hp 60 LG 270 aSg []=true:=by kernel_rfl
theorem aPe(a lo b hi x y e:Int)(z:Bool){w0:World}(hst:SS w0)(hz:OU 42 (r4 0 x 0 y) (r4 a lo b hi) z)(H0:Same w0 85 #[(.int .i64 lo),(.int .u8 3)] (.tuple #[(r4 0 x 0 y),(.int .i64 e)])):Same w0 270 #[(r4 a lo b hi),(.int .u8 3)] (cond (a==0) (cond (e==0) (cond z (cond (lo==9223372036854775807) (.tuple #[(r4 0 0 0 0),(.int .i64 15)]) (.tuple #[(r4 0 (IntKind.i64.wrap (lo+1)) 0 (IntKind.i64.wrap (lo+1))),(.int .i64 0)])) (.tuple #[(r4 0 0 0 0),(.int .i64 1)])) (.tuple #[(r4 0 0 0 0),(.int .i64 1)])) (.tuple #[(r4 0 0 0 0),(.int .i64 1)])):=
 aG (aFo (.agg #[.int .i8 a,.int .i64 lo,.int .i8 b,.int .i64 hi,.int .i64 x,.int .i64 y,.int .i64 e,.bool z])) (aQ w0) hst (.cons hz (fun _ _ _=>⟨by kernel_rfl,by kernel_rfl⟩) .nil) (.cons H0 .nil) (aJ (by kernel_rfl)) (by kernel_rfl)
def aKD:DT:=(.node 0 (qe 0) q8 (.node 0 (qi 6) qz (.node 3 (qb 7) (qb 7) (.node 0 (qi 9) qz (.node 0 (qi 8) (.v (.int .i64 (-9223372036854775808))) (.leaf aEg) (.node 0 (qi 12) qz (.leaf ye4) (.leaf ye1))) (.leaf ye0)) (.leaf WT)) (.leaf WT)) (.leaf WT))
theorem aFm(l:Value):aKD.ok dQ l [(42,rK q8 (qi 4) q8 (qi 5),rK (qe 0) (qi 1) (qe 2) (qi 3),(qb 7))] [(85,[(qi 1),.v (.int .u8 1)],.aS [rK q8 (qi 4) q8 (qi 5),(qi 6)]),(140,[(qi 1)],.aS [(qi 8),(qi 9)]),(141,[aN 2 .i64 [(qi 8),.v (.int .i64 1)]],.aS [(qi 10),(qi 11),(qi 12)])] hp 60 LG 271 aSi []=true:=by kernel_rfl
theorem aPd(a lo b hi x y e i ie l2 h2 e2:Int)(z:Bool){w0:World}(hst:SS w0)(hz:OU 42 (r4 0 x 0 y) (r4 a lo b hi) z)(H0:Same w0 85 #[(.int .i64 lo),(.int .u8 1)] (.tuple #[(r4 0 x 0 y),(.int .i64 e)]))(H1:Same w0 140 #[(.int .i64 lo)] (.tuple #[(.int .i64 i),(.int .i64 ie)]))(H2:Same w0 141 #[(.int .i64 (IntKind.i64.wrap (i - 1)))] (.tuple #[(.int .i64 l2),(.int .i64 h2),(.int .i64 e2)])):Same w0 271 #[(r4 a lo b hi),(.int .u8 1)] (cond (a==0) (cond (e==0) (cond z (cond (ie==0) (cond (i==(-9223372036854775808)) (.tuple #[(r4 0 0 0 0),(.int .i64 15)]) (cond (e2==0) (.tuple #[(r4 0 l2 0 h2),(.int .i64 0)]) (.tuple #[(r4 0 0 0 0),(.int .i64 e2)]))) (.tuple #[(r4 0 0 0 0),(.int .i64 ie)])) (.tuple #[(r4 0 0 0 0),(.int .i64 1)])) (.tuple #[(r4 0 0 0 0),(.int .i64 1)])) (.tuple #[(r4 0 0 0 0),(.int .i64 1)])):=
 aG (aFm (.agg #[.int .i8 a,.int .i64 lo,.int .i8 b,.int .i64 hi,.int .i64 x,.int .i64 y,.int .i64 e,.bool z,.int .i64 i,.int .i64 ie,.int .i64 l2,.int .i64 h2,.int .i64 e2])) (aQ w0) hst (.cons hz (fun _ _ _=>⟨by kernel_rfl,by kernel_rfl⟩) .nil) (.cons H0 (.cons H1 (.cons H2 .nil))) (aJ (by kernel_rfl)) (by kernel_rfl)
def aKC:DT:=(.node 0 (qe 0) q8 (.node 0 (qi 6) qz (.node 3 (qb 7) (qb 7) (.node 0 (qi 10) qz (.node 0 (aN 2 .i64 aSf) (.v (.int .i64 (-9223372036854775808))) (.leaf aEg) (.node 0 (qi 13) qz (.leaf ye5) (.leaf ye2))) (.leaf ye3)) (.leaf WT)) (.leaf WT)) (.leaf WT))
theorem aFl(l:Value):aKC.ok dQ l [(42,rK q8 (qi 4) q8 (qi 5),rK (qe 0) (qi 1) (qe 2) (qi 3),(qb 7))] [(85,[(qi 1),.v (.int .u8 2)],.aS [rK q8 (qi 4) q8 (qi 5),(qi 6)]),(143,[(qi 1)],.aS [(qi 8),(qi 9),(qi 10)]),(144,[aN 2 .i64 aSe],.aS [(qi 11),(qi 12),(qi 13)])] hp 60 LG 271 aSh []=true:=by kernel_rfl
theorem aPc(a lo b hi x y e i m ie l2 h2 e2:Int)(z:Bool){w0:World}(hst:SS w0)(hz:OU 42 (r4 0 x 0 y) (r4 a lo b hi) z)(H0:Same w0 85 #[(.int .i64 lo),(.int .u8 2)] (.tuple #[(r4 0 x 0 y),(.int .i64 e)]))(H1:Same w0 143 #[(.int .i64 lo)] (.tuple #[(.int .i64 i),(.int .i64 m),(.int .i64 ie)]))(H2:Same w0 144 #[(.int .i64 (IntKind.i64.wrap ((IntKind.i64.wrap ((IntKind.i64.wrap ((IntKind.i64.wrap (12 * i))+m)) - 1)) - 1)))] (.tuple #[(.int .i64 l2),(.int .i64 h2),(.int .i64 e2)])):Same w0 271 #[(r4 a lo b hi),(.int .u8 2)] (cond (a==0) (cond (e==0) (cond z (cond (ie==0) (cond ((IntKind.i64.wrap ((IntKind.i64.wrap ((IntKind.i64.wrap (12 * i))+m)) - 1))==(-9223372036854775808)) (.tuple #[(r4 0 0 0 0),(.int .i64 15)]) (cond (e2==0) (.tuple #[(r4 0 l2 0 h2),(.int .i64 0)]) (.tuple #[(r4 0 0 0 0),(.int .i64 e2)]))) (.tuple #[(r4 0 0 0 0),(.int .i64 ie)])) (.tuple #[(r4 0 0 0 0),(.int .i64 1)])) (.tuple #[(r4 0 0 0 0),(.int .i64 1)])) (.tuple #[(r4 0 0 0 0),(.int .i64 1)])):=
 aG (aFl (.agg #[.int .i8 a,.int .i64 lo,.int .i8 b,.int .i64 hi,.int .i64 x,.int .i64 y,.int .i64 e,.bool z,.int .i64 i,.int .i64 m,.int .i64 ie,.int .i64 l2,.int .i64 h2,.int .i64 e2])) (aQ w0) hst (.cons hz (fun _ _ _=>⟨by kernel_rfl,by kernel_rfl⟩) .nil) (.cons H0 (.cons H1 (.cons H2 .nil))) (aJ (by kernel_rfl)) (by kernel_rfl)
def aKB:DT:=(.node 0 (qe 0) q8 (.node 0 (qi 6) qz (.node 3 (qb 7) (qb 7) (.node 0 (qi 1) (.v (.int .i64 (-9223372036854775808))) (.leaf aEg) (.leaf (.aS [(.agg [q8,ye7,q8,ye7]),qz]))) (.leaf WT)) (.leaf WT)) (.leaf WT))
theorem aFk(l:Value):aKB.ok dQ l [(42,rK q8 (qi 4) q8 (qi 5),rK (qe 0) (qi 1) (qe 2) (qi 3),(qb 7))] [(85,[(qi 1),.v (.int .u8 3)],.aS [rK q8 (qi 4) q8 (qi 5),(qi 6)])] hp 60 LG 271 aSg []=true:=by kernel_rfl
theorem aPb(a lo b hi x y e:Int)(z:Bool){w0:World}(hst:SS w0)(hz:OU 42 (r4 0 x 0 y) (r4 a lo b hi) z)(H0:Same w0 85 #[(.int .i64 lo),(.int .u8 3)] (.tuple #[(r4 0 x 0 y),(.int .i64 e)])):Same w0 271 #[(r4 a lo b hi),(.int .u8 3)] (cond (a==0) (cond (e==0) (cond z (cond (lo==(-9223372036854775808)) (.tuple #[(r4 0 0 0 0),(.int .i64 15)]) (.tuple #[(r4 0 (IntKind.i64.wrap (lo - 1)) 0 (IntKind.i64.wrap (lo - 1))),(.int .i64 0)])) (.tuple #[(r4 0 0 0 0),(.int .i64 1)])) (.tuple #[(r4 0 0 0 0),(.int .i64 1)])) (.tuple #[(r4 0 0 0 0),(.int .i64 1)])):=
 aG (aFk (.agg #[.int .i8 a,.int .i64 lo,.int .i8 b,.int .i64 hi,.int .i64 x,.int .i64 y,.int .i64 e,.bool z])) (aQ w0) hst (.cons hz (fun _ _ _=>⟨by kernel_rfl,by kernel_rfl⟩) .nil) (.cons H0 .nil) (aJ (by kernel_rfl)) (by kernel_rfl)
end Sk
end
section
open Go.RowKit Go.Lib
namespace Sk
open Un (ba bt ri rb aI)
open Bk (Rw Dt aW hasB aY lW)
open Ev (aV dQ hp)
def IG(k:Int)(n:Nat)(e:Int):Int:=if e≠0 then e else if k=1/\1<n then 14 else if 3<k then 1 else 0
theorem aOG(k c:Int)(n:Nat):(cond (c==0) (cond (k==1) (cond (decide (1<((n:Nat):Int))) (.int .i64 (14)) (cond (decide (3<k)) (.bool false) (.int .i64 (0)))) (cond (decide (3<k)) (.int .i64 (1)) (.int .i64 (0)))) (.int .i64 c))=Value.int .i64 (IG k n c):=by
 have e0:decide (1<((n:Nat):Int))=decide (1<n):=by rw[aKX];simp;omega
 rw[e0];unfold IG
 by_cases h1:c=0<;>by_cases h2:k=1<;>by_cases h3:1<n<;>by_cases h4:3<k<;>first|(exfalso;omega)|simp[h1,h2,h3,h4,aG3]
theorem aTZ(k c:Int)(n:Nat)(hc:0<=c):(cond (decide (0<c)) (.int .i64 c) (cond (k==1) (cond (decide (1<((n:Nat):Int))) (.int .i64 (14)) (cond (decide (3<k)) (.bool false) (.int .i64 (0)))) (cond (decide (3<k)) (.int .i64 (1)) (.int .i64 (0)))))=Value.int .i64 (IG k n c):=by
 rw[<-aOG]
 by_cases h1:c=0
 . subst h1;simp
 have:0<c:=by omega
 simp[h1,this,aG3]
theorem aEF{w0:World}{k:Int}{bs:Option Addr}{n cp:Nat}{d:Dt}{p a lo b hi c:Int}(hst:aV dQ.g.n dQ.l w0 hp)(h:Same w0 22 #[fam k (.slice bs n cp) d p a lo b hi] (.int .i64 c)):
 Same w0 8 #[fam k (.slice bs n cp) d p a lo b hi] (.int .i64 (IG k n c)):=by
 have h2:=aHI k bs n cp d p a lo b hi c hst h;rw[aOG]at h2;exact h2
theorem aET{w0:World}{k:Int}{bs:Option Addr}{n cp:Nat}{d:Dt}{p a lo b hi c:Int}(hst:aV dQ.g.n dQ.l w0 hp)(hc:0<=c)(h:Same w0 21 #[fam k (.slice bs n cp) d p a lo b hi] (.int .i64 c)):
 Same w0 7 #[fam k (.slice bs n cp) d p a lo b hi] (.int .i64 (IG k n c)):=by
 have h2:=aHR k bs n cp d p a lo b hi c hst h;rw[aTZ k c n hc]at h2;exact h2
theorem aDy(p d:Int)(h0: -9223372036854775808<=d)(h1:d<9223372036854775808): -9223372036854775808<=(aI p d).1/\(aI p d).1<9223372036854775808:=by
 by_cases hp:p<1\/3<p
 . unfold aI;rw[aFV hp];dsimp only;omega
 by_cases h3:p=3
 . unfold aI Un.kS;rw[aB9 hp,aFV h3];dsimp only;omega
 by_cases hy: -10000000000000000<=Cal.bT d/\Cal.bT d<=10000000000000000
 . unfold aI Un.kS;rw[aB9 hp,aB9 h3,aFV hy];have b1:=@Un.jQ (Cal.bT d) (by omega) (by omega);obtain⟨s1,s2⟩:=Cal.gK d;have ss:=Cal.st_succ (Cal.bT d)
   split
   . dsimp only;omega
   obtain⟨m0,m1,m2,m3⟩:=@Cal.lS (Cal.bT d) (d - Cal.st (Cal.bT d)) (by omega) (by omega);have c0:=@Cal.dW (Cal.bT d) (Cal.AL (Cal.bT d) (d - Cal.st (Cal.bT d))) (by omega) (by omega);dsimp only;omega
 unfold aI Un.kS;rw[aB9 hp,aB9 h3,aB9 hy];dsimp only;omega
section
variable{w0:World}{bs:Option Addr}{n cp:Nat}{f:Nat->R4}{d:Dt}{p a lo b hi:Int}
theorem exU{f:FuncId}{args:Array Value}{v:Value}(hv:Same w0 f args v)(h: ∃l u e:Int,v=.tuple #[r4 0 l 0 u,.int .i64 e]): ∃l u e:Int,Same w0 f args (.tuple #[r4 0 l 0 u,.int .i64 e]):=by
 obtain⟨l,u,e,rfl⟩:=h;exact⟨l,u,e,hv⟩
theorem isU{c:Bool}{v u:Value}(h: ∃l u e:Int,v=.tuple #[r4 0 l 0 u,.int .i64 e])(g: ∃l u' e:Int,u=.tuple #[r4 0 l 0 u',.int .i64 e]): ∃l u' e:Int,cond c v u=.tuple #[r4 0 l 0 u',.int .i64 e]:=by cases c;exact g;exact h
theorem F7{l2 u2 p:Int}(hp:1<=p/\p<=3)(hk:lW w0)(hst:aV dQ.g.n dQ.l w0 Ev.hp)(h0: -9223372036854775808<=l2)(h1:l2<9223372036854775808):
 (∃l u e:Int,Same w0 270 #[r4 0 l2 0 u2,.int .u8 p] (.tuple #[r4 0 l 0 u,.int .i64 e]))/\(∃l u e:Int,Same w0 271 #[r4 0 l2 0 u2,.int .u8 p] (.tuple #[r4 0 l 0 u,.int .i64 e])):=by
 have HH:=fun W (hb:Below w0.heap.size w0 W)=>Un.qP l2 p W (hk.below hb).cal h0 h1 (by omega) (by omega);unfold Un.rv at HH;have hz:=KF 0 (aI p l2).1 0 (aI p l2).2.1 0 l2 0 u2 _ rfl;have hpp:p=1\/p=2\/p=3:=by omega
 rcases hpp with rfl|rfl|rfl
 . have HO:=fun W (hb:Below w0.heap.size w0 W)=>Un.zB l2 W (hk.below hb).cal.steps h0 h1;exact⟨exU (aPg _ _ _ _ _ _ _ _ _ _ _ _ _ hst hz HH HO (fun W hb=>Un.mY _ W (hk.below hb).cal)) (by repeat (first|exact⟨_,_,_,rfl⟩|apply isU)),
    exU (aPd _ _ _ _ _ _ _ _ _ _ _ _ _ hst hz HH HO (fun W hb=>Un.mY _ W (hk.below hb).cal)) (by repeat (first|exact⟨_,_,_,rfl⟩|apply isU))⟩
 . have HO:=fun W (hb:Below w0.heap.size w0 W)=>Un.oK l2 W (hk.below hb).cal h0 h1;exact⟨exU (aPf _ _ _ _ _ _ _ _ _ _ _ _ _ _ hst hz HH HO (fun W hb=>Un.lJ _ W (hk.below hb).cal (mX _).1 (mX _).2)) (by repeat (first|exact⟨_,_,_,rfl⟩|apply isU)),
    exU (aPc _ _ _ _ _ _ _ _ _ _ _ _ _ _ hst hz HH HO (fun W hb=>Un.lJ _ W (hk.below hb).cal (mX _).1 (mX _).2)) (by repeat (first|exact⟨_,_,_,rfl⟩|apply isU))⟩
 exact⟨exU (aPe _ _ _ _ _ _ _ _ hst hz HH) (by repeat (first|exact⟨_,_,_,rfl⟩|apply isU)),exU (aPb _ _ _ _ _ _ _ _ hst hz HH) (by repeat (first|exact⟨_,_,_,rfl⟩|apply isU))⟩
end
end Sk
end
section
open Go.RowKit Go.Lib
namespace Sk
open Un (ba bt ri rb aI)
open Bk (Rw Dt aW hasB aY lW)
open Ev (aV dQ hp)
theorem aJD(k:Int)(n:Nat)(p a b:Int)(U:Bool)(S R ER sig:Int)(X M FT:Bool)(hS:0<=S)(hE:0<=ER):0<=IE k n p a b U S R ER sig X M FT:=by
 unfold IE
 (repeat' split)<;>omega
theorem aF5{k:Int}{n:Nat}{p a b:Int}{U:Bool}{S R ER sig:Int}{X M FT:Bool}(h:IE k n p a b U S R ER sig X M FT=0):1<=k/\(k=1->0<n)/\(k=3->1<=p/\p<=3):=by
 unfold IE at h
 by_cases c:k<1\/5<k
 . rw[aFV c]at h;omega
 refine⟨by omega,fun hk=>?_,fun hk=>?_⟩;rw[aB9 c]at h
 split at h
 . omega
 . by_cases hn:n=0
   . simp[hk,hn]at h
   omega
 rw[aB9 c]at h
 split at h
 . omega
 rw[aB9 (by omega),aB9 (by omega)]at h
 split at h<;>omega
theorem aJ7{k:Int}{n:Nat}{e:Int}(h:0<=e):0<=IG k n e:=by unfold IG;(repeat' split)<;>omega
theorem aGn{k:Int}{n:Nat}{e:Int}(h:IG k n e=0):e=0/\k<=3:=by
 unfold IG at h
 (repeat' split at h)<;>omega
theorem aC5{f:Nat->Int}(h: ∀i,0<=f i): ∀n i,0<=scan f n i
 |0,i=>by rw[aEC];omega
 |n+1,i=>by
  rw[scan]
  split
  . exact aC5 h n (i+1)
  exact h i
theorem aEw(f:Nat->R4)(n:Nat):0<=mG f n:=by
 unfold mG
 split
 . omega
 refine aC5 (fun i=>?_) n 0;unfold SX R4.err dM
 (repeat' split)<;>omega
end Sk
end
section
open Go.ChangeShapes Go.WideShapes Go.ChangeAt Go.RowKit Go.Lib
namespace Sk
open Bk (Dt aW)
section
variable{H:Type}{enc:TypeId × Value->H}{w:World}{base:Nat}{spare:Nat->Bool}{held:Bool}
theorem aAo:Tryz.prog.cellsOf 26=3:=by kernel_rfl
theorem aCv:Tryz.prog.cellsOf 4=1:=by kernel_rfl
theorem sD:Tryz.prog.cellsOf 5=1:=by kernel_rfl
theorem b8{x:Int}(h:(Lit.int .u8 x).wf=true):0<=x/\x<256:=by
 simp[Lit.wf,IntKind.min,IntKind.max,IntKind.signed,IntKind.bits]at h;omega
theorem cell_lt{w:World}{a:Addr}{v:Value}(h:w.cell? a=some v):a.block<w.heap.size:=by
 unfold World.cell? at h
 by_cases hl:a.block<w.heap.size
 . exact hl
 exfalso;have:w.heap[a.block]? =none:=aKY (by omega);simp[this]at h
end
end Sk
end
section
namespace Ev
def aVw:nN:=⟨true,2,2,[(.int .u8 (0)),(.int .u8 (0))],(.arr 2 5)⟩
def aVv:nN:=⟨false,1,2,[(.int .i16 (0))],(.int .i16)⟩
def aVu:nN:=⟨false,1,24,[(.slice none 0 0)],(.slice 23)⟩
def aVt:nN:=⟨true,16,48,[(.int .u8 (0)),(.int .u8 (0)),(.int .u8 (0)),(.int .u8 (0)),(.bool false),(.int .u16 (0)),(.int .u8 (0)),(.int .u8 (0)),(.int .u8 (0)),(.int .u8 (0)),(.int .u8 (0)),(.int .u8 (0)),(.int .u8 (0)),(.int .i16 (0)),(.int .u8 (0)),(.slice none 0 0)],(.struct [(0,1,false),(1,1,false),(2,1,false),(3,10,true),(13,1,false),(14,1,false),(15,1,false)])⟩
def OX:Tr nN:=(.node none (.node none (.node (some ty3) (.node none (.node none (.node none (.node none (.node none (.node (some aNU) .nil .nil) .nil) .nil) (.node none (.node (some aN6) .nil .nil) .nil)) (.node (some aSu) (.node none .nil (.node (some aNY) .nil .nil)) .nil)) (.node (some aVw) .nil .nil)) (.node none (.node none (.node (some aSA) (.node none (.node none (.node (some aNS) .nil .nil) .nil) .nil) (.node none (.node (some aN3) .nil .nil) .nil)) .nil) .nil)) (.node (some ty5) (.node (some ty9) (.node none (.node (some aSB) .nil .nil) (.node none .nil (.node none .nil (.node (some aNV) .nil .nil)))) (.node none (.node none (.node none .nil (.node (some aN0) .nil .nil)) (.node none .nil (.node (some aNW) .nil .nil))) .nil)) (.node none (.node (some aSH) (.node (some aSz) .nil .nil) .nil) (.node (some aVv) (.node none .nil (.node none (.node (some aN2) .nil .nil) .nil)) .nil)))) (.node (some ty2) (.node (some ty4) (.node none (.node none (.node (some aVt) (.node none (.node (some aN9) .nil .nil) .nil) (.node none (.node (some aN5) .nil .nil) .nil)) (.node none .nil (.node (some aOc) .nil .nil))) (.node none (.node (some aSx) .nil .nil) .nil)) (.node none (.node none (.node none (.node none (.node (some aN7) .nil .nil) .nil) .nil) (.node none .nil (.node (some aOa) .nil .nil))) (.node none (.node (some aSv) .nil .nil) .nil))) (.node none (.node none (.node none (.node none (.node none (.node (some aN8) (.node (some aNT) .nil .nil) .nil) .nil) (.node none (.node (some aN4) .nil .nil) .nil)) (.node none (.node none .nil (.node (some aNX) .nil .nil)) (.node (some aOb) .nil .nil))) (.node (some aSG) (.node (some aSw) .nil .nil) .nil)) (.node none (.node none (.node (some aSy) .nil .nil) (.node none .nil (.node none (.node (some aN1) .nil .nil) .nil))) (.node (some aVu) (.node none (.node none .nil (.node (some aNZ) .nil .nil)) .nil) .nil)))))
theorem aSF:(OX.lst 0 1).map (fun e=>(Tryz.prog.info? e.1).map fun j=>(j.size,j.bytes,j.zero))=(OX.lst 0 1).map fun e=>some (e.2.size,e.2.bytes,some (zeroOf e.2)):=by kernel_rfl
theorem aSE:(OX.lst 0 1).map (fun e=>(Tryz.prog.underlying e.1).map fun d=>(ML d,kindOf Tryz.prog d))=(OX.lst 0 1).map fun e=>some (e.2.agg,e.2.k):=by kernel_rfl
theorem aSD:(OX.lst 0 1).map (fun e=>(zeroOf e.2).cells.toList)=(OX.lst 0 1).map fun e=>e.2.zero:=by kernel_rfl
theorem aSC:(OX.lst 0 1).map (fun e=>e.2.zero.length)=(OX.lst 0 1).map fun e=>e.2.size:=by kernel_rfl
theorem aLK:OX.yO (fun k i=>mW Tryz.prog k i) 0 1:=Tr.OA fun e he=>⟨kC aSF e he,kC aSE e he,kC aSD e he,kC aSC e he⟩
noncomputable def tb2:Tab:=⟨Tryz.prog,⟨12,fun _=>⟨0,0,.nilIface⟩⟩,15,OX,fns,fun _ _=>none,fun _=>false,fun _=>none,aIT aQa,fun _ _ _=>none,fun _ _ _=>none⟩
theorem jP(w:World):fG tb2 w:=aHs aLK aJy Tryz.pinned.checked.mixed (fun _ _ _ h=>by cases h) ⟨fun _ _ _ _ h=>(by cases h),fun _ _ _ _ h=>(by cases h)⟩ aJi aIQ (aDn aDm)
end Ev
end
section
open Go.RowKit
namespace Ev
inductive SV where
 |s (v:AV)
 |p (j:Nat)
def SV.av(L:Nat):SV->AV
 | .s v=>v
 | .p j=>.ptr (L+j) 0
def SV.den(l:Value)(P:List Nat):SV->Value
 | .s v=>dS l v
 | .p j=>.pointer (some ⟨P.getD j 0,0,none⟩)
noncomputable def SV.ok(g m:Nat):SV->Bool
 | .s v=>gU g v
 | .p j=>Nat.ble (j+1) m
def OQ(w:World)(p:Nat)(el:TypeId)(vs:List Value):Prop:= ∃c fr,w.heap[p]? =some (.cells c el fr)/\(∀i,i<c.size-> ¬(fr.1<=i/\i<fr.2))/\c.toList=vs
def aRz(w:World)(P:List Nat)(F:List (TypeId × List Value)):Prop:=P.length=F.length/\ ∀(j p:Nat) (e:TypeId × List Value),P[j]? =some p->F[j]? =some e->OQ w p e.1 e.2
structure dU(w0:World)(N:Nat)(P:List Nat)(F:List (TypeId × List Value))(S:List (Nat × Value))(a:Act)(w:World):Prop where
 below:Below w0.heap.size w0 w
 new: ∀p ∈ P,w0.heap.size<=p
 nd:P.Nodup
 fr:aRz w P F
 size:a.tmps.size=N
 defs:a.defers=[]
 val: ∀e ∈ S,a.tmps[e.1]? =some e.2
abbrev AF:=List (TypeId × List AV)
def NM(l:Value)(F:AF):List (TypeId × List Value):=F.map fun e=>(e.1,e.2.map (dS l))
def aAg(l:Value)(P:List Nat)(S:List (Nat × SV)):List (Nat × Value):=S.map fun e=>(e.1,e.2.den l P)
noncomputable def aQ7(L:Nat):AF->Tr HO->Tr HO
 |[],h=>h
 |e::t,h=>aQ7 (L+1) t (setH h L (.row e.2 e.1))
noncomputable def aGv(L:Nat):List (Nat × SV)->TE
 |[]=>nilA
 |e::t=>OY (aGv L t) e.1 (e.2.av L)
theorem aED{w0 w:World}{ρ:Env}{cx:Cx}{s:Hs}(h:@aO G0 w0 ρ cx s w)(hid:cx.hid=[]){p:Nat}{el:TypeId}{cells:List AV}(h0:w0.heap.size<=p)
 (hne: ∀b o,s.h.get b=some o->cx.l<=b->ρ.blk b≠p) (hB:OQ w p el (cells.map (den (ρ.add s.n p 0)))) (hs:@iH G0 (s.n+1) cells):
 @aO G0 w0 (ρ.add s.n p 0) cx ⟨s.h.set s.n (.row cells el),s.n+1⟩ w:=by
 letI:Gh:=G0
 obtain⟨gl,QA,good,gn,ln,y8,rD,below,lt,obj,new,old,inj⟩:=h;have lk: ∀(s:Hs) b,s.look cx.hid b=s.h.get b:=fun s b=>by rw[hid];rfl
 simp only[lk]at lt obj new old inj;have look: ∀b x,(s.h.set s.n (.row cells el)).get b=some x->(b=s.n/\x=.row cells el)\/(b≠s.n/\s.h.get b=some x):=by
  intro b x hb
  by_cases e:b=s.n
  . subst e;rw[Tr.oL]at hb;exact .inl ⟨rfl,(aLh hb).symm⟩
  rw[Tr.dN _ _ (aUO e)]at hb;exact .inr ⟨e,hb⟩
 have ext:Ext s.n ρ (ρ.add s.n p 0):=Env.qU _ _ _ _;have jT: ∀b x,s.h.get b=some x->(ρ.add s.n p 0).blk b=ρ.blk b:=fun b x hb=>(ext b (lt b x hb)).1;have hlt:cx.l<=s.n:=aI6 ln y8;refine⟨fun g hg=>?_,QA,fun b hb=>good b (by have:s.n+1<=b:=hb;omega),gn,ln,aUT y8,fun b hb=>rD b (by have:s.n+1<=b:=hb;omega),below,fun b x hb=>?_,fun b x hb=>?_,fun b x hb hl=>?_,fun b x hb hl=>?_,fun b b' x x' hb hb' hl hl' e=>?_⟩
 . have:=ext g (aF7 hg (aI6 gn hlt));rw[this.1,this.2.1,this.2.2];exact gl g hg
 . rw[lk]at hb;show b<s.n+1;rcases look b x hb with⟨e,_⟩|⟨_,hb⟩
   . omega
   have:=lt b x hb;omega
 . rw[lk]at hb;rcases look b x hb with⟨e,e'⟩|⟨hne,hb⟩
   . subst e;subst e';obtain⟨c,fr,q1,q2,q3⟩:=hB;exact⟨Env.fE _ _ _ _,c,fr,by rw[Env.bM];exact q1,q2,q3,hs⟩
   exact(obj b x hb).keep ext (lt b x hb) (aQm _) rfl
 . rw[lk]at hb;rcases look b x hb with⟨e,_⟩|⟨_,hb⟩
   . subst e;rw[Env.bM];exact h0
   rw[jT b x hb];exact new b x hb hl
 . rw[lk]at hb;rcases look b x hb with⟨e,_⟩|⟨_,hb⟩
   . omega
   rw[jT b x hb];exact old b x hb hl
 rw[lk]at hb hb';rcases look b x hb with⟨e1,_⟩|⟨_,hb⟩<;>rcases look b' x' hb' with⟨e2,_⟩|⟨_,hb'⟩
 . omega
 . subst e1;rw[Env.bM,jT b' x' hb']at e;exact absurd e.symm (hne b' x' hb' hl')
 . subst e2;rw[Env.bM,jT b x hb]at e;exact absurd e (hne b x hb hl)
 rw[jT b x hb,jT b' x' hb']at e;exact inj b b' x x' hb hb' hl hl' e
theorem aHH{w0 w:World}{cx:Cx}{g:Nat}{l:Value}(hid:cx.hid=[])(hg:g<cx.g.n): ∀(F:AF) (P:List Nat) (ρ:Env) (s:Hs),@aO G0 w0 ρ cx s w->ρ.cp g=⟨0,0,l⟩->F.all (fun e=>eF g e.2)=true->P.Nodup->
 (∀p ∈ P,w0.heap.size<=p)->(∀b o,s.h.get b=some o->cx.l<=b->ρ.blk b ∉ P)->aRz w P (NM l F)->
 ∃ ρ',@aO G0 w0 ρ' cx ⟨aQ7 s.n F s.h,s.n+F.length⟩ w/\Ext s.n ρ ρ'/\ ∀j p,P[j]? =some p->ρ'.blk (s.n+j)=p/\ρ'.off (s.n+j)=0:=by
 intro F
 induction F with
 |nil=>
  intro P ρ s h _ _ _ _ _ hf;obtain⟨h1,_⟩:=hf
  cases P with
  |nil=>exact⟨ρ,h,Ext.refl _ _,fun j p hp=>by simp at hp⟩
  |cons p P=>simp[NM]at h1
 | cons e F ih=>
  intro P ρ s h hρ hs hnd hn hh hf;obtain⟨h1,h2⟩:=hf
  cases P with
  |nil=>simp[NM]at h1
  | cons p P=>
   rw[aOx,aFU]at hs;rw[List.nodup_cons]at hnd;have hgs:g<s.n:=aF7 hg (aI6 (@aO.gn G0 _ _ _ _ _ h) (aI6 (@aO.ln G0 _ _ _ _ _ h) (@aO.y8 G0 _ _ _ _ _ h)));have ext:Ext s.n ρ (ρ.add s.n p 0):=Env.qU _ _ _ _;have G9:(ρ.add s.n p 0).cp g=⟨0,0,l⟩:=by rw[(ext g hgs).2.2];exact hρ
   have hb:=h2 0 p _ rfl rfl;have hb:OQ w p e.1 (e.2.map (dS l)):=hb;have hgd:@Gd G0 (s.n+1) g:=⟨by omega,fun q=>q⟩;rw[<-WC,<-lN G9 e.2 hs.1,dD]at hb;have h3:=aED h hid (hn p aG1) (fun b o hb hl q=>hh b o hb hl (by rw[q];exact aG1)) hb (@qK G0 _ _ hgd e.2 hs.1);obtain⟨ρ',q1,q2,q3⟩:=ih P (ρ.add s.n p 0) _ h3 G9 hs.2 hnd.2 (fun p' hp'=>hn p' (aHg _ hp')) (fun b o hb hl=>by
    have hb:(s.h.set s.n (.row e.2 e.1)).get b=some o:=hb
    by_cases q:b=s.n
    . subst q;rw[Env.bM];exact hnd.1
    rw[Tr.dN _ _ (aUO q)]at hb;rw[Env.OE ρ q];exact fun m=>hh b o hb hl (aHg _ m)) ⟨by simpa[NM]using h1,fun j p' e' a b=>h2 (j+1) p' e' a b⟩
   refine⟨ρ',?_,fun b hb=>?_,fun j p' hp'=>?_⟩
   . have e3:s.n+1+F.length=s.n+(e::F).length:=by simp;omega
     rw[<-e3];exact q1
   . have:=q2 b (by show b<s.n+1;omega);have:=ext b hb;exact⟨by rw[(q2 b (by show b<s.n+1;omega)).1];exact this.1,by rw[(q2 b (by show b<s.n+1;omega)).2.1];exact this.2.1,by rw[(q2 b (by show b<s.n+1;omega)).2.2];exact this.2.2⟩
   cases j with
   |zero=>
    have:p=p':=by simpa using hp'
    subst this;have:=q2 s.n (by show s.n<s.n+1;omega);exact⟨by rw[aLx,this.1,Env.bM],by rw[aLx,this.2.1,Env.fE]⟩
   |succ j=>
    have:=q3 j p' (by simpa using hp');rw[show s.n+(j+1)=s.n+1+j by omega];exact this
inductive lX where
 |leaf (e:Ex) (S:List (Nat × SV)) (F:AF)
 |no
 |node (c:Nat) (x y:AV) (t f:lX)
def lX.post(l:Value)(K:Ex->List (Nat × SV)->AF->Prop):lX->Prop
 | .leaf e S F=>K e S F
 | .no=>False
 | .node c x y t f=>(jJ c (dS l x) (dS l y)=true->t.post l K)/\(jJ c (dS l x) (dS l y)=false->f.post l K)
noncomputable def aQL(a b:Ex):Bool:=Ex.rec (motive:=fun _=>Bool) (Ex.rec (motive:=fun _=>Bool) true (fun _=>false) false b) (fun i=>Ex.rec (motive:=fun _=>Bool) false (fun j=>Nat.beq i j) false b) (Ex.rec (motive:=fun _=>Bool) false (fun _=>false) true b) a
theorem aM3{a b:Ex}(h:aQL a b=true):a=b:=by
 cases a<;>cases b<;>first|rfl|(cases h;done)|skip
 rw[aFX (show Nat.beq _ _=true from h)]
noncomputable def slB(g L m:Nat)(t:TE)(e:Nat × SV):Bool:=band (e.2.ok g m) (Option.rec (motive:=fun _=>Bool) false (fun v=>eqS v (e.2.av L)) (nU t e.1))
noncomputable def rowB(g:Nat)(e:TypeId × List AV):HO->Bool
 | .row c el=>band (Nat.beq el e.1) (band (EN c e.2) (eF g e.2))
 |_=>false
noncomputable def aJn(g:Nat):Nat->AF->Tr HO->Bool
 |_,[],_=>true
 |L,e::t,h=>band (Option.rec (motive:=fun _=>Bool) false (fun o=>rowB g e o) (EH h L)) (aJn g (L+1) t h)
noncomputable def aOs(g L m:Nat)(e:Ex)(S:List (Nat × SV))(F:AF)(x:Option (Ex × St)):Bool:=
 Option.rec (motive:=fun _=>Bool) false (fun p=>band (aQL p.1 e) (band (isNil p.2.d) (band (S.all (slB g L F.length p.2.t)) (band (aJn g L F p.2.s.h) (Nat.ble m F.length))))) x
theorem aMR{g:Nat}{h:Tr HO}: ∀ {F:AF} {L:Nat},aJn g L F h=true-> ∀j e,F[j]? =some e-> ∃c,h.get (L+j)=some (.row c e.1)/\c=e.2/\eF g e.2=true:=by
 intro F
 induction F with
 |nil=>intro L _ j e he;simp at he
 | cons q F ih=>
  intro L hb j e he;obtain⟨h1,h2⟩:=aF (show band (Option.rec (motive:=fun _=>Bool) false (fun o=>rowB g q o) (EH h L)) (aJn g (L+1) F h)=true from hb)
  cases j with
  | zero=>
   have:q=e:=by simpa using he
   subst this
   cases ho:EH h L with
   |none=>rw[ho]at h1;cases h1
   | some o=>
    rw[ho]at h1;have h1:rowB g q o=true:=h1
    match o,ho,h1 with
    | .row c el,ho,h1=>
     obtain⟨g1,g2⟩:=aF (show band (Nat.beq el q.1) (band (EN c q.2) (eF g q.2))=true from h1);obtain⟨g3,g4⟩:=aF g2;refine⟨c,?_,oN _ _ g3,g4⟩;rw[aLx,<-aFX g1];exact ho
  |succ j=>
   have:=ih h2 j e (by simpa using he);rw[show L+(j+1)=L+1+j by omega];exact this
def aT:List Nat->Code->Code
 |[],c=>c
 |0::t,.seq a _=>aT t a
 |_::t,.seq _ b=>aT t b
 |0::t,.cond _ a _=>aT t a
 |_::t,.cond _ _ b=>aT t b
 |_::t,.block _ c=>aT t c
 |_::t,.loop c=>aT t c
 |_::t,.scope c=>aT t c
 |_,c=>c
def fV:Nat->Code->Code
 |n+1,.seq _ b=>fV n b
 |_,c=>c
noncomputable def runs(f:Code->St->CR):Nat->Code->St->CR
 |0,_,st=>some (.normal,st)
 |n+1,.seq x y,st=>MI (runs f n y) (f x st)
 |_+1,_,_=>none
noncomputable def runN(f:Code->St->CR)(n:Nat)(c:Code)(st:St):CR:=Nat.rec (motive:=fun _=>CR) (f c st) (fun k _=>runs f (k+1) c st) n
def PD(P:Program)(Q:Exit->Act->World->Prop):Nat->Code->Exit->Act->World->Prop
 |0,_=>Q
 |n+1,c=>Exit.then ((fV (n+1) c).wp P Q) Q
section
variable{tb:Tab}{w0:World}{call:dK}{cx:Cx}{N:Nat}
theorem aBe(hT:fG tb w0)(hc:jS tb w0 call)(hf:fO call)(hg:cx.g=tb.g)(hl:cx.l=tb.l){fuel:Nat}{Q:Exit->Act->World->Prop}:
 ∀(n:Nat) (c:Code) (st:St) (e:Ex) (st':St),runs (code tb call cx N none fuel) n c st=some (e,st')-> ∀(ρ:Env) (w:World) (a:Act),@aO G0 w0 ρ cx st.s w->@iU G0 N ρ st.s.n a st.t->@iK G0 ρ st.s.n st.d a.defers->
  @Post G0 w0 cx N st st' ρ w (Exit.then ((fV n c).wp tb.p Q) Q (ND e))->c.wp tb.p Q a w:=by
 intro n
 induction n with
 |zero=>
  intro c st e st' h ρ w a hs ht hd hq;have h:some (Ex.normal,st)=some (e,st'):=h;obtain⟨rfl,rfl⟩:Ex.normal=e/\st=st':=by simpa using h
  exact hq ρ w a (@Stp.refl G0 _ _ _ _ _ hs) ht hd
 | succ n ih=>
  intro c st e st' h ρ w a hs ht hd hq
  cases c with
  |seq x y=>
   refine aVA ?_;rcases mP (show MI (runs (code tb call cx N none fuel) n y) (code tb call cx N none fuel x st)=some (e,st')from h)with⟨st1,h1,h2⟩|⟨h1,hne⟩
   . refine wpIn_wide.1 ((@iI G0 _ _ _ _ N hT hc hf hg hl none fuel).1 x _ _ _ h1 ρ w a _ none 0 trivial hs ht hd (fun ρ1 w1 a1 s1 t1 d1=>?_));exact ih y _ _ _ h2 ρ1 w1 a1 (@Stp.sat G0 _ _ _ _ _ _ _ _ s1) t1 d1 (fun ρ2 w2 a2 s2 t2 d2=>hq ρ2 w2 a2 (@Stp.trans G0 _ _ _ _ _ _ _ _ _ _ _ s1 s2) t2 d2)
   refine wpIn_wide.1 ((@iI G0 _ _ _ _ N hT hc hf hg hl none fuel).1 x _ _ _ h1 ρ w a _ none 0 trivial hs ht hd (fun ρ1 w1 a1 s1 t1 d1=>?_));have:=hq ρ1 w1 a1 s1 t1 d1
   cases e with
   |normal=>exact absurd rfl hne
   |exit i=>exact this
   |ret=>exact this
  |_=>cases h
theorem aBh(hT:fG tb w0)(hc:jS tb w0 call)(hf:fO call)(hg:cx.g=tb.g)(hl:cx.l=tb.l){fuel:Nat}{Q:Exit->Act->World->Prop}(n:Nat)(c:Code)(st:St)(e:Ex)(st':St)
 (h:runN (code tb call cx N none fuel) n c st=some (e,st')) (ρ:Env) (w:World) (a:Act) (hs:@aO G0 w0 ρ cx st.s w) (ht:@iU G0 N ρ st.s.n a st.t) (hd:@iK G0 ρ st.s.n st.d a.defers)
 (hq:@Post G0 w0 cx N st st' ρ w (PD tb.p Q n c (ND e))):c.wp tb.p Q a w:=by
 cases n with
 |zero=>exact wpIn_wide.1 ((@iI G0 _ _ _ _ N hT hc hf hg hl none fuel).1 c _ _ _ h ρ w a _ none 0 trivial hs ht hd hq)
 |succ n=>exact aBe hT hc hf hg hl (n+1) c st e st' h ρ w a hs ht hd hq
end
section
variable(B:Tab)(l:Value)(ps:List yJ)(os:List rG)(h0:Tr HO)(d g N fuel n:Nat)(c:Code)(S0:List (Nat × SV))(F0:AF)
noncomputable def aHV(fs:List Fct):Option (Ex × St):=runN (code (tbL B l fs ps os) (sG (tbL B l fs ps os) d) ⟨⟨B.g.n,fun _=>⟨0,0,l⟩⟩,B.l,B.l,[]⟩ N none fuel) n c ⟨aGv B.l S0,⟨aQ7 B.l F0 h0,B.l+F0.length⟩,[]⟩
noncomputable def lX.ok(T:lX):List Fct->Bool:=
 lX.rec (motive:=fun _=>List Fct->Bool) (fun e S F fs=>aOs g B.l F0.length e S F (aHV B l ps os h0 d N fuel n c S0 F0 fs)) (fun _=>true)
  (fun c x y _ _ iht ihf fs=>band (band (gU g x) (gU g y)) (band (iht ((c,x,y,true)::fs)) (ihf ((c,x,y,false)::fs)))) T
end
theorem aKk{N L m n g:Nat}{l:Value}{ρ:Env}{a:Act}{P:List Nat}(hg:g<n)(hρ:ρ.cp g=⟨0,0,l⟩)(hm:L+m<=n)(hP: ∀j p,P[j]? =some p->ρ.blk (L+j)=p/\ρ.off (L+j)=0)(hl:P.length=m)(hsz:a.tmps.size=N):
 ∀S:List (Nat × SV),S.all (fun e=>e.2.ok g m)=true->(∀e ∈ aAg l P S,a.tmps[e.1]? =some e.2)->@iU G0 N ρ n a (aGv L S):=by
 intro S
 induction S with
 |nil=>intro _ _;exact @iU.mk G0 _ _ _ _ _ hsz (fun i v h=>absurd h (by rw[show aGv L []=nilA from rfl,ZW];intro h;cases h))
 |cons e S ih=>
  intro hs hv;rw[aOx,aFU]at hs;have h1:=ih hs.2 (fun e' he'=>hv e' (aHg _ he'));have h2:=hv (e.1,e.2.den l P) (by show _ ∈ (e::S).map _;exact aG1);have h2:a.tmps[e.1]? =some (e.2.den l P):=h2;refine @iU.mk G0 _ _ _ _ _ hsz (fun i v h=>?_);have h:nU (OY (aGv L S) e.1 (e.2.av L)) i=some v:=h
  by_cases q:e.1=i
  . subst q;rw[wL]at h;obtain rfl:=aLh h;have hlt:e.1<N:=by
     rw[<-hsz]
     by_cases c:e.1<a.tmps.size
     . exact c
     rw[aKY (by omega)]at h2;cases h2
    obtain⟨i,sv⟩:=e
    cases sv with
    |s v=>
     have hk:gU g v=true:=hs.1;exact⟨@JW G0 _ _ ⟨hg,fun q=>q⟩ v hk,hlt,by rw[h2];show some (dS l v)=some (den ρ v);rw[iY hρ v hk]⟩
    |p j=>
     have hj:j<m:=by have:=aI7 (show Nat.ble (j+1) m=true from hs.1);omega
     obtain⟨p,hp⟩: ∃p,P[j]? =some p:=⟨P[j]'(by omega),aGX (by omega)⟩;obtain⟨q1,q2⟩:=hP j p hp;refine⟨⟨by show L+j<n;omega,fun q=>q⟩,hlt,?_⟩;rw[h2];show some (Value.pointer (some ⟨P.getD j 0,0,none⟩))=some (den ρ (.ptr (L+j) 0));have:P.getD j 0=p:=by rw[aRA,hp];rfl
     rw[this];simp[den,q1,q2]
  rw[nT _ _ q]at h;exact @iU.val G0 _ _ _ _ _ h1 i v h
theorem aJW{B:Tab}{w0 w:World}{l:Value}{ps:List yJ}{os:List rG}{g d N fuel n:Nat}{h0:Tr HO}{c:Code}{S0:List (Nat × SV)}{F0:AF}{P:List Nat}{a:Act}{Q:Exit->Act->World->Prop}(hB:fG B w0)(hst:aV B.g.n B.l w0 h0)(hg:Nat.ble (g+1) B.g.n=true)
 (hp: ∀e ∈ ps,YL g e=true/\EX B.p l e) (ho: ∀e ∈ os,G6 B g e=true/\xB B.p w0 l e) (hS:S0.all (fun e=>e.2.ok g F0.length)=true) (hF:F0.all (fun e=>eF g e.2)=true)
 (hw:dU w0 N P (NM l F0) (aAg l P S0) a w) (T:lX):
 ∀fs,(∀e ∈ fs,aD8 g l e)->T.ok B l ps os h0 d g N fuel n c S0 F0 fs=true->
  T.post l (fun e S F=> ∀P' a' w',(∀(j p:Nat),P[j]? =some p->P'[j]? =some p)->dU w0 N P' (NM l F) (aAg l P' S) a' w'->PD B.p Q n c (ND e) a' w')->c.wp B.p Q a w:=by
 induction T with
 | leaf e S F=>
  intro fs hf h hq;have h:aOs g B.l F0.length e S F (aHV B l ps os h0 d N fuel n c S0 F0 fs)=true:=h
  cases hr:aHV B l ps os h0 d N fuel n c S0 F0 fs with
  |none=>rw[hr]at h;cases h
  | some p=>
   rw[hr]at h;obtain⟨e',st'⟩:=p;obtain⟨h1,h2⟩:=aF (show band (aQL e' e) (band (isNil st'.d) (band (S.all (slB g B.l F.length st'.t)) (band (aJn g B.l F st'.s.h) (Nat.ble F0.length F.length))))=true from h);obtain⟨h3,h4⟩:=aF h2;obtain⟨h5,h6⟩:=aF h4;obtain⟨h7,h8⟩:=aF h6;have h1:=aM3 h1;subst h1;obtain⟨ρ,hs⟩:=hst (fun _=>⟨0,0,l⟩) w hw.below;have hg':g<B.g.n:=by have:=aI7 hg;omega
   have hρ:ρ.cp g=⟨0,0,l⟩:=(@aO.gl G0 _ _ _ _ _ hs g hg').2.2;have hlen:P.length=F0.length:=by have:=hw.fr.1;simpa[NM]using this
   obtain⟨ρ1,hs1,ext,hP⟩:=aHH (l:=l) rfl hg' F0 P ρ _ hs hρ hF hw.nd hw.new (fun b o hb hl=>absurd (@aO.lt G0 _ _ _ _ _ hs b o hb) (Nat.not_lt.2 hl)) hw.fr;have hgl:g<B.l:=aF7 hg' (@aO.gn G0 _ _ _ _ _ hs);have G9:ρ1.cp g=⟨0,0,l⟩:=(@aO.gl G0 _ _ _ _ _ hs1 g hg').2.2;have hT:=aA1 hB hg hf hp ho;have ht:@iU G0 N ρ1 (B.l+F0.length) a (aGv B.l S0):=aKk (g:=g) (aF7 hgl (aU1 _ _)) G9 (aCU _) hP hlen hw.size S0 hS hw.val;refine aBh (Q:=Q) hT (NU hT d) (NV d) rfl rfl n c _ _ _ hr ρ1 w a hs1 ht (by rw[hw.defs];trivial) (fun ρ2 w2 a2 S2 T2 D2=>?_);have aEE:=@Stp.sat G0 _ _ _ _ _ _ _ _ S2;have aWT:=@Stp.ext G0 _ _ _ _ _ _ _ _ S2;have hρ2:ρ2.cp g=⟨0,0,l⟩:=(@aO.gl G0 _ _ _ _ _ aEE g hg').2.2;have hmF:F0.length<=F.length:=aI7 h8;have hP2: ∀j p,P[j]? =some p->j<F0.length/\ρ2.blk (B.l+j)=p:=fun j p hp=>by
    have hj:j<F0.length:=by
     rw[<-hlen]
     by_cases c:j<P.length
     . exact c
     rw[aRG (by omega)]at hp;cases hp
    have:=aWT (B.l+j) (by show B.l+j<B.l+F0.length;omega);exact⟨hj,by rw[this.1];exact(hP j p hp).1⟩
   have hrow: ∀j,j<F.length-> ∃q,F[j]? =some q/\st'.s.h.get (B.l+j)=some (.row q.2 q.1)/\eF g q.2=true:=fun j hj=>by
    obtain⟨c2,hc,rfl,hsy⟩:=aMR h7 j _ (aGX hj);exact⟨_,aGX hj,hc,hsy⟩
   obtain⟨P',hP'⟩: ∃P',P'=(List.range F.length).map fun j=>ρ2.blk (B.l+j):=⟨_,rfl⟩;have hat: ∀j,j<F.length->P'[j]? =some (ρ2.blk (B.l+j)):=fun j hj=>by rw[hP',aG0,aRw hj];rfl
   have hin: ∀j p,P'[j]? =some p->j<F.length/\p=ρ2.blk (B.l+j):=fun j p hp=>by
    by_cases c:j<F.length
    . rw[hat j c]at hp;exact⟨c,(aLh hp).symm⟩
    rw[hP',aRG (by simp;omega)]at hp;cases hp
   refine hq P' a2 w2 (fun j p hp=>by obtain⟨q1,q2⟩:=hP2 j p hp;rw[hat j (by omega),q2]) ?_;refine⟨@aO.below G0 _ _ _ _ _ aEE,fun p hp=>?_,?_,⟨?_,fun j p e hp he=>?_⟩,@iU.size G0 _ _ _ _ _ T2,?_,fun e he=>?_⟩
   . obtain⟨j,hj⟩:=aVa hp;obtain⟨k1,rfl⟩:=hin j p hj;obtain⟨q,_,hq2,_⟩:=hrow j k1;exact @aO.new G0 _ _ _ _ _ aEE (B.l+j) _ hq2 (aU1 _ _)
   . rw[hP',List.Nodup,List.pairwise_map,aUP];intro i j hi hj hij e;simp only[List.getElem_range,List.length_range]at hi hj e;obtain⟨q,_,hq2,_⟩:=hrow i hi;obtain⟨q',_,aWj,_⟩:=hrow j hj;have:=@aO.inj G0 _ _ _ _ _ aEE _ _ _ _ hq2 aWj (aU1 _ _) (aU1 _ _) e;omega
   . rw[hP'];simp[NM]
   . obtain⟨k1,rfl⟩:=hin j p hp;obtain⟨q,hq1,hq2,hsy⟩:=hrow j k1;have he':e=(q.1,q.2.map (dS l)):=by
      rw[NM,aG0,hq1]at he;exact(aLh he).symm
     subst he';obtain⟨_,cc,fr,o1,o2,o3,_⟩:=@aO.obj G0 _ _ _ _ _ aEE (B.l+j) _ hq2;refine⟨cc,fr,o1,o2,?_⟩;rw[o3,<-dD,lN hρ2 _ hsy,WC]
   . cases hd:st'.d with
     |nil=>
      rw[hd]at D2
      cases hy:a2.defers with
      |nil=>rfl
      |cons x l=>rw[hy]at D2;exact D2.elim
     |cons x l=>rw[hd]at h3;cases h3
   obtain⟨⟨i,sv⟩,hm,rfl⟩:=aRP.1 he;have hb:=aJL.1 h5 _ hm;obtain⟨b1,b2⟩:=aF (show band (sv.ok g F.length) (Option.rec (motive:=fun _=>Bool) false (fun v=>eqS v (sv.av B.l)) (nU st'.t i))=true from hb)
   cases hv:nU st'.t i with
   |none=>rw[hv]at b2;cases b2
   | some v=>
    rw[hv]at b2;have b2:=uP _ _ (show eqS v (sv.av B.l)=true from b2);obtain⟨_,_,k3⟩:=@iU.val G0 _ _ _ _ _ T2 i v hv;show a2.tmps[i]? =some (sv.den l P');rw[k3,b2]
    cases sv with
    |s u=>show some (den ρ2 u)=some (dS l u);rw[iY hρ2 u b1]
    |p j=>
     have hj:j<F.length:=by have:=aI7 (show Nat.ble (j+1) F.length=true from b1);omega
     obtain⟨q,hq1,hq2,hsy⟩:=hrow j hj;obtain⟨ho,_⟩:=@aO.obj G0 _ _ _ _ _ aEE (B.l+j) _ hq2;show some (den ρ2 (.ptr (B.l+j) 0))=some (Value.pointer (some ⟨P'.getD j 0,0,none⟩));have:P'.getD j 0=ρ2.blk (B.l+j):=by rw[aRA,hat j hj];rfl
     rw[this];simp[den,ho]
 |no=>intro fs _ _ h;exact h.elim
 | node c x y t u iht ihu=>
  intro fs hf h hl;obtain⟨h1,h2⟩:=aF (show band (band (gU g x) (gU g y)) (band (t.ok B l ps os h0 d g N fuel n _ S0 F0 ((c,x,y,true)::fs)) (u.ok B l ps os h0 d g N fuel n _ S0 F0 ((c,x,y,false)::fs)))=true from h);obtain⟨h3,h4⟩:=aF h1;obtain⟨h5,h6⟩:=aF h2
  cases hb:jJ c (dS l x) (dS l y)with
  | true=>
   exact iht _ (fun e he=>by
    rcases aG4.1 he with rfl|he
    . exact⟨h3,h4,hb⟩
    exact hf e he) h5 (hl.1 hb)
  | false=>
   exact ihu _ (fun e he=>by
    rcases aG4.1 he with rfl|he
    . exact⟨h3,h4,hb⟩
    exact hf e he) h6 (hl.2 hb)
def Lf(w0:World)(N:Nat)(P:List Nat)(F:List (TypeId × List Value))(S:List Nat->List (Nat × Value))(K:Act->World->Prop):Prop:=
 ∀P' a' w',(∀(j p:Nat),P[j]? =some p->P'[j]? =some p)->dU w0 N P' F (S P') a' w'->K a' w'
noncomputable def pcB(B:Tab)(ps:List yJ)(os:List rG)(g:Nat)(S0:List (Nat × SV))(F0:AF):Bool:=band (Nat.ble (g+1) B.g.n) (band (ps.all (YL g)) (band (os.all (G6 B g)) (band (S0.all fun e=>e.2.ok g F0.length) (F0.all fun e=>eF g e.2))))
theorem dY{B:Tab}{w0 w:World}{l:Value}{ps:List yJ}{os:List rG}{g d N fuel n:Nat}{h0:Tr HO}{c:Code}{S0:List (Nat × SV)}{F0:AF}{P:List Nat}{a:Act}{Q:Exit->Act->World->Prop}{T:lX}{LP:List (TypeId × Value × Value × Value)}{LO:List (FuncId × Array Value × Value)}{FV:List (TypeId × List Value)}{SVs:List (Nat × Value)}{PP:Prop}
 (h:T.ok B l ps os h0 d g N fuel n c S0 F0 []=true) (hB:fG B w0) (hst:aV B.g.n B.l w0 h0) (hp:OpS B.p LP) (ho:OrS B.p w0 LO) (hw:dU w0 N P FV SVs a w) (hl:PP)
 (hc:(pcB B ps os g S0 F0,ps.map (fun e=>(e.1,dS l e.2.1,dS l e.2.2.1,dS l e.2.2.2)),os.map (fun e=>(e.1,(e.2.1.map (dS l)).toArray,dS l e.2.2)),NM l F0,aAg l P S0,T.post l (fun e S F=>Lf w0 N P (NM l F) (fun P'=>aAg l P' S) (PD B.p Q n c (ND e))))=(true,LP,LO,FV,SVs,PP)):c.wp B.p Q a w:=by
 simp only[aOL]at hc;obtain⟨hc,e3,e4,e1,e2,e5⟩:=hc;obtain⟨c1,c⟩:=aF hc;obtain⟨c2,c⟩:=aF c;obtain⟨c3,c⟩:=aF c;obtain⟨c4,c5⟩:=aF c;subst e1 e2 e3 e4;rw[<-e5]at hl;refine aJW hB hst c1 (fun e he=>⟨aJL.1 c2 e he,?_⟩) (fun e he=>⟨aJL.1 c3 e he,ho.all _ (aRS he)⟩) c4 c5 hw T [] (fun e he=>by cases he) h hl;obtain⟨z,hz,q,g⟩:=hp.all _ (aRS he);exact kX (fun ox oy w=>(g ox oy w).1) (fun ox oy w=>(g ox oy w).2) z hz q.1 q.2
end Ev
end
section
open Go.RowKit
namespace Ev
def Env.CW(ρ:Env)(n r o c:Nat):Env:=⟨fun b=>if b=n then r else ρ.blk b,fun b=>if b=n then o else ρ.off b,fun b=>if b=n then⟨c,0,.nilIface⟩else ρ.cp b⟩
theorem aAE(ρ:Env)(n r o c:Nat):Ext n ρ (ρ.CW n r o c):=fun b hb=>by
 have:b≠n:=by omega
 simp[Env.CW,this]
theorem aHG{w0 w:World}{ρ:Env}{G:GV}{l:Nat}{h:Tr HO}(hs:@aO G0 w0 ρ ⟨G,l,l,[]⟩ ⟨h,l⟩ w){g o c:Nat}{cells:List AV}(hg:g<w0.heap.size)
 (hc: ∀i x,cells[i]? =some x->w.cell? ⟨g,o+i,none⟩=some (den (ρ.CW l g o c) x)) (hb: ∃x,w.heap[g]? =some x) (hsc:@iH G0 (l+1) cells):
 @aO G0 w0 (ρ.CW l g o c) ⟨G,l+1,l+1,[]⟩ ⟨h.set l (.ro cells),l+1⟩ w:=by
 letI:Gh:=G0
 obtain⟨gl,QA,good,gn,ln,y8,rD,below,lt,obj,new,old,inj⟩:=hs;have lk: ∀(s:Hs) b,s.look [] b=s.h.get b:=fun s b=>rfl;simp only[lk]at lt obj new old inj;have look: ∀b x,(h.set l (.ro cells)).get b=some x->(b=l/\x=.ro cells)\/(b≠l/\h.get b=some x):=by
  intro b x hb
  by_cases e:b=l
  . subst e;rw[Tr.oL]at hb;exact .inl ⟨rfl,(aLh hb).symm⟩
  rw[Tr.dN _ _ (aUO e)]at hb;exact .inr ⟨e,hb⟩
 have ext:Ext l ρ (ρ.CW l g o c):=aAE _ _ _ _ _;have aFY: ∀b x,h.get b=some x->b<l:=fun b x q=>lt b x q;have jT: ∀b x,h.get b=some x->(ρ.CW l g o c).blk b=ρ.blk b:=fun b x hb=>(ext b (aFY b x hb)).1;have e1:(ρ.CW l g o c).blk l=g:=by simp[Env.CW]
 have e2:(ρ.CW l g o c).off l=o:=by simp[Env.CW]
 refine⟨fun g' hg'=>?_,QA,fun b hb=>(fun q=>q),aUT gn,aCU _,aCU _,fun b hb=>rfl,below,fun b x hb=>?_,fun b x hb=>?_,fun b x hb hl=>?_,fun b x hb hl=>?_,fun b b' x x' hb hb' hl hl' e=>?_⟩
 . have:=ext g' (aF7 hg' gn);rw[this.1,this.2.1,this.2.2];exact gl g' hg'
 . rw[lk]at hb;show b<l+1;rcases look b x hb with⟨e,_⟩|⟨_,hb⟩
   . omega
   have:=aFY b x hb;omega
 . rw[lk]at hb;rcases look b x hb with⟨e,e'⟩|⟨hne,hb⟩
   . subst e;subst e'
     rename_i hbx
     exact⟨by rw[e1];exact hbx,fun i x hx=>by rw[e1,e2];exact hc i x hx,hsc⟩
   exact(obj b x hb).keep ext (aFY b x hb) (aQm _) rfl
 . rw[lk]at hb;have hl:l+1<=b:=hl;rcases look b x hb with⟨e,_⟩|⟨_,hb⟩
   . omega
   have:=aFY b x hb;omega
 . rw[lk]at hb;rcases look b x hb with⟨e,_⟩|⟨_,hb⟩
   . subst e;rw[e1];exact hg
   rw[jT b x hb];exact old b x hb (aFY b x hb)
 rw[lk]at hb;have hl:l+1<=b:=hl;rcases look b x hb with⟨e,_⟩|⟨_,hb⟩
 . omega
 have:=aFY b x hb;omega
inductive AC where
 |s (v:AV)
 |l (n:Nat)
inductive FT where
 |leaf (cs:List AC) (row:List AV)
 |no
 |node (c:Nat) (x y:AV) (t f:FT)
def FT.post(lt:Value)(K:List AC->List AV->Prop):FT->Prop
 | .leaf cs row=>K cs row
 | .no=>False
 | .node c x y t f=>(jJ c (dS lt x) (dS lt y)=true->t.post lt K)/\(jJ c (dS lt x) (dS lt y)=false->f.post lt K)
noncomputable def rowIs(g:Nat)(row:List AV)(o:Option HO):Bool:=
 Option.rec (motive:=fun _=>Bool) false (fun o=>HO.rec (motive:=fun _=>Bool) (fun _=>false) (fun c _=>band (EN c row) (eF g row)) (fun c _ _=>band (EN c row) (eF g row)) (fun _ _=>false) (fun _ _ _ _ _ _ _ _=>false) false (fun _ _=>false) o) o
noncomputable def acB(L g:Nat)(h:Tr HO)(row:List AV)(a:AC)(v:AV):Bool:=
 AC.rec (motive:=fun _=>Bool) (fun u=>band (eqS v u) (gU g u))
  (fun n=>AV.rec (motive_1:=fun _=>Bool) (motive_2:=fun _=>Unit) (fun _=>false) (fun _ _=>false) (fun b o k c=>band (Nat.ble L b) (band (Nat.beq o 0) (band (Nat.beq k n) (rowIs g row (EH h b))))) (fun b o k dk=>band (Nat.ble L b) (band (Nat.beq o 0) (band (Nat.beq k n) (rowIs g row (EH h b))))) (fun _ _ _ _ _=>false) (fun _ _ _=>false) (fun _ _=>false) (fun _ _=>false) (fun _=>false) () (fun _ _ _ _=>()) v) a
noncomputable def aDY(L g:Nat)(h:Tr HO)(row:List AV):List AC->List AV->Bool
 |[],[]=>true
 |a::a0t,v::vs=>band (acB L g h row a v) (aDY L g h row a0t vs)
 |_,_=>false
noncomputable def aT1(L g:Nat)(cs:List AC)(row:List AV)(x:Option (AV × Hs)):Bool:=
 Option.rec (motive:=fun _=>Bool) false (fun p=>match p.1 with
  | .agg l=>aDY L g p.2.h row cs l
  |_=>false) x
inductive AA where
 |s (v:AV)
 |o (n:Nat)
def AA.av(L:Nat):AA->AV
 | .s v=>v
 | .o n=>.DV L 0 n 0
noncomputable def AA.ok(g:Nat):AA->Bool
 | .s v=>gU g v
 | .o _=>true
def AA.den(lt:Value)(gb o c:Nat):AA->Value
 | .s v=>dS lt v
 | .o n=>.slice (some ⟨gb,o,none⟩) n c
noncomputable def Tab.up(B:Tab):Tab:=⟨B.p,B.g,B.l+1,B.ty,B.fn,B.orc,B.idn,B.mnz,B.met,B.y9,B.oop⟩
theorem aSq{B:Tab}{w0:World}(h:fG B w0):fG B.up w0:=⟨h.ty,h.fn,h.orc,⟨h.y9.y9,h.y9.oop⟩,h.mixed,h.idn,h.mnz,h.met⟩
noncomputable def FT.ok(B:Tab)(lt:Value)(ps:List yJ)(os:List rG)(h0:Tr HO)(d g:Nat)(f:FuncId)(a0t:List AA)(cells:List AV)(T:FT):List Fct->Bool:=
 FT.rec (motive:=fun _=>List Fct->Bool) (fun cs row fs=>aT1 (B.l+1) g cs row (sG (tbL B.up lt fs ps os) d (B.l+1) [] f [.agg (a0t.map (AA.av B.l))] ⟨setH h0 B.l (.ro cells),B.l+1⟩)) (fun _=>true)
  (fun c x y _ _ iht ihf fs=>band (band (gU g x) (gU g y)) (band (iht ((c,x,y,true)::fs)) (ihf ((c,x,y,false)::fs)))) T
def AcR(lo:Nat)(w:World)(lt:Value)(row:List AV):AC->Value->Prop
 | .s u,x=>x=dS lt u
 | .l n,x=> ∃g c,x=.slice (some ⟨g,0,none⟩) n c/\(lo<=g/\g<w.heap.size)/\ ∀i y,row[i]? =some y->w.cell? ⟨g,i,none⟩=some (dS lt y)
def aNO(lo:Nat)(w:World)(lt:Value)(row:List AV):List AC->List Value->Prop
 |[],[]=>True
 |a::a0t,x::xs=>AcR lo w lt row a x/\aNO lo w lt row a0t xs
 |_,_=>False
theorem aHM{g:Nat}{row:List AV}{o:Option HO}(h:rowIs g row o=true): ∃x c,o=some x/\((∃el,x=.row c el)\/ ∃es el,x=.mJ c es el)/\c=row/\eF g row=true:=by
 cases o with
 |none=>cases h
 | some x=>
  cases x with
  |row c el=>
   obtain⟨h1,h2⟩:=aF (show band (EN c row) (eF g row)=true from h);exact⟨_,c,rfl,.inl ⟨_,rfl⟩,oN _ _ h1,h2⟩
  |mJ c es el=>
   obtain⟨h1,h2⟩:=aF (show band (EN c row) (eF g row)=true from h);exact⟨_,c,rfl,.inr ⟨_,_,rfl⟩,oN _ _ h1,h2⟩
  |_=>cases h
theorem aC0 {g:Nat} {row:List AV} (h:eF g row=true): ∀(i:Nat) (y:AV),row[i]? =some y->gU g y=true:=by
 induction row with
 |nil=>intro i y hy;simp at hy
 |cons x row ih=>
  obtain⟨h1,h2⟩:=aF (show band (gU g x) (eF g row)=true from h);intro i y hy
  cases i with
  | zero => obtain rfl:x=y:=by simpa using hy
            exact h1
  |succ i=>exact ih h2 i y (by simpa using hy)
theorem aDr{w0 w:World}{ρ:Env}{cx:Cx}{s:Hs}(hs:@aO G0 w0 ρ cx s w)(hid:cx.hid=[]){g b:Nat}{lt:Value}(hρ:ρ.cp g=⟨0,0,lt⟩){row:List AV}(h:rowIs g row (EH s.h b)=true)(hL:cx.l<=b):
 ρ.off b=0/\(w0.heap.size<=ρ.blk b/\ρ.blk b<w.heap.size)/\ ∀i y,row[i]? =some y->w.cell? ⟨ρ.blk b,i,none⟩=some (dS lt y):=by
 obtain⟨x,c,ho,hx,rfl,hsy⟩:=aHM h;have hob:=@aO.obj G0 _ _ _ _ _ hs b x (by rw[Hs.look_eq,hid];exact ho);have h0:ρ.off b=0:=by
  rcases hx with⟨el,rfl⟩|⟨es,el,rfl⟩
  . exact hob.1
  exact hob.1
 refine⟨h0,⟨@aO.new G0 _ _ _ _ _ hs b x (by rw[Hs.look_eq,hid];exact ho) hL,@HO.Holds.lt G0 _ _ _ _ _ hob⟩,fun i y hy=>?_⟩;have:=@uH G0 _ _ _ _ _ _ hob (by
  rcases hx with h|h
  . exact .inr (.inl h)
  exact .inr (.inr h))
 have h2:=this.2 i y hy;rw[h0,aJU]at h2;rw[h2,iY hρ y (aC0 hsy i y hy)]
theorem aAF{w0 w:World}{ρ:Env}{cx:Cx}{s:Hs}(hs:@aO G0 w0 ρ cx s w)(hid:cx.hid=[]){g L:Nat}{lt:Value}(hρ:ρ.cp g=⟨0,0,lt⟩){row:List AV}(hcl:cx.l=L):
 ∀(cs:List AC) (l:List AV),aDY L g s.h row cs l=true->aNO w0.heap.size w lt row cs (l.map (den ρ)):=by
 intro cs
 induction cs with
 |nil=>intro l h;cases l with
  |nil=>trivial
  |cons v l=>cases h
 | cons a cs ih=>
  intro l h
  cases l with
  |nil=>cases h
  | cons v l=>
   obtain⟨h1,h2⟩:=aF (show band (acB L g s.h row a v) (aDY L g s.h row cs l)=true from h);refine⟨?_,ih l h2⟩
   cases a with
   |s u=>
    obtain⟨h3,h4⟩:=aF (show band (eqS v u) (gU g u)=true from h1);rw[uP _ _ h3];exact iY hρ u h4
   | l n=>
    cases v with
    |sl b o k c=>
     obtain⟨h3,h4⟩:=aF (show band (Nat.ble L b) (band (Nat.beq o 0) (band (Nat.beq k n) (rowIs g row (EH s.h b))))=true from h1);obtain⟨h5,h6⟩:=aF h4;obtain⟨h7,h8⟩:=aF h6;obtain⟨q1,q2,q3⟩:=aDr hs hid hρ h8 (by rw[hcl];exact aI7 h3);obtain rfl:=aFX h5;obtain rfl:=aFX h7;exact⟨ρ.blk b,c,by simp[den,q1],q2,q3⟩
    |DV b o k dk=>
     obtain⟨h3,h4⟩:=aF (show band (Nat.ble L b) (band (Nat.beq o 0) (band (Nat.beq k n) (rowIs g row (EH s.h b))))=true from h1);obtain⟨h5,h6⟩:=aF h4;obtain⟨h7,h8⟩:=aF h6;obtain⟨q1,q2,q3⟩:=aDr hs hid hρ h8 (by rw[hcl];exact aI7 h3);obtain rfl:=aFX h5;obtain rfl:=aFX h7;exact⟨ρ.blk b,ρ.cap b - dk,by simp[den,q1],q2,q3⟩
    |_=>cases h1
theorem aT2{L g:Nat}(hgd:@Gd G0 (L+1) g): ∀a0t:List AA,a0t.all (AA.ok g)=true->@iH G0 (L+1) (a0t.map (AA.av L)):=by
 intro a0t
 induction a0t with
 |nil=>intro _;trivial
 |cons a a0t ih=>
  intro has;rw[aOx,aFU]at has;refine⟨?_,ih has.2⟩
  cases a with
  |s u=>exact @JW G0 _ _ hgd u has.1
  |o n=>exact⟨aKZ _,fun q=>q⟩
def FT.live(lt:Value):FT->Prop
 | .leaf _ _=>True
 | .no=>False
 | .node c x y t f=>(jJ c (dS lt x) (dS lt y)=true->t.live lt)/\(jJ c (dS lt x) (dS lt y)=false->f.live lt)
theorem aE4{B:Tab}{w0 w:World}{lt:Value}{ps:List yJ}{os:List rG}{g d:Nat}{h0:Tr HO}{f:FuncId}{a0t:List AA}{cells:List AV}{gb o c:Nat}(hB:fG B w0)(hst:aV B.g.n B.l w0 h0)(hg:Nat.ble (g+1) B.g.n=true)
 (hp: ∀e ∈ ps,YL g e=true/\EX B.p lt e) (ho: ∀e ∈ os,G6 B g e=true/\xB B.p w0 lt e) (has:a0t.all (AA.ok g)=true) (hcs:eF g cells=true) (hy:Nat.ble yF f=false) (hw:Below w0.heap.size w0 w)
 (hgb:gb<w0.heap.size) (hrd: ∀(i:Nat) (x:AV),cells[i]? =some x->w.cell? ⟨gb,o+i,none⟩=some (dS lt x)) (hbx: ∃x,w.heap[gb]? =some x) (T:FT):
 ∀fs,(∀e ∈ fs,aD8 g lt e)->T.ok B lt ps os h0 d g f a0t cells fs=true->T.live lt->
  Calls B.p f #[.agg (a0t.map (AA.den lt gb o c)).toArray] w fun e w'=>Below w.heap.size w w'/\T.post lt (fun cs row=> ∃vs,e=.returned (.agg vs.toArray)/\aNO w0.heap.size w' lt row cs vs):=by
 induction T with
 | leaf cs row=>
  intro fs hf h _;have h:aT1 (B.l+1) g cs row (sG (tbL B.up lt fs ps os) d (B.l+1) [] f [.agg (a0t.map (AA.av B.l))] ⟨setH h0 B.l (.ro cells),B.l+1⟩)=true:=h
  cases hr:sG (tbL B.up lt fs ps os) d (B.l+1) [] f [.agg (a0t.map (AA.av B.l))] ⟨setH h0 B.l (.ro cells),B.l+1⟩with
  |none=>rw[hr]at h;cases h
  | some p=>
   rw[hr]at h;obtain⟨v',s'⟩:=p;obtain⟨ρ,hs⟩:=hst (fun _=>⟨0,0,lt⟩) w hw;have hg':g<B.g.n:=by have:=aI7 hg;omega
   have hgl:g<B.l:=aF7 hg' (@aO.gn G0 _ _ _ _ _ hs);have hρ:ρ.cp g=⟨0,0,lt⟩:=(@aO.gl G0 _ _ _ _ _ hs g hg').2.2;have G9:(ρ.CW B.l gb o c).cp g=⟨0,0,lt⟩:=by rw[(aAE ρ B.l gb o c g hgl).2.2];exact hρ
   have hgd:@Gd G0 (B.l+1) g:=⟨by omega,fun q=>q⟩;have hs1:=aHG (g:=gb) (o:=o) (c:=c) (cells:=cells) hs hgb (fun i x hx=>by rw[iY G9 x (aC0 hcs i x hx)];exact hrd i x hx) hbx (@qK G0 _ _ hgd cells hcs);have hT:=aA1 (aSq hB) hg hf hp ho;have hsc:@iH G0 (B.l+1) [.agg (a0t.map (AA.av B.l))]:=⟨aT2 hgd a0t has,trivial⟩;have hden:([AV.agg (a0t.map (AA.av B.l))].map (den (ρ.CW B.l gb o c))).toArray= #[.agg (a0t.map (AA.den lt gb o c)).toArray]:=by
    have:(a0t.map (AA.av B.l)).map (den (ρ.CW B.l gb o c))=a0t.map (AA.den lt gb o c):=by
     rw[aUI];refine List.map_congr_left fun a ha=>?_;have hok:=aJL.1 has a ha
     cases a with
     |s u=>exact iY G9 u hok
     |o n=>simp[AA.av,AA.den,den,Env.CW,Env.cap]
    simp[den,dD,this]
   have:=(NU hT d G0 _ _ _ _ _ _ _ hr _ w hs1 hsc).1 hy;rw[hden]at this;refine this.mono ?_;rintro e w' ⟨ρ',rfl,h3,_⟩;have fr:=@Stp.fr G0 _ _ _ _ _ _ _ _ h3;have sat:=@Stp.sat G0 _ _ _ _ _ _ _ _ h3;have ED:ρ'.cp g=⟨0,0,lt⟩:=(@aO.gl G0 _ _ _ _ _ sat g hg').2.2;refine⟨⟨fr.os,fr.tape,fr.output,fr.size,fun r hr=>fr.block r hr (fun b o h3 h4=>absurd (show B.l+1<=b from h3) (aWK.2 (@aO.lt G0 _ _ _ _ _ hs1 b o h4)))⟩,?_⟩
   cases v' with
   |agg l=>exact⟨l.map (den ρ'),by simp[den,dD],aAF sat rfl ED rfl cs l h⟩
   |_=>cases h
 |no=>intro fs _ _ h;exact h.elim
 | node c x y t u iht ihu=>
  intro fs hf h hl;obtain⟨h1,h2⟩:=aF (show band (band (gU g x) (gU g y)) (band (t.ok B lt ps os h0 d g f a0t cells ((c,x,y,true)::fs)) (u.ok B lt ps os h0 d g f a0t cells ((c,x,y,false)::fs)))=true from h);obtain⟨h3,h4⟩:=aF h1;obtain⟨h5,h6⟩:=aF h2
  cases hb:jJ c (dS lt x) (dS lt y)with
  | true=>
   refine(iht _ (fun e he=>by
    rcases aG4.1 he with rfl|he
    . exact⟨h3,h4,hb⟩
    exact hf e he) h5 (hl.1 hb)).mono ?_
   rintro e w' ⟨k1,k2⟩;exact⟨k1,fun _=>k2,fun q=>by rw[hb]at q;cases q⟩
  | false=>
   refine(ihu _ (fun e he=>by
    rcases aG4.1 he with rfl|he
    . exact⟨h3,h4,hb⟩
    exact hf e he) h6 (hl.2 hb)).mono ?_
   rintro e w' ⟨k1,k2⟩;exact⟨k1,fun q=>(by rw[hb]at q;cases q),fun _=>k2⟩
def aK7(lo:Nat)(w:World)(row:List Value):List (Value ⊕ Nat)->List Value->Prop
 |[],[]=>True
 | .inl v::a0t,x::xs=>x=v/\aK7 lo w row a0t xs
 | .inr n::a0t,x::xs=>(∃g c,x=.slice (some ⟨g,0,none⟩) n c/\(lo<=g/\g<w.heap.size)/\ ∀(i:Nat) (y:Value),row[i]? =some y->w.cell? ⟨g,i,none⟩=some y)/\aK7 lo w row a0t xs
 |_,_=>False
def Ans(lo:Nat)(cs:List (Value ⊕ Nat))(row:List Value)(e:Ending)(w:World):Prop:= ∃vs:List Value,e=.returned (.agg vs.toArray)/\aK7 lo w row cs vs
def AC.val(lt:Value):AC->Value ⊕ Nat
 | .s u=>.inl (dS lt u)
 | .l n=>.inr n
theorem aNm{lo:Nat}{w:World}{lt:Value}{row:List AV}: ∀(cs:List AC) (vs:List Value),aNO lo w lt row cs vs->aK7 lo w (row.map (dS lt)) (cs.map (AC.val lt)) vs:=by
 intro cs
 induction cs with
 |nil=>intro vs h;cases vs with
  |nil=>trivial
  |cons x xs=>exact h.elim
 | cons a cs ih=>
  intro vs h
  cases vs with
  |nil=>exact h.elim
  | cons x xs=>
   obtain⟨h1,h2⟩:=h
   cases a with
   |s u=>exact⟨h1,ih xs h2⟩
   |l n=>
    obtain⟨g,c,q1,q2,q3⟩:=h1;refine⟨⟨g,c,q1,q2,fun i y hy=>?_⟩,ih xs h2⟩;rw[aG0]at hy
    cases hr:row[i]? with
    |none=>rw[hr]at hy;cases hy
    |some z=>rw[hr]at hy;obtain rfl:=aLh hy;exact q3 i z hr
theorem FT.aEX{lt:Value}{K K':List AC->List AV->Prop}(h: ∀cs row,K cs row->K' cs row): ∀T:FT,T.post lt K->T.post lt K':=by
 intro T
 induction T with
 |leaf cs row=>exact h cs row
 |no=>exact fun q=>q
 |node c x y t u iht ihu=>exact fun q=>⟨fun b=>iht (q.1 b),fun b=>ihu (q.2 b)⟩
noncomputable def aPF(B:Tab)(ps:List yJ)(os:List rG)(g:Nat)(f:FuncId)(a0t:List AA)(cells:List AV):Bool:=band (Nat.ble (g+1) B.g.n) (band (ps.all (YL g)) (band (os.all (G6 B g)) (band (a0t.all (AA.ok g)) (band (eF g cells) (lG (Nat.ble yF f))))))
theorem rV{B:Tab}{w0:World}{lt:Value}{ps:List yJ}{os:List rG}{g d:Nat}{h0:Tr HO}{f:FuncId}{a0t:List AA}{cells:List AV}{gb o c:Nat}{T:FT}{LP:List (TypeId × Value × Value × Value)}{LO:List (FuncId × Array Value × Value)}{AS VC:List Value}{LV:Prop}{PP:Ending->World->Prop}
 (h:T.ok B lt ps os h0 d g f a0t cells []=true) (hB:fG B w0) (hst:aV B.g.n B.l w0 h0) (hp:OpS B.p LP) (ho:OrS B.p w0 LO) (hl:LV) (hgb:gb<w0.heap.size) (hrd: ∀(i:Nat) (x:Value),VC[i]? =some x->w0.cell? ⟨gb,o+i,none⟩=some x) (hbx: ∃x,w0.heap[gb]? =some x)
 (hc:(aPF B ps os g f a0t cells,ps.map (fun e=>(e.1,dS lt e.2.1,dS lt e.2.2.1,dS lt e.2.2.2)),os.map (fun e=>(e.1,(e.2.1.map (dS lt)).toArray,dS lt e.2.2)),a0t.map (AA.den lt gb o c),cells.map (dS lt),T.live lt,fun e w'=>T.post lt (fun cs row=>Ans w0.heap.size (cs.map (AC.val lt)) (row.map (dS lt)) e w'))=(true,LP,LO,AS,VC,LV,PP)):
 ∀w,Below w0.heap.size w0 w->Calls B.p f #[.agg AS.toArray] w fun e w'=>Below w.heap.size w w'/\PP e w':=by
 simp only[aOL]at hc;obtain⟨hc,e3,e4,e1,e2,e5,e6⟩:=hc;obtain⟨c1,c⟩:=aF hc;obtain⟨c2,c⟩:=aF c;obtain⟨c3,c⟩:=aF c;obtain⟨c4,c⟩:=aF c;obtain⟨c5,c6⟩:=aF c;subst e1 e2 e3 e4;rw[<-e5]at hl;intro w hw;obtain⟨xb,hxb⟩:=hbx;rw[<-e6];refine(aE4 (c:=_) hB hst c1 (fun e he=>⟨aJL.1 c2 e he,?_⟩) (fun e he=>⟨aJL.1 c3 e he,ho.all _ (aRS he)⟩) c4 c5 (by cases hb:Nat.ble yF f with|false=>rfl|true=>rw[hb]at c6;cases c6) hw hgb (fun i x hx=>?_) ⟨xb,(hw.block gb hgb).trans hxb⟩ T [] (fun e he=>by cases he) h hl).mono (fun e w' q=>⟨q.1,FT.aEX (fun cs row ⟨vs,q1,q2⟩=>⟨vs,q1,aNm cs vs q2⟩) T q.2⟩)
 . obtain⟨z,hz,q,g⟩:=hp.all _ (aRS he);exact kX (fun ox oy w=>(g ox oy w).1) (fun ox oy w=>(g ox oy w).2) z hz q.1 q.2
 exact(hw.cell (p:=⟨gb,o+i,none⟩) hgb).trans (hrd i (dS lt x) (by rw[aG0,hx];rfl))
end Ev
end
section
open Go.RowKit Go.Lib
namespace Sk
open Ev (aV DT LG dQ tb2 jP hp uY iW iV lT kR OJ FQ lY aN AV yJ rG dS aG aJ eG kX lX dU Lf PD dY aT fV FT Ans rV)
def yo0:AV:=aN 6 .i64 [(qu 16)]
def yo1:AV:=aN 6 .i64 [(qu 15)]
def yo2:AV:=aN 6 .i64 [(qu 18)]
def yo3:AV:=aN 6 .i64 [(qu 17)]
def yo4:AV:=aN 6 .i64 [(qu 20)]
def yo5:AV:=aN 6 .i64 [(qu 19)]
def yo6:AV:=aN 6 .i64 [(qu 22)]
def yo7:AV:=aN 6 .i64 [(iW 13)]
def yo8:AV:=aN 1 .i64 [yo7,yo0]
def yo9:AV:=aN 1 .i64 [yo8,(.v (.int .i64 2))]
def OV:AV:=aN 1 .i64 [yo9,yo1]
def TM:AV:=aN 1 .i64 [OV,yo2]
def uV:AV:=aN 5 .u8 [(qu 2),(.v (.int .u8 4))]
def aUY:AV:=aN 1 .i64 [TM,(.v (.int .i64 2))]
def aAR:AV:=aN 1 .i64 [aUY,yo3]
def aEd:AV:=aN 1 .i64 [aAR,yo4]
def aUX:AV:=aN 1 .i64 [aEd,(.v (.int .i64 2))]
def aLA:AV:=aN 1 .i64 [aUX,yo5]
def aSc:AV:=aN 1 .i64 [aLA,yo6]
def aSb:AV:=aN 1 .i64 [yo7,(aN 6 .i64 [(qu 14)])]
def aSa:List AV:=[(qu 15),(qu 16),(qu 17),(qu 18),(qu 19),(qu 20),(qu 21),(qu 22)]
def aR9:List AV:=[q8,yo7,q8,yo8,q8,OV,q8,TM,q8,aAR,q8,aEd,q8,aLA,q8,aSc]
def aR8:List AV:=[q8,yo7,q8,yo8,q8,OV,q8,TM,q8,aAR,q8,aEd,q8,aLA,(.v (.int .i8 1)),qz]
def aR7:List AV:=[(.v (.int .i8 (-1))),qz,q8,yo8,q8,OV,q8,TM,q8,aAR,q8,aEd,q8,aLA,q8,aSc]
open Ev (AC dS AA Tab yJ rG Tr HO fG aV OpS OrS aPF)
theorem BD{B:Tab}{w0:World}{lt:Value}{ps:List yJ}{os:List rG}{g d:Nat}{h0:Tr HO}{f:FuncId}{xs:List AA}{cells:List AV}{gb o c:Nat}{T:FT}{LP:List (TypeId × Value × Value × Value)}{LO:List (FuncId × Array Value × Value)}{AS VC:List Value}{LV:Prop}
 (h:T.ok B lt ps os h0 d g f xs cells []=true) (hB:fG B w0) (hst:aV B.g.n B.l w0 h0) (hp:OpS B.p LP) (ho:OrS B.p w0 LO) (hl:LV) (hgb:gb<w0.heap.size) (hrd: ∀(i:Nat) (x:Value),VC[i]? =some x->w0.cell? ⟨gb,o+i,none⟩=some x) (hbx: ∃x,w0.heap[gb]? =some x)
 (hc:(aPF B ps os g f xs cells,ps.map (fun e=>(e.1,dS lt e.2.1,dS lt e.2.2.1,dS lt e.2.2.2)),os.map (fun e=>(e.1,(e.2.1.map (dS lt)).toArray,dS lt e.2.2)),xs.map (AA.den lt gb o c),cells.map (dS lt),T.live lt)=(true,LP,LO,AS,VC,LV)):
 ∃lt,∀w,Below w0.heap.size w0 w->Calls B.p f #[.agg AS.toArray] w fun e w'=>Below w.heap.size w w'/\T.post lt (fun cs row=>Ans w0.heap.size (cs.map (AC.val lt)) (row.map (dS lt)) e w'):=by
 simp only[aOL]at hc;obtain⟨c1,c2,c3,c4,c5,c6⟩:=hc;exact⟨lt,rV (c:=c) h hB hst hp ho hl hgb hrd hbx (by rw[c1,c2,c3,c4,c5,c6])⟩
def QK(n:Nat):List AC:=[.s (.v (.int .u8 1)),.l n,.s qf,.s qf,.s (.v (.string ⟨#[]⟩)),.s qz,.s qz,.s (.v (.string ⟨#[]⟩)),.s (.v (.string ⟨#[]⟩)),.s (.v (.int .u8 0)),.s (.v (.int .u8 0)),.s (.v (.int .u8 0)),.s (.v (.int .u8 0)),.s q8,.s qz,.s q8,.s qz]
def aRk:FT:=(.node 1 qz (aN 8 .i64 [(lY 15)]) FT.no (.node 0 uV (.v (.int .u8 1)) (.node 0 uV (.v (.int .u8 2)) FT.no (.leaf (QK 1) [(.v (.int .i8 (-1))),qz,q8,aSb])) (.node 0 uV (.v (.int .u8 2)) (.leaf (QK 1) [q8,yo7,(.v (.int .i8 1)),qz]) (.leaf (QK 1) [q8,yo7,q8,aSb]))))
theorem aMp(l:Value):aRk.ok tb2 l [] [] hp 60 LG 19 [.s (qu 0),.s (qu 1),.s (qu 2),.s (qu 3),.s (qb 4),.s (kR 5),.s (qu 6),.s (qu 7),.s (qu 8),.s (qu 9),.s (qu 10),.s (qu 11),.s (qu 12),.s (iW 13),.s (qu 14),.s (lY 15)] [] []=true:=by kernel_rfl
theorem aVQ(kk pp oo fo nn z0 z1 mo da k0 k1 k2 fr my:Int)(ng:Bool)(bs:Option Addr)(n cp:Nat){gb go gc:Nat}{w0:World}(hst:SS w0)(hn:n=0)(hgb:gb<w0.heap.size)(hrd: ∀(i:Nat) (x:Value),([]:List Value)[i]? =some x->w0.cell? ⟨gb,go+i,none⟩=some x)(hbx: ∃x,w0.heap[gb]? =some x):
 ∀w,Below w0.heap.size w0 w->Calls Tryz.prog 19 #[.agg #[(.int .u8 kk),(.int .u8 pp),(.int .u8 oo),(.int .u8 fo),(.bool ng),(.int .u16 nn),(.int .u8 z0),(.int .u8 z1),(.int .u8 mo),(.int .u8 da),(.int .u8 k0),(.int .u8 k1),(.int .u8 k2),(.int .i16 fr),(.int .u8 my),(.slice bs n cp)]] w fun e w'=>Below w.heap.size w w'/\(((decide (0<((n:Nat):Int)))=true->False)/\((decide (0<((n:Nat):Int)))=false->((((Int.tmod oo 4)==1)=true->((((Int.tmod oo 4)==2)=true->False)/\(((Int.tmod oo 4)==2)=false->(Ans w0.heap.size [.inl (.int .u8 1),.inr 1,.inl (.bool false),.inl (.bool false),.inl (.string ⟨#[]⟩),.inl (.int .i64 0),.inl (.int .i64 0),.inl (.string ⟨#[]⟩),.inl (.string ⟨#[]⟩),.inl (.int .u8 0),.inl (.int .u8 0),.inl (.int .u8 0),.inl (.int .u8 0),.inl (.int .i8 0),.inl (.int .i64 0),.inl (.int .i8 0),.inl (.int .i64 0)] [(.int .i8 (-1)),(.int .i64 0),(.int .i8 0),(.int .i64 (IntKind.i64.wrap ((IntKind.i64.wrap fr)+(IntKind.i64.wrap my))))] e w'))))/\(((Int.tmod oo 4)==1)=false->((((Int.tmod oo 4)==2)=true->(Ans w0.heap.size [.inl (.int .u8 1),.inr 1,.inl (.bool false),.inl (.bool false),.inl (.string ⟨#[]⟩),.inl (.int .i64 0),.inl (.int .i64 0),.inl (.string ⟨#[]⟩),.inl (.string ⟨#[]⟩),.inl (.int .u8 0),.inl (.int .u8 0),.inl (.int .u8 0),.inl (.int .u8 0),.inl (.int .i8 0),.inl (.int .i64 0),.inl (.int .i8 0),.inl (.int .i64 0)] [(.int .i8 0),(.int .i64 (IntKind.i64.wrap fr)),(.int .i8 1),(.int .i64 0)] e w'))/\(((Int.tmod oo 4)==2)=false->(Ans w0.heap.size [.inl (.int .u8 1),.inr 1,.inl (.bool false),.inl (.bool false),.inl (.string ⟨#[]⟩),.inl (.int .i64 0),.inl (.int .i64 0),.inl (.string ⟨#[]⟩),.inl (.string ⟨#[]⟩),.inl (.int .u8 0),.inl (.int .u8 0),.inl (.int .u8 0),.inl (.int .u8 0),.inl (.int .i8 0),.inl (.int .i64 0),.inl (.int .i8 0),.inl (.int .i64 0)] [(.int .i8 0),(.int .i64 (IntKind.i64.wrap fr)),(.int .i8 0),(.int .i64 (IntKind.i64.wrap ((IntKind.i64.wrap fr)+(IntKind.i64.wrap my))))] e w'))))))):=
 rV (c:=gc) (PP:=fun e w'=>(((decide (0<((n:Nat):Int)))=true->False)/\((decide (0<((n:Nat):Int)))=false->((((Int.tmod oo 4)==1)=true->((((Int.tmod oo 4)==2)=true->False)/\(((Int.tmod oo 4)==2)=false->(Ans w0.heap.size [.inl (.int .u8 1),.inr 1,.inl (.bool false),.inl (.bool false),.inl (.string ⟨#[]⟩),.inl (.int .i64 0),.inl (.int .i64 0),.inl (.string ⟨#[]⟩),.inl (.string ⟨#[]⟩),.inl (.int .u8 0),.inl (.int .u8 0),.inl (.int .u8 0),.inl (.int .u8 0),.inl (.int .i8 0),.inl (.int .i64 0),.inl (.int .i8 0),.inl (.int .i64 0)] [(.int .i8 (-1)),(.int .i64 0),(.int .i8 0),(.int .i64 (IntKind.i64.wrap ((IntKind.i64.wrap fr)+(IntKind.i64.wrap my))))] e w'))))/\(((Int.tmod oo 4)==1)=false->((((Int.tmod oo 4)==2)=true->(Ans w0.heap.size [.inl (.int .u8 1),.inr 1,.inl (.bool false),.inl (.bool false),.inl (.string ⟨#[]⟩),.inl (.int .i64 0),.inl (.int .i64 0),.inl (.string ⟨#[]⟩),.inl (.string ⟨#[]⟩),.inl (.int .u8 0),.inl (.int .u8 0),.inl (.int .u8 0),.inl (.int .u8 0),.inl (.int .i8 0),.inl (.int .i64 0),.inl (.int .i8 0),.inl (.int .i64 0)] [(.int .i8 0),(.int .i64 (IntKind.i64.wrap fr)),(.int .i8 1),(.int .i64 0)] e w'))/\(((Int.tmod oo 4)==2)=false->(Ans w0.heap.size [.inl (.int .u8 1),.inr 1,.inl (.bool false),.inl (.bool false),.inl (.string ⟨#[]⟩),.inl (.int .i64 0),.inl (.int .i64 0),.inl (.string ⟨#[]⟩),.inl (.string ⟨#[]⟩),.inl (.int .u8 0),.inl (.int .u8 0),.inl (.int .u8 0),.inl (.int .u8 0),.inl (.int .i8 0),.inl (.int .i64 0),.inl (.int .i8 0),.inl (.int .i64 0)] [(.int .i8 0),(.int .i64 (IntKind.i64.wrap fr)),(.int .i8 0),(.int .i64 (IntKind.i64.wrap ((IntKind.i64.wrap fr)+(IntKind.i64.wrap my))))] e w')))))))) (aMp (.agg #[.int .u8 kk,.int .u8 pp,.int .u8 oo,.int .u8 fo,.bool ng,.int .u16 nn,.int .u8 z0,.int .u8 z1,.int .u8 mo,.int .u8 da,.int .u8 k0,.int .u8 k1,.int .u8 k2,.int .i16 fr,.int .u8 my,(.slice bs n cp)])) (jP w0) hst .nil .nil (show(((decide (0<((n:Nat):Int)))=true->False)/\((decide (0<((n:Nat):Int)))=false->((((Int.tmod oo 4)==1)=true->((((Int.tmod oo 4)==2)=true->False)/\(((Int.tmod oo 4)==2)=false->True)))/\(((Int.tmod oo 4)==1)=false->((((Int.tmod oo 4)==2)=true->True)/\(((Int.tmod oo 4)==2)=false->True))))))from⟨fun h0=>(by simp only[aFZ,aAO,aFK,aD5]at *;omega),fun h0=>⟨fun h1=>⟨fun h2=>(by simp only[aFZ,aAO,aFK,aD5]at *;omega),fun h2=>trivial⟩,fun h1=>⟨fun h2=>trivial,fun h2=>trivial⟩⟩⟩) hgb hrd hbx (by kernel_rfl)
def aRj:FT:=(.node 0 uV (.v (.int .u8 1)) (.node 0 uV (.v (.int .u8 2)) FT.no (.leaf (QK 1) [(.v (.int .i8 (-1))),qz,q8,yo8])) (.node 0 uV (.v (.int .u8 2)) (.leaf (QK 1) [q8,yo7,(.v (.int .i8 1)),qz]) (.leaf (QK 1) [q8,yo7,q8,yo8])))
theorem aMo(l:Value):aRj.ok tb2 l [] [] hp 60 LG 19 [.s (qu 0),.s (qu 1),.s (qu 2),.s (qu 3),.s (qb 4),.s (kR 5),.s (qu 6),.s (qu 7),.s (qu 8),.s (qu 9),.s (qu 10),.s (qu 11),.s (qu 12),.s (iW 13),.s (qu 14),.o 1] [(qu 15),(qu 16)] []=true:=by kernel_rfl
theorem one1(kk pp oo fo nn z0 z1 mo da k0 k1 k2 fr my g0 h0:Int)(ng:Bool){gb go gc:Nat}{w0:World}(hst:SS w0) (hgb:gb<w0.heap.size)(hrd: ∀(i:Nat) (x:Value),([(.int .u8 g0),(.int .u8 h0)]:List Value)[i]? =some x->w0.cell? ⟨gb,go+i,none⟩=some x)(hbx: ∃x,w0.heap[gb]? =some x):
 ∀w,Below w0.heap.size w0 w->Calls Tryz.prog 19 #[.agg #[(.int .u8 kk),(.int .u8 pp),(.int .u8 oo),(.int .u8 fo),(.bool ng),(.int .u16 nn),(.int .u8 z0),(.int .u8 z1),(.int .u8 mo),(.int .u8 da),(.int .u8 k0),(.int .u8 k1),(.int .u8 k2),(.int .i16 fr),(.int .u8 my),.slice (some ⟨gb,go,none⟩) 1 gc]] w fun e w'=>Below w.heap.size w w'/\((((Int.tmod oo 4)==1)=true->((((Int.tmod oo 4)==2)=true->False)/\(((Int.tmod oo 4)==2)=false->(Ans w0.heap.size [.inl (.int .u8 1),.inr 1,.inl (.bool false),.inl (.bool false),.inl (.string ⟨#[]⟩),.inl (.int .i64 0),.inl (.int .i64 0),.inl (.string ⟨#[]⟩),.inl (.string ⟨#[]⟩),.inl (.int .u8 0),.inl (.int .u8 0),.inl (.int .u8 0),.inl (.int .u8 0),.inl (.int .i8 0),.inl (.int .i64 0),.inl (.int .i8 0),.inl (.int .i64 0)] [(.int .i8 (-1)),(.int .i64 0),(.int .i8 0),(.int .i64 (IntKind.i64.wrap ((IntKind.i64.wrap fr)+(IntKind.i64.wrap h0))))] e w'))))/\(((Int.tmod oo 4)==1)=false->((((Int.tmod oo 4)==2)=true->(Ans w0.heap.size [.inl (.int .u8 1),.inr 1,.inl (.bool false),.inl (.bool false),.inl (.string ⟨#[]⟩),.inl (.int .i64 0),.inl (.int .i64 0),.inl (.string ⟨#[]⟩),.inl (.string ⟨#[]⟩),.inl (.int .u8 0),.inl (.int .u8 0),.inl (.int .u8 0),.inl (.int .u8 0),.inl (.int .i8 0),.inl (.int .i64 0),.inl (.int .i8 0),.inl (.int .i64 0)] [(.int .i8 0),(.int .i64 (IntKind.i64.wrap fr)),(.int .i8 1),(.int .i64 0)] e w'))/\(((Int.tmod oo 4)==2)=false->(Ans w0.heap.size [.inl (.int .u8 1),.inr 1,.inl (.bool false),.inl (.bool false),.inl (.string ⟨#[]⟩),.inl (.int .i64 0),.inl (.int .i64 0),.inl (.string ⟨#[]⟩),.inl (.string ⟨#[]⟩),.inl (.int .u8 0),.inl (.int .u8 0),.inl (.int .u8 0),.inl (.int .u8 0),.inl (.int .i8 0),.inl (.int .i64 0),.inl (.int .i8 0),.inl (.int .i64 0)] [(.int .i8 0),(.int .i64 (IntKind.i64.wrap fr)),(.int .i8 0),(.int .i64 (IntKind.i64.wrap ((IntKind.i64.wrap fr)+(IntKind.i64.wrap h0))))] e w'))))):=
 rV (c:=gc) (PP:=fun e w'=>((((Int.tmod oo 4)==1)=true->((((Int.tmod oo 4)==2)=true->False)/\(((Int.tmod oo 4)==2)=false->(Ans w0.heap.size [.inl (.int .u8 1),.inr 1,.inl (.bool false),.inl (.bool false),.inl (.string ⟨#[]⟩),.inl (.int .i64 0),.inl (.int .i64 0),.inl (.string ⟨#[]⟩),.inl (.string ⟨#[]⟩),.inl (.int .u8 0),.inl (.int .u8 0),.inl (.int .u8 0),.inl (.int .u8 0),.inl (.int .i8 0),.inl (.int .i64 0),.inl (.int .i8 0),.inl (.int .i64 0)] [(.int .i8 (-1)),(.int .i64 0),(.int .i8 0),(.int .i64 (IntKind.i64.wrap ((IntKind.i64.wrap fr)+(IntKind.i64.wrap h0))))] e w'))))/\(((Int.tmod oo 4)==1)=false->((((Int.tmod oo 4)==2)=true->(Ans w0.heap.size [.inl (.int .u8 1),.inr 1,.inl (.bool false),.inl (.bool false),.inl (.string ⟨#[]⟩),.inl (.int .i64 0),.inl (.int .i64 0),.inl (.string ⟨#[]⟩),.inl (.string ⟨#[]⟩),.inl (.int .u8 0),.inl (.int .u8 0),.inl (.int .u8 0),.inl (.int .u8 0),.inl (.int .i8 0),.inl (.int .i64 0),.inl (.int .i8 0),.inl (.int .i64 0)] [(.int .i8 0),(.int .i64 (IntKind.i64.wrap fr)),(.int .i8 1),(.int .i64 0)] e w'))/\(((Int.tmod oo 4)==2)=false->(Ans w0.heap.size [.inl (.int .u8 1),.inr 1,.inl (.bool false),.inl (.bool false),.inl (.string ⟨#[]⟩),.inl (.int .i64 0),.inl (.int .i64 0),.inl (.string ⟨#[]⟩),.inl (.string ⟨#[]⟩),.inl (.int .u8 0),.inl (.int .u8 0),.inl (.int .u8 0),.inl (.int .u8 0),.inl (.int .i8 0),.inl (.int .i64 0),.inl (.int .i8 0),.inl (.int .i64 0)] [(.int .i8 0),(.int .i64 (IntKind.i64.wrap fr)),(.int .i8 0),(.int .i64 (IntKind.i64.wrap ((IntKind.i64.wrap fr)+(IntKind.i64.wrap h0))))] e w')))))) (aMo (.agg #[.int .u8 kk,.int .u8 pp,.int .u8 oo,.int .u8 fo,.bool ng,.int .u16 nn,.int .u8 z0,.int .u8 z1,.int .u8 mo,.int .u8 da,.int .u8 k0,.int .u8 k1,.int .u8 k2,.int .i16 fr,.int .u8 my,.int .u8 g0,.int .u8 h0])) (jP w0) hst .nil .nil (show((((Int.tmod oo 4)==1)=true->((((Int.tmod oo 4)==2)=true->False)/\(((Int.tmod oo 4)==2)=false->True)))/\(((Int.tmod oo 4)==1)=false->((((Int.tmod oo 4)==2)=true->True)/\(((Int.tmod oo 4)==2)=false->True))))from⟨fun h0=>⟨fun h1=>(by simp only[aFZ,aAO,aFK,aD5]at *;omega),fun h1=>trivial⟩,fun h0=>⟨fun h1=>trivial,fun h1=>trivial⟩⟩) hgb hrd hbx (by kernel_rfl)
def aKL:FT:=(.node 0 uV (.v (.int .u8 1)) (.node 0 uV (.v (.int .u8 2)) FT.no (.leaf (QK 2) [(.v (.int .i8 (-1))),qz,q8,yo8,q8,OV,q8,TM])) (.node 0 uV (.v (.int .u8 2)) (.leaf (QK 2) [q8,yo7,q8,yo8,q8,OV,(.v (.int .i8 1)),qz]) (.leaf (QK 2) [q8,yo7,q8,yo8,q8,OV,q8,TM])))
theorem aMn(l:Value):aKL.ok tb2 l [] [] hp 60 LG 19 [.s (qu 0),.s (qu 1),.s (qu 2),.s (qu 3),.s (qb 4),.s (kR 5),.s (qu 6),.s (qu 7),.s (qu 8),.s (qu 9),.s (qu 10),.s (qu 11),.s (qu 12),.s (iW 13),.s (qu 14),.o 2] [(qu 15),(qu 16),(qu 17),(qu 18)] []=true:=by kernel_rfl
theorem aVP(kk pp oo fo nn z0 z1 mo da k0 k1 k2 fr my g0 h0 g1 h1:Int)(ng:Bool){gb go gc:Nat}{w0:World}(hst:SS w0) (hgb:gb<w0.heap.size)(hrd: ∀(i:Nat) (x:Value),([(.int .u8 g0),(.int .u8 h0),(.int .u8 g1),(.int .u8 h1)]:List Value)[i]? =some x->w0.cell? ⟨gb,go+i,none⟩=some x)(hbx: ∃x,w0.heap[gb]? =some x):
 ∃lt:Value,∀w,Below w0.heap.size w0 w->Calls Tryz.prog 19 #[.agg #[(.int .u8 kk),(.int .u8 pp),(.int .u8 oo),(.int .u8 fo),(.bool ng),(.int .u16 nn),(.int .u8 z0),(.int .u8 z1),(.int .u8 mo),(.int .u8 da),(.int .u8 k0),(.int .u8 k1),(.int .u8 k2),(.int .i16 fr),(.int .u8 my),.slice (some ⟨gb,go,none⟩) 2 gc]] w fun e w'=>Below w.heap.size w w'/\aKL.post lt (fun cs row=>Ans w0.heap.size (cs.map (AC.val lt)) (row.map (dS lt)) e w'):=
 BD (c:=gc) (aMn (.agg #[.int .u8 kk,.int .u8 pp,.int .u8 oo,.int .u8 fo,.bool ng,.int .u16 nn,.int .u8 z0,.int .u8 z1,.int .u8 mo,.int .u8 da,.int .u8 k0,.int .u8 k1,.int .u8 k2,.int .i16 fr,.int .u8 my,.int .u8 g0,.int .u8 h0,.int .u8 g1,.int .u8 h1])) (jP w0) hst .nil .nil (show((((Int.tmod oo 4)==1)=true->((((Int.tmod oo 4)==2)=true->False)/\(((Int.tmod oo 4)==2)=false->True)))/\(((Int.tmod oo 4)==1)=false->((((Int.tmod oo 4)==2)=true->True)/\(((Int.tmod oo 4)==2)=false->True))))from⟨fun h0=>⟨fun h1=>(by simp only[aFZ,aAO,aFK,aD5]at *;omega),fun h1=>trivial⟩,fun h0=>⟨fun h1=>trivial,fun h1=>trivial⟩⟩) hgb hrd hbx (by kernel_rfl)
def aKK:FT:=(.node 0 uV (.v (.int .u8 1)) (.node 0 uV (.v (.int .u8 2)) FT.no (.leaf (QK 3) [(.v (.int .i8 (-1))),qz,q8,yo8,q8,OV,q8,TM,q8,aAR,q8,aEd])) (.node 0 uV (.v (.int .u8 2)) (.leaf (QK 3) [q8,yo7,q8,yo8,q8,OV,q8,TM,q8,aAR,(.v (.int .i8 1)),qz]) (.leaf (QK 3) [q8,yo7,q8,yo8,q8,OV,q8,TM,q8,aAR,q8,aEd])))
theorem aMm(l:Value):aKK.ok tb2 l [] [] hp 60 LG 19 [.s (qu 0),.s (qu 1),.s (qu 2),.s (qu 3),.s (qb 4),.s (kR 5),.s (qu 6),.s (qu 7),.s (qu 8),.s (qu 9),.s (qu 10),.s (qu 11),.s (qu 12),.s (iW 13),.s (qu 14),.o 3] [(qu 15),(qu 16),(qu 17),(qu 18),(qu 19),(qu 20)] []=true:=by kernel_rfl
theorem aVO(kk pp oo fo nn z0 z1 mo da k0 k1 k2 fr my g0 h0 g1 h1 g2 h2:Int)(ng:Bool){gb go gc:Nat}{w0:World}(hst:SS w0) (hgb:gb<w0.heap.size)(hrd: ∀(i:Nat) (x:Value),([(.int .u8 g0),(.int .u8 h0),(.int .u8 g1),(.int .u8 h1),(.int .u8 g2),(.int .u8 h2)]:List Value)[i]? =some x->w0.cell? ⟨gb,go+i,none⟩=some x)(hbx: ∃x,w0.heap[gb]? =some x):
 ∃lt:Value,∀w,Below w0.heap.size w0 w->Calls Tryz.prog 19 #[.agg #[(.int .u8 kk),(.int .u8 pp),(.int .u8 oo),(.int .u8 fo),(.bool ng),(.int .u16 nn),(.int .u8 z0),(.int .u8 z1),(.int .u8 mo),(.int .u8 da),(.int .u8 k0),(.int .u8 k1),(.int .u8 k2),(.int .i16 fr),(.int .u8 my),.slice (some ⟨gb,go,none⟩) 3 gc]] w fun e w'=>Below w.heap.size w w'/\aKK.post lt (fun cs row=>Ans w0.heap.size (cs.map (AC.val lt)) (row.map (dS lt)) e w'):=
 BD (c:=gc) (aMm (.agg #[.int .u8 kk,.int .u8 pp,.int .u8 oo,.int .u8 fo,.bool ng,.int .u16 nn,.int .u8 z0,.int .u8 z1,.int .u8 mo,.int .u8 da,.int .u8 k0,.int .u8 k1,.int .u8 k2,.int .i16 fr,.int .u8 my,.int .u8 g0,.int .u8 h0,.int .u8 g1,.int .u8 h1,.int .u8 g2,.int .u8 h2])) (jP w0) hst .nil .nil (show((((Int.tmod oo 4)==1)=true->((((Int.tmod oo 4)==2)=true->False)/\(((Int.tmod oo 4)==2)=false->True)))/\(((Int.tmod oo 4)==1)=false->((((Int.tmod oo 4)==2)=true->True)/\(((Int.tmod oo 4)==2)=false->True))))from⟨fun h0=>⟨fun h1=>(by simp only[aFZ,aAO,aFK,aD5]at *;omega),fun h1=>trivial⟩,fun h0=>⟨fun h1=>trivial,fun h1=>trivial⟩⟩) hgb hrd hbx (by kernel_rfl)
def aKJ:FT:=(.node 0 uV (.v (.int .u8 1)) (.node 0 uV (.v (.int .u8 2)) FT.no (.leaf (QK 4) aR7)) (.node 0 uV (.v (.int .u8 2)) (.leaf (QK 4) aR8) (.leaf (QK 4) aR9)))
theorem aMl(l:Value):aKJ.ok tb2 l [] [] hp 60 LG 19 [.s (qu 0),.s (qu 1),.s (qu 2),.s (qu 3),.s (qb 4),.s (kR 5),.s (qu 6),.s (qu 7),.s (qu 8),.s (qu 9),.s (qu 10),.s (qu 11),.s (qu 12),.s (iW 13),.s (qu 14),.o 4] aSa []=true:=by kernel_rfl
theorem aVN(kk pp oo fo nn z0 z1 mo da k0 k1 k2 fr my g0 h0 g1 h1 g2 h2 g3 h3:Int)(ng:Bool){gb go gc:Nat}{w0:World}(hst:SS w0) (hgb:gb<w0.heap.size)(hrd: ∀(i:Nat) (x:Value),([(.int .u8 g0),(.int .u8 h0),(.int .u8 g1),(.int .u8 h1),(.int .u8 g2),(.int .u8 h2),(.int .u8 g3),(.int .u8 h3)]:List Value)[i]? =some x->w0.cell? ⟨gb,go+i,none⟩=some x)(hbx: ∃x,w0.heap[gb]? =some x):
 ∃lt:Value,∀w,Below w0.heap.size w0 w->Calls Tryz.prog 19 #[.agg #[(.int .u8 kk),(.int .u8 pp),(.int .u8 oo),(.int .u8 fo),(.bool ng),(.int .u16 nn),(.int .u8 z0),(.int .u8 z1),(.int .u8 mo),(.int .u8 da),(.int .u8 k0),(.int .u8 k1),(.int .u8 k2),(.int .i16 fr),(.int .u8 my),.slice (some ⟨gb,go,none⟩) 4 gc]] w fun e w'=>Below w.heap.size w w'/\aKJ.post lt (fun cs row=>Ans w0.heap.size (cs.map (AC.val lt)) (row.map (dS lt)) e w'):=
 BD (c:=gc) (aMl (.agg #[.int .u8 kk,.int .u8 pp,.int .u8 oo,.int .u8 fo,.bool ng,.int .u16 nn,.int .u8 z0,.int .u8 z1,.int .u8 mo,.int .u8 da,.int .u8 k0,.int .u8 k1,.int .u8 k2,.int .i16 fr,.int .u8 my,.int .u8 g0,.int .u8 h0,.int .u8 g1,.int .u8 h1,.int .u8 g2,.int .u8 h2,.int .u8 g3,.int .u8 h3])) (jP w0) hst .nil .nil (show((((Int.tmod oo 4)==1)=true->((((Int.tmod oo 4)==2)=true->False)/\(((Int.tmod oo 4)==2)=false->True)))/\(((Int.tmod oo 4)==1)=false->((((Int.tmod oo 4)==2)=true->True)/\(((Int.tmod oo 4)==2)=false->True))))from⟨fun h0=>⟨fun h1=>(by simp only[aFZ,aAO,aFK,aD5]at *;omega),fun h1=>trivial⟩,fun h0=>⟨fun h1=>trivial,fun h1=>trivial⟩⟩) hgb hrd hbx (by kernel_rfl)
def aKI:FT:=(.node 0 uV (.v (.int .u8 1)) (.node 0 uV (.v (.int .u8 2)) FT.no (.leaf (QK 4) aR7)) (.node 0 uV (.v (.int .u8 2)) (.leaf (QK 4) aR8) (.leaf (QK 4) aR9)))
theorem aMk(l:Value)(m:Nat):aKI.ok tb2 l [] [] hp 60 LG 19 [.s (qu 0),.s (qu 1),.s (qu 2),.s (qu 3),.s (qb 4),.s (kR 5),.s (qu 6),.s (qu 7),.s (qu 8),.s (qu 9),.s (qu 10),.s (qu 11),.s (qu 12),.s (iW 13),.s (qu 14),.o (m+5)] aSa []=true:=by kernel_rfl
theorem aVM(kk pp oo fo nn z0 z1 mo da k0 k1 k2 fr my g0 h0 g1 h1 g2 h2 g3 h3:Int)(ng:Bool)(m:Nat){gb go gc:Nat}{w0:World}(hst:SS w0) (hgb:gb<w0.heap.size)(hrd: ∀(i:Nat) (x:Value),([(.int .u8 g0),(.int .u8 h0),(.int .u8 g1),(.int .u8 h1),(.int .u8 g2),(.int .u8 h2),(.int .u8 g3),(.int .u8 h3)]:List Value)[i]? =some x->w0.cell? ⟨gb,go+i,none⟩=some x)(hbx: ∃x,w0.heap[gb]? =some x):
 ∃lt:Value,∀w,Below w0.heap.size w0 w->Calls Tryz.prog 19 #[.agg #[(.int .u8 kk),(.int .u8 pp),(.int .u8 oo),(.int .u8 fo),(.bool ng),(.int .u16 nn),(.int .u8 z0),(.int .u8 z1),(.int .u8 mo),(.int .u8 da),(.int .u8 k0),(.int .u8 k1),(.int .u8 k2),(.int .i16 fr),(.int .u8 my),.slice (some ⟨gb,go,none⟩) (m+5) gc]] w fun e w'=>Below w.heap.size w w'/\aKI.post lt (fun cs row=>Ans w0.heap.size (cs.map (AC.val lt)) (row.map (dS lt)) e w'):=
 BD (c:=gc) (aMk (.agg #[.int .u8 kk,.int .u8 pp,.int .u8 oo,.int .u8 fo,.bool ng,.int .u16 nn,.int .u8 z0,.int .u8 z1,.int .u8 mo,.int .u8 da,.int .u8 k0,.int .u8 k1,.int .u8 k2,.int .i16 fr,.int .u8 my,.int .u8 g0,.int .u8 h0,.int .u8 g1,.int .u8 h1,.int .u8 g2,.int .u8 h2,.int .u8 g3,.int .u8 h3]) m) (jP w0) hst .nil .nil (show((((Int.tmod oo 4)==1)=true->((((Int.tmod oo 4)==2)=true->False)/\(((Int.tmod oo 4)==2)=false->True)))/\(((Int.tmod oo 4)==1)=false->((((Int.tmod oo 4)==2)=true->True)/\(((Int.tmod oo 4)==2)=false->True))))from⟨fun h0=>⟨fun h1=>(by simp only[aFZ,aAO,aFK,aD5]at *;omega),fun h1=>trivial⟩,fun h0=>⟨fun h1=>trivial,fun h1=>trivial⟩⟩) hgb hrd hbx (by kernel_rfl)
end Sk
end
section
open Go.RowKit Go.Lib
namespace Sk
open Bk (Dt aW)
open Ev (aV dQ hp Ans aK7)
structure aKU(r:R4):Prop where
 a:r.a=0\/r.a= -1
 b:r.b=0\/r.b=1
 l0: -4611686018427387904<=r.lo
 l1:r.lo<=4611686018427387904
 h0: -4611686018427387904<=r.hi
 h1:r.hi<=4611686018427387904
 le:r.a=0->r.b=0->r.lo<=r.hi
def xA(w:World)(e:Ending)(w':World):Prop:= ∃bs n cp,∃f:Nat->R4,e=.returned (fam 1 (.slice bs n cp) z0 0 0 0 0 0)/\Below w.heap.size w w'/\wZ w' bs n f/\(∀j,(f j).Bd)/\n<=4/\(n=1->aKU (f 0))/\ ∀g o s,bs=some ⟨g,o,s⟩->w.heap.size<=g
def BQ:List R4->List Value
 |[]=>[]
 |r::t=>.int .i8 r.a:: .int .i64 r.lo:: .int .i8 r.b:: .int .i64 r.hi::BQ t
def aTu(n:Nat):List (Value ⊕ Nat):=[.inl (.int .u8 1),.inr n,.inl (.bool false),.inl (.bool false),.inl (.string ⟨#[]⟩),.inl (.int .i64 0),.inl (.int .i64 0),.inl (.string ⟨#[]⟩),.inl (.string ⟨#[]⟩),.inl (.int .u8 0),.inl (.int .u8 0),.inl (.int .u8 0),.inl (.int .u8 0),.inl (.int .i8 0),.inl (.int .i64 0),.inl (.int .i8 0),.inl (.int .i64 0)]
def aD9:List R4->Prop
 |[]=>True
 |r::t=>r.Bd/\aD9 t
theorem aGt: ∀ {l:List R4},aD9 l-> ∀r ∈ l,r.Bd:=by
 intro l
 induction l with
 |nil=>intro _ r hr;cases hr
 |cons x l ih=>
  rintro⟨h1,h2⟩ r hr;rcases aG4.1 hr with rfl|hr
  . exact h1
  exact ih h2 r hr
theorem aJA : ∀(l:List R4) (i:Nat) (r:R4),l[i]? =some r->(BQ l)[i * 4]? =some (.int .i8 r.a)/\(BQ l)[i * 4+1]? =some (.int .i64 r.lo)/\(BQ l)[i * 4+2]? =some (.int .i8 r.b)/\(BQ l)[i * 4+3]? =some (.int .i64 r.hi):=by
 intro l
 induction l with
 |nil=>intro i r h;simp at h
 | cons x l ih=>
  intro i r h
  cases i with
  | zero => obtain rfl:x=r:=by simpa using h
            simp[BQ]
  |succ i=>
   have:=ih i r (by simpa using h);rw[show (i+1) * 4=i * 4+4 by omega];simpa[BQ]using this
theorem aNQ:(R4.mk 0 0 0 0).Bd:=⟨by decide,by decide,by decide,by decide⟩
theorem tN{rs:List R4}{w w':World}{e:Ending}(hb:Below w.heap.size w w')(h:Ans w.heap.size (aTu rs.length) (BQ rs) e w')(hB:aD9 rs)(h4:rs.length<=4)(h1: ∀r,rs=[r]->aKU r):xA w e w':=by
 obtain⟨vs,rfl,hl⟩:=h
 match vs,hl with
 | [v0,v1,v2,v3,v4,v5,v6,v7,v8,v9,v10,v11,v12,v13,v14,v15,v16],⟨e0,⟨g,c,e1,⟨hgl,hg⟩,hc⟩,e2,e3,e4,e5,e6,e7,e8,e9,e10,e11,e12,e13,e14,e15,e16,_⟩=>
  subst e0 e1 e2 e3 e4 e5 e6 e7 e8 e9 e10 e11 e12 e13 e14 e15 e16;refine⟨some ⟨g,0,none⟩,rs.length,c,fun i=>rs[i]?.getD ⟨0,0,0,0⟩,rfl,hb,fun i hi=>?_,fun j=>?_,h4,fun hn=>?_,fun g' o' s' q=>by cases q;exact hgl⟩
  . obtain⟨q1,q2,q3,q4⟩:=aJA rs i _ (aGX hi);refine⟨g,0,rfl,hg,?_⟩;dsimp only;rw[aGX hi];simp only[aUx,aJU];exact⟨hc _ _ q1,hc _ _ q2,hc _ _ q3,hc _ _ q4⟩
  . dsimp only
    cases hr:rs[j]? with
    |none=>exact aNQ
    |some r=>exact aGt hB r (aOt hr)
  match rs,hn with
  |[r],_=>exact h1 r rfl
open Ev (AV AC FT dS aN jJ)
def aML:AV->Bool
 | .v (.int .i64 c)=>decide (-9223372036854775808<=c/\c<9223372036854775808)
 | .fn (.methodOf n _) (.v (.int .i64 0)::_) []=>n==2||n==7
 |_=>false
def is8:AV->Bool
 | .v (.int .i8 _)=>true
 |_=>false
def rowB:List AV->Bool
 |[]=>true
 |a::b::c::d::t=>is8 a&&aML b&&is8 c&&aML d&&rowB t
 |_=>false
theorem aJb{lt:Value}{a:AV}(h:is8 a=true): ∃q,dS lt a=.int .i8 q:=by
 unfold is8 at h
 split at h
 . exact⟨_,rfl⟩
 cases h
theorem aAj{c:Int}{v:Value}(hc: -9223372036854775808<=c/\c<9223372036854775808)(hv: ∀k x,v=.int k x-> ∃y,x=k.wrap y): ∃q,Ev.wY (.int .i64 c) v=.int .i64 q/\ -9223372036854775808<=q/\q<9223372036854775808:=by
 unfold Ev.wY
 split
 . rename_i h
   cases v with
   |int k x=>
    obtain rfl:k=.i64:=by cases k<;>first|rfl|cases h
    obtain⟨y,e⟩:=hv _ _ rfl;exact⟨x,rfl,by rw[e];exact mX y⟩
   |_=>cases h
 exact⟨c,rfl,hc⟩
theorem aDt{lt:Value}{a:AV}(h:aML a=true): ∃q,dS lt a=.int .i64 q/\ -9223372036854775808<=q/\q<9223372036854775808:=by
 unfold aML at h
 split at h
 . exact⟨_,rfl,by simpa using h⟩
 . rename_i n m l
   have hn:n=2\/n=7:=by simpa using h
   rcases hn with rfl|rfl
   . show ∃q,Ev.wY (.int .i64 0) (Ev.KW 1 (.int .i64 0) (Ev.dSL lt l))=.int .i64 q/\_;refine aAj (by omega) fun k x e=>?_;unfold Ev.KW at e
     split at e<;>first|(cases e;exact⟨_,rfl⟩)|(simp only[Value.int.injEq]at e;obtain⟨rfl,rfl⟩:=e;exact⟨0,by decide⟩)|(exfalso;simp_all)
   show ∃q,Ev.wY (.int .i64 0) (Ev.KW 6 (.int .i64 0) (Ev.dSL lt l))=.int .i64 q/\_;refine aAj (by omega) fun k x e=>?_;unfold Ev.KW at e
   split at e<;>first|(cases e;exact⟨_,rfl⟩)|(simp only[Value.int.injEq]at e;obtain⟨rfl,rfl⟩:=e;exact⟨0,by decide⟩)|(exfalso;simp_all)
 cases h
def aD1:List Value->Prop
 |[]=>True
 |a::b::c::d::t=>(∃qa ql qb qh,a=.int .i8 qa/\b=.int .i64 ql/\c=.int .i8 qb/\d=.int .i64 qh/\(R4.mk qa ql qb qh).Bd)/\aD1 t
 |_=>False
theorem aC8{lt:Value}: ∀(row:List AV),rowB row=true->aD1 (row.map (dS lt))
 |[],_=>trivial
 |[_],h=>by cases h
 |[_,_],h=>by cases h
 |[_,_,_],h=>by cases h
 |a::b::c::d::t,h=>by
  simp only[rowB,aFU]at h;obtain⟨⟨⟨⟨h1,h2⟩,h3⟩,h4⟩,h5⟩:=h;obtain⟨x1,e1⟩:=aJb (lt:=lt) h1;obtain⟨x2,e2,q2⟩:=aDt (lt:=lt) h2;obtain⟨x3,e3⟩:=aJb (lt:=lt) h3;obtain⟨x4,e4,q4⟩:=aDt (lt:=lt) h4;exact⟨⟨x1,x2,x3,x4,e1,e2,e3,e4,q2.1,q2.2,q4.1,q4.2⟩,aC8 t h5⟩
def aNn(n:Nat):FT->Prop
 | .leaf cs row=>cs=QK n/\rowB row=true/\row.length=4 * n
 | .no=>True
 | .node _ _ _ t f=>aNn n t/\aNn n f
theorem LC{n:Nat}{lt:Value}{J:List AC->List AV->Prop}: ∀T:FT,aNn n T->T.post lt J-> ∃row,J (QK n) row/\rowB row=true/\row.length=4 * n
 | .leaf cs row,h,j=>⟨row,h.1 ▸ j,h.2⟩
 | .no,_,j=>j.elim
 | .node c x y t f,h,j=>by
  cases hb:jJ c (dS lt x) (dS lt y)with
  |true=>exact LC t h.1 (j.1 hb)
  |false=>exact LC f h.2 (j.2 hb)
theorem KJ: ∀(n:Nat) (row:List Value),row.length=4 * n->aD1 row-> ∃rs:List R4,row=BQ rs/\rs.length=n/\aD9 rs
 |0,[],_,_=>⟨[],rfl,rfl,trivial⟩
 |n+1,a::b::c::d::t,hl,⟨⟨qa,ql,qb,qh,e0,e1,e2,e3,hB⟩,ht⟩=>by
  obtain⟨rs,h1,h2,h3⟩:=KJ n t (by simp at hl;omega) ht;subst e0 e1 e2 e3;exact⟨⟨qa,ql,qb,qh⟩::rs,by rw[h1];rfl,by simp[h2],hB,h3⟩
theorem aH9{n:Nat}{row:List Value}{w w':World}{e:Ending}(hb:Below w.heap.size w w')(h:Ans w.heap.size (aTu n) row e w')(hB:aD1 row)(h4:row.length=4 * n/\n<=4)(h1:n≠1):xA w e w':=by
 obtain⟨rs,rfl,hl,hA⟩:=KJ n row h4.1 hB;subst hl;exact tN hb h hA h4.2 (fun r hr=>absurd (by rw[hr];rfl) h1)
theorem BA{n:Nat}{T:FT}{lt:Value}{w w':World}{e:Ending}(hb:Below w.heap.size w w')(h:T.post lt (fun cs row=>Ans w.heap.size (cs.map (AC.val lt)) (row.map (dS lt)) e w'))(hT:aNn n T)(h4:n<=4)(h1:n≠1):xA w e w':=by
 obtain⟨row,q,hB,hl⟩:=LC T hT h;exact aH9 (n:=n) hb q (aC8 row hB) ⟨by rw[aLD,hl],h4⟩ h1
theorem aOh{x:Int}{A B C:Prop}(h:(((x==1)=true->(((x==2)=true->False)/\((x==2)=false->A)))/\((x==1)=false->(((x==2)=true->B)/\((x==2)=false->C))))):A\/B\/C:=by
 by_cases h1:x=1
 . exact .inl ((h.1 (by simpa using h1)).2 (by simp;omega))
 have h2:=h.2 (by simpa using h1)
 by_cases h3:x=2
 . exact .inr (.inl (h2.1 (by simpa using h3)))
 exact .inr (.inr (h2.2 (by simpa using h3)))
theorem YC{w:World}{g o m:Nat}{b:Nat->Int}(h: ∀i,i<m->w.cell? ⟨g,o+i,none⟩=some (.int .u8 (b i))){L:List Value}(k:Nat)(hL:L=(List.range k).map fun i=>.int .u8 (b i))(hk:k<=m): ∀(i:Nat) (x:Value),L[i]? =some x->w.cell? ⟨g,o+i,none⟩=some x:=by
 intro i x hx;subst hL;rw[aG0]at hx
 by_cases c:i<k
 . rw[aRw c]at hx;obtain rfl:=aLh hx;exact h i (by omega)
 rw[aRG (by simp;omega)]at hx;cases hx
def fArg(kk pp oo fo:Int)(ng:Bool)(nn z0 z1 mo da k0 k1 k2 fr my:Int)(v:Value):List Value:=[.int .u8 kk,.int .u8 pp,.int .u8 oo,.int .u8 fo,.bool ng,.int .u16 nn,.int .u8 z0,.int .u8 z1,.int .u8 mo,.int .u8 da,.int .u8 k0,.int .u8 k1,.int .u8 k2,.int .i16 fr,.int .u8 my,v]
def OG(w:World)(bs:Option Addr)(n:Nat):Prop:=0<n-> ∃g o,∃b:Nat->Int,bs=some ⟨g,o,none⟩/\g<w.heap.size/\(∃x,w.heap[g]? =some x)/\(∀i,i<2 * n->w.cell? ⟨g,o+i,none⟩=some (.int .u8 (b i)))/\ ∀i,0<=b i/\b i<256
theorem one_any{kk pp oo fo nn z0' z1 mo da k0 k1 k2 fr my:Int}{ng:Bool}{bs:Option Addr}{n cp:Nat}{w0:World}(hst:SS w0)(hp:OG w0 bs n)(f0: -32768<=fr)(f1:fr<32768)(m0:0<=my)(m1:my<256)(h00:0<w0.heap.size)(h01: ∃x,w0.heap[0]? =some x):
 Calls Tryz.prog 19 #[.agg (fArg kk pp oo fo ng nn z0' z1 mo da k0 k1 k2 fr my (.slice bs n cp)).toArray] w0 (xA w0):=by
 have hb:=aAL w0.heap.size w0;have wf:IntKind.i64.wrap fr=fr:=by rw[aGZ];omega
 have wm:IntKind.i64.wrap my=my:=by rw[aGZ];omega
 have wfm:IntKind.i64.wrap (fr+my)=fr+my:=by rw[aGZ];omega
 by_cases hn:n=0
 . refine(aVQ kk pp oo fo nn z0' z1 mo da k0 k1 k2 fr my ng bs n cp (gb:=0) (go:=0) (gc:=0) hst hn h00 (fun i x h=>by simp at h) h01 w0 hb).mono ?_;rintro e w' ⟨hb',h⟩;have h:=h.2 (aCw (by omega));rw[wf,wm,wfm]at h;rcases aOh h with h|h|h
   . exact tN (rs:=[⟨-1,0,0,fr+my⟩]) hb' h ⟨⟨by show _<=(0:Int);omega,by show(0:Int)<_;omega,by show _<=fr+my;omega,by show fr+my<_;omega⟩,trivial⟩ (by simp) (fun r hr=>by
      obtain rfl:_=r:=by simpa using hr
      exact⟨.inr rfl,.inl rfl,by show _<=(0:Int);omega,by show(0:Int)<=_;omega,by show _<=fr+my;omega,by show fr+my<=_;omega,fun q=>by cases q⟩)
   . exact tN (rs:=[⟨0,fr,1,0⟩]) hb' h ⟨⟨by show _<=fr;omega,by show fr<_;omega,by show _<=(0:Int);omega,by show(0:Int)<_;omega⟩,trivial⟩ (by simp) (fun r hr=>by
      obtain rfl:_=r:=by simpa using hr
      exact⟨.inl rfl,.inr rfl,by show _<=fr;omega,by show fr<=_;omega,by show _<=(0:Int);omega,by show(0:Int)<=_;omega,fun _ q=>by cases q⟩)
   exact tN (rs:=[⟨0,fr,0,fr+my⟩]) hb' h ⟨⟨by show _<=fr;omega,by show fr<_;omega,by show _<=fr+my;omega,by show fr+my<_;omega⟩,trivial⟩ (by simp) (fun r hr=>by
    obtain rfl:_=r:=by simpa using hr
    exact⟨.inl rfl,.inl rfl,by show _<=fr;omega,by show fr<=_;omega,by show _<=fr+my;omega,by show fr+my<=_;omega,fun _ _=>by show fr<=fr+my;omega⟩)
 obtain⟨g,o,b,rfl,hg,hx,hc,hbd⟩:=hp (by omega);have b1:=hbd 1;have w1:IntKind.i64.wrap (b 1)=b 1:=by rw[aGZ];omega
 have wf1:IntKind.i64.wrap (fr+b 1)=fr+b 1:=by rw[aGZ];omega
 by_cases h1:n=1
 . subst h1;refine(one1 kk pp oo fo nn z0' z1 mo da k0 k1 k2 fr my (b 0) (b 1) ng (gb:=g) (go:=o) (gc:=cp) hst hg (YC hc 2 rfl (by omega)) hx w0 hb).mono ?_;rintro e w' ⟨hb',h⟩;rw[wf,w1,wf1]at h;rcases aOh h with h|h|h
   . exact tN (rs:=[⟨-1,0,0,fr+b 1⟩]) hb' h ⟨⟨by show _<=(0:Int);omega,by show(0:Int)<_;omega,by show _<=fr+b 1;omega,by show fr+b 1<_;omega⟩,trivial⟩ (by simp) (fun r hr=>by
      obtain rfl:_=r:=by simpa using hr
      exact⟨.inr rfl,.inl rfl,by show _<=(0:Int);omega,by show(0:Int)<=_;omega,by show _<=fr+b 1;omega,by show fr+b 1<=_;omega,fun q=>by cases q⟩)
   . exact tN (rs:=[⟨0,fr,1,0⟩]) hb' h ⟨⟨by show _<=fr;omega,by show fr<_;omega,by show _<=(0:Int);omega,by show(0:Int)<_;omega⟩,trivial⟩ (by simp) (fun r hr=>by
      obtain rfl:_=r:=by simpa using hr
      exact⟨.inl rfl,.inr rfl,by show _<=fr;omega,by show fr<=_;omega,by show _<=(0:Int);omega,by show(0:Int)<=_;omega,fun _ q=>by cases q⟩)
   exact tN (rs:=[⟨0,fr,0,fr+b 1⟩]) hb' h ⟨⟨by show _<=fr;omega,by show fr<_;omega,by show _<=fr+b 1;omega,by show fr+b 1<_;omega⟩,trivial⟩ (by simp) (fun r hr=>by
    obtain rfl:_=r:=by simpa using hr
    exact⟨.inl rfl,.inl rfl,by show _<=fr;omega,by show fr<=_;omega,by show _<=fr+b 1;omega,by show fr+b 1<=_;omega,fun _ _=>by show fr<=fr+b 1;omega⟩)
 by_cases h2:n=2
 . subst h2;obtain⟨lt,H⟩:=aVP kk pp oo fo nn z0' z1 mo da k0 k1 k2 fr my (b 0) (b 1) (b 2) (b 3) ng (gb:=g) (go:=o) (gc:=cp) hst hg (YC hc 4 rfl (by omega)) hx;refine(H w0 hb).mono ?_;rintro e w' ⟨hb',h⟩;exact BA hb' h ⟨⟨trivial,rfl,rfl,rfl⟩,⟨rfl,rfl,rfl⟩,rfl,rfl,rfl⟩ (n:=2) (by omega) (by omega)
 by_cases h3:n=3
 . subst h3;obtain⟨lt,H⟩:=aVO kk pp oo fo nn z0' z1 mo da k0 k1 k2 fr my (b 0) (b 1) (b 2) (b 3) (b 4) (b 5) ng (gb:=g) (go:=o) (gc:=cp) hst hg (YC hc 6 rfl (by omega)) hx;refine(H w0 hb).mono ?_;rintro e w' ⟨hb',h⟩;exact BA hb' h ⟨⟨trivial,rfl,rfl,rfl⟩,⟨rfl,rfl,rfl⟩,rfl,rfl,rfl⟩ (n:=3) (by omega) (by omega)
 by_cases h4:n=4
 . subst h4;obtain⟨lt,H⟩:=aVN kk pp oo fo nn z0' z1 mo da k0 k1 k2 fr my (b 0) (b 1) (b 2) (b 3) (b 4) (b 5) (b 6) (b 7) ng (gb:=g) (go:=o) (gc:=cp) hst hg (YC hc 8 rfl (by omega)) hx;refine(H w0 hb).mono ?_;rintro e w' ⟨hb',h⟩;exact BA hb' h ⟨⟨trivial,rfl,rfl,rfl⟩,⟨rfl,rfl,rfl⟩,rfl,rfl,rfl⟩ (n:=4) (by omega) (by omega)
 obtain⟨m,rfl⟩: ∃m,n=m+5:=⟨n - 5,by omega⟩;obtain⟨lt,H⟩:=aVM kk pp oo fo nn z0' z1 mo da k0 k1 k2 fr my (b 0) (b 1) (b 2) (b 3) (b 4) (b 5) (b 6) (b 7) ng m (gb:=g) (go:=o) (gc:=cp) hst hg (YC hc 8 rfl (by omega)) hx;refine(H w0 hb).mono ?_;rintro e w' ⟨hb',h⟩;exact BA hb' h ⟨⟨trivial,rfl,rfl,rfl⟩,⟨rfl,rfl,rfl⟩,rfl,rfl,rfl⟩ (n:=4) (by omega) (by omega)
end Sk
end
section
open Go.RowKit Go.Lib
namespace Sk
open Ev (aV DT LG dQ aQ hp uY iW iV lT kR OJ FQ lY aN AV yJ rG dS aG aJ eG kX lX dU Lf PD dY aT fV)
open Bk (Dt aW)
abbrev oH:List AV:=[lT 0,lY 1,OJ 2,OJ 3,FQ 4,iV 5,iV 6,FQ 7,FQ 8,lT 9,lT 10,lT 11,lT 12,uY 13,iV 14,uY 15,iV 16]
noncomputable def kJ:Code:=match(Tryz.f4).body with
 |some c=>c
 |none=>.skip
def yp0:AV:=rK (qe 18) (qi 19) q8 (qi 20)
def yp1:AV:=rK (qe 21) (qi 22) (qe 23) (qi 24)
def yp2:AV:=aN 1 .i64 [(qi 17),(.v (.int .i64 1))]
def yp3:List AV:=[(qe 18),(qi 19),(.v (.int .i8 1)),(qi 20)]
def yp4:List AV:=[(.v (.int .i8 (-1))),(qi 18),(qe 19),(qi 20)]
def JF:List AV:=[(qu 0),(lY 1),(qb 2),(qb 3),(qs 4),(qi 5),(qi 6),(qs 7),(qs 8),(qu 9),(qu 10),(qu 11),(qu 12),(qe 13),(qi 14),(qe 15),(qi 16)]
def aNz:lX:=(.node 1 qz (qi 17) (.node 0 (qi 17) qz lX.no (.leaf .ret [(2,.s qt)] [(44,JF)])) lX.no)
theorem aIm(l:Value):aNz.ok dQ l [] [(7,[gY (qu 0)],(qi 17)),(8,[gY (qu 0)],(qi 17)),(9,[],qt)] hp 60 LG 146 60 3 (aT [1,1] kJ) [(2,.s qf),(3,.p 0)] [(44,oH)] []=true:=by kernel_rfl
theorem aSo(k:Int)(bs:Option Addr)(n cp:Nat)(d:Dt)(p a lo b hi:Int)(c:Int){w0 w:World}{P:List Nat}{a0:Act}{Q:Exit->Act->World->Prop}(hst:SS w0) (H0:Same w0 7 #[(fam k (.slice bs n cp) d p a lo b hi)] (.int .i64 c))(H1:Same w0 8 #[(fam k (.slice bs n cp) d p a lo b hi)] (.int .i64 c))(H2:Same w0 9 #[] (.bool true))(hw:dU w0 146 P [(44,(lF k (.slice bs n cp) d p a lo b hi))] [(2,(.bool false)),(3,.pointer (some ⟨P.getD 0 0,0,none⟩))] a0 w)(HP:(((decide (0<c))=true->(((c==0)=true->False)/\((c==0)=false->Lf w0 146 P [(44,(lF k (.slice bs n cp) d p a lo b hi))] (fun P=>[(2,(.bool true))]) (PD Tryz.prog Q 3 (aT [1,1] kJ) .ret))))/\((decide (0<c))=false->False))):(aT [1,1] kJ).wp Tryz.prog Q a0 w:=
 dY (aIm (lv (lF k (.slice bs n cp) d p a lo b hi) [.int .i64 c])) (aQ w0) hst .nil (.cons H0 (.cons H1 (.cons H2 .nil))) hw HP (by kernel_rfl)
def aKz:lX:=(.leaf .normal [(2,.s qf),(3,.p 0),(4,.p 1),(5,.s (qb 21))] [(44,JF),(42,[(qe 17),(qi 18),(qe 19),(qi 20)])])
theorem aFi(l:Value):aKz.ok dQ l [] [(7,[gY (qu 0)],qz),(12,[gY (qu 0)],.aS [(rK (qe 17) (qi 18) (qe 19) (qi 20)),(qb 21),qz])] hp 60 LG 146 60 3 (aT [1,1] kJ) [(2,.s qf),(3,.p 0)] [(44,oH)] []=true:=by kernel_rfl
theorem aO6(k:Int)(bs:Option Addr)(n cp:Nat)(d:Dt)(p a lo b hi:Int)(fa fl fb fh:Int)(fi:Bool){w0 w:World}{P:List Nat}{a0:Act}{Q:Exit->Act->World->Prop}(hst:SS w0) (H0:Same w0 7 #[(fam k (.slice bs n cp) d p a lo b hi)] (.int .i64 0))(H1:Same w0 12 #[(fam k (.slice bs n cp) d p a lo b hi)] (.tuple #[(r4 fa fl fb fh),(.bool fi),(.int .i64 0)]))(hw:dU w0 146 P [(44,(lF k (.slice bs n cp) d p a lo b hi))] [(2,(.bool false)),(3,.pointer (some ⟨P.getD 0 0,0,none⟩))] a0 w)(HP:Lf w0 146 P [(44,(lF k (.slice bs n cp) d p a lo b hi)),(42,[(.int .i8 fa),(.int .i64 fl),(.int .i8 fb),(.int .i64 fh)])] (fun P=>[(2,(.bool false)),(3,.pointer (some ⟨P.getD 0 0,0,none⟩)),(4,.pointer (some ⟨P.getD 1 0,0,none⟩)),(5,(.bool fi))]) (PD Tryz.prog Q 3 (aT [1,1] kJ) .normal)):(aT [1,1] kJ).wp Tryz.prog Q a0 w:=
 dY (aFi (lv (lF k (.slice bs n cp) d p a lo b hi) [.int .i8 fa,.int .i64 fl,.int .i8 fb,.int .i64 fh,.bool fi])) (aQ w0) hst .nil (.cons H0 (.cons H1 .nil)) hw HP (by kernel_rfl)
def aRi:lX:=(.leaf .normal [(2,.s qf),(3,.p 0),(4,.p 1),(5,.s (qb 21)),(7,.s qz)] [(44,JF),(42,[(qe 17),(qi 18),(qe 19),(qi 20)])])
theorem aMj(l:Value):aRi.ok dQ l [] [] hp 60 LG 146 60 0 (aT [1,1,1,1,1,0,0] kJ) [(2,.s qf),(5,.s ((qb 21))),(3,.p 0),(4,.p 1)] [(44,oH),(42,[(qe 17),(qi 18),(qe 19),(qi 20)])] []=true:=by kernel_rfl
theorem aVm(k:Int)(bs:Option Addr)(n cp:Nat)(d:Dt)(p a lo b hi:Int)(ra rl rb rh:Int)(fi:Bool){w0 w:World}{P:List Nat}{a0:Act}{Q:Exit->Act->World->Prop}(hst:SS w0) (hw:dU w0 146 P [(44,(lF k (.slice bs n cp) d p a lo b hi)),(42,[(.int .i8 ra),(.int .i64 rl),(.int .i8 rb),(.int .i64 rh)])] [(2,(.bool false)),(5,(.bool fi)),(3,.pointer (some ⟨P.getD 0 0,0,none⟩)),(4,.pointer (some ⟨P.getD 1 0,0,none⟩))] a0 w)(HP:Lf w0 146 P [(44,(lF k (.slice bs n cp) d p a lo b hi)),(42,[(.int .i8 ra),(.int .i64 rl),(.int .i8 rb),(.int .i64 rh)])] (fun P=>[(2,(.bool false)),(3,.pointer (some ⟨P.getD 0 0,0,none⟩)),(4,.pointer (some ⟨P.getD 1 0,0,none⟩)),(5,(.bool fi)),(7,(.int .i64 0))]) (Q .normal)):(aT [1,1,1,1,1,0,0] kJ).wp Tryz.prog Q a0 w:=
 dY (aMj (lv (lF k (.slice bs n cp) d p a lo b hi) [.int .i8 ra,.int .i64 rl,.int .i8 rb,.int .i64 rh,.bool fi])) (aQ w0) hst .nil .nil hw HP (by kernel_rfl)
def aRh:lX:=(.node 1 (qi 17) (.v (.int .i64 40)) (.leaf (.exit 0) [(2,.s qf),(3,.p 0),(4,.p 1)] [(44,JF),(42,[(qe 18),(qi 19),(qe 20),(qi 21)])]) (.leaf (.exit 0) [(2,.s qf),(3,.p 0),(4,.p 1)] [(44,JF),(42,[(qe 18),(qi 19),(qe 20),(qi 21)])]))
theorem aMi(l:Value):aRh.ok dQ l [] [] hp 60 LG 146 60 0 (aT [1,1,1,1,1,0,1,0,0] kJ) [(2,.s qf),(5,.s qf),(7,.s ((qi 17))),(3,.p 0),(4,.p 1)] [(44,oH),(42,[(qe 18),(qi 19),(qe 20),(qi 21)])] []=true:=by kernel_rfl
theorem aVl(k:Int)(bs:Option Addr)(n cp:Nat)(d:Dt)(p a lo b hi:Int)(i ra rl rb rh:Int){w0 w:World}{P:List Nat}{a0:Act}{Q:Exit->Act->World->Prop}(hst:SS w0) (hw:dU w0 146 P [(44,(lF k (.slice bs n cp) d p a lo b hi)),(42,[(.int .i8 ra),(.int .i64 rl),(.int .i8 rb),(.int .i64 rh)])] [(2,(.bool false)),(5,(.bool false)),(7,(.int .i64 i)),(3,.pointer (some ⟨P.getD 0 0,0,none⟩)),(4,.pointer (some ⟨P.getD 1 0,0,none⟩))] a0 w)(HP:(((decide (i<40))=true->Lf w0 146 P [(44,(lF k (.slice bs n cp) d p a lo b hi)),(42,[(.int .i8 ra),(.int .i64 rl),(.int .i8 rb),(.int .i64 rh)])] (fun P=>[(2,(.bool false)),(3,.pointer (some ⟨P.getD 0 0,0,none⟩)),(4,.pointer (some ⟨P.getD 1 0,0,none⟩))]) (Q (.exit 0)))/\((decide (i<40))=false->Lf w0 146 P [(44,(lF k (.slice bs n cp) d p a lo b hi)),(42,[(.int .i8 ra),(.int .i64 rl),(.int .i8 rb),(.int .i64 rh)])] (fun P=>[(2,(.bool false)),(3,.pointer (some ⟨P.getD 0 0,0,none⟩)),(4,.pointer (some ⟨P.getD 1 0,0,none⟩))]) (Q (.exit 0))))):(aT [1,1,1,1,1,0,1,0,0] kJ).wp Tryz.prog Q a0 w:=
 dY (aMi (lv (lF k (.slice bs n cp) d p a lo b hi) [.int .i64 i,.int .i8 ra,.int .i64 rl,.int .i8 rb,.int .i64 rh])) (aQ w0) hst .nil .nil hw HP (by kernel_rfl)
def aRg:lX:=(.node 1 (qi 17) (.v (.int .i64 40)) (.leaf (.exit 0) [(2,.s qf),(3,.p 0),(4,.p 1)] [(44,JF),(42,yp3)]) (.leaf (.exit 0) [(2,.s qf),(3,.p 0),(4,.p 1)] [(44,JF),(42,yp3)]))
theorem aMh(l:Value):aRg.ok dQ l [] [] hp 60 LG 146 60 0 (aT [1,1,1,1,1,0,1,0,0] kJ) [(2,.s qf),(5,.s qt),(7,.s ((qi 17))),(3,.p 0),(4,.p 1)] [(44,oH),(42,[(qe 18),(qi 19),.v (.int .i8 1),(qi 20)])] []=true:=by kernel_rfl
theorem aVk(k:Int)(bs:Option Addr)(n cp:Nat)(d:Dt)(p a lo b hi:Int)(i ra rl rh:Int){w0 w:World}{P:List Nat}{a0:Act}{Q:Exit->Act->World->Prop}(hst:SS w0) (hw:dU w0 146 P [(44,(lF k (.slice bs n cp) d p a lo b hi)),(42,[(.int .i8 ra),(.int .i64 rl),(.int .i8 1),(.int .i64 rh)])] [(2,(.bool false)),(5,(.bool true)),(7,(.int .i64 i)),(3,.pointer (some ⟨P.getD 0 0,0,none⟩)),(4,.pointer (some ⟨P.getD 1 0,0,none⟩))] a0 w)(HP:(((decide (i<40))=true->Lf w0 146 P [(44,(lF k (.slice bs n cp) d p a lo b hi)),(42,[(.int .i8 ra),(.int .i64 rl),(.int .i8 1),(.int .i64 rh)])] (fun P=>[(2,(.bool false)),(3,.pointer (some ⟨P.getD 0 0,0,none⟩)),(4,.pointer (some ⟨P.getD 1 0,0,none⟩))]) (Q (.exit 0)))/\((decide (i<40))=false->Lf w0 146 P [(44,(lF k (.slice bs n cp) d p a lo b hi)),(42,[(.int .i8 ra),(.int .i64 rl),(.int .i8 1),(.int .i64 rh)])] (fun P=>[(2,(.bool false)),(3,.pointer (some ⟨P.getD 0 0,0,none⟩)),(4,.pointer (some ⟨P.getD 1 0,0,none⟩))]) (Q (.exit 0))))):(aT [1,1,1,1,1,0,1,0,0] kJ).wp Tryz.prog Q a0 w:=
 dY (aMh (lv (lF k (.slice bs n cp) d p a lo b hi) [.int .i64 i,.int .i8 ra,.int .i64 rl,.int .i64 rh])) (aQ w0) hst .nil .nil hw HP (by kernel_rfl)
def aRf:lX:=(.leaf (.exit 0) [(2,.s qf),(3,.p 0),(4,.p 1)] [(44,JF),(42,[(qe 17),(qi 18),(qe 19),(qi 20)])])
theorem aMg(l:Value):aRf.ok dQ l [] [] hp 60 LG 146 60 0 (aT [1,1,1,1,1,0,1,0,0] kJ) [(2,.s qf),(5,.s ((qb 21))),(7,.s (.v (.int .i64 40))),(3,.p 0),(4,.p 1)] [(44,oH),(42,[(qe 17),(qi 18),(qe 19),(qi 20)])] []=true:=by kernel_rfl
theorem aVj(k:Int)(bs:Option Addr)(n cp:Nat)(d:Dt)(p a lo b hi:Int)(ra rl rb rh:Int)(fi:Bool){w0 w:World}{P:List Nat}{a0:Act}{Q:Exit->Act->World->Prop}(hst:SS w0) (hw:dU w0 146 P [(44,(lF k (.slice bs n cp) d p a lo b hi)),(42,[(.int .i8 ra),(.int .i64 rl),(.int .i8 rb),(.int .i64 rh)])] [(2,(.bool false)),(5,(.bool fi)),(7,(.int .i64 40)),(3,.pointer (some ⟨P.getD 0 0,0,none⟩)),(4,.pointer (some ⟨P.getD 1 0,0,none⟩))] a0 w)(HP:Lf w0 146 P [(44,(lF k (.slice bs n cp) d p a lo b hi)),(42,[(.int .i8 ra),(.int .i64 rl),(.int .i8 rb),(.int .i64 rh)])] (fun P=>[(2,(.bool false)),(3,.pointer (some ⟨P.getD 0 0,0,none⟩)),(4,.pointer (some ⟨P.getD 1 0,0,none⟩))]) (Q (.exit 0))):(aT [1,1,1,1,1,0,1,0,0] kJ).wp Tryz.prog Q a0 w:=
 dY (aMg (lv (lF k (.slice bs n cp) d p a lo b hi) [.int .i8 ra,.int .i64 rl,.int .i8 rb,.int .i64 rh,.bool fi])) (aQ w0) hst .nil .nil hw HP (by kernel_rfl)
def aRe:lX:=(.node 1 (qi 17) (.v (.int .i64 40)) (.node 1 (qi 20) (qi 22) (.node 3 (qb 25) (qb 25) (.leaf .normal [(2,.s qf),(3,.p 0),(4,.p 1),(5,.s qt),(7,.s yp2)] [(44,JF),(42,[(qe 21),(qi 22),(qe 23),(qi 24)])]) (.leaf .ret [(2,.s qf),(3,.p 0),(4,.p 1),(5,.s qt),(7,.s (qi 17))] [(44,JF),(42,[(qe 18),(qi 19),q8,(qi 20)])])) (.leaf .ret [(2,.s qf),(3,.p 0),(4,.p 1),(5,.s qt),(7,.s (qi 17))] [(44,JF),(42,[(qe 18),(qi 19),q8,(qi 20)])])) lX.no)
theorem aMf(l:Value):aRe.ok dQ l [(42,yp0,yp0,(qb 25))] [(13,[gY (qu 0),aN 1 .i64 [(qi 20),.v (.int .i64 1)]],.aS [yp1,qt,qz]),(14,[gY (qu 0),aN 2 .i64 [(qi 22),.v (.int .i64 1)]],.aS [yp0,qt,qz])] hp 60 LG 146 60 0 (aT [1,1,1,1,1,0,1,0,0] kJ) [(2,.s qf),(5,.s qt),(7,.s ((qi 17))),(3,.p 0),(4,.p 1)] [(44,oH),(42,[(qe 18),(qi 19),q8,(qi 20)])] []=true:=by kernel_rfl
theorem aVi(k:Int)(bs:Option Addr)(n cp:Nat)(d:Dt)(p a lo b hi:Int)(i ra rl rh na nl nb nh:Int)(z:Bool){w0 w:World}{P:List Nat}{a0:Act}{Q:Exit->Act->World->Prop}(hst:SS w0)(hz:z=decide (ra=ra/\rl=rl/\(0:Int)=0/\rh=rh))(H0:Same w0 13 #[(fam k (.slice bs n cp) d p a lo b hi),(.int .i64 (IntKind.i64.wrap (rh+1)))] (.tuple #[(r4 na nl nb nh),(.bool true),(.int .i64 0)]))(H1:Same w0 14 #[(fam k (.slice bs n cp) d p a lo b hi),(.int .i64 (IntKind.i64.wrap (nl - 1)))] (.tuple #[(r4 ra rl 0 rh),(.bool true),(.int .i64 0)]))(hw:dU w0 146 P [(44,(lF k (.slice bs n cp) d p a lo b hi)),(42,[(.int .i8 ra),(.int .i64 rl),(.int .i8 0),(.int .i64 rh)])] [(2,(.bool false)),(5,(.bool true)),(7,(.int .i64 i)),(3,.pointer (some ⟨P.getD 0 0,0,none⟩)),(4,.pointer (some ⟨P.getD 1 0,0,none⟩))] a0 w)(HP:(((decide (i<40))=true->(((decide (rh<nl))=true->((z=true->Lf w0 146 P [(44,(lF k (.slice bs n cp) d p a lo b hi)),(42,[(.int .i8 na),(.int .i64 nl),(.int .i8 nb),(.int .i64 nh)])] (fun P=>[(2,(.bool false)),(3,.pointer (some ⟨P.getD 0 0,0,none⟩)),(4,.pointer (some ⟨P.getD 1 0,0,none⟩)),(5,(.bool true)),(7,(.int .i64 (IntKind.i64.wrap (i+1))))]) (Q .normal))/\(z=false->Lf w0 146 P [(44,(lF k (.slice bs n cp) d p a lo b hi)),(42,[(.int .i8 ra),(.int .i64 rl),(.int .i8 0),(.int .i64 rh)])] (fun P=>[(2,(.bool false)),(3,.pointer (some ⟨P.getD 0 0,0,none⟩)),(4,.pointer (some ⟨P.getD 1 0,0,none⟩)),(5,(.bool true)),(7,(.int .i64 i))]) (Q .ret))))/\((decide (rh<nl))=false->Lf w0 146 P [(44,(lF k (.slice bs n cp) d p a lo b hi)),(42,[(.int .i8 ra),(.int .i64 rl),(.int .i8 0),(.int .i64 rh)])] (fun P=>[(2,(.bool false)),(3,.pointer (some ⟨P.getD 0 0,0,none⟩)),(4,.pointer (some ⟨P.getD 1 0,0,none⟩)),(5,(.bool true)),(7,(.int .i64 i))]) (Q .ret))))/\((decide (i<40))=false->False))):(aT [1,1,1,1,1,0,1,0,0] kJ).wp Tryz.prog Q a0 w:=
 dY (aMf (lv (lF k (.slice bs n cp) d p a lo b hi) [.int .i64 i,.int .i8 ra,.int .i64 rl,.int .i64 rh,.int .i8 na,.int .i64 nl,.int .i8 nb,.int .i64 nh,.bool z])) (aQ w0) hst (.cons (KF _ _ _ _ _ _ _ _ _ hz) (fun _ _ _=>⟨by kernel_rfl,by kernel_rfl⟩) .nil) (.cons H0 (.cons H1 .nil)) hw HP (by kernel_rfl)
def aRd:lX:=(.node 1 (qi 17) (.v (.int .i64 40)) (.leaf .normal [(2,.s qf),(3,.p 0),(4,.p 1),(5,.s qf),(7,.s yp2)] [(44,JF),(42,[(qe 21),(qi 22),(qe 23),(qi 24)])]) lX.no)
theorem aMe(l:Value):aRd.ok dQ l [] [(13,[gY (qu 0),aN 1 .i64 [(qi 20),.v (.int .i64 1)]],.aS [yp1,qf,qz])] hp 60 LG 146 60 0 (aT [1,1,1,1,1,0,1,0,0] kJ) [(2,.s qf),(5,.s qt),(7,.s ((qi 17))),(3,.p 0),(4,.p 1)] [(44,oH),(42,[(qe 18),(qi 19),q8,(qi 20)])] []=true:=by kernel_rfl
theorem aVh(k:Int)(bs:Option Addr)(n cp:Nat)(d:Dt)(p a lo b hi:Int)(i ra rl rh na nl nb nh:Int){w0 w:World}{P:List Nat}{a0:Act}{Q:Exit->Act->World->Prop}(hst:SS w0) (H0:Same w0 13 #[(fam k (.slice bs n cp) d p a lo b hi),(.int .i64 (IntKind.i64.wrap (rh+1)))] (.tuple #[(r4 na nl nb nh),(.bool false),(.int .i64 0)]))(hw:dU w0 146 P [(44,(lF k (.slice bs n cp) d p a lo b hi)),(42,[(.int .i8 ra),(.int .i64 rl),(.int .i8 0),(.int .i64 rh)])] [(2,(.bool false)),(5,(.bool true)),(7,(.int .i64 i)),(3,.pointer (some ⟨P.getD 0 0,0,none⟩)),(4,.pointer (some ⟨P.getD 1 0,0,none⟩))] a0 w)(HP:(((decide (i<40))=true->Lf w0 146 P [(44,(lF k (.slice bs n cp) d p a lo b hi)),(42,[(.int .i8 na),(.int .i64 nl),(.int .i8 nb),(.int .i64 nh)])] (fun P=>[(2,(.bool false)),(3,.pointer (some ⟨P.getD 0 0,0,none⟩)),(4,.pointer (some ⟨P.getD 1 0,0,none⟩)),(5,(.bool false)),(7,(.int .i64 (IntKind.i64.wrap (i+1))))]) (Q .normal))/\((decide (i<40))=false->False))):(aT [1,1,1,1,1,0,1,0,0] kJ).wp Tryz.prog Q a0 w:=
 dY (aMe (lv (lF k (.slice bs n cp) d p a lo b hi) [.int .i64 i,.int .i8 ra,.int .i64 rl,.int .i64 rh,.int .i8 na,.int .i64 nl,.int .i8 nb,.int .i64 nh])) (aQ w0) hst .nil (.cons H0 .nil) hw HP (by kernel_rfl)
def aRc:lX:=(.node 1 (qi 17) (.v (.int .i64 40)) (.leaf (.exit 2) [(2,.s qf),(3,.p 0),(4,.p 1)] [(44,JF),(42,[(qe 18),(qi 19),(qe 20),(qi 21)])]) (.leaf (.exit 2) [(2,.s qf),(3,.p 0),(4,.p 1)] [(44,JF),(42,[(qe 18),(qi 19),(qe 20),(qi 21)])]))
theorem aMd(l:Value):aRc.ok dQ l [] [] hp 60 LG 146 60 0 (aT [1,1,1,1,1,1,1,1,0,1,0,0] kJ) [(2,.s qf),(5,.s qf),(14,.s ((qi 17))),(3,.p 0),(4,.p 1)] [(44,oH),(42,[(qe 18),(qi 19),(qe 20),(qi 21)])] []=true:=by kernel_rfl
theorem aVg(k:Int)(bs:Option Addr)(n cp:Nat)(d:Dt)(p a lo b hi:Int)(i ra rl rb rh:Int){w0 w:World}{P:List Nat}{a0:Act}{Q:Exit->Act->World->Prop}(hst:SS w0) (hw:dU w0 146 P [(44,(lF k (.slice bs n cp) d p a lo b hi)),(42,[(.int .i8 ra),(.int .i64 rl),(.int .i8 rb),(.int .i64 rh)])] [(2,(.bool false)),(5,(.bool false)),(14,(.int .i64 i)),(3,.pointer (some ⟨P.getD 0 0,0,none⟩)),(4,.pointer (some ⟨P.getD 1 0,0,none⟩))] a0 w)(HP:(((decide (i<40))=true->Lf w0 146 P [(44,(lF k (.slice bs n cp) d p a lo b hi)),(42,[(.int .i8 ra),(.int .i64 rl),(.int .i8 rb),(.int .i64 rh)])] (fun P=>[(2,(.bool false)),(3,.pointer (some ⟨P.getD 0 0,0,none⟩)),(4,.pointer (some ⟨P.getD 1 0,0,none⟩))]) (Q (.exit 2)))/\((decide (i<40))=false->Lf w0 146 P [(44,(lF k (.slice bs n cp) d p a lo b hi)),(42,[(.int .i8 ra),(.int .i64 rl),(.int .i8 rb),(.int .i64 rh)])] (fun P=>[(2,(.bool false)),(3,.pointer (some ⟨P.getD 0 0,0,none⟩)),(4,.pointer (some ⟨P.getD 1 0,0,none⟩))]) (Q (.exit 2))))):(aT [1,1,1,1,1,1,1,1,0,1,0,0] kJ).wp Tryz.prog Q a0 w:=
 dY (aMd (lv (lF k (.slice bs n cp) d p a lo b hi) [.int .i64 i,.int .i8 ra,.int .i64 rl,.int .i8 rb,.int .i64 rh])) (aQ w0) hst .nil .nil hw HP (by kernel_rfl)
def aRb:lX:=(.node 1 (qi 17) (.v (.int .i64 40)) (.leaf (.exit 2) [(2,.s qf),(3,.p 0),(4,.p 1)] [(44,JF),(42,yp4)]) (.leaf (.exit 2) [(2,.s qf),(3,.p 0),(4,.p 1)] [(44,JF),(42,yp4)]))
theorem aMc(l:Value):aRb.ok dQ l [] [] hp 60 LG 146 60 0 (aT [1,1,1,1,1,1,1,1,0,1,0,0] kJ) [(2,.s qf),(5,.s qt),(14,.s ((qi 17))),(3,.p 0),(4,.p 1)] [(44,oH),(42,[.v (.int .i8 (-1)),(qi 18),(qe 19),(qi 20)])] []=true:=by kernel_rfl
theorem aVf(k:Int)(bs:Option Addr)(n cp:Nat)(d:Dt)(p a lo b hi:Int)(i rl rb rh:Int){w0 w:World}{P:List Nat}{a0:Act}{Q:Exit->Act->World->Prop}(hst:SS w0) (hw:dU w0 146 P [(44,(lF k (.slice bs n cp) d p a lo b hi)),(42,[(.int .i8 (-1)),(.int .i64 rl),(.int .i8 rb),(.int .i64 rh)])] [(2,(.bool false)),(5,(.bool true)),(14,(.int .i64 i)),(3,.pointer (some ⟨P.getD 0 0,0,none⟩)),(4,.pointer (some ⟨P.getD 1 0,0,none⟩))] a0 w)(HP:(((decide (i<40))=true->Lf w0 146 P [(44,(lF k (.slice bs n cp) d p a lo b hi)),(42,[(.int .i8 (-1)),(.int .i64 rl),(.int .i8 rb),(.int .i64 rh)])] (fun P=>[(2,(.bool false)),(3,.pointer (some ⟨P.getD 0 0,0,none⟩)),(4,.pointer (some ⟨P.getD 1 0,0,none⟩))]) (Q (.exit 2)))/\((decide (i<40))=false->Lf w0 146 P [(44,(lF k (.slice bs n cp) d p a lo b hi)),(42,[(.int .i8 (-1)),(.int .i64 rl),(.int .i8 rb),(.int .i64 rh)])] (fun P=>[(2,(.bool false)),(3,.pointer (some ⟨P.getD 0 0,0,none⟩)),(4,.pointer (some ⟨P.getD 1 0,0,none⟩))]) (Q (.exit 2))))):(aT [1,1,1,1,1,1,1,1,0,1,0,0] kJ).wp Tryz.prog Q a0 w:=
 dY (aMc (lv (lF k (.slice bs n cp) d p a lo b hi) [.int .i64 i,.int .i64 rl,.int .i8 rb,.int .i64 rh])) (aQ w0) hst .nil .nil hw HP (by kernel_rfl)
def aRa:lX:=(.leaf (.exit 2) [(2,.s qf),(3,.p 0),(4,.p 1)] [(44,JF),(42,[(qe 17),(qi 18),(qe 19),(qi 20)])])
theorem aMb(l:Value):aRa.ok dQ l [] [] hp 60 LG 146 60 0 (aT [1,1,1,1,1,1,1,1,0,1,0,0] kJ) [(2,.s qf),(5,.s ((qb 21))),(14,.s (.v (.int .i64 40))),(3,.p 0),(4,.p 1)] [(44,oH),(42,[(qe 17),(qi 18),(qe 19),(qi 20)])] []=true:=by kernel_rfl
theorem aVe(k:Int)(bs:Option Addr)(n cp:Nat)(d:Dt)(p a lo b hi:Int)(ra rl rb rh:Int)(fi:Bool){w0 w:World}{P:List Nat}{a0:Act}{Q:Exit->Act->World->Prop}(hst:SS w0) (hw:dU w0 146 P [(44,(lF k (.slice bs n cp) d p a lo b hi)),(42,[(.int .i8 ra),(.int .i64 rl),(.int .i8 rb),(.int .i64 rh)])] [(2,(.bool false)),(5,(.bool fi)),(14,(.int .i64 40)),(3,.pointer (some ⟨P.getD 0 0,0,none⟩)),(4,.pointer (some ⟨P.getD 1 0,0,none⟩))] a0 w)(HP:Lf w0 146 P [(44,(lF k (.slice bs n cp) d p a lo b hi)),(42,[(.int .i8 ra),(.int .i64 rl),(.int .i8 rb),(.int .i64 rh)])] (fun P=>[(2,(.bool false)),(3,.pointer (some ⟨P.getD 0 0,0,none⟩)),(4,.pointer (some ⟨P.getD 1 0,0,none⟩))]) (Q (.exit 2))):(aT [1,1,1,1,1,1,1,1,0,1,0,0] kJ).wp Tryz.prog Q a0 w:=
 dY (aMb (lv (lF k (.slice bs n cp) d p a lo b hi) [.int .i8 ra,.int .i64 rl,.int .i8 rb,.int .i64 rh,.bool fi])) (aQ w0) hst .nil .nil hw HP (by kernel_rfl)
def aQ9:lX:=(.node 1 (qi 17) (.v (.int .i64 40)) (.node 1 (qi 24) (qi 18) (.leaf .normal [(2,.s qf),(3,.p 0),(4,.p 1),(5,.s qt),(14,.s yp2)] [(44,JF),(42,[(qe 21),(qi 22),(qe 23),(qi 24)])]) (.leaf .ret [(2,.s qf),(3,.p 0),(4,.p 1),(5,.s qt),(14,.s (qi 17))] [(44,JF),(42,[q8,(qi 18),(qe 19),(qi 20)])])) lX.no)
theorem aMa(l:Value):aQ9.ok dQ l [] [(14,[gY (qu 0),aN 2 .i64 [(qi 18),.v (.int .i64 1)]],.aS [yp1,qt,qz])] hp 60 LG 146 60 0 (aT [1,1,1,1,1,1,1,1,0,1,0,0] kJ) [(2,.s qf),(5,.s qt),(14,.s ((qi 17))),(3,.p 0),(4,.p 1)] [(44,oH),(42,[q8,(qi 18),(qe 19),(qi 20)])] []=true:=by kernel_rfl
theorem aVd(k:Int)(bs:Option Addr)(n cp:Nat)(d:Dt)(p a lo b hi:Int)(i rl rb rh na nl nb nh:Int){w0 w:World}{P:List Nat}{a0:Act}{Q:Exit->Act->World->Prop}(hst:SS w0) (H0:Same w0 14 #[(fam k (.slice bs n cp) d p a lo b hi),(.int .i64 (IntKind.i64.wrap (rl - 1)))] (.tuple #[(r4 na nl nb nh),(.bool true),(.int .i64 0)]))(hw:dU w0 146 P [(44,(lF k (.slice bs n cp) d p a lo b hi)),(42,[(.int .i8 0),(.int .i64 rl),(.int .i8 rb),(.int .i64 rh)])] [(2,(.bool false)),(5,(.bool true)),(14,(.int .i64 i)),(3,.pointer (some ⟨P.getD 0 0,0,none⟩)),(4,.pointer (some ⟨P.getD 1 0,0,none⟩))] a0 w)(HP:(((decide (i<40))=true->(((decide (nh<rl))=true->Lf w0 146 P [(44,(lF k (.slice bs n cp) d p a lo b hi)),(42,[(.int .i8 na),(.int .i64 nl),(.int .i8 nb),(.int .i64 nh)])] (fun P=>[(2,(.bool false)),(3,.pointer (some ⟨P.getD 0 0,0,none⟩)),(4,.pointer (some ⟨P.getD 1 0,0,none⟩)),(5,(.bool true)),(14,(.int .i64 (IntKind.i64.wrap (i+1))))]) (Q .normal))/\((decide (nh<rl))=false->Lf w0 146 P [(44,(lF k (.slice bs n cp) d p a lo b hi)),(42,[(.int .i8 0),(.int .i64 rl),(.int .i8 rb),(.int .i64 rh)])] (fun P=>[(2,(.bool false)),(3,.pointer (some ⟨P.getD 0 0,0,none⟩)),(4,.pointer (some ⟨P.getD 1 0,0,none⟩)),(5,(.bool true)),(14,(.int .i64 i))]) (Q .ret))))/\((decide (i<40))=false->False))):(aT [1,1,1,1,1,1,1,1,0,1,0,0] kJ).wp Tryz.prog Q a0 w:=
 dY (aMa (lv (lF k (.slice bs n cp) d p a lo b hi) [.int .i64 i,.int .i64 rl,.int .i8 rb,.int .i64 rh,.int .i8 na,.int .i64 nl,.int .i8 nb,.int .i64 nh])) (aQ w0) hst .nil (.cons H0 .nil) hw HP (by kernel_rfl)
def aQ8:lX:=(.node 1 (qi 17) (.v (.int .i64 40)) (.leaf .normal [(2,.s qf),(3,.p 0),(4,.p 1),(5,.s qf),(14,.s yp2)] [(44,JF),(42,[(qe 21),(qi 22),(qe 23),(qi 24)])]) lX.no)
theorem aL9(l:Value):aQ8.ok dQ l [] [(14,[gY (qu 0),aN 2 .i64 [(qi 18),.v (.int .i64 1)]],.aS [yp1,qf,qz])] hp 60 LG 146 60 0 (aT [1,1,1,1,1,1,1,1,0,1,0,0] kJ) [(2,.s qf),(5,.s qt),(14,.s ((qi 17))),(3,.p 0),(4,.p 1)] [(44,oH),(42,[q8,(qi 18),(qe 19),(qi 20)])] []=true:=by kernel_rfl
theorem aVc(k:Int)(bs:Option Addr)(n cp:Nat)(d:Dt)(p a lo b hi:Int)(i rl rb rh na nl nb nh:Int){w0 w:World}{P:List Nat}{a0:Act}{Q:Exit->Act->World->Prop}(hst:SS w0) (H0:Same w0 14 #[(fam k (.slice bs n cp) d p a lo b hi),(.int .i64 (IntKind.i64.wrap (rl - 1)))] (.tuple #[(r4 na nl nb nh),(.bool false),(.int .i64 0)]))(hw:dU w0 146 P [(44,(lF k (.slice bs n cp) d p a lo b hi)),(42,[(.int .i8 0),(.int .i64 rl),(.int .i8 rb),(.int .i64 rh)])] [(2,(.bool false)),(5,(.bool true)),(14,(.int .i64 i)),(3,.pointer (some ⟨P.getD 0 0,0,none⟩)),(4,.pointer (some ⟨P.getD 1 0,0,none⟩))] a0 w)(HP:(((decide (i<40))=true->Lf w0 146 P [(44,(lF k (.slice bs n cp) d p a lo b hi)),(42,[(.int .i8 na),(.int .i64 nl),(.int .i8 nb),(.int .i64 nh)])] (fun P=>[(2,(.bool false)),(3,.pointer (some ⟨P.getD 0 0,0,none⟩)),(4,.pointer (some ⟨P.getD 1 0,0,none⟩)),(5,(.bool false)),(14,(.int .i64 (IntKind.i64.wrap (i+1))))]) (Q .normal))/\((decide (i<40))=false->False))):(aT [1,1,1,1,1,1,1,1,0,1,0,0] kJ).wp Tryz.prog Q a0 w:=
 dY (aL9 (lv (lF k (.slice bs n cp) d p a lo b hi) [.int .i64 i,.int .i64 rl,.int .i8 rb,.int .i64 rh,.int .i8 na,.int .i64 nl,.int .i8 nb,.int .i64 nh])) (aQ w0) hst .nil (.cons H0 .nil) hw HP (by kernel_rfl)
def aKy:lX:=(.leaf .normal [(2,.s qf),(3,.p 0),(4,.p 1),(5,.s (qb 25))] [(44,JF),(42,[(qe 21),(qi 22),(qe 23),(qi 24)])])
theorem aFh(l:Value):aKy.ok dQ l [] [(15,[gY (qu 0)],.aS [yp1,(qb 25),qz])] hp 60 LG 146 60 2 (aT [1,1,1,1,1,1] kJ) [(2,.s qf),(3,.p 0),(4,.p 1)] [(44,oH),(42,[(qe 17),(qi 18),(qe 19),(qi 20)])] []=true:=by kernel_rfl
theorem aO5(k:Int)(bs:Option Addr)(n cp:Nat)(d:Dt)(p a lo b hi:Int)(ra rl rb rh la ll lb lh:Int)(li:Bool){w0 w:World}{P:List Nat}{a0:Act}{Q:Exit->Act->World->Prop}(hst:SS w0) (H0:Same w0 15 #[(fam k (.slice bs n cp) d p a lo b hi)] (.tuple #[(r4 la ll lb lh),(.bool li),(.int .i64 0)]))(hw:dU w0 146 P [(44,(lF k (.slice bs n cp) d p a lo b hi)),(42,[(.int .i8 ra),(.int .i64 rl),(.int .i8 rb),(.int .i64 rh)])] [(2,(.bool false)),(3,.pointer (some ⟨P.getD 0 0,0,none⟩)),(4,.pointer (some ⟨P.getD 1 0,0,none⟩))] a0 w)(HP:Lf w0 146 P [(44,(lF k (.slice bs n cp) d p a lo b hi)),(42,[(.int .i8 la),(.int .i64 ll),(.int .i8 lb),(.int .i64 lh)])] (fun P=>[(2,(.bool false)),(3,.pointer (some ⟨P.getD 0 0,0,none⟩)),(4,.pointer (some ⟨P.getD 1 0,0,none⟩)),(5,(.bool li))]) (PD Tryz.prog Q 2 (aT [1,1,1,1,1,1] kJ) .normal)):(aT [1,1,1,1,1,1] kJ).wp Tryz.prog Q a0 w:=
 dY (aFh (lv (lF k (.slice bs n cp) d p a lo b hi) [.int .i8 ra,.int .i64 rl,.int .i8 rb,.int .i64 rh,.int .i8 la,.int .i64 ll,.int .i8 lb,.int .i64 lh,.bool li])) (aQ w0) hst .nil (.cons H0 .nil) hw HP (by kernel_rfl)
def aNx:lX:=(.leaf .normal [(2,.s qf),(3,.p 0),(4,.p 1),(5,.s (qb 21)),(14,.s qz)] [(44,JF),(42,[(qe 17),(qi 18),(qe 19),(qi 20)])])
theorem aIk(l:Value):aNx.ok dQ l [] [] hp 60 LG 146 60 0 (aT [1,1,1,1,1,1,1,1,0,0] kJ) [(2,.s qf),(5,.s ((qb 21))),(3,.p 0),(4,.p 1)] [(44,oH),(42,[(qe 17),(qi 18),(qe 19),(qi 20)])] []=true:=by kernel_rfl
theorem aSm(k:Int)(bs:Option Addr)(n cp:Nat)(d:Dt)(p a lo b hi:Int)(ra rl rb rh:Int)(fi:Bool){w0 w:World}{P:List Nat}{a0:Act}{Q:Exit->Act->World->Prop}(hst:SS w0) (hw:dU w0 146 P [(44,(lF k (.slice bs n cp) d p a lo b hi)),(42,[(.int .i8 ra),(.int .i64 rl),(.int .i8 rb),(.int .i64 rh)])] [(2,(.bool false)),(5,(.bool fi)),(3,.pointer (some ⟨P.getD 0 0,0,none⟩)),(4,.pointer (some ⟨P.getD 1 0,0,none⟩))] a0 w)(HP:Lf w0 146 P [(44,(lF k (.slice bs n cp) d p a lo b hi)),(42,[(.int .i8 ra),(.int .i64 rl),(.int .i8 rb),(.int .i64 rh)])] (fun P=>[(2,(.bool false)),(3,.pointer (some ⟨P.getD 0 0,0,none⟩)),(4,.pointer (some ⟨P.getD 1 0,0,none⟩)),(5,(.bool fi)),(14,(.int .i64 0))]) (Q .normal)):(aT [1,1,1,1,1,1,1,1,0,0] kJ).wp Tryz.prog Q a0 w:=
 dY (aIk (lv (lF k (.slice bs n cp) d p a lo b hi) [.int .i8 ra,.int .i64 rl,.int .i8 rb,.int .i64 rh,.bool fi])) (aQ w0) hst .nil .nil hw HP (by kernel_rfl)
def aNy:lX:=(.leaf .ret [(2,.s qt)] [(44,JF),(42,[(qe 17),(qi 18),(qe 19),(qi 20)])])
theorem aIl(l:Value):aNy.ok dQ l [] [(9,[],qt)] hp 60 LG 146 60 0 (aT [1,1,1,1,1,1,1,1,1] kJ) [(2,.s qf),(3,.p 0),(4,.p 1)] [(44,oH),(42,[(qe 17),(qi 18),(qe 19),(qi 20)])] []=true:=by kernel_rfl
theorem aSn(k:Int)(bs:Option Addr)(n cp:Nat)(d:Dt)(p a lo b hi:Int)(ra rl rb rh:Int){w0 w:World}{P:List Nat}{a0:Act}{Q:Exit->Act->World->Prop}(hst:SS w0) (H0:Same w0 9 #[] (.bool true))(hw:dU w0 146 P [(44,(lF k (.slice bs n cp) d p a lo b hi)),(42,[(.int .i8 ra),(.int .i64 rl),(.int .i8 rb),(.int .i64 rh)])] [(2,(.bool false)),(3,.pointer (some ⟨P.getD 0 0,0,none⟩)),(4,.pointer (some ⟨P.getD 1 0,0,none⟩))] a0 w)(HP:Lf w0 146 P [(44,(lF k (.slice bs n cp) d p a lo b hi)),(42,[(.int .i8 ra),(.int .i64 rl),(.int .i8 rb),(.int .i64 rh)])] (fun P=>[(2,(.bool true))]) (Q .ret)):(aT [1,1,1,1,1,1,1,1,1] kJ).wp Tryz.prog Q a0 w:=
 dY (aIl (lv (lF k (.slice bs n cp) d p a lo b hi) [.int .i8 ra,.int .i64 rl,.int .i8 rb,.int .i64 rh])) (aQ w0) hst .nil (.cons H0 .nil) hw HP (by kernel_rfl)
end Sk
end
section
open Go.RowKit Go.Lib
namespace Sk
open Bk (Dt aW)
open Ev (aV dQ hp dU Lf PD aT fV)
abbrev pt(P:List Nat)(j:Nat):Value:=.pointer (some ⟨P.getD j 0,0,none⟩)
theorem EZ{w0 w:World}{N:Nat}{P:List Nat}{F:List (TypeId × List Value)}{S S':List (Nat × Value)}{a:Act}(h:dU w0 N P F S a w)(hs: ∀e ∈ S',e ∈ S):dU w0 N P F S' a w:=
 ⟨h.below,h.new,h.nd,h.fr,h.size,h.defs,fun e he=>h.val e (hs e he)⟩
abbrev rbL(r:RB):List Value:=[.int .i8 r.a,.int .i64 r.lo,.int .i8 r.b,.int .i64 r.hi]
abbrev aAB(r:RB):Value:=.tuple #[r4 r.a r.lo r.b r.hi,.bool r.is,.int .i64 0]
section
variable{w1:World}{k:Int}{bs:Option Addr}{n cp:Nat}{d:Dt}{p a lo b hi:Int}
abbrev wkF(k:Int)(bs:Option Addr)(n cp:Nat)(d:Dt)(p a lo b hi:Int)(r:RB):List (TypeId × List Value):=[(44,lF k (.slice bs n cp) d p a lo b hi),(42,rbL r)]
abbrev wkS(slot:Nat)(i:Int)(is:Bool)(P:List Nat):List (Nat × Value):=[(2,.bool false),(5,.bool is),(slot,.int .i64 i),(3,pt P 0),(4,pt P 1)]
theorem qH{x:Int}(h0: -9223372036854775808<=x)(h1:x<9223372036854775808):IntKind.i64.wrap x=x:=by rw[aGZ];omega
theorem aQf{Q:Exit->Act->World->Prop}(hst:SS w1)(J:Nat->RB->Prop)(hone: ∀i r,J i r->r.b=0\/r.b=1)
 (hstep: ∀(i:Nat) (r:RB),i<40->J i r->r.b=0-> ∃q:RB,Same w1 13 #[fam k (.slice bs n cp) d p a lo b hi,.int .i64 (IntKind.i64.wrap (r.hi+1))] (aAB q)/\(q.is=true->r.hi<q.lo/\Same w1 14 #[fam k (.slice bs n cp) d p a lo b hi,.int .i64 (IntKind.i64.wrap (q.lo - 1))] (aAB r)/\J (i+1) q))
 (r0:RB) (h0:r0.is=true->J 0 r0) {P:List Nat} {a0:Act} {w:World} (hw:dU w1 146 P (wkF k bs n cp d p a lo b hi r0) (wkS 7 0 r0.is P) a0 w)
 (hQ: ∀r P' a' w',dU w1 146 P' (wkF k bs n cp d p a lo b hi r) [(2,.bool false),(3,pt P' 0),(4,pt P' 1)] a' w'->Q .normal a' w'):
 (aT [1,1,1,1,1,0,1] kJ).wp Tryz.prog Q a0 w:=by
 have e:aT [1,1,1,1,1,0,1] kJ=.block 0 (.loop (aT [1,1,1,1,1,0,1,0,0] kJ)):=by kernel_rfl
 rw[e];refine wp_block (wp_loop_ghost (fun m aa ww=> ∃(i:Nat) (r:RB) (P:List Nat),m+i=40/\(r.is=true->J i r)/\dU w1 146 P (wkF k bs n cp d p a lo b hi r) (wkS 7 i r.is P) aa ww) 40 ⟨0,r0,P,rfl,h0,hw⟩ ?_);rintro m a0 w ⟨i,r,P,hm,hj,hs⟩
 by_cases h40:i=40
 . subst h40;refine aVj k bs n cp d p a lo b hi r.a r.lo r.b r.hi r.is hst hs (fun P' a' w' _ hs'=>hQ r P' a' w' hs')
 have hi2:(i:Int)<40:=by omega
 obtain⟨ra,rl,rb,rh,ris⟩:=r
 cases ris with
 |false=>
  refine aVl k bs n cp d p a lo b hi i ra rl rb rh hst hs ⟨fun _ P' a' w' _ hs'=>?_,fun _ P' a' w' _ hs'=>?_⟩<;>exact hQ ⟨ra,rl,rb,rh,false⟩ P' a' w' hs'
 |true=>
  have hJ:=hj rfl;rcases hone i _ hJ with hz|hz
  . have hz:rb=0:=hz;subst hz;obtain⟨q,hF,hq⟩:=hstep i _ (by omega) hJ rfl;obtain⟨na,nl,nb,nh,nis⟩:=q;have hw1:IntKind.i64.wrap ((i:Int)+1)=((i+1:Nat):Int):=by rw[aGZ];omega
    cases nis with
    |true=>
     obtain⟨hlt,hU,hJ'⟩:=hq rfl;refine aVi k bs n cp d p a lo b hi i ra rl rh na nl nb nh true hst (by simp) hF hU hs ⟨fun _=>⟨fun _=>⟨fun _ P' a' w' _ hs'=>?_,fun g=>by cases g⟩,fun g=>absurd hlt (aPA g)⟩,fun g=>absurd hi2 (aPA g)⟩;rw[hw1]at hs';exact⟨m - 1,by omega,i+1,⟨na,nl,nb,nh,true⟩,P',by omega,fun _=>hJ',EZ hs' (by intro e he;simp only[aG4,aNL,aUG]at he ⊢;rcases he with h|h|h|h|h<;>simp[h])⟩
    |false=>
     refine aVh k bs n cp d p a lo b hi i ra rl rh na nl nb nh hst hF hs ⟨fun _ P' a' w' _ hs'=>?_,fun g=>absurd hi2 (aPA g)⟩
     . rw[hw1]at hs';exact⟨m - 1,by omega,i+1,⟨na,nl,nb,nh,false⟩,P',by omega,(fun q=>by cases q),EZ hs' (by intro e he;simp only[aG4,aNL,aUG]at he ⊢;rcases he with h|h|h|h|h<;>simp[h])⟩
  have hz:rb=1:=hz;subst hz;refine aVk k bs n cp d p a lo b hi i ra rl rh hst hs ⟨fun _ P' a' w' _ hs'=>?_,fun _ P' a' w' _ hs'=>?_⟩<;>exact hQ ⟨ra,rl,1,rh,true⟩ P' a' w' hs'
theorem aQg{Q:Exit->Act->World->Prop}(hst:SS w1)(J:Nat->RB->Prop)(hone: ∀i r,J i r->r.a=0\/r.a= -1)
 (hstep: ∀(i:Nat) (r:RB),i<40->J i r->r.a=0-> ∃q:RB,Same w1 14 #[fam k (.slice bs n cp) d p a lo b hi,.int .i64 (IntKind.i64.wrap (r.lo - 1))] (aAB q)/\(q.is=true->q.hi<r.lo/\J (i+1) q))
 (r0:RB) (h0:r0.is=true->J 0 r0) {P:List Nat} {a0:Act} {w:World} (hw:dU w1 146 P (wkF k bs n cp d p a lo b hi r0) (wkS 14 0 r0.is P) a0 w)
 (hQ: ∀r P' a' w',dU w1 146 P' (wkF k bs n cp d p a lo b hi r) [(2,.bool false),(3,pt P' 0),(4,pt P' 1)] a' w'->Q .normal a' w'):
 (aT [1,1,1,1,1,1,1,1,0,1] kJ).wp Tryz.prog Q a0 w:=by
 have e:aT [1,1,1,1,1,1,1,1,0,1] kJ=.block 2 (.loop (aT [1,1,1,1,1,1,1,1,0,1,0,0] kJ)):=by kernel_rfl
 rw[e];refine wp_block (wp_loop_ghost (fun m aa ww=> ∃(i:Nat) (r:RB) (P:List Nat),m+i=40/\(r.is=true->J i r)/\dU w1 146 P (wkF k bs n cp d p a lo b hi r) (wkS 14 i r.is P) aa ww) 40 ⟨0,r0,P,rfl,h0,hw⟩ ?_);rintro m a0 w ⟨i,r,P,hm,hj,hs⟩
 by_cases h40:i=40
 . subst h40;refine aVe k bs n cp d p a lo b hi r.a r.lo r.b r.hi r.is hst hs (fun P' a' w' _ hs'=>hQ r P' a' w' hs')
 have hi2:(i:Int)<40:=by omega
 obtain⟨ra,rl,rb,rh,ris⟩:=r
 cases ris with
 |false=>
  refine aVg k bs n cp d p a lo b hi i ra rl rb rh hst hs ⟨fun _ P' a' w' _ hs'=>?_,fun _ P' a' w' _ hs'=>?_⟩<;>exact hQ ⟨ra,rl,rb,rh,false⟩ P' a' w' hs'
 |true=>
  have hJ:=hj rfl;rcases hone i _ hJ with hz|hz
  . have hz:ra=0:=hz;subst hz;obtain⟨q,hF,hq⟩:=hstep i _ (by omega) hJ rfl;obtain⟨na,nl,nb,nh,nis⟩:=q;have hw1:IntKind.i64.wrap ((i:Int)+1)=((i+1:Nat):Int):=by rw[aGZ];omega
    cases nis with
    |true=>
     obtain⟨hlt,hJ'⟩:=hq rfl;refine aVd k bs n cp d p a lo b hi i rl rb rh na nl nb nh hst hF hs ⟨fun _=>⟨fun _ P' a' w' _ hs'=>?_,fun g=>absurd hlt (aPA g)⟩,fun g=>absurd hi2 (aPA g)⟩;rw[hw1]at hs';exact⟨m - 1,by omega,i+1,⟨na,nl,nb,nh,true⟩,P',by omega,fun _=>hJ',EZ hs' (by intro e he;simp only[aG4,aNL,aUG]at he ⊢;rcases he with h|h|h|h|h<;>simp[h])⟩
    |false=>
     refine aVc k bs n cp d p a lo b hi i rl rb rh na nl nb nh hst hF hs ⟨fun _ P' a' w' _ hs'=>?_,fun g=>absurd hi2 (aPA g)⟩
     . rw[hw1]at hs';exact⟨m - 1,by omega,i+1,⟨na,nl,nb,nh,false⟩,P',by omega,(fun q=>by cases q),EZ hs' (by intro e he;simp only[aG4,aNL,aUG]at he ⊢;rcases he with h|h|h|h|h<;>simp[h])⟩
  have hz:ra= -1:=hz;subst hz;refine aVf k bs n cp d p a lo b hi i rl rb rh hst hs ⟨fun _ P' a' w' _ hs'=>?_,fun _ P' a' w' _ hs'=>?_⟩<;>exact hQ ⟨-1,rl,rb,rh,true⟩ P' a' w' hs'
end
end Sk
end
section
open Go.RowKit Go.Lib
namespace Sk
open Ev (aV DT LG dQ aQ hp uY iW iV lT kR OJ FQ lY aN AV yJ rG dS aG aJ eG kX)
open Bk (Dt aW)
def yw0:AV:=rK q8 (qi 5) q8 (qi 6)
def yw1:AV:=rK q8 (qi 11) q8 (qi 12)
def yw2:AV:=rK q8 (qi 19) q8 (qi 20)
def yw3:AV:=rK (qe 6) (qi 7) (qe 8) (qi 9)
def yw4:AV:=.aS [(rK q8 qz q8 qz),qf,qz]
def yw5:AV:=rK (qe 8) (qi 9) (qe 10) (qi 11)
def yw6:AV:=rK (qe 17) (qi 18) (qe 19) (qi 20)
def yw7:AV:=.aS [yw6,(qb 21),qz]
def yw8:AV:=rK (qe 18) (qi 19) (qe 20) (qi 21)
def yw9:AV:=.aS [yw8,(qb 22),qz]
def aOZ:AV:=rK (qe 22) (qi 23) (qe 24) (qi 25)
def aLz:AV:=.aS [aOZ,(qb 26)]
def aOY:AV:=rK (qe 14) (qi 15) (qe 16) (qi 17)
def WW:AV:=.aS [aOY,(qb 18)]
def GL:List AV:=[(qe 0),(qi 1),(qe 2),(qi 3),(qu 4)]
def aLy:List AV:=[(qe 13),(qi 14),(qe 15),(qi 16),(qu 12)]
def aCK:DT:=(.leaf (.aS [yw6,qt,qz]))
theorem Y6(l:Value):aCK.ok dQ l [] [(8,[gY (.v (.int .u8 1))],qz),(58,[gY (.v (.int .u8 1))],.y7 128 yw6)] hp 60 LG 12 [gY (.v (.int .u8 1))] []=true:=by kernel_rfl
theorem aIb(k:Int)(bs:Option Addr)(n cp:Nat)(d:Dt)(p a lo b hi:Int)(ua ul ub uh:Int){w0:World}(hst:SS w0) (H0:Same w0 8 #[(fam 1 (.slice bs n cp) d p a lo b hi)] (.int .i64 0))(H1:Same w0 58 #[(fam 1 (.slice bs n cp) d p a lo b hi)] (.iface 128 (r4 ua ul ub uh))):Same w0 12 #[(fam 1 (.slice bs n cp) d p a lo b hi)] (.tuple #[(r4 ua ul ub uh),(.bool true),(.int .i64 0)]):=
 aG (Y6 (lv (lF k (.slice bs n cp) d p a lo b hi) [.int .i8 ua,.int .i64 ul,.int .i8 ub,.int .i64 uh])) (aQ w0) hst .nil (.cons H0 (.cons H1 .nil)) (aJ (by kernel_rfl)) (by kernel_rfl)
def aCM:DT:=(.leaf yw7)
theorem Y8(l:Value):aCM.ok dQ l [] [(8,[gY (.v (.int .u8 2))],qz),(276,[zA],.aS [yw6,(qb 21)])] hp 60 LG 12 [gY (.v (.int .u8 2))] []=true:=by kernel_rfl
theorem aJB(k:Int)(bs:Option Addr)(n cp:Nat)(d:Dt)(p a lo b hi:Int)(ra rl rb rh:Int)(ri:Bool){w0:World}(hst:SS w0) (H0:Same w0 8 #[(fam 2 (.slice bs n cp) d p a lo b hi)] (.int .i64 0))(H1:Same w0 276 #[(aW d)] (.tuple #[(r4 ra rl rb rh),(.bool ri)])):Same w0 12 #[(fam 2 (.slice bs n cp) d p a lo b hi)] (.tuple #[(r4 ra rl rb rh),(.bool ri),(.int .i64 0)]):=
 aG (Y8 (lv (lF k (.slice bs n cp) d p a lo b hi) [.int .i8 ra,.int .i64 rl,.int .i8 rb,.int .i64 rh,.bool ri])) (aQ w0) hst .nil (.cons H0 (.cons H1 .nil)) (aJ (by kernel_rfl)) (by kernel_rfl)
def aCL:DT:=(.leaf yw7)
theorem Y7(l:Value):aCL.ok dQ l [] [(8,[gY (.v (.int .u8 3))],qz),(265,[.agg aLy],.aS [yw6,(qb 21)])] hp 60 LG 12 [gY (.v (.int .u8 3))] []=true:=by kernel_rfl
theorem aIW(k:Int)(bs:Option Addr)(n cp:Nat)(d:Dt)(p a lo b hi:Int)(ra rl rb rh:Int)(ri:Bool){w0:World}(hst:SS w0) (H0:Same w0 8 #[(fam 3 (.slice bs n cp) d p a lo b hi)] (.int .i64 0))(H1:Same w0 265 #[(.agg #[(.int .i8 a),(.int .i64 lo),(.int .i8 b),(.int .i64 hi),(.int .u8 p)])] (.tuple #[(r4 ra rl rb rh),(.bool ri)])):Same w0 12 #[(fam 3 (.slice bs n cp) d p a lo b hi)] (.tuple #[(r4 ra rl rb rh),(.bool ri),(.int .i64 0)]):=
 aG (Y7 (lv (lF k (.slice bs n cp) d p a lo b hi) [.int .i8 ra,.int .i64 rl,.int .i8 rb,.int .i64 rh,.bool ri])) (aQ w0) hst .nil (.cons H0 (.cons H1 .nil)) (aJ (by kernel_rfl)) (by kernel_rfl)
def aGK:DT:=(.leaf (.aS [yw6,qt,qz]))
theorem aBJ(l:Value):aGK.ok dQ l [] [(8,[gY (.v (.int .u8 1))],qz),(58,[gY (.v (.int .u8 1))],.y7 128 yw6)] hp 60 LG 15 [gY (.v (.int .u8 1))] []=true:=by kernel_rfl
theorem aL7(k:Int)(bs:Option Addr)(n cp:Nat)(d:Dt)(p a lo b hi:Int)(ua ul ub uh:Int){w0:World}(hst:SS w0) (H0:Same w0 8 #[(fam 1 (.slice bs n cp) d p a lo b hi)] (.int .i64 0))(H1:Same w0 58 #[(fam 1 (.slice bs n cp) d p a lo b hi)] (.iface 128 (r4 ua ul ub uh))):Same w0 15 #[(fam 1 (.slice bs n cp) d p a lo b hi)] (.tuple #[(r4 ua ul ub uh),(.bool true),(.int .i64 0)]):=
 aG (aBJ (lv (lF k (.slice bs n cp) d p a lo b hi) [.int .i8 ua,.int .i64 ul,.int .i8 ub,.int .i64 uh])) (aQ w0) hst .nil (.cons H0 (.cons H1 .nil)) (aJ (by kernel_rfl)) (by kernel_rfl)
def aGS:DT:=(.leaf yw7)
theorem aBR(l:Value):aGS.ok dQ l [] [(8,[gY (.v (.int .u8 2))],qz),(278,[zA],.aS [yw6,(qb 21)])] hp 60 LG 15 [gY (.v (.int .u8 2))] []=true:=by kernel_rfl
theorem aMW(k:Int)(bs:Option Addr)(n cp:Nat)(d:Dt)(p a lo b hi:Int)(ra rl rb rh:Int)(ri:Bool){w0:World}(hst:SS w0) (H0:Same w0 8 #[(fam 2 (.slice bs n cp) d p a lo b hi)] (.int .i64 0))(H1:Same w0 278 #[(aW d)] (.tuple #[(r4 ra rl rb rh),(.bool ri)])):Same w0 15 #[(fam 2 (.slice bs n cp) d p a lo b hi)] (.tuple #[(r4 ra rl rb rh),(.bool ri),(.int .i64 0)]):=
 aG (aBR (lv (lF k (.slice bs n cp) d p a lo b hi) [.int .i8 ra,.int .i64 rl,.int .i8 rb,.int .i64 rh,.bool ri])) (aQ w0) hst .nil (.cons H0 (.cons H1 .nil)) (aJ (by kernel_rfl)) (by kernel_rfl)
def aGN:DT:=(.leaf yw7)
theorem aBM(l:Value):aGN.ok dQ l [] [(8,[gY (.v (.int .u8 3))],qz),(267,[.agg aLy],.aS [yw6,(qb 21)])] hp 60 LG 15 [gY (.v (.int .u8 3))] []=true:=by kernel_rfl
theorem aMF(k:Int)(bs:Option Addr)(n cp:Nat)(d:Dt)(p a lo b hi:Int)(ra rl rb rh:Int)(ri:Bool){w0:World}(hst:SS w0) (H0:Same w0 8 #[(fam 3 (.slice bs n cp) d p a lo b hi)] (.int .i64 0))(H1:Same w0 267 #[(.agg #[(.int .i8 a),(.int .i64 lo),(.int .i8 b),(.int .i64 hi),(.int .u8 p)])] (.tuple #[(r4 ra rl rb rh),(.bool ri)])):Same w0 15 #[(fam 3 (.slice bs n cp) d p a lo b hi)] (.tuple #[(r4 ra rl rb rh),(.bool ri),(.int .i64 0)]):=
 aG (aBM (lv (lF k (.slice bs n cp) d p a lo b hi) [.int .i8 ra,.int .i64 rl,.int .i8 rb,.int .i64 rh,.bool ri])) (aQ w0) hst .nil (.cons H0 (.cons H1 .nil)) (aJ (by kernel_rfl)) (by kernel_rfl)
def aGL:DT:=(.node 0 (qe 18) q8 (.node 1 (qi 19) (qi 17) (.leaf yw4) (.leaf (.aS [yw8,qt,qz]))) (.leaf yw4))
theorem aBK(l:Value):aGL.ok dQ l [] [(8,[gY (.v (.int .u8 1))],qz),(58,[gY (.v (.int .u8 1))],.y7 128 yw8)] hp 60 LG 13 [gY (.v (.int .u8 1)),(qi 17)] []=true:=by kernel_rfl
theorem aL8(k:Int)(bs:Option Addr)(n cp:Nat)(d:Dt)(p a lo b hi:Int)(day ua ul ub uh:Int){w0:World}(hst:SS w0) (H0:Same w0 8 #[(fam 1 (.slice bs n cp) d p a lo b hi)] (.int .i64 0))(H1:Same w0 58 #[(fam 1 (.slice bs n cp) d p a lo b hi)] (.iface 128 (r4 ua ul ub uh))):Same w0 13 #[(fam 1 (.slice bs n cp) d p a lo b hi),(.int .i64 day)] (cond (ua==0) (cond (decide (ul<day)) (.tuple #[(r4 0 0 0 0),(.bool false),(.int .i64 0)]) (.tuple #[(r4 ua ul ub uh),(.bool true),(.int .i64 0)])) (.tuple #[(r4 0 0 0 0),(.bool false),(.int .i64 0)])):=
 aG (aBK (lv (lF k (.slice bs n cp) d p a lo b hi) [.int .i64 day,.int .i8 ua,.int .i64 ul,.int .i8 ub,.int .i64 uh])) (aQ w0) hst .nil (.cons H0 (.cons H1 .nil)) (aJ (by kernel_rfl)) (by kernel_rfl)
def aGT:DT:=(.leaf yw9)
theorem aBS(l:Value):aGT.ok dQ l [] [(8,[gY (.v (.int .u8 2))],qz),(277,[zA,(qi 17)],.aS [yw8,(qb 22)])] hp 60 LG 13 [gY (.v (.int .u8 2)),(qi 17)] []=true:=by kernel_rfl
theorem aMX(k:Int)(bs:Option Addr)(n cp:Nat)(d:Dt)(p a lo b hi:Int)(day ra rl rb rh:Int)(ri:Bool){w0:World}(hst:SS w0) (H0:Same w0 8 #[(fam 2 (.slice bs n cp) d p a lo b hi)] (.int .i64 0))(H1:Same w0 277 #[(aW d),(.int .i64 day)] (.tuple #[(r4 ra rl rb rh),(.bool ri)])):Same w0 13 #[(fam 2 (.slice bs n cp) d p a lo b hi),(.int .i64 day)] (.tuple #[(r4 ra rl rb rh),(.bool ri),(.int .i64 0)]):=
 aG (aBS (lv (lF k (.slice bs n cp) d p a lo b hi) [.int .i64 day,.int .i8 ra,.int .i64 rl,.int .i8 rb,.int .i64 rh,.bool ri])) (aQ w0) hst .nil (.cons H0 (.cons H1 .nil)) (aJ (by kernel_rfl)) (by kernel_rfl)
def aGO:DT:=(.leaf yw9)
theorem aBN(l:Value):aGO.ok dQ l [] [(8,[gY (.v (.int .u8 3))],qz),(266,[.agg aLy,(qi 17)],.aS [yw8,(qb 22)])] hp 60 LG 13 [gY (.v (.int .u8 3)),(qi 17)] []=true:=by kernel_rfl
theorem aMG(k:Int)(bs:Option Addr)(n cp:Nat)(d:Dt)(p a lo b hi:Int)(day ra rl rb rh:Int)(ri:Bool){w0:World}(hst:SS w0) (H0:Same w0 8 #[(fam 3 (.slice bs n cp) d p a lo b hi)] (.int .i64 0))(H1:Same w0 266 #[(.agg #[(.int .i8 a),(.int .i64 lo),(.int .i8 b),(.int .i64 hi),(.int .u8 p)]),(.int .i64 day)] (.tuple #[(r4 ra rl rb rh),(.bool ri)])):Same w0 13 #[(fam 3 (.slice bs n cp) d p a lo b hi),(.int .i64 day)] (.tuple #[(r4 ra rl rb rh),(.bool ri),(.int .i64 0)]):=
 aG (aBN (lv (lF k (.slice bs n cp) d p a lo b hi) [.int .i64 day,.int .i8 ra,.int .i64 rl,.int .i8 rb,.int .i64 rh,.bool ri])) (aQ w0) hst .nil (.cons H0 (.cons H1 .nil)) (aJ (by kernel_rfl)) (by kernel_rfl)
def aGJ:DT:=(.node 0 (qe 20) q8 (.node 1 (qi 17) (qi 21) (.leaf yw4) (.leaf (.aS [yw8,qt,qz]))) (.leaf yw4))
theorem aBI(l:Value):aGJ.ok dQ l [] [(8,[gY (.v (.int .u8 1))],qz),(58,[gY (.v (.int .u8 1))],.y7 128 yw8)] hp 60 LG 14 [gY (.v (.int .u8 1)),(qi 17)] []=true:=by kernel_rfl
theorem aL5(k:Int)(bs:Option Addr)(n cp:Nat)(d:Dt)(p a lo b hi:Int)(day ua ul ub uh:Int){w0:World}(hst:SS w0) (H0:Same w0 8 #[(fam 1 (.slice bs n cp) d p a lo b hi)] (.int .i64 0))(H1:Same w0 58 #[(fam 1 (.slice bs n cp) d p a lo b hi)] (.iface 128 (r4 ua ul ub uh))):Same w0 14 #[(fam 1 (.slice bs n cp) d p a lo b hi),(.int .i64 day)] (cond (ub==0) (cond (decide (day<uh)) (.tuple #[(r4 0 0 0 0),(.bool false),(.int .i64 0)]) (.tuple #[(r4 ua ul ub uh),(.bool true),(.int .i64 0)])) (.tuple #[(r4 0 0 0 0),(.bool false),(.int .i64 0)])):=
 aG (aBI (lv (lF k (.slice bs n cp) d p a lo b hi) [.int .i64 day,.int .i8 ua,.int .i64 ul,.int .i8 ub,.int .i64 uh])) (aQ w0) hst .nil (.cons H0 (.cons H1 .nil)) (aJ (by kernel_rfl)) (by kernel_rfl)
def aGR:DT:=(.leaf yw9)
theorem aBQ(l:Value):aGR.ok dQ l [] [(8,[gY (.v (.int .u8 2))],qz),(280,[zA,(qi 17)],.aS [yw8,(qb 22)])] hp 60 LG 14 [gY (.v (.int .u8 2)),(qi 17)] []=true:=by kernel_rfl
theorem aDI(k:Int)(bs:Option Addr)(n cp:Nat)(d:Dt)(p a lo b hi:Int)(day ra rl rb rh:Int)(ri:Bool){w0:World}(hst:SS w0) (H0:Same w0 8 #[(fam 2 (.slice bs n cp) d p a lo b hi)] (.int .i64 0))(H1:Same w0 280 #[(aW d),(.int .i64 day)] (.tuple #[(r4 ra rl rb rh),(.bool ri)])):Same w0 14 #[(fam 2 (.slice bs n cp) d p a lo b hi),(.int .i64 day)] (.tuple #[(r4 ra rl rb rh),(.bool ri),(.int .i64 0)]):=
 aG (aBQ (lv (lF k (.slice bs n cp) d p a lo b hi) [.int .i64 day,.int .i8 ra,.int .i64 rl,.int .i8 rb,.int .i64 rh,.bool ri])) (aQ w0) hst .nil (.cons H0 (.cons H1 .nil)) (aJ (by kernel_rfl)) (by kernel_rfl)
def aGM:DT:=(.leaf yw9)
theorem aBL(l:Value):aGM.ok dQ l [] [(8,[gY (.v (.int .u8 3))],qz),(268,[.agg aLy,(qi 17)],.aS [yw8,(qb 22)])] hp 60 LG 14 [gY (.v (.int .u8 3)),(qi 17)] []=true:=by kernel_rfl
theorem aDo(k:Int)(bs:Option Addr)(n cp:Nat)(d:Dt)(p a lo b hi:Int)(day ra rl rb rh:Int)(ri:Bool){w0:World}(hst:SS w0) (H0:Same w0 8 #[(fam 3 (.slice bs n cp) d p a lo b hi)] (.int .i64 0))(H1:Same w0 268 #[(.agg #[(.int .i8 a),(.int .i64 lo),(.int .i8 b),(.int .i64 hi),(.int .u8 p)]),(.int .i64 day)] (.tuple #[(r4 ra rl rb rh),(.bool ri)])):Same w0 14 #[(fam 3 (.slice bs n cp) d p a lo b hi),(.int .i64 day)] (.tuple #[(r4 ra rl rb rh),(.bool ri),(.int .i64 0)]):=
 aG (aBL (lv (lF k (.slice bs n cp) d p a lo b hi) [.int .i64 day,.int .i8 ra,.int .i64 rl,.int .i8 rb,.int .i64 rh,.bool ri])) (aQ w0) hst .nil (.cons H0 (.cons H1 .nil)) (aJ (by kernel_rfl)) (by kernel_rfl)
def aKO:DT:=(.node 0 (qe 0) q8 (.leaf (.aS [yw5,(qb 12)])) (.leaf (.aS [(rK q8 qz q8 qz),qf])))
theorem aFu(l:Value):aKO.ok dQ l [] [(85,[(qi 1),(qu 4)],.aS [yw0,(qi 7)]),(269,[.agg GL,yw0,(qi 7)],.aS [yw5,(qb 12)])] hp 60 LG 265 [.agg GL] []=true:=by kernel_rfl
theorem aQe(a lo b hi p ul uh ue ra rl rb rh:Int)(ri:Bool){w0:World}(hst:SS w0) (H0:Same w0 85 #[(.int .i64 lo),(.int .u8 p)] (.tuple #[(r4 0 ul 0 uh),(.int .i64 ue)]))(H1:Same w0 269 #[(.agg #[(.int .i8 a),(.int .i64 lo),(.int .i8 b),(.int .i64 hi),(.int .u8 p)]),(r4 0 ul 0 uh),(.int .i64 ue)] (.tuple #[(r4 ra rl rb rh),(.bool ri)])):Same w0 265 #[(.agg #[(.int .i8 a),(.int .i64 lo),(.int .i8 b),(.int .i64 hi),(.int .u8 p)])] (cond (a==0) (.tuple #[(r4 ra rl rb rh),(.bool ri)]) (.tuple #[(r4 0 0 0 0),(.bool false)])):=
 aG (aFu (.agg #[.int .i8 a,.int .i64 lo,.int .i8 b,.int .i64 hi,.int .u8 p,.int .i64 ul,.int .i64 uh,.int .i64 ue,.int .i8 ra,.int .i64 rl,.int .i8 rb,.int .i64 rh,.bool ri])) (aQ w0) hst .nil (.cons H0 (.cons H1 .nil)) (aJ (by kernel_rfl)) (by kernel_rfl)
def aNC:DT:=(.node 0 (qe 2) q8 (.leaf (.aS [yw5,(qb 12)])) (.leaf (.aS [(rK q8 qz q8 qz),qf])))
theorem aIp(l:Value):aNC.ok dQ l [] [(85,[(qi 3),(qu 4)],.aS [yw0,(qi 7)]),(269,[.agg GL,yw0,(qi 7)],.aS [yw5,(qb 12)])] hp 60 LG 267 [.agg GL] []=true:=by kernel_rfl
theorem aS2(a lo b hi p ul uh ue ra rl rb rh:Int)(ri:Bool){w0:World}(hst:SS w0) (H0:Same w0 85 #[(.int .i64 hi),(.int .u8 p)] (.tuple #[(r4 0 ul 0 uh),(.int .i64 ue)]))(H1:Same w0 269 #[(.agg #[(.int .i8 a),(.int .i64 lo),(.int .i8 b),(.int .i64 hi),(.int .u8 p)]),(r4 0 ul 0 uh),(.int .i64 ue)] (.tuple #[(r4 ra rl rb rh),(.bool ri)])):Same w0 267 #[(.agg #[(.int .i8 a),(.int .i64 lo),(.int .i8 b),(.int .i64 hi),(.int .u8 p)])] (cond (b==0) (.tuple #[(r4 ra rl rb rh),(.bool ri)]) (.tuple #[(r4 0 0 0 0),(.bool false)])):=
 aG (aIp (.agg #[.int .i8 a,.int .i64 lo,.int .i8 b,.int .i64 hi,.int .u8 p,.int .i64 ul,.int .i64 uh,.int .i64 ue,.int .i8 ra,.int .i64 rl,.int .i8 rb,.int .i64 rh,.bool ri])) (aQ w0) hst .nil (.cons H0 (.cons H1 .nil)) (aJ (by kernel_rfl)) (by kernel_rfl)
def aND:DT:=(.node 0 (qe 0) q8 (.node 1 (qi 1) (qi 5) (.node 0 (qi 13) qz (.node 1 (qi 11) (qi 5) (.leaf aLz) (.leaf WW)) (.leaf WW)) (.leaf (.aS [yw3,(qb 10)]))) (.node 0 (qi 13) qz (.node 1 (qi 11) (qi 5) (.leaf aLz) (.leaf WW)) (.leaf WW)))
theorem aIq(l:Value):aND.ok dQ l [] [(265,[.agg GL],.aS [yw3,(qb 10)]),(85,[(qi 5),(qu 4)],.aS [yw1,(qi 13)]),(269,[.agg GL,yw1,(qi 13)],.aS [aOY,(qb 18)]),(270,[yw1,(qu 4)],.aS [yw2,(qi 21)]),(269,[.agg GL,yw2,(qi 21)],.aS [aOZ,(qb 26)])] hp 60 LG 266 [.agg GL,(qi 5)] []=true:=by kernel_rfl
theorem aS3(a lo b hi p day fa fl fb fh ul uh ue ra rl rb rh vl vh ve sa sl sb sh:Int)(fi ri si:Bool){w0:World}(hst:SS w0) (H0:Same w0 265 #[(.agg #[(.int .i8 a),(.int .i64 lo),(.int .i8 b),(.int .i64 hi),(.int .u8 p)])] (.tuple #[(r4 fa fl fb fh),(.bool fi)]))(H1:Same w0 85 #[(.int .i64 day),(.int .u8 p)] (.tuple #[(r4 0 ul 0 uh),(.int .i64 ue)]))(H2:Same w0 269 #[(.agg #[(.int .i8 a),(.int .i64 lo),(.int .i8 b),(.int .i64 hi),(.int .u8 p)]),(r4 0 ul 0 uh),(.int .i64 ue)] (.tuple #[(r4 ra rl rb rh),(.bool ri)]))(H3:Same w0 270 #[(r4 0 ul 0 uh),(.int .u8 p)] (.tuple #[(r4 0 vl 0 vh),(.int .i64 ve)]))(H4:Same w0 269 #[(.agg #[(.int .i8 a),(.int .i64 lo),(.int .i8 b),(.int .i64 hi),(.int .u8 p)]),(r4 0 vl 0 vh),(.int .i64 ve)] (.tuple #[(r4 sa sl sb sh),(.bool si)])):Same w0 266 #[(.agg #[(.int .i8 a),(.int .i64 lo),(.int .i8 b),(.int .i64 hi),(.int .u8 p)]),(.int .i64 day)] (cond (a==0) (cond (decide (lo<day)) (cond (ue==0) (cond (decide (ul<day)) (.tuple #[(r4 sa sl sb sh),(.bool si)]) (.tuple #[(r4 ra rl rb rh),(.bool ri)])) (.tuple #[(r4 ra rl rb rh),(.bool ri)])) (.tuple #[(r4 fa fl fb fh),(.bool fi)])) (cond (ue==0) (cond (decide (ul<day)) (.tuple #[(r4 sa sl sb sh),(.bool si)]) (.tuple #[(r4 ra rl rb rh),(.bool ri)])) (.tuple #[(r4 ra rl rb rh),(.bool ri)]))):=
 aG (aIq (.agg #[.int .i8 a,.int .i64 lo,.int .i8 b,.int .i64 hi,.int .u8 p,.int .i64 day,.int .i8 fa,.int .i64 fl,.int .i8 fb,.int .i64 fh,.bool fi,.int .i64 ul,.int .i64 uh,.int .i64 ue,.int .i8 ra,.int .i64 rl,.int .i8 rb,.int .i64 rh,.bool ri,.int .i64 vl,.int .i64 vh,.int .i64 ve,.int .i8 sa,.int .i64 sl,.int .i8 sb,.int .i64 sh,.bool si])) (aQ w0) hst .nil (.cons H0 (.cons H1 (.cons H2 (.cons H3 (.cons H4 .nil))))) (aJ (by kernel_rfl)) (by kernel_rfl)
def aNB:DT:=(.node 0 (qe 2) q8 (.node 1 (qi 5) (qi 3) (.node 0 (qi 13) qz (.node 1 (qi 5) (qi 12) (.leaf aLz) (.leaf WW)) (.leaf WW)) (.leaf (.aS [yw3,(qb 10)]))) (.node 0 (qi 13) qz (.node 1 (qi 5) (qi 12) (.leaf aLz) (.leaf WW)) (.leaf WW)))
theorem aIo(l:Value):aNB.ok dQ l [] [(267,[.agg GL],.aS [yw3,(qb 10)]),(85,[(qi 5),(qu 4)],.aS [yw1,(qi 13)]),(269,[.agg GL,yw1,(qi 13)],.aS [aOY,(qb 18)]),(271,[yw1,(qu 4)],.aS [yw2,(qi 21)]),(269,[.agg GL,yw2,(qi 21)],.aS [aOZ,(qb 26)])] hp 60 LG 268 [.agg GL,(qi 5)] []=true:=by kernel_rfl
theorem aS1(a lo b hi p day fa fl fb fh ul uh ue ra rl rb rh vl vh ve sa sl sb sh:Int)(fi ri si:Bool){w0:World}(hst:SS w0) (H0:Same w0 267 #[(.agg #[(.int .i8 a),(.int .i64 lo),(.int .i8 b),(.int .i64 hi),(.int .u8 p)])] (.tuple #[(r4 fa fl fb fh),(.bool fi)]))(H1:Same w0 85 #[(.int .i64 day),(.int .u8 p)] (.tuple #[(r4 0 ul 0 uh),(.int .i64 ue)]))(H2:Same w0 269 #[(.agg #[(.int .i8 a),(.int .i64 lo),(.int .i8 b),(.int .i64 hi),(.int .u8 p)]),(r4 0 ul 0 uh),(.int .i64 ue)] (.tuple #[(r4 ra rl rb rh),(.bool ri)]))(H3:Same w0 271 #[(r4 0 ul 0 uh),(.int .u8 p)] (.tuple #[(r4 0 vl 0 vh),(.int .i64 ve)]))(H4:Same w0 269 #[(.agg #[(.int .i8 a),(.int .i64 lo),(.int .i8 b),(.int .i64 hi),(.int .u8 p)]),(r4 0 vl 0 vh),(.int .i64 ve)] (.tuple #[(r4 sa sl sb sh),(.bool si)])):Same w0 268 #[(.agg #[(.int .i8 a),(.int .i64 lo),(.int .i8 b),(.int .i64 hi),(.int .u8 p)]),(.int .i64 day)] (cond (b==0) (cond (decide (day<hi)) (cond (ue==0) (cond (decide (day<uh)) (.tuple #[(r4 sa sl sb sh),(.bool si)]) (.tuple #[(r4 ra rl rb rh),(.bool ri)])) (.tuple #[(r4 ra rl rb rh),(.bool ri)])) (.tuple #[(r4 fa fl fb fh),(.bool fi)])) (cond (ue==0) (cond (decide (day<uh)) (.tuple #[(r4 sa sl sb sh),(.bool si)]) (.tuple #[(r4 ra rl rb rh),(.bool ri)])) (.tuple #[(r4 ra rl rb rh),(.bool ri)]))):=
 aG (aIo (.agg #[.int .i8 a,.int .i64 lo,.int .i8 b,.int .i64 hi,.int .u8 p,.int .i64 day,.int .i8 fa,.int .i64 fl,.int .i8 fb,.int .i64 fh,.bool fi,.int .i64 ul,.int .i64 uh,.int .i64 ue,.int .i8 ra,.int .i64 rl,.int .i8 rb,.int .i64 rh,.bool ri,.int .i64 vl,.int .i64 vh,.int .i64 ve,.int .i8 sa,.int .i64 sl,.int .i8 sb,.int .i64 sh,.bool si])) (aQ w0) hst .nil (.cons H0 (.cons H1 (.cons H2 (.cons H3 (.cons H4 .nil))))) (aJ (by kernel_rfl)) (by kernel_rfl)
end Sk
end
section
open Go.RowKit Go.Lib
namespace Sk
open Un (ba bt ri rb aI kS)
open Cal
open Bk (Rw Dt aW lW)
open Ev (aV dQ hp)
structure aKl(p x y:Int):Prop where
 self:aI p y=(x,y,0)
 own:aI p x=(x,y,0)
 le:x<=y
 next: ∀u v,aI p (y+1)=(u,v,0)->u=y+1/\aI p u=(u,v,0)
 prev: ∀u v,aI p (x - 1)=(u,v,0)->v=x - 1/\aI p v=(u,v,0)
 bd:(p=3/\x=y)\/(p≠3/\ -9200000000000000000<=x/\y<=9200000000000000000)
theorem I5{d:Int}(h: -10000000000000000<=bT d/\bT d<=10000000000000000):aI 1 d=(st (bT d),st (bT d+1) - 1,0):=by
 unfold aI kS;rw[aB9 (by omega),aB9 (by omega),aFV h,aFV rfl]
theorem aDx{d:Int}(h: -10000000000000000<=bT d/\bT d<=10000000000000000):aI 2 d=(st (bT d)+bY (bT d) (AL (bT d) (d - st (bT d))),st (bT d)+bY (bT d) (AL (bT d) (d - st (bT d))+1) - 1,0):=by
 unfold aI kS;rw[aB9 (by omega),aB9 (by omega),aFV h,aB9 (by omega)]
theorem wJ{p d x y:Int}(hp:1<=p/\p<=3)(p3:p≠3)(h:aI p d=(x,y,0)): -10000000000000000<=bT d/\bT d<=10000000000000000:=by
 unfold aI kS at h;rw[aB9 (by omega),aB9 p3]at h
 by_cases hy: -10000000000000000<=bT d/\bT d<=10000000000000000
 . exact hy
 rw[aB9 hy]at h;simp at h
theorem aBX{Y m d:Int}(m0:1<=m)(m1:m<=12)(h0:st Y+bY Y m<=d)(h1:d<st Y+bY Y (m+1)):bT d=Y/\AL Y (d - st Y)=m:=by
 have c0:=@dW Y m (by omega) (by omega);have c1:bY Y (m+1)<=365+lp Y:=by
  rw[<-iG Y]
  by_cases h12:m=12
  . subst h12;exact aRT _
  have:=@wX Y (m+1) 13 (by omega) (by omega) (by omega);have:=dJ Y (m+1);omega
 have ss:=st_succ Y;exact⟨jY (by omega) (by omega),tV m0 m1 (by omega) (by omega)⟩
theorem kZ{Y m d:Int}(hY: -10000000000000000<=Y/\Y<=10000000000000000)(m0:1<=m)(m1:m<=12)(h0:st Y+bY Y m<=d)(h1:d<st Y+bY Y (m+1)):aI 2 d=(st Y+bY Y m,st Y+bY Y (m+1) - 1,0):=by
 obtain⟨a,b⟩:=aBX m0 m1 h0 h1;have:=aDx (d:=d) (by rw[a];exact hY);rw[a,b]at this;exact this
theorem uI{Y d:Int}(hY: -10000000000000000<=Y/\Y<=10000000000000000)(h0:st Y<=d)(h1:d<st (Y+1)):aI 1 d=(st Y,st (Y+1) - 1,0):=by
 have a:=jY h0 h1;have:=I5 (d:=d) (by rw[a];exact hY);rw[a]at this;exact this
theorem aPa {p d x y:Int} (hp:1<=p/\p<=3) (h:aI p d=(x,y,0)):aKl p x y:=by
 by_cases p3:p=3
 . subst p3;have e: ∀d,aI 3 d=(d,d,0):=fun d=>by unfold aI kS;rw[aB9 (by omega),aFV rfl]
   rw[e]at h;simp only[aOL]at h;obtain⟨rfl,rfl,_⟩:=h;refine⟨e _,e _,aRT _,fun u v g=>?_,fun u v g=>?_,.inl ⟨rfl,rfl⟩⟩<;> · rw[e]at g;simp only[aOL]at g;obtain⟨rfl,rfl,_⟩:=g;exact⟨rfl,e _⟩
 have hc:=wJ hp p3 h;obtain⟨s1,s2⟩:=gK d;have b0:=Un.jQ (y:=bT d) (by omega) (by omega);have b1:=Un.jQ (y:=bT d+1) (by omega) (by omega);have s3:=s2;rw[st_succ]at s3;have lp1:=pK (bT d);have ss:=st_succ (bT d);have hp2:p=1\/p=2:=by omega
 rcases hp2 with rfl|rfl
 . rw[I5 hc]at h;simp only[aOL]at h;obtain⟨rfl,rfl,_⟩:=h;generalize bT d=Y at *;refine⟨uI hc (by omega) (by omega),uI hc (by omega) (by omega),by omega,fun u v g=>?_,fun u v g=>?_,.inr ⟨by omega,by omega,by omega⟩⟩
   . have g2:=wJ hp p3 g;have e:bT (st (Y+1) - 1+1)=Y+1:=jY (by omega) (by have:=@aHz (Y+1) (Y+1+1) (by omega);omega);have g3:=g;rw[I5 g2,e]at g;simp only[aOL]at g;obtain⟨rfl,rfl,_⟩:=g;exact⟨by omega,uI (by omega) (by omega) (@aHz (Y+1) (Y+1+1) (by omega))⟩
   have g2:=wJ hp p3 g;have q:=@aHz (Y - 1) Y (by omega);have q2:Y - 1+1=Y:=by omega
   have e:bT (st Y - 1)=Y - 1:=jY (by omega) (by rw[q2];omega);rw[I5 g2,e,q2]at g;simp only[aOL]at g;obtain⟨rfl,rfl,_⟩:=g;have:=uI (Y:=Y - 1) (d:=st Y - 1) (by omega) (by omega) (by rw[q2];omega);rw[q2]at this;exact⟨rfl,this⟩
 rw [aDx hc]at h;obtain⟨m0,m1,m2,m3⟩:=@lS (bT d) (d - st (bT d)) (by omega) (by omega);generalize AL (bT d) (d - st (bT d))=m at *;simp only[aOL]at h;obtain⟨rfl,rfl,_⟩:=h;generalize bT d=Y at *;have cs:=bH Y m m0 m1;have lb:=dJ Y m;have c0:=@dW Y m (by omega) (by omega);have c1:=@dW Y (m+1) (by omega) (by omega);refine⟨kZ hc m0 m1 (by omega) (by omega),kZ hc m0 m1 (by omega) (by omega),by omega,fun u v g=>?_,fun u v g=>?_,.inr ⟨by omega,by omega,by omega⟩⟩
 . have g2:=wJ hp p3 g
   by_cases h12:m=12
   . subst h12;have cl:=iG Y;have o1:=uQ (Y+1);have o2:=bH (Y+1) 1 (by omega) (by omega);have o3:=dJ (Y+1) 1;rw[show (12:Int)+1=13 from rfl]at g g2 ⊢;have e:bT (st Y+bY Y 13 - 1+1)=Y+1:=by
      refine jY (by omega) ?_;have:=st_succ (Y+1);have:=pK (Y+1);omega
     rw[e]at g2;have g3:=kZ (Y:=Y+1) (m:=1) (d:=st Y+bY Y 13 - 1+1) g2 (by omega) (by omega) (by omega) (by omega);rw[g3]at g;simp only[aOL]at g;obtain⟨rfl,rfl,_⟩:=g;have e3:st (Y+1)+bY (Y+1) 1=st Y+bY Y 13 - 1+1:=by omega
     exact⟨e3,by rw[e3];rw[e3]at g3;exact g3⟩
   have cs2:=bH Y (m+1) (by omega) (by omega);have lb2:=dJ Y (m+1);have g3:=kZ (Y:=Y) (m:=m+1) (d:=st Y+bY Y (m+1) - 1+1) hc (by omega) (by omega) (by omega) (by omega);rw[g3]at g;simp only[aOL]at g;obtain⟨rfl,rfl,_⟩:=g;have e3:st Y+bY Y (m+1)=st Y+bY Y (m+1) - 1+1:=by omega
   exact⟨e3,kZ hc (by omega) (by omega) (by omega) (by omega)⟩
 have g2:=wJ hp p3 g
 by_cases h1:m=1
 . subst h1;have o1:=uQ Y;have o2:=iG (Y - 1);have o3:=bH (Y - 1) 12 (by omega) (by omega);rw[show (12:Int)+1=13 from rfl]at o3;have o4:=dJ (Y - 1) 12;have o5:=st_succ (Y - 1);rw[show Y - 1+1=Y by omega]at o5;have o6:=pK (Y - 1);have e:bT (st Y+bY Y 1 - 1)=Y - 1:=jY (by omega) (by rw[show Y - 1+1=Y by omega];omega);rw[e]at g2;have g3:=kZ (Y:=Y - 1) (m:=12) (d:=st Y+bY Y 1 - 1) g2 (by omega) (by omega) (by omega) (by rw[show (12:Int)+1=13 from rfl];omega);rw[g3,show(12:Int)+1=13 from rfl]at g;simp only[aOL]at g;obtain⟨rfl,rfl,_⟩:=g;have e3:st (Y - 1)+bY (Y - 1) 13 - 1=st Y+bY Y 1 - 1:=by omega
   exact⟨e3,by rw[e3,g3,show(12:Int)+1=13 from rfl,e3]⟩
 have cs2:=bH Y (m - 1) (by omega) (by omega);rw[show m - 1+1=m by omega]at cs2;have lb2:=dJ Y (m - 1);have g3:=kZ (Y:=Y) (m:=m - 1) (d:=st Y+bY Y m - 1) hc (by omega) (by omega) (by omega) (by rw[show m - 1+1=m by omega];omega);rw[g3,show m - 1+1=m by omega]at g;simp only[aOL]at g;obtain⟨rfl,rfl,_⟩:=g;rw[show m - 1+1=m by omega]at g3;exact⟨rfl,g3⟩
def VH(a lo b hi:Int)(t:Int × Int × Int):RB:=if t.2.2=0/\0<=bK 0 t.1 a lo/\bK 0 t.2.1 b hi<=0 then⟨0,t.1,0,t.2.1,true⟩else⟨0,0,0,0,false⟩
section
variable{w0:World}{p a lo b hi:Int}
theorem RU(ul uh e:Int)(hst:aV dQ.g.n dQ.l w0 hp):Same w0 269 #[.agg #[.int .i8 a,.int .i64 lo,.int .i8 b,.int .i64 hi,.int .u8 p],r4 0 ul 0 uh,.int .i64 e] (VH a lo b hi (ul,uh,e)).v:=by
 refine DC (aWf a lo b hi p 0 ul 0 uh e (bK 0 ul a lo) (bK 0 uh b hi) hst (fun W _=>kG 0 ul a lo W) (fun W _=>kG 0 uh b hi W)) ?_;unfold VH;dsimp only
 by_cases h1:e=0
 . by_cases h2:bK 0 ul a lo<0
   . rw[aB9 (by omega),h1,aAP h2];rfl
   by_cases h3:0<bK 0 uh b hi
   . rw[aB9 (by omega),h1,aCw h2,aAP h3];rfl
   rw[aFV (by omega),h1,aCw h2,aCw h3];rfl
 rw[aB9 (by omega),show(e==0)=false by simpa using h1];rfl
theorem I7(day:Int)(hk:lW w0)(p0:0<=p)(p1:p<256)(h0: -9223372036854775808<=day)(h1:day<9223372036854775808):Same w0 85 #[.int .i64 day,.int .u8 p] (.tuple #[r4 0 (aI p day).1 0 (aI p day).2.1,.int .i64 (aI p day).2.2]):=fun W hb=>
 Un.qP day p W (hk.below hb).cal h0 h1 p0 p1
theorem RI(hk:lW w0)(hst:aV dQ.g.n dQ.l w0 hp)(p0:0<=p)(p1:p<256)(h0: -9223372036854775808<=lo)(h1:lo<9223372036854775808):
 Same w0 265 #[.agg #[.int .i8 a,.int .i64 lo,.int .i8 b,.int .i64 hi,.int .u8 p]] (if a=0 then VH a lo b hi (aI p lo)else⟨0,0,0,0,false⟩:RB).v:=by
 refine DC (aQe a lo b hi p _ _ _ _ _ _ _ _ hst (I7 lo hk p0 p1 h0 h1) (RU _ _ _ hst)) ?_
 by_cases c:a=0
 . rw[aFV c,show(a==0)=true by simpa using c];rfl
 rw[aB9 c,show(a==0)=false by simpa using c];rfl
theorem ZG(hk:lW w0)(hst:aV dQ.g.n dQ.l w0 hp)(p0:0<=p)(p1:p<256)(h0: -9223372036854775808<=hi)(h1:hi<9223372036854775808):
 Same w0 267 #[.agg #[.int .i8 a,.int .i64 lo,.int .i8 b,.int .i64 hi,.int .u8 p]] (if b=0 then VH a lo b hi (aI p hi)else⟨0,0,0,0,false⟩:RB).v:=by
 refine DC (aS2 a lo b hi p _ _ _ _ _ _ _ _ hst (I7 hi hk p0 p1 h0 h1) (RU _ _ _ hst)) ?_
 by_cases c:b=0
 . rw[aFV c,show(b==0)=true by simpa using c];rfl
 rw[aB9 c,show(b==0)=false by simpa using c];rfl
theorem aIS(day:Int)(hk:lW w0)(hst:aV dQ.g.n dQ.l w0 hp)(hpr:1<=p/\p<=3)(g0: -9223372036854775808<=lo)(g1:lo<9223372036854775808)(h0: -9223372036854775808<=day)(h1:day<9223372036854775808)
 (hd:a≠0\/lo<day) (hx:(aI p day).2.2=0->(aI p day).1=day):
 Same w0 266 #[.agg #[.int .i8 a,.int .i64 lo,.int .i8 b,.int .i64 hi,.int .u8 p],.int .i64 day] (VH a lo b hi (aI p day)).v:=by
 have b2:=aDy p day h0 h1;have HU:=I7 day hk (p:=p) (by omega) (by omega) h0 h1;have HF:=RI (a:=a) (lo:=lo) (b:=b) (hi:=hi) hk hst (p:=p) (by omega) (by omega) g0 g1;generalize aI p day=t at *;obtain⟨x,y,e⟩:=t;dsimp only at *;obtain⟨⟨l3,u3,e3,U3⟩,_⟩:=F7 (u2:=y) hpr hk hst b2.1 b2.2;refine DC (aS3 a lo b hi p day _ _ _ _ _ _ _ _ _ _ _ _ _ _ _ _ _ _ _ _ _ hst HF HU (RU _ _ _ hst) U3 (RU _ _ _ hst)) ?_;have hin: ∀v:Value,cond (e==0) (cond (decide (x<day)) v (VH a lo b hi (x,y,e)).v) (VH a lo b hi (x,y,e)).v=(VH a lo b hi (x,y,e)).v:=fun v=>by
  by_cases c:e=0
  . rw[aCw (by have:=hx c;omega)];cases(e==0)<;>rfl
  rw[show (e==0)=false by simpa using c];rfl
 by_cases ca:a=0
 . rw[show (a==0)=true by simpa using ca,aAP (by omega)];exact hin _
 rw[show (a==0)=false by simpa using ca];exact hin _
theorem ZF(day:Int)(hk:lW w0)(hst:aV dQ.g.n dQ.l w0 hp)(hpr:1<=p/\p<=3)(g0: -9223372036854775808<=hi)(g1:hi<9223372036854775808)(h0: -9223372036854775808<=day)(h1:day<9223372036854775808)
 (hd:b≠0\/day<hi) (hx:(aI p day).2.2=0->(aI p day).2.1=day):
 Same w0 268 #[.agg #[.int .i8 a,.int .i64 lo,.int .i8 b,.int .i64 hi,.int .u8 p],.int .i64 day] (VH a lo b hi (aI p day)).v:=by
 have b2:=aDy p day h0 h1;have HU:=I7 day hk (p:=p) (by omega) (by omega) h0 h1;have HF:=ZG (a:=a) (lo:=lo) (b:=b) (hi:=hi) hk hst (p:=p) (by omega) (by omega) g0 g1;generalize aI p day=t at *;obtain⟨x,y,e⟩:=t;dsimp only at *;obtain⟨_,⟨l3,u3,e3,U3⟩⟩:=F7 (u2:=y) hpr hk hst b2.1 b2.2;refine DC (aS1 a lo b hi p day _ _ _ _ _ _ _ _ _ _ _ _ _ _ _ _ _ _ _ _ _ hst HF HU (RU _ _ _ hst) U3 (RU _ _ _ hst)) ?_;have hin: ∀v:Value,cond (e==0) (cond (decide (day<y)) v (VH a lo b hi (x,y,e)).v) (VH a lo b hi (x,y,e)).v=(VH a lo b hi (x,y,e)).v:=fun v=>by
  by_cases c:e=0
  . rw[aCw (by have:=hx c;omega)];cases(e==0)<;>rfl
  rw[show (e==0)=false by simpa using c];rfl
 by_cases ca:b=0
 . rw[show (b==0)=true by simpa using ca,aAP (by omega)];exact hin _
 rw[show (b==0)=false by simpa using ca];exact hin _
end
end Sk
end
end Go.Proofs.YtacggmlngekidaaGreatDoor
