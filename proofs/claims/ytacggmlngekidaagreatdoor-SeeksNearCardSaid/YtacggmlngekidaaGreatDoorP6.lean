/- The law: its walk,its plain law,the card. -/
import Derived.Test.YtacggmlngekidaaGreatDoorRows
import Derived.Test.YtacggmlngekidaaGreatDoorCards
import Derived.Test.YtacggmlngekidaaGreatDoorTie
import Derived.Test.YtacggmlngekidaaGreatDoorP1
import Derived.Test.YtacggmlngekidaaGreatDoorP2
import Derived.Test.YtacggmlngekidaaGreatDoorP3
import Derived.Test.YtacggmlngekidaaGreatDoorP4
import Derived.Test.YtacggmlngekidaaGreatDoorP5
import Derived.Deep.LoopGhost
import Derived.WalkMore
import Derived.OwnWalk
import Derived.Deep.MidRow
import Derived.Deep.RegionHeld3
import Derived.Deep.DeepCutAuto
import Derived.Deep.RegionLaw
import Derived.Deep.CutBlock
import Derived.Great.BuildSlice
import Derived.Great.Walk
import Derived.KernelRfl
import Derived.OpenShut
import Derived.Deep.Slices
import Derived.Deep.Strs
import Derived.Lib.SmallJoins
import Derived.Laws.IdiomArrays
import Derived.ProofKit
import Derived.WalkKit
import Derived.Deep.DeepHandedRow
import Derived.Lib.LaidTab
import Derived.ChangeAlike
import Derived.LaidMore
import Derived.LaidHandle
import Derived.SevenTiedAt
import Derived.MakeChecks
import Derived.Deep.DeepWitnessRef
import Derived.RowKit
set_option linter.unusedSimpArgs false
set_option linter.unusedVariables false
set_option maxRecDepth 1000000
set_option maxHeartbeats 8000000
set_option linter.unusedSectionVars false
namespace Go.Proofs.YtacggmlngekidaaGreatDoor
abbrev aMi:=@Prod.mk.inj
abbrev aOC:=@Int.eq_ofNat_of_zero_le
abbrev aXQ:=@List.all_nil
abbrev aXX:=@List.map_toArray
abbrev aYC:=@Go.Great.wpList_allocTo
abbrev aYO:=@List.set_append_right
abbrev aY4:=@Go.Joins.trod_struct4
section
open Go.RowKit Go.Lib
namespace Sk
open Bk (Dt aV lD)
theorem aQf{r:RB}{x:R4}{is:Int}(h:Agr r x is):Value.tuple #[r4 x.a x.lo x.b x.hi,.int .i64 is]=r.w:=by
 obtain⟨h0,h1,h2,h3,h4⟩:=h;unfold RB.w;rw[h1,h2,h3,h4];rcases h0 with⟨e,rfl⟩|⟨e,rfl⟩<;>rw[e]<;>rfl
def mY(x:R4)(by' day:Int):RB:=if by'=0\/by'=1\/kU by' x day=true then⟨x.a,x.lo,x.b,x.hi,true⟩else⟨0,0,0,0,false⟩
theorem aOB{F:Nat->R4}{by' day:Int}{x:R4}{is:Int}(ho:Q9 F 1 by' day x is):Agr (mY (F 0) by' day) x is:=by
 unfold Q9 at ho;unfold mY
 by_cases h0:by'=0
 . rw[aDk h0]at ho;rw[aDk (.inl h0)];obtain⟨rfl,rfl⟩:=ho;exact⟨.inl ⟨rfl,rfl⟩,rfl,rfl,rfl,rfl⟩
 by_cases h1:by'=1
 . rw[aBx h0,aDk h1]at ho;rw[aDk (.inr (.inl h1))];obtain⟨rfl,rfl⟩:=ho;exact⟨.inl ⟨rfl,rfl⟩,rfl,rfl,rfl,rfl⟩
 have key:(is=1/\x=F 0/\kU by' (F 0) day=true)\/(is=0/\x=⟨0,0,0,0⟩/\kU by' (F 0) day=false):=by
  rw[aBx h0,aBx h1]at ho
  by_cases h4:by'=4
  . subst h4;rw[aDk rfl]at ho;rcases ho with⟨e,i,hi,hx,hh,_⟩|⟨e,hx,hh⟩
    . obtain rfl:i=0:=by omega
      exact .inl ⟨e,hx,hh⟩
    exact .inr ⟨e,hx,hh 0 (by omega)⟩
  rw[aBx h4]at ho;rcases ho with⟨e,i,hi,hx,hh,_⟩|⟨e,hx,hh⟩
  . obtain rfl:i=0:=by omega
    exact .inl ⟨e,hx,hh⟩
  exact .inr ⟨e,hx,hh 0 (by omega)⟩
 rcases key with⟨rfl,rfl,hh⟩|⟨rfl,rfl,hh⟩
 . rw[aDk (.inr (.inr hh))];exact⟨.inl ⟨rfl,rfl⟩,rfl,rfl,rfl,rfl⟩
 rw[aBx (by rw[hh];rintro(h|h|h);exact h0 h;exact h1 h;cases h)];exact⟨.inr ⟨rfl,rfl⟩,rfl,rfl,rfl,rfl⟩
section
variable{w0:World}{bs:Option Addr}{n cp:Nat}{d:Dt}{p a lo b hi:Int}
theorem aNc{f:Nat->R4}(hst:SS w0)(hr:qK w0 bs 1 f)(by' day:Int)(hby:0<=by'/\by'<=4):Same w0 10 #[fam 1 (.slice bs 1 cp) d p a lo b hi,.int .i64 by',.int .i64 day] (mY (f 0) by' day).w:=fun W hb=>by
 refine(aD1 1 bs 1 cp d p a lo b hi by' day (fun F n=>F=f/\n=1) W (by decide) hby fun W' hb'=>?_).mono ?_
 . refine(aSn 1 bs 1 cp d p a lo b hi hst W' (Un.bt hb hb')).mono ?_;rintro e w' ⟨rfl,h⟩;exact⟨f,1,⟨rfl,rfl⟩,by omega,by omega,bs,cp,rfl,(hr.later hb).later (Un.bt hb' h),h⟩
 rintro e w' ⟨F,m,x,is,⟨rfl,rfl⟩,ho,rfl,h⟩;exact⟨by rw[aQf (aOB ho)],h⟩
theorem aIL {ua ul ub uh:Int} (hst:SS w0) (hR:Right ua ul ub uh) (hC:Same w0 8 #[fam 1 (.slice bs n cp) d p a lo b hi] (.int .i64 0))
 (hS:Same w0 58 #[fam 1 (.slice bs n cp) d p a lo b hi] (.iface 128 (r4 ua ul ub uh))) (by' day:Int) (hby:0<=by'/\by'<=4):
 Same w0 11 #[fam 1 (.slice bs n cp) d p a lo b hi,.int .i64 by',.int .i64 day] (.tuple #[r4 (mY ⟨ua,ul,ub,uh⟩ by' day).a (mY ⟨ua,ul,ub,uh⟩ by' day).lo (mY ⟨ua,ul,ub,uh⟩ by' day).b (mY ⟨ua,ul,ub,uh⟩ by' day).hi,.bool (mY ⟨ua,ul,ub,uh⟩ by' day).is,.int .i64 0]):=by
 obtain⟨r1,r2,r3⟩:=id hR;have hc:by'=0\/by'=1\/by'=2\/by'=3\/by'=4:=by omega
 have yes: ∀ {k:Int},(k=0\/k=1\/kU k ⟨ua,ul,ub,uh⟩ day=true)->mY ⟨ua,ul,ub,uh⟩ k day=⟨ua,ul,ub,uh,true⟩:=fun h=>by unfold mY;rw[aDk h]
 have no: ∀ {k:Int},2<=k->kU k ⟨ua,ul,ub,uh⟩ day=false->mY ⟨ua,ul,ub,uh⟩ k day=⟨0,0,0,0,false⟩:=fun h2 h=>by unfold mY;rw[aBx (by rw[h];rintro(h|h|h)<;>first|omega|cases h)]
 rcases hc with rfl|rfl|rfl|rfl|rfl
 . rw[yes (.inl rfl)];exact aKD 1 bs n cp d p a lo b hi day ua ul ub uh 0 true hst (aIN 1 bs n cp d p a lo b hi ua ul ub uh hst hC hS)
 . rw[yes (.inr (.inl rfl))];exact aKC 1 bs n cp d p a lo b hi day ua ul ub uh 0 true hst (aNf 1 bs n cp d p a lo b hi ua ul ub uh hst hC hS)
 . have hH:=aU8 ua ul ub uh day (bW ua ul 0 day) (bW 0 day ub uh) _ hst (fun W _=>SA 0 day 0 day ua ul ub uh W) (fun W _=>iG ua ul 0 day W) (fun W _=>iG 0 day ub uh W);have hz:(cond (decide (dK 0 day 0 day=0)&&decide (dK ua ul ub uh=0)) (cond (decide (0<bW ua ul 0 day)) (.bool false) (cond (decide (0<bW 0 day ub uh)) (.bool false) (.bool true))) (.bool false))=Value.bool (kU 2 ⟨ua,ul,ub,uh⟩ day):=by
    rw[aBz (xG ⟨.inr rfl,.inr rfl,fun _ _=>aTF _⟩),aBz (xG hR)];unfold kU aBl WX bW;rw[aDk rfl];dsimp only[Bool.and_self,aVd];rcases r1 with⟨rfl,-⟩|rfl<;>rcases r2 with⟨rfl,-⟩|rfl
    . simp
    . by_cases c:uh<day
      . simp[c,show ¬day<uh by omega]
      by_cases c2:day<uh<;>simp[c,c2]
    . by_cases c:ul<=day
      . by_cases c2:ul<day<;>simp[c,c2,show ¬day<ul by omega]
      simp[c,show day<ul by omega,show ¬ul<day by omega]
    by_cases c:ul<=day
    . by_cases c3:uh<day
      . by_cases c2:ul<day<;>simp[c,c2,c3,show ¬day<ul by omega,show ¬day<uh by omega]
      by_cases c2:ul<day<;>by_cases c4:day<uh<;>simp[c,c2,c3,c4,show ¬day<ul by omega]
    simp[c,show day<ul by omega,show ¬ul<day by omega]
   have hA:=aKB 1 bs n cp d p a lo b hi day (mY ⟨ua,ul,ub,uh⟩ 2 day).a (mY ⟨ua,ul,ub,uh⟩ 2 day).lo (mY ⟨ua,ul,ub,uh⟩ 2 day).b (mY ⟨ua,ul,ub,uh⟩ 2 day).hi 0 (mY ⟨ua,ul,ub,uh⟩ 2 day).is hst;refine hA (sV (aUv 1 bs n cp d p a lo b hi day ua ul ub uh _ hst hC hS (sV hH hz)) ?_)
   cases h:kU 2 ⟨ua,ul,ub,uh⟩ day
   . rw[no (by decide) h];rfl
   rw[yes (.inr (.inr h))];rfl
 . refine aKA 1 bs n cp d p a lo b hi day (mY ⟨ua,ul,ub,uh⟩ 3 day).a (mY ⟨ua,ul,ub,uh⟩ 3 day).lo (mY ⟨ua,ul,ub,uh⟩ 3 day).b (mY ⟨ua,ul,ub,uh⟩ 3 day).hi 0 (mY ⟨ua,ul,ub,uh⟩ 3 day).is hst (sV (aNg 1 bs n cp d p a lo b hi day ua ul ub uh hst hC hS) ?_);have hh:kU 3 ⟨ua,ul,ub,uh⟩ day=((ua==0)&& !decide (ul<day)):=by
    unfold kU;rw[aBx (by decide),aDk rfl];dsimp only
    by_cases c1:ua=0<;>by_cases c2:ul<day<;>simp[c1,c2]<;>omega
   cases h1:(ua==0)<;>cases h2:decide (ul<day)<;>rw[h1,h2]at hh
   . rw[no (by decide) hh];rfl
   . rw[no (by decide) hh];rfl
   . rw[yes (.inr (.inr hh))];rfl
   rw[no (by decide) hh];rfl
 refine aKz 1 bs n cp d p a lo b hi day (mY ⟨ua,ul,ub,uh⟩ 4 day).a (mY ⟨ua,ul,ub,uh⟩ 4 day).lo (mY ⟨ua,ul,ub,uh⟩ 4 day).b (mY ⟨ua,ul,ub,uh⟩ 4 day).hi 0 (mY ⟨ua,ul,ub,uh⟩ 4 day).is hst (sV (aNd 1 bs n cp d p a lo b hi day ua ul ub uh hst hC hS) ?_);have hh:kU 4 ⟨ua,ul,ub,uh⟩ day=((ub==0)&& !decide (day<uh)):=by
  unfold kU;rw[aBx (by decide),aBx (by decide)];dsimp only
  by_cases c1:ub=0<;>by_cases c2:day<uh<;>simp[c1,c2]<;>omega
 cases h1:(ub==0)<;>cases h2:decide (day<uh)<;>rw[h1,h2]at hh
 . rw[no (by decide) hh];rfl
 . rw[no (by decide) hh];rfl
 . rw[yes (.inr (.inr hh))];rfl
 rw[no (by decide) hh];rfl
theorem aIK{f:Nat->R4}(hst:SS w0)(hr:qK w0 bs 1 f)(hR:Right (f 0).a (f 0).lo (f 0).b (f 0).hi)(hC:Same w0 8 #[fam 1 (.slice bs 1 cp) d p a lo b hi] (.int .i64 0))(by' day:Int)(hby:0<=by'/\by'<=4):qM w0 1 bs 1 cp d p a lo b hi by' day:=
 ⟨mY (f 0) by' day,aIL hst hR hC (fun W hb=>Y1 bs 1 cp f d p a lo b hi W (hr.later hb) (by omega)) by' day hby,aNc hst hr by' day hby⟩
end
end Sk
end
section
open Go.RowKit Go.Lib
namespace Sk
open Un (ba bt ri rb aI dN)
open Bk (Rw Dt aV hasB aX lD)
open Ev (bM eU hp)
theorem aKI(k:Int)(n:Nat)(p a b:Int)(U:Bool)(S R ER sig:Int)(X M FT:Bool)(hS:0<=S)(hE:0<=ER):0<=zY k n p a b U S R ER sig X M FT:=by
 unfold zY
 (repeat' split)<;>omega
theorem aGK{k:Int}{n:Nat}{p a b:Int}{U:Bool}{S R ER sig:Int}{X M FT:Bool}(h:zY k n p a b U S R ER sig X M FT=0):1<=k/\(k=1->0<n)/\(k=3->1<=p/\p<=3):=by
 unfold zY at h
 by_cases c:k<1\/5<k
 . rw[aDk c]at h;omega
 refine⟨by omega,fun hk=>?_,fun hk=>?_⟩;rw[aBx c]at h
 split at h
 . omega
 . by_cases hn:n=0
   . simp[hk,hn]at h
   omega
 rw[aBx c]at h
 split at h
 . omega
 rw[aBx (by omega),aBx (by omega)]at h
 split at h<;>omega
theorem aLa{k:Int}{n:Nat}{e:Int}(h:0<=e):0<=IY k n e:=by unfold IY;(repeat' split)<;>omega
theorem aG0{k:Int}{n:Nat}{e:Int}(h:IY k n e=0):e=0/\k<=3:=by
 unfold IY at h
 (repeat' split at h)<;>omega
theorem aDP{f:Nat->Int}(h: ∀i,0<=f i): ∀n i,0<=scan f n i
 |0,i=>by rw[aFh];omega
 |n+1,i=>by
  rw[scan]
  split
  . exact aDP h n (i+1)
  exact h i
theorem aFa(f:Nat->R4)(n:Nat):0<=kT f n:=by
 unfold kT
 split
 . omega
 refine aDP (fun i=>?_) n 0;unfold Q8 R4.err dK
 (repeat' split)<;>omega
end Sk
end
section
open Go.RowKit Go.Lib
namespace Sk
open Un (ba bt)
open Bk (Dt aV L3 uY Rw lD)
theorem aKv{d:Dt}{L:List (Int × Int × Int)}{i:Nat}(hi:i<L.length)(j:Nat)(hj:j<4):(y9 d L)[i * 4+j]? =(nD d L i).l[j]? :=by
 induction L generalizing i with
 |nil=>cases hi
 | cons x L ih=>
  have e:y9 d (x::L)=l4 0 (d.lo x.1 x.2.1 x.2.2) 0 (d.hi x.1 x.2.1 x.2.2)++y9 d L:=rfl;rw[e]
  cases i with
  |zero=>
   rw[aXM,aKP,aMg (show j<(l4 _ _ _ _).length by exact hj)]
   rfl
  |succ i=>
   rw[aL5 (show(l4 _ _ _ _).length<=_ by show 4<=_;omega),show(i+1) * 4+j - (l4 0 (d.lo x.1 x.2.1 x.2.2) 0 (d.hi x.1 x.2.1 x.2.2)).length=i * 4+j by show(i+1) * 4+j - 4=_;omega,ih (by simpa using hi)]
   rfl
theorem aB0{d:Dt}{L:List (Int × Int × Int)}{W:World}{base:Nat}{v:Value}(h:W.ownsRow base 42 4 v L.length (y9 d L))(hn:L≠[]): ∃bs cp,v=.slice bs L.length cp/\qK W bs L.length (nD d L):=by
 rcases id h.2 with⟨rfl,h0⟩|⟨g,cap,cur,rfl,hg1,hg2,-⟩
 . exact absurd (aXY h0) hn
 refine⟨_,_,rfl,fun i hi=>⟨g,0,rfl,?_,?_⟩⟩
 . rcases aMh g W.heap.size with h'|h'
   . exact h'
   rw[aKi h']at hg2;cases hg2
 have e: ∀j,((⟨g,0,none⟩:Addr).add j)=⟨g,j,none⟩:=fun j=>by unfold Addr.add;split<;>simp_all
 have c:=fun j u (hj:j<4) (hu:(nD d L i).l[j]? =some u)=>h.cells rfl (i * 4+j) u ((aKv hi j hj).trans hu);simp only[e]at c;have c0:=c 0 _ (by decide) rfl;rw[aKP];exact⟨c0,c 1 _ (by decide) rfl,c 2 _ (by decide) rfl,c 3 _ (by decide) rfl⟩
section
variable{d:Dt}{w0:World}{bs:Option Addr}{n cp:Nat}{p a lo b hi:Int}
def LsP(d:Dt)(F:Nat->R4)(n:Nat):Prop:= ∃L,Ls d L/\F=nD d L/\n=L.length/\1<=n
theorem aGI(w:World)(hy:d.dg.size<=1000)(hf:d.form=0)(hs:d.sig<=0):
 Calls Tryz.prog 28 #[fam 2 (.slice bs n cp) d p a lo b hi] w (aDC d w):=by
 have hD:Rw w.heap.size (lF 2 (.slice bs n cp) d p a lo b hi) w _:=Rw.fresh (aAI _ _) _ 44;have HA:=rG (fun W=>aN7 bs n cp d p a lo b hi W hy hf hs);unfold fam at HA ⊢
 go_enter Tryz.func28,Tryz.ntmps28
 go_upto_region 1 with(fail)
 generalize World.alloc _ _=W0 at hD ⊢;have hR:=hD.range;have HD:=rG hD;clear hD
 go_wp2_with (first
  |(refine aHD rfl 44 (.tmp 1) rfl w.heap.size 0 rfl (lF 2 (.slice bs n cp) d p a lo b hi) _ hR Tryz.underlying44 rfl TB ?_)
  |(go_at_call 56;refine(HA.out _).mono ?_;rintro _ w1 ⟨v,L,rfl,hown,hmem,hsort,hlen,hb⟩;have HQ:=rG (show aDC d w (.returned v) w1 from⟨v,L,rfl,Bk.BN hown HD.out.below.size,hmem,hsort,hlen,bt HD.out.below hb⟩);clear hown hmem hsort hlen hb HA HD hR))
 go_ret
 exact HQ.out
theorem aRr(h:AX d w0)(hc:d.dP=0)(hex: ∃y m k,d.Fill y m k)(by' day:Int)(hby:0<=by'/\by'<=4)(w:World):
 Calls Tryz.prog 10 #[fam 2 (.slice bs n cp) d p a lo b hi,.int .i64 by',.int .i64 day] w (aLX (LsP d) by' day w):=by
 obtain⟨hf,-,hs⟩:=uS hc;obtain⟨y,m,k,F⟩:=hex;refine aD1 2 bs n cp d p a lo b hi by' day (LsP d) w (by decide) hby fun W _=>(aGI W h.dg hf hs).mono ?_
 rintro e w' ⟨v,L,rfl,hown,hmem,hsort,hlen,hb⟩;have hn:L≠[]:=fun e=>by
  have:=(hmem (y,m,k)).2 F;rw[e]at this
  cases this
 have hn1:1<=L.length:=by
  cases L with
  |nil=>exact absurd rfl hn
  |cons x l=>simp
 obtain⟨bs',cp',rfl,hr⟩:=aB0 hown hn;exact⟨nD d L,L.length,⟨L,⟨hmem,hsort⟩,rfl,rfl,hn1⟩,hn1,hlen,bs',cp',rfl,hr,hb⟩
theorem CQ(h:AX d w0)(hc:d.dP=0)(hex: ∃y m k,d.Fill y m k){by' day:Int}(hby:0<=by'/\by'<=4){r:RB}(H: ∀L x is,Ls d L->1<=L.length->Q9 (nD d L) L.length by' day x is->Agr r x is):
 Same w0 10 #[fam 2 (.slice bs n cp) d p a lo b hi,.int .i64 by',.int .i64 day] r.w:=fun W hb=>by
 refine(aRr h hc hex by' day hby W).mono ?_;rintro e w' ⟨F,m,x,is,⟨L,hL,rfl,rfl,h1⟩,ho,rfl,hb'⟩;exact⟨by rw[aQf (H L x is hL h1 ho)],hb'⟩
theorem aVJ(day:Int)(h0: -9223372036854775808<=day)(h1:day<9223372036854775808)(h:AX d w0)(hc:d.dP=0): ∃r:RB,Same w0 275 #[aV d,.int .i64 day] r.v/\aV6 d day r:=by
 obtain⟨q,Hq,sq⟩:=DK day h0 h1 h hc;refine⟨_,?_,q,sq,rfl⟩;refine sV (aZi d day q.a q.lo q.b q.hi q.is h.st Hq) ?_;obtain⟨qa,ql,qb,qh,qi⟩:=q
 cases qi with
 |false=>rfl
 |true=>
  by_cases c:qh<day
  . rw[aBx (fun g=>g.2 c)];dsimp only;rw[aBz c];rfl
  rw[aDk ⟨rfl,c⟩];dsimp only;rw[aBy c];rfl
theorem aKF(h:AX d w0)(hc:d.dP=0)(hex: ∃y m k,d.Fill y m k)(hC:Same w0 8 #[fam 2 (.slice bs n cp) d p a lo b hi] (.int .i64 0))(by' day:Int)(hby:0<=by'/\by'<=4)(h0: -9223372036854775808<=day)(h1:day<9223372036854775808):
 qM w0 2 bs n cp d p a lo b hi by' day:=by
 have hf:=Bk.fH hc;rcases(show by'=0\/by'=1\/by'=2\/by'=3\/by'=4 by omega)with rfl|rfl|rfl|rfl|rfl
 . obtain⟨r,Hr,sr⟩:=aAO h hc;exact⟨r,aKD 2 bs n cp d p a lo b hi day _ _ _ _ _ _ h.st (aKG 2 bs n cp d p a lo b hi _ _ _ _ _ h.st hC Hr),CQ h hc hex hby fun L x is hL hn ho=>aG6 hL hn sr ho⟩
 . obtain⟨r,Hr,sr⟩:=JG h hc;exact⟨r,aKC 2 bs n cp d p a lo b hi day _ _ _ _ _ _ h.st (aN9 2 bs n cp d p a lo b hi _ _ _ _ _ h.st hC Hr),CQ h hc hex hby fun L x is hL hn ho=>aLs hL hn sr ho⟩
 . obtain⟨r,Hr,sr⟩:=aVJ day h0 h1 h hc;exact⟨r,aKB 2 bs n cp d p a lo b hi day _ _ _ _ _ _ h.st (aVg 2 bs n cp d p a lo b hi day _ _ _ _ _ h.st hC Hr),CQ h hc hex hby fun L x is hL hn ho=>aSP hf hL sr ho⟩
 . obtain⟨r,Hr,sr⟩:=aN3 day h0 h1 h hc;exact⟨r,aKA 2 bs n cp d p a lo b hi day _ _ _ _ _ _ h.st (aOa 2 bs n cp d p a lo b hi day _ _ _ _ _ h.st hC Hr),CQ h hc hex hby fun L x is hL hn ho=>aLt hL sr ho⟩
 obtain⟨r,Hr,sr⟩:=aMK day h0 h1 h hc;exact⟨r,aKz 2 bs n cp d p a lo b hi day _ _ _ _ _ _ h.st (aN8 2 bs n cp d p a lo b hi day _ _ _ _ _ h.st hC Hr),CQ h hc hex hby fun L x is hL hn ho=>aLr hL sr ho⟩
end
end Sk
end
section
open Go.RowKit Go.Lib
namespace Sk
open Bk (Dt aV lD)
structure aDF(k:Int)(bs:Option Addr)(n:Nat)(f:Nat->R4)(d:Dt)(p a lo b hi:Int)(w:World):Prop where
 ok:aMc k bs n f d p a lo b hi w
 k0:0<=k
 one:k=1->n=1->((f 0).a=0\/(f 0).a= -1)/\((f 0).b=0\/(f 0).b=1)/\(-4611686018427387904<=(f 0).lo/\(f 0).lo<=4611686018427387904)/\(-4611686018427387904<=(f 0).hi/\(f 0).hi<=4611686018427387904)/\((f 0).a=0->(f 0).b=0->(f 0).lo<=(f 0).hi)
 fl:k=2-> ∃y m j,d.Fill y m j
 un:k=3->(-4611686018427387904<=lo/\lo<=4611686018427387904)/\(-4611686018427387904<=hi/\hi<=4611686018427387904)
theorem aGL{n:Nat}{p a b:Int}{U:Bool}{S R:Int}{d:Dt}{X M FT:Bool}(h:zY 2 n p a b U S R d.err d.sig X M FT=0):d.dP=0:=by
 unfold zY at h;rw[aBx (by omega)]at h
 by_cases c:U=false
 . rw[aDk c]at h;omega
 rw[aBx c,aBx (by omega),aDk rfl]at h
 by_cases e:d.err=0
 . rw[aBx (by omega)]at h;unfold Bk.Dt.dP;rw[aBx (by omega)]
   by_cases q:d.sig=0/\X=true/\M=true
   . rw[aBx (by omega)]
   rw[aBx q]at h;omega
 rw[aDk e]at h;exact absurd h e
end Sk
end
section
open Go.RowKit Go.Lib
namespace Sk
open Bk (Dt aV lD)
open Ev (bM eU hp dX Lf zN aW fU)
def sel(i:Nat)(x y z:Int):Int:=if i=0 then x else if i=1 then y else z
section
variable{w1:World}{k:Int}{bs:Option Addr}{n cp:Nat}{d:Dt}{p a lo b hi x y z:Int}
theorem aNE{Q:Exit->Act->World->Prop}(hst:SS w1){i:Nat}(hi3:i<3){by':Int}(hby:by'<5)(N:qM w1 k bs n cp d p a lo b hi by' (sel i x y z)){P:List Nat}{a0:Act}{w:World}(hw:dX w1 123 P (pF k bs n cp d p a lo b hi x y z) (LZ i by' P) a0 w)
 (hQ: ∀P' a' w',dX w1 123 P' (pF k bs n cp d p a lo b hi x y z) (LZ i (IntKind.i64.wrap (by'+1)) P') a' w'->Q .normal a' w'):yK.wp Tryz.prog Q a0 w:=by
 obtain⟨⟨ra,rl,rb,rh,ris⟩,hF,hO⟩:=N;have hz:true=decide (ra=ra/\rl=rl/\rb=rb/\rh=rh):=by simp
 have hi:i=0\/i=1\/i=2:=by omega
 cases ris
 . rcases hi with rfl|rfl|rfl
   . refine aUJ k bs n cp d p a lo b hi x y z by' ra rl rb rh true hst hz hF hO hw ⟨fun _=>⟨fun _ P' a' w' _ hs=>hQ P' a' w' (rY hs (by intro e he;simp only[aHC,aMf,aTG]at he ⊢;rcases he with h|h|h|h|h<;>simp[h])),fun g=>by cases g⟩,fun g=>absurd hby (aMm g)⟩
   . refine aUH k bs n cp d p a lo b hi x y z by' ra rl rb rh true hst hz hF hO hw ⟨fun _=>⟨fun _ P' a' w' _ hs=>hQ P' a' w' (rY hs (by intro e he;simp only[aHC,aMf,aTG]at he ⊢;rcases he with h|h|h|h|h<;>simp[h])),fun g=>by cases g⟩,fun g=>absurd hby (aMm g)⟩
   refine aUF k bs n cp d p a lo b hi x y z by' ra rl rb rh true hst hz hF hO hw ⟨fun _=>⟨fun _ P' a' w' _ hs=>hQ P' a' w' (rY hs (by intro e he;simp only[aHC,aMf,aTG]at he ⊢;rcases he with h|h|h|h|h<;>simp[h])),fun g=>by cases g⟩,fun g=>absurd hby (aMm g)⟩
 rcases hi with rfl|rfl|rfl
 . refine aUI k bs n cp d p a lo b hi x y z by' ra rl rb rh true hst hz hF hO hw ⟨fun _=>⟨fun _ P' a' w' _ hs=>hQ P' a' w' (rY hs (by intro e he;simp only[aHC,aMf,aTG]at he ⊢;rcases he with h|h|h|h|h<;>simp[h])),fun g=>by cases g⟩,fun g=>absurd hby (aMm g)⟩
 . refine aUG k bs n cp d p a lo b hi x y z by' ra rl rb rh true hst hz hF hO hw ⟨fun _=>⟨fun _ P' a' w' _ hs=>hQ P' a' w' (rY hs (by intro e he;simp only[aHC,aMf,aTG]at he ⊢;rcases he with h|h|h|h|h<;>simp[h])),fun g=>by cases g⟩,fun g=>absurd hby (aMm g)⟩
 refine aUE k bs n cp d p a lo b hi x y z by' ra rl rb rh true hst hz hF hO hw ⟨fun _=>⟨fun _ P' a' w' _ hs=>hQ P' a' w' (rY hs (by intro e he;simp only[aHC,aMf,aTG]at he ⊢;rcases he with h|h|h|h|h<;>simp[h])),fun g=>by cases g⟩,fun g=>absurd hby (aMm g)⟩
theorem aUA{Q:Exit->Act->World->Prop}(hst:SS w1){i:Nat}(hi3:i<3)(N: ∀by',0<=by'/\by'<=4->qM w1 k bs n cp d p a lo b hi by' (sel i x y z)){P:List Nat}{a0:Act}{w:World}(hw:dX w1 123 P (pF k bs n cp d p a lo b hi x y z) (LZ i 0 P) a0 w)
 (hQ: ∀P' a' w',dX w1 123 P' (pF k bs n cp d p a lo b hi x y z) (nrS i P') a' w'->Q .normal a' w'):(aW [1,1,1,1,1,1,1,1,0,1,0,0,1,0,0,1] mW).wp Tryz.prog Q a0 w:=by
 have e:aW [1,1,1,1,1,1,1,1,0,1,0,0,1,0,0,1] mW=.block 2 (.loop yK):=by kernel_rfl
 rw[e];refine wp_block (wp_loop_ghost (fun m aa ww=> ∃(j:Nat) (P:List Nat),m+j=5/\dX w1 123 P (pF k bs n cp d p a lo b hi x y z) (LZ i j P) aa ww) 5 ⟨0,P,rfl,hw⟩ ?_);rintro m a0 w ⟨j,P,hm,hs⟩
 by_cases h5:j=5
 . subst h5;refine aXO k bs n cp d p a lo b hi x y z i hst hs (fun P' a' w' _ hs'=>hQ P' a' w' (rY hs' (by intro e he;simp only[aHC,aMf,aTG]at he ⊢;rcases he with h|h|h|h<;>simp[h])))
 have hw1:IntKind.i64.wrap ((j:Int)+1)=((j+1:Nat):Int):=by rw[aHA];omega
 refine aNE hst hi3 (by omega) (N j (by omega)) hs fun P' a' w' hs'=>?_;rw[hw1]at hs';exact⟨m - 1,by omega,j+1,P',by omega,hs'⟩
theorem aNF{Q:Exit->Act->World->Prop}(hst:SS w1)(N: ∀i by',i<3->0<=by'/\by'<=4->qM w1 k bs n cp d p a lo b hi by' (sel i x y z)){P:List Nat}{a0:Act}{w:World}(hw:dX w1 123 P (pF k bs n cp d p a lo b hi x y z) (nrS 0 P) a0 w)
 (hQ: ∀P' a' w',dX w1 123 P' (pF k bs n cp d p a lo b hi x y z) [(4,.bool false),(5,pt P' 0),(6,sl3 P')] a' w'->Q .normal a' w'):(aW [1,1,1,1,1,1,1,1,0,1] mW).wp Tryz.prog Q a0 w:=by
 have e:aW [1,1,1,1,1,1,1,1,0,1] mW=.block 0 (.loop (aW [1,1,1,1,1,1,1,1,0,1,0,0] mW)):=by kernel_rfl
 rw[e];refine wp_block (wp_loop_ghost (fun m aa ww=> ∃(i:Nat) (P:List Nat),m+i=3/\dX w1 123 P (pF k bs n cp d p a lo b hi x y z) (nrS i P) aa ww) 3 ⟨0,P,rfl,hw⟩ ?_);rintro m a0 w ⟨i,P,hm,hs⟩;refine nrI k bs n cp d p a lo b hi x y z i hst hs ⟨fun g P1 a1 w1' _ s1=>?_,fun g P' a' w' _ hs'=>hQ P' a' w' (rY hs' (by intro e he;simp only[aHC,aMf,aTG]at he ⊢;rcases he with h|h|h<;>simp[h]))⟩;have hi3:i<3:=by have:=aL2 g;omega
 have s1:=rY (S':=nrS i P1) s1 (by intro e he;simp only[aHC,aMf,aTG]at he ⊢;rcases he with h|h|h|h<;>simp[h]);show(fU 1 (aW [1,1,1,1,1,1,1,1,0,1,0,0] mW)).wp _ _ a1 w1';rw[show fU 1 (aW [1,1,1,1,1,1,1,1,0,1,0,0] mW)=.seq (.block 1 (.seq (aW [1,1,1,1,1,1,1,1,0,1,0,0,1,0,0,0] mW) (aW [1,1,1,1,1,1,1,1,0,1,0,0,1,0,0,1] mW))) (aW [1,1,1,1,1,1,1,1,0,1,0,0,1,1] mW) by kernel_rfl];refine aXj (wp_block (aXj ?_));refine aUB k bs n cp d p a lo b hi x y z i hst s1 fun P2 a2 w2 _ s2=>?_;refine aUA hst hi3 (fun by' hb=>N i by' hi3 hb) (rY s2 (by intro e he;simp only[aHC,aMf,aTG]at he ⊢;rcases he with h|h|h|h|h<;>simp[h])) fun P3 a3 w3 s3=>?_;refine aUC k bs n cp d p a lo b hi x y z i hst s3 fun P4 a4 w4 _ s4=>?_;have hw1:IntKind.i64.wrap ((i:Int)+1)=((i+1:Nat):Int):=by rw[aHA];omega
 rw[hw1]at s4;exact⟨m - 1,by omega,i+1,P4,by omega,rY s4 (by intro e he;simp only[aHC,aMf,aTG]at he ⊢;rcases he with h|h|h|h<;>simp[h])⟩
theorem aRw{Q:Exit->Act->World->Prop}{c:Int}(hst:SS w1)(hc:0<c)(R:Same w1 7 #[fam k (.slice bs n cp) d p a lo b hi] (.int .i64 c))(S:Same w1 8 #[fam k (.slice bs n cp) d p a lo b hi] (.int .i64 c))
 (L:Same w1 9 #[] (.bool true)) {P:List Nat} {a0:Act} {w:World} (hw:dX w1 123 P [(44,lF k (.slice bs n cp) d p a lo b hi)] [(4,.bool false),(5,pt P 0)] a0 w)
 (hQ: ∀P' F' a' w',dX w1 123 P' F' [(4,.bool true)] a' w'->Q .ret a' w'):(aW [1,1] mW).wp Tryz.prog Q a0 w:=by
 refine aUL k bs n cp d p a lo b hi c hst R S L hw ⟨fun _=>⟨fun g=>?_,fun _ P' a' w' _ s=>hQ P' _ a' w' s⟩,fun g=>absurd hc (aMm g)⟩;have:c=0:=by simpa using g
 omega
theorem wrap_in(x:Int): -9223372036854775808<=IntKind.i64.wrap x/\IntKind.i64.wrap x<9223372036854775808:=xC x
theorem VH{Q:Exit->Act->World->Prop}{no:Int}(hst:SS w1)(R:Same w1 7 #[fam k (.slice bs n cp) d p a lo b hi] (.int .i64 0))(N: ∀by' day,0<=by'/\by'<=4-> -9223372036854775808<=day->day<9223372036854775808->qM w1 k bs n cp d p a lo b hi by' day)
 (L:Same w1 9 #[] (.bool true)) {P:List Nat} {a0:Act} {w:World} (hw:dX w1 123 P [(44,lF k (.slice bs n cp) d p a lo b hi)] [(4,.bool false),(1,.int .i16 no),(5,pt P 0)] a0 w)
 (hQ: ∀P' F' a' w',dX w1 123 P' F' [(4,.bool true)] a' w'->Q .ret a' w'):(aW [1,1] mW).wp Tryz.prog Q a0 w:=by
 have tail: ∀x y z,(-9223372036854775808<=x/\x<9223372036854775808)->(-9223372036854775808<=y/\y<9223372036854775808)->(-9223372036854775808<=z/\z<9223372036854775808)->
  Lf w1 123 P (pF k bs n cp d p a lo b hi x y z) (fun P=>[(4,.bool false),(5,pt P 0),(6,sl3 P)]) (zN Tryz.prog Q 6 (aW [1,1] mW) .normal):=by
  intro x y z hx hy hz P1 a1 w1' _ s1;show(fU 6 (aW [1,1] mW)).wp _ Q a1 w1';rw[show fU 6 (aW [1,1] mW)=.seq (.seq (aW [1,1,1,1,1,1,1,1,0,0] mW) (aW [1,1,1,1,1,1,1,1,0,1] mW)) (aW [1,1,1,1,1,1,1,1,1] mW) by kernel_rfl];refine aXj (aXj ?_);refine aUD k bs n cp d p a lo b hi x y z hst s1 fun P2 a2 w2 _ s2=>?_;refine aNF hst (fun i by' _ hb=>N by' (sel i x y z) hb (by unfold sel;(repeat' split)<;>omega) (by unfold sel;(repeat' split)<;>omega)) (rY s2 (by intro e he;simp only[aHC,aMf,aTG]at he ⊢;rcases he with h|h|h|h<;>simp[h])) fun P3 a3 w3 s3=>?_;exact aUK k bs n cp d p a lo b hi x y z hst L s3 fun P4 a4 w4 _ s4=>hQ P4 _ a4 w4 s4
 obtain⟨⟨fa,fl,fb,fh,fi⟩,-,HF⟩:=N 0 0 (by decide) (by decide) (by decide);obtain⟨⟨la,ll,lb,lh,li⟩,-,HL⟩:=N 1 0 (by decide) (by decide) (by decide);refine aRz k bs n cp d p a lo b hi no fa fl fb fh _ la ll lb lh _ hst R HF HL hw ⟨fun _=>⟨fun _=>⟨fun _=>⟨fun _=>?_,fun _=>?_⟩,fun _=>?_⟩,fun _=>⟨fun _=>⟨fun _=>?_,fun _=>?_⟩,fun _=>?_⟩⟩,fun _=>⟨fun _=>⟨fun _=>?_,fun _=>?_⟩,fun _=>?_⟩⟩<;>exact tail _ _ _ (wrap_in _) (wrap_in _) (wrap_in _)
end
theorem set_right{f:Nat->R4}(h:kT f 1=0):Right (f 0).a (f 0).lo (f 0).b (f 0).hi:=by
 refine pX (FP (f:=f) (i:=0) ?_);unfold kT at h;rw[aBx (by decide)]at h
 by_cases e:Q8 f 0=0
 . exact e
 simp[scan,e]at h
theorem aRv{w1:World}{k:Int}{bs:Option Addr}{n cp:Nat}{f:Nat->R4}{d:Dt}{p a lo b hi no:Int}{Q:Exit->Act->World->Prop}(hst:SS w1)(hk:lD w1)(F:aDF k bs n f d p a lo b hi w1)
 (L:Same w1 9 #[] (.bool true)) {P:List Nat} {a0:Act} {w:World} (hw:dX w1 123 P [(44,lF k (.slice bs n cp) d p a lo b hi)] [(4,.bool false),(1,.int .i16 no),(5,pt P 0)] a0 w)
 (hQ: ∀P' F' a' w',dX w1 123 P' F' [(4,.bool true)] a' w'->Q .ret a' w'):(aW [1,1] mW).wp Tryz.prog Q a0 w:=by
 have h:=F.ok;have D:AX d w1:=⟨hk,hst,h.mo,h.dg,h.m0,h.m1,h.m2⟩;obtain⟨zd,hd1,hd2⟩:=aKX d;obtain⟨zr,hr1,hr2⟩:=aM0 a lo b hi;obtain⟨M,hm1,hm2⟩:=aGj d.m0 d.m1 d.m2;obtain⟨e,he⟩: ∃e,e=zY k n p a b (qR k (decide (n=0)) zd (p==0) zr) (kT f n) (dK a lo b hi) d.err d.sig (xX d) M (wV p a lo b hi):=⟨_,rfl⟩;have hsame:Same w1 22 #[fam k (.slice bs n cp) d p a lo b hi] (.int .i64 e):=by
  have:=QW k bs n cp f d p a lo b hi hst hk h ⟨hd1,hd2⟩ ⟨hr1,hr2⟩ ⟨hm1,hm2⟩;rw[<-he]at this;exact this
 have aR6:Same w1 21 #[fam k (.slice bs n cp) d p a lo b hi] (.int .i64 e):=by
  have:=P6 k bs n cp f d p a lo b hi zd zr M w1 hst h F.k0 ⟨hd1,hd2⟩ ⟨hr1,hr2⟩ ⟨hm1,hm2⟩;rw[<-he]at this;exact this
 have hep:0<=d.err:=by
  by_cases c:d.err=0
  . omega
  have:=aEq c;omega
 have e0:0<=e:=by rw[he];exact aKI _ _ _ _ _ _ _ _ _ _ _ _ _ (aFa f n) hep
 have S:=aFj hst hsame;have R:=aFv hst e0 aR6
 by_cases hbad:0<IY k n e
 . exact aRw hst hbad R S L (rY hw (by intro e he;simp only[aHC,aMf,aTG]at he ⊢;rcases he with h|h<;>simp[h])) hQ
 have hb0:IY k n e=0:=by have:=@aLa k n e e0;omega
 obtain⟨ez,k3⟩:=aG0 hb0;rw[hb0]at R S;have ez':=ez;rw[he]at ez;obtain⟨k1,kn,kp⟩:=aGK ez;have hkk:k=1\/k=2\/k=3:=by omega
 rcases hkk with rfl|rfl|rfl
 . have hn:n=1:=by
    have:=kn rfl;unfold IY at hb0;rw[aBx (by omega)]at hb0
    by_cases c:1<n
    . rw[aDk ⟨rfl,c⟩]at hb0;omega
    omega
   subst hn;have hR:kT f 1=0:=by
    unfold zY at ez;rw[aBx (by omega)]at ez
    split at ez
    . omega
    rw[aDk rfl,aBx (by omega)]at ez;exact ez
   exact VH hst R (fun by' day hb _ _=>aIK hst h.run (set_right hR) S by' day hb) L hw hQ
 . have hc:=aGL ez;exact VH hst R (fun by' day hb h0 h1=>aKF D hc (F.fl rfl) S by' day hb h0 h1) L hw hQ
 obtain⟨g1,g2⟩:=F.un rfl;have hfit:=aSm ez;exact VH hst R (fun by' day hb h0 h1=>by
  rcases(show by'=0\/by'=1\/by'=2\/by'=3\/by'=4 by omega)with rfl|rfl|rfl|rfl|rfl
  . exact aCO hst hk hfit day (by omega) (by omega) S
  . exact aGl hst hk hfit day (by omega) (by omega) S
  . exact aNN hst hk hfit day h0 h1 S
  . exact aGm hst hk hfit day (by omega) (by omega) h0 h1 S
  exact aGk hst hk hfit day (by omega) (by omega) h0 h1 S) L hw hQ
end Sk
end
section
open Go.RowKit Go.Lib
namespace Sk
open Un (ba bt)
open Bk (Dt aV Rw)
structure aEK(r:R4):Prop where
 a:r.a=0\/r.a= -1
 b:r.b=0\/r.b=1
 l0: -4611686018427387904<=r.lo
 l1:r.lo<=4611686018427387904
 h0: -4611686018427387904<=r.hi
 h1:r.hi<=4611686018427387904
 le:r.a=0->r.b=0->r.lo<=r.hi
def FW(w:World)(e:Ending)(w':World):Prop:= ∃bs n cp,∃f:Nat->R4,e=.returned (fam 1 (.slice bs n cp) z0 0 0 0 0 0)/\Below w.heap.size w w'/\qK w' bs n f/\(∀j,(f j).Bd)/\n<=4/\(n=1->aEK (f 0))/\ ∀g o s,bs=some ⟨g,o,s⟩->w.heap.size<=g
def lM:List R4->List Value
 |[]=>[]
 |r::t=>.int .i8 r.a:: .int .i64 r.lo:: .int .i8 r.b:: .int .i64 r.hi::lM t
theorem aKx : ∀(l:List R4) (i:Nat) (r:R4),l[i]? =some r->(lM l)[i * 4]? =some (.int .i8 r.a)/\(lM l)[i * 4+1]? =some (.int .i64 r.lo)/\(lM l)[i * 4+2]? =some (.int .i8 r.b)/\(lM l)[i * 4+3]? =some (.int .i64 r.hi):=by
 intro l
 induction l with
 |nil=>intro i r h;simp at h
 | cons x l ih=>
  intro i r h
  cases i with
  | zero => obtain rfl:x=r:=by simpa using h
            simp[lM]
  |succ i=>
   have:=ih i r (by simpa using h);rw[show (i+1) * 4=i * 4+4 by omega];simpa[lM]using this
theorem xU: ∀(l:List R4) (r:R4),lM (l++[r])=lM l++[.int .i8 r.a,.int .i64 r.lo,.int .i8 r.b,.int .i64 r.hi]
 |[],_=>rfl
 |x::l,r=>by show _::_::_::_::lM (l++[r])=_;rw[xU l r];rfl
theorem aPn:(R4.mk 0 0 0 0).Bd:=⟨by decide,by decide,by decide,by decide⟩
def fArg(kk pp oo fo:Int)(ng:Bool)(nn z0 z1 mo da k0 k1 k2 fr my:Int)(v:Value):List Value:=[.int .u8 kk,.int .u8 pp,.int .u8 oo,.int .u8 fo,.bool ng,.int .u16 nn,.int .u8 z0,.int .u8 z1,.int .u8 mo,.int .u8 da,.int .u8 k0,.int .u8 k1,.int .u8 k2,.int .i16 fr,.int .u8 my,v]
def O4(w:World)(bs:Option Addr)(n:Nat):Prop:=0<n-> ∃g o,∃b:Nat->Int,bs=some ⟨g,o,none⟩/\g<w.heap.size/\(∃x,w.heap[g]? =some x)/\(∀i,i<2 * n->w.cell? ⟨g,o+i,none⟩=some (.int .u8 (b i)))/\ ∀i,0<=b i/\b i<256
theorem U4{p base:Nat}{vs:List Value}{w W W2:World}(h:Rw p vs w W)(hb:Below base W W2)(hp:p<base)(hw:w.heap.size<=base):Rw p vs w W2:=
 ⟨fun i v hv=>(hb.cell (p:=⟨p,i,none⟩) hp).trans (h.cell i v hv),fun i hi=>(hb.frozen (p:=⟨p,i,none⟩) hp).trans (h.free i hi),h.new,by have:=h.lt;have:=hb.size;omega,h.below.trans (hb.mono hw)⟩
theorem ownB{w w':World}{B e size n:Nat}{v:Value}{xs:List Value}(h:w.ownsRow B e size v n xs)(hb:Below w.heap.size w w'):w'.ownsRow B e size v n xs:=by
 refine⟨h.1,?_⟩;rcases h.2 with hn|⟨g,cap,cur,rfl,hg,hgg,rest⟩
 . exact .inl hn
 exact .inr ⟨g,cap,cur,rfl,hg,by rw[hb.block g (aYm.1 hgg).1];exact hgg,rest⟩
abbrev f1L(v:Value):List Value:=[.int .u8 1,v,.bool false,.bool false,.string ⟨#[]⟩,.int .i64 0,.int .i64 0,.string ⟨#[]⟩,.string ⟨#[]⟩,.int .u8 0,.int .u8 0,.int .u8 0,.int .u8 0,.int .i8 0,.int .i64 0,.int .i8 0,.int .i64 0]
theorem ES:(Tryz.prog.info? 44).map (·.size)=some 17:=by kernel_rfl
theorem aSv(a:Option Addr)(n cp:Nat):(f1L (.slice a n cp)).toArray.all (·.oneCell')=true:=by simp[Value.oneCell']
theorem aGx:(Tryz.prog.info? 42).map (fun i=>(i.zero,i.size,i.bytes))=some (some (.agg #[.int .i8 0,.int .i64 0,.int .i8 0,.int .i64 0]),4,32):=by kernel_rfl
abbrev zF1:List Value:=[.int .u8 0,.slice none 0 0,.bool false,.bool false,.string ⟨#[]⟩,.int .i64 0,.int .i64 0,.string ⟨#[]⟩,.string ⟨#[]⟩,.int .u8 0,.int .u8 0,.int .u8 0,.int .u8 0,.int .i8 0,.int .i64 0,.int .i8 0,.int .i64 0]
theorem aMQ(w:World)(vs us:List Value)(t s:TypeId):Rw w.heap.size vs w ((w.alloc (.cells vs.toArray t)).alloc (.cells us.toArray s))/\Rw (w.heap.size+1) us w ((w.alloc (.cells vs.toArray t)).alloc (.cells us.toArray s))/\((w.alloc (.cells vs.toArray t)).alloc (.cells us.toArray s)).heap.size=w.heap.size+2:=by
 have hA:=Rw.fresh (aAI w.heap.size w) vs t;have hB:=Rw.fresh hA.below us s;rw[Bk.dF]at hB;exact⟨hA.later (ba (aAI _ _) _),hB,by rw[Bk.dF,Bk.dF]⟩
structure On(fc:List Value)(v:Value)(w W:World):Prop where
 a:Rw w.heap.size fc w W
 b:Rw (w.heap.size+1) zF1 w W
 c:Rw (w.heap.size+2) (f1L v) w W
 s:w.heap.size+3<=W.heap.size
theorem On.keep{fc:List Value}{v:Value}{w W W2:World}(h:On fc v w W)(hb:Below (w.heap.size+3) W W2):On fc v w W2:=
 ⟨U4 h.a hb (by omega) (by omega),U4 h.b hb (by omega) (by omega),U4 h.c hb (by omega) (by omega),by have:=h.s;have:=hb.size;omega⟩
structure Ol(L:List R4)(D:Int)(w W:World)(v:Value):Prop where
 own:W.ownsRow (w.heap.size+3) 42 4 v L.length (lM L)
 ok: ∀r ∈ L,r.a=0/\r.b=0/\ -40000<=r.lo/\r.hi<=100000/\r.lo<=r.hi
 d0: -40000<=D
 d1:D<=40000+600 * L.length
theorem aSK(W:World)(lo hi:Int): ∀j u,(l4 0 lo 0 hi)[j]? =some u->(W.alloc (.cells #[.int .i8 0,.int .i64 lo,.int .i8 0,.int .i64 hi] 42)).cell? ((⟨W.heap.size,0,none⟩:Addr).add j)=some u:=by
 intro j u hj;unfold l4 at hj
 match j,hj with
 |0,hj=>simp at hj;subst hj;simp[Addr.add]
 |1,hj=>simp at hj;subst hj;simp[Addr.add]
 |2,hj=>simp at hj;subst hj;simp[Addr.add]
 |3,hj=>simp at hj;subst hj;simp[Addr.add]
theorem aSJ(lo hi:Int): ∀u ∈ l4 0 lo 0 hi,u.oneCell'=true:=by intro u hu;simp[l4]at hu;rcases hu with rfl|rfl|rfl|rfl<;>rfl
theorem aIf{W:World}{base n:Nat}{e:TypeId}{v:Value}{xs:List Value}(h:W.ownsRow base e 4 v n xs): ∃a c,v=.slice a n c:=by
 rcases h.2 with⟨rfl,h⟩|⟨g,cap,cur,rfl,_⟩
 . exact⟨none,0,by have:=h.1;simp_all⟩
 exact⟨_,_,rfl⟩
theorem kQ: ∀l:List R4,(lM l).length=l.length * 4
 |[]=>rfl
 |x::l=>by simp only[lM,aTi,kQ l];omega
theorem aKw(t:List R4)(r:R4):((lM (t++[r])).set (t.length * 4+2) (.int .i8 1)).set (t.length * 4+2+1) (.int .i64 0)=lM (t++[⟨r.a,r.lo,1,0⟩]):=by
 rw[xU,xU,aYO _ _ (by rw[kQ];omega),aYO _ _ (by rw[kQ];omega),kQ,show t.length * 4+2 - t.length * 4=2 by omega,show t.length * 4+2+1 - t.length * 4=3 by omega]
 rfl
theorem On.set{fc:List Value}{v v':Value}{w W:World}(h:On fc v w W):On fc v' w (W.setCell ⟨w.heap.size+2,1,none⟩ v'):=
 ⟨h.a.other (by omega) (by omega) 1 v',h.b.other (by omega) (by omega) 1 v',h.c.set 1 (show 1<17 by decide) v',by show _<=(W.heap.modify _ _).size;rw[aWl];exact h.s⟩
theorem On.others{fc:List Value}{v:Value}{w W:World}(h:On fc v w W){g:Nat}(hg:w.heap.size+3<=g)(k:Nat)(us:List Value):On fc v w (W.setCells g k us):=
 ⟨h.a.others (by omega) (by omega) us k,h.b.others (by omega) (by omega) us k,h.c.others (by omega) (by omega) us k,by rw[Bk.setCells_size];exact h.s⟩
structure Oe(g m cp:Nat)(fc:List Value)(w W:World):Prop where
 ex: ∃L:List R4,L.length=m/\(∀r ∈ L,aEK r)/\Rw g (lM L) w W
 on:On fc (.slice (some ⟨g,0,none⟩) m cp) w W
 g3:w.heap.size+3<=g
theorem Oe.two{g m cp:Nat}{fc:List Value}{w W:World}(h:Oe g m cp fc w W)(o:Nat)(ho:o+2<=m * 4):(∃x,W.cell? ⟨g,o,none⟩=some x)/\(∃x,W.cell? ⟨g,o+1,none⟩=some x)/\W.frozen? ⟨g,o,none⟩=false/\W.frozen? ⟨g,o+1,none⟩=false:=by
 obtain⟨L,rfl,-,hR⟩:=h.ex;have hl:=kQ L;exact⟨⟨_,hR.cell o _ (aEM (by omega))⟩,⟨_,hR.cell (o+1) _ (aEM (by omega))⟩,hR.free _ (by omega),hR.free _ (by omega)⟩
theorem Oe.lo{g k cp:Nat}{fc:List Value}{w W:World}(h:Oe g (k+1) cp fc w W):Oe g (k+1) cp fc w (W.setCells g 0 [.int .i8 (-1),.int .i64 0]):=by
 obtain⟨L,hl,hk,hR⟩:=h.ex
 match L,hl with
 |r::t,hl=>
  refine⟨⟨⟨-1,0,r.b,r.hi⟩::t,hl,?_,(hR.set 0 (by rw[kQ];simp) (.int .i8 (-1))).set 1 (by rw[List.length_set,kQ];simp;omega) (.int .i64 0)⟩,h.on.others h.g3 _ _,h.g3⟩;intro x hx;rcases aHC.1 hx with rfl|hx
  . have h:=hk r (by simp);exact⟨.inr rfl,h.b,by show(_:Int)<=0;decide,by show(0:Int)<=_;decide,h.h0,h.h1,fun e=>by cases e⟩
  exact hk x (by simp[hx])
theorem Oe.hi{g k cp:Nat}{fc:List Value}{w W:World}(h:Oe g (k+1) cp fc w W):Oe g (k+1) cp fc w (W.setCells g (k * 4+2) [.int .i8 1,.int .i64 0]):=by
 obtain⟨L,hl,hk,hR⟩:=h.ex;obtain⟨t,r,rfl⟩: ∃t r,L=t++[r]:=⟨L.dropLast,L.getLast (by intro e;subst e;simp at hl),(List.dropLast_concat_getLast _).symm⟩;obtain rfl:t.length=k:=by simpa using hl
 have hz:=kQ (t++[r]);rw[hl]at hz;refine⟨⟨t++[⟨r.a,r.lo,1,0⟩],by simp,?_,?_⟩,h.on.others h.g3 _ _,h.g3⟩
 . intro x hx;rcases aL6.1 hx with hx|hx
   . exact hk x (by simp[hx])
   obtain rfl:=aL8.1 hx;have h:=hk r (by simp);exact⟨h.a,.inr rfl,h.l0,h.l1,by show(_:Int)<=0;decide,by show(0:Int)<=_;decide,fun _ e=>by cases e⟩
 have:=(hR.set (t.length * 4+2) (by omega) (.int .i8 1)).set (t.length * 4+2+1) (by rw[List.length_set];omega) (.int .i64 0);rw[aKw]at this;exact this
theorem Oe.ret{g m cp:Nat}{fc:List Value}{w W:World}(h:Oe g m cp fc w W)(h4:m<=4):FW w (.returned (fam 1 (.slice (some ⟨g,0,none⟩) m cp) z0 0 0 0 0 0)) (W.setCells (w.heap.size+1) 0 (f1L (.slice (some ⟨g,0,none⟩) m cp))):=by
 obtain⟨L,rfl,hk,hR⟩:=h.ex;have hR:=hR.others (q:=w.heap.size+1) (by have:=h.g3;omega) (by omega) (f1L (.slice (some ⟨g,0,none⟩) L.length cp)) 0;have ok: ∀i,i<L.length->aEK (L[i]?.getD ⟨0,0,0,0⟩):=fun i hi=>by rw[aEM hi];exact hk _ (aRy hi)
 refine⟨_,L.length,cp,fun i=>L[i]?.getD ⟨0,0,0,0⟩,rfl,hR.below,fun i hi=>?_,fun j=>?_,h4,fun hn=>ok 0 (by omega),fun g' o s q=>by cases q;have:=h.g3;omega⟩
 . obtain⟨q1,q2,q3,q4⟩:=aKx L i _ (aEM hi);refine⟨g,0,rfl,hR.lt,?_⟩;dsimp only;rw[aEM hi];simp only[aWr,aKP];exact⟨hR.cell _ _ q1,hR.cell _ _ q2,hR.cell _ _ q3,hR.cell _ _ q4⟩
 by_cases hj:j<L.length
 . have h:=ok j hj;exact⟨by have:=h.l0;dsimp only;omega,by have:=h.l1;dsimp only;omega,by have:=h.h0;dsimp only;omega,by have:=h.h1;dsimp only;omega⟩
 dsimp only;rw[aSz (by omega)];exact aPn
theorem ap3{base size n:Nat}{e:TypeId}{v:Value}{xs:List Value}{W w2 w3:World}{o:Obj}(hb:Below W.drew.heap.size W.drew w2)(hs:base<=W.heap.size)(ho:W.ownsRow base e size v n xs)(hg:(w2.alloc o).grownBy w3 v.ownBlock):Below base W w3:=by
 have h:=(bt ((aAI W.heap.size W).drew) hb);have h2:base<=w2.heap.size:=aHU hs h.size;exact((h.mono hs).alloc h2 o).grown hg (by rw[Bk.dF];omega) (fun j hj=>(ho.lt j hj).1)
theorem aPp{o:Oper}{y:Nat->Option Bool}{A B:Prop}(hg:o.guard=none)(h:A):if Region.wanted o y=true then A else B:=by rw[aDk (by simp[Region.wanted,hg])];exact h
theorem one_any {kk pp oo fo nn z0' z1 mo da k0 k1 k2 fr my:Int} {ng:Bool} {bs:Option Addr} {n cp:Nat} {w0:World} (hst:SS w0) (hp:O4 w0 bs n) (f0: -32768<=fr) (f1:fr<32768) (m0:0<=my) (m1:my<256) (h00:0<w0.heap.size) (h01: ∃x,w0.heap[0]? =some x):
 Calls Tryz.prog 19 #[.agg (fArg kk pp oo fo ng nn z0' z1 mo da k0 k1 k2 fr my (.slice bs n cp)).toArray] w0 (FW w0):=by
 have hAB:=aMQ w0 (fArg kk pp oo fo ng nn z0' z1 mo da k0 k1 k2 fr my (.slice bs n cp)) zF1 32 44;obtain⟨i0,hi0,hz0,hz1,hz2⟩:=aW9 aGx;have HI:=rG hi0;have HZ0:=rG hz0;have HZ1:=rG hz1;have HZ2:=rG hz2;have hr:=fun lo hi W=>Un.iZ lo hi W;unfold Un.rv at hr;have HR:=rG hr;clear hr hi0 hz0 hz1 hz2;have wf:IntKind.i64.wrap fr=fr:=by rw[aHA];omega
 clear h00 h01 hst;unfold fArg at hAB;unfold fArg
 go_enter Tryz.func19,Tryz.ntmps19
 go_upto_region 1 with(fail)
 generalize World.alloc _ _=W0 at hAB ⊢;obtain⟨hA,hB,hs⟩:=hAB;have hO:On (fArg kk pp oo fo ng nn z0' z1 mo da k0 k1 k2 fr my (.slice bs n cp)) (.slice none 0 0) w0 (W0.alloc (.cells (f1L (.slice none 0 0)).toArray 44)):=
  ⟨hA.later (ba (aAI _ _) _),hB.later (ba (aAI _ _) _),by rw[<-hs];exact Rw.fresh hA.below _ _,by rw[Bk.dF];omega⟩
 clear hA hB;have HO:=rG hO;clear hO
 go_upto_region 2 with(fail)
 have q13:=HO.out.a.cell 13 _ rfl;generalize World.alloc _ _=W1 at HO q13 ⊢;clear hs W0
 go_upto_block 0 with(fail)
 clear q13;have HP:=rG hp;clear hp wf
 go_cut [4] (fun s4 wx=> ∃(L:List R4) (D:Int) (v:Value),L.length<=4/\s4=.int .i64 D/\Ol L D w0 wx v/\On (fArg kk pp oo fo ng nn z0' z1 mo da k0 k1 k2 fr my (.slice bs n cp)) v w0 wx)
 case first=>
  go_wp2
  go_loopw [4,5] (fun s4 s5 wr=> ∃(L:List R4) (D:Int) (v:Value),L.length<=4/\L.length<=n/\s5=.int .i64 L.length/\s4=.int .i64 D/\Ol L D w0 wr v/\On (fArg kk pp oo fo ng nn z0' z1 mo da k0 k1 k2 fr my (.slice bs n cp)) v w0 wr) (fun _ s5 _=>4 - (intOf s5).toNat)
  case atStart=>exact⟨[],fr,.slice none 0 0,by decide,aJS _,rfl,rfl,⟨aTX _ _ _ _,fun r h=>(by cases h),by omega,by show fr<=40000+600 * 0;omega⟩,HO.out⟩
  case round=>
   obtain⟨L,D,v,h4,hn,rfl,rfl,hL,hO⟩:=hrel;have q15:=hO.a.cell 15 _ rfl;have HL:=rG hL;replace HO:=rG hO;clear hL hO
   by_cases hi:L.length<n
   . by_cases hj:L.length<4
     . obtain⟨g,o,b,rfl,hg,-,hc,hb⟩:=HP.out (by omega);have hbw:=HO.out.a.below;have d1:=hc (L.length * 2+1) (by omega);have d0:=hc (L.length * 2) (by omega);have b1:=hb (L.length * 2+1);have b0:=hb (L.length * 2);rw[<-aR2]at d1;generalize b (L.length * 2+1)=B1 at d1 b1;generalize b (L.length * 2)=B0 at d0 b0;have e1:=(hbw.cell (p:=⟨g,o+L.length * 2+1,none⟩) hg).trans d1;have hd0:=rG d0;have D0:=HL.out.d0;have D1:=HL.out.d1;have v1:IntKind.i64.wrap B1=B1:=by rw[aHA];omega
       have v0:IntKind.i64.wrap B0=B0:=by rw[aHA];omega
       have v2:wrap64 (D+B1)=D+B1:=by unfold wrap64;omega
       have v3:wrap64 (D+B1+2)=D+B1+2:=by unfold wrap64;omega
       have v4:wrap64 (D+B1+2+B0)=D+B1+2+B0:=by unfold wrap64;omega
       have hin:(L.length:Int)<n:=by omega
       have hjn:(L.length:Int)<4:=by omega
       have qv:=HO.out.c.cell 1 _ rfl;have qf:=HO.out.c.free 1 (show 1<17 by decide);clear hb hc hbw d1 d0;obtain⟨sa,sc,rfl⟩:=aIf HL.out.own
       go_upto_region 7 with(fail)
       have hbs:=HO.out.s
       go_cut [6] (fun s6 wx=>s6=.int .i64 (D+B1)/\ ∃v',On (fArg kk pp oo fo ng nn z0' z1 mo da k0 k1 k2 fr my (.slice (some ⟨g,o,none⟩) n cp)) v' w0 wx/\wx.ownsRow (w0.heap.size+3) 42 4 v' (L.length+1) (lM L++l4 0 D 0 (D+B1)))
       case first=>
        go_region_law (first
         |(refine aPp rfl ?_;go_simp;go_at_call 42;refine(HR.out _ _ _).mono ?_;rintro _ w2 ⟨rfl,hb2⟩;have c2:=(hb2.cell (p:=⟨w0.heap.size+2,1,none⟩) hbs).trans qv;have l2:w0.heap.size+2<w2.heap.size:=aGA hbs hb2.size)
         |(refine aPp rfl ?_;refine wp_append_own _ _ _ 33 rfl (w0.heap.size+3) 42 i0 (.agg #[.int .i8 0,.int .i64 0,.int .i8 0,.int .i64 0]) 4 32 Tryz.underlying33 HI.out HZ0.out HZ1.out HZ2.out rfl (by decide) _ _ _ rfl ((ownB HL.out.own.drew hb2).alloc _) ⟨w2.heap.size,0,none⟩ 1 1 (l4 0 D 0 (D+B1)) rfl rfl (aSK _ _ _) (aSJ _ _) (by unfold maxLen;omega) (by omega) (by have:=hb2.size;simp at this ⊢;omega) ?_;rintro v' w3 hown' hgrow -;have hB3:=ap3 hb2 hbs HL.out.own hgrow;have c3:=(hB3.cell (p:=⟨w0.heap.size+2,1,none⟩) (show _<_ from aMe _)).trans qv;have f3:=(hB3.frozen (p:=⟨w0.heap.size+2,1,none⟩) (show _<_ from aMe _)).trans qf;obtain⟨ta,tc,rfl⟩:=aIf hown'))
        all_goals
         go_wp2_with (fail)
         go_meet
         exact⟨rfl,_,(HO.out.keep hB3).set,ownsRow_setCell_below hown' (show _<_ from aMe _) _⟩
       case rest=>
        obtain⟨rfl,v',hO2,hown2⟩:=hcut;have e0:=(hO2.a.below.cell (p:=⟨g,o+L.length * 2,none⟩) hg).trans hd0.out;have a08:=hO2.a.cell 15 _ rfl;have HO2:=rG hO2;have HW2:=rG hown2;clear hO2 hown2
        go_wp2
        go_roundw
        case rel=>
         refine⟨L++[⟨0,D,0,D+B1⟩],D+B1+2+B0,v',by simp;omega,by simp;omega,by simp,rfl,⟨by rw[xU,aS9];exact HW2.out,fun r hr=>?_,by omega,by rw[aS9,List.length_singleton];omega⟩,HO2.out⟩;rcases aL6.1 hr with hr|hr
         . exact HL.out.ok r hr
         obtain rfl:=aL8.1 hr;exact⟨rfl,rfl,by dsimp only;omega,by dsimp only;omega,by dsimp only;omega⟩
        case measure=>simp[intOf];omega
     have hin:(L.length:Int)<n:=by omega
     have hjn: ¬(L.length:Int)<4:=by omega
     obtain⟨g,o,b,rfl,-⟩:=HP.out (by omega)
     go_wp2
     go_meet
     exact⟨L,D,v,h4,rfl,HL.out,HO.out⟩
   have hin: ¬(L.length:Int)<n:=by omega
   go_wp2
   go_meet
   exact⟨L,D,v,h4,rfl,HL.out,HO.out⟩
 case rest=>
  obtain⟨L,D,v,h4,rfl,hL,hO⟩:=hcut;have hbs:=hO.s;have qv:=hO.c.cell 1 _ rfl;have qf:=hO.c.free 1 (show 1<17 by decide);have q14:=hO.a.cell 14 _ rfl;have D0:=hL.d0;have D1:=hL.d1;obtain⟨sa,sc,rfl⟩:=aIf hL.own;replace HO:=rG hO;have HL:=rG hL;clear hL hO HP
  go_upto_if 52 with(fail)
  go_cut [] (fun wx=> ∃g k c,k<4/\Oe g (k+1) c (fArg kk pp oo fo ng nn z0' z1 mo da k0 k1 k2 fr my (.slice bs n cp)) w0 wx)
  case first=>
   match L,h4,HL with
   |[],_,HL=>
    have w5:IntKind.i64.wrap my=my:=by rw[aHA];omega
    have v5:wrap64 (D+my)=D+my:=by have:=HL.out.d1;unfold wrap64;simp at this;omega
    go_wp2_with (go_at_call 42;refine(HR.out _ _ _).mono ?_;rintro _ w2 ⟨rfl,hb2⟩;have c2:=(hb2.cell (p:=⟨w0.heap.size+2,1,none⟩) hbs).trans qv;have f2:=(hb2.frozen (p:=⟨w0.heap.size+2,1,none⟩) hbs).trans qf;have l2:w0.heap.size+2<w2.heap.size:=aGA hbs hb2.size)
    go_meet
    have hY:=(HO.out.keep (hb2.mono hbs)).set (v':=.slice (some ⟨w2.heap.size,0,none⟩) 1 1);have hZ:=Rw.fresh hY.a.below (lM [⟨0,D,0,D+my⟩]) 42;rw[show (w2.setCell ⟨w0.heap.size+2,1,none⟩ (.slice (some ⟨w2.heap.size,0,none⟩) 1 1)).heap.size=w2.heap.size from aWl]at hZ;refine⟨w2.heap.size,0,1,by decide,⟨[⟨0,D,0,D+my⟩],rfl,?_,hZ⟩,hY.keep ((aAI _ _).alloc hY.s _),by omega⟩;intro r hr;obtain rfl:=aL8.1 hr;have:=HL.out.d1;simp at this;exact⟨.inl rfl,.inl rfl,by dsimp only;omega,by dsimp only;omega,by dsimp only;omega,by dsimp only;omega,fun _ _=>by dsimp only;omega⟩
   |r::t,h4,HL=>
    have hne: ¬(((r::t).length:Nat):Int)=0:=by simp;omega
    go_wp2
    go_meet
    rcases HL.out.own.2 with⟨e,hn⟩|⟨g,cap,cur,e,hg,-⟩
    . simp at hn
    cases e
    refine⟨g,t.length,_,by simp at h4;omega,⟨r::t,rfl,fun x hx=>?_,⟨fun i v hv=>?_,fun i hi=>HL.out.own.frozenAt i,by omega,(HL.out.own.lt g rfl).2,HO.out.a.below⟩⟩,HO.out,hg⟩
    . obtain⟨z1,z2,z3,z4,z5⟩:=HL.out.ok x hx;exact⟨.inl z1,.inl z2,by omega,by omega,by omega,by omega,fun _ _=>z5⟩
    have hi:i<(lM (r::t)).length:=by by_cases c:i<(lM (r::t)).length;exact c;rw[aSz (by omega)]at hv;cases hv
    rw[kQ]at hi;rw[HL.out.own.cellAt i hi];exact hv
  case rest=>
   obtain⟨g,k,c,hk,hE⟩:=hcut;clear HO HL qv qf q14 D0 D1 h4 hbs;have q2:=hE.on.a.cell 2 _ rfl;have qv:=hE.on.c.cell 1 _ rfl;obtain⟨⟨x0,t0⟩,⟨x1,t1⟩,t2,t3⟩:=hE.two 0 (by omega);have HE:=rG hE;clear hE
   go_upto_if 65 with(fail)
   go_cut [] (fun wx=>Oe g (k+1) c (fArg kk pp oo fo ng nn z0' z1 mo da k0 k1 k2 fr my (.slice bs n cp)) w0 wx)
   case first=>
    go_wp2_with (fail)
    all_goals
     go_meet
     first|exact HE.out.lo|exact HE.out
   case rest=>
    clear HE t0 t1 t2 t3 q2 qv;have q2:=hcut.on.a.cell 2 _ rfl;have qv:=hcut.on.c.cell 1 _ rfl;obtain⟨⟨x0,t0⟩,⟨x1,t1⟩,t2,t3⟩:=hcut.two (k * 4+2) (by omega);have HE:=rG hcut;clear hcut
    go_upto_if 74 with(fail)
    go_cut [] (fun wx=>Oe g (k+1) c (fArg kk pp oo fo ng nn z0' z1 mo da k0 k1 k2 fr my (.slice bs n cp)) w0 wx)
    case first=>
     go_wp2_with (fail)
     all_goals
      go_meet
      first|exact HE.out.hi|exact HE.out
    case rest=>
     clear HE t0 t1 t2 t3 q2 qv;have hT:=hcut.on.b.there;have hR:=hcut.on.c.range;have hX:=hcut.on.b.dB (f1L (.slice (some ⟨g,0,none⟩) (k+1) c)) rfl;have hr:=aMj (P:=Tryz.prog) _ _ 0 44 (f1L (.slice (some ⟨g,0,none⟩) (k+1) c)) _ hX.range Tryz.underlying44 rfl ES;have HE:=rG hcut;replace hr:=rG hr;clear hcut hX
     go_wp2_with (first
      |(refine aHD rfl 44 (.tmp 3) rfl (w0.heap.size+2) 0 rfl (f1L (.slice (some ⟨g,0,none⟩) (k+1) c)) _ hR Tryz.underlying44 rfl ES ?_)
      |(refine aQJ rfl 44 (.tmp 2) (.tmp 84) rfl (w0.heap.size+1) 0 (f1L (.slice (some ⟨g,0,none⟩) (k+1) c)).toArray rfl rfl hT ES (aSv _ _ _) ?_))
     exact aHE (v:=.agg (f1L (.slice (some ⟨g,0,none⟩) (k+1) c)).toArray) (Bk.dQ Tryz.results19 _ rfl hr.out) rfl (HE.out.ret (by omega))
end Sk
end
section
open Go.RowKit Go.Lib
namespace Sk
open Bk (Dt aV)
open Ev (bM DT LG eU tb2 fD hp vG kG iU mJ qF PD GL oN aU AV DW vH dS aB aC eF mD mX dX Lf zN eY aW fU)
abbrev zFl:List Value:=[.int .u8 0,.slice none 0 0,.bool false,.bool false,.string ⟨#[]⟩,.int .i64 0,.int .i64 0,.string ⟨#[]⟩,.string ⟨#[]⟩,.int .u8 0,.int .u8 0,.int .u8 0,.int .u8 0,.int .i8 0,.int .i64 0,.int .i8 0,.int .i64 0]
abbrev dl(d:Bk.Dt):List Value:=[.bool d.neg,.bool d.long,.string d.dg,.int .i64 d.ex,.int .i64 d.sig,.string d.mo,.string d.da,.int .u8 d.m0,.int .u8 d.m1,.int .u8 d.m2]
noncomputable def sW:Code:=match(Tryz.f6).body with
 |some c=>c
 |none=>.skip
def yf0:AV:=aU 5 .u8 [(qu 0),(.v (.int .u8 5))]
def yf1:AV:=aU 5 .u8 [(qu 2),(.v (.int .u8 4))]
def yf2:AV:=aU 5 .u8 [(qu 1),(.v (.int .u8 3))]
def yf3:AV:=aU 1 .u8 [(.v (.int .u8 1)),yf2]
def yf4:List AV:=[.v (.int .u8 1),aU 5 .u8 [(qu 1),.v (.int .u8 3)]]
def yf5:List AV:=[(qb 16),(qb 17),(qs 18),(qi 19),(qi 20),(qs 21),(qs 22),(qu 23),(qu 24),(qu 25)]
def RI:List AV:=[(qu 0),(qu 1),(qu 2),(qu 3),(qb 4),(qF 5),(qu 6),(qu 7),(qu 8),(qu 9),(qu 10),(qu 11),(qu 12),(kG 13),(qu 14),(oN 15)]
def yf7:List AV:=[.v (.int .u8 0),.v (.slice none 0 0),qf,qf,.v (.string ⟨#[]⟩),qz,qz,.v (.string ⟨#[]⟩),.v (.string ⟨#[]⟩),.v (.int .u8 0),.v (.int .u8 0),.v (.int .u8 0),.v (.int .u8 0),q8,qz,q8,qz]
def yf8:List AV:=[(.v (.int .u8 0)),(.v (.slice none 0 0)),qf,qf,(.v (.string ⟨#[]⟩)),qz,qz,(.v (.string ⟨#[]⟩)),(.v (.string ⟨#[]⟩)),(.v (.int .u8 0)),(.v (.int .u8 0)),(.v (.int .u8 0)),(.v (.int .u8 0)),q8,qz,q8,qz]
def aLO:mX:=(.node 0 yf0 (.v (.int .u8 1)) mX.no (.node 0 yf0 (.v (.int .u8 2)) mX.no (.node 0 yf0 (.v (.int .u8 3)) mX.no (.node 0 yf0 (.v (.int .u8 4)) mX.no (.leaf .normal [(1,.p 0),(2,.p 1)] [(32,RI),(44,yf8)])))))
theorem aFZ(l:Value):aLO.ok tb2 l [] [] hp 60 LG 101 60 2 (aW [] sW) [(0,.s (.agg RI))] [] []=true:=by kernel_rfl
theorem aRs(kk pp oo fo nn z0 z1 mo da k0 k1 k2 fr my:Int)(ng:Bool)(bs:Option Addr)(n cp:Nat){w0 w:World}{P:List Nat}{a0:Act}{Q:Exit->Act->World->Prop}(hst:SS w0) (hw:dX w0 101 P [] [(0,(.agg (fArg kk pp oo fo ng nn z0 z1 mo da k0 k1 k2 fr my (.slice bs n cp)).toArray))] a0 w)(HP:((((Int.tmod kk 5)==1)=true->False)/\(((Int.tmod kk 5)==1)=false->((((Int.tmod kk 5)==2)=true->False)/\(((Int.tmod kk 5)==2)=false->((((Int.tmod kk 5)==3)=true->False)/\(((Int.tmod kk 5)==3)=false->((((Int.tmod kk 5)==4)=true->False)/\(((Int.tmod kk 5)==4)=false->Lf w0 101 P [(32,(fArg kk pp oo fo ng nn z0 z1 mo da k0 k1 k2 fr my (.slice bs n cp))),(44,zFl)] (fun P=>[(1,.pointer (some ⟨P.getD 0 0,0,none⟩)),(2,.pointer (some ⟨P.getD 1 0,0,none⟩))]) (zN Tryz.prog Q 2 (aW [] sW) .normal)))))))))):(aW [] sW).wp Tryz.prog Q a0 w:=
 eY (aFZ (.agg #[.int .u8 kk,.int .u8 pp,.int .u8 oo,.int .u8 fo,.bool ng,.int .u16 nn,.int .u8 z0,.int .u8 z1,.int .u8 mo,.int .u8 da,.int .u8 k0,.int .u8 k1,.int .u8 k2,.int .i16 fr,.int .u8 my,(.slice bs n cp)])) (fD w0) hst .nil .nil hw HP (by kernel_rfl)
def aVV:mX:=(.node 0 yf0 (.v (.int .u8 1)) mX.no (.node 0 yf0 (.v (.int .u8 2)) mX.no (.node 0 yf0 (.v (.int .u8 3)) (.leaf .ret [(1,.p 0),(2,.p 1)] [(32,RI),(44,[(.v (.int .u8 4)),(.v (.slice none 0 0)),qf,qf,(.v (.string ⟨#[]⟩)),qz,qz,(.v (.string ⟨#[]⟩)),(.v (.string ⟨#[]⟩)),(.v (.int .u8 0)),(.v (.int .u8 0)),(.v (.int .u8 0)),(.v (.int .u8 0)),(.v (.int .i8 (-1))),qz,q8,(aU 6 .i64 [(kG 13)])])]) mX.no)))
theorem aRk(l:Value):aVV.ok tb2 l [] [] hp 60 LG 101 60 0 (aW [] sW) [(0,.s (.agg RI))] [] []=true:=by kernel_rfl
theorem of3(kk pp oo fo nn z0 z1 mo da k0 k1 k2 fr my:Int)(ng:Bool)(bs:Option Addr)(n cp:Nat){w0 w:World}{P:List Nat}{a0:Act}{Q:Exit->Act->World->Prop}(hst:SS w0) (hw:dX w0 101 P [] [(0,(.agg (fArg kk pp oo fo ng nn z0 z1 mo da k0 k1 k2 fr my (.slice bs n cp)).toArray))] a0 w)(HP:((((Int.tmod kk 5)==1)=true->False)/\(((Int.tmod kk 5)==1)=false->((((Int.tmod kk 5)==2)=true->False)/\(((Int.tmod kk 5)==2)=false->((((Int.tmod kk 5)==3)=true->Lf w0 101 P [(32,(fArg kk pp oo fo ng nn z0 z1 mo da k0 k1 k2 fr my (.slice bs n cp))),(44,[(.int .u8 4),(.slice none 0 0),(.bool false),(.bool false),(.string ⟨#[]⟩),(.int .i64 0),(.int .i64 0),(.string ⟨#[]⟩),(.string ⟨#[]⟩),(.int .u8 0),(.int .u8 0),(.int .u8 0),(.int .u8 0),(.int .i8 (-1)),(.int .i64 0),(.int .i8 0),(.int .i64 (IntKind.i64.wrap fr))])] (fun P=>[(1,.pointer (some ⟨P.getD 0 0,0,none⟩)),(2,.pointer (some ⟨P.getD 1 0,0,none⟩))]) (Q .ret))/\(((Int.tmod kk 5)==3)=false->False))))))):(aW [] sW).wp Tryz.prog Q a0 w:=
 eY (aRk (.agg #[.int .u8 kk,.int .u8 pp,.int .u8 oo,.int .u8 fo,.bool ng,.int .u16 nn,.int .u8 z0,.int .u8 z1,.int .u8 mo,.int .u8 da,.int .u8 k0,.int .u8 k1,.int .u8 k2,.int .i16 fr,.int .u8 my,(.slice bs n cp)])) (fD w0) hst .nil .nil hw HP (by kernel_rfl)
def aVU:mX:=(.node 0 yf0 (.v (.int .u8 1)) mX.no (.node 0 yf0 (.v (.int .u8 2)) mX.no (.node 0 yf0 (.v (.int .u8 3)) mX.no (.node 0 yf0 (.v (.int .u8 4)) (.leaf .ret [(1,.p 0),(2,.p 1)] [(32,RI),(44,[(.v (.int .u8 5)),(.v (.slice none 0 0)),qf,qf,(.v (.string ⟨#[]⟩)),qz,qz,(.v (.string ⟨#[]⟩)),(.v (.string ⟨#[]⟩)),(.v (.int .u8 0)),(.v (.int .u8 0)),(.v (.int .u8 0)),(.v (.int .u8 0)),q8,(aU 6 .i64 [(kG 13)]),(.v (.int .i8 1)),qz])]) mX.no))))
theorem aRj(l:Value):aVU.ok tb2 l [] [] hp 60 LG 101 60 0 (aW [] sW) [(0,.s (.agg RI))] [] []=true:=by kernel_rfl
theorem of4(kk pp oo fo nn z0 z1 mo da k0 k1 k2 fr my:Int)(ng:Bool)(bs:Option Addr)(n cp:Nat){w0 w:World}{P:List Nat}{a0:Act}{Q:Exit->Act->World->Prop}(hst:SS w0) (hw:dX w0 101 P [] [(0,(.agg (fArg kk pp oo fo ng nn z0 z1 mo da k0 k1 k2 fr my (.slice bs n cp)).toArray))] a0 w)(HP:((((Int.tmod kk 5)==1)=true->False)/\(((Int.tmod kk 5)==1)=false->((((Int.tmod kk 5)==2)=true->False)/\(((Int.tmod kk 5)==2)=false->((((Int.tmod kk 5)==3)=true->False)/\(((Int.tmod kk 5)==3)=false->((((Int.tmod kk 5)==4)=true->Lf w0 101 P [(32,(fArg kk pp oo fo ng nn z0 z1 mo da k0 k1 k2 fr my (.slice bs n cp))),(44,[(.int .u8 5),(.slice none 0 0),(.bool false),(.bool false),(.string ⟨#[]⟩),(.int .i64 0),(.int .i64 0),(.string ⟨#[]⟩),(.string ⟨#[]⟩),(.int .u8 0),(.int .u8 0),(.int .u8 0),(.int .u8 0),(.int .i8 0),(.int .i64 (IntKind.i64.wrap fr)),(.int .i8 1),(.int .i64 0)])] (fun P=>[(1,.pointer (some ⟨P.getD 0 0,0,none⟩)),(2,.pointer (some ⟨P.getD 1 0,0,none⟩))]) (Q .ret))/\(((Int.tmod kk 5)==4)=false->False))))))))):(aW [] sW).wp Tryz.prog Q a0 w:=
 eY (aRj (.agg #[.int .u8 kk,.int .u8 pp,.int .u8 oo,.int .u8 fo,.bool ng,.int .u16 nn,.int .u8 z0,.int .u8 z1,.int .u8 mo,.int .u8 da,.int .u8 k0,.int .u8 k1,.int .u8 k2,.int .i16 fr,.int .u8 my,(.slice bs n cp)])) (fD w0) hst .nil .nil hw HP (by kernel_rfl)
def aVW:mX:=(.node 0 yf0 (.v (.int .u8 1)) mX.no (.node 0 yf0 (.v (.int .u8 2)) (.node 0 yf1 (.v (.int .u8 1)) (.node 0 yf1 (.v (.int .u8 2)) mX.no (.leaf .ret [(1,.p 0),(2,.p 1)] [(32,RI),(44,[(.v (.int .u8 3)),(.v (.slice none 0 0)),qf,qf,(.v (.string ⟨#[]⟩)),qz,qz,(.v (.string ⟨#[]⟩)),(.v (.string ⟨#[]⟩)),(.v (.int .u8 0)),(.v (.int .u8 0)),(.v (.int .u8 0)),yf3,(.v (.int .i8 (-1))),qz,q8,(qi 20)])])) (.node 0 yf1 (.v (.int .u8 2)) (.leaf .ret [(1,.p 0),(2,.p 1)] [(32,RI),(44,[(.v (.int .u8 3)),(.v (.slice none 0 0)),qf,qf,(.v (.string ⟨#[]⟩)),qz,qz,(.v (.string ⟨#[]⟩)),(.v (.string ⟨#[]⟩)),(.v (.int .u8 0)),(.v (.int .u8 0)),(.v (.int .u8 0)),yf3,q8,(qi 16),(.v (.int .i8 1)),qz])]) (.leaf .ret [(1,.p 0),(2,.p 1)] [(32,RI),(44,[(.v (.int .u8 3)),(.v (.slice none 0 0)),qf,qf,(.v (.string ⟨#[]⟩)),qz,qz,(.v (.string ⟨#[]⟩)),(.v (.string ⟨#[]⟩)),(.v (.int .u8 0)),(.v (.int .u8 0)),(.v (.int .u8 0)),yf3,q8,(qi 16),q8,(qi 20)])]))) mX.no))
theorem aRl(l:Value):aVW.ok tb2 l [] [(20,[aU 6 .i64 [(kG 13)],aU 6 .i64 [aU 1 .u8 yf4]],.aK [rK q8 (qi 16) q8 (qi 17),(qi 18)]),(20,[aU 1 .i64 [aU 6 .i64 [(kG 13)],aU 6 .i64 [(qu 14)]],aU 6 .i64 [aU 1 .u8 yf4]],.aK [rK q8 (qi 19) q8 (qi 20),(qi 21)])] hp 60 LG 101 60 0 (aW [] sW) [(0,.s (.agg RI))] [] []=true:=by kernel_rfl
theorem of2(kk pp oo fo nn z0 z1 mo da k0 k1 k2 fr my xl xh xe yl yh ye:Int)(ng:Bool)(bs:Option Addr)(n cp:Nat){w0 w:World}{P:List Nat}{a0:Act}{Q:Exit->Act->World->Prop}(hst:SS w0) (H0:Same w0 20 #[(.int .i64 (IntKind.i64.wrap fr)),(.int .i64 (IntKind.i64.wrap (IntKind.u8.wrap (1+(Int.tmod pp 3)))))] (.tuple #[(r4 0 xl 0 xh),(.int .i64 xe)]))(H1:Same w0 20 #[(.int .i64 (IntKind.i64.wrap ((IntKind.i64.wrap fr)+(IntKind.i64.wrap my)))),(.int .i64 (IntKind.i64.wrap (IntKind.u8.wrap (1+(Int.tmod pp 3)))))] (.tuple #[(r4 0 yl 0 yh),(.int .i64 ye)]))(hw:dX w0 101 P [] [(0,(.agg (fArg kk pp oo fo ng nn z0 z1 mo da k0 k1 k2 fr my (.slice bs n cp)).toArray))] a0 w)(HP:((((Int.tmod kk 5)==1)=true->False)/\(((Int.tmod kk 5)==1)=false->((((Int.tmod kk 5)==2)=true->((((Int.tmod oo 4)==1)=true->((((Int.tmod oo 4)==2)=true->False)/\(((Int.tmod oo 4)==2)=false->Lf w0 101 P [(32,(fArg kk pp oo fo ng nn z0 z1 mo da k0 k1 k2 fr my (.slice bs n cp))),(44,[(.int .u8 3),(.slice none 0 0),(.bool false),(.bool false),(.string ⟨#[]⟩),(.int .i64 0),(.int .i64 0),(.string ⟨#[]⟩),(.string ⟨#[]⟩),(.int .u8 0),(.int .u8 0),(.int .u8 0),(.int .u8 (IntKind.u8.wrap (1+(Int.tmod pp 3)))),(.int .i8 (-1)),(.int .i64 0),(.int .i8 0),(.int .i64 yh)])] (fun P=>[(1,.pointer (some ⟨P.getD 0 0,0,none⟩)),(2,.pointer (some ⟨P.getD 1 0,0,none⟩))]) (Q .ret))))/\(((Int.tmod oo 4)==1)=false->((((Int.tmod oo 4)==2)=true->Lf w0 101 P [(32,(fArg kk pp oo fo ng nn z0 z1 mo da k0 k1 k2 fr my (.slice bs n cp))),(44,[(.int .u8 3),(.slice none 0 0),(.bool false),(.bool false),(.string ⟨#[]⟩),(.int .i64 0),(.int .i64 0),(.string ⟨#[]⟩),(.string ⟨#[]⟩),(.int .u8 0),(.int .u8 0),(.int .u8 0),(.int .u8 (IntKind.u8.wrap (1+(Int.tmod pp 3)))),(.int .i8 0),(.int .i64 xl),(.int .i8 1),(.int .i64 0)])] (fun P=>[(1,.pointer (some ⟨P.getD 0 0,0,none⟩)),(2,.pointer (some ⟨P.getD 1 0,0,none⟩))]) (Q .ret))/\(((Int.tmod oo 4)==2)=false->Lf w0 101 P [(32,(fArg kk pp oo fo ng nn z0 z1 mo da k0 k1 k2 fr my (.slice bs n cp))),(44,[(.int .u8 3),(.slice none 0 0),(.bool false),(.bool false),(.string ⟨#[]⟩),(.int .i64 0),(.int .i64 0),(.string ⟨#[]⟩),(.string ⟨#[]⟩),(.int .u8 0),(.int .u8 0),(.int .u8 0),(.int .u8 (IntKind.u8.wrap (1+(Int.tmod pp 3)))),(.int .i8 0),(.int .i64 xl),(.int .i8 0),(.int .i64 yh)])] (fun P=>[(1,.pointer (some ⟨P.getD 0 0,0,none⟩)),(2,.pointer (some ⟨P.getD 1 0,0,none⟩))]) (Q .ret))))))/\(((Int.tmod kk 5)==2)=false->False))))):(aW [] sW).wp Tryz.prog Q a0 w:=
 eY (aRl (.agg #[.int .u8 kk,.int .u8 pp,.int .u8 oo,.int .u8 fo,.bool ng,.int .u16 nn,.int .u8 z0,.int .u8 z1,.int .u8 mo,.int .u8 da,.int .u8 k0,.int .u8 k1,.int .u8 k2,.int .i16 fr,.int .u8 my,(.slice bs n cp),.int .i64 xl,.int .i64 xh,.int .i64 xe,.int .i64 yl,.int .i64 yh,.int .i64 ye])) (fD w0) hst .nil (.cons H0 (.cons H1 .nil)) hw HP (by kernel_rfl)
def aVT:mX:=(.leaf .normal [(1,.p 0),(2,.p 1)] [(32,RI),(44,yf8)])
theorem aRi(l:Value):aVT.ok tb2 l [] [] hp 60 LG 101 60 1 (aW [] sW) [(0,.s (.agg RI))] [] []=true:=by kernel_rfl
theorem ofA(kk pp oo fo nn z0 z1 mo da k0 k1 k2 fr my:Int)(ng:Bool)(bs:Option Addr)(n cp:Nat){w0 w:World}{P:List Nat}{a0:Act}{Q:Exit->Act->World->Prop}(hst:SS w0) (hw:dX w0 101 P [] [(0,(.agg (fArg kk pp oo fo ng nn z0 z1 mo da k0 k1 k2 fr my (.slice bs n cp)).toArray))] a0 w)(HP:Lf w0 101 P [(32,(fArg kk pp oo fo ng nn z0 z1 mo da k0 k1 k2 fr my (.slice bs n cp))),(44,zFl)] (fun P=>[(1,.pointer (some ⟨P.getD 0 0,0,none⟩)),(2,.pointer (some ⟨P.getD 1 0,0,none⟩))]) (zN Tryz.prog Q 1 (aW [] sW) .normal)):(aW [] sW).wp Tryz.prog Q a0 w:=
 eY (aRi (.agg #[.int .u8 kk,.int .u8 pp,.int .u8 oo,.int .u8 fo,.bool ng,.int .u16 nn,.int .u8 z0,.int .u8 z1,.int .u8 mo,.int .u8 da,.int .u8 k0,.int .u8 k1,.int .u8 k2,.int .i16 fr,.int .u8 my,(.slice bs n cp)])) (fD w0) hst .nil .nil hw HP (by kernel_rfl)
def aVS:mX:=(.leaf .normal [(1,.p 0),(2,.p 1),(12,.s yf0)] [(32,RI),(44,yf8)])
theorem aRh(l:Value):aVS.ok tb2 l [] [] hp 60 LG 101 60 0 (aW [1,0,0] sW) [(1,.p 0),(2,.p 1)] [(32,RI),(44,yf7)] []=true:=by kernel_rfl
theorem ofB(kk pp oo fo nn z0 z1 mo da k0 k1 k2 fr my:Int)(ng:Bool)(bs:Option Addr)(n cp:Nat){w0 w:World}{P:List Nat}{a0:Act}{Q:Exit->Act->World->Prop}(hst:SS w0) (hw:dX w0 101 P [(32,(fArg kk pp oo fo ng nn z0 z1 mo da k0 k1 k2 fr my (.slice bs n cp))),(44,zFl)] [(1,.pointer (some ⟨P.getD 0 0,0,none⟩)),(2,.pointer (some ⟨P.getD 1 0,0,none⟩))] a0 w)(HP:Lf w0 101 P [(32,(fArg kk pp oo fo ng nn z0 z1 mo da k0 k1 k2 fr my (.slice bs n cp))),(44,zFl)] (fun P=>[(1,.pointer (some ⟨P.getD 0 0,0,none⟩)),(2,.pointer (some ⟨P.getD 1 0,0,none⟩)),(12,(.int .u8 (Int.tmod kk 5)))]) (Q .normal)):(aW [1,0,0] sW).wp Tryz.prog Q a0 w:=
 eY (aRh (.agg #[.int .u8 kk,.int .u8 pp,.int .u8 oo,.int .u8 fo,.bool ng,.int .u16 nn,.int .u8 z0,.int .u8 z1,.int .u8 mo,.int .u8 da,.int .u8 k0,.int .u8 k1,.int .u8 k2,.int .i16 fr,.int .u8 my,(.slice bs n cp)])) (fD w0) hst .nil .nil hw HP (by kernel_rfl)
def aS4:mX:=(.leaf .normal [(1,.p 0),(2,.p 1),(13,.s qt)] [(32,RI),(44,yf8)])
theorem aNt(l:Value):aS4.ok tb2 l [] [] hp 60 LG 101 60 0 (aW [1,0,1,0,0] sW) [(12,.s (.v (.int .u8 1))),(1,.p 0),(2,.p 1)] [(32,RI),(44,yf7)] []=true:=by kernel_rfl
theorem aXJ(kk pp oo fo nn z0 z1 mo da k0 k1 k2 fr my:Int)(ng:Bool)(bs:Option Addr)(n cp:Nat){w0 w:World}{P:List Nat}{a0:Act}{Q:Exit->Act->World->Prop}(hst:SS w0) (hw:dX w0 101 P [(32,(fArg kk pp oo fo ng nn z0 z1 mo da k0 k1 k2 fr my (.slice bs n cp))),(44,zFl)] [(12,(.int .u8 1)),(1,.pointer (some ⟨P.getD 0 0,0,none⟩)),(2,.pointer (some ⟨P.getD 1 0,0,none⟩))] a0 w)(HP:Lf w0 101 P [(32,(fArg kk pp oo fo ng nn z0 z1 mo da k0 k1 k2 fr my (.slice bs n cp))),(44,zFl)] (fun P=>[(1,.pointer (some ⟨P.getD 0 0,0,none⟩)),(2,.pointer (some ⟨P.getD 1 0,0,none⟩)),(13,(.bool true))]) (Q .normal)):(aW [1,0,1,0,0] sW).wp Tryz.prog Q a0 w:=
 eY (aNt (.agg #[.int .u8 kk,.int .u8 pp,.int .u8 oo,.int .u8 fo,.bool ng,.int .u16 nn,.int .u8 z0,.int .u8 z1,.int .u8 mo,.int .u8 da,.int .u8 k0,.int .u8 k1,.int .u8 k2,.int .i16 fr,.int .u8 my,(.slice bs n cp)])) (fD w0) hst .nil .nil hw HP (by kernel_rfl)
def aVR:mX:=(.node 0 (qi 20) qz (.node 0 (qi 26) (.v (.int .i64 1)) (.node 1 qz (qi 20) mX.no (.leaf .ret [(1,.p 0),(2,.p 1)] [(32,RI),(44,[(.v (.int .u8 2)),(.v (.slice none 0 0)),(qb 16),(qb 17),(qs 18),(qi 19),(qi 20),(qs 21),(qs 22),(.v (.int .u8 0)),(.v (.int .u8 0)),(.v (.int .u8 0)),(.v (.int .u8 0)),q8,qz,q8,qz]),(37,yf5)])) (.leaf .normal [(1,.p 0),(2,.p 1)] [(32,RI),(44,yf8),(37,yf5)])) (.leaf .normal [(1,.p 0),(2,.p 1)] [(32,RI),(44,yf8),(37,yf5)]))
theorem aRg(l:Value):aVR.ok tb2 l [] [(17,[.agg yf5],(qi 26))] hp 60 LG 101 60 1 (aW [1,0,1,0,1,0,1] sW) [(1,.p 0),(2,.p 1),(3,.p 2)] [(32,RI),(44,yf7),(37,yf5)] []=true:=by kernel_rfl
theorem ofD(kk pp oo fo nn z0 z1 mo da k0 k1 k2 fr my qx:Int)(ng:Bool)(bs:Option Addr)(n cp:Nat)(d:Dt){w0 w:World}{P:List Nat}{a0:Act}{Q:Exit->Act->World->Prop}(hst:SS w0) (H0:Same w0 17 #[(aV d)] (.int .i64 qx))(hw:dX w0 101 P [(32,(fArg kk pp oo fo ng nn z0 z1 mo da k0 k1 k2 fr my (.slice bs n cp))),(44,zFl),(37,(dl d))] [(1,.pointer (some ⟨P.getD 0 0,0,none⟩)),(2,.pointer (some ⟨P.getD 1 0,0,none⟩)),(3,.pointer (some ⟨P.getD 2 0,0,none⟩))] a0 w)(HP:(((d.sig==0)=true->(((qx==1)=true->(((decide (0<d.sig))=true->False)/\((decide (0<d.sig))=false->Lf w0 101 P [(32,(fArg kk pp oo fo ng nn z0 z1 mo da k0 k1 k2 fr my (.slice bs n cp))),(44,[(.int .u8 2),(.slice none 0 0),(.bool d.neg),(.bool d.long),(.string d.dg),(.int .i64 d.ex),(.int .i64 d.sig),(.string d.mo),(.string d.da),(.int .u8 0),(.int .u8 0),(.int .u8 0),(.int .u8 0),(.int .i8 0),(.int .i64 0),(.int .i8 0),(.int .i64 0)]),(37,(dl d))] (fun P=>[(1,.pointer (some ⟨P.getD 0 0,0,none⟩)),(2,.pointer (some ⟨P.getD 1 0,0,none⟩))]) (zN Tryz.prog Q 1 (aW [1,0,1,0,1,0,1] sW) .ret))))/\((qx==1)=false->Lf w0 101 P [(32,(fArg kk pp oo fo ng nn z0 z1 mo da k0 k1 k2 fr my (.slice bs n cp))),(44,zFl),(37,(dl d))] (fun P=>[(1,.pointer (some ⟨P.getD 0 0,0,none⟩)),(2,.pointer (some ⟨P.getD 1 0,0,none⟩))]) (zN Tryz.prog Q 1 (aW [1,0,1,0,1,0,1] sW) .normal))))/\((d.sig==0)=false->Lf w0 101 P [(32,(fArg kk pp oo fo ng nn z0 z1 mo da k0 k1 k2 fr my (.slice bs n cp))),(44,zFl),(37,(dl d))] (fun P=>[(1,.pointer (some ⟨P.getD 0 0,0,none⟩)),(2,.pointer (some ⟨P.getD 1 0,0,none⟩))]) (zN Tryz.prog Q 1 (aW [1,0,1,0,1,0,1] sW) .normal)))):(aW [1,0,1,0,1,0,1] sW).wp Tryz.prog Q a0 w:=
 eY (aRg (.agg #[.int .u8 kk,.int .u8 pp,.int .u8 oo,.int .u8 fo,.bool ng,.int .u16 nn,.int .u8 z0,.int .u8 z1,.int .u8 mo,.int .u8 da,.int .u8 k0,.int .u8 k1,.int .u8 k2,.int .i16 fr,.int .u8 my,(.slice bs n cp),.bool d.neg,.bool d.long,.string d.dg,.int .i64 d.ex,.int .i64 d.sig,.string d.mo,.string d.da,.int .u8 d.m0,.int .u8 d.m1,.int .u8 d.m2,.int .i64 qx])) (fD w0) hst .nil (.cons H0 .nil) hw HP (by kernel_rfl)
end Sk
end
section
open Go.RowKit Go.Lib
namespace Sk
open Un (ba bt)
open Ev (O8 aTn dX)
section
variable{w w':World}{p q:Nat}{el:TypeId}{vs us:List Value}
theorem NR(h:O8 w p el vs){j:Nat}{v:Value}(hv:vs[j]? =some v):w.cell? ⟨p,j,none⟩=some v:=by
 obtain⟨c,fr,h1,_,rfl⟩:=h;have:c[j]? =some v:=by rw[<-aGC];exact hv
 simp[World.cell?,h1,this]
theorem aKl(h:O8 w p el vs){j:Nat}(hj:j<vs.length):w.frozen? ⟨p,j,none⟩=false:=by
 obtain⟨c,fr,h1,h2,rfl⟩:=h;have:=h2 j (by simpa using hj);obtain⟨lo,hi⟩:=fr;simp[World.frozen?,h1];simp at this;omega
theorem EX(h:O8 w p el vs):w.rangeAt p 0 vs:=fun j v hv=>by rw[aKP];exact NR h hv
theorem EW(h:O8 w p el vs):w.there p 0 vs.length:=fun j hj=>by
 rw[aKP];exact⟨by rw[NR h (aEM hj)];rfl,aKl h hj⟩
theorem aC4(h:O8 w p el vs):p<w.heap.size:=by
 obtain⟨c,fr,h1,_⟩:=h
 by_cases hl:p<w.heap.size
 . exact hl
 rw[aKi (by omega)]at h1;cases h1
theorem TK(h:O8 w p el vs)(hb:Below w.heap.size w w'):O8 w' p el vs:=by
 have hp:=aC4 h;obtain⟨c,fr,h1,h2,h3⟩:=h;exact⟨c,fr,(hb.block p hp).trans h1,h2,h3⟩
theorem WL:O8 (w.alloc (.cells vs.toArray el)) w.heap.size el vs:=⟨vs.toArray,(0,0),World.alloc_heap_new w _,fun i _=>by simp,rfl⟩
theorem aN4(h:O8 w p el vs)(k:Nat)(v:Value):O8 (w.setCell ⟨p,k,none⟩ v) p el (vs.set k v):=by
 obtain⟨c,fr,h1,h2,rfl⟩:=h;refine⟨c.setIfInBounds k v,fr,?_,fun i hi=>h2 i (by simpa using hi),by simp⟩;simp[World.setCell,aW7,h1]
theorem aAL: ∀(us:List Value) (k:Nat) {w:World} {vs:List Value},O8 w p el vs->k+us.length=vs.length->O8 (w.setCells p k us) p el (vs.take k++us)
 |[],k,w,vs,h,e=>by
  have:vs.take k++[]=vs:=by rw[aTE,aTf (by simp at e;omega)]
  rw[this];exact h
 | u ::us,k,w,vs,h,e=>by
  have:=aAL us (k+1) (aN4 h k u) (by simp at e ⊢;omega);have e2:(vs.set k u).take (k+1)++us=vs.take k++(u::us):=by
   have hk:k<vs.length:=by simp at e;omega
   apply aXG;intro j;rcases aXC j k with h1|h1|h1
   . rw[aMg (by simp;omega),aMg (by simp;omega),aQS (by omega),aQS h1,List.getElem?_set_ne (by omega)]
   . subst h1;rw[aMg (by simp;omega),aL5 (by simp;omega),aQS (by omega),aYE hk];simp[Nat.min_eq_left (aTm hk)]
   rw[aL5 (by simp;omega),aL5 (by simp;omega)];obtain⟨d,rfl⟩: ∃d,j=k+1+d:=⟨j - (k+1),by omega⟩;have e3:k+1+d - (List.take (k+1) (vs.set k u)).length=d:=by simp;omega
   have e4:k+1+d - (List.take k vs).length=d+1:=by simp;omega
   rw[e3,e4];rfl
  rw[e2]at this;exact this
theorem TJ(h:O8 w p el vs)(hl:us.length=vs.length):O8 (w.setCells p 0 us) p el us:=by
 have:=aAL us 0 h (by omega);simpa using this
theorem RV: ∀(us:List Value) (k:Nat) (w:World),(w.setCells p k us).heap.size=w.heap.size
 |[],_,_=>rfl
 |u::us,k,w=>(RV us (k+1) _).trans (by simp[World.setCell])
end
theorem zH{B b:Nat}{a:World}(hb:B<=b): ∀(us:List Value) (k:Nat) {w:World},Below B a w->Below B a (w.setCells b k us)
 |[],_,_,h=>h
 |u::us,k,_,h=>zH hb us (k+1) (h.setCell (p:=⟨b,k,none⟩) hb u)
theorem BD{w0 w:World}{N:Nat}{P:List Nat}{F:List (TypeId × List Value)}{S:List (Nat × Value)}{a:Act}(hw:dX w0 N P F S a w){j:Nat}{e:TypeId × List Value}(he:F[j]? =some e):O8 w (P.getD j 0) e.1 e.2/\w0.heap.size<=P.getD j 0/\P[j]? =some (P.getD j 0):=by
 have hj:j<P.length:=by rw[hw.fr.1];exact(aHI.1 he).1
 have hp:P[j]? =some (P.getD j 0):=by simp[List.getD,aEM hj]
 exact⟨hw.fr.2 j _ e hp he,hw.new _ (aQj hp),hp⟩
theorem aB2{W:World}{bs:Option Addr}{n:Nat}{f:Nat->R4}{p k:Nat}{us:List Value}(h:qK W bs n f)(hg: ∀g o s,bs=some ⟨g,o,s⟩->g≠p):qK (W.setCells p k us) bs n f:=fun i hi=>by
 obtain⟨g,o,e,hl,c0,c1,c2,c3⟩:=h i hi;have hne:=hg _ _ _ e;have q: ∀j,(W.setCells p k us).cell? ⟨g,j,none⟩=W.cell? ⟨g,j,none⟩:=fun j=>aTs _ _ _ _ _ (fun e _=>absurd e hne);exact⟨g,o,e,by rw[RV];exact hl,by rw[q];exact c0,by rw[q];exact c1,by rw[q];exact c2,by rw[q];exact c3⟩
theorem YR{w0 w w1:World}{N:Nat}{P:List Nat}{F:List (TypeId × List Value)}{S S':List (Nat × Value)}{a a':Act}(hw:dX w0 N P F S a w)(hb:Below w.heap.size w w1){el:TypeId}{z vs:List Value}(hz:vs.length=z.length)
 (hs:a'.tmps.size=N) (hd:a'.defers=[]) (hv: ∀e ∈ S',a'.tmps[e.1]? =some e.2):dX w0 N (P++[w1.heap.size]) (F++[(el,vs)]) S' a' ((w1.alloc (.cells z.toArray el)).setCells w1.heap.size 0 vs):=by
 have b1:Below w.heap.size w ((w1.alloc (.cells z.toArray el)).setCells w1.heap.size 0 vs):=zH hb.size _ _ (ba hb _);have l0:=hw.below.size;have l1:=hb.size;have lt: ∀p ∈ P,p<w.heap.size:=fun p hp=>by
  obtain⟨j,hj⟩:=aXb hp;have hjl:j<F.length:=by rw[<-hw.fr.1];exact(aHI.1 hj).1
  exact aC4 (hw.fr.2 j p F[j] hj (aEM hjl))
 refine⟨bt hw.below b1,fun p hp=>?_,?_,⟨by simp[hw.fr.1],fun j p e hp he=>?_⟩,hs,hd,hv⟩
 . rcases aL6.1 hp with hp|hp
   . exact hw.new p hp
   obtain rfl:=aL8.1 hp;omega
 . refine List.nodup_append.2 ⟨hw.nd,by simp,fun x hx y hy=>?_⟩;obtain rfl:=aL8.1 hy;have:=lt x hx;omega
 by_cases hj:j<P.length
 . rw[aMg hj]at hp;rw[aMg (by rw[<-hw.fr.1];exact hj)]at he;exact TK (hw.fr.2 j p e hp he) b1
 rw[aL5 (by omega)]at hp;rw[aL5 (by rw[<-hw.fr.1];omega),<-hw.fr.1]at he;obtain⟨h0,rfl⟩:j - P.length=0/\w1.heap.size=p:=by
  cases hk:j - P.length with
  |zero=>rw[hk]at hp;exact⟨rfl,by simpa using hp⟩
  |succ k=>rw[hk]at hp;simp at hp
 rw[h0]at he;obtain rfl:(el,vs)=e:=by simpa using he
 exact TJ WL hz
theorem KG{w0 w:World}{N:Nat}{P:List Nat}{e1 e2:TypeId × List Value}{S:List (Nat × Value)}{a:Act}(hw:dX w0 N P [e1,e2] S a w): ∃p q,P=[p,q]:=by
 have:=hw.fr.1
 match P,this with
 |[p,q],_=>exact⟨p,q,rfl⟩
section
variable{P:Program}
theorem F5{o:Oper}{a:Act}{w:World}{e:TypeId}{z:Array Value}(ho:o.op=.alloc e)(hz:(zeroValue e).run P w=.ok (.agg z) w):(execOp a.eval o).run P w=.ok (.value (.pointer (some ⟨w.heap.size,0,none⟩))) (w.alloc (.cells z e)):=by
 unfold execOp;simp[ho,Instr.alloc,hz,newVar,Go.newRow,Value.cells]
theorem Y5{o:Oper}{a:Act}{w:World}{e:TypeId}{x:Operand}{i b off:Nat}{fields:Array Field}{fl:Field}(ho:o.op=.fieldAddr e x i)(hx:a.eval x=.pointer (some ⟨b,off,none⟩))(hu:P.underlying e=some (.struct fields))(hf:fields[i]? =some fl)
 (hz:P.cellsOf fl.type≠0) (hi:(P.underlying fl.type).isSome=true):(execOp a.eval o).run P w=.ok (.value (.pointer (some ⟨b,off+fl.offset,none⟩))) w:=by
 have hsz:=@Ev.vS Ev.G0 P fl.type _ rfl (@Ev.rC Ev.G0 P fl.type hi) w;unfold execOp;simp only[ho,Instr.fieldAt,aEf,aHH hu w,aBD,hf,hx,Instr.sureAddr,aGB,fieldPlace,hsz,aBx hz,Addr.add_mid]
theorem zL{o:Oper}{a:Act}{w:World}{f:FuncId}{fn:Func}{c:Code}{args:Array Operand}{ats:Array TypeId}(hop:o.op=.call ⟨.value (.func f),args,ats⟩)(hf:P.funcs[f]? =some fn)(hname:(fn.name== "runtime.NumGoroutine")=false)(hb:fn.body=some c):
 (execOp a.eval o).run P w=.ok (.enter f (args.map a.eval)) w:=by
 have h1:fn.name≠ "runtime.NumGoroutine" :=by simpa using hname
 have ef:a.eval (.func f)=.func (.func f) #[] #[]:=rfl;unfold execOp;simp[hop,resolve,Deferred.ofValue,invoke,ef,callFunc,hf,h1,hb]
abbrev key(o:Oper):Option (Tmp × Bool) × Option Tmp × Op:=(o.guard,o.dst,o.op)
theorem IV{α β:Type}{f:α->β}: ∀ {l:List α} {x:β} {t:List β},l.map f=x::t-> ∃a l',l=a::l'/\f a=x/\l'.map f=t
 |[],_,_,h=>by simp at h
 |a::l,x,t,h=>⟨a,l,rfl,(aYz h).1,(aYz h).2⟩
theorem aRV{α β:Type}{f:α->β}{l:List α}(h:l.map f=[]):l=[]:=by simpa using h
theorem tC{ops:Array Oper}{rest:List Oper}{o:Oper}{a:Act}{w:World}{Q:Exit->Act->World->Prop}(hg:o.guard=none){d:Option Tmp}(hd:o.dst=d)
 {f:FuncId} {args:Array Value} (hrun:(execOp a.eval o).run P w=.ok (.enter f args) w) {R:Ending->World->Prop} (hc:Calls P f args w R)
 (h: ∀e w',R e w'-> ∃v,e=.returned v/\wpList P ops Q rest (a.put d v) w'):wpList P ops Q (o::rest) a w:=by
 subst hd;refine wpList_plain hg fun K hK=>?_;unfold Oper.wp;rw[hrun,Oper.upon_enter];refine hc.mono fun e w' hh=>?_;obtain⟨v,rfl,hw⟩:=h _ _ hh;exact hK _ _ hw
def aM3:Code->List Oper
 | .region _ ops _=>ops.toList
 |_=>[]
def aDW:Code->Bool
 | .region _ _ b=>b
 |_=>true
theorem UU{c:Code}{Q:Exit->Act->World->Prop}{a:Act}{w:World}(hd:aDW c=false)(h: ∀ops,wpList P ops Q (aM3 c) a w):c.wp P Q a w:=by
 cases c with
 |region id ops b=>
  obtain rfl:b=false:=hd;exact wp_region_list (h ops)
 |_=>cases hd
theorem vY{a:Act}{k:Nat}{v:Value}(h:k<a.tmps.size):(a.put (some k) v).eval (.tmp k)=v:=by
 simp[Act.put,Act.eval,aWt,h]
theorem mQ{a:Act}{j:Nat}{u:Value}(h:a.tmps[j]? =some u):a.eval (.tmp j)=u:=by
 simp[Act.eval,h]
end
end Sk
end
section
namespace Bk
theorem aNX{d:Dt}(h:d.JW=true): ∃y,d.In y:=by
 unfold Dt.In
 cases hm:d.mask
 . exact⟨_,rfl⟩
 obtain⟨h4,hx⟩:d.dg.size=4/\allB bV d.dg=true:=by
  unfold Dt.JW at h
  cases hl:d.long
  . rw[hl]at h;obtain⟨a,b,_⟩:=iD h;exact⟨a,b⟩
  rw[hl]at h;have hd:=(jI h).2.2.1;have:=(jV (qJ hd)).2 hd;unfold Dt.mask at hm;rw[this]at hm;cases hm
 have g:=fun i hi=>CY hx i hi;have g0:=g 0 (by omega);have g1:=g 1 (by omega);have g2:=g 2 (by omega);have g3:=g 3 (by omega);obtain⟨j,hj,hj8⟩:=(wP 88 d.dg).1 hm;have key: ∀x:Int,x=88\/(48<=x/\x<=57)-> ∃o:Int,0<=o/\o<=9/\(x=88\/x=48+o)/\(x=88->o=9):=fun x hx=>by
  by_cases c:x=88
  . exact⟨9,by omega,by omega,.inl c,fun _=>rfl⟩
  exact⟨x - 48,by omega,by omega,.inr (by omega),fun e=>absurd e c⟩
 obtain⟨a,a0,a1,a2,a3⟩:=key _ g0;obtain⟨b,b0,b1,b2,b3⟩:=key _ g1;obtain⟨c,c0,c1,c2,c3⟩:=key _ g2;obtain⟨e,e0,e1,e2,e3⟩:=key _ g3;have hM:pG (aX d.dg) (1000 * a+100 * b+10 * c+e):=(nY _ _).2 ⟨a,b,c,e,a0,a1,b0,b1,c0,c1,e0,e1,rfl,a2,b2,c2,e2⟩
 cases hn:d.neg
 . exact⟨_,by rw[aDk rfl,aBx (by decide)];exact hM⟩
 refine⟨-(1000 * a+100 * b+10 * c+e),?_⟩;rw[aDk rfl,aDk rfl,Int.neg_neg];refine⟨hM,?_⟩;have:j=0\/j=1\/j=2\/j=3:=by omega
 rcases this with rfl|rfl|rfl|rfl
 . have:=a3 hj8;omega
 . have:=b3 hj8;omega
 . have:=c3 hj8;omega
 have:=e3 hj8;omega
def moX(k:Nat):ByteArray:=if k=0 then⟨#[48,88]⟩else if k=1 then⟨#[49,88]⟩else if k=2 then⟨#[88,50]⟩else if k=3 then⟨#[88,88]⟩else if k=4 then⟨#[88,48]⟩else⟨#[88,57]⟩
def daX(k:Nat):ByteArray:=if k=0 then⟨#[48,88]⟩else if k=1 then⟨#[49,88]⟩else if k=2 then⟨#[50,88]⟩else if k=3 then⟨#[51,88]⟩else if k=4 then⟨#[88,48]⟩else if k=5 then⟨#[88,49]⟩else if k=6 then⟨#[88,88]⟩else⟨#[88,56]⟩
def jZ(m:Nat):ByteArray:=if m=0 then⟨#[]⟩else if m<=12 then twoS m else if m<=33 then twoS (m+8)else moX (m - 34)
def aJP(m:Nat):Nat:=if m=2 then 28 else if m=4\/m=6\/m=9\/m=11\/m=39 then 30 else 31
def AA(m k:Nat):ByteArray:=if k=0 then⟨#[]⟩else if k<=31 then twoS (min k (aJP m))else if m=2/\k=35 then daX 2 else daX (k - 32)
def aDN(mo da:ByteArray):Bool:=(List.range 12).any fun n=>jE mo ((n:Int)+1)&&(List.range 31).any fun j=>jE da ((j:Int)+1)&&decide (j+1<=(if n+1=2 then 28 else if n+1=4\/n+1=6\/n+1=9\/n+1=11 then 30 else 31))
def aRO(m:Nat):Bool:=m==0||(decide ((jZ m).size=2)&&(decide (dD (jZ m)≠0)||dU (jZ m) 12))
def aSB(m k:Nat):Bool:=m==0||(k==0||(decide (dD (jZ m)≠0)||(decide ((AA m k).size=2)&&(dU (AA m k) 31&&aDN (jZ m) (AA m k)))))
theorem aNJ:((List.range 40).all fun m=>aRO m)=true:=by kernel_rfl
theorem aOq:((List.range 40).all fun m=>(List.range 40).all fun k=>aSB m k)=true:=by kernel_rfl
theorem aRN{m:Nat}(h:m<40):aRO m=true:=by
 have:=aNJ;rw[aL4]at this;exact this m (aTp.2 h)
theorem aSA{m k:Nat}(h:m<40)(hk:k<40):aSB m k=true:=by
 have:=aOq;rw[aL4]at this;have:=this m (aTp.2 h);rw[aL4]at this;exact this k (aTp.2 hk)
theorem VO{m:Nat}(h:m<40)(h0:m≠0):(jZ m).size=2/\(dD (jZ m)≠0\/dU (jZ m) 12=true):=by
 have:=aRN h;unfold aRO at this;simp only[aHW,aDY,aDE,aGw]at this;rcases this with h|h
 . exact absurd h h0
 exact h
theorem aDf{m k:Nat}(h:m<40)(hk:k<40)(h0:m≠0)(k0:k≠0)(hs:dD (jZ m)=0):(AA m k).size=2/\dU (AA m k) 31=true/\aDN (jZ m) (AA m k)=true:=by
 have:=aSA h hk;unfold aSB at this;simp only[aHW,aDY,aDE,aGw]at this;rcases this with h|h|h|h
 . exact absurd h h0
 . exact absurd h k0
 . exact absurd hs h
 exact h
theorem aE8{mo da:ByteArray}(h:aDN mo da=true): ∃n j:Int,1<=n/\n<=12/\jE mo n=true/\1<=j/\j<=31/\jE da j=true/\ ∀y,j<=Cal.len y n:=by
 unfold aDN at h;simp only[aWQ,aTp,aDY,aDE]at h;obtain⟨n,hn,ha,j,hj,hb,hl⟩:=h;refine⟨(n:Int)+1,(j:Int)+1,by omega,by omega,ha,by omega,by omega,hb,fun y=>?_⟩;unfold Cal.len Cal.lp
 (repeat' split at hl)<;>(repeat' split)<;>omega
def dgt(n:Nat):UInt8:=UInt8.ofNat (48+n)
def iM(n:Nat):ByteArray:=⟨#[dgt (n / 1000),dgt (n / 100 % 10),dgt (n / 10 % 10),dgt (n % 10)]⟩
theorem XC{n:Nat}(h:n<=9):(dgt n).toNat=48+n:=by unfold dgt;rw[aTC];omega
def UE(neg long:Bool)(s:ByteArray)(ex sig:Int):Prop:=G8 neg long s ex sig=true/\(hasB 88 s=false->fJ s ex≠10000000000000000)/\0<=sig/\sig<=100/\0<=ex/\ex<=16/\s.size<=5
def aEE(neg long:Bool)(s:ByteArray)(ex sig:Int):Prop:=UE neg long s ex sig\/(G8 neg long s ex sig=false/\UE false long s ex sig)
theorem aC5(n:Nat):(iM n).size=4:=rfl
theorem EY{n:Nat}(h:n<10000):allB bG (iM n)=true:=by
 show([dgt (n / 1000),dgt (n / 100 % 10),dgt (n / 10 % 10),dgt (n % 10)].all fun b=>bG (b.toNat:Int))=true;have e: ∀k,k<=9->bG ((dgt k).toNat:Int)=true:=fun k hk=>by rw[XC hk];unfold bG;exact aBz (by omega)
 simp only[aP2,aXQ,aWd,aDY];exact⟨e _ (by omega),e _ (by omega),e _ (by omega),e _ (by omega)⟩
theorem zV{neg:Bool}{s:ByteArray}{sig:Int}(h4:s.size=4)(hx:allB bV s=true)(hn:neg=true->allB isZ s=false)(hs:sig≠0->hasB 88 s=false)(s0:0<=sig)(s1:sig<=4):UE neg false s 0 sig:=by
 refine⟨?_,fun h8=>?_,s0,by omega,by omega,by omega,by omega⟩
 . unfold G8 iC;rw[aBz h4,hx];have e1:(neg&&allB isZ s)=false:=by cases neg;rfl;rw[hn rfl];rfl
   have e2:(!decide (sig=0)&&hasB 88 s)=false:=by
    by_cases c:sig=0
    . rw[aBz c];rfl
    rw[hs c,aTq]
   rw[e1,e2,aBz s0,aBz (show sig<=(s.size:Int)+0 by omega)]
   rfl
 have hd:=(jV hx).1 h8;have:=oO hd h4;unfold fJ;unfold p10;simp;omega
theorem L9{n:Nat}(hn:n<10000)(neg:Bool){sig:Int}(s0:0<=sig)(s1:sig<=4):aEE neg false (iM n) 0 sig:=by
 have hd:=EY hn;have hx:=qJ hd;have h8:=(jV hx).2 hd
 by_cases c:neg=true/\allB isZ (iM n)=true
 . refine .inr ⟨?_,zV rfl hx (fun h=>by cases h) (fun _=>h8) s0 s1⟩;unfold G8 iC;rw[c.1,c.2,hx];simp
 exact .inl (zV rfl hx (fun h=>by cases e:allB isZ (iM n);rfl;exact absurd ⟨h,e⟩ c) (fun _=>h8) s0 s1)
def xS(s:ByteArray)(a b:Int):Nat->ByteArray
 |0=>⟨#[]⟩
 |i+1=>xS s a b i++(if(i:Int)=a\/(i:Int)=b then⟨#[88]⟩else s.extract i (i+1))
theorem xB(s:ByteArray)(a b:Int)(i:Nat):xS s a b (i+1)=xS s a b i++(if(i:Int)=a\/(i:Int)=b then⟨#[88]⟩else s.extract i (i+1)):=rfl
theorem aHY{s:ByteArray}(h4:s.size=4)(hd:allB bG s=true){a b:Int}(a0:0<=a)(a1:a<4):(xS s a b 4).size=4/\allB bV (xS s a b 4)=true/\hasB 88 (xS s a b 4)=true:=by
 have hl:s.data.toList.length=4:=by simpa using h4
 match e:s.data.toList,hl with
 | [x0,x1,x2,x3],_=>
  have hs:s=⟨#[x0,x1,x2,x3]⟩:=AL e;have hx:=hd;unfold allB at hx;rw[e]at hx;simp only[aP2,aXQ,aWd,aDY]at hx;obtain⟨y0,y1,y2,y3⟩:=hx;have dx: ∀z:Int,bG z=true->bV z=true:=fun z h=>by unfold bG at h;unfold bV;rw[h];rfl
  have t0:s.extract 0 1=⟨#[x0]⟩:=by rw[hs];rfl
  have t1:s.extract 1 2=⟨#[x1]⟩:=by rw[hs];rfl
  have t2:s.extract 2 3=⟨#[x2]⟩:=by rw[hs];rfl
  have t3:s.extract 3 4=⟨#[x3]⟩:=by rw[hs];rfl
  have key: ∀(i:Nat) (t:ByteArray) (x:UInt8),t=⟨#[x]⟩->bG (x.toNat:Int)=true-> ∃z:UInt8,(if(i:Int)=a\/(i:Int)=b then(⟨#[88]⟩:ByteArray)else t)=⟨#[z]⟩/\bV (z.toNat:Int)=true/\((i:Int)=a->z=88):=fun i t x ht hx=>by
   split
   . exact⟨88,rfl,rfl,fun _=>rfl⟩
   rename_i h;exact⟨x,ht,dx _ hx,fun c=>absurd (.inl c) h⟩
  obtain⟨z0,e0,d0,w0⟩:=key 0 _ x0 t0 y0;obtain⟨z1,e1,d1,w1⟩:=key 1 _ x1 t1 y1;obtain⟨z2,e2,d2,w2⟩:=key 2 _ x2 t2 y2;obtain⟨z3,e3,d3,w3⟩:=key 3 _ x3 t3 y3;have hE:xS s a b 4=⟨#[z0,z1,z2,z3]⟩:=by
   rw[xB,xB,xB,xB];rw[e0,e1,e2,e3];exact AL (by simp[xS])
  rw[hE];refine⟨rfl,?_,?_⟩
  . show([z0,z1,z2,z3].all fun b=>bV (b.toNat:Int))=true;simp only[aP2,aXQ,aWd,aDY];exact⟨d0,d1,d2,d3⟩
  show([z0,z1,z2,z3].any fun b=>decide ((b.toNat:Int)=88))=true;simp only[aXy,List.any_nil,aWs,aHW,aDE];have:a=0\/a=1\/a=2\/a=3:=by omega
  rcases this with h|h|h|h
  . exact .inl (by rw[w0 (by omega)];rfl)
  . exact .inr (.inl (by rw[w1 (by omega)];rfl))
  . exact .inr (.inr (.inl (by rw[w2 (by omega)];rfl)))
  exact .inr (.inr (.inr (by rw[w3 (by omega)];rfl)))
theorem aRK{n:Nat}(hn:n<10000)(neg:Bool){a b:Int}(a0:0<=a)(a1:a<4):aEE neg false (xS (iM n) a b 4) 0 0:=by
 obtain⟨h4,hx,h8⟩:=aHY (s:=iM n) rfl (EY hn) (b:=b) a0 a1;refine .inl (zV h4 hx (fun _=>?_) (fun h=>absurd rfl h) (by omega) (by omega))
 cases e:allB isZ (xS (iM n) a b 4)
 . rfl
 obtain⟨j,hj,hj8⟩:=(wP 88 _).1 h8;have:=(kJ isZ _).1 e j hj;rw[hj8]at this;cases this
def MO(n z:Nat):ByteArray:=⟨#[dgt (z % 9+1)]⟩++iM n
theorem aGq{n:Nat}(hn:n<10000)(z:Nat):allB bG (MO n z)=true:=by
 have h2:=EY hn;have e: ∀k,k<=9->bG ((dgt k).toNat:Int)=true:=fun k hk=>by rw[XC hk];unfold bG;exact aBz (by omega)
 unfold allB at h2 ⊢;unfold MO;rw[aZh,aRA,List.all_append,h2,aWd];show([dgt (z % 9+1)].all fun b=>bG (b.toNat:Int))=true;simp only[aP2,aXQ,aWd];exact e _ (by omega)
theorem aGf(neg:Bool){s t:ByteArray}{n z k:Nat}{ex sig:Int}(hn:n<10000)(hs:s=MO n z)(ht:t=s.extract 0 k)(k0:1<=k)(k1:k<=5)(e0:0<=ex)(e1:ex<=11)(hk:ex=0->k=5)(s0:0<=sig)(s1:sig<=k+ex):aEE neg true t ex sig:=by
 have hd:=aGq hn z;have hsz:s.size=5:=by rw[hs];rfl
 have htz:t.size=k:=by rw[ht,aWg,hsz];omega
 have hb: ∀i,i<k->aX t i=aX s i:=fun i hi=>by
  rw[bQ t i (by omega),bQ s i (by omega)];subst ht;rw[ByteArray.getElem_extract];simp
 have hdt:allB bG t=true:=by
  rw[kJ];intro i hi;rw[hb i (by omega)];rw[<-hs]at hd;exact(kJ bG s).1 hd i (by omega)
 have hb0:aX t 0≠48:=by
  rw[hb 0 (by omega),hs];show((dgt (z % 9+1)).toNat:Int)≠48;rw[XC (by omega)];omega
 have hm1:iP t<100000:=by
  have:=dec_lt t.data.toList 0 0 (yH hdt) (by decide);rw[aKP]at this;have htl:t.data.toList.length=t.size:=by simp
  have hp:(10:Nat) ^ t.data.toList.length<=10 ^ 5:=aTr (by omega) (by omega);have hp2:(10:Nat) ^ 5=100000:=by decide
  unfold iP;omega
 have hm0:=wZ t;have hp:p10 ex.toNat<=100000000000/\1<=p10 ex.toNat:=by
  have:ex.toNat<=11:=by omega
  refine⟨?_,VD _⟩;unfold p10;have h1:(10:Nat) ^ ex.toNat<=10 ^ 11:=aTr (by omega) this;have h3:(10:Nat) ^ 11=100000000000:=by decide
  have e:((10:Int) ^ ex.toNat)=((10 ^ ex.toNat:Nat):Int):=by simp
  rw[e];omega
 have hm:fJ t ex<10000000000000000:=by
  unfold fJ;have:iP t * p10 ex.toNat<=99999 * 100000000000:=Int.mul_le_mul (by omega) hp.1 (by omega) (by omega);omega
 refine .inl ⟨?_,fun _=>by omega,s0,by omega,e0,by omega,by omega⟩;unfold G8 fK;simp only[aV5,aDY,aDE,aXK,aWp,aDG];rw[htz];refine⟨⟨by omega,by omega,hdt,hb0,e0,by omega,?_,by omega⟩,s0,by omega⟩
 by_cases c:ex=0
 . right;have:=hk c;omega
 exact .inl c
theorem aNS{d:Dt}(hy:UE d.neg d.long d.dg d.ex d.sig)(hsm:0<d.sig->d.mo.size=0){m k:Nat}(hm:m<40)(hk:k<40)(hmo:d.mo=jZ m\/d.mo.size=0)(hda:d.da.size=0\/(d.mo=jZ m/\m≠0/\k≠0/\d.aH=0/\d.da=AA m k))(hma:kD d.m0 d.m1 d.m2 (comps d.mo d.da)=0):
 d.err=0/\ ∃y m k,d.Fill y m k:=by
 obtain⟨h1,h2,h3,h4,h5,h6,h7⟩:=hy;have hmz:d.mo.size=0\/(d.aH≠0\/dU d.mo 12=true):=by
  rcases hmo with h|h
  . by_cases c:m=0
    . left;rw[h,c];rfl
    right;have:=(VO hm c).2;unfold Dt.aH;rw[h];exact this
  exact .inl h
 have aKg:d.far=false:=by
  unfold Dt.far
  cases e:d.mask
  . have:decide (d.mag=10000000000000000)=false:=aBy (h2 e);rw[this];simp
  simp
 have hyo:d.lN=true:=by
  unfold Dt.lN;have e:(decide (0<d.sig)&& !decide (d.mo.size=0))=false:=by
   by_cases c:0<d.sig
   . rw[aBz (hsm c)];simp
   rw[aBy c];rfl
  rw[aKg,e,show d.JW=true from h1];rfl
 have hf:d.form=0:=by
  unfold Dt.form;rw [hyo,aBx (by decide),aBx (by
   rcases hmz with h|h|h
   . rw[aBz h];simp
   . rw[aBy h];simp
   . rw[h];simp),aBx (by
   rcases hda with h|⟨e1,e2,e3,e4,e5⟩
   . rw[aBz h];simp
   have hs:=(VO hm e2).1;have:dD (jZ m)=0:=by rw[<-e1];exact e4
   have hh:=aDf hm hk e2 e3 this;rw[e5,e1,aBy (show ¬(jZ m).size=0 by omega),aBz e4,hh.2.1];simp)]
  exact hma
 have hfil : ∃y m k,d.Fill y m k:=by
  obtain⟨y,hy⟩:=aNX (d:=d) h1;rcases hda with h|⟨e1,e2,e3,e4,e5⟩
  . have : ∃n,n ∈ d.ms:=by
     unfold Dt.ms
     split
     . exact⟨_,aHB ..⟩
     rename_i hz
     split
     . exact⟨_,aHB ..⟩
     rename_i hz2
     have hz0:d.aH=0:=by omega
     rcases hmz with g|g|g
     . exact absurd g hz2
     . exact absurd hz0 g
     rw[NW]at g
     cases e:dY d.mo 12 with
     |nil=>exact absurd e g
     |cons x l=>exact⟨x,aHB ..⟩
    obtain⟨n,hn⟩:=this;refine⟨y,n,0,hy,hn,?_,?_⟩
    . unfold Dt.ds;rw[aDk h];exact aHB ..
    unfold Dt.len;rw[aDk h];omega
  have:dD (jZ m)=0:=by rw[<-e1];exact e4
  have hh:=aDf hm hk e2 e3 this;have hs:=(VO hm e2).1;obtain⟨n,j,n0,n1,na,j0,j1,ja,hl⟩:=aE8 hh.2.2;refine⟨y,n,j,hy,?_,?_,?_⟩
  . unfold Dt.ms;rw[aBx (by omega),aBx (by rw[e1];omega),fA];exact⟨n0,by omega,by rw[e1];exact na⟩
  . unfold Dt.ds;rw[aBx (by rw[e5];omega),fA];exact⟨j0,by omega,by rw[e5];exact ja⟩
  unfold Dt.len;split
  . rename_i hz;rw[e5]at hz;omega
  exact hl y
 refine⟨?_,hfil⟩;unfold Dt.err;rw[hf,aBx (by decide),aBx (fun h=>h.2 hfil)]
end Bk
end
section
open Go.RowKit Go.Lib
namespace Bk
open Un (ba bt ri rb aS aZ)
theorem WV: ∀k:Nat,k<10->CZ.extract k (k+1)=⟨#[dgt k]⟩:=by decide
theorem aKr{m:Nat}(h:m<10000):CZ.extract (m / 1000) (m / 1000+1)++CZ.extract (m / 100 % 10) (m / 100 % 10+1)++CZ.extract (m / 10 % 10) (m / 10 % 10+1)++CZ.extract (m % 10) (m % 10+1)=iM m:=by
 rw[WV _ (by omega),WV _ (by omega),WV _ (by omega),WV _ (by omega)];exact AL (by simp[iM])
theorem aKs(n:Nat)(w:World)(h:n<65536):
 Calls Tryz.prog 59 #[.int .u16 n] w fun r w'=>r=.returned (.string (iM (n % 10000)))/\Below w.heap.size w w':=by
 obtain⟨m,hm0⟩: ∃m,m=n % 10000:=⟨_,rfl⟩;rw[<-hm0];have HT:=rG (aKr (m:=m) (by omega));have HM:=rG hm0;unfold CZ at HT;clear hm0
 go_enter Tryz.func59,Tryz.ntmps59
 go_upto_region 2 with(fail)
 go_cut [0] (fun s wx=>s=.int .u16 (m:Int)/\w=wx)
 case first=>
  clear HT
  go_wp2
  go_meet
  exact⟨by rw[HM.out];go_num,rfl⟩
 case rest=>
 obtain⟨rfl,rfl⟩:=hcut;have hm:m<10000:=by rw[HM.out];omega
 go_wp2
 go_quiet (fail)
 go_wp2
 all_goals go_ret
 all_goals exact⟨rs HT.out,below_drewN (aAI _ _) _⟩
def X0(f:Nat)(neg:Bool)(n z0 z1 mo da k0 k1 k2:Nat):List Value:=[.int .u8 f,.bool neg,.int .u16 n,.int .u8 z0,.int .u8 z1,.int .u8 mo,.int .u8 da,.int .u8 k0,.int .u8 k1,.int .u8 k2]
theorem aGh(f:Nat)(neg:Bool)(n z0 z1 mo da k0 k1 k2:Nat)(w:World)(h:mo<256):
 Calls Tryz.prog 34 #[.agg (X0 f neg n z0 z1 mo da k0 k1 k2).toArray] w fun r w'=>r=.returned (.string (jZ (mo % 40)))/\Below w.heap.size w w':=by
 have hD:Rw w.heap.size (X0 f neg n z0 z1 mo da k0 k1 k2) w _:=Rw.fresh (aAI _ _) _ 28;have HT:=rG (fun(n:Nat) (h:n<=99) w=>BJ n w h);unfold X0 at hD;unfold X0;obtain⟨m,hm0⟩: ∃m,m=mo % 40:=⟨_,rfl⟩;rw[<-hm0];have HM:=rG hm0;clear hm0
 go_enter Tryz.func34,Tryz.ntmps34
 go_upto_region 1 with(fail)
 generalize World.alloc _ _=W0 at hD ⊢;have c5:=hD.cell 5 _ rfl;have hB:=hD.below
 go_cut [3] (fun s wx=>s=.int .i64 (m:Int)/\Below w.heap.size w wx)
 case first=>
  clear HT
  go_wp2
  go_meet
  exact⟨by rw[HM.out];go_num,hB⟩
 case rest=>
 obtain⟨rfl,hB⟩:=hcut;clear c5 hD;have hm:m<40:=by rw[HM.out];omega
 clear HM
 by_cases c0:m=0
 . subst c0;clear HT
   go_wp2
   go_ret
   exact⟨rfl,hB⟩
 by_cases c1:m<=12
 . have HQ:Hid (twoS m=jZ m):=rG (by unfold jZ;rw[aBx c0,aDk c1]);have HT2:=rG (fun w=>HT.out m (by omega) w);clear HT
   go_wp2_with (go_at_call 61;with_reducible refine(HT2.out _).mono ?_;rintro _ w' ⟨rfl,hb⟩)
   go_ret
   exact⟨rs HQ.out,bt hB hb⟩
 by_cases c2:m<=33
 . have HQ:Hid (twoS (m+8)=jZ m):=rG (by unfold jZ;rw[aBx c0,aBx c1,aDk c2]);have HT2:Hid (∀w,Calls Tryz.prog 61 #[.int .i64 ((m:Int)+8)] w fun r w'=>r=.returned (.string (twoS (m+8)))/\Below w.heap.size w w'):=rG (fun w=>HT.out (m+8) (by omega) w);clear HT
   go_wp2_with (go_at_call 61;with_reducible refine(HT2.out _).mono ?_;rintro _ w' ⟨rfl,hb⟩)
   go_ret
   exact⟨rs HQ.out,bt hB hb⟩
 clear HT;have:m=34\/m=35\/m=36\/m=37\/m=38\/m=39:=by omega
 rcases this with rfl|rfl|rfl|rfl|rfl|rfl
 all_goals
  go_wp2
  go_ret
  exact⟨rfl,by first|exact bt hB (ba (aAI _ _) _)|exact ba hB _⟩
def dtB(m:Nat):Bool:=((jZ m).data.toList==[48,50])==decide (m=2)&&(((jZ m).data.toList==[48,52])==decide (m=4)&&(((jZ m).data.toList==[48,54])==decide (m=6)&&(((jZ m).data.toList==[48,57])==decide (m=9)&&(((jZ m).data.toList==[49,49])==decide (m=11)&&((jZ m).data.toList==[88,57])==decide (m=39)))))
theorem aSx:((List.range 40).all fun m=>dtB m)=true:=by kernel_rfl
theorem aP9{m:Nat}(h:m<40){s:ByteArray}(hs:s=jZ m):(s.toList==[48,50])=decide (m=2)/\(s.toList==[48,52])=decide (m=4)/\(s.toList==[48,54])=decide (m=6)/\(s.toList==[48,57])=decide (m=9)/\(s.toList==[49,49])=decide (m=11)/\(s.toList==[88,57])=decide (m=39):=by
 have:=aSx;rw[aL4]at this;have:=this m (aTp.2 h);unfold dtB at this;rw[aWz,hs];simp only[aDY,aGw]at this;exact this
theorem aOp(f:Nat)(neg:Bool)(n z0 z1 mo da k0 k1 k2 m:Nat)(w:World)(h:da<256)(hm:m<40)(h0:m≠0)(hs:dD (jZ m)=0):
 Calls Tryz.prog 36 #[.agg (X0 f neg n z0 z1 mo da k0 k1 k2).toArray,.string (jZ m)] w fun r w'=>r=.returned (.string (AA m (da % 40)))/\Below w.heap.size w w':=by
 have hD:Rw w.heap.size (X0 f neg n z0 z1 mo da k0 k1 k2) w _:=Rw.fresh (aAI _ _) _ 28;have HT:=rG (fun(n:Nat) (h:n<=99) w=>BJ n w h);unfold X0 at hD;unfold X0;obtain⟨k,hk0⟩: ∃k,k=da % 40:=⟨_,rfl⟩;rw[<-hk0];have HM:=rG hk0;clear hk0;obtain⟨s,hs0⟩: ∃s,s=jZ m:=⟨_,rfl⟩;rw[<-hs0];have HS:=rG hs0;have HZ:=rG hs;clear hs0 hs
 go_enter Tryz.func36,Tryz.ntmps36
 go_upto_region 1 with(fail)
 generalize World.alloc _ _=W0 at hD ⊢;have c6:=hD.cell 6 _ rfl;have hB:=hD.below
 go_cut [5] (fun s wx=>s=.int .i64 (k:Int)/\Below w.heap.size w wx)
 case first=>
  clear HT
  go_wp2
  go_meet
  exact⟨by rw[HM.out];go_num,hB⟩
 case rest=>
 obtain⟨rfl,hB⟩:=hcut;clear c6 hD;have hk:k<40:=by rw[HM.out];omega
 clear HM
 by_cases c0:k=0
 . subst c0;clear HT HS HZ
   go_wp2
   go_ret
   exact⟨rfl,hB⟩
 by_cases c1:k<=31
 . obtain⟨M,hM0⟩: ∃M,M=aJP m:=⟨_,rfl⟩;have HMS:=rG hM0;have hq0:twoS (min k M)=AA m k:=by unfold AA;rw[aBx c0,aDk c1,hM0]
   have hmin:min k M<=99:=by omega
   have HQ:=rG hq0;have HT2:=rG (fun w=>HT.out (min k M) hmin w);clear hM0 hq0 hmin HT
   go_upto_block 0 with(fail)
   go_cut [6] (fun s wx=>s=.int .i64 (M:Int)/\Below w.heap.size w wx)
   case first=>
    clear HZ HT2 HQ;obtain⟨t2,t4,t6,t9,t11,t39⟩:=aP9 hm HS.out;clear HS;have hM:=HMS.out;clear HMS;unfold aJP at hM
    by_cases g2:m=2
    . rw[aDk g2]at hM;rw[aBz g2]at t2;subst hM;clear t4 t6 t9 t11 t39 g2 hm h0
      go_wp2
      go_meet
      exact⟨rfl,hB⟩
    rw[aBx g2]at hM;rw[aBy g2]at t2
    by_cases g4:m=4\/m=6\/m=9\/m=11\/m=39
    . rw[aDk g4]at hM;subst hM;rcases g4 with rfl|rfl|rfl|rfl|rfl
      all_goals
       simp only[aWI,Nat.reduceEqDiff,aWn]at t4 t6 t9 t11 t39;clear hm h0 g2
       go_wp2
       go_meet
       exact⟨rfl,hB⟩
    rw[aBx g4]at hM;subst hM;rw[aBy (by omega)]at t4 t6 t9 t11 t39;clear g4 g2 hm h0
    go_wp2
    go_meet
    exact⟨rfl,hB⟩
   case rest=>
   obtain⟨rfl,hB⟩:=hcut;clear HMS HS HZ;rw[show ((min k M:Nat):Int)=min (k:Int) (M:Int)from by omega]at HT2
   go_wp2_with (go_at_call 61;with_reducible refine(HT2.out _).mono ?_;rintro _ w' ⟨rfl,hb⟩)
   go_ret
   exact⟨rs HQ.out,bt hB hb⟩
 have t2:=(aP9 hm HS.out).1;clear HT HZ HS;have hkk:k=32\/k=33\/k=34\/k=35\/k=36\/k=37\/k=38\/k=39:=by omega
 by_cases g2:m=2
 . subst g2;rw[aBz rfl]at t2;rcases hkk with rfl|rfl|rfl|rfl|rfl|rfl|rfl|rfl
   all_goals
    go_wp2
    go_ret
    exact⟨rfl,by first|exact bt hB (ba (aAI _ _) _)|exact ba hB _⟩
 have HQ:Hid (daX (k - 32)=AA m k):=rG (by unfold AA;rw[aBx c0,aBx c1,aBx (fun h=>g2 h.1)]);rw[aBy g2]at t2;rcases hkk with rfl|rfl|rfl|rfl|rfl|rfl|rfl|rfl
 all_goals
  go_wp2
  go_ret
  exact⟨rs (by rw[<-HQ.out];rfl),by first|exact bt hB (ba (aAI _ _) _)|exact ba hB _⟩
end Bk
end
section
open Go.RowKit Go.Lib
namespace Bk
open Un (ba bt ri rb aS aZ)
theorem aDH{s:ByteArray}(a b:Int)(h4:s.size=4): ∀i,i<=4->(xS s a b i).size=i
 |0,_=>rfl
 |i+1,h=>by
  rw[xB,ByteArray.size_append,aDH a b h4 i (by omega)]
  split
  . rfl
  rw[aWg];omega
theorem extract_all(s:ByteArray):s.extract 0 s.size=s:=by
 apply AL;simp
def N9:ByteArray:=⟨#[49,50,51,52,53,54,55,56,57]⟩
theorem aYI: ∀k:Nat,k<9->N9.extract k (k+1)=⟨#[dgt (k+1)]⟩:=by decide
def yl(f:Nat)(neg:Bool)(n z0 z1:Nat):List Value:=[.int .u8 f,.bool neg,.int .u16 n,.int .u8 z0,.int .u8 z1]
def iL(neg long:Bool)(s:ByteArray)(ex sig:Int):List Value:=[.bool neg,.bool long,.string s,.int .i64 ex,.int .i64 sig]
def aZl(w:World)(e:Ending)(w':World):Prop:= ∃neg long s ex sig,UE neg long s ex sig/\e=.returned (yv neg long s ex sig)/\Below w.heap.size w w'
theorem TA:(Tryz.prog.info? 35).map (·.size)=some 5:=by kernel_rfl
structure Yw(p:Nat)(f:Nat)(fV:Bool)(n z0 z1:Nat)(neg long:Bool)(s:ByteArray)(ex sig:Int)(w W:World):Prop where
 x:Rw w.heap.size (yl f fV n z0 z1) w W
 r:Rw (w.heap.size+1) (iL false false ⟨#[]⟩ 0 0) w W
 y:Rw p (iL neg long s ex sig) w W
 n:w.heap.size+1<p
theorem Yw.later{p f:Nat}{fV:Bool}{n z0 z1:Nat}{neg long:Bool}{s:ByteArray}{ex sig:Int}{w W W2:World}(h:Yw p f fV n z0 z1 neg long s ex sig w W)(hb:Below W.heap.size W W2):Yw p f fV n z0 z1 neg long s ex sig w W2:=
 ⟨h.x.later hb,h.r.later hb,h.y.later hb,h.n⟩
theorem Yw.set{p f:Nat}{fV:Bool}{n z0 z1:Nat}{neg long:Bool}{s:ByteArray}{ex sig:Int}{w W:World}(h:Yw p f fV n z0 z1 neg long s ex sig w W)(k:Nat)(hk:k<5)(v:Value)
 {neg' long':Bool} {s':ByteArray} {ex' aQ0:Int} (e:(iL neg long s ex sig).set k v=iL neg' long' s' ex' aQ0):Yw p f fV n z0 z1 neg' long' s' ex' aQ0 w (W.setCell ⟨p,k,none⟩ v):=
 ⟨h.x.other (by have:=h.n;omega) h.y.new k v,h.r.other (by have:=h.n;omega) h.y.new k v,by have:=h.y.set k hk v;rw[e]at this;exact this,h.n⟩
theorem Yw.cells{p f:Nat}{fV:Bool}{n z0 z1:Nat}{neg long:Bool}{s:ByteArray}{ex sig:Int}{w W:World}(h:Yw p f fV n z0 z1 neg long s ex sig w W):
 W.cell? ⟨w.heap.size,0,none⟩=some (.int .u8 f)/\W.cell? ⟨w.heap.size,1,none⟩=some (.bool fV)/\W.cell? ⟨w.heap.size,2,none⟩=some (.int .u16 n)/\W.cell? ⟨w.heap.size,3,none⟩=some (.int .u8 z0)/\W.cell? ⟨w.heap.size,4,none⟩=some (.int .u8 z1)/\
 W.cell? ⟨p,0,none⟩=some (.bool neg)/\W.cell? ⟨p,1,none⟩=some (.bool long)/\W.cell? ⟨p,2,none⟩=some (.string s)/\W.cell? ⟨p,3,none⟩=some (.int .i64 ex)/\W.cell? ⟨p,4,none⟩=some (.int .i64 sig)/\
 W.frozen? ⟨p,0,none⟩=false/\W.frozen? ⟨p,1,none⟩=false/\W.frozen? ⟨p,2,none⟩=false/\W.frozen? ⟨p,3,none⟩=false/\W.frozen? ⟨p,4,none⟩=false:=
 ⟨h.x.cell 0 _ rfl,h.x.cell 1 _ rfl,h.x.cell 2 _ rfl,h.x.cell 3 _ rfl,h.x.cell 4 _ rfl,h.y.cell 0 _ rfl,h.y.cell 1 _ rfl,h.y.cell 2 _ rfl,h.y.cell 3 _ rfl,h.y.cell 4 _ rfl,
  h.y.free 0 (by unfold iL;simp),h.y.free 1 (by unfold iL;simp),h.y.free 2 (by unfold iL;simp),h.y.free 3 (by unfold iL;simp),h.y.free 4 (by unfold iL;simp)⟩
theorem aMJ(f:Nat)(fV:Bool)(n z0 z1:Nat)(w:World)(hf:f<256)(hn:n<65536)(h0:z0<256)(h1:z1<256):
 Calls Tryz.prog 33 #[.agg (yl f fV n z0 z1).toArray] w (aZl w):=by
 have hX:Rw w.heap.size (yl f fV n z0 z1) w _:=Rw.fresh (aAI _ _) _ 25;have hX2:=Rw.fresh hX.below (iL false false ⟨#[]⟩ 0 0) 35;simp only[dF]at hX2;have hA:_/\_:=⟨hX.later (ba (aAI _ _) (.cells (iL false false ⟨#[]⟩ 0 0).toArray 35)),hX2⟩;clear hX hX2;have H4:=rG (fun w=>aKs n w hn);obtain⟨m,hm0⟩: ∃m,m=n % 10000:=⟨_,rfl⟩;have hm:m<10000:=by omega
 rw[<-hm0]at H4;clear hm0;obtain⟨g,hg0⟩: ∃g,g=f % 6:=⟨_,rfl⟩;have HG:=rG hg0;clear hg0;have HM:=rG hm;clear hm;have HCK:=rG (fun neg long s ex sig w hs s0 s1=>F7 neg long s ex sig w hs s0 s1);unfold yl iL at hA;unfold yl
 go_enter Tryz.func33,Tryz.ntmps33
 go_upto_region 1 with(fail)
 generalize World.alloc _ _=W0 at hA ⊢;have HD:Hid (Rw w.heap.size (yl f fV n z0 z1) w W0):=rG hA.1;have HF:Hid (Rw (w.heap.size+1) (iL false false ⟨#[]⟩ 0 0) w W0):=rG hA.2;clear hA
 go_cut [3] (fun s3 wx=> ∃p,s3=.pointer (some ⟨p,0,none⟩)/\Yw p f fV n z0 z1 fV false (iM m) 0 0 w wx)
 case first=>
  have c1:=HD.out.cell 1 _ rfl;have c2:=HD.out.cell 2 _ rfl;clear HCK HG HM;have HN:Hid (Rw W0.heap.size (iL false false ⟨#[]⟩ 0 0) w (W0.alloc (.cells #[.bool false,.bool false,.string ⟨#[]⟩,.int .i64 0,.int .i64 0] 35))):=rG (Rw.fresh HD.out.below _ _);have lt0:=HD.out.lt;have HLT:=rG HF.out.lt
  go_region_with (go_at_call 59;with_reducible refine(H4.out _).mono ?_;rintro _ w' ⟨rfl,hb⟩;first
   |(replace HD:=rG (HD.out.later (by first|exact hb|exact bt (aAI _ _).drew hb|exact bt (aAI _ _).drew.drew hb|exact bt (aAI _ _).drew.drew.drew hb));replace HF:=rG (HF.out.later (by first|exact hb|exact bt (aAI _ _).drew hb|exact bt (aAI _ _).drew.drew hb|exact bt (aAI _ _).drew.drew.drew hb));clear hb c1 c2 lt0 HN;have lt0:=HD.out.lt;have c1:=HD.out.cell 1 _ rfl;have c2:=HD.out.cell 2 _ rfl)
   | (have hb2:Below (W0.alloc (.cells #[.bool false,.bool false,.string ⟨#[]⟩,.int .i64 0,.int .i64 0] 35)).heap.size (W0.alloc (.cells #[.bool false,.bool false,.string ⟨#[]⟩,.int .i64 0,.int .i64 0] 35)) w':=(by first|exact hb|exact bt (aAI _ _).drew hb|exact bt (aAI _ _).drew.drew hb)
      replace HN:=rG (HN.out.later hb2);replace HD:=rG (HD.out.later (bt (ba (aAI _ _) _) hb2));replace HF:=rG (HF.out.later (bt (ba (aAI _ _) _) hb2));clear hb hb2 c1 c2 lt0;have lt0:=HD.out.lt;have c1:=HD.out.cell 1 _ rfl;have c2:=HD.out.cell 2 _ rfl;have n0:=HN.out.cell 0 _ rfl;have n1:=HN.out.cell 1 _ rfl;have n2:=HN.out.cell 2 _ rfl;have n3:=HN.out.cell 3 _ rfl;have n4:=HN.out.cell 4 _ rfl;have f0:=HN.out.free 0 (by unfold iL;simp);have f1:=HN.out.free 1 (by unfold iL;simp);have f2:=HN.out.free 2 (by unfold iL;simp);have f3:=HN.out.free 3 (by unfold iL;simp);have f4:=HN.out.free 4 (by unfold iL;simp)))
  all_goals (go_wp2_with fail)
  all_goals go_meet
  all_goals first
   | (have e2:=HN.out.new
      have e1:=HLT.out;exact⟨_,rfl,HD.out.others (by omega) e2 (iL fV false (iM m) 0 0) 0,HF.out.others (by omega) e2 (iL fV false (iM m) 0 0) 0,HN.out.dB (iL fV false (iM m) 0 0) rfl,e1⟩)
   |exact⟨_,rfl,HD.out.later (ba (aAI _ _) _),HF.out.later (ba (aAI _ _) _),Rw.fresh HD.out.below (iL fV false (iM m) 0 0) _,HF.out.lt⟩
 case rest=>
 obtain⟨p,rfl,hW⟩:=hcut;clear HD HF H4;obtain⟨x0,x1,x2,x3,x4,y0,y1,y2,y3,y4,z0',z1',z2',z3',z4'⟩:=hW.cells
 go_upto_region 2 with(fail)
 go_cut [16] (fun s wx=>s=.int .u8 (g:Int)/\wc=wx)
 case first=>
  clear HCK HM
  go_wp2
  go_meet
  exact⟨by rw[HG.out];go_num,rfl⟩
 case rest=>
 obtain⟨rfl,rfl⟩:=hcut
 go_upto_block 0 with(fail)
 go_cut [] (fun wx=> ∃neg long s ex sig,aEE neg long s ex sig/\Yw p f fV n z0 z1 neg long s ex sig w wx)
 case first=>
  clear HCK
  by_cases g3:g=3
  . subst g3;have HW:=rG hW;clear hW
    go_upto_region 4 with(fail)
    go_cut [4,5] (fun s4 s5 wx=> ∃a b:Int,s4=.int .i64 a/\s5=.int .i64 b/\0<=a/\a<4/\0<=b/\b<4/\Yw p f fV n z0 z1 fV false (iM m) 0 0 w wx)
    case first=>
     clear HM
     go_region
     all_goals (go_wp2_with fail)
     all_goals go_meet
     all_goals exact⟨_,_,rfl,rfl,by omega,by omega,by omega,by omega,HW.out.later (aAI _ _).drew⟩
    case rest=>
    obtain⟨a,b,rfl,rfl,a0,a1,b0,b1,hW⟩:=hcut;clear HW x0 x1 x2 x3 x4 y0 y1 y2 y3 y4 z0' z1' z2' z3' z4';have HM2:=rG (⟨a0,a1⟩:_/\_);clear b0 b1 a0 a1
    go_upto_block 1 with(fail)
    go_wp2
    go_loopw [6,7] (fun s6 s7 wr=> ∃i:Nat,i<=4/\s7=.int .i64 i/\s6=.string (xS (iM m) a b i)/\Yw p f fV n z0 z1 fV false (iM m) 0 0 w wr) (fun _ i _=>4 - (intOf i).toNat)
    case atStart=>exact⟨0,by omega,rfl,rfl,hW⟩
    case round=>
     obtain⟨i,hi,rfl,rfl,hW⟩:=hrel
     by_cases hlt:i<4
     . have e4:(iM m).size=4:=rfl;have eX:(xS (iM m) a b i).size=i:=aDH a b rfl i (by omega);have HNX:=rG (xB (iM m) a b i);obtain⟨x0,x1,x2,x3,x4,y0,y1,y2,y3,y4,z0',z1',z2',z3',z4'⟩:=hW.cells;have HW:=rG hW;clear hW;generalize xS (iM m) a b i=X at *
       by_cases ha:(i:Int)=a\/(i:Int)=b
       . rw[aDk ha]at HNX;have key:((i:Int)==a)=true\/(((i:Int)==a)=false/\((i:Int)==b)=true):=by
          by_cases c:(i:Int)=a
          . exact .inl (by rw[aGw];exact c)
          exact .inr ⟨by rw[aBA];exact c,by rw[aGw];exact ha.resolve_left c⟩
         clear ha;rcases key with t1|⟨t1,t2⟩
         all_goals
          go_wp2
          go_roundw
          case rel=>exact⟨i+1,by omega,by go_num,by rw[HNX.out],HW.out⟩
          case measure=>simp[intOf];omega
       rw[aBx ha]at HNX;have t1:((i:Int)==a)=false:=by rw[aBA];exact fun c=>ha (.inl c)
       have t2:((i:Int)==b)=false:=by rw[aBA];exact fun c=>ha (.inr c)
       clear ha
       go_wp2
       go_roundw
       case rel=>exact⟨i+1,by omega,by go_num,by rw[HNX.out],HW.out⟩
       case measure=>simp[intOf];omega
     obtain rfl:i=4:=by omega
     have HQ:=rG (aRK HM.out fV (b:=b) HM2.out.1 HM2.out.2);obtain⟨x0,x1,x2,x3,x4,y0,y1,y2,y3,y4,z0',z1',z2',z3',z4'⟩:=hW.cells;have HW:=rG hW;clear hW HM
     go_wp2
     go_meet
     exact⟨_,_,_,_,_,HQ.out,HW.out.set 2 (by omega) _ rfl⟩
  by_cases g4:g=4
  . subst g4;have HW:=rG hW;clear hW;have hm:=HM.out;have HQ:=rG (L9 hm fV (sig:=1+(z0:Int) % 4) (by omega) (by omega));clear hm HM
    go_wp2
    go_meet
    exact⟨_,_,_,_,_,HQ.out,HW.out.set 4 (by omega) _ rfl⟩
  by_cases g5:g=5
  . subst g5;have HW:=rG hW;clear hW
    go_upto_region 17 with(fail)
    go_cut [] (fun wx=>Yw p f fV n z0 z1 fV true (MO m z0) 0 0 w wx)
    case first=>
     have e4:(iM m).size=4:=aC5 m;have HN:Hid (N9.extract (z0 % 9) (z0 % 9+1)++iM m=MO m z0):=rG (by rw[aYI _ (by omega)];rfl);unfold N9 at HN;clear HM;generalize iM m=s4 at *
     go_region
     all_goals (go_wp2_with fail)
     all_goals go_meet
     all_goals
      have h1:=HW.out.set 1 (by omega) (.bool true) (neg':=fV) (long':=true) (s':=s4) (ex':=0) (aQ0:=0) rfl;rw[HN.out];exact(h1.set 2 (by omega) (.string (MO m z0)) rfl).later (aAI _ _).drew
    case rest=>
    have hW:=hcut;clear HW x0 x1 x2 x3 x4 y0 y1 y2 y3 y4 z0' z1' z2' z3' z4';obtain⟨x0,x1,x2,x3,x4,y0,y1,y2,y3,y4,z0',z1',z2',z3',z4'⟩:=hW.cells;obtain⟨S,hS⟩: ∃S,S=MO m z0:=⟨_,rfl⟩;have e5:S.size=5:=by rw[hS];rfl
    have HS:=rG hS;have HW:=rG hW;rw[<-hS]at HW y2;clear hW hS;obtain⟨b3,hb3⟩: ∃b,decide (0<(z1:Int) % 3)=b:=⟨_,rfl⟩
    go_upto_if 83 with(fail)
    clear hb3
    go_cut [] (fun wx=> ∃(t:ByteArray) (k:Nat) (ex:Int),t=S.extract 0 k/\t.size=k/\1<=k/\k<=5/\0<=ex/\ex<=11/\(ex=0->k=5)/\Yw p f fV n z0 z1 fV true t ex 0 w wx)
    case first=>
     clear HM
     cases b3
     case true=>
      obtain⟨k,hk0⟩: ∃k,k=1+z1 % 5:=⟨_,rfl⟩;have hwr:IntKind.u8.wrap (1+(z1:Int) % 5)=(k:Int):=by rw[IntKind.wrap_u8];omega
      have k0:1<=k:=by omega
      have k1:k<=5:=by omega
      clear hk0;have HK:=rG (⟨k0,k1⟩:_/\_);have HT:Hid ((S.extract 0 k).size=k):=rG (by rw[aWg];omega)
      go_wp2
      go_meet
      have h1:Yw p f fV n z0 z1 fV true (S.extract 0 k) 0 0 w _:=HW.out.set 2 (by omega) (.string (S.extract 0 k)) rfl;exact⟨S.extract 0 k,k,1+(z1:Int) / 16 % 11,rfl,HT.out,HK.out.1,HK.out.2,by omega,by omega,fun h=>by omega,h1.set 3 (by omega) _ rfl⟩
     case false=>
      have HT:Hid (S=S.extract 0 5):=rG (by rw[<-e5];exact(extract_all S).symm)
      go_wp2
      go_meet
      exact⟨S,5,0,HT.out,e5,by omega,by omega,by omega,by omega,fun _=>rfl,HW.out⟩
    case rest=>
    obtain⟨t,k,ex,ht,hk,k0,k1,e0,e1,hz,hW⟩:=hcut;clear HW x0 x1 x2 x3 x4 y0 y1 y2 y3 y4 z0' z1' z2' z3' z4';obtain⟨x0,x1,x2,x3,x4,y0,y1,y2,y3,y4,z0',z1',z2',z3',z4'⟩:=hW.cells;have HW:=rG hW;clear hW;have ht4:t.size=k:=hk;have m0:0<=(z0:Int) / 16 % ((k:Int)+ex+1):=aWb _ (by omega);have m1:(z0:Int) / 16 % ((k:Int)+ex+1)<(k:Int)+ex+1:=aWC _ (by omega);have HQ:=rG (aGf fV (sig:=(z0:Int) / 16 % ((k:Int)+ex+1)) HM.out HS.out ht k0 k1 e0 e1 hz m0 (by omega));clear HM HS ht hz
    go_wp2
    go_meet
    exact⟨_,_,_,_,_,HQ.out,HW.out.set 4 (by omega) _ rfl⟩
  have hm:=HM.out;have HQ:=rG (L9 hm fV (sig:=0) (by omega) (by omega));have HW:=rG hW;clear hW hm HM x0 x1 x2 x3 x4 y0 y1 y2 y3 y4 z0' z1' z2' z3' z4'
  go_wp2
  go_meet
  exact⟨_,_,_,_,_,HQ.out,HW.out⟩
 case rest=>
 obtain⟨neg,long,s,ex,sig,hQ,hW⟩:=hcut;obtain⟨x0,x1,x2,x3,x4,y0,y1,y2,y3,y4,z0',z1',z2',z3',z4'⟩:=hW.cells;have HW:=rG hW;clear hW;rcases hQ with hq|⟨hn,hq⟩
 . have aL7:Hid (∀w,Calls Tryz.prog 60 #[.agg (iL neg long s ex sig).toArray] w fun r w'=>r=.returned (.int .i64 1)/\Below w.heap.size w w'):=rG (fun w=>by
    have:=HCK.out neg long s ex sig w (by have:=hq.2.2.2.2.2.2;omega) (by have:=hq.2.2.1;omega) (by have:=hq.2.2.2.1;omega);rw[hq.1,aDk rfl]at this;exact this)
   have HQ:=rG hq;clear HCK hq HG HM;unfold iL at aL7
   go_upto_region 24 with(go_at_call 60;with_reducible refine(aL7.out _).mono ?_;rintro _ w' ⟨rfl,hb⟩;replace HW:=rG (HW.out.later hb);clear hb x0 x1 x2 x3 x4 y0 y1 y2 y3 y4 z0' z1' z2' z3' z4')
   obtain⟨x0,x1,x2,x3,x4,y0,y1,y2,y3,y4,z0',z1',z2',z3',z4'⟩:=HW.out.cells;have r0:=HW.out.r.cell 0 _ rfl;have r1:=HW.out.r.cell 1 _ rfl;have r2:=HW.out.r.cell 2 _ rfl;have r3:=HW.out.r.cell 3 _ rfl;have r4:=HW.out.r.cell 4 _ rfl;have s0:=HW.out.r.free 0 (by unfold iL;simp);have s1:=HW.out.r.free 1 (by unfold iL;simp);have s2:=HW.out.r.free 2 (by unfold iL;simp);have s3:=HW.out.r.free 3 (by unfold iL;simp);have s4:=HW.out.r.free 4 (by unfold iL;simp)
   go_wp2
   have hY:=HW.out.r.dB (iL neg long s ex sig) rfl;exact aHE (v:=yv neg long s ex sig) (dQ Tryz.results33 _ rfl (aMj _ _ 0 35 (iL neg long s ex sig) _ hY.range Tryz.underlying35 rfl TA)) rfl ⟨_,_,_,_,_,HQ.out,rfl,hY.below⟩
 have aL7:Hid (∀w,Calls Tryz.prog 60 #[.agg (iL neg long s ex sig).toArray] w fun r w'=>r=.returned (.int .i64 0)/\Below w.heap.size w w'):=rG (fun w=>by
  have:=HCK.out neg long s ex sig w (by have:=hq.2.2.2.2.2.2;omega) (by have:=hq.2.2.1;omega) (by have:=hq.2.2.2.1;omega);rw[hn,aBx (by decide)]at this;exact this)
 have HQ:=rG hq;clear HCK hq hn HG HM;unfold iL at aL7
 go_upto_region 23 with(go_at_call 60;with_reducible refine(aL7.out _).mono ?_;rintro _ w' ⟨rfl,hb⟩;replace HW:=rG (HW.out.later hb);clear hb x0 x1 x2 x3 x4 y0 y1 y2 y3 y4 z0' z1' z2' z3' z4')
 obtain⟨x0,x1,x2,x3,x4,y0,y1,y2,y3,y4,z0',z1',z2',z3',z4'⟩:=HW.out.cells
 go_upto_region 24 with(fail)
 have hN:Yw p f fV n z0 z1 false long s ex sig w _:=HW.out.set 0 (by omega) (.bool false) rfl;clear HW x0 x1 x2 x3 x4 y0 y1 y2 y3 y4 z0' z1' z2' z3' z4';generalize World.setCell _ _ _=W9 at hN ⊢;have HW:=rG hN;clear hN;obtain⟨x0,x1,x2,x3,x4,y0,y1,y2,y3,y4,z0',z1',z2',z3',z4'⟩:=HW.out.cells;have r0:=HW.out.r.cell 0 _ rfl;have r1:=HW.out.r.cell 1 _ rfl;have r2:=HW.out.r.cell 2 _ rfl;have r3:=HW.out.r.cell 3 _ rfl;have r4:=HW.out.r.cell 4 _ rfl;have s0:=HW.out.r.free 0 (by unfold iL;simp);have s1:=HW.out.r.free 1 (by unfold iL;simp);have s2:=HW.out.r.free 2 (by unfold iL;simp);have s3:=HW.out.r.free 3 (by unfold iL;simp);have s4:=HW.out.r.free 4 (by unfold iL;simp)
 go_wp2
 have hY:=HW.out.r.dB (iL false long s ex sig) rfl;exact aHE (v:=yv false long s ex sig) (dQ Tryz.results33 _ rfl (aMj _ _ 0 35 (iL false long s ex sig) _ hY.range Tryz.underlying35 rfl TA)) rfl ⟨_,_,_,_,_,HQ.out,rfl,hY.below⟩
end Bk
end
section
open Go.RowKit Go.Lib
namespace Bk
open Un (ba bt ri rb aS aZ)
def aV4(w:World)(e:Ending)(w':World):Prop:= ∃d:Dt,d.err=0/\(∃y m k,d.Fill y m k)/\d.dg.size<=5/\d.mo.size<=2/\d.da.size<=2/\0<=d.sig/\d.sig<=100/\0<=d.m0/\0<=d.m1/\0<=d.m2/\e=.returned (aV d)/\Below w.heap.size w w'
def zD:Dt:=⟨false,false,⟨#[]⟩,0,0,⟨#[]⟩,⟨#[]⟩,0,0,0⟩
structure Dw(p:Nat)(xs:List Value)(d:Dt)(w W:World):Prop where
 x:Rw w.heap.size xs w W
 r:Rw (w.heap.size+1) (bK zD) w W
 y:Rw p (bK d) w W
 n:w.heap.size+1<p
theorem Dw.later{p:Nat}{xs:List Value}{d:Dt}{w W W2:World}(h:Dw p xs d w W)(hb:Below W.heap.size W W2):Dw p xs d w W2:=
 ⟨h.x.later hb,h.r.later hb,h.y.later hb,h.n⟩
theorem Dw.set{p:Nat}{xs:List Value}{d:Dt}{w W:World}(h:Dw p xs d w W)(k:Nat)(hk:k<10)(v:Value){d':Dt}(e:(bK d).set k v=bK d'):Dw p xs d' w (W.setCell ⟨p,k,none⟩ v):=
 ⟨h.x.other (by have:=h.n;omega) h.y.new k v,h.r.other (by have:=h.n;omega) h.y.new k v,by have:=h.y.set k hk v;rw[e]at this;exact this,h.n⟩
def dOf(neg long:Bool)(s:ByteArray)(ex sig:Int)(mo da:ByteArray):Dt:=⟨neg,long,s,ex,sig,mo,da,0,0,0⟩
theorem aOs (f:Nat) (fV:Bool) (n z0 z1 mo da k0 k1 k2:Nat) (w:World) (hf:f<256) (hn:n<65536) (h0:z0<256) (h1:z1<256) (h2:mo<256) (h3:da<256) (h4:k0<256) (h5:k1<256) (h6:k2<256):
 Calls Tryz.prog 16 #[.agg (X0 f fV n z0 z1 mo da k0 k1 k2).toArray] w (aV4 w):=by
 have hX:Rw w.heap.size (X0 f fV n z0 z1 mo da k0 k1 k2) w _:=Rw.fresh (aAI _ _) _ 28;have hX2:=Rw.fresh hX.below (bK zD) 37;simp only[dF]at hX2;have hA:_/\_:=⟨hX.later (ba (aAI _ _) (.cells (bK zD).toArray 37)),hX2⟩;clear hX hX2;have HY:=rG (fun w=>aMJ f fV n z0 z1 w hf hn h0 h1);have HM:=rG (fun w=>aGh f fV n z0 z1 mo da k0 k1 k2 w h2);have HDY:=rG (fun m w hm hz hs=>aOp f fV n z0 z1 mo da k0 k1 k2 m w h3 hm hz hs);have HSE:=rG (fun d w=>qW d w);have HCO:=rG (fun d w=>LU d w);have HK:=rG (⟨h4,h5,h6⟩:_/\_/\_);obtain⟨m,hm0⟩: ∃m,m=mo % 40:=⟨_,rfl⟩;obtain⟨k,hk0⟩: ∃k,k=da % 40:=⟨_,rfl⟩;have hm:m<40:=by omega
 have hk:k<40:=by omega
 rw[<-hm0]at HM;rw[<-hk0]at HDY;clear hm0 hk0 hf hn h0 h1 h2 h3 h4 h5 h6;unfold bK zD at hA;unfold yl at HY;unfold X0 at hA HM HDY;unfold X0
 go_enter Tryz.func16,Tryz.ntmps16
 go_upto_region 1 with(fail)
 generalize World.alloc _ _=W0 at hA ⊢;have HD:Hid (Rw w.heap.size (X0 f fV n z0 z1 mo da k0 k1 k2) w W0):=rG hA.1;have HF:Hid (Rw (w.heap.size+1) (bK zD) w W0):=rG hA.2;clear hA
 go_cut [3] (fun s3 wx=> ∃p neg long s ex sig,s3=.pointer (some ⟨p,0,none⟩)/\UE neg long s ex sig/\Dw p (X0 f fV n z0 z1 mo da k0 k1 k2) (dOf neg long s ex sig ⟨#[]⟩ ⟨#[]⟩) w wx)
 case first=>
  have c0:=HD.out.cell 0 _ rfl;have c1:=HD.out.cell 1 _ rfl;have c2:=HD.out.cell 2 _ rfl;have c3:=HD.out.cell 3 _ rfl;have c4:=HD.out.cell 4 _ rfl;clear HM HDY HSE HCO
  go_wp2_with (go_at_call 33;refine(HY.out _).mono ?_;rintro _ w1 ⟨neg,long,s,ex,sig,hg,rfl,hb⟩;unfold yv)
  go_meet
  exact⟨_,_,_,_,_,_,rfl,hg,(HD.out.later hb).later (ba (aAI _ _) _),(HF.out.later hb).later (ba (aAI _ _) _),Rw.fresh (bt HD.out.below hb) (bK (dOf neg long s ex sig ⟨#[]⟩ ⟨#[]⟩)) _,(HF.out.later hb).lt⟩
 case rest=>
 obtain⟨p,neg,long,s,ex,sig,rfl,hg,hW⟩:=hcut;have HG:=rG hg;clear HD HF HY hg;obtain⟨bs,hbs⟩: ∃b,(sig==0)=b:=⟨_,rfl⟩;have HBS:Hid ((bs=true/\sig=0)\/(bs=false/\sig≠0)):=rG (by
  cases hb:bs
  . rw[hb]at hbs;exact .inr ⟨rfl,by simpa using hbs⟩
  rw[hb]at hbs;exact .inl ⟨rfl,by simpa using hbs⟩)
 have q4:World.cell? _ ⟨p,4,none⟩=some (.int .i64 sig):=hW.y.rV.2.2.2.2.1
 go_upto_if 12 with(fail)
 clear hbs q4
 go_cut [] (fun wx=> ∃wF:ByteArray,((sig=0/\wF=jZ m)\/(sig≠0/\wF=⟨#[]⟩))/\Dw p (X0 f fV n z0 z1 mo da k0 k1 k2) (dOf neg long s ex sig wF ⟨#[]⟩) w wx)
 case first=>
  clear HDY HSE HCO;rcases HBS.out with⟨rfl,e⟩|⟨rfl,e⟩
  . have HE:=rG e;clear e HBS;have c0:=hW.x.cell 0 _ rfl;have c1:=hW.x.cell 1 _ rfl;have c2:=hW.x.cell 2 _ rfl;have c3:=hW.x.cell 3 _ rfl;have c4:=hW.x.cell 4 _ rfl;have c5:=hW.x.cell 5 _ rfl;have c6:=hW.x.cell 6 _ rfl;have c7:=hW.x.cell 7 _ rfl;have c8:=hW.x.cell 8 _ rfl;have c9:=hW.x.cell 9 _ rfl;have HW:=rG hW;clear hW
    go_upto_region 3 with(fail)
    go_wp2_with (go_at_call 34;refine(HM.out _).mono ?_;rintro _ w2 ⟨rfl,hb⟩;replace HW:=rG (HW.out.later hb);clear hb c0 c1 c2 c3 c4 c5 c6 c7 c8 c9;have d5:=HW.out.y.cell 5 _ rfl;have z5:=HW.out.y.free 5 (by unfold bK;simp))
    go_meet
    exact⟨_,.inl ⟨HE.out,rfl⟩,HW.out.set 5 (by omega) (.string (jZ m)) rfl⟩
  go_wp2
  go_meet
  exact⟨_,.inr ⟨e,rfl⟩,hW⟩
 case rest=>
 obtain⟨wF,hmo,hW⟩:=hcut;have HMO:=rG hmo;clear HBS HM hmo
 go_upto_region 4 with(fail)
 go_cut [23] (fun s23 wx=> ∃b:Bool,s23=.bool b/\(b=true↔(wF.size≠0/\dD wF=0))/\Dw p (X0 f fV n z0 z1 mo da k0 k1 k2) (dOf neg long s ex sig wF ⟨#[]⟩) w wx)
 case first=>
  clear HDY HMO HCO;have q0:World.cell? _ ⟨p,0,none⟩=some (.bool neg):=hW.y.cell 0 _ rfl;have q1:World.cell? _ ⟨p,1,none⟩=some (.bool long):=hW.y.cell 1 _ rfl;have q2:World.cell? _ ⟨p,2,none⟩=some (.string s):=hW.y.cell 2 _ rfl;have q3:World.cell? _ ⟨p,3,none⟩=some (.int .i64 ex):=hW.y.cell 3 _ rfl;have q4:World.cell? _ ⟨p,4,none⟩=some (.int .i64 sig):=hW.y.cell 4 _ rfl;have q5:World.cell? _ ⟨p,5,none⟩=some (.string wF):=hW.y.cell 5 _ rfl;have q6:World.cell? _ ⟨p,6,none⟩=some (.string ⟨#[]⟩):=hW.y.cell 6 _ rfl;have q7:World.cell? _ ⟨p,7,none⟩=some (.int .u8 0):=hW.y.cell 7 _ rfl;have q8:World.cell? _ ⟨p,8,none⟩=some (.int .u8 0):=hW.y.cell 8 _ rfl;have q9:World.cell? _ ⟨p,9,none⟩=some (.int .u8 0):=hW.y.cell 9 _ rfl;have HW:=rG hW;clear hW;rcases fB wF with⟨e0,x0⟩|⟨e0,x0⟩
  . clear HSE
    go_wp2
    go_meet
    exact⟨false,rfl,⟨fun h=>(by cases h),fun h=>absurd e0 h.1⟩,HW.out⟩
  have aTe:Hid (∀w,Calls Tryz.prog 35 #[.agg #[.bool neg,.bool long,.string s,.int .i64 ex,.int .i64 sig,.string wF,.string ⟨#[]⟩,.int .u8 0,.int .u8 0,.int .u8 0]] w fun r w'=>r=.returned (.int .i64 (dD wF))/\Below w.heap.size w w'):=rG (fun w=>HSE.out (dOf neg long s ex sig wF ⟨#[]⟩) w);have HE:=rG e0;clear HSE e0
  by_cases e:dD wF=0
  . rw[e]at aTe;have HE2:=rG e;clear e
    go_wp2_with (go_at_call 35;refine(aTe.out _).mono ?_;rintro _ w2 ⟨rfl,hb⟩;replace HW:=rG (HW.out.later hb);clear hb)
    go_meet
    exact⟨true,rfl,⟨fun _=>⟨HE.out,HE2.out⟩,fun _=>rfl⟩,HW.out⟩
  have HE2:=rG e;have t1:(dD wF==0)=false:=by rw[aBA];exact e
  clear e
  go_wp2_with (go_at_call 35;refine(aTe.out _).mono ?_;rintro _ w2 ⟨rfl,hb⟩;replace HW:=rG (HW.out.later hb);clear hb)
  go_meet
  exact⟨false,rfl,⟨fun h=>(by cases h),fun h=>absurd h.2 HE2.out⟩,HW.out⟩
 case rest=>
 obtain⟨b,rfl,hb,hW⟩:=hcut;have HB:=rG hb;clear hb
 go_upto_if 23 with(fail)
 go_cut [] (fun wx=> ∃XG:ByteArray,(XG.size=0\/(wF=jZ m/\m≠0/\k≠0/\dD wF=0/\XG=AA m k))/\Dw p (X0 f fV n z0 z1 mo da k0 k1 k2) (dOf neg long s ex sig wF XG) w wx)
 case first=>
  clear HSE HCO
  cases b
  case false=>
   go_wp2
   go_meet
   exact⟨_,.inl rfl,hW⟩
  case true=>
   obtain⟨h1,h2⟩:=HB.out.1 rfl;obtain⟨hs0,rfl⟩:sig=0/\wF=jZ m:=by
    rcases HMO.out with h|⟨_,h⟩
    . exact h
    exfalso;apply h1;rw[h];rfl
   have hm0:m≠0:=fun e=>h1 (by rw[e];rfl);have aZA:=rG (fun w=>HDY.out m w hm hm0 h2);have HQ:Hid ((AA m k).size=0\/(m≠0/\k≠0/\dD (jZ m)=0)):=rG (by
    by_cases e:k=0
    . left;rw[e];rfl
    exact .inr ⟨hm0,e,h2⟩)
   clear HDY hm0 h1 h2 hs0 HMO HB;generalize jZ m=M at *;generalize AA m k=K at *;have c0:=hW.x.cell 0 _ rfl;have c1:=hW.x.cell 1 _ rfl;have c2:=hW.x.cell 2 _ rfl;have c3:=hW.x.cell 3 _ rfl;have c4:=hW.x.cell 4 _ rfl;have c5:=hW.x.cell 5 _ rfl;have c6:=hW.x.cell 6 _ rfl;have c7:=hW.x.cell 7 _ rfl;have c8:=hW.x.cell 8 _ rfl;have c9:=hW.x.cell 9 _ rfl;have q0:World.cell? _ ⟨p,0,none⟩=some (.bool neg):=hW.y.cell 0 _ rfl;have q1:World.cell? _ ⟨p,1,none⟩=some (.bool long):=hW.y.cell 1 _ rfl;have q2:World.cell? _ ⟨p,2,none⟩=some (.string s):=hW.y.cell 2 _ rfl;have q3:World.cell? _ ⟨p,3,none⟩=some (.int .i64 ex):=hW.y.cell 3 _ rfl;have q4:World.cell? _ ⟨p,4,none⟩=some (.int .i64 sig):=hW.y.cell 4 _ rfl;have q5:World.cell? _ ⟨p,5,none⟩=some (.string M):=hW.y.cell 5 _ rfl;have q6:World.cell? _ ⟨p,6,none⟩=some (.string ⟨#[]⟩):=hW.y.cell 6 _ rfl;have q7:World.cell? _ ⟨p,7,none⟩=some (.int .u8 0):=hW.y.cell 7 _ rfl;have q8:World.cell? _ ⟨p,8,none⟩=some (.int .u8 0):=hW.y.cell 8 _ rfl;have q9:World.cell? _ ⟨p,9,none⟩=some (.int .u8 0):=hW.y.cell 9 _ rfl;have HW:=rG hW;clear hW
   go_upto_region 5 with(fail)
   go_wp2_with (go_at_call 36;refine(aZA.out _).mono ?_;rintro _ w2 ⟨rfl,hb⟩;replace HW:=rG (HW.out.later hb);clear hb c0 c1 c2 c3 c4 c5 c6 c7 c8 c9 q0 q1 q2 q3 q4 q5 q6 q7 q8 q9;have d5:=HW.out.y.cell 6 _ rfl;have z5:=HW.out.y.free 6 (by unfold bK;simp))
   go_meet
   exact⟨K,HQ.out.imp id fun h=>⟨by first|rfl|trivial,h.1,h.2.1,h.2.2,by first|rfl|trivial⟩,HW.out.set 6 (by omega) (.string K) rfl⟩
 case rest=>
 obtain⟨XG,hda,hW⟩:=hcut;have HDA:=rG hda;clear hda HDY HSE HB;have HC2:Hid (∀(a0 a1 a2:Int) w,Calls Tryz.prog 37 #[.agg #[.bool neg,.bool long,.string s,.int .i64 ex,.int .i64 sig,.string wF,.string XG,.int .u8 a0,.int .u8 a1,.int .u8 a2]] w fun r w'=>r=.returned (.int .i64 (comps wF XG))/\Below w.heap.size w w'):=rG (fun a0 a1 a2 w=>HCO.out ⟨neg,long,s,ex,sig,wF,XG,a0,a1,a2⟩ w);clear HCO;obtain⟨N,hN⟩: ∃N:Nat,comps wF XG=N:=⟨(comps wF XG).toNat,by unfold comps;(repeat' split)<;>omega⟩;have hN1:1<=N/\N<=3:=by unfold comps at hN;(repeat' split at hN)<;>omega
 rw[hN]at HC2;have HN:=rG hN;clear hN;obtain⟨hN1,hN3⟩:=hN1
 go_wp2
 go_loopw [4] (fun s4 wr=> ∃i:Nat,i<=N/\s4=.int .i64 i/\ ∃a0 a1 a2:Int,0<=a0/\a0<=3/\0<=a1/\a1<=3/\0<=a2/\a2<=3/\(i<=0->a0=0)/\(i<=1->a1=0)/\(i<=2->a2=0)/\Dw p (X0 f fV n z0 z1 mo da k0 k1 k2) ⟨neg,long,s,ex,sig,wF,XG,a0,a1,a2⟩ w wr) (fun i _=>4 - (intOf i).toNat)
 case atStart=>exact⟨0,by omega,rfl,0,0,0,by omega,by omega,by omega,by omega,by omega,by omega,fun _=>rfl,fun _=>rfl,fun _=>rfl,hW⟩
 case round=>
  obtain⟨i,hi,rfl,a0,a1,a2,b0,b1,b2,b3,b4,b5,g0,g1,g2,hW⟩:=hrel;have HA:=rG (⟨b0,b1,b2,b3,b4,b5,g0,g1,g2⟩:_/\_/\_/\_/\_/\_/\_/\_/\_);clear b0 b1 b2 b3 b4 b5 g0 g1 g2;have q0:World.cell? _ ⟨p,0,none⟩=some (.bool neg):=hW.y.cell 0 _ rfl;have q1:World.cell? _ ⟨p,1,none⟩=some (.bool long):=hW.y.cell 1 _ rfl;have q2:World.cell? _ ⟨p,2,none⟩=some (.string s):=hW.y.cell 2 _ rfl;have q3:World.cell? _ ⟨p,3,none⟩=some (.int .i64 ex):=hW.y.cell 3 _ rfl;have q4:World.cell? _ ⟨p,4,none⟩=some (.int .i64 sig):=hW.y.cell 4 _ rfl;have q5:World.cell? _ ⟨p,5,none⟩=some (.string wF):=hW.y.cell 5 _ rfl;have q6:World.cell? _ ⟨p,6,none⟩=some (.string XG):=hW.y.cell 6 _ rfl;have q7:World.cell? _ ⟨p,7,none⟩=some (.int .u8 a0):=hW.y.cell 7 _ rfl;have q8:World.cell? _ ⟨p,8,none⟩=some (.int .u8 a1):=hW.y.cell 8 _ rfl;have q9:World.cell? _ ⟨p,9,none⟩=some (.int .u8 a2):=hW.y.cell 9 _ rfl;have c0:=hW.x.cell 0 _ rfl;have c1:=hW.x.cell 1 _ rfl;have c2:=hW.x.cell 2 _ rfl;have c3:=hW.x.cell 3 _ rfl;have c4:=hW.x.cell 4 _ rfl;have c5:=hW.x.cell 5 _ rfl;have c6:=hW.x.cell 6 _ rfl;have c7:=hW.x.cell 7 _ rfl;have c8:=hW.x.cell 8 _ rfl;have c9:=hW.x.cell 9 _ rfl;have HW:=rG hW;clear hW
  by_cases hlt:i<N
  . have hi3:i=0\/i=1\/i=2:=by omega
    obtain⟨u0,u1,u2⟩:=HK.out;rcases hi3 with rfl|rfl|rfl
    . go_wp2_with (go_at_call 37;refine(HC2.out _ _ _ _).mono ?_;rintro _ w2 ⟨rfl,hb⟩;replace HW:=rG (HW.out.later hb);clear hb c0 c1 c2 c3 c4 c5 c6 c7 c8 c9 q0 q1 q2 q3 q4 q5 q6 q7 q8 q9;have c7:=HW.out.x.cell 7 _ rfl;have c8:=HW.out.x.cell 8 _ rfl;have c9:=HW.out.x.cell 9 _ rfl;have q7:=HW.out.y.cell 7 _ rfl;have q8:=HW.out.y.cell 8 _ rfl;have q9:=HW.out.y.cell 9 _ rfl;have z7:=HW.out.y.free 7 (by unfold bK;simp);have z8:=HW.out.y.free 8 (by unfold bK;simp);have z9:=HW.out.y.free 9 (by unfold bK;simp))
      go_roundw
      case rel=>
       obtain⟨b0,b1,b2,b3,b4,b5,g0,g1,g2⟩:=HA.out;exact⟨1,by omega,rfl,(k0:Int) % 4,a1,a2,by omega,by omega,b2,b3,b4,b5,fun h=>absurd h (by omega),fun _=>g1 (by omega),fun _=>g2 (by omega),HW.out.set 7 (by omega) _ rfl⟩
      case measure=>simp[intOf]
    . go_wp2_with (go_at_call 37;refine(HC2.out _ _ _ _).mono ?_;rintro _ w2 ⟨rfl,hb⟩;replace HW:=rG (HW.out.later hb);clear hb c0 c1 c2 c3 c4 c5 c6 c7 c8 c9 q0 q1 q2 q3 q4 q5 q6 q7 q8 q9;have c7:=HW.out.x.cell 7 _ rfl;have c8:=HW.out.x.cell 8 _ rfl;have c9:=HW.out.x.cell 9 _ rfl;have q7:=HW.out.y.cell 7 _ rfl;have q8:=HW.out.y.cell 8 _ rfl;have q9:=HW.out.y.cell 9 _ rfl;have z7:=HW.out.y.free 7 (by unfold bK;simp);have z8:=HW.out.y.free 8 (by unfold bK;simp);have z9:=HW.out.y.free 9 (by unfold bK;simp))
      go_roundw
      case rel=>
       obtain⟨b0,b1,b2,b3,b4,b5,g0,g1,g2⟩:=HA.out;exact⟨2,by omega,rfl,a0,(k1:Int) % 4,a2,b0,b1,by omega,by omega,b4,b5,fun h=>absurd h (by omega),fun h=>absurd h (by omega),fun _=>g2 (by omega),HW.out.set 8 (by omega) _ rfl⟩
      case measure=>simp[intOf]
    go_wp2_with (go_at_call 37;refine(HC2.out _ _ _ _).mono ?_;rintro _ w2 ⟨rfl,hb⟩;replace HW:=rG (HW.out.later hb);clear hb c0 c1 c2 c3 c4 c5 c6 c7 c8 c9 q0 q1 q2 q3 q4 q5 q6 q7 q8 q9;have c7:=HW.out.x.cell 7 _ rfl;have c8:=HW.out.x.cell 8 _ rfl;have c9:=HW.out.x.cell 9 _ rfl;have q7:=HW.out.y.cell 7 _ rfl;have q8:=HW.out.y.cell 8 _ rfl;have q9:=HW.out.y.cell 9 _ rfl;have z7:=HW.out.y.free 7 (by unfold bK;simp);have z8:=HW.out.y.free 8 (by unfold bK;simp);have z9:=HW.out.y.free 9 (by unfold bK;simp))
    go_roundw
    case rel=>
     obtain⟨b0,b1,b2,b3,b4,b5,g0,g1,g2⟩:=HA.out;exact⟨3,by omega,rfl,a0,a1,(k2:Int) % 4,b0,b1,b2,b3,by omega,by omega,fun h=>absurd h (by omega),fun h=>absurd h (by omega),fun h=>absurd h (by omega),HW.out.set 9 (by omega) _ rfl⟩
    case measure=>simp[intOf]
  obtain rfl:i=N:=by omega
  have HR:Hid (∀d:Dt,d=⟨neg,long,s,ex,sig,wF,XG,a0,a1,a2⟩->d.err=0/\(∃y m k,d.Fill y m k)/\d.dg.size<=5/\d.mo.size<=2/\d.da.size<=2/\0<=d.sig/\d.sig<=100/\0<=d.m0/\0<=d.m1/\0<=d.m2):=rG (by
   rintro d rfl;obtain⟨b0,b1,b2,b3,b4,b5,g0,g1,g2⟩:=HA.out;have hy:=HG.out;have hms:wF.size<=2:=by
    rcases HMO.out with⟨_,h⟩|⟨_,h⟩
    . by_cases e:m=0
      . rw[h,e];show(0:Nat)<=2;omega
      have:=(VO hm e).1;rw[h];omega
    rw[h];show(0:Nat)<=2;omega
   have hds:XG.size<=2:=by
    rcases HDA.out with h|⟨h1,h2,h3,h4,h5⟩
    . omega
    have:=(aDf hm hk h2 h3 (by rw[<-h1];exact h4)).1;rw[h5];omega
   have hma:kD a0 a1 a2 (comps wF XG)=0:=by
    rw[HN.out];unfold kD;rw[aDk ⟨b1,b3,b5,fun h=>g2 (by omega),fun h=>g1 (by omega)⟩]
   have:=aNS (d:=⟨neg,long,s,ex,sig,wF,XG,a0,a1,a2⟩) hy (fun h=>by
    rcases HMO.out with⟨h1,_⟩|⟨_,h1⟩
    . have h:0<sig:=h;omega
    . show wF.size=0;rw[h1];rfl) hm hk (by
    rcases HMO.out with⟨_,h1⟩|⟨_,h1⟩
    . exact .inl h1
    right;show wF.size=0;rw[h1];rfl) HDA.out hma
   exact⟨this.1,this.2,hy.2.2.2.2.2.2,hms,hds,hy.2.2.1,hy.2.2.2.1,b0,b2,b4⟩)
  clear HA HN HMO HDA HG
  go_wp2_with (go_at_call 37;refine(HC2.out _ _ _ _).mono ?_;rintro _ w2 ⟨rfl,hb⟩;replace HW:=rG (HW.out.later hb);clear hb c0 c1 c2 c3 c4 c5 c6 c7 c8 c9 q0 q1 q2 q3 q4 q5 q6 q7 q8 q9;have q0:World.cell? _ ⟨p,0,none⟩=some (.bool neg):=HW.out.y.cell 0 _ rfl;have q1:World.cell? _ ⟨p,1,none⟩=some (.bool long):=HW.out.y.cell 1 _ rfl;have q2:World.cell? _ ⟨p,2,none⟩=some (.string s):=HW.out.y.cell 2 _ rfl;have q3:World.cell? _ ⟨p,3,none⟩=some (.int .i64 ex):=HW.out.y.cell 3 _ rfl;have q4:World.cell? _ ⟨p,4,none⟩=some (.int .i64 sig):=HW.out.y.cell 4 _ rfl;have q5:World.cell? _ ⟨p,5,none⟩=some (.string wF):=HW.out.y.cell 5 _ rfl;have q6:World.cell? _ ⟨p,6,none⟩=some (.string XG):=HW.out.y.cell 6 _ rfl;have q7:World.cell? _ ⟨p,7,none⟩=some (.int .u8 a0):=HW.out.y.cell 7 _ rfl;have q8:World.cell? _ ⟨p,8,none⟩=some (.int .u8 a1):=HW.out.y.cell 8 _ rfl;have q9:World.cell? _ ⟨p,9,none⟩=some (.int .u8 a2):=HW.out.y.cell 9 _ rfl;have r0:=HW.out.r.cell 0 _ rfl;have s0:=HW.out.r.free 0 (by unfold bK;simp);have r1:=HW.out.r.cell 1 _ rfl;have s1:=HW.out.r.free 1 (by unfold bK;simp);have r2:=HW.out.r.cell 2 _ rfl;have s2:=HW.out.r.free 2 (by unfold bK;simp);have r3:=HW.out.r.cell 3 _ rfl;have s3:=HW.out.r.free 3 (by unfold bK;simp);have r4:=HW.out.r.cell 4 _ rfl;have s4:=HW.out.r.free 4 (by unfold bK;simp);have r5:=HW.out.r.cell 5 _ rfl;have s5:=HW.out.r.free 5 (by unfold bK;simp);have r6:=HW.out.r.cell 6 _ rfl;have s6:=HW.out.r.free 6 (by unfold bK;simp);have r7:=HW.out.r.cell 7 _ rfl;have s7:=HW.out.r.free 7 (by unfold bK;simp);have r8:=HW.out.r.cell 8 _ rfl;have s8:=HW.out.r.free 8 (by unfold bK;simp);have r9:=HW.out.r.cell 9 _ rfl;have s9:=HW.out.r.free 9 (by unfold bK;simp))
  have hY:=HW.out.r.dB (bK ⟨neg,long,s,ex,sig,wF,XG,a0,a1,a2⟩) rfl;have hR:=HR.out _ rfl;exact aHE (v:=aV ⟨neg,long,s,ex,sig,wF,XG,a0,a1,a2⟩) (dQ Tryz.results16 _ rfl (aMj _ _ 0 37 (bK ⟨neg,long,s,ex,sig,wF,XG,a0,a1,a2⟩) _ hY.range Tryz.underlying37 rfl dZ)) rfl ⟨_,hR.1,hR.2.1,hR.2.2.1,hR.2.2.2.1,hR.2.2.2.2.1,hR.2.2.2.2.2.1,hR.2.2.2.2.2.2.1,hR.2.2.2.2.2.2.2.1,hR.2.2.2.2.2.2.2.2.1,hR.2.2.2.2.2.2.2.2.2,rfl,hY.below⟩
end Bk
end
section
open Go.RowKit Go.Lib
namespace Sk
open Un (ba bt ri rb)
open Bk (Dt aV lD dQ)
open Ev (bM eU hp O8 dX Lf zN aW fU)
def aBs(w:World)(e:Ending)(w':World):Prop:= ∃k bs n cp,∃f:Nat->R4,∃d p a lo b hi,e=.returned (fam k (.slice bs n cp) d p a lo b hi)/\Below w.heap.size w w'/\aDF k bs n f d p a lo b hi w'
theorem aIM{w':World}{bs:Option Addr}{n:Nat}{f:Nat->R4}(hr:qK w' bs n f)(hB: ∀j,(f j).Bd)(h1:n=1->aEK (f 0)):aDF 1 bs n f z0 0 0 0 0 0 w':=by
 refine⟨⟨hr,hB,?_,?_,?_,?_,?_,?_,?_,?_,?_,?_,?_,?_,?_,?_⟩,by omega,fun _ hn=>⟨(h1 hn).a,(h1 hn).b,⟨(h1 hn).l0,(h1 hn).l1⟩,⟨(h1 hn).h0,(h1 hn).h1⟩,(h1 hn).le⟩,fun q=>by omega,fun q=>by omega⟩<;>decide
theorem NH:(Tryz.prog.info? 44).map (·.size)=some 17:=by kernel_rfl
theorem aKb:(Tryz.prog.info? 32).map (·.size)=some 16:=by kernel_rfl
abbrev OfQ(w0:World):Exit->Act->World->Prop:=bodyPost Tryz.prog Tryz.f6 (aBs w0)
theorem aJ4(k:Int)(bs:Option Addr)(n cp:Nat)(d:Dt)(p a lo b hi:Int):(lF k (.slice bs n cp) d p a lo b hi).toArray.all (·.oneCell')=true:=by
 simp[lF,Value.oneCell']
theorem aJu{w0 w:World}{a:Act}{p:Nat}{k:Int}{bs:Option Addr}{n cp:Nat}{f:Nat->R4}{d:Dt}{pp aa lo b hi:Int}(h2:a.tmps[2]? =some (.pointer (some ⟨p,0,none⟩)))(hd:a.defers=[])
 (hf:O8 w p 44 (lF k (.slice bs n cp) d pp aa lo b hi)) (hb:Below w0.heap.size w0 w) (F:aDF k bs n f d pp aa lo b hi w):OfQ w0 .ret a w:=
 aHE (v:=fam k (.slice bs n cp) d pp aa lo b hi) (dQ Tryz.results6 _ (by simp[h2]) (aMj w p 0 _ _ _ (EX hf) Tryz.underlying44 rfl NH)) hd ⟨_,_,_,_,f,_,_,_,_,_,_,rfl,hb,F⟩
theorem aDK{c:Code}{s r:Nat}{w0 w:World}{P:List Nat}{F:List (TypeId × List Value)}{S:List (Nat × Value)}{a:Act}{xs zs:List Value}{Q:Exit->Act->World->Prop}
 (hc:(aDW c,(aM3 c).map key)=(false,[(none,some s,.load 32 (.tmp 1)),(none,some r,.call ⟨.value (.func 19),#[.tmp s],#[32]⟩),(none,none,.store 44 (.tmp 2) (.tmp r))]))
 (hs:s<101) (hr:r<101) (s2:s≠2) (r2:r≠2) (hx:xs.length=16) (hz:zs.length=17)
 (hw:dX w0 101 P F S a w) (h1:(1,pt P 0) ∈ S) (h2:(2,pt P 1) ∈ S) (f1:F[0]? =some (32,xs)) (f2:F[1]? =some (44,zs))
 (HO: ∀W,Below w0.heap.size w0 W->Calls Tryz.prog 19 #[.agg xs.toArray] W (FW W))
 (hQ: ∀a' w',OfQ w0 .ret a' w'->Q .ret a' w'):(Code.seq c .ret).wp Tryz.prog Q a w:=by
 obtain⟨hd,hm⟩:=aMi hc;obtain⟨o1,l1,e1,k1,hm⟩:=IV hm;obtain⟨o2,l2,e2,k2,hm⟩:=IV hm;obtain⟨o3,l3,e3,k3,hm⟩:=IV hm;have e4:=aRV hm;subst e4 e3 e2;obtain⟨g1,k1⟩:=aMi k1;obtain⟨d1,p1⟩:=aMi k1;obtain⟨g2,k2⟩:=aMi k2;obtain⟨d2,p2⟩:=aMi k2;obtain⟨g3,k3⟩:=aMi k3;obtain⟨d3,p3⟩:=aMi k3;obtain⟨b1,n1,q1⟩:=BD hw f1;obtain⟨b2,n2,q2⟩:=BD hw f2;have v1:=hw.val _ h1;have v2:=hw.val _ h2;dsimp only at v1 v2 b1 b2;refine aXj (UU hd fun ops=>?_);rw[e1];refine aHD g1 _ (.tmp 1) p1 _ 0 (mQ v1) _ _ (EX b1) Tryz.underlying32 rfl (by rw[aKb,hx]) ?_;rw[d1];have hrun:=zL (P:=Tryz.prog) (a:=a.put (some s) (.agg xs.toArray)) (w:=w) p2 Tryz.func19 (by kernel_rfl) rfl;have ea:(#[Operand.tmp s].map (a.put (some s) (.agg xs.toArray)).eval)= #[.agg xs.toArray]:=by
  rw[aXX];show(List.toArray [(a.put (some s) (.agg xs.toArray)).eval (.tmp s)])=_;rw[vY (by rw[hw.size];exact hs)]
 rw[ea]at hrun;refine tC g2 d2 hrun (HO w hw.below) fun e w1 hR=>?_;obtain⟨bs,n,cp,f,rfl,hb,hr',hB,h4,ho,hg⟩:=hR;refine⟨_,rfl,?_⟩;have l2:=aC4 b2;have b2':=TK b2 hb;have hsz:(a.put (some s) (.agg xs.toArray)).tmps.size=101:=by simp[Act.put,hw.size]
 have y2:(a.put (some s) (.agg xs.toArray)).tmps[2]? =some (pt P 1):=by simp[Act.put,s2,v2]
 have z2:((a.put (some s) (.agg xs.toArray)).put (some r) (fam 1 (.slice bs n cp) z0 0 0 0 0 0)).tmps[2]? =some (pt P 1):=by
  rw[<-y2];simp only[Act.put];rw[aRM r2]
 refine aQJ g3 _ (.tmp 2) (.tmp r) p3 (P.getD 1 0) 0 (lF 1 (.slice bs n cp) z0 0 0 0 0 0).toArray (mQ z2) (vY (by rw[hsz];exact hr)) ?_ NH (aJ4 1 bs n cp z0 0 0 0 0 0) ?_
 . have:=EW b2';rw[hz]at this;exact this
 rw[d3];show(Code.ret).wp _ Q _ _;refine wp_ret (hQ _ _ (aJu (p:=P.getD 1 0) (f:=f) ?_ ?_ (TJ b2' (by rw[hz];rfl)) (zH n2 _ _ (bt hw.below hb)) ?_))
 . exact z2
 . exact hw.defs
 exact aIM (aB2 hr' fun g o s hbs h=>by have:=hg g o s hbs;omega) hB ho
theorem wB{v:Value}{w0:World}(h: ∀a0,dX w0 101 [] [] [(0,v)] a0 w0->sW.wp Tryz.prog (OfQ w0) a0 w0):Calls Tryz.prog 6 #[v] w0 (aBs w0):=by
 refine calls_of_wp Tryz.func6 (show _=some sW by kernel_rfl) (h _ ⟨aAI _ _,fun p q=>(aMf q).elim,aXe,⟨rfl,fun j p e q=>by simp at q⟩,?_,rfl,fun e he=>?_⟩)
 . simp[Tryz.ntmps6]
 obtain rfl:=aL8.1 he;simp
theorem pI{w0 w:World}{a:Act}{P:List Nat}{F:List (TypeId × List Value)}{S:List (Nat × Value)}{k:Int}{d:Dt}{pp aa lo b hi:Int}(hw:dX w0 101 P F S a w)(h2:(2,pt P 1) ∈ S)(f2:F[1]? =some (44,lF k (.slice none 0 0) d pp aa lo b hi))
 (h:aDF k none 0 (fun _=>⟨0,0,0,0⟩) d pp aa lo b hi w):OfQ w0 .ret a w:=by
 obtain⟨b2,n2,q2⟩:=BD hw f2;exact aJu (hw.val _ h2) hw.defs b2 hw.below h
theorem xW{w:World}{k:Int}{d:Dt}{pp aa lo b hi:Int}(k0:0<=k)(k1:k≠1)(hm:d.mo.size<=1000)(hd:d.dg.size<=1000)(ha:d.da.size<=1000)(s0: -9223372036854775808<=d.sig)(s1:d.sig<9223372036854775808)(m0:0<=d.m0)(m1:0<=d.m1)(m2:0<=d.m2)
 (p0:0<=pp) (p1:pp<256) (l: -4611686018427387904<=lo/\lo<=4611686018427387904) (h: -4611686018427387904<=hi/\hi<=4611686018427387904) (hfl:k=2-> ∃y m j,d.Fill y m j):aDF k none 0 (fun _=>⟨0,0,0,0⟩) d pp aa lo b hi w:=
 ⟨⟨fun i hi=>by omega,fun _=>aPn,hm,hd,ha,s0,s1,m0,m1,m2,p0,p1,by omega,by omega,by omega,by omega⟩,k0,fun e=>absurd e k1,hfl,fun _=>⟨l,h⟩⟩
section
variable{kk pp oo fo nn z0' z1 mo da k0 k1 k2 fr my:Int}{ng:Bool}{bs:Option Addr}{n cp:Nat}{w0:World}
theorem aNx(hst:SS w0)(hk1:Int.tmod kk 5≠1)(hk2:Int.tmod kk 5≠2)(hk3:Int.tmod kk 5≠3)(hk4:Int.tmod kk 5≠4)
 (HO: ∀W,Below w0.heap.size w0 W->Calls Tryz.prog 19 #[.agg (fArg kk pp oo fo ng nn z0' z1 mo da k0 k1 k2 fr my (.slice bs n cp)).toArray] W (FW W)):
 Calls Tryz.prog 6 #[.agg (fArg kk pp oo fo ng nn z0' z1 mo da k0 k1 k2 fr my (.slice bs n cp)).toArray] w0 (aBs w0):=by
 refine wB fun a0 hw=>?_;refine aRs kk pp oo fo nn z0' z1 mo da k0 k1 k2 fr my ng bs n cp hst hw ⟨fun h=>hk1 (by simpa using h),fun _=>⟨fun h=>hk2 (by simpa using h),fun _=>⟨fun h=>hk3 (by simpa using h),fun _=>⟨fun h=>hk4 (by simpa using h),fun _=>?_⟩⟩⟩⟩;intro P' a' w' _ hw';show(fU 2 (aW [] sW)).wp _ _ _ _;rw[show fU 2 (aW [] sW)=.seq (aW [1,1,0] sW) .ret by kernel_rfl];exact aDK (s:=99) (r:=100) (by kernel_rfl) (by decide) (by decide) (by decide) (by decide) rfl rfl hw' (.head _) (.tail _ (.head _)) rfl rfl HO (fun _ _ h=>h)
theorem aJt(hst:SS w0)(hk:Int.tmod kk 5=3)(f0: -32768<=fr)(f1:fr<32768):
 Calls Tryz.prog 6 #[.agg (fArg kk pp oo fo ng nn z0' z1 mo da k0 k1 k2 fr my (.slice bs n cp)).toArray] w0 (aBs w0):=by
 have wf:IntKind.i64.wrap fr=fr:=by rw[aHA];omega
 refine wB fun a0 hw=>?_;refine of3 kk pp oo fo nn z0' z1 mo da k0 k1 k2 fr my ng bs n cp hst hw ⟨fun h=>by simp[hk]at h,fun _=>⟨fun h=>by simp[hk]at h,fun _=>⟨fun _=>?_,fun h=>by simp[hk]at h⟩⟩⟩;intro P' a' w' _ hw';rw[wf]at hw';exact pI (k:=4) (d:=z0) (pp:=0) (aa:= -1) (lo:=0) (b:=0) (hi:=fr) hw' (.tail _ (.head _)) rfl (xW (by decide) (by decide) (by decide) (by decide) (by decide) (by decide) (by decide) (by decide) (by decide) (by decide) (by decide) (by decide) (by decide) (by omega) (fun q=>by omega))
theorem aNy(hst:SS w0)(hk:Int.tmod kk 5=4)(f0: -32768<=fr)(f1:fr<32768):
 Calls Tryz.prog 6 #[.agg (fArg kk pp oo fo ng nn z0' z1 mo da k0 k1 k2 fr my (.slice bs n cp)).toArray] w0 (aBs w0):=by
 have wf:IntKind.i64.wrap fr=fr:=by rw[aHA];omega
 refine wB fun a0 hw=>?_;refine of4 kk pp oo fo nn z0' z1 mo da k0 k1 k2 fr my ng bs n cp hst hw ⟨fun h=>by simp[hk]at h,fun _=>⟨fun h=>by simp[hk]at h,fun _=>⟨fun h=>by simp[hk]at h,fun _=>⟨fun _=>?_,fun h=>by simp[hk]at h⟩⟩⟩⟩;intro P' a' w' _ hw';rw[wf]at hw';exact pI (k:=5) (d:=z0) (pp:=0) (aa:=0) (lo:=fr) (b:=1) (hi:=0) hw' (.tail _ (.head _)) rfl (xW (by decide) (by decide) (by decide) (by decide) (by decide) (by decide) (by decide) (by decide) (by decide) (by decide) (by decide) (by decide) (by omega) (by decide) (fun q=>by omega))
theorem KI{y:Int}(h0: -50000<=y)(h1:y<=50000): -20000000<=Cal.st y/\Cal.st y<=20000000:=by
 unfold Cal.st Cal.PE;constructor<;>omega
theorem aLg{p i:Int}(hp:1<=p/\p<=3)(h0: -40000<=i)(h1:i<=40000):(-4611686018427387904<=(Un.FQ p i).1/\(Un.FQ p i).1<=4611686018427387904)/\(-4611686018427387904<=(Un.FQ p i).2.1/\(Un.FQ p i).2.1<=4611686018427387904):=by
 obtain rfl|rfl|rfl:p=1\/p=2\/p=3:=by omega
 . have e:Un.FQ 1 i=(Cal.st i,Cal.st (i+1) - 1,0):=by
    unfold Un.FQ;rw[aBx (by omega),aBx (by omega),aDk rfl,aDk ⟨by omega,by omega⟩]
   have a:=KI (y:=i) (by omega) (by omega);have b:=KI (y:=i+1) (by omega) (by omega);rw[e];dsimp only;omega
 . have e:Un.FQ 2 i=(Cal.st (i / 12)+Cal.bZ (i / 12) (i % 12+1),Cal.st (i / 12)+Cal.bZ (i / 12) (i % 12+2) - 1,0):=by
    unfold Un.FQ Un.jA;rw[aBx (by omega),aBx (by omega),aBx (by omega),aDk ⟨by omega,by omega⟩]
   have a:=KI (y:=i / 12) (by omega) (by omega);have b:=Cal.fF (y:=i / 12) (m:=i % 12+1) (by omega) (by omega);have c:=Cal.fF (y:=i / 12) (m:=i % 12+2) (by omega) (by omega);rw[e];dsimp only;omega
 rw[show Un.FQ 3 i=(i,i,0) by simp[Un.FQ]];dsimp only;omega
theorem LM{p i:Int}(h0: -9223372036854775808<=i)(h1:i<9223372036854775808):Same w0 20 #[.int .i64 i,.int .i64 p] (.tuple #[r4 0 (Un.FQ p i).1 0 (Un.FQ p i).2.1,.int .i64 (Un.FQ p i).2.2]):=fun W _=>Un.EI p i W h0 h1
theorem aRp(hst:SS w0)(hk:Int.tmod kk 5=2)(f0: -32768<=fr)(f1:fr<32768)(m0:0<=my)(m1:my<256)(hp0:0<=pp)(hp1:pp<256):
 Calls Tryz.prog 6 #[.agg (fArg kk pp oo fo ng nn z0' z1 mo da k0 k1 k2 fr my (.slice bs n cp)).toArray] w0 (aBs w0):=by
 have wf:IntKind.i64.wrap fr=fr:=by rw[aHA];omega
 have wm:IntKind.i64.wrap my=my:=by rw[aHA];omega
 have wfm:IntKind.i64.wrap (fr+my)=fr+my:=by rw[aHA];omega
 have t3:Int.tmod pp 3=pp % 3:=Int.tmod_eq_emod_of_nonneg hp0;have wp:IntKind.u8.wrap (1+Int.tmod pp 3)=1+Int.tmod pp 3:=by rw[IntKind.wrap_u8,t3];omega
 have wp2:IntKind.i64.wrap (1+Int.tmod pp 3)=1+Int.tmod pp 3:=by rw[aHA,t3];omega
 have H0:Same w0 20 _ _:=LM (w0:=w0) (p:=1+Int.tmod pp 3) (i:=fr) (by omega) (by omega);have H1:Same w0 20 _ _:=LM (w0:=w0) (p:=1+Int.tmod pp 3) (i:=fr+my) (by omega) (by omega);obtain⟨⟨a1,a2⟩,a3,a4⟩:=aLg (p:=1+Int.tmod pp 3) (i:=fr) (by omega) (by omega) (by omega);obtain⟨⟨b1,b2⟩,b3,b4⟩:=aLg (p:=1+Int.tmod pp 3) (i:=fr+my) (by omega) (by omega) (by omega);refine wB fun a0 hw=>?_;refine of2 kk pp oo fo nn z0' z1 mo da k0 k1 k2 fr my _ _ _ _ _ _ ng bs n cp hst (by rw[wf,wp,wp2];exact H0) (by rw[wf,wm,wfm,wp,wp2];exact H1) hw ⟨fun h=>by simp[hk]at h,fun _=>⟨fun _=>?_,fun h=>by simp[hk]at h⟩⟩;rw[wp];have hq: ∀ {aa lo b hi:Int} {w:World},(-4611686018427387904<=lo/\lo<=4611686018427387904)->(-4611686018427387904<=hi/\hi<=4611686018427387904)->aDF 3 none 0 (fun _=>⟨0,0,0,0⟩) z0 (1+Int.tmod pp 3) aa lo b hi w:=fun l h=>
  xW (by decide) (by decide) (by decide) (by decide) (by decide) (by decide) (by decide) (by decide) (by decide) (by decide) (by omega) (by omega) l h (fun q=>by omega)
 refine⟨fun h1=>⟨fun h2=>?_,fun _=>?_⟩,fun _=>⟨fun _=>?_,fun _=>?_⟩⟩
 . simp only[aGw]at h1 h2;omega
 . intro P' a' w' _ hw';exact pI (k:=3) (d:=z0) (aa:= -1) (lo:=0) (b:=0) hw' (.tail _ (.head _)) rfl (hq (by decide) ⟨b3,b4⟩)
 . intro P' a' w' _ hw';exact pI (k:=3) (d:=z0) (aa:=0) (b:=1) (hi:=0) hw' (.tail _ (.head _)) rfl (hq ⟨a1,a2⟩ (by decide))
 intro P' a' w' _ hw';exact pI (k:=3) (d:=z0) (aa:=0) (b:=0) hw' (.tail _ (.head _)) rfl (hq ⟨a1,a2⟩ ⟨b3,b4⟩)
theorem dZ:(Tryz.prog.info? 37).map (·.size)=some 10:=by kernel_rfl
theorem aEx:Tryz.prog.cellsOf 28=10:=by kernel_rfl
theorem aR1:(Tryz.prog.info? 28).map (·.size)=some 10:=by kernel_rfl
abbrev zDl:List Value:=[.bool false,.bool false,.string ⟨#[]⟩,.int .i64 0,.int .i64 0,.string ⟨#[]⟩,.string ⟨#[]⟩,.int .u8 0,.int .u8 0,.int .u8 0]
theorem aEP(w:World):(zeroValue 37).run Tryz.prog w=.ok (.agg zDl.toArray) w:=Tryz.zeroValue37 w
abbrev dA(fo:Int)(ng:Bool)(nn z0 z1 mo da k0 k1 k2:Int):List Value:=[.int .u8 fo,.bool ng,.int .u16 nn,.int .u8 z0,.int .u8 z1,.int .u8 mo,.int .u8 da,.int .u8 k0,.int .u8 k1,.int .u8 k2]
theorem aRq(hst:SS w0)(hk:Int.tmod kk 5=1)
 (HO: ∀W,Below w0.heap.size w0 W->Calls Tryz.prog 19 #[.agg (fArg kk pp oo fo ng nn z0' z1 mo da k0 k1 k2 fr my (.slice bs n cp)).toArray] W (FW W))
 (HD: ∀W,Below w0.heap.size w0 W->Calls Tryz.prog 16 #[.agg (dA fo ng nn z0' z1 mo da k0 k1 k2).toArray] W (Bk.aV4 W)):
 Calls Tryz.prog 6 #[.agg (fArg kk pp oo fo ng nn z0' z1 mo da k0 k1 k2 fr my (.slice bs n cp)).toArray] w0 (aBs w0):=by
 refine wB fun a0 hw=>?_;refine ofA kk pp oo fo nn z0' z1 mo da k0 k1 k2 fr my ng bs n cp hst hw ?_;intro P1 a1 w1 _ hw1;obtain⟨p,q,rfl⟩:=KG hw1;show(fU 1 (aW [] sW)).wp _ _ _ _;rw[show fU 1 (aW [] sW)=.seq (.seq (aW [1,0,0] sW) (.block 0 (.seq (aW [1,0,1,0,0] sW) (.cond (.tmp 13) (.seq (aW [1,0,1,0,1,0,0] sW) (aW [1,0,1,0,1,0,1] sW)) (aW [1,0,1,0,1,1] sW))))) (aW [1,1] sW) by kernel_rfl];refine aXj (aXj ?_);refine ofB kk pp oo fo nn z0' z1 mo da k0 k1 k2 fr my ng bs n cp hst hw1 ?_;intro P2 a2 w2 _ hw2;obtain⟨p,q,rfl⟩:=KG hw2;refine wp_block (aXj ?_);have aAF:=hw2;rw[hk]at aAF;refine aXJ kk pp oo fo nn z0' z1 mo da k0 k1 k2 fr my ng bs n cp hst ⟨aAF.below,aAF.new,aAF.nd,aAF.fr,aAF.size,aAF.defs,fun e he=>aAF.val e (by
  rcases aHC.1 he with rfl|he
  . exact .tail _ (.tail _ (.head _))
  rcases aHC.1 he with rfl|he
  . exact .head _
  obtain rfl:=aL8.1 he;exact .tail _ (.head _))⟩ ?_
 intro P3 a3 w3 _ hw3;obtain⟨p,q,rfl⟩:=KG hw3;refine wp_cond_true (mQ (hw3.val _ (.tail _ (.tail _ (.head _))))) (aXj ?_);obtain⟨hd,hm⟩:=aMi (show(aDW (aW [1,0,1,0,1,0,0] sW),(aM3 (aW [1,0,1,0,1,0,0] sW)).map key)=(false,[(none,some 15,.fieldAddr 32 (.tmp 1) 3),(none,some 16,.load 28 (.tmp 15)),(none,some 17,.call ⟨.value (.func 16),#[.tmp 16],#[28]⟩),(none,some 3,.alloc 37),(none,none,.store 37 (.tmp 3) (.tmp 17))]) by kernel_rfl);obtain⟨o1,l1,e1,K1,hm⟩:=IV hm;obtain⟨o2,l2,e2,K2,hm⟩:=IV hm;obtain⟨o3,l3,e3,K3,hm⟩:=IV hm;obtain⟨o4,l4,e4,K4,hm⟩:=IV hm;obtain⟨o5,l5,e5,K5,hm⟩:=IV hm;have e6:=aRV hm;subst e6 e5 e4 e3 e2;obtain⟨g1,K1⟩:=aMi K1;obtain⟨d1,p1⟩:=aMi K1;obtain⟨g2,K2⟩:=aMi K2;obtain⟨d2,p2⟩:=aMi K2;obtain⟨g3,K3⟩:=aMi K3;obtain⟨d3,p3⟩:=aMi K3;obtain⟨g4,K4⟩:=aMi K4;obtain⟨d4,p4⟩:=aMi K4;obtain⟨g5,K5⟩:=aMi K5;obtain⟨d5,p5⟩:=aMi K5;obtain⟨b1,n1,-⟩:=BD (j:=0) hw3 rfl;have v1:=hw3.val _ (.head _);have v2:=hw3.val _ (.tail _ (.head _));have hsz:=hw3.size;dsimp only[List.getD_cons_zero,List.getD_cons_succ]at b1 v1 v2;refine UU hd fun ops=>?_;rw[e1];refine Go.Great.wpList_readTo g1 _ d1 (.pointer (some ⟨p,3,none⟩)) (Y5 p1 (mQ v1) Tryz.underlying32 rfl (by show Tryz.prog.cellsOf 28≠0;rw[aEx];decide) (by kernel_rfl)) ?_;refine aHD g2 _ (.tmp 15) p2 p 3 (vY (by rw[hsz];decide)) (dA fo ng nn z0' z1 mo da k0 k1 k2) _ (fun j v hv=>?_) Tryz.underlying28 rfl aR1 ?_
 . have hj:j<10:=(aHI.1 hv).1;have g: ∀l:List Value,dA fo ng nn z0' z1 mo da k0 k1 k2=l.take 10->l[j]? =some v:=fun l e=>by rw[e,aQS hj]at hv;exact hv
   have g:=g ((fArg kk pp oo fo ng nn z0' z1 mo da k0 k1 k2 fr my (.slice bs n cp)).drop 3) rfl;rw[aWB]at g;exact NR b1 g
 rw[d2];obtain⟨a4,ha4⟩: ∃x,x=(a3.put (some 15) (.pointer (some ⟨p,3,none⟩))).put (some 16) (.agg (dA fo ng nn z0' z1 mo da k0 k1 k2).toArray):=⟨_,rfl⟩;rw[<-ha4];have s4:a4.tmps.size=101:=by rw[ha4];simp[Act.put,hsz]
 have u4:a4.eval (.tmp 16)=.agg (dA fo ng nn z0' z1 mo da k0 k1 k2).toArray:=by
  rw[ha4];exact vY (by simp[Act.put,hsz])
 have y1:a4.tmps[1]? =some (.pointer (some ⟨p,0,none⟩)):=by rw[ha4];simp[Act.put,v1]
 have y2:a4.tmps[2]? =some (.pointer (some ⟨q,0,none⟩)):=by rw[ha4];simp[Act.put,v2]
 have y3:a4.defers=[]:=by rw[ha4];exact hw3.defs
 clear ha4;have hrun:=zL (P:=Tryz.prog) (a:=a4) (w:=w3) p3 Tryz.func16 (by kernel_rfl) rfl;rw[aXX]at hrun;have hrun:(execOp a4.eval o3).run Tryz.prog w3=.ok (.enter _ (List.toArray [a4.eval (.tmp 16)])) w3:=hrun;rw[u4]at hrun;refine tC g3 d3 hrun (HD w3 hw3.below) fun e w4 hR=>?_;obtain⟨d,hde,aU3,dg,dm,dd,sg0,sg1,m0,m1,m2,rfl,hb⟩:=hR;refine⟨_,rfl,?_⟩;refine aYC g4 _ d4 (.pointer (some ⟨w4.heap.size,0,none⟩)) (.cells zDl.toArray 37) (F5 p4 (aEP w4)) ?_;obtain⟨a5,ha5⟩: ∃x,x=(a4.put (some 17) (aV d)).put (some 3) (.pointer (some ⟨w4.heap.size,0,none⟩)):=⟨_,rfl⟩;rw[<-ha5];have s5:a5.tmps.size=101:=by rw[ha5];simp[Act.put,s4]
 have x1:a5.tmps[1]? =some (.pointer (some ⟨p,0,none⟩)):=by rw[ha5];simp[Act.put,y1]
 have x2:a5.tmps[2]? =some (.pointer (some ⟨q,0,none⟩)):=by rw[ha5];simp[Act.put,y2]
 have x3:a5.tmps[3]? =some (.pointer (some ⟨w4.heap.size,0,none⟩)):=by rw[ha5];simp[Act.put,s4]
 have x17:a5.tmps[17]? =some (aV d):=by rw[ha5];simp[Act.put,s4]
 have x9:a5.defers=[]:=by rw[ha5];exact y3
 clear ha5;refine aQJ g5 _ (.tmp 3) (.tmp 17) p5 w4.heap.size 0 (dl d).toArray (mQ x3) (mQ x17) (EW (vs:=zDl) WL) dZ (by simp[Value.oneCell']) ?_;rw[d5];show(aW [1,0,1,0,1,0,1] sW).wp _ _ _ _;have hw4:dX w0 101 [p,q,w4.heap.size] [(32,fArg kk pp oo fo ng nn z0' z1 mo da k0 k1 k2 fr my (.slice bs n cp)),(44,zFl),(37,dl d)] [(1,.pointer (some ⟨p,0,none⟩)),(2,.pointer (some ⟨q,0,none⟩)),(3,.pointer (some ⟨w4.heap.size,0,none⟩))] a5 ((w4.alloc (.cells zDl.toArray 37)).setCells w4.heap.size 0 (dl d)):=
  YR hw3 hb rfl s5 x9 fun e he=>by
   rcases aHC.1 he with rfl|he
   . exact x1
   rcases aHC.1 he with rfl|he
   . exact x2
   obtain rfl:=aL8.1 he;exact x3
 have HX:Same w0 17 #[aV d] (.int .i64 (if xX d then 1 else 0)):=fun W _=>aIn d W (by omega) (by omega) (by omega);have leaf: ∀(P':List Nat) (a':Act) (w':World) (Q:Exit->Act->World->Prop),(∀a' w',OfQ w0 .ret a' w'->Q .ret a' w')->dX w0 101 P' [(32,fArg kk pp oo fo ng nn z0' z1 mo da k0 k1 k2 fr my (.slice bs n cp)),(44,zFl),(37,dl d)] [(1,pt P' 0),(2,pt P' 1)] a' w'->
  (fU 1 (aW [1,0,1,0,1,0,1] sW)).wp Tryz.prog Q a' w':=fun P' a' w' Q hQ hw'=>by
  rw[show fU 1 (aW [1,0,1,0,1,0,1] sW)=.seq (aW [1,0,1,0,1,0,1,1,0] sW) .ret by kernel_rfl];exact aDK (s:=29) (r:=30) (by kernel_rfl) (by decide) (by decide) (by decide) (by decide) rfl rfl hw' (.head _) (.tail _ (.head _)) rfl rfl HO hQ
 refine ofD kk pp oo fo nn z0' z1 mo da k0 k1 k2 fr my _ ng bs n cp d hst HX hw4 ⟨fun hs=>⟨fun _=>⟨fun h=>?_,fun _=>?_⟩,fun _=>?_⟩,fun _=>?_⟩
 . simp only[aGw,aDE]at hs h;omega
 . intro P' a' w' _ hw';show OfQ w0 .ret a' w';exact pI (k:=2) (d:={ d with m0:=0,m1:=0,m2:=0 }) (pp:=0) (aa:=0) (lo:=0) (b:=0) (hi:=0) hw' (.tail _ (.head _)) rfl (xW (by decide) (by decide) (by show d.mo.size<=1000;omega) (by show d.dg.size<=1000;omega) (by show d.da.size<=1000;omega) (by show _<=d.sig;omega) (by show d.sig<_;omega) (aTF 0) (aTF 0) (aTF 0) (by decide) (by decide) (by decide) (by decide) (fun _=>aU3))
 . intro P' a' w' _ hw';exact leaf P' a' w' _ (fun _ _ h=>h) hw'
 intro P' a' w' _ hw';exact leaf P' a' w' _ (fun _ _ h=>h) hw'
end
end Sk
end
section
open Go.RowKit Go.Lib
namespace Sk
open Un Bk
theorem RJ{w:World}(hst:SS w):lD w:=by
 obtain⟨ρ,hs⟩:=hst (fun _=>⟨0,0,.nilIface⟩) w (aAI _ _);have look: ∀b o,Ev.aAJ Ev.hp b=some o->(Ev.Hs.mk Ev.hp 15).look [] b=some o:=fun b o h=>h;have gl:=@Ev.aQ.gl Ev.G0 _ _ _ _ _ hs;obtain⟨_,c0,_⟩:=@Ev.aQ.obj Ev.G0 _ _ _ _ _ hs 2 (.ro Ev.k2) (look _ _ (by kernel_rfl));obtain⟨_,c3,_⟩:=@Ev.aQ.obj Ev.G0 _ _ _ _ _ hs 5 (.ro Ev.k5) (look _ _ (by kernel_rfl));obtain⟨_,c13,_⟩:=@Ev.aQ.obj Ev.G0 _ _ _ _ _ hs 14 (.ro Ev.k14) (look _ _ (by kernel_rfl));obtain⟨_,c1,_⟩:=@Ev.aQ.obj Ev.G0 _ _ _ _ _ hs 1 (.ro Ev.k1) (look _ _ (by kernel_rfl));obtain⟨_,c4,_⟩:=@Ev.aQ.obj Ev.G0 _ _ _ _ _ hs 3 (.ro Ev.k3) (look _ _ (by kernel_rfl));obtain⟨_,c5,_⟩:=@Ev.aQ.obj Ev.G0 _ _ _ _ _ hs 4 (.ro Ev.k4) (look _ _ (by kernel_rfl));have l0:=gl 2 (by show _<12;decide);have l3:=gl 5 (by show _<12;decide);have l1:=gl 1 (by show _<12;decide);have l4:=gl 3 (by show _<12;decide);have l5:=gl 4 (by show _<12;decide);rw[l0.1,l0.2.1]at c0;rw[l3.1,l3.2.1]at c3;rw[l1.1,l1.2.1]at c1;rw[l4.1,l4.2.1]at c4;rw[l5.1,l5.2.1]at c5;refine⟨⟨⟨ρ.blk 14,ρ.off 14,c3 0 _ rfl,c13 0 _ rfl,c13 1 _ rfl,c13 2 _ rfl,c13 3 _ rfl,c13 4 _ rfl,c13 5 _ rfl⟩,fun i hi=>?_⟩,fun i hi=>?_,⟨_,_,c4 0 (.mp 13) rfl⟩,⟨_,_,c5 0 (.mp 12) rfl⟩⟩
 . have:i=0\/i=1\/i=2\/i=3\/i=4\/i=5\/i=6\/i=7\/i=8\/i=9\/i=10\/i=11:=by omega
   rcases this with rfl|rfl|rfl|rfl|rfl|rfl|rfl|rfl|rfl|rfl|rfl|rfl
   . exact c0 0 (.v (.int .i64 (ml 0))) rfl
   . exact c0 1 (.v (.int .i64 (ml 1))) rfl
   . exact c0 2 (.v (.int .i64 (ml 2))) rfl
   . exact c0 3 (.v (.int .i64 (ml 3))) rfl
   . exact c0 4 (.v (.int .i64 (ml 4))) rfl
   . exact c0 5 (.v (.int .i64 (ml 5))) rfl
   . exact c0 6 (.v (.int .i64 (ml 6))) rfl
   . exact c0 7 (.v (.int .i64 (ml 7))) rfl
   . exact c0 8 (.v (.int .i64 (ml 8))) rfl
   . exact c0 9 (.v (.int .i64 (ml 9))) rfl
   . exact c0 10 (.v (.int .i64 (ml 10))) rfl
   exact c0 11 (.v (.int .i64 (ml 11))) rfl
 have:i=0\/i=1\/i=2\/i=3\/i=4\/i=5\/i=6\/i=7\/i=8\/i=9\/i=10\/i=11\/i=12\/i=13\/i=14\/i=15\/i=16\/i=17\/i=18\/i=19\/i=20\/i=21\/i=22\/i=23\/i=24\/i=25\/i=26\/i=27\/i=28\/i=29\/i=30\/i=31\/i=32\/i=33\/i=34\/i=35\/i=36\/i=37\/i=38\/i=39\/i=40\/i=41:=by omega
 rcases this with rfl|rfl|rfl|rfl|rfl|rfl|rfl|rfl|rfl|rfl|rfl|rfl|rfl|rfl|rfl|rfl|rfl|rfl|rfl|rfl|rfl|rfl|rfl|rfl|rfl|rfl|rfl|rfl|rfl|rfl|rfl|rfl|rfl|rfl|rfl|rfl|rfl|rfl|rfl|rfl|rfl|rfl
 . exact c1 0 (.v (.int .i64 (qO 0))) rfl
 . exact c1 1 (.v (.int .i64 (qO 1))) rfl
 . exact c1 2 (.v (.int .i64 (qO 2))) rfl
 . exact c1 3 (.v (.int .i64 (qO 3))) rfl
 . exact c1 4 (.v (.int .i64 (qO 4))) rfl
 . exact c1 5 (.v (.int .i64 (qO 5))) rfl
 . exact c1 6 (.v (.int .i64 (qO 6))) rfl
 . exact c1 7 (.v (.int .i64 (qO 7))) rfl
 . exact c1 8 (.v (.int .i64 (qO 8))) rfl
 . exact c1 9 (.v (.int .i64 (qO 9))) rfl
 . exact c1 10 (.v (.int .i64 (qO 10))) rfl
 . exact c1 11 (.v (.int .i64 (qO 11))) rfl
 . exact c1 12 (.v (.int .i64 (qO 12))) rfl
 . exact c1 13 (.v (.int .i64 (qO 13))) rfl
 . exact c1 14 (.v (.int .i64 (qO 14))) rfl
 . exact c1 15 (.v (.int .i64 (qO 15))) rfl
 . exact c1 16 (.v (.int .i64 (qO 16))) rfl
 . exact c1 17 (.v (.int .i64 (qO 17))) rfl
 . exact c1 18 (.v (.int .i64 (qO 18))) rfl
 . exact c1 19 (.v (.int .i64 (qO 19))) rfl
 . exact c1 20 (.v (.int .i64 (qO 20))) rfl
 . exact c1 21 (.v (.int .i64 (qO 21))) rfl
 . exact c1 22 (.v (.int .i64 (qO 22))) rfl
 . exact c1 23 (.v (.int .i64 (qO 23))) rfl
 . exact c1 24 (.v (.int .i64 (qO 24))) rfl
 . exact c1 25 (.v (.int .i64 (qO 25))) rfl
 . exact c1 26 (.v (.int .i64 (qO 26))) rfl
 . exact c1 27 (.v (.int .i64 (qO 27))) rfl
 . exact c1 28 (.v (.int .i64 (qO 28))) rfl
 . exact c1 29 (.v (.int .i64 (qO 29))) rfl
 . exact c1 30 (.v (.int .i64 (qO 30))) rfl
 . exact c1 31 (.v (.int .i64 (qO 31))) rfl
 . exact c1 32 (.v (.int .i64 (qO 32))) rfl
 . exact c1 33 (.v (.int .i64 (qO 33))) rfl
 . exact c1 34 (.v (.int .i64 (qO 34))) rfl
 . exact c1 35 (.v (.int .i64 (qO 35))) rfl
 . exact c1 36 (.v (.int .i64 (qO 36))) rfl
 . exact c1 37 (.v (.int .i64 (qO 37))) rfl
 . exact c1 38 (.v (.int .i64 (qO 38))) rfl
 . exact c1 39 (.v (.int .i64 (qO 39))) rfl
 . exact c1 40 (.v (.int .i64 (qO 40))) rfl
 exact c1 41 (.v (.int .i64 (qO 41))) rfl
theorem vM{w W:World}(h:SS w)(hb:Below w.heap.size w W):SS W:=fun lv u hu=>by
 obtain⟨ρ,s⟩:=h lv u (bt hb hu)
 letI:Ev.Gh:=Ev.G0
 exact⟨ρ,s.gl,s.WJ,s.good,s.gn,s.ln,s.zW,s.sK,hu,s.lt,s.obj,fun b o q hl=>absurd (s.lt b o q) (Nat.not_lt.2 hl),fun b o q hl=>aGA (s.old b o q hl) hb.size,s.inj⟩
theorem aK7{w:World}{g o:Nat}{v:Value}(h:w.cell? ⟨g,o,none⟩=some v):g<w.heap.size:=by
 by_cases hl:g<w.heap.size
 . exact hl
 simp[World.cell?,aKi (show w.heap.size<=g by omega)]at h
theorem aDM{w:World}(h:SS w):0<w.heap.size/\ ∃x,w.heap[0]? =some x:=by
 obtain⟨t,p,e⟩:=(RJ h).syn;have:=aK7 e;have h0:0<w.heap.size:=by omega
 exact⟨h0,_,aMl h0⟩
end Sk
end
section
open Go.RowKit Go.Lib
namespace Sk
open Un (ba bt ri rb)
open Bk (Dt aV lD)
open Ev (bM eU hp O8 dX Lf zN aW fU)
theorem LW{w W:World}{bs:Option Addr}{n:Nat}(h:O4 w bs n)(hb:Below w.heap.size w W):O4 W bs n:=fun hn=>by
 obtain⟨g,o,b,e,hg,⟨x,hx⟩,hc,hB⟩:=h hn;exact⟨g,o,b,e,by have:=hb.size;omega,⟨x,(hb.block g hg).trans hx⟩,fun i hi=>(hb.cell (p:=⟨g,_,none⟩) hg).trans (hc i hi),hB⟩
structure FIn(kk pp oo fo nn z0 z1 mo da k0 k1 k2 fr my:Int)(bs:Option Addr)(n:Nat)(w:World):Prop where
 pp:0<=pp/\pp<256
 fo:0<=fo/\fo<256
 nn:0<=nn/\nn<65536
 z0:0<=z0/\z0<256
 z1:0<=z1/\z1<256
 mo:0<=mo/\mo<256
 da:0<=da/\da<256
 k0:0<=k0/\k0<256
 k1:0<=k1/\k1<256
 k2:0<=k2/\k2<256
 fr: -32768<=fr/\fr<32768
 my:0<=my/\my<256
 sl:O4 w bs n
section
variable{kk pp oo fo nn z0' z1 mo da k0 k1 k2 fr my:Int}{ng:Bool}{bs:Option Addr}{n cp:Nat}{w0:World}
theorem zO(hst:SS w0)(h:FIn kk pp oo fo nn z0' z1 mo da k0 k1 k2 fr my bs n w0):
 Calls Tryz.prog 6 #[.agg (fArg kk pp oo fo ng nn z0' z1 mo da k0 k1 k2 fr my (.slice bs n cp)).toArray] w0 (aBs w0):=by
 have HO: ∀W,Below w0.heap.size w0 W->Calls Tryz.prog 19 #[.agg (fArg kk pp oo fo ng nn z0' z1 mo da k0 k1 k2 fr my (.slice bs n cp)).toArray] W (FW W):=fun W hb=>
  one_any (vM hst hb) (LW h.sl hb) h.fr.1 h.fr.2 h.my.1 h.my.2 (aDM (vM hst hb)).1 (aDM (vM hst hb)).2
 by_cases c1:Int.tmod kk 5=1
 . refine aRq hst c1 HO fun W _=>?_;obtain⟨a0,rfl⟩:=aOC h.fo.1;obtain⟨a1,rfl⟩:=aOC h.nn.1;obtain⟨a2,rfl⟩:=aOC h.z0.1;obtain⟨a3,rfl⟩:=aOC h.z1.1;obtain⟨a4,rfl⟩:=aOC h.mo.1;obtain⟨a5,rfl⟩:=aOC h.da.1;obtain⟨a6,rfl⟩:=aOC h.k0.1;obtain⟨a7,rfl⟩:=aOC h.k1.1;obtain⟨a8,rfl⟩:=aOC h.k2.1;exact Bk.aOs a0 ng a1 a2 a3 a4 a5 a6 a7 a8 W (by have:=h.fo.2;omega) (by have:=h.nn.2;omega) (by have:=h.z0.2;omega) (by have:=h.z1.2;omega) (by have:=h.mo.2;omega) (by have:=h.da.2;omega) (by have:=h.k0.2;omega) (by have:=h.k1.2;omega) (by have:=h.k2.2;omega)
 by_cases c2:Int.tmod kk 5=2
 . exact aRp hst c2 h.fr.1 h.fr.2 h.my.1 h.my.2 h.pp.1 h.pp.2
 by_cases c3:Int.tmod kk 5=3
 . exact aJt hst c3 h.fr.1 h.fr.2
 by_cases c4:Int.tmod kk 5=4
 . exact aNy hst c4 h.fr.1 h.fr.2
 exact aNx hst c1 c2 c3 c4 HO
end
end Sk
end
section
open Go.RowKit Go.Lib
namespace Sk
open Ev (bM DT LG eU tb2 fD hp tb0 aP kM vG kG iU mJ qF PD GL oN aU AV DW vH dS aB aC eF mD mX dX Lf zN eY aW fU)
def aVY:mX:=(.leaf .normal [(1,.s (kG 16)),(2,.p 0),(4,.s qf)] [(32,[(qu 0),(qu 1),(qu 2),(qu 3),(qb 4),(qF 5),(qu 6),(qu 7),(qu 8),(qu 9),(qu 10),(qu 11),(qu 12),(kG 13),(qu 14),(oN 15)])])
theorem aRn(l:Value):aVY.ok tb2 l [] [] hp 60 LG 123 60 1 (aW [] mW) [(0,.s (.agg [(qu 0),(qu 1),(qu 2),(qu 3),(qb 4),(qF 5),(qu 6),(qu 7),(qu 8),(qu 9),(qu 10),(qu 11),(qu 12),(kG 13),(qu 14),(oN 15)])),(1,.s ((kG 16)))] [] []=true:=by kernel_rfl
theorem nrA(kk pp oo fo nn z0 z1 mo da k0 k1 k2 fr my no:Int)(ng:Bool)(bs:Option Addr)(n cp:Nat){w0 w:World}{P:List Nat}{a0:Act}{Q:Exit->Act->World->Prop}(hst:SS w0) (hw:dX w0 123 P [] [(0,(.agg #[(.int .u8 kk),(.int .u8 pp),(.int .u8 oo),(.int .u8 fo),(.bool ng),(.int .u16 nn),(.int .u8 z0),(.int .u8 z1),(.int .u8 mo),(.int .u8 da),(.int .u8 k0),(.int .u8 k1),(.int .u8 k2),(.int .i16 fr),(.int .u8 my),(.slice bs n cp)])),(1,(.int .i16 no))] a0 w)(HP:Lf w0 123 P [(32,[(.int .u8 kk),(.int .u8 pp),(.int .u8 oo),(.int .u8 fo),(.bool ng),(.int .u16 nn),(.int .u8 z0),(.int .u8 z1),(.int .u8 mo),(.int .u8 da),(.int .u8 k0),(.int .u8 k1),(.int .u8 k2),(.int .i16 fr),(.int .u8 my),(.slice bs n cp)])] (fun P=>[(1,(.int .i16 no)),(2,.pointer (some ⟨P.getD 0 0,0,none⟩)),(4,(.bool false))]) (zN Tryz.prog Q 1 (aW [] mW) .normal)):(aW [] mW).wp Tryz.prog Q a0 w:=
 eY (aRn (.agg #[.int .u8 kk,.int .u8 pp,.int .u8 oo,.int .u8 fo,.bool ng,.int .u16 nn,.int .u8 z0,.int .u8 z1,.int .u8 mo,.int .u8 da,.int .u8 k0,.int .u8 k1,.int .u8 k2,.int .i16 fr,.int .u8 my,(.slice bs n cp),.int .i16 no])) (fD w0) hst .nil .nil hw HP (by kernel_rfl)
end Sk
end
section
open Go.RowKit Go.Lib
namespace Sk
open Ev (eU aO hp AV vH LG VY wH P8 AU)
def g6:AV:=.v (.string ⟨#[48,48,48,88]⟩)
def g1:AV:=.v (.int .i64 0)
def g0:AV:=.agg [(.v (.bool false)),(.v (.bool false)),g6,g1,g1,(.v (.string ⟨#[]⟩)),(.v (.string ⟨#[]⟩)),(.v (.int .u8 0)),(.v (.int .u8 0)),(.v (.int .u8 0))]
def g2:AV:=.v (.int .i8 0)
def g3:AV:=.v (.int .i64 1)
def g15:AV:=.v (.int .i64 366)
def g18:AV:=.v (.int .i64 730)
def g14:AV:=.v (.bool true)
def g4:AV:=.aK [(.agg [g2,g15,g2,g18]),g14]
def g5:AV:=.v (.int .i64 (-1))
def g7:AV:=.v (.int .i64 31)
def g8:AV:=.v (.int .i64 2)
def g9:AV:=.aK [(.agg [g2,g1,g2,g1]),(.v (.bool false))]
def g10:AV:=.aK [(.agg [g3,g1,g1]),g14,g1]
def g11:AV:=.agg [g2,(.v (.int .i64 3288)),g2,(.v (.int .i64 3652))]
def g12:AV:=.v (.int .i64 12)
def g13:AV:=.v (.int .i64 4)
def g16:AV:=.v (.int .i64 3)
def g17:AV:=.agg [g2,(.v (.int .i64 731)),g2,(.v (.int .i64 1095))]
def g19:AV:=.v (.int .i64 91)
def g20:AV:=.v (.int .i64 9)
def g21:AV:=.v (.int .i64 400)
def g22:AV:=.agg [(.v (.int .i8 1)),g1]
def g23:AV:=.aK [g1,g1]
def g24:AV:=.v (.int .i64 30)
def g25:AV:=.agg [g2,g1,g2,(.v (.int .i64 365))]
def g26:AV:=.v (.int .i64 5)
def g27:AV:=.agg [g2,g1]
def g28:AV:=.v (.int .i64 367)
def g29:AV:=.v (.int .i64 364)
def g30:AV:=.agg [g1,g1,g1]
def g31:AV:=.aK [g3,g1]
def g32:AV:=.aK [(.agg [g2,g19,g2,(.v (.int .i64 120))]),g1]
def g33:AV:=.agg [g2,g7]
def aCM:List vH:=([([g27,g27],g1),([g33,g22],g5),([g33,g33],g1),([(.agg [g2,(.v (.int .i64 59))]),g22],g5),([g27,g33],g5),([(.agg [g2,(.v (.int .i64 60))]),g33],g3),([(.agg [g2,(.v (.int .i64 90))]),g22],g5),([(.agg [(.v (.int .i8 (-1))),g1]),(.agg [g2,g26])],g5),([(.agg [g2,g26]),(.agg [g2,g26])],g1),([g27,(.agg [g2,g3])],g5),([(.agg [g2,g16]),(.agg [g2,g13])],g5),([g27,(.agg [g2,g16])],g5),([(.agg [g2,g3]),(.agg [g2,g13])],g5),([(.agg [g2,g16]),g27],g3),([(.agg [g2,g16]),(.agg [g2,g3])],g3),([g27,g22],g5)].map fun e:List AV × AV=>(78,e))++[(51,[g0],g1)]++([([g6,g1],g23),([g6,g20],(.aK [g20,g1])),([g6,g3],g31),([g6,g8],(.aK [g8,g1]))].map fun e:List AV × AV=>(160,e))++([([g1],g1),([g3],g3),([g20],g16),([(.v (.int .i64 10))],g16),([(.v (.int .i64 201))],(.v (.int .i64 49))),([(.v (.int .i64 101))],(.v (.int .i64 25))),([(.v (.int .i64 51))],(.v (.int .i64 13))),([(.v (.int .i64 26))],(.v (.int .i64 7))),([(.v (.int .i64 13))],g13),([(.v (.int .i64 7))],g8),([g13],g3),([g8],g3),([g16],g3),([(.v (.int .i64 301))],(.v (.int .i64 73))),([(.v (.int .i64 351))],(.v (.int .i64 85))),([(.v (.int .i64 376))],g19),([(.v (.int .i64 389))],(.v (.int .i64 95))),([(.v (.int .i64 395))],(.v (.int .i64 96))),([(.v (.int .i64 398))],(.v (.int .i64 97))),([g21],(.v (.int .i64 97))),([(.v (.int .i64 399))],(.v (.int .i64 97))),([g5],g1)].map fun e:List AV × AV=>(205,e))++([([g6,(.v (.int .i64 9223372036854775807))],(.aK [g20,g1])),([g6,g3],g31),([g6,g5],(.aK [g1,(.v (.int .i64 16))])),([g6,g1],g23)].map fun e:List AV × AV=>(161,e))
theorem aYY:aCM.all (VY eU .nilIface hp LG 100 ([]))=true:=by kernel_rfl
def aGg:List vH:=([([(.agg [g2,g1,g2,g1])],g1),([(.agg [g2,g7,(.v (.int .i8 1)),g1])],g1),([(.agg [(.v (.int .i8 (-1))),g1,g2,g26])],g1),([(.agg [g2,g26,g2,g26])],g1),([(.agg [g2,g1,g2,g3])],g1),([(.agg [g2,g16,g2,g13])],g1),([(.agg [g2,g1,(.v (.int .i8 1)),g1])],g1)].map fun e:List AV × AV=>(49,e))++([([g0,g30],(.aK [g30,g14,g1])),([g0,(.agg [g20,g1,g1])],(.aK [(.agg [g20,g1,g1]),g14,g1])),([g0,(.agg [g3,g1,g1])],g10),([g0,(.agg [g8,g1,g1])],(.aK [(.agg [g8,g1,g1]),g14,g1]))].map fun e:List AV × AV=>(291,e))++([([g21],g31),([g15],g31),([g28],g31),([g18],g31),([g5],(.aK [g5,g1])),([g29],g23),([g7],g23),([g24],g23),([(.v (.int .i64 100))],g23),([g19],g23)].map fun e:List AV × AV=>(140,e))++([([g3,g8],(.aK [(.v (.int .i64 397)),g1])),([g3,g3],(.aK [g15,g1])),([g3,g12],(.aK [(.v (.int .i64 700)),g1])),([g5,g12],(.aK [(.v (.int .i64 (-31))),g1])),([g1,g12],(.aK [(.v (.int .i64 335)),g1])),([g1,g8],(.aK [g7,g1])),([g1,g3],g23),([g1,g13],(.aK [g19,g1])),([g1,g16],(.aK [(.v (.int .i64 60)),g1]))].map fun e:List AV × AV=>(157,e))++([([g0,(.agg [g3,g8,g13])],g10),([g0,(.agg [g3,g3,g3])],g10),([g0,(.agg [g3,g3,g8])],g10),([g0,(.agg [g3,g12,g7])],g10),([g0,(.agg [g5,g12,g7])],(.aK [g30,(.v (.bool false)),g1])),([g0,(.agg [g1,g12,g24])],(.aK [g30,g14,g1]))].map fun e:List AV × AV=>(287,e))
theorem aYX:aGg.all (VY eU .nilIface hp LG 100 (aCM++[]))=true:=by kernel_rfl
def aJO:List vH:=([([g0,g30],(.aK [g25,g1])),([g0,(.agg [g20,g1,g1])],(.aK [g11,g1])),([g0,(.agg [g3,g1,g1])],(.aK [(.agg [g2,g15,g2,g18]),g1])),([g0,(.agg [g8,g1,g1])],(.aK [g17,g1]))].map fun e:List AV × AV=>(290,e))++([([g21],(.aK [g3,g8,g1])),([g15],(.aK [g3,g3,g1])),([g28],(.aK [g3,g3,g1])),([g18],(.aK [g3,g12,g1])),([g5],(.aK [g5,g12,g1])),([g29],(.aK [g1,g12,g1])),([g7],(.aK [g1,g8,g1])),([g24],(.aK [g1,g3,g1])),([(.v (.int .i64 100))],(.aK [g1,g13,g1])),([g19],(.aK [g1,g13,g1]))].map fun e:List AV × AV=>(143,e))
theorem aYW:aJO.all (VY eU .nilIface hp LG 100 (aGg++(aCM++[])))=true:=by kernel_rfl
def aNH:List vH:=[(276,[g0],(.aK [g25,g14]))]++[(278,[g0],(.aK [g11,g14]))]++([([g21],(.aK [(.agg [g3,g8,g13]),g1])),([g15],(.aK [(.agg [g3,g3,g3]),g1])),([g28],(.aK [(.agg [g3,g3,g8]),g1])),([g18],(.aK [(.agg [g3,g12,g7]),g1])),([g5],(.aK [(.agg [g5,g12,g7]),g1])),([g29],(.aK [(.agg [g1,g12,g24]),g1]))].map fun e:List AV × AV=>(286,e))++([([g7,(.v (.int .u8 2))],(.aK [(.agg [g2,g7,g2,(.v (.int .i64 59))]),g1])),([g24,(.v (.int .u8 2))],(.aK [(.agg [g2,g1,g2,g24]),g1])),([(.v (.int .i64 100)),(.v (.int .u8 2))],g32),([g19,(.v (.int .u8 2))],g32)].map fun e:List AV × AV=>(85,e))
theorem aYV:aNH.all (VY eU .nilIface hp LG 100 (aJO++(aGg++(aCM++[]))))=true:=by kernel_rfl
def aRL:List vH:=([([g0,g21],g4),([g0,g15],g4),([g0,g28],g4),([g0,g18],g4),([g0,(.v (.int .i64 3289))],(.aK [g11,g14])),([g0,g5],g9),([g0,g29],(.aK [g25,g14]))].map fun e:List AV × AV=>(281,e))++([([g0,(.agg [g2,g15,g2,g18])],(.aK [g17,g14])),([g0,g11],g9)].map fun e:List AV × AV=>(284,e))
theorem aYU:aRL.all (VY eU .nilIface hp LG 100 (aNH++(aJO++(aGg++(aCM++[])))))=true:=by kernel_rfl
def aUN:List vH:=([([g0,g21],g4),([g0,g5],g9)].map fun e:List AV × AV=>(275,e))++([([g0,g15],g4),([g0,g28],(.aK [g17,g14])),([g0,(.v (.int .i64 3289))],g9)].map fun e:List AV × AV=>(277,e))++([([g0,g18],g4),([g0,g29],g9)].map fun e:List AV × AV=>(280,e))
theorem aYT:aUN.all (VY eU .nilIface hp LG 100 (aRL++(aNH++(aJO++(aGg++(aCM++[]))))))=true:=by kernel_rfl
theorem cLv:[(9,[],AV.v (.bool true))].all (VY eU .nilIface hp LG 100 (aUN++(aRL++(aNH++(aJO++(aGg++(aCM++[])))))))=true:=by kernel_rfl
theorem aCP{w0:World}(hst:SS w0):Same w0 9 #[] (.bool true):=
 (wH (l:=.nilIface) (aO w0) hst (by rfl) (wH (aO w0) hst (by rfl) (wH (aO w0) hst (by rfl) (wH (aO w0) hst (by rfl) (wH (aO w0) hst (by rfl) (wH (aO w0) hst (by rfl) (wH (aO w0) hst (by rfl) (fun e he=>by cases he) aYY) aYX) aYW) aYV) aYU) aYT) cLv _ (aU0 _ (aHB ..))).2
end Sk
end
section
open Go.RowKit Go.Lib
namespace Sk
open Un (ba bt ri rb)
open Bk (Dt aV lD)
open Ev (bM eU hp O8 dX Lf zN aW fU)
section
variable{kk pp oo fo nn z0' z1 mo da k0 k1 k2 fr my no:Int}{ng:Bool}{bs:Option Addr}{n cp:Nat}{w0:World}
abbrev NrQ(w0:World):Exit->Act->World->Prop:=bodyPost Tryz.prog Tryz.f3 fun e w'=>e=.returned (.bool true)/\Below w0.heap.size w0 w'
theorem aJD{v u:Value}{w0:World}(h: ∀a0,dX w0 123 [] [] [(0,v),(1,u)] a0 w0->mW.wp Tryz.prog (NrQ w0) a0 w0):Calls Tryz.prog 3 #[v,u] w0 fun e w'=>e=.returned (.bool true)/\Below w0.heap.size w0 w':=by
 refine calls_of_wp Tryz.func3 (show _=some mW by kernel_rfl) (h _ ⟨aAI _ _,fun p q=>(aMf q).elim,aXe,⟨rfl,fun j p e q=>by simp at q⟩,?_,rfl,fun e he=>?_⟩)
 . simp[Tryz.ntmps3]
 rcases aHC.1 he with rfl|he
 . simp
 obtain rfl:=aL8.1 he;simp
theorem aHK(w:World):(zeroValue 44).run Tryz.prog w=.ok (.agg zFl.toArray) w:=Tryz.zeroValue44 w
theorem aRx(hst:SS w0)(h:FIn kk pp oo fo nn z0' z1 mo da k0 k1 k2 fr my bs n w0)(hno: -32768<=no/\no<32768):
 Calls Tryz.prog 3 #[.agg (fArg kk pp oo fo ng nn z0' z1 mo da k0 k1 k2 fr my (.slice bs n cp)).toArray,.int .i16 no] w0 fun e w'=>e=.returned (.bool true)/\Below w0.heap.size w0 w':=by
 refine aJD fun a0 hw=>?_;refine nrA kk pp oo fo nn z0' z1 mo da k0 k1 k2 fr my no ng bs n cp hst hw ?_;intro P3 a3 w3 _ hw3;show(fU 1 (aW [] mW)).wp _ _ _ _;rw[show fU 1 (aW [] mW)=.seq (aW [1,0] mW) (aW [1,1] mW) by kernel_rfl];refine aXj ?_;obtain⟨hd,hm⟩:=aMi (show(aDW (aW [1,0] mW),(aM3 (aW [1,0] mW)).map key)=(false,[(none,some 18,.load 32 (.tmp 2)),(none,some 19,.call ⟨.value (.func 6),#[.tmp 18],#[32]⟩),(none,some 5,.alloc 44),(none,none,.store 44 (.tmp 5) (.tmp 19))]) by kernel_rfl);obtain⟨o1,l1,e1,K1,hm⟩:=IV hm;obtain⟨o2,l2,e2,K2,hm⟩:=IV hm;obtain⟨o3,l3,e3,K3,hm⟩:=IV hm;obtain⟨o4,l4,e4,K4,hm⟩:=IV hm;have e6:=aRV hm;subst e6 e4 e3 e2;obtain⟨g1,K1⟩:=aMi K1;obtain⟨d1,p1⟩:=aMi K1;obtain⟨g2,K2⟩:=aMi K2;obtain⟨d2,p2⟩:=aMi K2;obtain⟨g3,K3⟩:=aMi K3;obtain⟨d3,p3⟩:=aMi K3;obtain⟨g4,K4⟩:=aMi K4;obtain⟨d4,p4⟩:=aMi K4;obtain⟨b1,n1,-⟩:=BD (j:=0) hw3 rfl;have v0:=hw3.val _ (.head _);have v1:=hw3.val _ (.tail _ (.head _));have v2:=hw3.val _ (.tail _ (.tail _ (.head _)));have hsz:=hw3.size;dsimp only at b1 v0 v1 v2;refine UU hd fun ops=>?_;rw[e1];refine aHD g1 _ (.tmp 2) p1 _ 0 (mQ v1) (fArg kk pp oo fo ng nn z0' z1 mo da k0 k1 k2 fr my (.slice bs n cp)) _ (EX b1) Tryz.underlying32 rfl aKb ?_;rw[d1];obtain⟨X,hX⟩: ∃X,X=Value.agg (fArg kk pp oo fo ng nn z0' z1 mo da k0 k1 k2 fr my (.slice bs n cp)).toArray:=⟨_,rfl⟩;rw[<-hX];have s4:(a3.put (some 18) X).tmps.size=123:=by simp[Act.put,hsz]
 have y2:(a3.put (some 18) X).tmps[4]? =some (.bool false):=by simp[Act.put,v2]
 have y1:(a3.put (some 18) X).tmps[1]? =some (.int .i16 no):=by simp[Act.put,v0]
 have hrun:=zL (P:=Tryz.prog) (a:=a3.put (some 18) X) (w:=w3) p2 Tryz.func6 (by kernel_rfl) rfl;rw[aXX]at hrun;have hrun:(execOp (a3.put (some 18) X).eval o2).run Tryz.prog w3=.ok (.enter _ (List.toArray [(a3.put (some 18) X).eval (.tmp 18)])) w3:=hrun;rw[vY (by rw[hsz];decide),hX]at hrun;rw[hX]at s4 y2 y1 ⊢;have h3:FIn kk pp oo fo nn z0' z1 mo da k0 k1 k2 fr my bs n w3:=⟨h.pp,h.fo,h.nn,h.z0,h.z1,h.mo,h.da,h.k0,h.k1,h.k2,h.fr,h.my,LW h.sl hw3.below⟩;refine tC g2 d2 hrun (zO (ng:=ng) (cp:=cp) (vM hst hw3.below) h3) fun e w4 hR=>?_;obtain⟨k,bs',n',cp',f,d,p,a,lo,b,hi,rfl,hb,F⟩:=hR;refine⟨_,rfl,?_⟩;refine aYC g3 _ d3 (.pointer (some ⟨w4.heap.size,0,none⟩)) (.cells zFl.toArray 44) (F5 p3 (aHK w4)) ?_;obtain⟨a4,ha4⟩: ∃x,x=a3.put (some 18) (Value.agg (fArg kk pp oo fo ng nn z0' z1 mo da k0 k1 k2 fr my (.slice bs n cp)).toArray):=⟨_,rfl⟩;rw[<-ha4]at s4 y2 y1 ⊢;have y3:a4.defers=[]:=by rw[ha4];exact hw3.defs
 clear ha4;obtain⟨a5,ha5⟩: ∃x,x=(a4.put (some 19) (fam k (.slice bs' n' cp') d p a lo b hi)).put (some 5) (.pointer (some ⟨w4.heap.size,0,none⟩)):=⟨_,rfl⟩;rw[<-ha5];have s5:a5.tmps.size=123:=by rw[ha5];simp[Act.put,s4]
 have x2:a5.tmps[4]? =some (.bool false):=by rw[ha5];simp[Act.put,y2]
 have x1:a5.tmps[1]? =some (.int .i16 no):=by rw[ha5];simp[Act.put,y1]
 have x3:a5.tmps[5]? =some (.pointer (some ⟨w4.heap.size,0,none⟩)):=by rw[ha5];simp[Act.put,s4]
 have x19:a5.tmps[19]? =some (fam k (.slice bs' n' cp') d p a lo b hi):=by rw[ha5];simp[Act.put,s4]
 have x9:a5.defers=[]:=by rw[ha5];exact y3
 clear ha5;refine aQJ g4 _ (.tmp 5) (.tmp 19) p4 w4.heap.size 0 (lF k (.slice bs' n' cp') d p a lo b hi).toArray (mQ x3) (mQ x19) (EW (vs:=zFl) WL) NH (aJ4 k bs' n' cp' d p a lo b hi) ?_;rw[d4];show(aW [1,1] mW).wp _ _ _ _;have hs4:SS w4:=vM hst (bt hw3.below hb);have hw4:dX w4 123 [w4.heap.size] [(44,lF k (.slice bs' n' cp') d p a lo b hi)] [(4,.bool false),(1,.int .i16 no),(5,.pointer (some ⟨w4.heap.size,0,none⟩))] a5 ((w4.alloc (.cells zFl.toArray 44)).setCells w4.heap.size 0 (lF k (.slice bs' n' cp') d p a lo b hi)):=
  YR (P:=[]) (F:=[]) (S:=[]) (a:=a5) (w:=w4) ⟨aAI _ _,fun p q=>(aMf q).elim,aXe,⟨rfl,fun j p e q=>by simp at q⟩,s5,x9,fun e he=>by cases he⟩ (aAI _ _) rfl s5 x9 fun e he=>by
   rcases aHC.1 he with rfl|he
   . exact x2
   rcases aHC.1 he with rfl|he
   . exact x1
   obtain rfl:=aL8.1 he;exact x3
 refine aRv hs4 (RJ hs4) F (aCP hs4) hw4 fun P' F' a' w' hw'=>?_;refine aHE (v:=.bool true) ?_ hw'.defs ⟨rfl,bt (bt hw3.below hb) hw'.below⟩;have:=hw'.val _ (.head _);dsimp only at this;simp[results,Tryz.results3,this]
end
end Sk
end
section
open Go.ChangeShapes Go.WideShapes Go.ChangeAt Go.RowKit Go.Lib
namespace Sk
open Bk (Dt aV)
section
variable{H:Type}{enc:TypeId × Value->H}{w:World}{base:Nat}{spare:Nat->Bool}{held:Bool}
theorem aA9:Tryz.prog.cellsOf 26=3:=by kernel_rfl
theorem aDj:Tryz.prog.cellsOf 4=1:=by kernel_rfl
theorem sS:Tryz.prog.cellsOf 5=1:=by kernel_rfl
theorem b8{x:Int}(h:(Lit.int .u8 x).wf=true):0<=x/\x<256:=by
 simp[Lit.wf,IntKind.min,IntKind.max,IntKind.signed,IntKind.bits]at h;omega
theorem cell_lt{w:World}{a:Addr}{v:Value}(h:w.cell? a=some v):a.block<w.heap.size:=by
 unfold World.cell? at h
 by_cases hl:a.block<w.heap.size
 . exact hl
 exfalso;have:w.heap[a.block]? =none:=aKi (by omega);simp[this]at h
end
end Sk
end
section
open Go.ChangeShapes Go.WideShapes Go.ChangeAt Go.RowKit Go.Lib
namespace Sk
open Bk (Dt aV)
section
variable{H:Type}{enc:TypeId × Value->H}{w:World}{base:Nat}{spare:Nat->Bool}{held:Bool}
theorem aZg{x:Int}(h:(Lit.int .u16 x).wf=true):0<=x/\x<65536:=by
 simp[Lit.wf,IntKind.min,IntKind.max,IntKind.signed,IntKind.bits]at h;omega
theorem aVI{x:Int}(h:(Lit.int .i16 x).wf=true): -32768<=x/\x<32768:=by
 simp[Lit.wf,IntKind.min,IntKind.max,IntKind.signed,IntKind.bits]at h;omega
theorem YK{P:Program}{t e:TypeId}{fuel:Nat}{c0 c1:Value}{x:DataW H × List MemPlace}(ht:P.underlying t=some (.array 2 e))(hce:P.cellsOf e=1)
 (h:DataW.trod enc P w base spare held fuel t [c0,c1]=some x): ∃y0 y1 n,DataW.trod enc P w base spare held n e [c0]=some y0/\DataW.trod enc P w base spare held n e [c1]=some y1:=by
 obtain⟨xs,n,_,rfl,_,hlen,hf⟩:=DataW.trod_array ht h
 match xs,hlen with
 |[y0,y1],_=>exact⟨y0,y1,n,by simpa[hce]using hf 0 (by decide),by simpa[hce]using hf 1 (by decide)⟩
theorem UW{P:Program}{t:TypeId}{f0 f1 f2 f3 f4 f5 f6:Field}{fuel:Nat}{cs:List Value}{x:DataW H × List MemPlace}(ht:P.underlying t=some (.struct #[f0,f1,f2,f3,f4,f5,f6]))(h:DataW.trod enc P w base spare held fuel t cs=some x):
 ∃(y0 y1 y2 y3 y4 y5 y6:DataW H × List MemPlace) (n:Nat),DataW.trod enc P w base spare held n f0.type ((cs.drop f0.offset).take (P.cellsOf f0.type))=some y0/\
  DataW.trod enc P w base spare held n f1.type ((cs.drop f1.offset).take (P.cellsOf f1.type))=some y1/\DataW.trod enc P w base spare held n f2.type ((cs.drop f2.offset).take (P.cellsOf f2.type))=some y2/\
  DataW.trod enc P w base spare held n f3.type ((cs.drop f3.offset).take (P.cellsOf f3.type))=some y3/\DataW.trod enc P w base spare held n f4.type ((cs.drop f4.offset).take (P.cellsOf f4.type))=some y4/\
  DataW.trod enc P w base spare held n f5.type ((cs.drop f5.offset).take (P.cellsOf f5.type))=some y5/\DataW.trod enc P w base spare held n f6.type ((cs.drop f6.offset).take (P.cellsOf f6.type))=some y6:=by
 obtain⟨xs,n,_,rfl,hl,hlen,hf⟩:=DataW.trod_struct ht h
 match xs,hlen with
 |[y0,y1,y2,y3,y4,y5,y6],_=>exact⟨y0,y1,y2,y3,y4,y5,y6,n,by simpa using hf 0 f0 rfl,by simpa using hf 1 f1 rfl,by simpa using hf 2 f2 rfl,by simpa using hf 3 f3 rfl,by simpa using hf 4 f4 rfl,by simpa using hf 5 f5 rfl,by simpa using hf 6 f6 rfl⟩
theorem aOv:Tryz.prog.cellsOf 32=16:=by kernel_rfl
theorem aOu:Tryz.prog.cellsOf 25=5:=by kernel_rfl
theorem OH:Tryz.prog.cellsOf 23=2:=by kernel_rfl
theorem aGW:Tryz.prog.cellsOf 22=1:=by kernel_rfl
theorem aGY:Tryz.prog.cellsOf 29=1:=by kernel_rfl
theorem aGX:Tryz.prog.cellsOf 30=1:=by kernel_rfl
theorem aQQ{fuel:Nat}{c0 c1 c2 c3 c4 c5 c6 c7 c8 c9:Value}{x:DataW H × List MemPlace}(hf:DataW.trod enc Tryz.prog w base spare held fuel 28 [c0,c1,c2,c3,c4,c5,c6,c7,c8,c9]=some x):
 ∃(f:Int) (neg:Bool) (n z0 z1 mo da k0 k1 k2:Int),c0=.int .u8 f/\c1=.bool neg/\c2=.int .u16 n/\c3=.int .u8 z0/\c4=.int .u8 z1/\c5=.int .u8 mo/\c6=.int .u8 da/\c7=.int .u8 k0/\c8=.int .u8 k1/\c9=.int .u8 k2/\
  (0<=f/\f<256)/\(0<=n/\n<65536)/\(0<=z0/\z0<256)/\(0<=z1/\z1<256)/\(0<=mo/\mo<256)/\(0<=da/\da<256)/\(0<=k0/\k0<256)/\(0<=k1/\k1<256)/\(0<=k2/\k2<256):=by
 obtain⟨y0,y1,y2,y3,n,hx,_,h0,h1,h2,h3⟩:=aY4 Tryz.underlying28 hf;rw[aOu]at h0;rw[sS]at h1 h2;rw[aA9]at h3;obtain⟨i5,e5,_,w5⟩:=aNY Tryz.underlying5 h1;obtain⟨i6,e6,_,w6⟩:=aNY Tryz.underlying5 h2;obtain⟨z0,z1,z2,z3,n2,_,_,g0,g1,g2,g3⟩:=aY4 Tryz.underlying25 h0;rw[sS]at g0;rw[aDj]at g1;rw[aGW]at g2;rw[OH]at g3;obtain⟨i0,e0,_,w0⟩:=aNY Tryz.underlying5 g0;obtain⟨b1,e1,_⟩:=DataW.trod_bool Tryz.underlying4 g1;obtain⟨i2,e2,_,w2⟩:=aNY Tryz.underlying22 g2;obtain⟨v0,v1,n4,j0,j1⟩:=YK (c0:=c3) (c1:=c4) Tryz.underlying23 sS g3;obtain⟨i3,e3,_,w3⟩:=aNY Tryz.underlying5 j0;obtain⟨i4,e4,_,w4⟩:=aNY Tryz.underlying5 j1;obtain⟨u0,u1,u2,n3,_,k0,k1,k2⟩:=trod_array3 (c0:=c7) (c1:=c8) (c2:=c9) Tryz.underlying26 sS h3;obtain⟨i7,e7,_,w7⟩:=aNY Tryz.underlying5 k0;obtain⟨i8,e8,_,w8⟩:=aNY Tryz.underlying5 k1;obtain⟨i9,e9,_,w9⟩:=aNY Tryz.underlying5 k2;exact⟨i0,b1,i2,i3,i4,i5,i6,i7,i8,i9,by simpa using e0,by simpa using e1,by simpa using e2,by simpa using e3,by simpa using e4,by simpa using e5,by simpa using e6,by simpa using e7,by simpa using e8,by simpa using e9,b8 w0,aZg w2,b8 w3,b8 w4,b8 w5,b8 w6,b8 w7,b8 w8,b8 w9⟩
theorem aEZ{fuel:Nat}{c0 c1:Value}{x:DataW H × List MemPlace}(h:DataW.trod enc Tryz.prog w base spare held fuel 23 [c0,c1]=some x): ∃p q:Int,c0=.int .u8 p/\c1=.int .u8 q/\(0<=p/\p<256)/\(0<=q/\q<256):=by
 obtain⟨v0,v1,n4,j0,j1⟩:=YK Tryz.underlying23 sS h;obtain⟨i3,e3,_,w3⟩:=aNY Tryz.underlying5 j0;obtain⟨i4,e4,_,w4⟩:=aNY Tryz.underlying5 j1;exact⟨i3,i4,by simpa using e3,by simpa using e4,b8 w3,b8 w4⟩
theorem aBK{fuel:Nat}{c:Value}{x:DataW H × List MemPlace}(h:DataW.trod enc Tryz.prog w base spare held fuel 30 [c]=some x):
 ∃bs n cp,c=.slice bs n cp/\O4 w bs n:=by
 rcases Go.Deep.open_slice Tryz.underlying30 h with⟨h0,_⟩|⟨a,len,cap,m,n,D,Pl,h0,hb,hl,hm,hmm,_,hx⟩
 . simp at h0;exact⟨none,0,0,h0,fun hn=>absurd hn (by omega)⟩
 simp at h0;rw[OH]at hx;refine⟨some a,len,cap,h0,fun hn=>?_⟩;obtain⟨cs2,q1,q2⟩:=hx 0 (by rw[hmm];split<;>omega);obtain⟨_,qlen,qc⟩:=aWi q1;have q0:=qc 0 (by decide);obtain⟨g,o,spot⟩:=a;have hs:spot=none:=by
  match cs2,qlen with
  |[d0,d1],_=>simpa[Addr.add]using World.cell?_spot q0
 subst hs;have key: ∀i,∃pq:Int × Int,(i<len->w.cell? ⟨g,o+i * 2,none⟩=some (.int .u8 pq.1)/\w.cell? ⟨g,o+i * 2+1,none⟩=some (.int .u8 pq.2))/\(0<=pq.1/\pq.1<256)/\(0<=pq.2/\pq.2<256):=by
  intro i
  by_cases hi:i<len
  . obtain⟨cs,h1,h2⟩:=hx i (by rw[hmm];split<;>omega);obtain⟨_,hlen,hc⟩:=aWi h1
    match cs,hlen with
    |[c0,c1],_=>
     obtain⟨p,q,rfl,rfl,hp,hq⟩:=aEZ h2;have g0:=hc 0 (by decide);have g1:=hc 1 (by decide);simp only[List.getElem?_cons_zero,aYy]at g0 g1;rw[Go.Deep.add_add]at g0 g1;rw[add_plain]at g0 g1;exact⟨(p,q),fun _=>⟨g0,g1⟩,hp,hq⟩
  exact⟨(0,0),fun h=>absurd h hi,by decide,by decide⟩
 obtain⟨ch,hch⟩:=Classical.axiomOfChoice key;have c00:=((hch 0).1 hn).1;have hg:=cell_lt c00;refine⟨g,o,fun j=>if j % 2=0 then(ch (j / 2)).1 else(ch (j / 2)).2,rfl,hg,⟨_,aMl hg⟩,fun j hj=>?_,fun j=>?_⟩
 . have q:=(hch (j / 2)).1 (by omega);dsimp only
   by_cases c:j % 2=0
   . rw[aDk c];have:=q.1;rwa[show o+j / 2 * 2=o+j by omega]at this
   rw[aBx c];have:=q.2;rwa[show o+j / 2 * 2+1=o+j by omega]at this
 have q:=(hch (j / 2)).2;dsimp only
 split
 . exact q.1
 exact q.2
theorem aQ7{r:Reach}{b0:Nat}{v:Value}{x:DataW H}{ps:List MemPlace}(hv:Value.okWide Tryz.prog w r b0 32 v)(hd:DataW.Trod enc Tryz.prog w base spare held 32 v x ps):
 ∃(kk pp oo fo:Int) (ng:Bool) (nn z0 z1 mo da k0 k1 k2 fr my:Int) (bs:Option Addr) (n cp:Nat),v=.agg (fArg kk pp oo fo ng nn z0 z1 mo da k0 k1 k2 fr my (.slice bs n cp)).toArray/\FIn kk pp oo fo nn z0 z1 mo da k0 k1 k2 fr my bs n w:=by
 obtain⟨cs,rfl,hsz⟩:=okWide_struct Tryz.underlying32 hv;obtain⟨fuel,hf⟩:=hd;rw[aOv]at hsz;obtain⟨l⟩:=cs
 match l,hsz with
 |[c0,c1,c2,c3,c4,c5,c6,c7,c8,c9,c10,c11,c12,c13,c14,c15],_=>
  obtain⟨y0,y1,y2,y3,y4,y5,y6,m,h0,h1,h2,h3,h4,h5,h6⟩:=UW Tryz.underlying32 hf;rw[sS]at h0 h1 h2 h5;rw[aEx]at h3;rw[aGY]at h4;rw[aGX]at h6;obtain⟨kk,e0,_,w0⟩:=aNY Tryz.underlying5 h0;obtain⟨pp,e1,_,w1⟩:=aNY Tryz.underlying5 h1;obtain⟨oo,e2,_,w2⟩:=aNY Tryz.underlying5 h2;obtain⟨fr,e4,_,w4⟩:=aNY Tryz.underlying29 h4;obtain⟨my,e5,_,w5⟩:=aNY Tryz.underlying5 h5;obtain⟨bs,n,cp,e6,hP⟩:=aBK (c:=c15) h6;obtain⟨fo,ng,nn,z0,z1,mo,da,k0,k1,k2,rfl,rfl,rfl,rfl,rfl,rfl,rfl,rfl,rfl,rfl,b0,b2,b3,b4,b5,b6,b7,b8',b9⟩:=aQQ (c0:=c3) (c1:=c4) (c2:=c5) (c3:=c6) (c4:=c7) (c5:=c8) (c6:=c9) (c7:=c10) (c8:=c11) (c9:=c12) h3;have f0:c0=.int .u8 kk:=by simpa[Value.cells]using e0
  have f1:c1=.int .u8 pp:=by simpa[Value.cells]using e1
  have f2:c2=.int .u8 oo:=by simpa[Value.cells]using e2
  have f4:c13=.int .i16 fr:=by simpa[Value.cells]using e4
  have f5:c14=.int .u8 my:=by simpa[Value.cells]using e5
  subst f0 f1 f2 f4 f5 e6;exact⟨kk,pp,oo,fo,ng,nn,z0,z1,mo,da,k0,k1,k2,fr,my,bs,n,cp,rfl,⟨b8 w1,b0,b2,b3,b4,b5,b6,b7,b8',b9,aVI w4,b8 w5,hP⟩⟩
end
end Sk
end
section
open Go.ChangeShapes Go.WideShapes Go.ChangeAt Go.RowKit
namespace Un
theorem own:ownKnob Tryz.prog.godebug=none:=by kernel_rfl
noncomputable def laidWorld(os:Os):World:=
 { World.doorLaid Tryz.prog 4000 os with heap:=(World.doorLaid Tryz.prog 4000 os).heap.modify 6 fun
  | .cells _ t frozen=>.cells ((Go.Pinned.utf8FirstZ.map fun(n:Nat)=>Value.int .u8 n).toArray) t frozen
  |o=>o }
theorem laid_met(os:Os)(args:Array Value):laidMetH Tryz.prog Rows.seeksErrorsRow.laid ((laidWorld os).forCall (fun _ _=>0) ⟨#[],args,[]⟩).memory:=
 laidMetH_of_parts3 (fuel:=8) (laidMet_of_run' 8 (by kernel_rfl) (by kernel_rfl)) (by kernel_rfl) (by kernel_rfl)
end Un
end
section
open Go.ChangeShapes Go.WideShapes Go.ChangeAt Go.RowKit
theorem aXP:Tryz.prog.funcs.toList.all (fun f=> !f.goes)=true:=by kernel_rfl
theorem aN1{P:Program}(h:P.funcs.toList.all (fun f=> !f.goes)=true)(f:FuncId):P.goes f=false:=by
 have hall: ∀fn ∈ P.funcs,Func.goes fn=false:=fun fn hf=>by
  have:=aL4.1 h fn (Array.mem_toList_iff.2 hf);simpa using this
 have h1: ∀g:FuncId,(P.funcs[g]?).any Func.goes=false:=fun g=>by
  cases hg:P.funcs[g]? with
  |none=>rfl
  |some fn=>exact hall fn (aWq hg)
 have h2:P.funcs.any Func.goes=false:=by
  rw[Array.any_eq_false'];intro x hx hc;rw[hall x hx]at hc;cases hc
 unfold Program.goes;rw[h2,aTq,aWs];rw[List.any_eq_false];intro g _;rw[h1 g];exact Bool.false_ne_true
theorem aGD{P:Program}(h:P.funcs.toList.all (fun f=> !f.goes)=true)(c:OpenClaim)(hs:c.start=.entering):c.goesBy P=false:=by
 unfold OpenClaim.goesBy Program.goesAt;rw[hs];simp only[aWs];unfold Program.goesFrom
 cases P.funcNamed c.func with
 |none=>rfl
 |some f=>exact aN1 h f
namespace Facts
theorem wf:(Rows.seeksNearRow.wf (OpenSpec.ofChange (OpenSpec.ofChange Rows.seeksNearSpec).bare))=true:=by kernel_rfl
theorem laidOut:(laidOutB Tryz.pinned.checked.prog)=true:=by kernel_rfl
theorem mapsRowed:(mapsRowed Tryz.pinned.checked.prog)=true:=by kernel_rfl
theorem inPlace:(Rows.seeksNearRow.inPlace==Tryz.pinned.checked.prog.inPlace 3)=true:=by kernel_rfl
theorem unfollowed:(Rows.seeksNearRow.unfollowed==Tryz.pinned.checked.prog.unfollowed 3)=true:=by kernel_rfl
theorem recurses:(Rows.seeksNearRow.recurses==Tryz.pinned.checked.prog.recurses 3)=true:=by kernel_rfl
theorem named:(Rows.seeksNearRow.named==Tryz.pinned.checked.prog.varsNamed 3)=true:=by kernel_rfl
theorem plainKeys:(Rows.seeksNearRow.plainKeys==Tryz.pinned.checked.prog.plainKeys)=true:=by kernel_rfl
theorem stopsHeard:(Tryz.pinned.checked.prog.stopsHeard)=true:=by kernel_rfl
theorem mayEnter:(Tryz.pinned.checked.prog.mayEnter)=true:=by kernel_rfl
theorem lifts:(Rows.seeksNearRow.lifted==Tryz.pinned.checked.prog.liftsFinal)=true:=by kernel_rfl
theorem make:(Tryz.pinned.checked.prog.make==some Rows.seeksNearRow.make)=true:=by kernel_rfl
theorem bt{a b:Bool}(h:a=true)(h2:b=true):(a&&b)=true:=by rw[h,h2];rfl
theorem joined:joinedFacts Tryz.pinned.checked.prog 3 Tryz.f3 (OpenSpec.ofChange Rows.seeksNearSpec).bare Rows.seeksNearRow=true:=by
 unfold joinedFacts;exact(bt (bt (bt (bt (bt (bt (bt (bt (bt (bt (bt (bt (bt (bt (bt (bt (bt (bt (bt (bt (bt (bt (bt (bt (bt (bt (bt (bt (bt (bt (bt wf laidOut) mapsRowed) (by kernel_rfl)) (by kernel_rfl)) (by kernel_rfl)) (by kernel_rfl)) (by kernel_rfl)) (by kernel_rfl)) inPlace) unfollowed) recurses) named) (by kernel_rfl)) (by kernel_rfl)) (by kernel_rfl)) (by kernel_rfl)) (by kernel_rfl)) (by kernel_rfl)) (by kernel_rfl)) (by kernel_rfl)) (by kernel_rfl)) plainKeys) (by kernel_rfl)) stopsHeard) mayEnter) lifts) make) (by kernel_rfl)) (by kernel_rfl)) (by kernel_rfl)) (by kernel_rfl))
theorem goes:false=Rows.seeksNearRow.goesBy Tryz.pinned.checked.prog:=(aGD aXP _ rfl).symm
end Facts
end

section
open Go.ChangeShapes Go.WideShapes Go.ChangeAt Go.RowKit
theorem Y8{H:Type}{enc:TypeId × Value->H}{C:Checked}{os:Os}{f:FuncId}{fn:Func}{s:OpenSpec}{conds:List PathCond}{apart:Bool}{laid:List (String × DataW Unit)}(w0:World)(args:Array Value)(hos:w0.os=os)
 (hv:(w0.forCall (fun _ _=>0) ⟨#[],args,[]⟩).variablesRefB C.prog=true)
 (hr:((w0.forCall (fun _ _=>0) ⟨#[],args,[]⟩).heap.toList.drop C.prog.globals.size).take ((begin C.prog (fun _ _=>0) default).world.heap.size - C.prog.globals.size)=(begin C.prog (fun _ _=>0) default).world.heap.toList.drop C.prog.globals.size)
 (hok:Input.okWideB C.prog (w0.forCall (fun _ _=>0) ⟨#[],args,[]⟩) f ⟨#[],args,[]⟩=true)
 (hrow:s.preRow enc C.prog fn conds apart laid (w0.forCall (fun _ _=>0) ⟨#[],args,[]⟩).memory args):
 ∃(w:World) (tape:Tape) (i:Input),w.os=os/\(w.forCall tape i).Shaped C.prog/\i.vars=[]/\Input.okWide C.prog (w.forCall tape i) .any w.heap.size f i/\
  s.preRow enc C.prog fn conds apart laid (w.forCall tape i).memory i.args/\({ modest:=false }:Assume).holds C.prog (lone (Frame.enter C.prog f i.args .normal) [] (w.forCall tape i)):=by
 obtain⟨w,tape,i,h1,h2,h3,h4,h5,h6,_⟩:=OpenSpec.witness_stopped_atRef (enc:=enc) (C:=C) (fn:=fn) (s:=s) (conds:=conds) (apart:=apart) (laid:=laid) false w0 args hos hv hr hok hrow (fun _ _ _=>0);exact⟨w,tape,i,h1,h2,h3,h4,h5,h6⟩
end
section
open Go.ChangeShapes Go.WideShapes Go.ChangeAt Go.RowKit
theorem PN{H:Type}{W W':World}(hg:Below W.heap.size W W'){p:MemPlace}(h:p.block<W.heap.size):W.sameAt W' p:=by
 cases p with
 |cell b off=>exact hg.cell (p:=⟨b,off,none⟩) h
 |map b=>exact hg.block b h
theorem aYw:laidOutB Tryz.prog=true:=by kernel_rfl
theorem aKK:Tryz.prog.readableRec 32=true:=by kernel_rfl
theorem aVi:32<Tryz.prog.types.size:=aL2 (by kernel_rfl)
theorem zI(H:Type)(enc:TypeId × Value->H)(W:World)(base:Nat)(args:Array Value)(ds gs:List (DataW H))(before:List MemPlace)
 (hval: ∀(j:Nat) t v,Tryz.f3.params[j]? =some t->args[j]? =some v->Value.okWide Tryz.prog W .any base t v)
 (hW:DataW.Whole enc Tryz.prog Tryz.f3.params.toList Rows.seeksNearSpec.vars false W args.toList ds gs before) (hL:laidMetH Tryz.prog Rows.seeksNearRow.laid W):
 Calls Tryz.prog 3 args W fun e W'=> ∃v,e=.returned v/\Rows.seeksNearSpec.post enc Tryz.prog Tryz.f3 false true false false W args v W':=by
 have hW':=hW;obtain⟨p,q,hA0,hV,rfl,hfz,hnd⟩:=hW;have hA:DataW.TrodAll enc Tryz.prog W 0 (fun _=>true) true Tryz.f3.params.toList args.toList ds p:=hA0;rw[Tryz.params3]at hA hval;obtain⟨v0,v1,d0,d1,p0,p1,rfl,rfl,rfl,h0,h1⟩:=trodAll_two hA;obtain⟨rfl,rfl⟩:=trodVars_none hV;obtain⟨kk,pp,oo,fo,ng,nn,z0,z1,mo,da,k0,k1,k2,fr,my,bs,n,cp,rfl,hin⟩:=Sk.aQ7 (hval 0 32 v0 rfl rfl) h0;obtain⟨no,rfl,rfl,rfl,wno⟩:=open_int Tryz.underlying29 (hval 1 29 v1 rfl rfl) h1;have hlt: ∀x ∈ p0,x.block<W.heap.size:=fun x hx=>DataW.TrodAll.lt hA0 x (aU0 _ hx);clear hA0;simp only[aTE]at hW';have hLm:laidMetH Tryz.prog Rows.seeksErrorsRow.laid W:=by
  rw[show Rows.seeksNearRow.laid=Rows.seeksErrorsRow.laid from by kernel_rfl]at hL;exact hL
 refine(Sk.aRx (Ev.aE6 hLm) hin (Sk.aVI wno)).mono fun e W' ⟨he,hg⟩=>?_;subst he;obtain⟨m,hm⟩:=h0;have h0':DataW.Trod enc Tryz.prog W' 0 (fun b=>decide (b<W.heap.size)) true 32 (.agg (Sk.fArg kk pp oo fo ng nn z0 z1 mo da k0 k1 k2 fr my (.slice bs n cp)).toArray) d0 p0:=
  ⟨m,DataW.trod_stays (kids_book aYw aKK) (fun ht hu=>book_sized aKK ht hu) (fun h=>by cases h) ⟨aVi,book_self _⟩ hm (fun x hx=>PN (H:=H) hg (hlt x hx)) (fun x hx=>aBz (hlt x hx))⟩
 exact⟨_,rfl,_,_,_,[],p0++[],[],hW',trodAll_mk1 (shut_bool Tryz.underlying4 true),⟨p0,[],h0',trodAll_mk1 (shut_int Tryz.underlying29 wno),rfl⟩,rfl,hg.frame _,fun h=>by cases h⟩
theorem IC(os:Os){H:Type}(enc:TypeId × Value->H): ∃places,DataW.whole enc Tryz.prog ((Un.laidWorld os).forCall (fun _ _=>0) ⟨#[],#[.agg (Sk.fArg 0 0 0 0 false 0 0 0 0 0 0 0 0 0 0 (.slice none 0 0)).toArray,.int .i16 0],[]⟩).memory Tryz.f3.params.toList Rows.seeksNearSpec.vars false #[.agg (Sk.fArg 0 0 0 0 false 0 0 0 0 0 0 0 0 0 0 (.slice none 0 0)).toArray,.int .i16 0].toList 8=some ([.agg [.lit (.int .u8 0),.lit (.int .u8 0),.lit (.int .u8 0),.agg [.agg [.lit (.int .u8 0),.lit (.bool false),.lit (.int .u16 0),.agg [.lit (.int .u8 0),.lit (.int .u8 0)]],.lit (.int .u8 0),.lit (.int .u8 0),.agg [.lit (.int .u8 0),.lit (.int .u8 0),.lit (.int .u8 0)]],.lit (.int .i16 0),.lit (.int .u8 0),.nil],.lit (.int .i16 0)],[],places):=
 ⟨[],by kernel_rfl⟩
theorem PL(os:Os)(args:Array Value):laidMetH Tryz.prog Rows.seeksNearRow.laid ((Un.laidWorld os).forCall (fun _ _=>0) ⟨#[],args,[]⟩).memory:=by
 rw[show Rows.seeksNearRow.laid=Rows.seeksErrorsRow.laid from by kernel_rfl];exact Un.laid_met os args
theorem D9(os:Os)(started:os.Started)(H:Type)(enc:TypeId × Value->H)(F:Stop.Interp):
 ReturnsInHanded {} Tryz.checked os 3 .any ((OpenSpec.ofChange Rows.seeksNearSpec).preRow enc Tryz.prog Tryz.f3 Rows.seeksNearRow.domain false Rows.seeksNearRow.laid) (((OpenSpec.ofChange Rows.seeksNearSpec).at F).post enc Tryz.prog Tryz.f3 false true false false):=by
 obtain⟨places,hx⟩:=IC os enc;refine returnsInHanded_of_row (C:=Tryz.checked) (s:=OpenSpec.ofChange Rows.seeksNearSpec) Un.own started (by kernel_rfl) Tryz.func3
  (Y8 (enc:=enc) (C:=Tryz.checked) (Un.laidWorld os) #[.agg (Sk.fArg 0 0 0 0 false 0 0 0 0 0 0 0 0 0 0 (.slice none 0 0)).toArray,.int .i16 0] rfl (by kernel_rfl) (by kernel_rfl) (by kernel_rfl)
    (OpenSpec.preRow_of_cond 8 hx (by kernel_rfl) (fun k hk=>by cases hk) (by kernel_rfl) (PL os _))) ?_
 intro W base args ds gs before hval hW _ _ _ hL _ _;exact zI H enc W base args ds gs before hval hW hL
theorem KQ:Rows.SeeksNearSaid:=
 OpenClaim.holds_of_cond 3 Tryz.f3 rfl rfl rfl rfl rfl rfl rfl ⟨rfl,rfl,rfl,rfl,rfl⟩ rfl rfl rfl rfl rfl (by kernel_rfl) Tryz.func3 Facts.joined
  (aL2 (by kernel_rfl)) (by unfold Func.isWrapper;first|(rw[aDk (by decide +kernel)];kernel_rfl)|(rw[aBx (by decide +kernel)];exact⟨rfl,rfl⟩))
  (fun os started H enc _ F=>by rw[OpenClaim.pre_eq_preRow];exact D9 os started H enc F)
theorem IE(f:FuncId)(fn:Func)(hf:Tryz.pinned.checked.prog.funcNamed "circa/circalaw30.SeeksNear" =some f)(hfn:Tryz.pinned.checked.prog.funcs[f]? =some fn):
 true=Tryz.pinned.checked.prog.looks []/\ ∀(j:Nat) t,fn.params[j]? =some t->Tryz.pinned.checked.prog.wantsStandIn t=false:=by
 obtain rfl:f=3:=aPk ((show Tryz.prog.funcNamed "circa/circalaw30.SeeksNear" =some 3 by kernel_rfl).symm.trans hf) |>.symm
 obtain rfl:fn=Tryz.f3:=(aPk (Tryz.func3.symm.trans hfn)).symm;refine⟨by kernel_rfl,fun j t ht=>?_⟩;rw[Tryz.params3]at ht;have hm:=aWq ht;simp only[List.mem_toArray,aHC,aMf,aTG]at hm;rcases hm with rfl|rfl
 . exact(show Tryz.prog.wantsStandIn 32=false by kernel_rfl)
 exact(show Tryz.prog.wantsStandIn 29=false by kernel_rfl)
theorem seeksNear_card:Rows.SeeksNearCardSaid:=
 Claim7.holds_tied_plain_at .later [] _ _ _ _ KQ (fun _ h=>by cases h) (by kernel_rfl) (fun _ h=>by cases h) seeksNear_row_tie rfl ⟨rfl,rfl⟩ (by kernel_rfl) rfl IE Facts.goes
end
end Go.Proofs.YtacggmlngekidaaGreatDoor
