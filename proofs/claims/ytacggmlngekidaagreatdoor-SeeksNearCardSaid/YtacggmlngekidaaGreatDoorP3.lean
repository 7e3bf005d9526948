import Derived.Test.YtacggmlngekidaaGreatDoorP1
import Derived.Test.YtacggmlngekidaaGreatDoorP2
import Derived.Laws.EntriesVeiled
import Derived.Deep.RegionHeld3
import Derived.Deep.DeepCutAuto
import Derived.Lib.AtoiErrMem
import Derived.Defers
import Derived.Deep.QuietTactic
import Derived.BigQuiet
import Derived.WalkMore
import Derived.Deep.MidRow
import Derived.Deep.CutBlock
set_option linter.unusedSimpArgs false
set_option linter.unusedVariables false
set_option maxRecDepth 1000000
set_option maxHeartbeats 8000000
set_option linter.unusedSectionVars false
namespace Go.Proofs.YtacggmlngekidaaGreatDoor
abbrev aMf:=@List.not_mem_nil
abbrev aTa:=@Bool.eq_false_or_eq_true
abbrev aTj:=@Bool.not_eq_true
abbrev aTG:=@or_false
abbrev aTX:=@Go.World.ownsRow_nil
abbrev aWh:=@Go.wpList_append_own
abbrev aWP:=@Nat.le_add_right
abbrev aW9:=@Go.info_parts
abbrev aXi:=@Go.ByteArray.toList_mk
abbrev aXj:=@Go.wp_seq
abbrev aXF:=@List.pairwise_map
abbrev aXT:=@Bool.or_true
abbrev aYB:=@Go.Lib.bytesWorld_below
section
open Go.RowKit
namespace Un
open Cal
def rv(a lo b hi:Int):Value:=.agg #[.int .i8 a,.int .i64 lo,.int .i8 b,.int .i64 hi]
theorem gJ(lo e hi f:Int)(w:World):
 Calls Tryz.prog 176 #[.int .i64 lo,.int .i64 e,.int .i64 hi,.int .i64 f] w fun r w'=>r=.returned (.tuple #[.int .i64 (if e=0 then(if f=0 then lo else 0)else 0),.int .i64 (if e=0 then(if f=0 then hi else 0)else 0),.int .i64 (if e=0 then f else e)])/\w=w':=by
 by_cases he:e=0
 . subst he
   by_cases hf:f=0
   . subst hf
     go_enter Tryz.func176,Tryz.ntmps176
     go_wp2
     go_ret3
     exact⟨gW (by simp) (by simp) (by simp),rfl⟩
   have t:(f !=0)=true:=by rw[aN0];exact hf
   have HF:=rG hf;clear hf
   go_enter Tryz.func176,Tryz.ntmps176
   go_wp2
   go_ret3
   exact⟨gW (by simp[HF.out]) (by simp[HF.out]) (by simp),rfl⟩
 have t:(e !=0)=true:=by rw[aN0];exact he
 have HE:=rG he;clear he
 go_enter Tryz.func176,Tryz.ntmps176
 go_wp2
 go_ret3
 exact⟨gW (by simp[HE.out]) (by simp[HE.out]) (by simp[HE.out]),rfl⟩
theorem rM(y:Int)(w:World)(hs:bT w):
 Calls Tryz.prog 141 #[.int .i64 y] w fun r w'=>r=.returned (.tuple #[.int .i64 (if -10000000000000000<=y/\y<=10000000000000000 then st y else 0),.int .i64 (if -10000000000000000<=y/\y<=10000000000000000 then st (y+1) - 1 else 0),.int .i64 (if -10000000000000000<=y/\y<=10000000000000000 then 0 else 6)])/\Below w.heap.size w w':=by
 by_cases c: -10000000000000000<=y/\y<=10000000000000000
 . rw[aDk c,aDk c,aDk c];obtain⟨c0,c1⟩:=c
   go_enter Tryz.func141,Tryz.ntmps141
   go_wp2_with fail
   refine(rJ _ _ hs.steps (by omega) (by omega)).mono ?_;rintro e w1 ⟨rfl,hb1⟩
   go_wp2_with fail
   refine(X7 _ _ (hs.below hb1).steps (by omega) (by omega)).mono ?_;rintro e w2 ⟨rfl,hb2⟩
   go_wp2_with (go_at_call 176;refine(gJ _ _ _ _ _).mono ?_;rintro e w' ⟨rfl,rfl⟩)
   go_ret3
   exact⟨gW (by simp) (by simp) (by simp),bt hb1 hb2⟩
 rw[aBx c,aBx c,aBx c];have C:Hid (y< -10000000000000000\/10000000000000000<y):=rG (by omega);clear c
 go_enter Tryz.func141,Tryz.ntmps141
 go_wp2_with (first|(go_at_call 174;refine(PI _ _ C.out).mono ?_;rintro e w' ⟨rfl,rfl⟩)|(go_at_call 175;refine(X8 _ _ C.out).mono ?_;rintro e w' ⟨rfl,rfl⟩)|(go_at_call 176;refine(gJ _ _ _ _ _).mono ?_;rintro e w' ⟨rfl,rfl⟩))
 go_ret3
 exact⟨gW (by simp) (by simp) (by simp),aAI _ _⟩
def jA(i:Int):Int × Int × Int:=if -10000000000000000<=i / 12/\i / 12<=10000000000000000 then(st (i / 12)+bZ (i / 12) (i % 12+1),st (i / 12)+bZ (i / 12) (i % 12+2) - 1,0)else(0,0,6)
theorem aE7(y m:Int)(m0:1<=m)(m1:m<=12):
 ∃sv ev er:Int,(∀W,bT W->Calls Tryz.prog 157 #[.int .i64 y,.int .i64 m] W fun e w'=>e=.returned (.tuple #[.int .i64 sv,.int .i64 er])/\Below W.heap.size W w')/\
  (∀W,bT W->Calls Tryz.prog 159 #[.int .i64 y,.int .i64 m] W fun e w'=>e=.returned (.tuple #[.int .i64 ev,.int .i64 er])/\Below W.heap.size W w')/\
  ((er=0/\(if -10000000000000000<=y/\y<=10000000000000000 then(st y+bZ y m,st y+bZ y (m+1) - 1,(0:Int))else(0,0,6))=(sv,ev,0))\/(er=6/\(if -10000000000000000<=y/\y<=10000000000000000 then(st y+bZ y m,st y+bZ y (m+1) - 1,(0:Int))else(0,0,6))=(0,0,6))):=by
 by_cases c: -10000000000000000<=y/\y<=10000000000000000
 . exact⟨_,_,0,fun W h=>iK y m W h c.1 c.2 m0 m1,fun W h=>BQ y m W h c.1 c.2 m0 m1,Or.inl ⟨rfl,by rw[aDk c]⟩⟩
 have e:sJ y m=6:=by unfold sJ;rw[aBx c]
 refine⟨0,0,6,fun W h=>(wC y m W (by rw[e];decide)).mono fun r w' ⟨h1,h2⟩=>⟨by rw[h1,e],by rw[<-h2];exact aAI _ _⟩,fun W h=>(VK y m W (by rw[e];decide)).mono fun r w' ⟨h1,h2⟩=>⟨by rw[h1,e],by rw[<-h2];exact aAI _ _⟩,Or.inr ⟨rfl,by rw[aBx c]⟩⟩
theorem MF(i sv ev er:Int)(w:World)(hs:bT w)(h0: -9223372036854775808<=i)(h1:i<9223372036854775808)
 (HS: ∀W,bT W->Calls Tryz.prog 157 #[.int .i64 (i / 12),.int .i64 (i % 12+1)] W fun e w'=>e=.returned (.tuple #[.int .i64 sv,.int .i64 er])/\Below W.heap.size W w')
 (HE: ∀W,bT W->Calls Tryz.prog 159 #[.int .i64 (i / 12),.int .i64 (i % 12+1)] W fun e w'=>e=.returned (.tuple #[.int .i64 ev,.int .i64 er])/\Below W.heap.size W w') (hz:er=0\/er=6):
 Calls Tryz.prog 144 #[.int .i64 i] w fun r w'=>r=.returned (.tuple #[.int .i64 (if er=0 then sv else 0),.int .i64 (if er=0 then ev else 0),.int .i64 er])/\Below w.heap.size w w':=by
 obtain⟨c1,c2,c3⟩:=@xY i 12 (by omega);have HW:=rG hs;clear hs
 by_cases hi:0<=i
 . have t: ¬i % 12<0:=by omega
   have HS:=rG HS;have HE:=rG HE;clear c1 c2 c3;rcases hz with rfl|rfl
   . go_enter Tryz.func144,Tryz.ntmps144
     go_wp2_with fail
     refine(HS.out _ HW.out).mono ?_;rintro e w1 ⟨rfl,hb1⟩
     go_wp2_with fail
     refine(HE.out _ (HW.out.below hb1)).mono ?_;rintro e w2 ⟨rfl,hb2⟩
     go_wp2_with (go_at_call 176;refine(gJ _ _ _ _ _).mono ?_;rintro e w' ⟨rfl,rfl⟩)
     go_ret3
     exact⟨gW (by simp) (by simp) (by simp),bt hb1 hb2⟩
   go_enter Tryz.func144,Tryz.ntmps144
   go_wp2_with fail
   refine(HS.out _ HW.out).mono ?_;rintro e w1 ⟨rfl,hb1⟩
   go_wp2_with fail
   refine(HE.out _ (HW.out.below hb1)).mono ?_;rintro e w2 ⟨rfl,hb2⟩
   go_wp2_with (go_at_call 176;refine(gJ _ _ _ _ _).mono ?_;rintro e w' ⟨rfl,rfl⟩)
   go_ret3
   exact⟨gW (by simp) (by simp) (by simp),bt hb1 hb2⟩
 by_cases hz':i.tmod 12=0
 . obtain⟨e1,e2⟩:=c2 (Or.inl hz');have t:decide (i.tmod 12<0)=false:=aBy (by omega);have k0: -768614336404564652<=i.tdiv 12:=by omega
   have k1:i.tdiv 12<=768614336404564651:=by omega
   rw[<-e1,<-e2]at HS HE;have k2: -12<=i.tmod 12:=by omega
   have k3:i.tmod 12<12:=by omega
   have HS:=rG HS;have HE:=rG HE;clear c1 c2 c3 hz' e1 e2;rcases hz with rfl|rfl
   . go_enter Tryz.func144,Tryz.ntmps144
     go_wp2_with fail
     refine(HS.out _ HW.out).mono ?_;rintro e w1 ⟨rfl,hb1⟩
     go_wp2_with fail
     refine(HE.out _ (HW.out.below hb1)).mono ?_;rintro e w2 ⟨rfl,hb2⟩
     go_wp2_with (go_at_call 176;refine(gJ _ _ _ _ _).mono ?_;rintro e w' ⟨rfl,rfl⟩)
     go_ret3
     exact⟨gW (by simp) (by simp) (by simp),bt hb1 hb2⟩
   go_enter Tryz.func144,Tryz.ntmps144
   go_wp2_with fail
   refine(HS.out _ HW.out).mono ?_;rintro e w1 ⟨rfl,hb1⟩
   go_wp2_with fail
   refine(HE.out _ (HW.out.below hb1)).mono ?_;rintro e w2 ⟨rfl,hb2⟩
   go_wp2_with (go_at_call 176;refine(gJ _ _ _ _ _).mono ?_;rintro e w' ⟨rfl,rfl⟩)
   go_ret3
   exact⟨gW (by simp) (by simp) (by simp),bt hb1 hb2⟩
 obtain⟨e1,e2⟩:=c1 ⟨hz',by omega⟩;have hneg:=(c3 hz').2 (by omega);have t:decide (i.tmod 12<0)=true:=aBz hneg;have k0: -768614336404564651<=i.tdiv 12:=by omega
 have k1:i.tdiv 12<=768614336404564651:=by omega
 rw[<-e1,<-e2]at HS HE;have k2: -12<=i.tmod 12:=by omega
 have k3:i.tmod 12<12:=by omega
 have HS:=rG HS;have HE:=rG HE;clear c1 c2 c3 hz' e1 e2;rcases hz with rfl|rfl
 . go_enter Tryz.func144,Tryz.ntmps144
   go_wp2_with fail
   refine(HS.out _ HW.out).mono ?_;rintro e w1 ⟨rfl,hb1⟩
   go_wp2_with fail
   refine(HE.out _ (HW.out.below hb1)).mono ?_;rintro e w2 ⟨rfl,hb2⟩
   go_wp2_with (go_at_call 176;refine(gJ _ _ _ _ _).mono ?_;rintro e w' ⟨rfl,rfl⟩)
   go_ret3
   exact⟨gW (by simp) (by simp) (by simp),bt hb1 hb2⟩
 go_enter Tryz.func144,Tryz.ntmps144
 go_wp2_with fail
 refine(HS.out _ HW.out).mono ?_;rintro e w1 ⟨rfl,hb1⟩
 go_wp2_with fail
 refine(HE.out _ (HW.out.below hb1)).mono ?_;rintro e w2 ⟨rfl,hb2⟩
 go_wp2_with (go_at_call 176;refine(gJ _ _ _ _ _).mono ?_;rintro e w' ⟨rfl,rfl⟩)
 go_ret3
 exact⟨gW (by simp) (by simp) (by simp),bt hb1 hb2⟩
theorem pU(i:Int)(w:World)(hs:bT w)(h0: -9223372036854775808<=i)(h1:i<9223372036854775808):
 Calls Tryz.prog 144 #[.int .i64 i] w fun r w'=>r=.returned (.tuple #[.int .i64 (jA i).1,.int .i64 (jA i).2.1,.int .i64 (jA i).2.2])/\Below w.heap.size w w':=by
 obtain⟨sv,ev,er,HS,HE,HR⟩:=aE7 (i / 12) (i % 12+1) (by omega) (by omega);rw[show i % 12+1+1=i % 12+2 by omega]at HR;unfold jA;rcases HR with⟨he,hC⟩|⟨he,hC⟩
 . rw[hC];have h:=MF i sv ev er w hs h0 h1 HS HE (Or.inl he);rw[aDk he,aDk he,he]at h;exact h
 rw[hC];have h:=MF i sv ev er w hs h0 h1 HS HE (Or.inr he);rw[aBx (by omega),aBx (by omega),he]at h;exact h
end Un
end
section
open Go.RowKit
namespace Un
open Cal
theorem lQ(p:Int)(w:World)(h0:0<=p)(h1:p<256):
 Calls Tryz.prog 117 #[.int .u8 p] w fun r w'=>r=.returned (.bool (decide (1<=p/\p<=3)))/\w=w':=by
 by_cases a:1<=p
 . go_enter Tryz.func117,Tryz.ntmps117
   go_wp2
   go_ret
   exact⟨by simp[a],rfl⟩
 have b:p<1:=by omega
 have e:p=0:=by omega
 subst e
 go_enter Tryz.func117,Tryz.ntmps117
 go_wp2
 go_ret
 exact⟨by simp,rfl⟩
theorem aCU(d:Int)(w:World):
 Calls Tryz.prog 145 #[.int .i64 d] w fun r w'=>r=.returned (.tuple #[.int .i64 d,.int .i64 0])/\w=w':=by
 go_enter Tryz.func145,Tryz.ntmps145
 go_wp2
 go_ret2
 exact⟨aS rfl rfl,rfl⟩
theorem MV(d:Int)(w:World):
 Calls Tryz.prog 146 #[.int .i64 d] w fun r w'=>r=.returned (.tuple #[.int .i64 d,.int .i64 d,.int .i64 0])/\w=w':=by
 go_enter Tryz.func146,Tryz.ntmps146
 go_wp2
 go_ret3
 exact⟨gW rfl rfl rfl,rfl⟩
theorem wE(d:Int): -10000000000000000<=(bF d).1/\(bF d).1<=10000000000000000/\0<=(bF d).2.1/\(bF d).2.1<=12:=by
 unfold bF
 split
 . next h=>
   obtain⟨s1,s2⟩:=gU d;have:=@mG (dH d) (d - st (dH d)) (by omega) (by have:=st_succ (dH d);omega);exact⟨h.1,h.2,by dsimp only;omega,by dsimp only;omega⟩
 decide
theorem MW(d:Int)(w:World)(hs:bT w)(h0: -9223372036854775808<=d)(h1:d<9223372036854775808):
 Calls Tryz.prog 142 #[.int .i64 d] w fun r w'=>r=.returned (.tuple #[.int .i64 (12 * (bF d).1+(bF d).2.1 - 1),.int .i64 (bF d).2.2])/\Below w.heap.size w w':=by
 have HY:=rG (uD d w hs h0 h1);clear hs;have hk:=wE d;generalize bF d=q at HY hk ⊢;obtain⟨y,m,e⟩:=q;obtain⟨k0,k1,k2,k3⟩:=hk;dsimp only at k0 k1 k2 k3 ⊢
 go_enter Tryz.func142,Tryz.ntmps142
 go_wp2_with fail
 refine HY.out.mono ?_;rintro e w1 ⟨rfl,hb1⟩
 go_wp2
 go_ret2
 exact⟨aS (by simp) rfl,hb1⟩
theorem jM{w W:World}{a lo b hi:Value}{t:TypeId}(h:Below (w.alloc (.cells #[a,lo,b,hi] t)).heap.size (w.alloc (.cells #[a,lo,b,hi] t)) W):
 W.cell? ⟨w.heap.size,0,none⟩=some a/\W.cell? ⟨w.heap.size,1,none⟩=some lo/\W.cell? ⟨w.heap.size,2,none⟩=some b/\W.cell? ⟨w.heap.size,3,none⟩=some hi/\
 W.frozen? ⟨w.heap.size,0,none⟩=false/\W.frozen? ⟨w.heap.size,1,none⟩=false/\W.frozen? ⟨w.heap.size,2,none⟩=false/\W.frozen? ⟨w.heap.size,3,none⟩=false:=by
 refine⟨?_,?_,?_,?_,?_,?_,?_,?_⟩
 . rw[h.cell (by simp)];simp[go_sem]
 . rw[h.cell (by simp)];simp[go_sem]
 . rw[h.cell (by simp)];simp[go_sem]
 . rw[h.cell (by simp)];simp[go_sem]
 . rw[h.frozen (by simp)];simp[go_sem]
 . rw[h.frozen (by simp)];simp[go_sem]
 . rw[h.frozen (by simp)];simp[go_sem]
 rw[h.frozen (by simp)];simp[go_sem]
theorem aDI{x:Int}(h0: -9223372036854775808<=x)(h1:x<9223372036854775808):IntKind.i64.wrap x=x:=by rw[aHA];omega
theorem holdT{e f lo hi:Int}:cond (e==0) (cond (f==0) (.tuple #[Sk.r4 0 lo 0 hi,.int .i64 0]) (.tuple #[Sk.r4 0 0 0 0,.int .i64 f])) (.tuple #[Sk.r4 0 0 0 0,.int .i64 e])=Value.tuple #[rv 0 (if e=0 then(if f=0 then lo else 0)else 0) 0 (if e=0 then(if f=0 then hi else 0)else 0),.int .i64 (if e=0 then f else e)]:=by
 unfold Sk.r4 rv
 by_cases h:e=0
 . by_cases g:f=0
   . simp[h,g]
   rw[show (f==0)=false by simpa using g];simp[h,g]
 rw[show (e==0)=false by simpa using h];simp[h]
theorem QU(d i e lo hi f:Int)(w:World)(hs:bT w)
 (HI: ∀W,bT W->Calls Tryz.prog 140 #[.int .i64 d] W fun r w'=>r=.returned (.tuple #[.int .i64 i,.int .i64 e])/\Below W.heap.size W w')
 (HA: ∀W,bT W->Calls Tryz.prog 141 #[.int .i64 i] W fun r w'=>r=.returned (.tuple #[.int .i64 lo,.int .i64 hi,.int .i64 f])/\Below W.heap.size W w'):
 Calls Tryz.prog 85 #[.int .i64 d,.int .u8 1] w fun r w'=>r=.returned (.tuple #[rv 0 (if e=0 then(if f=0 then lo else 0)else 0) 0 (if e=0 then(if f=0 then hi else 0)else 0),.int .i64 (if e=0 then f else e)])/\Below w.heap.size w w':=
 Sk.lJ (Sk.aQA d i e lo hi f w (fun W hb=>HI W (hs.below hb)) (fun W hb=>HA W (hs.below hb))) holdT
theorem QT(d i e lo hi f:Int)(w:World)(hs:bT w)
 (HI: ∀W,bT W->Calls Tryz.prog 142 #[.int .i64 d] W fun r w'=>r=.returned (.tuple #[.int .i64 i,.int .i64 e])/\Below W.heap.size W w')
 (HA: ∀W,bT W->Calls Tryz.prog 144 #[.int .i64 i] W fun r w'=>r=.returned (.tuple #[.int .i64 lo,.int .i64 hi,.int .i64 f])/\Below W.heap.size W w'):
 Calls Tryz.prog 85 #[.int .i64 d,.int .u8 2] w fun r w'=>r=.returned (.tuple #[rv 0 (if e=0 then(if f=0 then lo else 0)else 0) 0 (if e=0 then(if f=0 then hi else 0)else 0),.int .i64 (if e=0 then f else e)])/\Below w.heap.size w w':=
 Sk.lJ (Sk.aQz d i e lo hi f w (fun W hb=>HI W (hs.below hb)) (fun W hb=>HA W (hs.below hb))) holdT
theorem QS(d i e lo hi f:Int)(w:World)(hs:bT w)
 (HI: ∀W,bT W->Calls Tryz.prog 145 #[.int .i64 d] W fun r w'=>r=.returned (.tuple #[.int .i64 i,.int .i64 e])/\Below W.heap.size W w')
 (HA: ∀W,bT W->Calls Tryz.prog 146 #[.int .i64 i] W fun r w'=>r=.returned (.tuple #[.int .i64 lo,.int .i64 hi,.int .i64 f])/\Below W.heap.size W w'):
 Calls Tryz.prog 85 #[.int .i64 d,.int .u8 3] w fun r w'=>r=.returned (.tuple #[rv 0 (if e=0 then(if f=0 then lo else 0)else 0) 0 (if e=0 then(if f=0 then hi else 0)else 0),.int .i64 (if e=0 then f else e)])/\Below w.heap.size w w':=
 Sk.lJ (Sk.aQy d i e lo hi f w (fun W hb=>HI W (hs.below hb)) (fun W hb=>HA W (hs.below hb))) holdT
def mM(p d:Int):Int × Int × Int:=if p=3 then(d,d,0)else if -10000000000000000<=dH d/\dH d<=10000000000000000 then(if p=1 then(st (dH d),st (dH d+1) - 1,0)else(st (dH d)+bZ (dH d) (DV (dH d) (d - st (dH d))),st (dH d)+bZ (dH d) (DV (dH d) (d - st (dH d))+1) - 1,0))else(0,0,6)
theorem WC(d:Int)(w:World)(hs:bT w):
 Calls Tryz.prog 85 #[.int .i64 d,.int .u8 3] w fun r w'=>r=.returned (.tuple #[rv 0 d 0 d,.int .i64 0])/\Below w.heap.size w w':=
 QS d d 0 d d 0 w hs (fun W _=>(aCU d W).mono fun r w' ⟨h1,h2⟩=>⟨h1,by rw[<-h2];exact aAI _ _⟩) (fun W _=>(MV d W).mono fun r w' ⟨h1,h2⟩=>⟨h1,by rw[<-h2];exact aAI _ _⟩)
theorem WG(d:Int)(w:World)(hs:bT w)(h0: -9223372036854775808<=d)(h1:d<9223372036854775808):
 Calls Tryz.prog 85 #[.int .i64 d,.int .u8 1] w fun r w'=>r=.returned (.tuple #[rv 0 (mM 1 d).1 0 (mM 1 d).2.1,.int .i64 (mM 1 d).2.2])/\Below w.heap.size w w':=by
 have h:=QU d _ _ _ _ _ w hs (fun W c=>zB d W c.steps h0 h1) (fun W c=>rM _ W c);refine h.mono fun r w' ⟨e,b⟩=>⟨?_,b⟩;rw[e];unfold mM kK
 by_cases c: -10000000000000000<=dH d/\dH d<=10000000000000000
 . simp[c]
 simp[c]
theorem aGi(d:Int)(c: -10000000000000000<=dH d/\dH d<=10000000000000000):
 jA (12 * (bF d).1+(bF d).2.1 - 1)=(st (dH d)+bZ (dH d) (DV (dH d) (d - st (dH d))),st (dH d)+bZ (dH d) (DV (dH d) (d - st (dH d))+1) - 1,0):=by
 have e:bF d=(dH d,DV (dH d) (d - st (dH d)),0):=by unfold bF;rw[aDk c]
 obtain⟨s1,s2⟩:=gU d;obtain⟨m0,m1,-,-⟩:=@mG (dH d) (d - st (dH d)) (by omega) (by have:=st_succ (dH d);omega);rw[e];dsimp only;generalize DV (dH d) (d - st (dH d))=m at m0 m1 ⊢;have q:(12 * dH d+m - 1) / 12=dH d:=by omega
 have r:(12 * dH d+m - 1) % 12=m - 1:=by omega
 unfold jA;rw[q,r,aDk c,show m - 1+1=m by omega,show m - 1+2=m+1 by omega]
theorem WE(d:Int)(w:World)(hs:bT w)(h0: -9223372036854775808<=d)(h1:d<9223372036854775808):
 Calls Tryz.prog 85 #[.int .i64 d,.int .u8 2] w fun r w'=>r=.returned (.tuple #[rv 0 (mM 2 d).1 0 (mM 2 d).2.1,.int .i64 (mM 2 d).2.2])/\Below w.heap.size w w':=by
 obtain⟨b1,b2,b3,b4⟩:=wE d;have h:=QT d _ _ _ _ _ w hs (fun W c=>MW d W c h0 h1) (fun W c=>pU _ W c (by omega) (by omega));refine h.mono fun r w' ⟨e,b⟩=>⟨?_,b⟩;rw[e]
 by_cases c: -10000000000000000<=dH d/\dH d<=10000000000000000
 . rw[aGi d c];unfold mM bF;simp[c]
 unfold mM bF;simp[c]
theorem QO(d p:Int)(w:World)(h0:0<=p)(h1:p<256)(hp:p<1\/3<p):
 Calls Tryz.prog 85 #[.int .i64 d,.int .u8 p] w fun r w'=>r=.returned (.tuple #[rv 0 0 0 0,.int .i64 18])/\Below w.heap.size w w':=by
 have t:decide (1<=p/\p<=3)=false:=aBy (by omega);have HK:=fun W=>lQ p W h0 h1;rw[t]at HK;replace HK:=rG HK;clear t hp
 go_enter Tryz.func85,Tryz.ntmps85
 go_wp2_with (first|(go_at_call 117;refine(HK.out _).mono ?_;rintro e w' ⟨rfl,rfl⟩))
 refine aHE (v:=.tuple #[rv 0 0 0 0,.int .i64 18]) (by simp[results,Tryz.results85,go_sem,rv]) rfl ⟨rfl,?_⟩;exact ba (aAI _ _) _
def aI(p d:Int):Int × Int × Int:=if p<1\/3<p then(0,0,18)else mM p d
theorem rD(d p:Int)(w:World)(hs:bT w)(h0: -9223372036854775808<=d)(h1:d<9223372036854775808)(p0:0<=p)(p1:p<256):
 Calls Tryz.prog 85 #[.int .i64 d,.int .u8 p] w fun r w'=>r=.returned (.tuple #[rv 0 (aI p d).1 0 (aI p d).2.1,.int .i64 (aI p d).2.2])/\Below w.heap.size w w':=by
 unfold aI
 by_cases hp:p<1\/3<p
 . rw[aDk hp];exact QO d p w p0 p1 hp
 rw[aBx hp];obtain rfl|rfl|rfl:p=1\/p=2\/p=3:=by omega
 . exact WG d w hs h0 h1
 . exact WE d w hs h0 h1
 exact WC d w hs
end Un
end
section
open Go.RowKit
namespace Un
open Cal
def isC(p a lo b hi:Int):Bool:=decide (a=0)&&(decide ((aI p lo).2.2=0)&&(decide (b=0)&&(decide ((aI p lo).1=lo)&&decide ((aI p lo).2.1=hi))))
theorem aNV(p a lo b hi x y e:Int)(w:World)(hs:bT w)
 (HH: ∀W,bT W->Calls Tryz.prog 85 #[.int .i64 lo,.int .u8 p] W fun r w'=>r=.returned (.tuple #[rv 0 x 0 y,.int .i64 e])/\Below W.heap.size W w'):
 Calls Tryz.prog 274 #[rv a lo b hi,.int .u8 p] w fun r w'=>r=.returned (.bool (decide (a=0)&&(decide (e=0)&&(decide (b=0)&&(decide (x=lo)&&decide (y=hi))))))/\Below w.heap.size w w':=
 Sk.lJ (Sk.zIs a lo b hi p x y e (decide (0=a/\x=lo/\0=b/\y=hi)) w (Sk.lW _ _ _ _ _ _ _ _ _ rfl) (fun W hb=>HH W (hs.below hb))) (by
  by_cases h1:a=0
  . by_cases h2:e=0
    . by_cases h3:b=0<;>by_cases h4:x=lo<;>by_cases h5:y=hi<;>simp_all [eq_comm]
    rw[show (e==0)=false by simpa using h2];simp[h1,h2]
  rw[show (a==0)=false by simpa using h1];simp[h1])
theorem V6(p a lo b hi:Int)(w:World)(hs:bT w)(h0: -9223372036854775808<=lo)(h1:lo<9223372036854775808)(p0:0<=p)(p1:p<256):
 Calls Tryz.prog 274 #[rv a lo b hi,.int .u8 p] w fun r w'=>r=.returned (.bool (isC p a lo b hi))/\Below w.heap.size w w':=
 aNV p a lo b hi _ _ _ w hs fun W c=>rD lo p W c h0 h1 p0 p1
end Un
end
section
open Go.RowKit
namespace Un
open Cal
theorem aAC(i e a lo b hi:Int)(w:World)(hs:bT w)(h0: -9223372036854775808<=lo)(h1:lo<9223372036854775808)
 (HX: ∀W,bT W->Calls Tryz.prog 140 #[.int .i64 lo] W fun r w'=>r=.returned (.tuple #[.int .i64 i,.int .i64 e])/\Below W.heap.size W w') (hi1:isC 1 a lo b hi=true):
 Calls Tryz.prog 272 #[rv a lo b hi,.int .u8 1] w fun r w'=>r=.returned (.tuple #[.int .i64 i,.int .i64 e])/\Below w.heap.size w w':=
 Sk.lJ (Sk.aTR a lo b hi i e w (fun W hb=>hi1 ▸ V6 1 a lo b hi W (hs.below hb) h0 h1 (by omega) (by omega)) (fun W hb=>HX W (hs.below hb))) rfl
theorem aAB(i e a lo b hi:Int)(w:World)(hs:bT w)(h0: -9223372036854775808<=lo)(h1:lo<9223372036854775808)
 (HX: ∀W,bT W->Calls Tryz.prog 142 #[.int .i64 lo] W fun r w'=>r=.returned (.tuple #[.int .i64 i,.int .i64 e])/\Below W.heap.size W w') (hi1:isC 2 a lo b hi=true):
 Calls Tryz.prog 272 #[rv a lo b hi,.int .u8 2] w fun r w'=>r=.returned (.tuple #[.int .i64 i,.int .i64 e])/\Below w.heap.size w w':=
 Sk.lJ (Sk.aTQ a lo b hi i e w (fun W hb=>hi1 ▸ V6 2 a lo b hi W (hs.below hb) h0 h1 (by omega) (by omega)) (fun W hb=>HX W (hs.below hb))) rfl
theorem aAA(a lo b hi:Int)(w:World)(hs:bT w)(h0: -9223372036854775808<=lo)(h1:lo<9223372036854775808)(hi1:isC 3 a lo b hi=true):
 Calls Tryz.prog 272 #[rv a lo b hi,.int .u8 3] w fun r w'=>r=.returned (.tuple #[.int .i64 lo,.int .i64 0])/\Below w.heap.size w w':=
 Sk.lJ (Sk.aTP a lo b hi w (fun W hb=>hi1 ▸ V6 3 a lo b hi W (hs.below hb) h0 h1 (by omega) (by omega))) rfl
theorem aAD(p a lo b hi:Int)(w:World)(hs:bT w)(h0: -9223372036854775808<=lo)(h1:lo<9223372036854775808)(p0:0<=p)(p1:p<256)(hp:1<=p/\p<=3)(hi1:isC p a lo b hi=false):
 Calls Tryz.prog 272 #[rv a lo b hi,.int .u8 p] w fun r w'=>r=.returned (.tuple #[.int .i64 0,.int .i64 1])/\Below w.heap.size w w':=by
 have HI:=fun W c=>V6 p a lo b hi W c h0 h1 p0 p1;rw[hi1]at HI;replace HI:=rG HI;have HK:=fun W=>lQ p W p0 p1;rw[aBz hp]at HK;replace HK:=rG HK;have HS:=rG hs;clear hs hi1 hp;unfold rv at HI ⊢
 go_enter Tryz.func272,Tryz.ntmps272
 go_wp2_with (first|(go_at_call 117;refine(HK.out _).mono ?_;rintro e w' ⟨rfl,rfl⟩))
 refine(HI.out _ (HS.out.below (ba (aAI _ _) _))).mono ?_;rintro _ w1 ⟨rfl,hb1⟩;have HB:=rG (bt (ba (aAI _ _) _) hb1);clear hb1
 go_wp2_with fail
 go_ret2
 exact⟨aS rfl rfl,HB.out⟩
theorem QL(p a lo b hi:Int)(w:World)(p0:0<=p)(p1:p<256)(hp:p<1\/3<p):
 Calls Tryz.prog 272 #[rv a lo b hi,.int .u8 p] w fun r w'=>r=.returned (.tuple #[.int .i64 0,.int .i64 18])/\Below w.heap.size w w':=by
 have t:decide (1<=p/\p<=3)=false:=aBy (by omega);have HK:=fun W=>lQ p W p0 p1;rw[t]at HK;replace HK:=rG HK;clear hp t;unfold rv
 go_enter Tryz.func272,Tryz.ntmps272
 go_wp2_with (first|(go_at_call 117;refine(HK.out _).mono ?_;rintro e w' ⟨rfl,rfl⟩))
 go_ret2
 exact⟨aS rfl rfl,ba (aAI _ _) _⟩
end Un
end
section
open Go.RowKit
namespace Un
open Cal
def iI(p lo:Int):Int × Int:=if p=1 then kK lo else if p=2 then(12 * (bF lo).1+(bF lo).2.1 - 1,(bF lo).2.2)else(lo,0)
def NI(p a lo b hi:Int):Int × Int:=if p<1\/3<p then(0,18)else if isC p a lo b hi then iI p lo else(0,1)
theorem TD(p a lo b hi:Int)(w:World)(hs:bT w)(h0: -9223372036854775808<=lo)(h1:lo<9223372036854775808)(p0:0<=p)(p1:p<256):
 Calls Tryz.prog 272 #[rv a lo b hi,.int .u8 p] w fun r w'=>r=.returned (.tuple #[.int .i64 (NI p a lo b hi).1,.int .i64 (NI p a lo b hi).2])/\Below w.heap.size w w':=by
 unfold NI
 by_cases hp:p<1\/3<p
 . rw[aDk hp];exact QL p a lo b hi w p0 p1 hp
 rw[aBx hp]
 by_cases hi1:isC p a lo b hi=true
 . rw[aDk hi1];unfold iI;obtain rfl|rfl|rfl:p=1\/p=2\/p=3:=by omega
   . exact aAC _ _ a lo b hi w hs h0 h1 (fun W c=>zB lo W c.steps h0 h1) hi1
   . exact aAB _ _ a lo b hi w hs h0 h1 (fun W c=>MW lo W c h0 h1) hi1
   exact aAA a lo b hi w hs h0 h1 hi1
 rw[aBx hi1];exact aAD p a lo b hi w hs h0 h1 p0 p1 (by omega) (by simpa using hi1)
end Un
end
section
open Go.RowKit
namespace Un
open Cal
theorem atT{f lo hi:Int}:cond (f==0) (.tuple #[Sk.r4 0 lo 0 hi,.int .i64 0]) (.tuple #[Sk.r4 0 0 0 0,.int .i64 f])=Value.tuple #[rv 0 (if f=0 then lo else 0) 0 (if f=0 then hi else 0),.int .i64 f]:=by
 unfold Sk.r4 rv
 by_cases g:f=0
 . simp[g]
 rw[show (f==0)=false by simpa using g];simp[g]
theorem aLj(i lo hi f:Int)(w:World)(hs:bT w)
 (HA: ∀W,bT W->Calls Tryz.prog 141 #[.int .i64 i] W fun r w'=>r=.returned (.tuple #[.int .i64 lo,.int .i64 hi,.int .i64 f])/\Below W.heap.size W w'):
 Calls Tryz.prog 273 #[.int .i64 i,.int .u8 1] w fun r w'=>r=.returned (.tuple #[rv 0 (if f=0 then lo else 0) 0 (if f=0 then hi else 0),.int .i64 f])/\Below w.heap.size w w':=
 Sk.lJ (Sk.aW2 i lo hi f w (fun W hb=>HA W (hs.below hb))) atT
theorem aLi(i lo hi f:Int)(w:World)(hs:bT w)
 (HA: ∀W,bT W->Calls Tryz.prog 144 #[.int .i64 i] W fun r w'=>r=.returned (.tuple #[.int .i64 lo,.int .i64 hi,.int .i64 f])/\Below W.heap.size W w'):
 Calls Tryz.prog 273 #[.int .i64 i,.int .u8 2] w fun r w'=>r=.returned (.tuple #[rv 0 (if f=0 then lo else 0) 0 (if f=0 then hi else 0),.int .i64 f])/\Below w.heap.size w w':=
 Sk.lJ (Sk.aW1 i lo hi f w (fun W hb=>HA W (hs.below hb))) atT
theorem aLh(i lo hi f:Int)(w:World)(hs:bT w)
 (HA: ∀W,bT W->Calls Tryz.prog 146 #[.int .i64 i] W fun r w'=>r=.returned (.tuple #[.int .i64 lo,.int .i64 hi,.int .i64 f])/\Below W.heap.size W w'):
 Calls Tryz.prog 273 #[.int .i64 i,.int .u8 3] w fun r w'=>r=.returned (.tuple #[rv 0 (if f=0 then lo else 0) 0 (if f=0 then hi else 0),.int .i64 f])/\Below w.heap.size w w':=
 Sk.lJ (Sk.aW0 i lo hi f w (fun W hb=>HA W (hs.below hb))) atT
end Un
end
section
open Go.RowKit
namespace Un
open Cal
def FQ(p i:Int):Int × Int × Int:=if p<1\/3<p then(0,0,18)else if p=3 then(i,i,0)else if p=1 then(if -10000000000000000<=i/\i<=10000000000000000 then(st i,st (i+1) - 1,0)else(0,0,6))else jA i
theorem aLf(i p:Int)(w:World)(h0:0<=p)(h1:p<256)(hp:p<1\/3<p):
 Calls Tryz.prog 273 #[.int .i64 i,.int .u8 p] w fun r w'=>r=.returned (.tuple #[rv 0 0 0 0,.int .i64 18])/\Below w.heap.size w w':=by
 have t:decide (1<=p/\p<=3)=false:=aBy (by omega);have HK:=fun W=>lQ p W h0 h1;rw[t]at HK;replace HK:=rG HK;clear t hp
 go_enter Tryz.func273,Tryz.ntmps273
 go_wp2_with (first|(go_at_call 117;refine(HK.out _).mono ?_;rintro e w' ⟨rfl,rfl⟩))
 refine aHE (v:=.tuple #[rv 0 0 0 0,.int .i64 18]) (by simp[results,Tryz.results273,go_sem,rv]) rfl ⟨rfl,?_⟩;exact ba (aAI _ _) _
theorem GH(i:Int):((if(jA i).2.2=0 then(jA i).1 else 0)=(jA i).1)/\((if(jA i).2.2=0 then(jA i).2.1 else 0)=(jA i).2.1):=by
 unfold jA;split<;>simp
theorem aLc(p i:Int)(w:World)(hs:bT w)(h0: -9223372036854775808<=i)(h1:i<9223372036854775808)(p0:0<=p)(p1:p<256):
 Calls Tryz.prog 273 #[.int .i64 i,.int .u8 p] w fun r w'=>r=.returned (.tuple #[rv 0 (FQ p i).1 0 (FQ p i).2.1,.int .i64 (FQ p i).2.2])/\Below w.heap.size w w':=by
 unfold FQ
 by_cases hp:p<1\/3<p
 . rw[aDk hp];exact aLf i p w p0 p1 hp
 rw[aBx hp];obtain rfl|rfl|rfl:p=1\/p=2\/p=3:=by omega
 . rw[aBx (by omega),aDk rfl];refine(aLj i _ _ _ w hs (fun W c=>rM i W c)).mono ?_;rintro r w' ⟨rfl,hb⟩;refine⟨?_,hb⟩
   split<;>simp
 . rw[aBx (by omega),aBx (by omega)];refine(aLi i _ _ _ w hs (fun W c=>pU i W c h0 h1)).mono ?_;rintro r w' ⟨rfl,hb⟩;rw[(GH i).1,(GH i).2];exact⟨rfl,hb⟩
 rw[aDk rfl];refine(aLh i i i 0 w hs (fun W c=>(MV i W).mono fun r w' ⟨h1,h2⟩=>⟨h1,by rw[<-h2];exact aAI _ _⟩)).mono ?_;rintro r w' ⟨rfl,hb⟩;exact⟨by simp,hb⟩
def dN(p a lo b hi nT lim:Int):Int × Int × Int:=if p<1\/3<p then(0,0,18)else if isC p a lo b hi then(if p=3/\lo=lim then(0,0,15)else FQ p ((iI p lo).1+nT))else(0,0,1)
theorem JI(p lo:Int)(h0: -9223372036854775808<=lo)(h1:lo<9223372036854775808)(hp:p≠3)(hp2: ¬(p<1\/3<p)): -120000000000000020<=(iI p lo).1/\(iI p lo).1<=120000000000000020:=by
 unfold iI
 split
 . unfold kK;split<;>(dsimp only;omega)
 rw[aDk (by omega)];have:=wE lo;dsimp only;omega
theorem aEa{p a lo b hi:Int}(h:isC p a lo b hi=true)(hp2: ¬(p<1\/3<p)):(iI p lo).2=0:=by
 unfold isC at h;simp only[aDY,aDE]at h;have he:=h.2.1;unfold aI at he;rw[aBx hp2]at he;unfold iI;unfold mM at he
 by_cases p3:p=3
 . subst p3;simp
 rw[aBx p3]at he
 by_cases hy: -10000000000000000<=dH lo/\dH lo<=10000000000000000
 . unfold kK bF;rw[aDk hy,aDk hy]
   split
   . rfl
   split<;>rfl
 rw[aBx hy]at he;exact absurd he (by decide)
theorem pO(p a lo b hi i e x y f:Int)(w:World)(hs:bT w)(h0: -9223372036854775808<=i)(h1:i<9223372036854775807)
 (HI: ∀W,bT W->Calls Tryz.prog 272 #[rv a lo b hi,.int .u8 p] W fun r w'=>r=.returned (.tuple #[.int .i64 i,.int .i64 e])/\Below W.heap.size W w')
 (HA:e=0-> ∀W,bT W->Calls Tryz.prog 273 #[.int .i64 (i+1),.int .u8 p] W fun r w'=>r=.returned (.tuple #[rv 0 x 0 y,.int .i64 f])/\Below W.heap.size W w'):
 Calls Tryz.prog 270 #[rv a lo b hi,.int .u8 p] w fun r w'=>r=.returned (.tuple #[rv 0 (if e=0 then x else 0) 0 (if e=0 then y else 0),.int .i64 (if e=0 then f else e)])/\Below w.heap.size w w':=
 Sk.aTJ (c:=e=0) (fun h=>Sk.aWZ a lo b hi p i x y f w (fun W hb=>by have q:=HI W (hs.below hb);rw[h]at q;exact q) (fun W hb=>by rw[aDI (by omega) (by omega)];exact HA h W (hs.below hb))) (fun h=>Sk.aWY a lo b hi p i e w h (fun W hb=>HI W (hs.below hb)))
  (fun h=>by rw[show (i==9223372036854775807)=false by rw[aBA];omega];simp[h,Sk.r4,rv])
  (fun h=>by rw[show (e==0)=false by simpa using h];simp[h,Sk.r4,rv])
theorem QA(p a lo b hi:Int)(w:World)(hs:bT w)
 (HI: ∀W,bT W->Calls Tryz.prog 272 #[rv a lo b hi,.int .u8 p] W fun r w'=>r=.returned (.tuple #[.int .i64 (9223372036854775807),.int .i64 0])/\Below W.heap.size W w'):
 Calls Tryz.prog 270 #[rv a lo b hi,.int .u8 p] w fun r w'=>r=.returned (.tuple #[rv 0 0 0 0,.int .i64 15])/\Below w.heap.size w w':=
 Sk.lJ (Sk.aWX a lo b hi p w (fun W hb=>HI W (hs.below hb))) rfl
theorem next_any (p a lo b hi:Int) (w:World) (hs:bT w) (h0: -9223372036854775808<=lo) (h1:lo<9223372036854775808) (p0:0<=p) (p1:p<256):
 Calls Tryz.prog 270 #[rv a lo b hi,.int .u8 p] w fun r w'=>r=.returned (.tuple #[rv 0 (dN p a lo b hi (1) (9223372036854775807)).1 0 (dN p a lo b hi (1) (9223372036854775807)).2.1,.int .i64 (dN p a lo b hi (1) (9223372036854775807)).2.2])/\Below w.heap.size w w':=by
 have HI:=fun W c=>TD p a lo b hi W c h0 h1 p0 p1;unfold NI at HI;unfold dN
 by_cases hp:p<1\/3<p
 . simp only[aDk hp]at HI ⊢;have:=pO p a lo b hi 0 18 0 0 0 w hs (by omega) (by omega) HI (fun h=>absurd h (by omega));simpa using this
 simp only[aBx hp]at HI ⊢
 by_cases hi1:isC p a lo b hi=true
 . simp only[aDk hi1]at HI ⊢;have hz:=aEa hi1 hp;rw[hz]at HI
   by_cases ho:p=3/\lo=9223372036854775807
   . rw[aDk ho];obtain⟨rfl,rfl⟩:=ho;exact QA 3 a _ b hi w hs HI
   rw [aBx ho];have bd: -9223372036854775808<=(iI p lo).1+(1)/\(iI p lo).1+(1)<9223372036854775808/\((iI p lo).1<9223372036854775807/\ -9223372036854775808<=(iI p lo).1):=by
    by_cases p3:p=3
    . subst p3;have e:iI 3 lo=(lo,0):=by unfold iI;simp
      rw[e];have hne:lo≠9223372036854775807:=fun h=>ho ⟨rfl,h⟩;dsimp only;omega
    have:=JI p lo h0 h1 p3 hp;omega
   have HA:=fun W c=>aLc p ((iI p lo).1+(1)) W c (by omega) (by omega) p0 p1;have:=pO p a lo b hi (iI p lo).1 0 _ _ _ w hs (by omega) (by omega) HI (fun _=>HA);simpa using this
 simp only[aBx hi1]at HI ⊢;have:=pO p a lo b hi 0 1 0 0 0 w hs (by omega) (by omega) HI (fun h=>absurd h (by omega));simpa using this
theorem pK(p a lo b hi i e x y f:Int)(w:World)(hs:bT w)(h0: -9223372036854775808<i)(h1:i<9223372036854775808)
 (HI: ∀W,bT W->Calls Tryz.prog 272 #[rv a lo b hi,.int .u8 p] W fun r w'=>r=.returned (.tuple #[.int .i64 i,.int .i64 e])/\Below W.heap.size W w')
 (HA:e=0-> ∀W,bT W->Calls Tryz.prog 273 #[.int .i64 (i - 1),.int .u8 p] W fun r w'=>r=.returned (.tuple #[rv 0 x 0 y,.int .i64 f])/\Below W.heap.size W w'):
 Calls Tryz.prog 271 #[rv a lo b hi,.int .u8 p] w fun r w'=>r=.returned (.tuple #[rv 0 (if e=0 then x else 0) 0 (if e=0 then y else 0),.int .i64 (if e=0 then f else e)])/\Below w.heap.size w w':=
 Sk.aTJ (c:=e=0) (fun h=>Sk.aWW a lo b hi p i x y f w (fun W hb=>by have q:=HI W (hs.below hb);rw[h]at q;exact q) (fun W hb=>by rw[aDI (by omega) (by omega)];exact HA h W (hs.below hb))) (fun h=>Sk.aWV a lo b hi p i e w h (fun W hb=>HI W (hs.below hb)))
  (fun h=>by rw[show (i==(-9223372036854775808))=false by rw[aBA];omega];simp[h,Sk.r4,rv])
  (fun h=>by rw[show (e==0)=false by simpa using h];simp[h,Sk.r4,rv])
theorem P7(p a lo b hi:Int)(w:World)(hs:bT w)
 (HI: ∀W,bT W->Calls Tryz.prog 272 #[rv a lo b hi,.int .u8 p] W fun r w'=>r=.returned (.tuple #[.int .i64 (-9223372036854775808),.int .i64 0])/\Below W.heap.size W w'):
 Calls Tryz.prog 271 #[rv a lo b hi,.int .u8 p] w fun r w'=>r=.returned (.tuple #[rv 0 0 0 0,.int .i64 15])/\Below w.heap.size w w':=
 Sk.lJ (Sk.aWU a lo b hi p w (fun W hb=>HI W (hs.below hb))) rfl
theorem aIt (p a lo b hi:Int) (w:World) (hs:bT w) (h0: -9223372036854775808<=lo) (h1:lo<9223372036854775808) (p0:0<=p) (p1:p<256):
 Calls Tryz.prog 271 #[rv a lo b hi,.int .u8 p] w fun r w'=>r=.returned (.tuple #[rv 0 (dN p a lo b hi (-1) (-9223372036854775808)).1 0 (dN p a lo b hi (-1) (-9223372036854775808)).2.1,.int .i64 (dN p a lo b hi (-1) (-9223372036854775808)).2.2])/\Below w.heap.size w w':=by
 have HI:=fun W c=>TD p a lo b hi W c h0 h1 p0 p1;unfold NI at HI;unfold dN
 by_cases hp:p<1\/3<p
 . simp only[aDk hp]at HI ⊢;have:=pK p a lo b hi 0 18 0 0 0 w hs (by omega) (by omega) HI (fun h=>absurd h (by omega));simpa using this
 simp only[aBx hp]at HI ⊢
 by_cases hi1:isC p a lo b hi=true
 . simp only[aDk hi1]at HI ⊢;have hz:=aEa hi1 hp;rw[hz]at HI
   by_cases ho:p=3/\lo= -9223372036854775808
   . rw[aDk ho];obtain⟨rfl,rfl⟩:=ho;exact P7 3 a _ b hi w hs HI
   rw [aBx ho];have bd: -9223372036854775808<=(iI p lo).1+(-1)/\(iI p lo).1+(-1)<9223372036854775808/\(-9223372036854775808<(iI p lo).1/\(iI p lo).1<9223372036854775808):=by
    by_cases p3:p=3
    . subst p3;have e:iI 3 lo=(lo,0):=by unfold iI;simp
      rw[e];have hne:lo≠ -9223372036854775808:=fun h=>ho ⟨rfl,h⟩;dsimp only;omega
    have:=JI p lo h0 h1 p3 hp;omega
   have HA:=fun W c=>aLc p ((iI p lo).1+(-1)) W c (by omega) (by omega) p0 p1;have:=pK p a lo b hi (iI p lo).1 0 _ _ _ w hs (by omega) (by omega) HI (fun _=>HA);simpa using this
 simp only[aBx hi1]at HI ⊢;have:=pK p a lo b hi 0 1 0 0 0 w hs (by omega) (by omega) HI (fun h=>absurd h (by omega));simpa using this
end Un
end
section
open Go.RowKit Go.Lib
namespace Bk
open Un (ba bt ri rb aS aZ)
def yv(neg long:Bool)(s:ByteArray)(ex sig:Int):Value:=.agg #[.bool neg,.bool long,.string s,.int .i64 ex,.int .i64 sig]
structure Ym(p:Nat)(neg long:Bool)(s:ByteArray)(ex sig:Int)(w W:World):Prop where
 c0:W.cell? ⟨p,0,none⟩=some (.bool neg)
 c1:W.cell? ⟨p,1,none⟩=some (.bool long)
 c2:W.cell? ⟨p,2,none⟩=some (.string s)
 c3:W.cell? ⟨p,3,none⟩=some (.int .i64 ex)
 c4:W.cell? ⟨p,4,none⟩=some (.int .i64 sig)
 below:Below w.heap.size w W
theorem Ym.later{p:Nat}{neg long:Bool}{s:ByteArray}{ex sig:Int}{w W W2:World}(h:Ym p neg long s ex sig w W)(hb:Below W.heap.size W W2):Ym p neg long s ex sig w W2:=
 have g: ∀ {p:Addr} {v:Value},W.cell? p=some v->W2.cell? p=some v:=fun{p v} hc=>(hb.cell (aP1 _ _ hc)).trans hc
 ⟨g h.c0,g h.c1,g h.c2,g h.c3,g h.c4,bt h.below hb⟩
theorem Ym.new(neg long:Bool)(s:ByteArray)(ex sig:Int)(w:World)(t:TypeId):Ym w.heap.size neg long s ex sig w (w.alloc (.cells #[.bool neg,.bool long,.string s,.int .i64 ex,.int .i64 sig] t)):=by
 refine⟨?_,?_,?_,?_,?_,ba (aAI _ _) _⟩<;>simp[go_sem]
theorem Ym.drew'{p:Nat}{neg long:Bool}{s:ByteArray}{ex sig:Int}{w W:World}(h:Ym p neg long s ex sig w W):Ym p neg long s ex sig w W.drew:=h.later (aAI _ _).drew
theorem oJ(neg long:Bool)(s:ByteArray)(ex sig:Int)(w:World):
 Calls Tryz.prog 132 #[yv neg long s ex sig] w fun r w'=>r=.returned (.bool (hasB 88 s))/\Below w.heap.size w w':=by
 have HC: ∀W,Calls Tryz.prog 84 #[.string s,.string ⟨#[88]⟩] W fun e w'=>e=.returned (.bool (hasB 88 s))/\w'=W:=by
  intro W;have:=Tryz.strings_Contains_one s 88 W;rw[oC]at this;exact this
 replace HC:=rG HC;unfold yv
 go_enter Tryz.func132,Tryz.ntmps132
 go_wp2_with (go_at_call 84;with_reducible refine(HC.out _).mono ?_;rintro _ w' ⟨rfl,rfl⟩)
 go_ret
 exact⟨rfl,ba (aAI _ _) _⟩
def IW(m:Int):Int × Int:=if m<=10000000000000000 then(m,0)else(0,6)
theorem parse_any(s:ByteArray)(hd:allB bG s=true)(h1:1<=s.size)(h2:s.size<=17)(W:World):
 Calls Tryz.prog 193 #[.string s,.int .i64 10,.int .i64 64] W fun e w'=>e=.returned (.tuple #[.int .i64 (iP s),.nilIface])/\Below W.heap.size W w':=by
 have hl:s.data.toList.length=s.size:=by simp
 have hp:=VB s.data.toList (fun e=>by rw[e]at hl;have:([]:List UInt8).length=0:=rfl;omega) (yH hd) (by omega);refine(Tryz.strconv_ParseInt_10_at64_ok s (by omega) _ hp W).mono ?_;rintro e w' ⟨rfl,h⟩;refine⟨rfl,?_⟩;rcases h with rfl|⟨t,rfl⟩
 . exact aAI _ _
 exact aYB _ _ _
theorem vI(neg long:Bool)(s:ByteArray)(e:Nat)(sig:Int)(w:World)(hd:allB bG s=true)(h1:1<=s.size)(h2:s.size<=17)(he:e<=16):
 Calls Tryz.prog 155 #[yv neg long s e sig] w fun r w'=>r=.returned (.tuple #[.int .i64 (IW (fJ s e)).1,.int .i64 (IW (fJ s e)).2])/\Below w.heap.size w w':=by
 have HP:=rG (fun w=>parse_any s hd h1 h2 w);have HT:=rG (fun w=>SI e w (by omega));have hs:=aEs hd h2;have hs0:=wZ s;have hp:=aIy e (by omega);have hM:=fun w=>mul_any (iP s) (p10 e) w hs0 (by omega) (by omega) (by omega);have hv:fJ s e=iP s * p10 e:=by unfold fJ;rw[aQ4]
 have hv0:=oM s e;have hx:mulC (iP s) (p10 e)=if fJ s e<=9223372036854775807 then(fJ s e,0)else(0,15):=by unfold mulC;rw[hv]
 rw[hx]at hM;clear hx hv hd;generalize fJ s e=v at *;generalize iP s=n at *;generalize p10 e=p at *;unfold yv;have hY:=Ym.new neg long s e sig w 35
 by_cases c:v<=10000000000000000
 . have HM:Hid (∀w:World,Calls Tryz.prog 195 #[.int .i64 n,.int .i64 p] w fun r w'=>r=.returned (.tuple #[.int .i64 v,.int .i64 0])/\Below w.heap.size w w'):=rG (by intro w;have:=hM w;rw[aDk (by omega)]at this;exact this);clear hM;have hR:IW v=(v,0):=by unfold IW;rw[aDk c]
   rw[hR]
   go_enter Tryz.func155,Tryz.ntmps155
   go_upto_region 1 with(fail)
   generalize w.alloc (.cells #[.bool neg,.bool long,.string s,.int .i64 e,.int .i64 sig] 35)=W0 at hY ⊢;obtain⟨q0,q1,q2,q3,q4,qB⟩:=id hY
   go_wp2_with (first
    |(go_at_call 193;with_reducible refine(HP.out _).mono ?_;rintro _ w' ⟨rfl,hb⟩;replace hY:=hY.later hb;clear hb;obtain⟨q0,q1,q2,q3,q4,qB⟩:=id hY)
    |(go_at_call 194;with_reducible refine(HT.out _).mono ?_;rintro _ w' ⟨rfl,rfl⟩)
    |(go_at_call 195;with_reducible refine(HM.out _).mono ?_;rintro _ w' ⟨rfl,hb⟩;replace hY:=hY.later hb;clear hb;obtain⟨q0,q1,q2,q3,q4,qB⟩:=id hY))
   go_ret2
   exact⟨rfl,hY.below⟩
 have HM:Hid (∀w:World,Calls Tryz.prog 195 #[.int .i64 n,.int .i64 p] w fun r w'=>(∃y x:Int,(x≠0\/10000000000000000<y)/\r=.returned (.tuple #[.int .i64 y,.int .i64 x]))/\Below w.heap.size w w'):=rG (by
  intro w;have:=hM w
  by_cases c2:v<=9223372036854775807
  . rw[aDk c2]at this;exact this.mono fun r w' ⟨h1,h2⟩=>⟨⟨v,0,Or.inr (by omega),h1⟩,h2⟩
  rw[aBx c2]at this;exact this.mono fun r w' ⟨h1,h2⟩=>⟨⟨0,15,Or.inl (by omega),h1⟩,h2⟩)
 clear hM;have hR:IW v=(0,6):=by unfold IW;rw[aBx c]
 rw[hR]
 go_enter Tryz.func155,Tryz.ntmps155
 go_upto_region 1 with(fail)
 generalize w.alloc (.cells #[.bool neg,.bool long,.string s,.int .i64 e,.int .i64 sig] 35)=W0 at hY ⊢;obtain⟨q0,q1,q2,q3,q4,qB⟩:=id hY
 go_wp2_with (first
  |(go_at_call 193;with_reducible refine(HP.out _).mono ?_;rintro _ w' ⟨rfl,hb⟩;replace hY:=hY.later hb;clear hb;obtain⟨q0,q1,q2,q3,q4,qB⟩:=id hY)
  |(go_at_call 194;with_reducible refine(HT.out _).mono ?_;rintro _ w' ⟨rfl,rfl⟩)
  |(go_at_call 195;with_reducible refine(HM.out _).mono ?_;rintro _ w' ⟨⟨y,x,hxy,rfl⟩,hb⟩;replace hY:=hY.later hb;clear hb;obtain⟨q0,q1,q2,q3,q4,qB⟩:=id hY))
 all_goals go_ret2
 all_goals first|exact⟨rfl,hY.below⟩|(exfalso;omega)
theorem Q7(neg long:Bool)(s:ByteArray)(ex sig:Int)(w:World)(hs:s.size<=1000):
 Calls Tryz.prog 154 #[yv neg long s ex sig] w fun r w'=>r=.returned (.bool (fK s ex))/\Below w.heap.size w w':=by
 have hY:=Ym.new neg long s ex sig w 35;have HO:=fun w=>ZR s w;unfold CZ at HO
 by_cases c1: ¬(1<=s.size)
 . have hF:fK s ex=false:=by
    unfold fK;simp;omega
   rw[hF];clear hF;clear HO;unfold yv
   go_enter Tryz.func154,Tryz.ntmps154
   go_upto_region 1 with(fail)
   generalize w.alloc (.cells #[.bool neg,.bool long,.string s,.int .i64 ex,.int .i64 sig] 35)=W0 at hY ⊢;obtain⟨q0,q1,q2,q3,q4,qB⟩:=id hY
   go_wp2_with fail
   go_ret
   exact⟨rfl,hY.below⟩
 replace c1:1<=s.size:=by omega
 by_cases c2: ¬(s.size<=17)
 . have hF:fK s ex=false:=by
    unfold fK;simp;omega
   rw[hF];clear hF;clear HO;unfold yv
   go_enter Tryz.func154,Tryz.ntmps154
   go_upto_region 1 with(fail)
   generalize w.alloc (.cells #[.bool neg,.bool long,.string s,.int .i64 ex,.int .i64 sig] 35)=W0 at hY ⊢;obtain⟨q0,q1,q2,q3,q4,qB⟩:=id hY
   go_wp2_with fail
   go_ret
   exact⟨rfl,hY.below⟩
 replace c2:s.size<=17:=by omega
 by_cases c3: ¬(allB bG s=true)
 . have hF:fK s ex=false:=by
    unfold fK;rw[aTj]at c3;simp[c3]
   rw[hF];clear hF;rw[show allB bG s=false by simpa using c3]at HO;replace HO:=rG HO;clear c3;unfold yv
   go_enter Tryz.func154,Tryz.ntmps154
   go_upto_region 1 with(fail)
   generalize w.alloc (.cells #[.bool neg,.bool long,.string s,.int .i64 ex,.int .i64 sig] 35)=W0 at hY ⊢;obtain⟨q0,q1,q2,q3,q4,qB⟩:=id hY
   go_wp2_with (first|(go_at_call 152;with_reducible refine(HO.out _).mono ?_;rintro _ w' ⟨rfl,hb⟩;replace hY:=hY.later hb;clear hb;obtain⟨q0,q1,q2,q3,q4,qB⟩:=id hY))
   go_ret
   exact⟨rfl,hY.below⟩
 have hd:allB bG s=true:=by simpa using c3
 rw[hd]at HO;replace HO:=rG HO;clear c3;have l0:0<s.size:=by omega
 by_cases c4: ¬(aX s 0≠48)
 . have hF:fK s ex=false:=by
    unfold fK;have:aX s 0=48:=by omega
    simp[this]
   have c4b:((s[0]'l0).toNat:Int)=48:=by rw[<-bQ s 0 l0];omega
   rw[hF];clear hF;unfold yv
   go_enter Tryz.func154,Tryz.ntmps154
   go_upto_region 1 with(fail)
   generalize w.alloc (.cells #[.bool neg,.bool long,.string s,.int .i64 ex,.int .i64 sig] 35)=W0 at hY ⊢;obtain⟨q0,q1,q2,q3,q4,qB⟩:=id hY
   go_wp2_with (first|(go_at_call 152;with_reducible refine(HO.out _).mono ?_;rintro _ w' ⟨rfl,hb⟩;replace hY:=hY.later hb;clear hb;obtain⟨q0,q1,q2,q3,q4,qB⟩:=id hY))
   go_ret
   exact⟨rfl,hY.below⟩
 have c4':aX s 0≠48:=by simpa using c4
 clear c4;have c4b: ¬(((s[0]'(by omega)).toNat:Int)=48):=by rw[<-bQ s 0 (by omega)];exact c4'
 have l0:0<s.size:=by omega
 by_cases c5: ¬(0<=ex)
 . have hF:fK s ex=false:=by
    unfold fK;simp;omega
   rw[hF];clear hF;unfold yv
   go_enter Tryz.func154,Tryz.ntmps154
   go_upto_region 1 with(fail)
   generalize w.alloc (.cells #[.bool neg,.bool long,.string s,.int .i64 ex,.int .i64 sig] 35)=W0 at hY ⊢;obtain⟨q0,q1,q2,q3,q4,qB⟩:=id hY
   go_wp2_with (first|(go_at_call 152;with_reducible refine(HO.out _).mono ?_;rintro _ w' ⟨rfl,hb⟩;replace hY:=hY.later hb;clear hb;obtain⟨q0,q1,q2,q3,q4,qB⟩:=id hY))
   go_ret
   exact⟨rfl,hY.below⟩
 replace c5:0<=ex:=by omega
 by_cases c6: ¬(ex<=16)
 . have hF:fK s ex=false:=by
    unfold fK;simp;omega
   rw[hF];clear hF;unfold yv
   go_enter Tryz.func154,Tryz.ntmps154
   go_upto_region 1 with(fail)
   generalize w.alloc (.cells #[.bool neg,.bool long,.string s,.int .i64 ex,.int .i64 sig] 35)=W0 at hY ⊢;obtain⟨q0,q1,q2,q3,q4,qB⟩:=id hY
   go_wp2_with (first|(go_at_call 152;with_reducible refine(HO.out _).mono ?_;rintro _ w' ⟨rfl,hb⟩;replace hY:=hY.later hb;clear hb;obtain⟨q0,q1,q2,q3,q4,qB⟩:=id hY))
   go_ret
   exact⟨rfl,hY.below⟩
 replace c6:ex<=16:=by omega
 by_cases c7: ¬(¬(ex=0/\s.size<5))
 . have hF:fK s ex=false:=by
    unfold fK;have h1:ex=0:=by omega
    have h2:s.size<5:=by omega
    simp[h1,h2]
   rw[hF];clear hF;unfold yv
   go_enter Tryz.func154,Tryz.ntmps154
   go_upto_region 1 with(fail)
   generalize w.alloc (.cells #[.bool neg,.bool long,.string s,.int .i64 ex,.int .i64 sig] 35)=W0 at hY ⊢;obtain⟨q0,q1,q2,q3,q4,qB⟩:=id hY;have c7a:ex=0:=by omega
   have c7b:s.size<5:=by omega
   go_wp2_with (first|(go_at_call 152;with_reducible refine(HO.out _).mono ?_;rintro _ w' ⟨rfl,hb⟩;replace hY:=hY.later hb;clear hb;obtain⟨q0,q1,q2,q3,q4,qB⟩:=id hY))
   go_ret
   exact⟨rfl,hY.below⟩
 replace c7: ¬(ex=0/\s.size<5):=by omega
 obtain⟨e,rfl⟩: ∃e:Nat,ex=e:=⟨ex.toNat,by omega⟩;have hG:=fun w=>vI neg long s e sig w hd c1 c2 (by omega);have hL:fK s e=decide (fJ s e<=10000000000000000):=by
  unfold fK;have h7:(decide ((e:Int)=0)&&decide (s.size<5))=false:=by
   rw[aPj];intro h;simp at h;omega
  rw[hd,h7];simp[c1,c2,c4',show(e:Int)<=16 by omega]
 rw[hL];clear hL;generalize fJ s e=v at *;clear hd;have hE:(((e:Int)==0)=true/\ ¬(s.size:Int)<5)\/((e:Int)==0)=false:=by
  by_cases h0:(e:Int)=0
  . exact .inl ⟨by rw[h0];rfl,by omega⟩
  exact .inr (by rw[aBA];exact h0)
 rcases hE with⟨hE,hE2⟩|hE
 all_goals
  by_cases c:v<=10000000000000000
  . rw[show IW v=(v,0) by unfold IW;rw[aDk c]]at hG;have HG:=rG hG;clear hG;unfold yv at HG;rw[aBz c];unfold yv
    go_enter Tryz.func154,Tryz.ntmps154
    go_upto_region 1 with(fail)
    generalize w.alloc (.cells #[.bool neg,.bool long,.string s,.int .i64 e,.int .i64 sig] 35)=W0 at hY ⊢;obtain⟨q0,q1,q2,q3,q4,qB⟩:=id hY
    go_wp2_with (first|(go_at_call 152;with_reducible refine(HO.out _).mono ?_;rintro _ w' ⟨rfl,hb⟩;replace hY:=hY.later hb;clear hb;obtain⟨q0,q1,q2,q3,q4,qB⟩:=id hY)|(go_at_call 155;with_reducible refine(HG.out _).mono ?_;rintro _ w' ⟨rfl,hb⟩;replace hY:=hY.later hb;clear hb;obtain⟨q0,q1,q2,q3,q4,qB⟩:=id hY))
    all_goals go_ret
    all_goals first|exact⟨rfl,hY.below⟩|(exfalso;omega)|(exfalso;rename_i h;simp only[aGw]at h;omega)
  rw[show IW v=(0,6) by unfold IW;rw[aBx c]]at hG;have HG:=rG hG;clear hG;unfold yv at HG;rw[aBy c];unfold yv
  go_enter Tryz.func154,Tryz.ntmps154
  go_upto_region 1 with(fail)
  generalize w.alloc (.cells #[.bool neg,.bool long,.string s,.int .i64 e,.int .i64 sig] 35)=W0 at hY ⊢;obtain⟨q0,q1,q2,q3,q4,qB⟩:=id hY
  go_wp2_with (first|(go_at_call 152;with_reducible refine(HO.out _).mono ?_;rintro _ w' ⟨rfl,hb⟩;replace hY:=hY.later hb;clear hb;obtain⟨q0,q1,q2,q3,q4,qB⟩:=id hY)|(go_at_call 155;with_reducible refine(HG.out _).mono ?_;rintro _ w' ⟨rfl,hb⟩;replace hY:=hY.later hb;clear hb;obtain⟨q0,q1,q2,q3,q4,qB⟩:=id hY))
  all_goals go_ret
  all_goals first|exact⟨rfl,hY.below⟩|(exfalso;omega)|(exfalso;rename_i h;simp only[aGw]at h;omega)
end Bk
end
section
open Go.RowKit Go.Lib
namespace Bk
open Un (ba bt ri rb aS aZ)
theorem aE1(s:ByteArray):(Lib.trimB s.data.toList 48=[])↔allB isZ s=true:=by
 rw[<-trimS_one,aE0];unfold allB isZ;rw[aL4,aL4];constructor
 . intro h b hb;have:=h b hb;rw[aGw]at this;subst this;rfl
 intro h b hb;have:=aL2 (h b hb);rw[aGw];exact aX6.1 (by show b.toNat=48;omega)
theorem aE2(s:ByteArray)(hs:s.size<=1000)(W:World):
 Calls Tryz.prog 153 #[.string s,.string ⟨#[48]⟩] W fun e w'=>(∃t:List UInt8,(t=[]↔allB isZ s=true)/\e=.returned (.string ⟨t.toArray⟩))/\Below W.heap.size W w':=by
 refine(Tryz.strings_Trim_one s 48 (by decide) W (by omega)).mono ?_;rintro e w' ⟨rfl,h⟩;refine⟨⟨_,aE1 s,rfl⟩,?_⟩;rcases h with rfl|rfl
 . exact aAI _ _
 exact(aAI _ _).drew
theorem JY (neg long:Bool) (s:ByteArray) (ex sig:Int) (w:World) (hs:s.size<=1000):
 Calls Tryz.prog 131 #[yv neg long s ex sig] w fun r w'=>r=.returned (.int .i64 (if G8 neg long s ex sig then 0 else 6))/\Below w.heap.size w w':=by
 obtain⟨R,hR⟩: ∃R:Int,R=if G8 neg long s ex sig then 0 else 6:=⟨_,rfl⟩
 rw[<-hR];replace hR:=rG hR;have hY:=Ym.new neg long s ex sig w 35;have hO:=fun w=>aFF s w;unfold YC at hO;have hT:=fun w=>aE2 s hs w;have HM:=rG (fun w=>oJ neg long s ex sig w);have HL:=rG (fun w=>Q7 neg long s ex sig w hs);unfold yv at HM HL;unfold yv
 go_enter Tryz.func131,Tryz.ntmps131
 go_upto_region 1 with(fail)
 generalize w.alloc (.cells #[.bool neg,.bool long,.string s,.int .i64 ex,.int .i64 sig] 35)=W0 at hY ⊢;obtain⟨q0,q1,q2,q3,q4,qB⟩:=id hY;obtain⟨S,hS⟩: ∃S,S=iC neg s ex sig:=⟨_,rfl⟩;replace hS:=rG hS
 go_cut [3] (fun s3 wx=>s3=.bool S/\Ym w.heap.size neg long s ex sig w wx)
 case first=>
  clear HL
  by_cases c1: ¬s.size=4
  . have hF:iC neg s ex sig=false:=by unfold iC;simp[c1]
    obtain rfl:S=false:=hS.out.trans hF;clear hF hS hO hT HM
    go_wp2_with fail
    go_meet
    exact⟨rfl,hY⟩
  replace c1:s.size=4:=by omega
  by_cases c2:allB bV s=true
  case neg=>
   have hF:iC neg s ex sig=false:=by unfold iC;simp[c2]
   obtain rfl:S=false:=hS.out.trans hF;clear hF hS hT HM;rw[show allB bV s=false by simpa using c2]at hO;have HO:=rG hO;clear hO c2
   go_wp2_with (first|(go_at_call 152;with_reducible refine(HO.out _).mono ?_;rintro _ w' ⟨rfl,hb⟩;replace hY:=hY.later hb;clear hb;obtain⟨q0,q1,q2,q3,q4,qB⟩:=id hY))
   go_meet
   exact⟨rfl,hY⟩
  rw[c2]at hO;have HO:=rG hO;clear hO
  by_cases c3: ¬ex=0
  . have hF:iC neg s ex sig=false:=by unfold iC;simp[c3]
    obtain rfl:S=false:=hS.out.trans hF;clear hF hS hT HM c2
    go_wp2_with (first|(go_at_call 152;with_reducible refine(HO.out _).mono ?_;rintro _ w' ⟨rfl,hb⟩;replace hY:=hY.later hb;clear hb;obtain⟨q0,q1,q2,q3,q4,qB⟩:=id hY))
    go_meet
    exact⟨rfl,hY⟩
  obtain rfl:ex=0:=by omega
  have hF:iC neg s 0 sig=(!(neg&&allB isZ s)&& !(!decide (sig=0)&&hasB 88 s)):=by unfold iC;simp[c1,c2]
  have hV:=hS.out.trans hF;clear hF hS c2 c3;generalize hasB 88 s=x at HM hV
  cases neg
  . clear hT
    by_cases c4:sig=0
    . subst c4;obtain rfl:S=true:=by rw[hV];simp
      clear hV HM
      go_wp2_with (first|(go_at_call 152;with_reducible refine(HO.out _).mono ?_;rintro _ w' ⟨rfl,hb⟩;replace hY:=hY.later hb;clear hb;obtain⟨q0,q1,q2,q3,q4,qB⟩:=id hY))
      go_meet
      exact⟨rfl,hY⟩
    have c4b:(sig !=0)=true:=by rw[aN0];exact c4
    cases x
    . obtain rfl:S=true:=by rw[hV];simp
      clear hV
      go_wp2_with (first|(go_at_call 152;with_reducible refine(HO.out _).mono ?_;rintro _ w' ⟨rfl,hb⟩;replace hY:=hY.later hb;clear hb;obtain⟨q0,q1,q2,q3,q4,qB⟩:=id hY)|(go_at_call 132;with_reducible refine(HM.out _).mono ?_;rintro _ w' ⟨rfl,hb⟩;replace hY:=hY.later hb;clear hb;obtain⟨q0,q1,q2,q3,q4,qB⟩:=id hY))
      go_meet
      exact⟨rfl,hY⟩
    obtain rfl:S=false:=by rw[hV];simp[c4]
    clear hV
    go_wp2_with (first|(go_at_call 152;with_reducible refine(HO.out _).mono ?_;rintro _ w' ⟨rfl,hb⟩;replace hY:=hY.later hb;clear hb;obtain⟨q0,q1,q2,q3,q4,qB⟩:=id hY)|(go_at_call 132;with_reducible refine(HM.out _).mono ?_;rintro _ w' ⟨rfl,hb⟩;replace hY:=hY.later hb;clear hb;obtain⟨q0,q1,q2,q3,q4,qB⟩:=id hY))
    go_meet
    exact⟨rfl,hY⟩
  cases hz:allB isZ s
  . rw [hz]at hT hV;have HT:Hid (∀W,Calls Tryz.prog 153 #[.string s,.string ⟨#[48]⟩] W fun e w'=>(∃u:ByteArray,u.toList.isEmpty=false/\e=.returned (.string u))/\Below W.heap.size W w'):=rG (by
     intro W;refine(hT W).mono ?_;rintro e w' ⟨⟨t,ht,h⟩,hb⟩;refine⟨⟨_,?_,h⟩,hb⟩;rw[aXi]
     cases t with
     |nil=>exact absurd (ht.1 rfl) (by decide)
     |cons a b=>rfl)
    clear hT hz
    by_cases c4:sig=0
    . subst c4;obtain rfl:S=true:=by rw[hV];simp
      clear hV HM
      go_wp2_with (first|(go_at_call 152;with_reducible refine(HO.out _).mono ?_;rintro _ w' ⟨rfl,hb⟩;replace hY:=hY.later hb;clear hb;obtain⟨q0,q1,q2,q3,q4,qB⟩:=id hY)|(go_at_call 153;with_reducible refine(HT.out _).mono ?_;rintro _ w' ⟨⟨u,hu,rfl⟩,hb⟩;replace hY:=hY.later hb;clear hb;obtain⟨q0,q1,q2,q3,q4,qB⟩:=id hY))
      go_meet
      exact⟨rfl,hY⟩
    have c4b:(sig !=0)=true:=by rw[aN0];exact c4
    cases x
    . obtain rfl:S=true:=by rw[hV];simp
      clear hV
      go_wp2_with (first|(go_at_call 152;with_reducible refine(HO.out _).mono ?_;rintro _ w' ⟨rfl,hb⟩;replace hY:=hY.later hb;clear hb;obtain⟨q0,q1,q2,q3,q4,qB⟩:=id hY)|(go_at_call 153;with_reducible refine(HT.out _).mono ?_;rintro _ w' ⟨⟨u,hu,rfl⟩,hb⟩;replace hY:=hY.later hb;clear hb;obtain⟨q0,q1,q2,q3,q4,qB⟩:=id hY)|(go_at_call 132;with_reducible refine(HM.out _).mono ?_;rintro _ w' ⟨rfl,hb⟩;replace hY:=hY.later hb;clear hb;obtain⟨q0,q1,q2,q3,q4,qB⟩:=id hY))
      go_meet
      exact⟨rfl,hY⟩
    obtain rfl:S=false:=by rw[hV];simp[c4]
    clear hV
    go_wp2_with (first|(go_at_call 152;with_reducible refine(HO.out _).mono ?_;rintro _ w' ⟨rfl,hb⟩;replace hY:=hY.later hb;clear hb;obtain⟨q0,q1,q2,q3,q4,qB⟩:=id hY)|(go_at_call 153;with_reducible refine(HT.out _).mono ?_;rintro _ w' ⟨⟨u,hu,rfl⟩,hb⟩;replace hY:=hY.later hb;clear hb;obtain⟨q0,q1,q2,q3,q4,qB⟩:=id hY)|(go_at_call 132;with_reducible refine(HM.out _).mono ?_;rintro _ w' ⟨rfl,hb⟩;replace hY:=hY.later hb;clear hb;obtain⟨q0,q1,q2,q3,q4,qB⟩:=id hY))
    go_meet
    exact⟨rfl,hY⟩
  rw[hz]at hT hV;have HT:Hid (∀W,Calls Tryz.prog 153 #[.string s,.string ⟨#[48]⟩] W fun e w'=>e=.returned (.string ⟨#[]⟩)/\Below W.heap.size W w'):=rG (by
   intro W;refine(hT W).mono ?_;rintro e w' ⟨⟨t,ht,h⟩,hb⟩;obtain rfl:=ht.2 rfl;exact⟨h,hb⟩)
  clear hT hz;obtain rfl:S=false:=by rw[hV];rfl
  clear hV
  go_wp2_with (first|(go_at_call 152;with_reducible refine(HO.out _).mono ?_;rintro _ w' ⟨rfl,hb⟩;replace hY:=hY.later hb;clear hb;obtain⟨q0,q1,q2,q3,q4,qB⟩:=id hY)|(go_at_call 153;with_reducible refine(HT.out _).mono ?_;rintro _ w' ⟨rfl,hb⟩;replace hY:=hY.later hb;clear hb;obtain⟨q0,q1,q2,q3,q4,qB⟩:=id hY))
  go_meet
  exact⟨rfl,hY⟩
 case rest=>
  obtain⟨rfl,hY⟩:=hcut;obtain rfl:=hS.out;clear hS hO hT HM;obtain⟨q0,q1,q2,q3,q4,qB⟩:=id hY;have hR2:=hR.out;clear hR;unfold G8 at hR2
  cases long
  . have hk:iC neg s ex sig=true->ex=0:=by unfold iC;intro h;simp at h;exact h.2.2.1
    simp only[aMB,aSC]at hR2;generalize iC neg s ex sig=ok at *;clear HL;have HR:=rG hR2;clear hR2
    cases ok
    . clear hk
      go_wp2_with fail
      go_ret
      exact⟨ri (by rw[HR.out];simp),hY.below⟩
    have hk2:ex=0:=hk rfl;clear hk
    by_cases d1:sig<0
    . go_wp2_with fail
      go_ret
      exact⟨ri (by rw[HR.out,show decide (0<=sig)=false from aBy (by omega)];rfl),hY.below⟩
    by_cases d2:sig<=s.size+ex
    . go_wp2_with fail
      go_ret
      exact⟨ri (by rw[HR.out,show decide (0<=sig)=true from aBz (by omega),show decide (sig<=s.size+ex)=true from aBz (by omega)];rfl),hY.below⟩
    go_wp2_with fail
    go_ret
    exact⟨ri (by rw[HR.out,show decide (sig<=s.size+ex)=false from aBy (by omega),aTq,aTq];rfl),hY.below⟩
  have hk:fK s ex=true->0<=ex/\ex<=16:=by unfold fK;intro h;simp at h;omega
  simp only[aV5]at hR2;generalize iC neg s ex sig=o2 at *;generalize fK s ex=ok at *;have HR:=rG hR2;clear hR2
  cases ok
  . clear hk
    go_wp2_with (first|(go_at_call 154;with_reducible refine(HL.out _).mono ?_;rintro _ w' ⟨rfl,hb⟩;replace hY:=hY.later hb;clear hb;obtain⟨q0,q1,q2,q3,q4,qB⟩:=id hY))
    go_ret
    exact⟨ri (by rw[HR.out];simp),hY.below⟩
  have hk2:=hk rfl;clear hk
  by_cases d1:sig<0
  . go_wp2_with (first|(go_at_call 154;with_reducible refine(HL.out _).mono ?_;rintro _ w' ⟨rfl,hb⟩;replace hY:=hY.later hb;clear hb;obtain⟨q0,q1,q2,q3,q4,qB⟩:=id hY))
    go_ret
    exact⟨ri (by rw[HR.out,show decide (0<=sig)=false from aBy (by omega)];rfl),hY.below⟩
  by_cases d2:sig<=s.size+ex
  . go_wp2_with (first|(go_at_call 154;with_reducible refine(HL.out _).mono ?_;rintro _ w' ⟨rfl,hb⟩;replace hY:=hY.later hb;clear hb;obtain⟨q0,q1,q2,q3,q4,qB⟩:=id hY))
    go_ret
    exact⟨ri (by rw[HR.out,show decide (0<=sig)=true from aBz (by omega),show decide (sig<=s.size+ex)=true from aBz (by omega)];rfl),hY.below⟩
  go_wp2_with (first|(go_at_call 154;with_reducible refine(HL.out _).mono ?_;rintro _ w' ⟨rfl,hb⟩;replace hY:=hY.later hb;clear hb;obtain⟨q0,q1,q2,q3,q4,qB⟩:=id hY))
  go_ret
  exact⟨ri (by rw[HR.out,show decide (sig<=s.size+ex)=false from aBy (by omega),aTq,aTq];rfl),hY.below⟩
def yVal(neg:Bool)(s:ByteArray)(ex:Int):Int:=if neg then -fJ s ex else fJ s ex
theorem zC(neg long:Bool)(s:ByteArray)(ex sig:Int)(w:World)(hs:s.size<=1000)(hk:G8 neg long s ex sig=true)(hx:hasB 88 s=false):
 Calls Tryz.prog 133 #[yv neg long s ex sig] w fun r w'=>r=.returned (.tuple #[.int .i64 (yVal neg s ex),.int .i64 0])/\Below w.heap.size w w':=by
 have hK:=fun w=>JY neg long s ex sig w hs;have hM:=fun w=>oJ neg long s ex sig w;rw[hk]at hK;rw[hx]at hM;have HK:=rG hK;have HM:=rG hM;clear hK hM;have hf: ∃e:Nat,ex=e/\e<=16/\allB bG s=true/\1<=s.size/\s.size<=17/\fJ s ex<=10000000000000000:=by
  cases long
  . obtain⟨h1,h2,h3,_⟩:=iD hk;have hd:=(jV h2).1 hx;have:=oO hd h1;have hz:fJ s 0=iP s:=by unfold fJ p10;simp
    exact⟨0,h3,by omega,hd,by omega,by omega,by rw[h3,hz];omega⟩
  obtain⟨h1,h2,h3,h4,h5,h6,h7,_⟩:=jI hk;exact⟨ex.toNat,by omega,by omega,h3,h1,h2,h7⟩
 obtain⟨e,rfl,he,hd,h1,h2,hm⟩:=hf;have hG:=fun w=>vI neg long s e sig w hd h1 h2 he;have hm0:=oM s e;unfold yVal;clear hd hk hx;generalize fJ s e=v at *;rw[show IW v=(v,0) by unfold IW;rw[aDk hm]]at hG;have HG:=rG hG;clear hG;unfold yv at HK HM HG;have hY:=Ym.new neg long s e sig w 35
 cases neg
 . unfold yv
   go_enter Tryz.func133,Tryz.ntmps133
   go_upto_region 1 with(fail)
   generalize w.alloc (.cells #[.bool false,.bool long,.string s,.int .i64 e,.int .i64 sig] 35)=W0 at hY ⊢;obtain⟨q0,q1,q2,q3,q4,qB⟩:=id hY
   go_wp2_with (first|(go_at_call 131;with_reducible refine(HK.out _).mono ?_;rintro _ w' ⟨rfl,hb⟩;replace hY:=hY.later hb;clear hb;obtain⟨q0,q1,q2,q3,q4,qB⟩:=id hY)|(go_at_call 132;with_reducible refine(HM.out _).mono ?_;rintro _ w' ⟨rfl,hb⟩;replace hY:=hY.later hb;clear hb;obtain⟨q0,q1,q2,q3,q4,qB⟩:=id hY)|(go_at_call 155;with_reducible refine(HG.out _).mono ?_;rintro _ w' ⟨rfl,hb⟩;replace hY:=hY.later hb;clear hb;obtain⟨q0,q1,q2,q3,q4,qB⟩:=id hY))
   go_ret2
   exact⟨rfl,hY.below⟩
 unfold yv
 go_enter Tryz.func133,Tryz.ntmps133
 go_upto_region 1 with(fail)
 generalize w.alloc (.cells #[.bool true,.bool long,.string s,.int .i64 e,.int .i64 sig] 35)=W0 at hY ⊢;obtain⟨q0,q1,q2,q3,q4,qB⟩:=id hY
 go_wp2_with (first|(go_at_call 131;with_reducible refine(HK.out _).mono ?_;rintro _ w' ⟨rfl,hb⟩;replace hY:=hY.later hb;clear hb;obtain⟨q0,q1,q2,q3,q4,qB⟩:=id hY)|(go_at_call 132;with_reducible refine(HM.out _).mono ?_;rintro _ w' ⟨rfl,hb⟩;replace hY:=hY.later hb;clear hb;obtain⟨q0,q1,q2,q3,q4,qB⟩:=id hY)|(go_at_call 155;with_reducible refine(HG.out _).mono ?_;rintro _ w' ⟨rfl,hb⟩;replace hY:=hY.later hb;clear hb;obtain⟨q0,q1,q2,q3,q4,qB⟩:=id hY))
 go_ret2
 exact⟨rfl,hY.below⟩
end Bk
end
section
open Go.RowKit Go.Lib
namespace Bk
open Un (ba bt ri rb aS aZ gW bT)
open Cal
def bH(c:Int):Int:=if c=21\/c=25\/c=31 then 3 else if c=22\/c=26\/c=32 then 6 else if c=23\/c=27\/c=29\/c=39 then 9 else if c=24\/c=28\/c=30 then 12 else if c=34 then 4 else if c=35\/c=41 then 7 else if c=36 then 10 else if c=38 then 5 else 1
def eH(c:Int):Int:=if c<=36 then 3 else if c<=39 then 4 else 6
def qO(i:Nat):Int:=if i % 2=0 then bH (21+i / 2)else eH (21+i / 2)
structure lD(w:World):Prop where
 cal:bT w
 span: ∀i:Nat,i<42->w.cell? ⟨1,i,none⟩=some (.int .i64 (qO i))
 syn: ∃t p,w.cell? ⟨3,0,none⟩=some (.iface t p)
 ran: ∃t p,w.cell? ⟨4,0,none⟩=some (.iface t p)
theorem lD.below{w w':World}(h:lD w)(hb:Below w.heap.size w w'):lD w':=
 ⟨h.cal.below hb,fun i hi=>aTh hb (h.span i hi),by obtain⟨t,p,h⟩:=h.syn;exact⟨t,p,aTh hb h⟩,by obtain⟨t,p,h⟩:=h.ran;exact⟨t,p,aTh hb h⟩⟩
theorem aOz(s:ByteArray)(v:Int)(h:atoiAll s.data.toList=.ok v)(hs:s.size<=1000)(W:World):
 Calls Tryz.prog 129 #[.string s] W fun e w'=>e=.returned (.tuple #[.int .i64 v,.nilIface])/\Below W.heap.size W w':=by
 refine(Tryz.strconv_Atoi_ok s (by omega) v h W).mono ?_;rintro e w' ⟨rfl,h⟩;refine⟨rfl,?_⟩;rcases h with rfl|⟨t,rfl⟩
 . exact aAI _ _
 exact aYB _ _ _
theorem aLb(s:ByteArray)(h: ∀v,atoiAll s.data.toList≠ .ok v)(hs:s.size<=1000)(W:World)(hk:lD W):
 Calls Tryz.prog 129 #[.string s] W fun e w'=>(∃x t p,e=.returned (.tuple #[.int .i64 x,.iface t p]))/\Below W.heap.size W w':=by
 obtain⟨t1,p1,h1⟩:=hk.syn;obtain⟨t2,p2,h2⟩:=hk.ran
 by_cases hh:atoiAll s.data.toList=.range
 . refine(Tryz.strconv_Atoi_range s (by omega) hh _ W h2 (.inr ⟨_,_,rfl⟩)).mono ?_;rintro e w' ⟨N,rfl,_,_,hb⟩;exact⟨⟨_,_,_,rfl⟩,hb⟩
 refine(Tryz.strconv_Atoi_syntax s (by omega) h hh _ W h1 (.inr ⟨_,_,rfl⟩)).mono ?_;rintro e w' ⟨N,rfl,_,_,hb⟩;exact⟨⟨_,_,_,rfl⟩,hb⟩
theorem aZj(pn pa pb pe:Addr)(n a b:Int)(u:FrameMode)(w:World)(hn:w.cell? pn=some (.int .i64 n))(ha:w.cell? pa=some (.int .i64 a))(hb:w.cell? pb=some (.int .i64 b))(h:decide (a<n)=decide (0<b)):
 CallsD Tryz.prog 177 #[.pointer (some pn),.pointer (some pa),.pointer (some pb),.pointer (some pe)] u w fun e u' w'=>u'=u/\(e=.returned (.tuple #[])/\w'=w):=by
 by_cases c:0<b
 . have c2:a<n:=by rw[aBz c]at h;exact aL2 h
   clear h
   go_enter_d Tryz.func177,Tryz.ntmps177
   go_wp2
   go_end0
   exact⟨rfl,rfl⟩
 have c2: ¬a<n:=by rw[aBy c]at h;exact aMm h
 clear h
 go_enter_d Tryz.func177,Tryz.ntmps177
 go_wp2
 go_end0
 exact⟨rfl,rfl⟩
theorem NG(a b:Int)(w:World)(a0: -9223372036854775808<=a)(a1:a<9223372036854775808)(b0:0<b)(b1:b<9223372036854775808)(h:a+b<9223372036854775808):
 Calls Tryz.prog 148 #[.int .i64 a,.int .i64 b] w fun r w'=>r=.returned (.tuple #[.int .i64 (a+b),.int .i64 0])/\Below w.heap.size w w':=by
 have hmf: ∀(fn:Fn) (first cap:Array Value) (w:World),(Instr.makeFunc fn first cap).run Tryz.prog w=.ok (.func fn first cap) w:=fun _ _ _ _=>rfl;have hb0: ¬b=0:=by omega
 go_enter_defers Tryz.func148,Tryz.ntmps148
 go_wp2
 refine leaves_cons (f:=177) (args:= #[.pointer (some ⟨w.heap.size+1+1,0,none⟩),.pointer (some ⟨w.heap.size,0,none⟩),.pointer (some ⟨w.heap.size+1,0,none⟩),.pointer (some ⟨w.heap.size+1+1+1,0,none⟩)]) (by simp) (by simp[go_sem]) ?_;refine(aZj _ _ _ _ (a+b) a b .returning _ (by simp[go_sem]) (by simp[go_sem]) (by simp[go_sem]) (by rw[aBz b0];exact aBz (by omega))).mono ?_;rintro e u' w'' ⟨rfl,rfl,rfl⟩;simp[Leaves,settle,results,Tryz.results148,go_sem];exact ba (ba (ba (ba (aAI _ _) _) _) _) _
def QE(y m k:Int):Int × Int:=((12 * y+(m - 1)+k) / 12,(12 * y+(m - 1)+k) % 12+1)
theorem VL(y m k:Int)(w:World)(h0: -10000000000000000<=y)(h1:y<=10000000000000000)(m0:1<=m)(m1:m<=12)(k0:0<k)(k1:k<=12)(hz:(QE y m k).1<=10000000000000000):
 Calls Tryz.prog 158 #[.int .i64 y,.int .i64 m,.int .i64 k] w fun r w'=>r=.returned (.tuple #[.int .i64 (QE y m k).1,.int .i64 (QE y m k).2,.int .i64 0])/\Below w.heap.size w w':=by
 have HC:Hid (∀w:World,Calls Tryz.prog 162 #[.int .i64 y,.int .i64 m] w fun e w'=>e=.returned (.int .i64 0)/\w=w'):=rG (by
  intro w;have:=Un.jJ y m w;unfold Un.sJ at this;rw[aDk ⟨h0,h1⟩,aDk ⟨m0,m1⟩]at this;exact this)
 have HA:=rG (fun w=>NG (12 * y+(m - 1)) k w (by omega) (by omega) k0 (by omega) (by omega));have hA1: -9223372036854775808<=12 * y+(m - 1)+k:=by omega
 have hA2:12 * y+(m - 1)+k<9223372036854775808:=by omega
 have HD:=rG (fun w=>Un.uH (12 * y+(m - 1)+k) 12 w (by omega) (by omega) hA1 hA2);have HM:=rG (fun w=>Un.JH (12 * y+(m - 1)+k) 12 w (by omega) (by omega) hA1 hA2);unfold QE at *;have g0: -10000000000000000<=(12 * y+(m - 1)+k) / 12:=by omega
 have g1:(12 * y+(m - 1)+k) / 12<=10000000000000000:=hz;have HY:=rG (fun w=>Un.gI ((12 * y+(m - 1)+k) / 12) w g0 g1);have g2:0<=(12 * y+(m - 1)+k) % 12:=by omega
 have g3:(12 * y+(m - 1)+k) % 12<12:=by omega
 clear hz g0 g1 hA1 hA2;generalize (12 * y+(m - 1)+k) / 12=q at *;generalize (12 * y+(m - 1)+k) % 12=r at *
 go_enter Tryz.func158,Tryz.ntmps158
 go_wp2_with (first
  |(go_at_call 162;with_reducible refine(HC.out _).mono ?_;rintro _ w' ⟨rfl,rfl⟩)
  |(go_at_call 148;with_reducible refine(HA.out _).mono ?_;rintro _ w' ⟨rfl,hb⟩)
  |(go_at_call 168;with_reducible refine(HD.out _).mono ?_;rintro _ w' ⟨rfl,rfl⟩)
  |(go_at_call 169;with_reducible refine(HM.out _).mono ?_;rintro _ w' ⟨rfl,rfl⟩)
  |(go_at_call 173;with_reducible refine(HY.out _).mono ?_;rintro _ w' ⟨rfl,rfl⟩))
 go_ret3
 exact⟨rfl,hb⟩
theorem VN(y m k:Int)(w:World)(h0: -10000000000000000<=y)(h1:y<=10000000000000000)(m0:1<=m)(m1:m<=12)(k0:0<k)(k1:k<=12)(hz:10000000000000000<(QE y m k).1):
 Calls Tryz.prog 158 #[.int .i64 y,.int .i64 m,.int .i64 k] w fun r w'=>r=.returned (.tuple #[.int .i64 0,.int .i64 0,.int .i64 6])/\Below w.heap.size w w':=by
 have HC:Hid (∀w:World,Calls Tryz.prog 162 #[.int .i64 y,.int .i64 m] w fun e w'=>e=.returned (.int .i64 0)/\w=w'):=rG (by
  intro w;have:=Un.jJ y m w;unfold Un.sJ at this;rw[aDk ⟨h0,h1⟩,aDk ⟨m0,m1⟩]at this;exact this)
 have HA:=rG (fun w=>NG (12 * y+(m - 1)) k w (by omega) (by omega) k0 (by omega) (by omega));have hA1: -9223372036854775808<=12 * y+(m - 1)+k:=by omega
 have hA2:12 * y+(m - 1)+k<9223372036854775808:=by omega
 have HD:=rG (fun w=>Un.uH (12 * y+(m - 1)+k) 12 w (by omega) (by omega) hA1 hA2);have HM:=rG (fun w=>Un.JH (12 * y+(m - 1)+k) 12 w (by omega) (by omega) hA1 hA2);unfold QE at *;have g1:10000000000000000<(12 * y+(m - 1)+k) / 12:=hz;have HY:=rG (fun w=>Un.kW ((12 * y+(m - 1)+k) / 12) w (.inr g1));clear hz g1 hA1 hA2;generalize (12 * y+(m - 1)+k) / 12=q at *;generalize (12 * y+(m - 1)+k) % 12=r at *
 go_enter Tryz.func158,Tryz.ntmps158
 go_wp2_with (first
  |(go_at_call 162;with_reducible refine(HC.out _).mono ?_;rintro _ w' ⟨rfl,rfl⟩)
  |(go_at_call 148;with_reducible refine(HA.out _).mono ?_;rintro _ w' ⟨rfl,hb⟩)
  |(go_at_call 168;with_reducible refine(HD.out _).mono ?_;rintro _ w' ⟨rfl,rfl⟩)
  |(go_at_call 169;with_reducible refine(HM.out _).mono ?_;rintro _ w' ⟨rfl,rfl⟩)
  |(go_at_call 173;with_reducible refine(HY.out _).mono ?_;rintro _ w' ⟨rfl,rfl⟩))
 go_ret3
 exact⟨rfl,hb⟩
theorem aQY{c:Int}(h0:21<=c)(h1:c<=41):qO ((c - 21).toNat * 2)=bH c/\qO ((c - 21).toNat * 2+1)=eH c:=by
 unfold qO;have e:((c - 21).toNat * 2) / 2=(c - 21).toNat:=by omega
 have e2:((c - 21).toNat * 2+1) / 2=(c - 21).toNat:=by omega
 have e3:(21:Int)+(((c - 21).toNat:Nat):Int)=c:=by omega
 constructor
 . rw[aDk (by omega),show(21:Int)+((((c - 21).toNat * 2:Nat):Int) / 2)=c by omega]
 rw[aBx (by omega),show(21:Int)+((((c - 21).toNat * 2+1:Nat):Int) / 2)=c by omega]
theorem vO(c:Int)(w:World)(hk:lD w)(h0:21<=c)(h1:c<=41):
 Calls Tryz.prog 156 #[.int .i64 c] w fun r w'=>r=.returned (.tuple #[.int .i64 (bH c),.int .i64 (eH c),.int .i64 0])/\Below w.heap.size w w':=by
 have HC:Hid (∀w:World,Calls Tryz.prog 130 #[.int .i64 c] w fun e w'=>e=.returned (.int .i64 0)/\w=w'):=rG (by
  intro w;have:=yT c w;rw[aDk ⟨h0,h1⟩]at this;exact this)
 obtain⟨n,rfl⟩: ∃n:Nat,c=(n:Int)+21:=⟨(c - 21).toNat,by omega⟩;obtain⟨e0,e1⟩:=aQY h0 h1;rw[show ((n:Int)+21 - 21).toNat=n by omega]at e0 e1;have s0:=hk.span (n * 2) (by omega);have s1:=hk.span (n * 2+1) (by omega);rw[e0]at s0;rw[e1]at s1;clear e0 e1 hk;have l0:n<21:=by omega
 generalize bH ((n:Int)+21)=a at *;generalize eH ((n:Int)+21)=b at *
 go_enter Tryz.func156,Tryz.ntmps156
 go_wp2_with (go_at_call 130;with_reducible refine(HC.out _).mono ?_;rintro _ w' ⟨rfl,rfl⟩)
 go_quiet (fail)
 go_wp2
 go_ret3
 exact⟨rfl,below_drewN (ba (aAI _ _) _) _⟩
def sV(c:Int):Int:=if bH c+eH c - 1<=12 then bH c+eH c - 1 else bH c+eH c - 13
def fM(y c:Int):Int:=if bH c+eH c - 1<=12 then y else y+1
def rv(lo hi:Int):Value:=.agg #[.int .i8 0,.int .i64 lo,.int .i8 0,.int .i64 hi]
theorem KW(y c:Int)(w:World)(hk:lD w)(h0: -10000000000000000<=y)(h1:y<=10000000000000000)(c0:21<=c)(c1:c<=41)(hz:fM y c<=10000000000000000):
 Calls Tryz.prog 134 #[.int .i64 y,.int .i64 c] w fun r w'=>r=.returned (.tuple #[rv (st y+bZ y (bH c)) (st (fM y c)+bZ (fM y c) (sV c+1) - 1),.int .i64 0])/\Below w.heap.size w w':=by
 have hf:1<=bH c/\bH c<=12/\3<=eH c/\eH c<=6/\bH c+eH c<=15:=by unfold bH eH;(repeat' split)<;>omega
 have HM:=rG (fun W hb=>vO c W (hk.below (w':=W) hb) c0 c1);have HS:=rG (fun W hb=>Un.iK y (bH c) W (hk.below (w':=W) hb).cal h0 h1 hf.1 hf.2.1);have HA:Hid (∀w:World,Calls Tryz.prog 158 #[.int .i64 y,.int .i64 (bH c),.int .i64 (eH c - 1)] w fun r w'=>r=.returned (.tuple #[.int .i64 (fM y c),.int .i64 (sV c),.int .i64 0])/\Below w.heap.size w w'):=rG (by
  intro w;have e:QE y (bH c) (eH c - 1)=(fM y c,sV c):=by
   unfold QE fM sV
   split<;>(refine Prod.ext ?_ ?_<;>simp only[]<;>omega)
  have:=VL y (bH c) (eH c - 1) w h0 h1 hf.1 hf.2.1 (by omega) (by omega) (by rw[e];exact hz);rw[e]at this;exact this)
 have y0: -10000000000000000<=fM y c:=by unfold fM;split<;>omega
 have t0:1<=sV c/\sV c<=12:=by unfold sV;split<;>omega
 have HE:=rG (fun W hb=>Un.BQ (fM y c) (sV c) W (hk.below (w':=W) hb).cal y0 hz t0.1 t0.2);generalize st y+bZ y (bH c)=lo at *;generalize st (fM y c)+bZ (fM y c) (sV c+1) - 1=hi at *;obtain⟨f0,f1,f2,f3,f4⟩:=hf;generalize bH c=sf at *;generalize eH c=sm at *;generalize fM y c=sy at *;generalize sV c=so at *;clear hk hz y0 t0;unfold rv
 go_enter Tryz.func134,Tryz.ntmps134
 go_wp2_with fail
 refine(HM.out _ (ba (aAI _ _) _)).mono ?_;rintro _ w1 ⟨rfl,hb1⟩
 go_wp2_with fail
 refine(HS.out _ (bt (ba (aAI _ _) _) hb1)).mono ?_;rintro _ w2 ⟨rfl,hb2⟩
 go_wp2_with fail
 refine(HA.out _).mono ?_;rintro _ w3 ⟨rfl,hb3⟩
 go_wp2_with fail
 refine(HE.out _ (bt (bt (bt (ba (aAI _ _) _) hb1) hb2) hb3)).mono ?_;rintro _ w4 ⟨rfl,hb4⟩;have hB:=bt (bt (bt hb1 hb2) hb3) hb4;obtain⟨q0,q1,q2,q3,z0,z1,z2,z3⟩:=Un.jM hB
 go_wp2_with fail
 refine aHE (v:=.tuple #[.agg #[.int .i8 0,.int .i64 lo,.int .i8 0,.int .i64 hi],.int .i64 0]) (by simp[results,Tryz.results134,go_sem,q0,q1,q2,q3]) rfl ⟨rfl,?_⟩;exact((((bt (ba (aAI _ _) _) hB).setCell (aEc _) _).setCell (aEc _) _).setCell (aEc _) _).setCell (aEc _) _
theorem aBV(y c:Int)(w:World)(hk:lD w)(h0: -10000000000000000<=y)(h1:y<=10000000000000000)(c0:21<=c)(c1:c<=41)(hz:10000000000000000<fM y c):
 Calls Tryz.prog 134 #[.int .i64 y,.int .i64 c] w fun r w'=>r=.returned (.tuple #[rv 0 0,.int .i64 6])/\Below w.heap.size w w':=by
 have hf:1<=bH c/\bH c<=12/\3<=eH c/\eH c<=6/\bH c+eH c<=15:=by unfold bH eH;(repeat' split)<;>omega
 have HM:=rG (fun W hb=>vO c W (hk.below (w':=W) hb) c0 c1);have HS:=rG (fun W hb=>Un.iK y (bH c) W (hk.below (w':=W) hb).cal h0 h1 hf.1 hf.2.1);have HA:Hid (∀w:World,Calls Tryz.prog 158 #[.int .i64 y,.int .i64 (bH c),.int .i64 (eH c - 1)] w fun r w'=>r=.returned (.tuple #[.int .i64 0,.int .i64 0,.int .i64 6])/\Below w.heap.size w w'):=rG (by
  intro w;have e:(QE y (bH c) (eH c - 1)).1=fM y c:=by
   unfold QE fM
   split<;>(simp only[];omega)
  exact VN y (bH c) (eH c - 1) w h0 h1 hf.1 hf.2.1 (by omega) (by omega) (by rw[e];exact hz))
 generalize st y+bZ y (bH c)=lo at *;obtain⟨f0,f1,f2,f3,f4⟩:=hf;generalize bH c=sf at *;generalize eH c=sm at *;clear hk hz;unfold rv
 go_enter Tryz.func134,Tryz.ntmps134
 go_wp2_with fail
 refine(HM.out _ (ba (aAI _ _) _)).mono ?_;rintro _ w1 ⟨rfl,hb1⟩
 go_wp2_with fail
 refine(HS.out _ (bt (ba (aAI _ _) _) hb1)).mono ?_;rintro _ w2 ⟨rfl,hb2⟩
 go_wp2_with fail
 refine(HA.out _).mono ?_;rintro _ w3 ⟨rfl,hb3⟩;have hB:=bt (bt hb1 hb2) hb3;obtain⟨q0,q1,q2,q3,z0,z1,z2,z3⟩:=Un.jM hB
 go_wp2_with fail
 refine aHE (v:=.tuple #[.agg #[.int .i8 0,.int .i64 0,.int .i8 0,.int .i64 0],.int .i64 6]) (by simp[results,Tryz.results134,go_sem,q0,q1,q2,q3]) rfl ⟨rfl,?_⟩;exact((((bt (ba (aAI _ _) _) hB).setCell (aEc _) _).setCell (aEc _) _).setCell (aEc _) _).setCell (aEc _) _
end Bk
end
section
open Go.RowKit Go.Lib
namespace Bk
open Un (ba bt ri rb aS aZ)
structure Dm(p:Nat)(d:Dt)(w W:World):Prop where
 c0:W.cell? ⟨p,0,none⟩=some (.bool d.neg)
 c1:W.cell? ⟨p,1,none⟩=some (.bool d.long)
 c2:W.cell? ⟨p,2,none⟩=some (.string d.dg)
 c3:W.cell? ⟨p,3,none⟩=some (.int .i64 d.ex)
 c4:W.cell? ⟨p,4,none⟩=some (.int .i64 d.sig)
 c5:W.cell? ⟨p,5,none⟩=some (.string d.mo)
 c6:W.cell? ⟨p,6,none⟩=some (.string d.da)
 c7:W.cell? ⟨p,7,none⟩=some (.int .u8 d.m0)
 c8:W.cell? ⟨p,8,none⟩=some (.int .u8 d.m1)
 c9:W.cell? ⟨p,9,none⟩=some (.int .u8 d.m2)
 below:Below w.heap.size w W
theorem Dm.later{p:Nat}{d:Dt}{w W W2:World}(h:Dm p d w W)(hb:Below W.heap.size W W2):Dm p d w W2:=
 have g: ∀ {p:Addr} {v:Value},W.cell? p=some v->W2.cell? p=some v:=fun{p v} hc=>(hb.cell (aP1 _ _ hc)).trans hc
 ⟨g h.c0,g h.c1,g h.c2,g h.c3,g h.c4,g h.c5,g h.c6,g h.c7,g h.c8,g h.c9,bt h.below hb⟩
theorem Dm.new(d:Dt)(w:World)(t:TypeId):Dm w.heap.size d w (w.alloc (.cells #[.bool d.neg,.bool d.long,.string d.dg,.int .i64 d.ex,.int .i64 d.sig,.string d.mo,.string d.da,.int .u8 d.m0,.int .u8 d.m1,.int .u8 d.m2] t)):=by
 refine⟨?_,?_,?_,?_,?_,?_,?_,?_,?_,?_,ba (aAI _ _) _⟩<;>simp[go_sem]
theorem UC{s:ByteArray}(h: ¬s.size=2)(n:Int):jE s n=false:=by unfold jE;rw[aBy h,aTz]
theorem KL{s:ByteArray}(h: ¬s.size=2)(g:Nat):dU s g=false:=by
 unfold dU;rw[List.any_eq_false];intro i _;rw[UC h];decide
theorem aED{s:ByteArray}(h:s.size=2)(n:Int):jE s n=((decide (((s[0]'(by omega)).toNat:Int)=88)||decide (((s[0]'(by omega)).toNat:Int)=48+n / 10))&&(decide (((s[1]'(by omega)).toNat:Int)=88)||decide (((s[1]'(by omega)).toNat:Int)=48+n % 10))):=by
 unfold jE;rw[aBz h,aQN,bQ s 0 (by omega),bQ s 1 (by omega)]
theorem UA{x0 x1:Int}{q r:Int}{a0 a1 b0 b1:Bool}(h0:(x0==88)=a0)(h1:(x0==48+q)=a1)(h2:(x1==88)=b0)(h3:(x1==48+r)=b1):
 ((decide (x0=88)||decide (x0=48+q))&&(decide (x1=88)||decide (x1=48+r)))=((a0||a1)&&(b0||b1)):=by
 subst h0 h1 h2 h3;rfl
theorem OY(s:ByteArray)(g:Nat)(w:World)(hg:g<=99):
 Calls Tryz.prog 107 #[.string s,.int .i64 g] w fun r w'=>r=.returned (.bool (dU s g))/\Below w.heap.size w w':=by
 by_cases c:s.size=2
 case neg=>
  rw[KL c]
  go_enter Tryz.func107,Tryz.ntmps107
  go_wp2
  go_ret
  exact⟨rfl,aAI _ _⟩
 have HA:=rG (aED c);have HM:=rG (fun(k:Nat) (h:k<g) (ht:jE s ((k:Int)+1)=true)=>(KN (s:=s) (g:=k+1) (h:=g) (by omega) (by rw[tN,ht,aXT]):dU s g=true));have HN:=rG (fun(k:Nat) (h:dU s k=false) (ht:jE s ((k:Int)+1)=false)=>(by rw[tN,h,ht];rfl:dU s (k+1)=false));have l0:0<s.size:=by omega
 have l1:1<s.size:=by omega
 go_enter Tryz.func107,Tryz.ntmps107
 go_wp2
 go_loopw [5] (fun i wr=> ∃k:Nat,k<=g/\i=.int .i64 ((k:Int)+1)/\dU s k=false/\Below w.heap.size w wr) (fun i _=>g+1 - (intOf i).toNat)
 case atStart=>exact⟨0,aJS _,rfl,rfl,aAI _ _⟩
 case round=>
  obtain⟨k,hk,rfl,hz,hb⟩:=hrel
  by_cases hlt:k<g
  . have hA:=HA.out ((k:Int)+1);obtain⟨a0,g0⟩: ∃b,(((s[0]'l0).toNat:Int)==88)=b:=⟨_,rfl⟩;obtain⟨a1,g1⟩: ∃b,(((s[0]'l0).toNat:Int)==48+((k:Int)+1) / 10)=b:=⟨_,rfl⟩;obtain⟨b0,g2⟩: ∃b,(((s[1]'l1).toNat:Int)==88)=b:=⟨_,rfl⟩;obtain⟨b1,g3⟩: ∃b,(((s[1]'l1).toNat:Int)==48+((k:Int)+1) % 10)=b:=⟨_,rfl⟩;rw[UA g0 g1 g2 g3]at hA;have HB:=rG hb;have HZ:=rG hz;have HA2:=rG hA;clear hb hz hA;have q0:0<=((k:Int)+1) / 10:=by omega
    have q1:((k:Int)+1) / 10<=9:=by omega
    have r0:0<=((k:Int)+1) % 10:=by omega
    have r1:((k:Int)+1) % 10<=9:=by omega
    have HBt:=rG (fun W (h:Below wr.heap.size wr W)=>bt HB.out h)
    cases a0<;>cases a1<;>cases b0<;>cases b1
    all_goals
     as_aux_lemma=>
      go_wp2
      go_quiet (fail)
      go_wp2
      first
      | (go_ret
         exact⟨rb (HM.out k hlt HA2.out).symm,HBt.out _ (below_drewN (ba (aAI _ _) _) _)⟩)
      | (go_roundw
         case rel=>exact⟨k+1,by omega,by go_num,HN.out k HZ.out HA2.out,HBt.out _ (below_drewN (ba (aAI _ _) _) _)⟩
         case measure=>simp[intOf];omega)
  obtain rfl:k=g:=by omega
  have HB:=rG hb;have HZ:=rG hz;clear hb hz
  go_wp2
  go_ret
  exact⟨rb HZ.out.symm,HB.out⟩
theorem QY(s:ByteArray):(s.toList==(⟨#[]⟩:ByteArray).toList)=decide (s.size=0):=by
 rw[<-aOj,show(⟨#[]⟩:ByteArray).toList=[]from by kernel_rfl]
 cases s.toList<;>rfl
theorem aGT(d:Dt)(w:World):
 Calls Tryz.prog 109 #[aV d] w fun r w'=>r=.returned (.int .i64 (comps d.mo d.da))/\Below w.heap.size w w':=
 Sk.lJ (Sk.aQC d w) (by rw[QY,QY];unfold comps;simp only[aHF,aDE];(repeat' split)<;>rfl)
theorem zJ(d:Dt)(w:World)(hk:lD w)(hs:d.mo.size<=1000):
 Calls Tryz.prog 105 #[aV d] w fun r w'=>r=.returned (.tuple #[.int .i64 d.aH,.bool (!decide (d.aH=0))])/\Below w.heap.size w w':=by
 have hD:=Dm.new d w 37;have HE:(∃v,atoiAll d.mo.data.toList=.ok v)\/ ∀v,atoiAll d.mo.data.toList≠ .ok v:=by
  cases h:atoiAll d.mo.data.toList
  . exact .inl ⟨_,rfl⟩
  . exact .inr (fun v e=>by cases e)
  exact .inr (fun v e=>by cases e)
 unfold Dt.aH aV;rcases HE with⟨v,hv⟩|hv
 . have HA:=rG (fun W=>aOz d.mo v hv hs W)
   by_cases c:d.mo.size=2
   . rw[aBn c hv];have HC:=fun W=>yT v W;clear hv
     by_cases cv:21<=v/\v<=41
     . rw[aDk cv]at HC ⊢;have ev:decide (v=0)=false:=aBy (by omega);rw[ev];replace HC:=rG HC;clear cv ev
       go_enter Tryz.func105,Tryz.ntmps105
       go_upto_region 1 with(fail)
       generalize w.alloc (.cells #[.bool d.neg,.bool d.long,.string d.dg,.int .i64 d.ex,.int .i64 d.sig,.string d.mo,.string d.da,.int .u8 d.m0,.int .u8 d.m1,.int .u8 d.m2] 37)=W0 at hD ⊢;obtain⟨q0,q1,q2,q3,q4,q5,q6,q7,q8,q9,qB⟩:=id hD
       go_wp2_with fail
       refine(HA.out _).mono ?_;rintro _ w1 ⟨rfl,hb⟩;replace hD:=hD.later hb;clear hb;obtain⟨q0,q1,q2,q3,q4,q5,q6,q7,q8,q9,qB⟩:=id hD
       go_wp2_with (go_at_call 130;with_reducible refine(HC.out _).mono ?_;rintro _ w' ⟨rfl,rfl⟩)
       go_ret2
       exact⟨rfl,hD.below⟩
     rw[aBx cv]at HC ⊢;replace HC:=rG HC;clear cv
     go_enter Tryz.func105,Tryz.ntmps105
     go_upto_region 1 with(fail)
     generalize w.alloc (.cells #[.bool d.neg,.bool d.long,.string d.dg,.int .i64 d.ex,.int .i64 d.sig,.string d.mo,.string d.da,.int .u8 d.m0,.int .u8 d.m1,.int .u8 d.m2] 37)=W0 at hD ⊢;obtain⟨q0,q1,q2,q3,q4,q5,q6,q7,q8,q9,qB⟩:=id hD
     go_wp2_with fail
     refine(HA.out _).mono ?_;rintro _ w1 ⟨rfl,hb⟩;replace hD:=hD.later hb;clear hb;obtain⟨q0,q1,q2,q3,q4,q5,q6,q7,q8,q9,qB⟩:=id hD
     go_wp2_with (go_at_call 130;with_reducible refine(HC.out _).mono ?_;rintro _ w' ⟨rfl,rfl⟩)
     go_ret2
     exact⟨rfl,hD.below⟩
   rw[FX c];clear hv;have c2:((d.mo.size:Int) !=2)=true:=by rw[aN0];omega
   clear c
   go_enter Tryz.func105,Tryz.ntmps105
   go_upto_region 1 with(fail)
   generalize w.alloc (.cells #[.bool d.neg,.bool d.long,.string d.dg,.int .i64 d.ex,.int .i64 d.sig,.string d.mo,.string d.da,.int .u8 d.m0,.int .u8 d.m1,.int .u8 d.m2] 37)=W0 at hD ⊢;obtain⟨q0,q1,q2,q3,q4,q5,q6,q7,q8,q9,qB⟩:=id hD
   go_wp2_with fail
   refine(HA.out _).mono ?_;rintro _ w1 ⟨rfl,hb⟩;replace hD:=hD.later hb;clear hb;obtain⟨q0,q1,q2,q3,q4,q5,q6,q7,q8,q9,qB⟩:=id hD
   go_wp2_with fail
   go_ret2
   exact⟨rfl,hD.below⟩
 have HA:=rG (fun W hb=>aLb d.mo hv hs W (hk.below (w':=W) hb));rw[aG1 hv];clear hv
 go_enter Tryz.func105,Tryz.ntmps105
 go_upto_region 1 with(fail)
 generalize w.alloc (.cells #[.bool d.neg,.bool d.long,.string d.dg,.int .i64 d.ex,.int .i64 d.sig,.string d.mo,.string d.da,.int .u8 d.m0,.int .u8 d.m1,.int .u8 d.m2] 37)=W0 at hD ⊢;obtain⟨q0,q1,q2,q3,q4,q5,q6,q7,q8,q9,qB⟩:=id hD
 go_wp2_with fail
 refine(HA.out _ hD.below).mono ?_;rintro _ w1 ⟨⟨x,t,p,rfl⟩,hb⟩;replace hD:=hD.later hb;clear hb;obtain⟨q0,q1,q2,q3,q4,q5,q6,q7,q8,q9,qB⟩:=id hD
 go_wp2_with fail
 go_ret2
 exact⟨rfl,hD.below⟩
end Bk
end
section
open Go.RowKit Go.Lib
namespace Bk
open Un (ba bt ri rb aS aZ)
theorem UN{neg long:Bool}{s:ByteArray}{ex sig:Int}(hk:G8 neg long s ex sig=true)(hx:hasB 88 s=false): -10000000000000000<=yVal neg s ex/\yVal neg s ex<=10000000000000000:=by
 have h0:=oM s ex;have h1:fJ s ex<=10000000000000000:=by
  cases long
  . obtain⟨h1,h2,h3,_⟩:=iD hk;have hd:=(jV h2).1 hx;have:=oO hd h1;have hz:fJ s 0=iP s:=by unfold fJ p10;simp
    rw[h3,hz];omega
  exact(jI hk).2.2.2.2.2.2.1
 unfold yVal
 split<;>omega
theorem Q5(d:Dt)(w:World)(hk:lD w)(hs:d.mo.size<=1000)(hy:d.dg.size<=1000):
 Calls Tryz.prog 106 #[aV d] w fun r w'=>r=.returned (.bool d.lN)/\Below w.heap.size w w':=by
 have hK: ∀c:Int,(if d.JW then 0 else 6)=c->Sk.Same w 131 #[yv d.neg d.long d.dg d.ex d.sig] (.int .i64 c):=fun c e=>e ▸ fun W _=>JY d.neg d.long d.dg d.ex d.sig W hy;have hS:=fun W hb=>zJ d W (hk.below (w':=W) hb) hs;have hM: ∀b,d.mask=b->Sk.Same w 132 #[yv d.neg d.long d.dg d.ex d.sig] (.bool b):=fun b e=>e ▸ fun W _=>oJ d.neg d.long d.dg d.ex d.sig W;unfold Dt.lN Dt.far
 cases hok:d.JW
 . exact Sk.lJ (Sk.aTU d w (hK 6 (by rw[hok];rfl))) rfl
 have h0:=hK 0 (by rw[hok];rfl)
 by_cases e1:d.aH=0
 . rw[e1]at hS;refine Sk.lJ (Sk.aTT d w h0 hS) ?_;rw[QY,e1];by_cases c:0<d.sig<;>by_cases e:d.mo.size=0<;>simp[c,e]
 rw[aBy e1]at hS;have sb:21<=d.aH/\d.aH<=41:=(iY d.mo).resolve_left e1
 cases hx:d.mask
 case true=>
  refine Sk.lJ (Sk.aTS d d.aH w h0 hS (hM _ hx)) ?_;rw[QY];by_cases c:0<d.sig<;>by_cases e:d.mo.size=0<;>simp[c,e]
 have hy0: -10000000000000000<=yVal d.neg d.dg d.ex/\yVal d.neg d.dg d.ex<=10000000000000000:=UN hok hx;have hyv:(decide (d.mag=10000000000000000)&& !d.neg)=decide (yVal d.neg d.dg d.ex=10000000000000000):=by
  have:=oM d.dg d.ex;unfold yVal
  cases d.neg
  . rw[aVf,aWd];rfl
  rw[aXz,aTq];symm;apply aBy;simp only[aV5];omega
 have hV:=fun W (_:Below w.heap.size w W)=>zC d.neg d.long d.dg d.ex d.sig W hy hok hx;rw[hyv];generalize yVal d.neg d.dg d.ex=y at *;have aKg:((decide (d.aH=24)||(decide (d.aH=28)||decide (d.aH=30)))&&decide (y=10000000000000000))=decide (10000000000000000<fM y d.aH):=by
  unfold fM bH eH;generalize d.aH=c at *;rw[aK8];simp only[aDY,aHW,aDE];constructor
  . rintro⟨h|h|h,rfl⟩<;>subst h<;>decide
  intro h
  (repeat' split at h)<;>omega
 rw[aVf,aQN,aQN,aKg]
 by_cases cz:10000000000000000<fM y d.aH
 . refine Sk.lJ (Sk.aPm d d.aH y 6 0 0 0 0 w h0 hS (hM _ hx) hV (fun W hb=>aBV y d.aH W (hk.below hb) hy0.1 hy0.2 sb.1 sb.2 cz)) ?_;rw[QY];by_cases c:0<d.sig<;>by_cases e:d.mo.size=0<;>simp[c,e,cz]
 refine Sk.lJ (Sk.aPm d d.aH y 0 0 _ 0 _ w h0 hS (hM _ hx) hV (fun W hb=>KW y d.aH W (hk.below hb) hy0.1 hy0.2 sb.1 sb.2 (by omega))) ?_;rw[QY];by_cases c:0<d.sig<;>by_cases e:d.mo.size=0<;>simp[c,e,cz]
end Bk
end
section
open Go.RowKit Go.Lib
namespace Bk
open Un (ba bt ri rb aS aZ)
theorem DI(a b:ByteArray):1<=comps a b/\comps a b<=3:=by unfold comps;(repeat' split)<;>omega
theorem aDg(d:Dt)(w:World)(hk:lD w)(hs:d.mo.size<=1000)(hy:d.dg.size<=1000)(m0:0<=d.m0)(m1:0<=d.m1)(m2:0<=d.m2):
 Calls Tryz.prog 81 #[aV d] w fun r w'=>r=.returned (.int .i64 d.form)/\Below w.heap.size w w':=by
 refine Sk.lJ (Sk.aMz d d.aH (comps d.mo d.da) (kD d.m0 d.m1 d.m2 (comps d.mo d.da)) _ d.lN (dU d.mo 12) (dU d.da 31) w (fun W hb=>zJ d W (hk.below hb) hs) (fun W hb=>Q5 d W (hk.below hb) hs hy)
  (fun W _=>OY d.mo 12 W (by omega)) (fun W _=>OY d.da 31 W (by omega)) (fun W _=>aGT d W) (fun W _=>VX d.m0 d.m1 d.m2 (comps d.mo d.da) W m0 m1 m2 (DI _ _).1 (DI _ _).2)) ?_
 rw[QY,QY];unfold Dt.form
 cases d.lN<;>cases dU d.mo 12<;>cases dU d.da 31<;>by_cases e1:d.mo.size=0<;>by_cases e2:d.da.size=0<;>by_cases e3:d.aH=0<;>simp[e1,e2,e3]
end Bk
end
section
open Go.RowKit Go.Lib
namespace Bk
open Un (ba bt ri rb aS aZ)
def bD(W:World)(v:Value)(l:List Int):Prop:= ∃g cap,v=.slice (some ⟨g,0,none⟩) l.length cap/\g<W.heap.size/\ ∀i (h:i<l.length),W.cell? ⟨g,i,none⟩=some (.int .i64 (l[i]'h))
theorem bD.later{W W2:World}{v:Value}{l:List Int}(h:bD W v l)(hb:Below W.heap.size W W2):bD W2 v l:=by
 obtain⟨g,cap,rfl,hg,hc⟩:=h;exact⟨g,cap,rfl,by have:=hb.size;omega,fun i hi=>(hb.cell (p:=⟨g,i,none⟩) hg).trans (hc i hi)⟩
theorem bD.own{W:World}{base e:Nat}{v:Value}{l:List Int}(h:W.ownsRow base e 1 v l.length (l.map (.int .i64)))(hne:l≠[]):bD W v l:=by
 obtain⟨h1,⟨rfl,h2⟩|⟨g,cap,cur,rfl,hg,hh,hn,hc,hs,ht⟩⟩:=h
 . exact absurd (aTw.1 h2) hne
 refine⟨g,cap,rfl,?_,fun i hi=>?_⟩
 . by_cases c:g<W.heap.size
   . exact c
   rw[aKi (by omega)]at hh;cases hh
 have hown:W.ownsRow base e 1 (.slice (some ⟨g,0,none⟩) l.length cap) l.length (l.map (.int .i64)):=⟨h1,.inr ⟨g,cap,cur,rfl,hg,hh,hn,hc,hs,ht⟩⟩;rw[hown.cellAt i (by omega),aHG,aEM hi];rfl
theorem bD.one{W:World}{g cap:Nat}{n:Int}(hg:g<W.heap.size)(hc:W.cell? ⟨g,0,none⟩=some (.int .i64 n)):bD W (.slice (some ⟨g,0,none⟩) 1 cap) [n]:=
 ⟨g,cap,rfl,hg,fun i hi=>by
  have:i=0:=by simp at hi;omega
  subst this;exact hc⟩
def aQh(l:List Int)(w:World)(e:Ending)(w':World):Prop:= ∃v,e=.returned v/\bD w' v l/\Below w.heap.size w w'
theorem aAy:(Tryz.prog.info? 3).map (fun i=>(i.zero,i.size,i.bytes))=some (some (.int .i64 0),1,8):=by kernel_rfl
theorem aAQ(s:ByteArray)(n:Int)(w:World)(h2:s.size=2)(hx: ∀i,i<2->aX s i=88\/(48<=aX s i/\aX s i<=57))(n0:1<=n)(n1:n<=99):
 Calls Tryz.prog 136 #[.string s,.int .i64 n] w fun r w'=>r=.returned (.bool (jE s n))/\w=w':=by
 have l0:0<s.size:=by omega
 have l1:1<s.size:=by omega
 have hA:=aED h2 n;have x0:=hx 0 (by omega);have x1:=hx 1 (by omega);rw[bQ s 0 l0]at x0;rw[bQ s 1 l1]at x1;have y0:48<=((s[0]'l0).toNat:Int):=by omega
 have y1:48<=((s[1]'l1).toNat:Int):=by omega
 have z0:((s[0]'l0).toNat:Int)<=88:=by omega
 have z1:((s[1]'l1).toNat:Int)<=88:=by omega
 have q0:0<=n / 10:=by omega
 have r0:0<=n % 10:=by omega
 obtain⟨a0,g0⟩: ∃b,(((s[0]'l0).toNat:Int)==88)=b:=⟨_,rfl⟩;obtain⟨a1,g1⟩: ∃b,(((s[0]'l0).toNat:Int) - 48==n / 10)=b:=⟨_,rfl⟩;obtain⟨b0,g2⟩: ∃b,(((s[1]'l1).toNat:Int)==88)=b:=⟨_,rfl⟩;obtain⟨b1,g3⟩: ∃b,(((s[1]'l1).toNat:Int) - 48==n % 10)=b:=⟨_,rfl⟩;have g1':(((s[0]'l0).toNat:Int)==48+n / 10)=a1:=by rw[<-g1,aK8];simp only[aGw];omega
 have g3':(((s[1]'l1).toNat:Int)==48+n % 10)=b1:=by rw[<-g3,aK8];simp only[aGw];omega
 rw[UA g0 g1' g2 g3']at hA;have HA:=rG hA;clear hA x0 x1 hx g1' g3' h2
 cases a0<;>cases a1<;>cases b0<;>cases b1
 all_goals
  as_aux_lemma=>
   go_enter Tryz.func136,Tryz.ntmps136
   go_wp2
   go_ret
   exact⟨rb HA.out.symm,rfl⟩
theorem aEl(s:ByteArray)(g:Nat):(dY s g).length<=g:=pR s g
theorem fits_any (s:ByteArray) (g:Nat) (w:World) (h2:s.size=2) (hx: ∀i,i<2->aX s i=88\/(48<=aX s i/\aX s i<=57)) (hg:g<=99) (hne:dY s g≠[]):
 Calls Tryz.prog 110 #[.string s,.int .i64 g] w (aQh (dY s g) w):=by
 obtain⟨i0,hi,hz0,hz1,hz2⟩:=aW9 aAy;have HF:=rG (fun(k:Nat) (hk:k<g) (w:World)=>aAQ s ((k:Int)+1) w h2 hx (by omega) (by omega));have HNE:=rG hne;clear hx hne h2
 go_enter Tryz.func110,Tryz.ntmps110
 go_wp2
 go_loopw [5,8] (fun v i wr=> ∃k:Nat,k<=g/\i=.int .i64 k/\wr.ownsRow w.heap.size 3 1 v (dY s k).length ((dY s k).map (Value.int .i64))/\Below w.heap.size w wr) (fun _ i _=>g - (intOf i).toNat)
 case atStart=>exact⟨0,aJS _,rfl,aTX _ _ _ _,aAI _ _⟩
 case round=>
  obtain⟨k,hk,rfl,hown,hb⟩:=hrel
  by_cases hlt:k<g
  . have hf:=HF.out k hlt;have hle:=aEl s k
    cases ha:jE s ((k:Int)+1)
    . as_aux_lemma=>
       rw[ha]at hf;have HA:=rG hf;have HE:=rG (NY ha);have HO:=rG hown;have HB:=rG hb;clear hf ha hown hb
       go_wp2_with (go_at_call 136;with_reducible refine(HA.out _).mono ?_;rintro _ w' ⟨rfl,rfl⟩)
       go_roundw
       case rel=>exact⟨k+1,by omega,by go_num,by rw[HE.out];exact HO.out,HB.out⟩
       case measure=>simp[intOf];omega
    as_aux_lemma=>
     rw[ha]at hf;have HA:=rG hf;have HE:=rG (EZ ha);have HB:=rG hb;clear hf ha hb
     go_wp2_with (first
      |(go_at_call 136;with_reducible refine(HA.out _).mono ?_;rintro _ w' ⟨rfl,rfl⟩)
      |(at_builtin;refine aWh _ rfl _ _ 114 rfl w.heap.size 3 i0 (.int .i64 0) 1 8 Tryz.underlying114 hi hz0 hz1 hz2 rfl (by decide) _ _ _ rfl (hown.alloc _) ⟨wr.heap.size,0,none⟩ 1 1 [.int .i64 ((k:Int)+1)] rfl rfl ?c1 ?c2 ?c3 ?c4 ?c5 ?_))
     case c1=>
      intro j u hj
      match j,hj with
      |0,hj=>simp at hj;subst hj;simp[Addr.add]
     case c2=>intro u hu;simp at hu;subst hu;rfl
     case c3=>unfold maxLen;omega
     case c4=>omega
     case c5=>have:=HB.out.size;simp;omega
     intro v' w1 hown' hgrow _;have hB2:=((HB.out).alloc (HB.out.size) (.cells #[.int .i64 ((k:Int)+1)] 3)).grown hgrow (by have:=HB.out.size;simp;omega) (fun j hj=>(hown.lt j hj).1);have hO2:w1.ownsRow w.heap.size 3 1 v' (dY s (k+1)).length ((dY s (k+1)).map (Value.int .i64)):=by rw[HE.out];simpa using hown'
     replace hB2:=rG hB2;replace hO2:=rG hO2;clear hown' hgrow hown HB
     go_wp2
     go_roundw
     case rel=>exact⟨k+1,by omega,by go_num,hO2.out,hB2.out⟩
     case measure=>simp[intOf];omega
  as_aux_lemma=>
   obtain rfl:k=g:=by omega
   have hS:=bD.own hown HNE.out;have HB:=rG hb;replace hS:=rG hS;clear hown hb HF
   go_wp2
   go_ret
   exact⟨_,rfl,hS.out,HB.out⟩
end Bk
end
section
open Go.RowKit Go.Lib
namespace Bk
open Un (ba bt ri rb aS aZ)
theorem lK{s:ByteArray}{g:Nat}(hg:g<=99)(h:dU s g=true):s.size=2/\(∀i,i<2->aX s i=88\/(48<=aX s i/\aX s i<=57))/\dY s g≠[]:=by
 refine⟨?_,?_,(NW s g).1 h⟩
 . by_cases c:s.size=2
   . exact c
   rw[KL c]at h;cases h
 obtain⟨n,h1,h2,h3⟩:=(D8 s g).1 h;unfold jE at h3;simp only[aDY,aHW,aDE]at h3;intro i hi;obtain rfl|rfl:i=0\/i=1:=by omega
 all_goals omega
def bK(d:Dt):List Value:=[.bool d.neg,.bool d.long,.string d.dg,.int .i64 d.ex,.int .i64 d.sig,.string d.mo,.string d.da,.int .u8 d.m0,.int .u8 d.m1,.int .u8 d.m2]
def iE(d:Dt)(mv dv:Value):List Value:=[.bool d.neg,.bool d.long,.string d.dg,.int .i64 d.ex,.int .i64 d.sig,.string d.mo,.string d.da,.int .u8 d.m0,.int .u8 d.m1,.int .u8 d.m2,mv,dv]
def VZ:List Value:=[.bool false,.bool false,.string ⟨#[]⟩,.int .i64 0,.int .i64 0,.string ⟨#[]⟩,.string ⟨#[]⟩,.int .u8 0,.int .u8 0,.int .u8 0,.slice none 0 0,.slice none 0 0]
theorem zZ(d:Dt):aV d=.agg (bK d).toArray:=rfl
theorem dZ:(Tryz.prog.info? 37).map (·.size)=some 10:=by kernel_rfl
theorem jQ:(Tryz.prog.info? 116).map (·.size)=some 12:=by kernel_rfl
def aPh(d:Dt)(w:World)(e:Ending)(w':World):Prop:= ∃mv dv,e=.returned (.agg (iE d mv dv).toArray)/\bD w' mv d.ms/\bD w' dv d.ds/\Below w.heap.size w w'
theorem jB{d:Dt}(h:d.form=0):(d.aH≠0/\d.mo.size≠0/\d.da.size=0)\/(d.aH=0/\d.mo.size≠0/\dU d.mo 12=true/\(d.da.size=0\/dU d.da 31=true))\/(d.aH=0/\d.mo.size=0/\d.da.size=0):=by
 obtain⟨_,h1,h2,_⟩:=Dt.iO h
 by_cases c:d.aH=0
 . by_cases e:d.mo.size=0
   . refine .inr (.inr ⟨c,e,?_⟩);rcases h2 with h2|h2
     . exact h2
     exact absurd e h2.1
   refine .inr (.inl ⟨c,e,?_,?_⟩)
   . rcases h1 with h1|h1|h1
     . exact absurd h1 e
     . exact absurd c h1
     exact h1
   rcases h2 with h2|h2
   . exact .inl h2
   exact .inr h2.2.2
 refine .inl ⟨c,?_,?_⟩
 . intro e;exact c (FX (by omega))
 rcases h2 with h2|h2
 . exact h2
 exact absurd h2.2.1 c
theorem dF(w:World)(o:Obj):(w.alloc o).heap.size=w.heap.size+1:=by show(w.heap.push o).size=_;simp
theorem aPR(d:Dt){mv dv:Value}(hm:mv.oneCell'=true)(hd:dv.oneCell'=true):(iE d mv dv).toArray.all (·.oneCell')=true:=
 all_oneCell_toArray (fun v hv=>by
  unfold iE at hv;simp only[aHC,aMf,aTG]at hv;rcases hv with rfl|rfl|rfl|rfl|rfl|rfl|rfl|rfl|rfl|rfl|rfl|rfl<;>first|rfl|assumption)
theorem bD.one'{W:World}{v:Value}{l:List Int}(h:bD W v l):v.oneCell'=true:=by obtain⟨g,cap,rfl,_⟩:=h;rfl
theorem bD.lit{w W:World}(n:Int):bD (W.alloc (.cells #[.int .i64 n] 3)) (.slice (some ⟨W.heap.size,0,none⟩) 1 1) [n]:=
 bD.one (by rw[dF];omega) (by simp[go_sem])
theorem Rw.rV{p:Nat}{d:Dt}{w W:World}(h:Rw p (bK d) w W):W.cell? ⟨p,0,none⟩=some (.bool d.neg)/\W.cell? ⟨p,1,none⟩=some (.bool d.long)/\W.cell? ⟨p,2,none⟩=some (.string d.dg)/\W.cell? ⟨p,3,none⟩=some (.int .i64 d.ex)/\W.cell? ⟨p,4,none⟩=some (.int .i64 d.sig)/\W.cell? ⟨p,5,none⟩=some (.string d.mo)/\W.cell? ⟨p,6,none⟩=some (.string d.da)/\W.cell? ⟨p,7,none⟩=some (.int .u8 d.m0)/\W.cell? ⟨p,8,none⟩=some (.int .u8 d.m1)/\W.cell? ⟨p,9,none⟩=some (.int .u8 d.m2):=
 ⟨h.cell _ _ rfl,h.cell _ _ rfl,h.cell _ _ rfl,h.cell _ _ rfl,h.cell _ _ rfl,h.cell _ _ rfl,h.cell _ _ rfl,h.cell _ _ rfl,h.cell _ _ rfl,h.cell _ _ rfl⟩
theorem aKt{w W0:World}{p1 p2:Nat}(d:Dt)(h1:Rw p1 (bK d) w W0)(h2:Rw p2 VZ w W0):
 (((W0.alloc (.cells #[.int .i64 0] 3)).alloc (.cells #[.int .i64 0] 3)).alloc (.cells #[.bool false,.bool false,.string ⟨#[]⟩,.int .i64 0,.int .i64 0,.string ⟨#[]⟩,.string ⟨#[]⟩,.int .u8 0,.int .u8 0,.int .u8 0,.slice none 0 0,.slice none 0 0] 116)).there (W0.heap.size+1+1) 0 12/\
 ∀mv dv:Value,mv=.slice (some ⟨W0.heap.size,0,none⟩) 1 1->dv=.slice (some ⟨W0.heap.size+1,0,none⟩) 1 1-> ∀W3,W3=(((W0.alloc (.cells #[.int .i64 0] 3)).alloc (.cells #[.int .i64 0] 3)).alloc (.cells #[.bool false,.bool false,.string ⟨#[]⟩,.int .i64 0,.int .i64 0,.string ⟨#[]⟩,.string ⟨#[]⟩,.int .u8 0,.int .u8 0,.int .u8 0,.slice none 0 0,.slice none 0 0] 116)).setCells (W0.heap.size+1+1) 0 (iE d mv dv)->
  W0.heap.size+1+1≠p2/\W0.heap.size+1+1≠p1/\Rw (W0.heap.size+1+1) (iE d mv dv) w W3/\Rw p2 VZ w W3/\Rw p1 (bK d) w W3/\bD W3 mv [0]/\bD W3 dv [0]:=by
 have b0:=h1.below;have e1:(W0.alloc (.cells #[.int .i64 0] 3)).heap.size=W0.heap.size+1:=dF _ _;have e2:((W0.alloc (.cells #[.int .i64 0] 3)).alloc (.cells #[.int .i64 0] 3)).heap.size=W0.heap.size+1+1:=by rw[dF,e1]
 have h3:Rw (W0.heap.size+1+1) VZ w (((W0.alloc (.cells #[.int .i64 0] 3)).alloc (.cells #[.int .i64 0] 3)).alloc (.cells #[.bool false,.bool false,.string ⟨#[]⟩,.int .i64 0,.int .i64 0,.string ⟨#[]⟩,.string ⟨#[]⟩,.int .u8 0,.int .u8 0,.int .u8 0,.slice none 0 0,.slice none 0 0] 116)):=by
  have:=Rw.fresh (ba (ba b0 (.cells #[.int .i64 0] 3)) (.cells #[.int .i64 0] 3)) VZ 116;rw[e2]at this;exact this
 refine⟨h3.there,?_⟩;rintro mv dv rfl rfl W3 rfl;have l1:=h1.lt;have l2:=h2.lt;have n1:=h1.new;have bA:Below W0.heap.size W0 (((W0.alloc (.cells #[.int .i64 0] 3)).alloc (.cells #[.int .i64 0] 3)).alloc (.cells #[.bool false,.bool false,.string ⟨#[]⟩,.int .i64 0,.int .i64 0,.string ⟨#[]⟩,.string ⟨#[]⟩,.int .u8 0,.int .u8 0,.int .u8 0,.slice none 0 0,.slice none 0 0] 116)):=ba (ba (ba (aAI _ _) _) _) _;have i1:bD (((W0.alloc (.cells #[.int .i64 0] 3)).alloc (.cells #[.int .i64 0] 3)).alloc (.cells #[.bool false,.bool false,.string ⟨#[]⟩,.int .i64 0,.int .i64 0,.string ⟨#[]⟩,.string ⟨#[]⟩,.int .u8 0,.int .u8 0,.int .u8 0,.slice none 0 0,.slice none 0 0] 116)) (.slice (some ⟨W0.heap.size,0,none⟩) 1 1) [0]:=
  ((bD.lit (w:=w) (W:=W0) 0).later (ba (aAI _ _) _)).later (ba (aAI _ _) _)
 have i2:bD (((W0.alloc (.cells #[.int .i64 0] 3)).alloc (.cells #[.int .i64 0] 3)).alloc (.cells #[.bool false,.bool false,.string ⟨#[]⟩,.int .i64 0,.int .i64 0,.string ⟨#[]⟩,.string ⟨#[]⟩,.int .u8 0,.int .u8 0,.int .u8 0,.slice none 0 0,.slice none 0 0] 116)) (.slice (some ⟨W0.heap.size+1,0,none⟩) 1 1) [0]:=by
  have:=(bD.lit (w:=w) (W:=W0.alloc (.cells #[.int .i64 0] 3)) 0).later (ba (aAI _ _) (.cells #[.bool false,.bool false,.string ⟨#[]⟩,.int .i64 0,.int .i64 0,.string ⟨#[]⟩,.string ⟨#[]⟩,.int .u8 0,.int .u8 0,.int .u8 0,.slice none 0 0,.slice none 0 0] 116));rw[e1]at this;exact this
 have keep: ∀ {g:Nat} {l:List Int} {v:Value},bD (((W0.alloc (.cells #[.int .i64 0] 3)).alloc (.cells #[.int .i64 0] 3)).alloc (.cells #[.bool false,.bool false,.string ⟨#[]⟩,.int .i64 0,.int .i64 0,.string ⟨#[]⟩,.string ⟨#[]⟩,.int .u8 0,.int .u8 0,.int .u8 0,.slice none 0 0,.slice none 0 0] 116)) v l->v.ownBlock≠some (W0.heap.size+1+1)->bD ((((W0.alloc (.cells #[.int .i64 0] 3)).alloc (.cells #[.int .i64 0] 3)).alloc (.cells #[.bool false,.bool false,.string ⟨#[]⟩,.int .i64 0,.int .i64 0,.string ⟨#[]⟩,.string ⟨#[]⟩,.int .u8 0,.int .u8 0,.int .u8 0,.slice none 0 0,.slice none 0 0] 116)).setCells (W0.heap.size+1+1) 0 (iE d (.slice (some ⟨W0.heap.size,0,none⟩) 1 1) (.slice (some ⟨W0.heap.size+1,0,none⟩) 1 1))) v l:=by
  rintro _ l v ⟨g,cap,rfl,hg,hc⟩ hne;refine⟨g,cap,rfl,by rw[setCells_size];exact hg,fun i hi=>?_⟩;rw[aTs _ _ _ _ _ (fun e _=>absurd (by rw[<-e];rfl) hne)];exact hc i hi
 refine⟨by omega,by omega,h3.dB _ rfl,(h2.later bA).others (by omega) (by omega) _ _,(h1.later bA).others (by omega) (by omega) _ _,keep (g:=0) i1 ?_,keep (g:=0) i2 ?_⟩
 . intro e;have e:W0.heap.size=W0.heap.size+1+1:=aPk e;omega
 intro e;have e:W0.heap.size+1=W0.heap.size+1+1:=aPk e;omega
theorem bD.set{W:World}{v u:Value}{l:List Int}{p k:Nat}(h:bD W v l)(hne:v.ownBlock≠some p):bD (W.setCell ⟨p,k,none⟩ u) v l:=by
 obtain⟨g,cap,rfl,hg,hc⟩:=h;refine⟨g,cap,rfl,by show g<(W.heap.modify _ _).size;rw[aWl];exact hg,fun i hi=>?_⟩;rw[aQl _ _ _ _ (fun e=>by injection e with e1 e2;exact hne (by rw[e1];rfl))];exact hc i hi
theorem bD.sets{W:World}{v:Value}{l:List Int}{p k:Nat}{us:List Value}(h:bD W v l)(hne:v.ownBlock≠some p):bD (W.setCells p k us) v l:=by
 obtain⟨g,cap,rfl,hg,hc⟩:=h;refine⟨g,cap,rfl,by rw[setCells_size];exact hg,fun i hi=>?_⟩;rw[aTs _ _ _ _ _ (fun e _=>absurd (by rw[<-e];rfl) hne)];exact hc i hi
theorem Rw.apart{p:Nat}{vs:List Value}{w W:World}(h:Rw p vs w W){v:Value}{l:List Int}(hv:bD W v l){x:Value}(hx:vs[0]? =some x)(hne: ∀n,x≠ .int .i64 n)(hl:l≠[]):v.ownBlock≠some p:=by
 obtain⟨g,cap,rfl,hg,hc⟩:=hv;intro e;have e:g=p:=aPk e;subst e;have h1:=h.cell 0 x hx;have h2:=hc 0 (by cases l with|nil=>exact absurd rfl hl|cons a b=>simp);rw[h1]at h2;exact hne _ (aPk h2)
theorem Dt.nJ{d:Dt}(h:d.aH≠0):d.ms=[d.aH]:=by unfold Dt.ms;rw[aDk h]
theorem Dt.qY{d:Dt}(h:d.aH=0)(h2:d.mo.size≠0):d.ms=dY d.mo 12:=by unfold Dt.ms;rw[aBx (by omega),aBx h2]
theorem Dt.BP{d:Dt}(h:d.aH=0)(h2:d.mo.size=0):d.ms=[0]:=by unfold Dt.ms;rw[aBx (by omega),aDk h2]
theorem Dt.XA{d:Dt}(h:d.da.size≠0):d.ds=dY d.da 31:=by unfold Dt.ds;rw[aBx h]
theorem Dt.ds_none{d:Dt}(h:d.da.size=0):d.ds=[0]:=by unfold Dt.ds;rw[aDk h]
theorem Dt.aPY{d:Dt}(h:d.form=0):d.ms≠[]:=by
 rcases jB h with⟨h1,_⟩|⟨h1,h2,h3,_⟩|⟨h1,h2,_⟩
 . rw[Dt.nJ h1];simp
 . rw[Dt.qY h1 h2];exact(lK (by omega) h3).2.2
 rw[Dt.BP h1 h2];simp
theorem Dt.aQa{d:Dt}(h:d.form=0):d.ds≠[]:=by
 by_cases c:d.da.size=0
 . rw[Dt.ds_none c];simp
 rw[Dt.XA c];rcases jB h with⟨_,_,h3⟩|⟨_,_,_,h3⟩|⟨_,_,h3⟩
 . exact absurd h3 c
 . rcases h3 with h3|h3
   . exact absurd h3 c
   exact(lK (by omega) h3).2.2
 exact absurd h3 c
theorem zO(d:Dt)(w:World)(hk:lD w)(hs:d.mo.size<=1000)(hf:d.form=0):
 Calls Tryz.prog 82 #[aV d] w (aPh d w):=by
 have hS:=fun W hb=>zJ d W (hk.below (w':=W) hb) hs;have hD:Rw w.heap.size (bK d) w ((w.alloc (.cells #[.bool d.neg,.bool d.long,.string d.dg,.int .i64 d.ex,.int .i64 d.sig,.string d.mo,.string d.da,.int .u8 d.m0,.int .u8 d.m1,.int .u8 d.m2] 37)).alloc (.cells #[.bool false,.bool false,.string ⟨#[]⟩,.int .i64 0,.int .i64 0,.string ⟨#[]⟩,.string ⟨#[]⟩,.int .u8 0,.int .u8 0,.int .u8 0,.slice none 0 0,.slice none 0 0] 116)):=(Rw.fresh (aAI _ _) (bK d) _).later (ba (aAI _ _) _);have hZ:Rw (w.heap.size+1) VZ w ((w.alloc (.cells #[.bool d.neg,.bool d.long,.string d.dg,.int .i64 d.ex,.int .i64 d.sig,.string d.mo,.string d.da,.int .u8 d.m0,.int .u8 d.m1,.int .u8 d.m2] 37)).alloc (.cells #[.bool false,.bool false,.string ⟨#[]⟩,.int .i64 0,.int .i64 0,.string ⟨#[]⟩,.string ⟨#[]⟩,.int .u8 0,.int .u8 0,.int .u8 0,.slice none 0 0,.slice none 0 0] 116)):=by
  have:=Rw.fresh (ba (aAI w.heap.size w) (.cells #[.bool d.neg,.bool d.long,.string d.dg,.int .i64 d.ex,.int .i64 d.sig,.string d.mo,.string d.da,.int .u8 d.m0,.int .u8 d.m1,.int .u8 d.m2] 37)) VZ 116;rw[dF]at this;exact this
 unfold aV at hS;obtain⟨z,hz⟩: ∃z,z=decide (d.aH=0):=⟨_,rfl⟩;rw[<-hz]at hS;have HZ0:=rG hz;clear hz;have HS0:=rG hS;have HNE:=rG (⟨Dt.aPY hf,Dt.aQa hf⟩:d.ms≠[]/\d.ds≠[]);have HF:=rG (jB hf);clear hS hf;unfold aV
 go_enter Tryz.func82,Tryz.ntmps82
 go_upto_region 1 with(fail)
 generalize (w.alloc (.cells #[.bool d.neg,.bool d.long,.string d.dg,.int .i64 d.ex,.int .i64 d.sig,.string d.mo,.string d.da,.int .u8 d.m0,.int .u8 d.m1,.int .u8 d.m2] 37)).alloc (.cells #[.bool false,.bool false,.string ⟨#[]⟩,.int .i64 0,.int .i64 0,.string ⟨#[]⟩,.string ⟨#[]⟩,.int .u8 0,.int .u8 0,.int .u8 0,.slice none 0 0,.slice none 0 0] 116)=W0 at hD hZ ⊢
 go_cut [3] (fun s3 wx=> ∃p3 mv dv,s3=.pointer (some ⟨p3,0,none⟩)/\p3≠w.heap.size+1/\p3≠w.heap.size/\Rw p3 (iE d mv dv) w wx/\Rw (w.heap.size+1) VZ w wx/\Rw w.heap.size (bK d) w wx/\bD wx mv [0]/\bD wx dv [0])
 case first=>
  obtain⟨hT,hN⟩:=aKt d hD hZ;have HN:=rG (hN _ _ rfl rfl _ rfl);obtain⟨q0,q1,q2,q3,q4,q5,q6,q7,q8,q9⟩:=hD.rV;clear hN hZ hD HF HS0
  go_wp2_with (first
   |(refine aQJ rfl 116 (.tmp 3) (.tmp 9) rfl (W0.heap.size+1+1) 0 (iE d (.slice (some ⟨W0.heap.size,0,none⟩) 1 1) (.slice (some ⟨W0.heap.size+1,0,none⟩) 1 1)).toArray rfl rfl hT jQ (aPR d rfl rfl) ?_))
  go_meet
  obtain⟨g1,g2,g3,g4,g5,g6,g7⟩:=HN.out;exact⟨_,_,_,rfl,g1,g2,g3,g4,g5,g6,g7⟩
 case rest=>
  obtain⟨p3,mv,dv,rfl,n1,n2,hP,hZ,hD,hm,hv⟩:=hcut;obtain⟨q0,q1,q2,q3,q4,q5,q6,q7,q8,q9⟩:=hD.rV;have N1:=rG n1;have N2:=rG n2;clear n1 n2
  go_upto_if 15 with(go_at_call 105;with_reducible refine(HS0.out _ hD.below).mono ?_;rintro _ w2 ⟨rfl,hb⟩;replace hP:=hP.later hb;replace hZ:=hZ.later hb;replace hD:=hD.later hb;replace hm:=hm.later hb;replace hv:=hv.later hb;clear hb)
  clear q0 q1 q2 q3 q4 q5 q6 q7 q8 q9 HS0;obtain⟨q0,q1,q2,q3,q4,q5,q6,q7,q8,q9⟩:=hD.rV
  go_cut [] (fun wx=> ∃mv2,Rw p3 (iE d mv2 dv) w wx/\Rw (w.heap.size+1) VZ w wx/\Rw w.heap.size (bK d) w wx/\bD wx mv2 d.ms/\bD wx dv [0])
  case first=>
   have aU7:w2.cell? ⟨p3,10,none⟩=some mv:=hP.cell 10 _ rfl;have aU5:=hP.free 10 (by show 10<12;omega);rcases HF.out with⟨h1,h2,h3⟩|⟨h1,h2,h3,h4⟩|⟨h1,h2,h3⟩
   . obtain rfl:z=false:=HZ0.out.trans (aBy h1);have hms:=Dt.nJ h1;have es:(w2.setCell ⟨p3,10,none⟩ (.slice (some ⟨w2.heap.size,0,none⟩) 1 1)).heap.size=w2.heap.size:=by simp[World.setCell]
     have av:=hP.apart hv rfl (fun n e=>by cases e) (by simp);have bl:=ba (aAI (w2.setCell ⟨p3,10,none⟩ (.slice (some ⟨w2.heap.size,0,none⟩) 1 1)).heap.size (w2.setCell ⟨p3,10,none⟩ (.slice (some ⟨w2.heap.size,0,none⟩) 1 1))) (.cells #[.int .i64 d.aH] 3);have hX:Rw p3 (iE d (.slice (some ⟨w2.heap.size,0,none⟩) 1 1) dv) w _:=(hP.set 10 (by show 10<12;omega) (.slice (some ⟨w2.heap.size,0,none⟩) 1 1)).later bl;have hX2:bD ((w2.setCell ⟨p3,10,none⟩ (.slice (some ⟨w2.heap.size,0,none⟩) 1 1)).alloc (.cells #[.int .i64 d.aH] 3)) (.slice (some ⟨(w2.setCell ⟨p3,10,none⟩ (.slice (some ⟨w2.heap.size,0,none⟩) 1 1)).heap.size,0,none⟩) 1 1) [d.aH]:=bD.lit (w:=w) d.aH;rw[es]at hX2;have hX3:=(hv.set (k:=10) (u:=.slice (some ⟨w2.heap.size,0,none⟩) 1 1) av).later bl;have hX4:=(hZ.other N1.out hP.new 10 (.slice (some ⟨w2.heap.size,0,none⟩) 1 1)).later bl;have hX5:=(hD.other N2.out hP.new 10 (.slice (some ⟨w2.heap.size,0,none⟩) 1 1)).later bl;rw[<-hms]at hX2;have HX:=rG (⟨hX,hX4,hX5,hX2,hX3⟩:_/\_/\_/\_/\_);have hlt:=hP.lt;clear hms hX hX2 hX3 hX4 hX5 av bl es h1 h2 h3 HF hP hZ hD hm hv
     go_wp2
     go_meet
     exact⟨_,HX.out⟩
   . obtain rfl:z=true:=HZ0.out.trans (aBz h1);have hms:=Dt.qY h1 h2;obtain⟨s2,sx,sn⟩:=lK (by omega) h3;have HFi:=rG (fun w=>fits_any d.mo 12 w s2 sx (by omega) sn);have m0:=N7 h2;have HMS:=rG hms;have SN:=rG sn;clear hms h1 h2 h3 h4 s2 sx sn HF;generalize dY d.mo 12=L at *
     go_wp2_with fail
     refine(HFi.out _).mono ?_;rintro _ w4 ⟨v,rfl,hi,hb⟩;clear aU7 aU5;replace hP:=hP.later hb;replace hZ:=hZ.later hb;replace hD:=hD.later hb;replace hm:=hm.later hb;replace hv:=hv.later hb;clear hb;have aU7:w4.cell? ⟨p3,10,none⟩=some mv:=hP.cell 10 _ rfl;have aU5:=hP.free 10 (by show 10<12;omega);have hl:L≠[]:=SN.out;have ap:=hP.apart hi rfl (fun n e=>by cases e) hl;have hX:Rw p3 (iE d v dv) w _:=hP.set 10 (by show 10<12;omega) v;have hX2:=hi.set (k:=10) (u:=v) ap;rw[<-HMS.out]at hX2;have av:=hP.apart hv rfl (fun n e=>by cases e) (by simp);have hX3:=hv.set (k:=10) (u:=v) av;have HX:=rG (⟨hX,hZ.other N1.out hP.new 10 v,hD.other N2.out hP.new 10 v,hX2,hX3⟩:_/\_/\_/\_/\_);obtain⟨g,cap,rfl,_⟩:=hi;clear hX hX2 hX3 ap av hP hZ hD hm hv
     go_wp2
     go_meet
     exact⟨_,HX.out⟩
   obtain rfl:z=true:=HZ0.out.trans (aBz h1);have hms:=Dt.BP h1 h2;rw[<-hms]at hm;have m0:=WY h2;have HX:=rG (⟨hP,hZ,hD,hm,hv⟩:_/\_/\_/\_/\_);clear hms h1 h2 h3 HF hP hZ hD hm hv
   go_wp2
   go_meet
   exact⟨_,HX.out⟩
  case rest=>
   obtain⟨mv2,hP,hZ,hD,hm,hv⟩:=hcut;clear q0 q1 q2 q3 q4 q5 q6 q7 q8 q9;obtain⟨q0,q1,q2,q3,q4,q5,q6,q7,q8,q9⟩:=hD.rV;obtain⟨de,hde⟩: ∃z,d.da.toList.isEmpty=z:=⟨_,rfl⟩;have HDE:Hid ((de=true/\d.da.size=0)\/(de=false/\ ¬d.da.size=0)):=rG (by
    rcases fB d.da with⟨c,e1⟩|⟨c,e1⟩
    . exact .inl ⟨hde.symm.trans e1,c⟩
    exact .inr ⟨hde.symm.trans e1,c⟩)
   go_upto_if 28 with(fail)
   clear hde
   go_cut [] (fun wx=> ∃dv2,Rw p3 (iE d mv2 dv2) w wx/\Rw (w.heap.size+1) VZ w wx/\bD wx mv2 d.ms/\bD wx dv2 d.ds)
   case first=>
    have aU6:wc.cell? ⟨p3,11,none⟩=some dv:=hP.cell 11 _ rfl;have aU4:=hP.free 11 (by show 11<12;omega);rcases HDE.out with⟨rfl,c⟩|⟨rfl,c⟩
    . rw[<-Dt.ds_none c]at hv;have HX:=rG (⟨hP,hZ,hm,hv⟩:_/\_/\_/\_);clear hP hZ hD hm hv c HF HZ0
      go_wp2
      go_meet
      exact⟨_,HX.out⟩
    have h4:dU d.da 31=true:=by
     rcases HF.out with⟨_,_,h⟩|⟨_,_,_,h⟩|⟨_,_,h⟩
     . exact absurd h c
     . rcases h with h|h
       . exact absurd h c
       exact h
     exact absurd h c
    obtain⟨s2,sx,sn⟩:=lK (by omega) h4;have HFi:=rG (fun w=>fits_any d.da 31 w s2 sx (by omega) sn);have HDS:=rG (Dt.XA c);have SN:=rG sn;have MN:=rG (⟨hm,by
     rcases HF.out with⟨h,_,_⟩|⟨h,h2,h3,_⟩|⟨h,h2,_⟩
     . rw[Dt.nJ h];simp
     . rw[Dt.qY h h2];exact(lK (by omega) h3).2.2
     rw[Dt.BP h h2];simp⟩:bD wc mv2 d.ms/\d.ms≠[])
    clear h4 s2 sx sn c HF HZ0;generalize dY d.da 31=L at *
    go_wp2_with fail
    refine(HFi.out _).mono ?_;rintro _ w4 ⟨v,rfl,hi,hb⟩;clear aU6 aU4;have hm2:=MN.out.1.later hb;have mne:=MN.out.2;clear MN hm;replace hP:=hP.later hb;replace hZ:=hZ.later hb;clear hb hD hv;have aU6:w4.cell? ⟨p3,11,none⟩=some dv:=hP.cell 11 _ rfl;have aU4:=hP.free 11 (by show 11<12;omega);have ap:=hP.apart hi rfl (fun n e=>by cases e) SN.out;have am:=hP.apart hm2 rfl (fun n e=>by cases e) mne;have hX:Rw p3 (iE d mv2 v) w _:=hP.set 11 (by show 11<12;omega) v;have hX2:=hi.set (k:=11) (u:=v) ap;rw[<-HDS.out]at hX2;have HX:=rG (⟨hX,hZ.other N1.out hP.new 11 v,hm2.set (k:=11) (u:=v) am,hX2⟩:_/\_/\_/\_);obtain⟨g,cap,rfl,_⟩:=hi;clear hX hX2 ap am hP hZ hm2 mne
    go_wp2
    go_meet
    exact⟨_,HX.out⟩
   case rest=>
    obtain⟨dv2,hP,hZ,hm,hv⟩:=hcut;clear q0 q1 q2 q3 q4 q5 q6 q7 q8 q9;have hR:=hP.range;have hT:=hZ.there;have o1:=aPR d hm.one' hv.one';have hX:=hZ.dB (iE d mv2 dv2) rfl;have hr:=aMj (P:=Tryz.prog) _ _ 0 116 (iE d mv2 dv2) _ hX.range Tryz.underlying116 rfl jQ;have HX:=rG (⟨hm.sets (k:=0) (us:=iE d mv2 dv2) (hZ.apart hm rfl (fun n e=>by cases e) HNE.out.1),hv.sets (k:=0) (us:=iE d mv2 dv2) (hZ.apart hv rfl (fun n e=>by cases e) HNE.out.2),hX.below⟩:_/\_/\_);replace hr:=rG hr;clear hX hP hZ hm hv HF HZ0
    go_wp2_with (first
     |(refine aHD rfl 116 (.tmp 3) rfl p3 0 rfl (iE d mv2 dv2) _ hR Tryz.underlying116 rfl jQ ?_)
     |(refine aQJ rfl 116 (.tmp 2) (.tmp 33) rfl (w.heap.size+1) 0 (iE d mv2 dv2).toArray rfl rfl hT jQ o1 ?_))
    exact aHE (v:=.agg (iE d mv2 dv2).toArray) (dQ Tryz.results82 _ rfl hr.out) rfl ⟨mv2,dv2,rfl,HX.out⟩
end Bk
end
section
open Go.RowKit Go.Lib
namespace Bk
open Un (ba bt ri rb aS aZ)
theorem QB(y m:Int)(w:World)(hk:lD w)(h0: -10000000000000000<=y)(h1:y<=10000000000000000)(m0:1<=m)(m1:m<=12):
 Calls Tryz.prog 138 #[.int .i64 y,.int .i64 m] w fun e w'=>e=.returned (.tuple #[.int .i64 (Cal.len y m),.int .i64 0])/\Below w.heap.size w w':=by
 have HC:Hid (∀w:World,Calls Tryz.prog 162 #[.int .i64 y,.int .i64 m] w fun e w'=>e=.returned (.int .i64 0)/\w=w'):=rG (by
  intro w;have:=Un.jJ y m w;unfold Un.sJ at this;rw[aDk ⟨h0,h1⟩,aDk ⟨m0,m1⟩]at this;exact this)
 have HL:=rG (Un.qE y m w hk.cal h0 h1 m0 m1);generalize Cal.len y m=n at *;clear hk
 go_enter Tryz.func138,Tryz.ntmps138
 go_wp2_with (first|(go_at_call 162;with_reducible refine(HC.out _).mono ?_;rintro _ w' ⟨rfl,rfl⟩)|(go_at_call 163;with_reducible refine HL.out.mono ?_;rintro _ w' ⟨rfl,hb⟩))
 go_ret2
 exact⟨rfl,hb⟩
def fmv(d:Dt)(mv dv:Value):Value:=.agg #[.bool d.neg,.bool d.long,.string d.dg,.int .i64 d.ex,.int .i64 d.sig,.string d.mo,.string d.da,.int .u8 d.m0,.int .u8 d.m1,.int .u8 d.m2,mv,dv]
theorem GU(d:Dt)(mv dv:Value)(y m:Int)(w:World)(hk:lD w)(h0: -10000000000000000<=y)(h1:y<=10000000000000000)(hm:d.da.size≠0->1<=m/\m<=12):
 Calls Tryz.prog 115 #[fmv d mv dv,.int .i64 y,.int .i64 m] w fun e w'=>e=.returned (.int .i64 (d.len y m))/\Below w.heap.size w w':=by
 have hF:Rw w.heap.size (iE d mv dv) w _:=Rw.fresh (aAI _ _) (iE d mv dv) 116;have q6:=hF.cell 6 _ rfl;have HB:=rG hF.below;clear hF;unfold fmv;unfold iE at q6 HB;unfold Dt.len;rcases fB d.da with⟨c,e1⟩|⟨c,e1⟩
 . rw[aDk c];clear c
   go_enter Tryz.func115,Tryz.ntmps115
   go_wp2
   go_ret
   exact⟨rfl,HB.out⟩
 rw[aBx c];obtain⟨m0,m1⟩:=hm c;have HL:=rG (fun W hb=>QB y m W (hk.below (w':=W) hb) h0 h1 m0 m1);generalize Cal.len y m=n at *;clear c
 go_enter Tryz.func115,Tryz.ntmps115
 go_wp2_with (go_at_call 138;with_reducible refine(HL.out _ HB.out).mono ?_;rintro _ w' ⟨rfl,hb⟩)
 go_ret
 exact⟨rfl,bt HB.out hb⟩
theorem aEU{d:Dt}{n:Int}(hm:d.mask=false):d.Year n (yVal d.neg d.dg d.ex) (decide (n<=yVal d.neg d.dg d.ex)):=by
 have hin: ∀u,d.In u↔u=yVal d.neg d.dg d.ex:=fun u=>by
  unfold Dt.In yVal Dt.mag;rw[aBx (by rw[hm];decide)]
 by_cases c:n<=yVal d.neg d.dg d.ex
 . exact .inl ⟨aBz c,(hin _).2 rfl,c,fun u hu _=>by rw[(hin u).1 hu];exact aTF _⟩
 exact .inr ⟨aBy c,fun u hu h=>by rw[(hin u).1 hu]at h;exact c h⟩
theorem aQL{d:Dt}{n v:Int}{ok:Bool}(hm:d.mask=true)(hn:d.neg=false)(h:UpR (aX d.dg) n 0 v ok):d.Year n v ok:=by
 have hin: ∀u,d.In u↔pG (aX d.dg) u:=fun u=>by
  unfold Dt.In;rw[aDk hm,aBx (by rw[hn];decide)]
 rcases h.2.2 with⟨h1,h2,h3,_,h4⟩|⟨h1,h2⟩
 . exact .inl ⟨h1,(hin _).2 h2,h3,fun u hu hl=>h4 u ((hin u).1 hu) hl ((hin u).1 hu).1⟩
 exact .inr ⟨h1,fun u hu hl=>by have:=h2 u ((hin u).1 hu) ((hin u).1 hu).1;omega⟩
theorem aQM{d:Dt}{n v:Int}{ok:Bool}(hm:d.mask=true)(hn:d.neg=true)(h:DnR (aX d.dg) (-(max n (-9223372036854775807))) 1 v ok):d.Year n (-v) ok:=by
 have hin: ∀u,d.In u↔(pG (aX d.dg) (-u)/\u≠0):=fun u=>by
  unfold Dt.In;rw[aDk hm,aDk hn]
 rcases h.2.2 with⟨h1,h2,h3,h5,h4⟩|⟨h1,h2⟩
 . refine .inl ⟨h1,(hin _).2 ⟨by rw[Int.neg_neg];exact h2,by omega⟩,by omega,fun u hu hl=>?_⟩;obtain⟨g1,g2⟩:=(hin u).1 hu;have:=h4 (-u) g1 (by have:=g1.2.1;omega);omega
 refine .inr ⟨h1,fun u hu hl=>?_⟩;obtain⟨g1,g2⟩:=(hin u).1 hu;have:=h2 (-u) g1 (by have:=g1.2.1;omega);have:=g1.1;omega
theorem WT(d:Dt)(mv dv:Value)(n:Int)(w:World)(hy:d.dg.size<=1000)(hok:d.JW=true)(n0: -9223372036854775808<=n)(n1:n<9223372036854775808):
 Calls Tryz.prog 114 #[fmv d mv dv,.int .i64 n,.bool true] w (UF (fun v ok=>d.Year n v ok) w):=by
 have hF:Rw w.heap.size (iE d mv dv) w _:=Rw.fresh (aAI _ _) (iE d mv dv) 116;unfold iE at hF;have hM:=fun W=>oJ d.neg d.long d.dg d.ex d.sig W;unfold yv at hM;unfold Dt.JW at hok;unfold fmv
 go_enter Tryz.func114,Tryz.ntmps114
 go_upto_region 1 with(fail)
 generalize w.alloc _=W0 at hF ⊢;obtain⟨r0,r1,r2,r3,r4⟩:=(⟨hF.cell 0 _ rfl,hF.cell 1 _ rfl,hF.cell 2 _ rfl,hF.cell 3 _ rfl,hF.cell 4 _ rfl⟩:_/\_/\_/\_/\_);have HB0:=rG hF.below;clear hF
 go_upto_region 2 with(fail)
 have hY:=Ym.new d.neg d.long d.dg d.ex d.sig W0 35;generalize W0.alloc _=W1 at hY ⊢;clear r0 r1 r2 r3 r4;obtain⟨q0,q1,q2,q3,q4,qB⟩:=id hY
 cases hx:hasB 88 d.dg
 . rw[hx]at hM;have HM:=rG hM;have hV:=fun W=>zC d.neg d.long d.dg d.ex d.sig W hy hok hx;unfold yv at hV;have HV:=rG hV;have HP:=rG (aEU (d:=d) (n:=n) (by unfold Dt.mask;exact hx));have hb:=UN hok hx;clear hM hV hok hx;generalize yVal d.neg d.dg d.ex=v at *
   go_wp2_with fail
   refine(HM.out _).mono ?_;rintro _ w1 ⟨rfl,hb⟩;replace hY:=hY.later hb;clear hb;obtain⟨q0,q1,q2,q3,q4,qB⟩:=id hY
   go_wp2_with fail
   refine(HV.out _).mono ?_;rintro _ w2 ⟨rfl,hb⟩;replace hY:=hY.later hb;clear hb;obtain⟨q0,q1,q2,q3,q4,qB⟩:=id hY;have HB2:=rG (bt HB0.out hY.below)
   by_cases cn:n<=v
   . rw[aBz cn]at HP
     go_wp2_with fail
     go_ret2
     exact⟨_,_,HP.out,rfl,HB2.out⟩
   go_wp2_with fail
   go_ret2
   exact⟨_,_,HP.out,rfl,HB2.out⟩
 have hs:d.long=false/\d.dg.size=4/\allB bV d.dg=true:=by
  rcases aTa d.long with hl|hl
  case inr=>
   rw[hl]at hok;obtain⟨h1,h2,_⟩:=iD hok;exact⟨hl,h1,h2⟩
  case inl=>
   rw[hl]at hok;have hd:=(jI hok).2.2.1;have:=(jV (qJ hd)).2 hd;rw[hx]at this;cases this
 obtain⟨-,h4,hdx⟩:=hs;rw[hx]at hM;have HM:=rG hM;have hmk:d.mask=true:=by unfold Dt.mask;exact hx
 rcases aTa d.neg with hn|hn
 case inr=>
  as_aux_lemma=>
   have HU:=rG (fun w=>VU d.dg n w h4 hdx n0 n1);have HP:=rG (fun v ok h=>aQL (n:=n) (v:=v) (ok:=ok) hmk hn h);have HN:=rG hn;clear hM hok hx h4 hdx hmk hn
   go_wp2_with fail
   refine(HM.out _).mono ?_;rintro _ w1 ⟨rfl,hb⟩;replace hY:=hY.later hb;clear hb;obtain⟨q0,q1,q2,q3,q4,qB⟩:=id hY;rw[HN.out]at q0
   go_wp2_with fail
   refine(HU.out _).mono ?_;rintro _ w2 ⟨v,ok,hU,rfl,hb⟩;have HP2:=rG (HP.out _ _ hU);have HB2:=rG (bt (bt HB0.out hY.below) hb);clear hb hU
   go_wp2_with fail
   go_ret2
   exact⟨_,_,HP2.out,rfl,HB2.out⟩
 case inl=>
  as_aux_lemma=>
   have HU:=rG (fun w=>VW d.dg (-(max n (-9223372036854775807))) w h4 hdx);have HP:=rG (fun v ok h=>aQM (n:=n) (v:=v) (ok:=ok) hmk hn h);have HN:=rG hn;clear hM hok hx h4 hdx hmk hn
   go_wp2_with fail
   refine(HM.out _).mono ?_;rintro _ w1 ⟨rfl,hb⟩;replace hY:=hY.later hb;clear hb;obtain⟨q0,q1,q2,q3,q4,qB⟩:=id hY;rw[HN.out]at q0
   go_wp2_with fail
   refine(HU.out _).mono ?_;rintro _ w2 ⟨v,ok,hU,rfl,hb⟩;have HP2:=rG (HP.out _ _ hU);have hw:wrap64 (-v)= -v:=by
    have g0:=hU.1;have g1:=hU.2.1;unfold wrap64;omega
   have HB2:=rG (bt (bt HB0.out hY.below) hb);clear hb hU
   go_wp2_with fail
   rw[hw]
   go_ret2
   exact⟨_,_,HP2.out,rfl,HB2.out⟩
end Bk
end
section
open Go.RowKit Go.Lib
namespace Bk
open Un (ba bt ri rb aS aZ)
theorem TY(a b:Int)(p:Nat)(w:World)(hc:w.cell? ⟨p,0,none⟩=some (.bool true)):
 Calls Tryz.prog 113 #[.int .i64 a,.int .i64 b,.pointer (some ⟨p,0,none⟩)] w fun r w'=>r=.returned (.bool (decide (a<b)))/\w=w':=by
 go_enter Tryz.func113,Tryz.ntmps113
 by_cases c:a<b
 . rw[aBz c]
   go_wp2_with fail
   go_ret
   exact⟨rfl,rfl⟩
 rw[aBy c]
 go_wp2_with fail
 go_ret
 exact⟨rfl,rfl⟩
def aN(y m k:Int):List Value:=[.int .i64 y,.int .i64 m,.int .i64 k]
def FU(d:Dt)(cy cm ck:Int)(w:World)(e:Ending)(w':World):Prop:= ∃y m k ok,d.jG cy cm ck y m k ok/\e=.returned (.tuple #[cvv y m k,.bool ok])/\Below w.heap.size w w'
structure Sk(d:Dt)(mv dv:Value)(cy cm ck:Int)(p3 p4 p5 p6:Nat)(w W:World):Prop where
 f:Rw p3 (iE d mv dv) w W
 c:Rw p4 (aN cy cm ck) w W
 u:Rw p5 [.bool true] w W
 o:Rw p6 (aN 0 0 0) w W
 m:bD W mv d.ms
 d:bD W dv d.ds
theorem Sk.later{d:Dt}{mv dv:Value}{cy cm ck:Int}{p3 p4 p5 p6:Nat}{w W W2:World}(h:Sk d mv dv cy cm ck p3 p4 p5 p6 w W)(hb:Below W.heap.size W W2):Sk d mv dv cy cm ck p3 p4 p5 p6 w W2:=
 ⟨h.f.later hb,h.c.later hb,h.u.later hb,h.o.later hb,h.m.later hb,h.d.later hb⟩
theorem Sk.new(d:Dt){mv dv:Value}(cy cm ck:Int)(w:World)(t1 t2 t3 t4:TypeId)(hm:bD w mv d.ms)(hd:bD w dv d.ds):
 Sk d mv dv cy cm ck w.heap.size (w.heap.size+1) (w.heap.size+1+1) (w.heap.size+1+1+1) w ((((w.alloc (.cells (iE d mv dv).toArray t1)).alloc (.cells (aN cy cm ck).toArray t2)).alloc (.cells #[.bool true] t3)).alloc (.cells (aN 0 0 0).toArray t4)):=by
 have f1:=Rw.fresh (aAI w.heap.size w) (iE d mv dv) t1;have f2:=Rw.fresh f1.below (aN cy cm ck) t2;have f3:=Rw.fresh f2.below [.bool true] t3;have f4:=Rw.fresh f3.below (aN 0 0 0) t4;simp only[dF]at f2 f3 f4;refine⟨?_,?_,?_,f4,?_,?_⟩
 . exact((f1.later (ba (aAI _ _) _)).later (ba (aAI _ _) _)).later (ba (aAI _ _) _)
 . exact(f2.later (ba (aAI _ _) _)).later (ba (aAI _ _) _)
 . exact f3.later (ba (aAI _ _) _)
 . exact hm.later f4.below
 exact hd.later f4.below
theorem aMZ{d:Dt}{v m k cy cm ck:Int}{s2:Bool}(hmd:d.mo.size=0->d.da.size=0)(hle:cy<=v)(hns: ¬(v=cy/\d.mo.size≠0/\m<cm))(h2:s2=true↔v=cy/\(d.mo.size=0\/m=cm)):
 d.ge v m k cy cm ck↔ ¬(s2=true/\d.da.size≠0/\k<ck):=by
 unfold Dt.ge;rw[h2]
 by_cases c:cy<v
 . exact⟨fun _ h=>by omega,fun _=>.inl c⟩
 have e:v=cy:=by omega
 constructor
 . rintro(h|⟨_,h⟩) ⟨⟨_,g1⟩,g2,g3⟩
   . exact c h
   have:d.mo.size≠0:=fun h=>g2 (hmd h);omega
 intro h;refine .inr ⟨e,?_⟩
 by_cases c1:d.mo.size=0
 . exact .inl c1
 by_cases c2:m=cm
 . refine .inr (.inr ⟨c2,?_⟩)
   by_cases c3:d.da.size=0
   . exact .inl c3
   right
   by_cases c4:k<ck
   . exact absurd ⟨⟨e,.inr c2⟩,c3,c4⟩ h
   omega
 right;left;omega
theorem bD.at{W:World}{g n cap:Nat}{l:List Int}(h:bD W (.slice (some ⟨g,0,none⟩) n cap) l): ∀i (hi:i<l.length),W.cell? ⟨g,i,none⟩=some (.int .i64 (l[i]'hi)):=by
 obtain⟨g2,cap2,he,_,hc⟩:=h
 cases he
 exact hc
theorem qG:(Tryz.prog.info? 112).map (·.size)=some 3:=by kernel_rfl
theorem qV{fn:Func}{p q:Tmp}{ty:TypeId}(h:fn.results= #[.cell p ty,.tmp q])(tmps:Array Value){P:Program}{w:World}{a:Addr}{v u:Value}
 (hp:tmps.getD p undef=.pointer (some a)) (hq:tmps.getD q undef=u) (hl:(loadVar ty a).run P w=.ok v w):(results fn tmps).run P w=.ok (.tuple #[v,u]) w:=by
 have hp':tmps[p]?.getD undef=.pointer (some a):=by simpa using hp
 have hq':tmps[q]?.getD undef=u:=by simpa using hq
 simp[results,h,hp',hq',asAddr,hl]
theorem Y0{d:Dt}{cy cm ck y m k:Int}{ok:Bool}{p6:Nat}{w wO:World}{tmps:Array Value}(ho:Rw p6 (aN 0 0 0) w wO)(h:d.jG cy cm ck y m k ok)
 (hp:tmps.getD 6 undef=.pointer (some ⟨p6,0,none⟩)) (hq:tmps.getD 7 undef=.bool ok):
 bodyPost Tryz.prog Tryz.f83 (FU d cy cm ck w) Exit.ret ⟨tmps,[]⟩ (((wO.setCell ⟨p6,0,none⟩ (.int .i64 y)).setCell ⟨p6,1,none⟩ (.int .i64 m)).setCell ⟨p6,2,none⟩ (.int .i64 k)):=by
 have hX:=ho.dB (aN y m k) rfl;have hr:=aMj (P:=Tryz.prog) _ p6 0 112 (aN y m k) _ hX.range Tryz.underlying112 rfl qG;exact aHE (v:=.tuple #[cvv y m k,.bool ok]) (qV Tryz.results83 _ hp hq hr) rfl ⟨y,m,k,ok,h,rfl,hX.below⟩
def TT:Value->Nat
 | .bool true=>1
 |_=>0
def muY(y f:Value):Nat:=TT f * (10000000000000002 - intOf y).toNat
structure Yst(d:Dt)(cy cm ck:Int)(v:Int)(ok:Bool):Prop where
 yes:ok=true->d.In v/\cy<=v/\d.NoY v cy cm ck
 no:ok=false-> ∀z n j,d.Fill z n j-> ¬d.ge z n j cy cm ck
theorem Yst.start{d:Dt}{cy cm ck v:Int}{ok:Bool}(h:d.Year cy v ok):Yst d cy cm ck v ok:=by
 have hs:=Dt.aF8 (cm:=cm) (ck:=ck) h;refine⟨fun e=>?_,hs.2⟩;rcases h with g|g
 . exact⟨g.2.1,g.2.2.1,hs.1 e⟩
 rw[g.1]at e;cases e
theorem Yst.next{d:Dt}{cy cm ck y v:Int}{ok:Bool}(hs:Yst d cy cm ck y true)(hm:d.NoM y cy cm ck d.ms.length)(h:d.Year (y+1) v ok):Yst d cy cm ck v ok/\(ok=true->y<v):=by
 obtain⟨h1,h2,h3⟩:=hs.yes rfl;have hn:=Dt.aJE h3 hm h;rcases h with g|g
 . exact⟨⟨fun e=>⟨g.2.1,by have:=g.2.2.1;omega,hn.1 e⟩,hn.2⟩,fun _=>by have:=g.2.2.1;omega⟩
 refine⟨⟨fun e=>?_,hn.2⟩,fun e=>?_⟩<;>(rw[g.1]at e;cases e)
theorem aIi (d : Dt) (mv dv:Value) (cy cm ck:Int) (w:World) (hk:lD w) (hy:d.dg.size<=1000) (hok:d.JW=true) (hmd:d.mo.size=0->d.da.size=0)
 (y0: -9223372036854775808<=cy) (y1:cy<9223372036854775808) (hm:bD w mv d.ms) (hd:bD w dv d.ds) (hmm:d.da.size≠0-> ∀m,m ∈ d.ms->1<=m/\m<=12):
 Calls Tryz.prog 83 #[fmv d mv dv,cvv cy cm ck,.bool true] w (FU d cy cm ck w):=by
 obtain⟨gm,xm,rfl,-,-⟩:=id hm;obtain⟨gd,xd,rfl,-,-⟩:=id hd;have hS:=Sk.new d cy cm ck w 116 112 4 112 hm hd;have HY:=rG (fun n W h0 h1=>WT d (.slice (some ⟨gm,0,none⟩) d.ms.length xm) (.slice (some ⟨gd,0,none⟩) d.ds.length xd) n W hy hok h0 h1);have HL:=rG (fun y m W hb h0 h1 hm=>GU d (.slice (some ⟨gm,0,none⟩) d.ms.length xm) (.slice (some ⟨gd,0,none⟩) d.ds.length xd) y m W (hk.below (w':=W) hb) h0 h1 hm);have HIN:=rG (fun y (h:d.In y)=>Dt.jU hok h);have HMM:=rG hmm;have HMD:=rG hmd;unfold fmv at HY HL;unfold fmv cvv;unfold iE aN at hS
 go_enter Tryz.func83,Tryz.ntmps83
 go_upto_region 1 with(fail)
 generalize World.alloc _ _=W0 at hS ⊢;generalize w.heap.size+1+1+1=p6 at *;generalize w.heap.size+1+1=p5 at *;generalize w.heap.size+1=p4 at *;clear hk hy hok hm hd hmm hmd;replace hS:Hid (Sk d (.slice (some ⟨gm,0,none⟩) d.ms.length xm) (.slice (some ⟨gd,0,none⟩) d.ds.length xd) cy cm ck w.heap.size p4 p5 p6 w W0):=rG hS;have HB0:=rG hS.out.f.below
 go_cut [8,9,10] (fun a b c wx=>a=.int .i64 1/\ .slice (some ⟨gm,0,none⟩) d.ms.length xm=b/\ .slice (some ⟨gd,0,none⟩) d.ds.length xd=c/\Sk d b c cy cm ck w.heap.size p4 p5 p6 w wx)
 case first=>
  have f0:=hS.out.f.cell 10 _ rfl;have f1:=hS.out.f.cell 11 _ rfl
  go_region_with (fail)
  all_goals (go_wp2_with fail)
  all_goals (go_meet;exact⟨rfl,rfl,rfl,hS.out.later (aAI W0.heap.size W0).drew⟩)
 case rest=>
 obtain⟨rfl,rfl,rfl,hS⟩:=hcut;have hu:=hS.u.cell 0 _ rfl;have g0:=hS.c.cell 0 _ rfl;have hR:=hS.f.range;replace hS:=rG hS
 go_wp2_with (first
  |(refine aHD rfl 116 (.tmp 3) rfl w.heap.size 0 rfl (iE d (.slice (some ⟨gm,0,none⟩) d.ms.length xm) (.slice (some ⟨gd,0,none⟩) d.ds.length xd)) _ hR Tryz.underlying116 rfl jQ ?_)
  |(go_at_call 114;refine(HY.out _ _ y0 y1).mono ?_;rintro _ w1 ⟨v,ok,hv,rfl,hb⟩))
 replace hS:Hid (Sk d (.slice (some ⟨gm,0,none⟩) d.ms.length xm) (.slice (some ⟨gd,0,none⟩) d.ds.length xd) cy cm ck w.heap.size p4 p5 p6 w w1):=rG (hS.out.later hb);have HV0:Hid (Yst d cy cm ck v ok):=rG (Yst.start hv);clear hu g0 hR hv hb HB0
 go_loopw [7,12,13] (fun r y f wr=> ∃v ok,r=.bool false/\y=.int .i64 v/\f=.bool ok/\Yst d cy cm ck v ok/\Sk d (.slice (some ⟨gm,0,none⟩) d.ms.length xm) (.slice (some ⟨gd,0,none⟩) d.ds.length xd) cy cm ck w.heap.size p4 p5 p6 w wr) (fun _ y f _=>muY y f)
 case atStart=>exact⟨v,ok,rfl,rfl,rfl,HV0.out,hS.out⟩
 case round =>
  obtain⟨v,ok,rfl,rfl,rfl,hV,hS⟩:=hrel;generalize wr=wO at *;have HV:=rG hV;have HS:=rG hS;clear hV hS
  cases ok
  . have HN:=rG (HV.out.no rfl);have f0:=HS.out.o.cell 0 _ rfl;have f1:=HS.out.o.cell 1 _ rfl;have f2:=HS.out.o.cell 2 _ rfl;have z0:=HS.out.o.free 0 (by unfold aN;simp);have z1:=HS.out.o.free 1 (by unfold aN;simp);have z2:=HS.out.o.free 2 (by unfold aN;simp)
    go_wp2_with fail
    exact Y0 HS.out.o (.inr ⟨rfl,rfl,rfl,rfl,HN.out⟩) rfl rfl
  obtain ⟨i1, i2, i3⟩:=HV.out.yes rfl;have HIV:=rG (HIN.out _ i1);have HLE:=rG i2;clear i1 i2 i3
  go_wp2_with fail
  go_step3
  go_wp2_with fail
  go_step3
  go_wp2_with fail
  have HM0:=rG (Dt.aJF d v cy cm ck)
  go_loopw [7,55] (fun r i wr=> ∃i':Nat,r=.bool false/\i=.int .i64 i'/\i'<=d.ms.length/\d.NoM v cy cm ck i'/\Sk d (.slice (some ⟨gm,0,none⟩) d.ms.length xm) (.slice (some ⟨gd,0,none⟩) d.ds.length xd) cy cm ck w.heap.size p4 p5 p6 w wr) (fun _ i _=>d.ms.length - (intOf i).toNat)
  case atStart=>exact⟨0,rfl,rfl,by omega,HM0.out,HS.out⟩
  case round =>
   obtain⟨i,rfl,rfl,hi,hM,hS⟩:=hrel;clear HS HM0;generalize wr=wO at *;have HS:=rG hS;have HM:=rG hM;clear hS hM;have ml:=d.MC
   by_cases hlt:i<d.ms.length
   . have hcell :=HS.out.m.at i hlt;generalize hme:d.ms[i]'hlt=m at hcell;have g0:=HS.out.c.cell 0 _ rfl
     go_upto_region 13 with(fail)
     go_cut [16] (fun s wx=> ∃b,s=.bool b/\(b=true↔v=cy)/\wO=wx)
     case first=>
      go_wp2_with fail
      go_meet
      exact⟨_,rfl,by simp,rfl⟩
     case rest=>
      obtain⟨sb,rfl,hsb,rfl⟩:=hcut;have I4:=rG hsb;clear hsb g0 hcell
      go_upto_region 14 with(fail)
      go_cut [76] (fun s wx=> ∃b,s=.bool b/\(b=true↔(v=cy/\d.mo.size≠0/\m<cm))/\wO=wx)
      case first=>
       have g5:=HS.out.f.cell 5 _ rfl;have g1:=HS.out.c.cell 1 _ rfl;have hu:=HS.out.u.cell 0 _ rfl;have HA:=rG (TY m cm p5 wO hu)
       cases sb
       . have hne:v≠cy:=fun e=>by have:=I4.out.2 e;cases this
         go_wp2_with fail
         go_meet
         exact⟨_,rfl,by simp[hne],rfl⟩
       have hve:=I4.out.1 rfl;rcases fB d.mo with⟨c,e1⟩|⟨c,e1⟩
       . have HC:=rG c;clear c hve
         go_wp2_with fail
         go_meet
         exact⟨_,rfl,by simp[HC.out],rfl⟩
       have HC:=rG c;have HVE:=rG hve;clear c hve;generalize hmc:decide (m<cm)=mc at HA;have HMC:=rG hmc;clear hmc
       go_wp2_with (go_at_call 113;with_reducible refine HA.out.mono ?_;rintro _ w' ⟨rfl,rfl⟩)
       go_meet
       exact⟨_,rfl,by rw[<-HMC.out];simp[HC.out,HVE.out],rfl⟩
      case rest =>
       obtain⟨b,rfl,hb,rfl⟩:=hcut
       cases b
       . have HNS : Hid (¬(v=cy/\d.mo.size≠0/\m<cm)):=rG (fun h=>by have:=hb.2 h;cases this);clear hb;have hR:=HS.out.f.range;have hl:=HL.out v m wO HS.out.f.below HIV.out.1 HIV.out.2 (fun h=>HMM.out h m (by rw[<-hme];exact aRy hlt));have HLN:=rG hl;clear hl;obtain⟨n,hn⟩: ∃n,n=d.len v m:=⟨_,rfl⟩;rw[<-hn]at HLN;have HNN:=rG hn;clear hn
         go_upto_region 16 with(first
          |(refine aHD rfl 116 (.tmp 3) rfl w.heap.size 0 rfl (iE d (.slice (some ⟨gm,0,none⟩) d.ms.length xm) (.slice (some ⟨gd,0,none⟩) d.ds.length xd)) _ hR Tryz.underlying116 rfl jQ ?_)
          |(go_at_call 115;refine HLN.out.mono ?_;rintro _ w2 ⟨rfl,hb⟩))
         replace HS:=rG (HS.out.later hb);clear hb hR HLN
         go_cut [16] (fun s wx=> ∃b,s=.bool b/\(b=true↔(v=cy/\(d.mo.size=0\/m=cm)))/\w2=wx)
         case first=>
          have g5:=HS.out.f.cell 5 _ rfl;have g1:=HS.out.c.cell 1 _ rfl
          cases sb
          . have hne:v≠cy:=fun e=>by have:=I4.out.2 e;cases this
            go_wp2_with fail
            go_meet
            exact⟨_,rfl,by simp[hne],rfl⟩
          have hve:=I4.out.1 rfl;have HVE:=rG hve;clear hve;rcases fB d.mo with⟨c,e1⟩|⟨c,e1⟩
          . have HC:=rG c;clear c
            go_wp2_with fail
            go_meet
            exact⟨_,rfl,by simp[HC.out,HVE.out],rfl⟩
          have HC:=rG c;clear c
          go_wp2_with fail
          go_meet
          exact⟨_,rfl,by simp[HC.out,HVE.out],rfl⟩
         case rest=>
          obtain⟨s2,rfl,hs2,rfl⟩:=hcut;have HS2:=rG hs2;have HGE:=rG (fun k=>aMZ (k:=k) (ck:=ck) HMD.out HLE.out HNS.out hs2);clear hs2 I4;have HK0:=rG (Dt.aJI d v m cy cm ck)
          go_wp2_with fail
          go_loopw [7,96] (fun r i wr=> ∃i':Nat,r=.bool false/\i=.int .i64 i'/\i'<=d.ds.length/\d.NoK v m cy cm ck i'/\Sk d (.slice (some ⟨gm,0,none⟩) d.ms.length xm) (.slice (some ⟨gd,0,none⟩) d.ds.length xd) cy cm ck w.heap.size p4 p5 p6 w wr) (fun _ i _=>d.ds.length - (intOf i).toNat)
          case atStart=>exact⟨0,rfl,rfl,by omega,HK0.out,HS.out⟩
          case round=>
           obtain⟨j,rfl,rfl,hj,hK,hS⟩:=hrel;clear HS HK0;generalize wr=wO at *;have HS:=rG hS;have HK:=rG hK;clear hS hK;have dl:=d.aDb
           by_cases hjt:j<d.ds.length
           . have hcell:=HS.out.d.at j hjt;generalize hke:d.ds[j]'hjt=k at hcell
             go_upto_region 20 with(fail)
             go_cut [119] (fun s wx=> ∃b,s=.bool b/\(b=true↔(k<=n/\ ¬(s2=true/\d.da.size≠0/\k<ck)))/\wO=wx)
             case first=>
              have g6:=HS.out.f.cell 6 _ rfl;have g2:=HS.out.c.cell 2 _ rfl;have hu:=HS.out.u.cell 0 _ rfl;have HA:=rG (TY k ck p5 wO hu)
              by_cases hkn:k<=n
              . cases s2
                . go_wp2_with fail
                  go_meet
                  exact⟨_,rfl,by simp[hkn],rfl⟩
                rcases fB d.da with⟨c,e1⟩|⟨c,e1⟩
                . have HC:=rG c;clear c
                  go_wp2_with fail
                  go_meet
                  exact⟨_,rfl,by simp[HC.out,hkn],rfl⟩
                have HC:=rG c;clear c;generalize hmc:decide (k<ck)=mc at HA;have HMC:=rG hmc;clear hmc
                go_wp2_with (go_at_call 113;with_reducible refine HA.out.mono ?_;rintro _ w' ⟨rfl,rfl⟩)
                go_meet
                exact⟨_,rfl,by rw[<-HMC.out];simp[HC.out,hkn],rfl⟩
              go_wp2_with fail
              go_meet
              exact⟨_,rfl,⟨fun h=>by simp[hkn]at h,fun h=>absurd h.1 (by omega)⟩,rfl⟩
             case rest=>
              obtain⟨b,rfl,hb,rfl⟩:=hcut
              cases b
              . have HK2:=rG (Dt.aJJ HK.out hjt (fun hle hg=>by
                 rw[hke]at hle hg;have:=hb.2 ⟨by rw[HNN.out];exact hle,(HGE.out k).1 hg⟩
                 cases this))
                clear hb HK hcell
                go_wp2_with fail
                go_roundw
                case rel=>exact⟨j+1,rfl,by go_num,by omega,HK2.out,HS.out⟩
                case measure=>simp[intOf];omega
              have hb:=hb.1 rfl;have HF:=rG (Dt.found (HV.out.yes rfl).1 (HV.out.yes rfl).2.2 HM.out hlt (by rw[hme];exact HK.out) hjt (by rw[hme,hke,<-HNN.out];exact hb.1) (by rw[hme,hke];exact(HGE.out k).2 hb.2));rw[hme,hke]at HF;clear hb HK hcell;have f0:=HS.out.o.cell 0 _ rfl;have f1:=HS.out.o.cell 1 _ rfl;have f2:=HS.out.o.cell 2 _ rfl;have z0:=HS.out.o.free 0 (by unfold aN;simp);have z1:=HS.out.o.free 1 (by unfold aN;simp);have z2:=HS.out.o.free 2 (by unfold aN;simp)
              go_wp2_with fail
              exact Y0 HS.out.o HF.out rfl rfl
           obtain rfl:j=d.ds.length:=by omega
           have HM2:=rG (Dt.aJG HM.out hlt (by rw[hme];exact HK.out));clear HK HM
           go_wp2_with fail
           go_roundw
           case rel=>exact⟨i+1,rfl,by go_num,by omega,HM2.out,HS.out⟩
           case measure=>simp[intOf];omega
       have hb:=hb.1 rfl;have HB:=rG hb;have HK:=rG (Dt.aJH HM.out hlt HB.out.1 HB.out.2.1 (by rw[hme];exact HB.out.2.2));clear hb HM
       go_wp2_with fail
       go_roundw
       case rel=>exact⟨i+1,rfl,by go_num,by omega,HK.out,HS.out⟩
       case measure=>simp[intOf];omega
   obtain rfl:i=d.ms.length:=by omega
   have hR:=HS.out.f.range;have hu:=HS.out.u.cell 0 _ rfl;have hwk:IntKind.i64.wrap (v+1)=v+1:=by rw[aHA];have:=HIV.out;omega
   have hy:=HY.out (v+1) wO (by have:=HIV.out;omega) (by have:=HIV.out;omega);have HY1:=rG hy;clear hy
   go_wp2_with fail
   rw[aWD]
   go_wp2_with (first
    |(refine aHD rfl 116 (.tmp 3) rfl w.heap.size 0 rfl (iE d (.slice (some ⟨gm,0,none⟩) d.ms.length xm) (.slice (some ⟨gd,0,none⟩) d.ds.length xd)) _ hR Tryz.underlying116 rfl jQ ?_)
    |(go_at_call 114;refine HY1.out.mono ?_;rintro _ w2 ⟨v2,ok2,hv2,rfl,hb⟩))
   have HX:=rG (Yst.next HV.out HM.out hv2);have HS2:=rG (HS.out.later hb);clear hv2 hb hR hu
   go_roundw
   case rel=>exact⟨v2,ok2,rfl,rfl,rfl,HX.out.1,HS2.out⟩
   case measure=>
    have h1:=HIV.out;have h2:=HX.out.2;unfold muY
    cases ok2
    . simp[TT,intOf];omega
    have:=h2 rfl;simp[TT,intOf];omega
end Bk
end

section
namespace Ev
def aXs:oQ:=⟨true,2,2,[(.int .u8 (0)),(.int .u8 (0))],(.arr 2 5)⟩
def aXr:oQ:=⟨false,1,2,[(.int .i16 (0))],(.int .i16)⟩
def aXq:oQ:=⟨false,1,24,[(.slice none 0 0)],(.slice 23)⟩
def aXo:oQ:=⟨false,1,24,[(.slice none 0 0)],(.slice 2)⟩
def aXp:oQ:=⟨true,16,48,[(.int .u8 (0)),(.int .u8 (0)),(.int .u8 (0)),(.int .u8 (0)),(.bool false),(.int .u16 (0)),(.int .u8 (0)),(.int .u8 (0)),(.int .u8 (0)),(.int .u8 (0)),(.int .u8 (0)),(.int .u8 (0)),(.int .u8 (0)),(.int .i16 (0)),(.int .u8 (0)),(.slice none 0 0)],(.struct [(0,1,false),(1,1,false),(2,1,false),(3,10,true),(13,1,false),(14,1,false),(15,1,false)])⟩
def PK:Tr oQ:=(.node none (.node none (.node (some ty3) (.node none (.node none (.node none (.node none (.node none (.node (some aPt) .nil .nil) .nil) .nil) (.node none (.node (some aPF) .nil .nil) .nil)) (.node (some aT3) (.node none .nil (.node (some aPx) .nil .nil)) .nil)) (.node (some aXs) .nil .nil)) (.node none (.node none (.node (some aT9) (.node none (.node none (.node (some aPr) .nil .nil) .nil) .nil) (.node none (.node (some aPC) .nil .nil) .nil)) .nil) .nil)) (.node (some ty5) (.node (some ty9) (.node none (.node (some aUa) .nil .nil) (.node none .nil (.node none .nil (.node (some aPu) .nil .nil)))) (.node none (.node none (.node none .nil (.node (some aPz) .nil .nil)) (.node none .nil (.node (some aPv) .nil .nil))) .nil)) (.node none (.node (some aUg) (.node (some aT8) .nil .nil) .nil) (.node (some aXr) (.node none .nil (.node none (.node (some aPB) .nil .nil) .nil)) .nil)))) (.node (some ty2) (.node (some ty4) (.node none (.node none (.node (some aXp) (.node none (.node (some aPI) .nil .nil) .nil) (.node none (.node (some aPE) .nil .nil) .nil)) (.node none .nil (.node (some aPL) .nil .nil))) (.node none (.node (some aT6) .nil .nil) .nil)) (.node none (.node none (.node none (.node none (.node (some aPG) .nil .nil) .nil) .nil) (.node none .nil (.node (some aPJ) .nil .nil))) (.node none (.node (some aT4) .nil .nil) .nil))) (.node none (.node none (.node none (.node none (.node none (.node (some aPH) (.node (some aPs) .nil .nil) .nil) .nil) (.node none (.node (some aPD) .nil .nil) .nil)) (.node (some aXo) (.node none .nil (.node (some aPw) .nil .nil)) (.node (some aPK) .nil .nil))) (.node (some aUf) (.node (some aT5) .nil .nil) .nil)) (.node none (.node none (.node (some aT7) .nil .nil) (.node none .nil (.node none (.node (some aPA) .nil .nil) .nil))) (.node (some aXq) (.node none (.node none .nil (.node (some aPy) .nil .nil)) .nil) .nil)))))
theorem aUe:(PK.lst 0 1).map (fun e=>(Tryz.prog.info? e.1).map fun j=>(j.size,j.bytes,j.zero))=(PK.lst 0 1).map fun e=>some (e.2.size,e.2.bytes,some (zeroOf e.2)):=by kernel_rfl
theorem aUd:(PK.lst 0 1).map (fun e=>(Tryz.prog.underlying e.1).map fun d=>(ND d,kindOf Tryz.prog d))=(PK.lst 0 1).map fun e=>some (e.2.agg,e.2.k):=by kernel_rfl
theorem aUc:(PK.lst 0 1).map (fun e=>(zeroOf e.2).cells.toList)=(PK.lst 0 1).map fun e=>e.2.zero:=by kernel_rfl
theorem aUb:(PK.lst 0 1).map (fun e=>e.2.zero.length)=(PK.lst 0 1).map fun e=>e.2.size:=by kernel_rfl
theorem aMP:PK.yQ (fun k i=>o7 Tryz.prog k i) 0 1:=Tr.OV fun e he=>⟨kE aUe e he,kE aUd e he,kE aUc e he,kE aUb e he⟩
noncomputable def tb2:Tab:=⟨Tryz.prog,⟨12,fun _=>⟨0,0,.nilIface⟩⟩,15,PK,fns,fun _ _=>none,fun _=>false,fun _=>none,aJU aRS,fun _ _ _=>none,fun _ _ _=>none⟩
theorem fD(w:World):iQ tb2 w:=aH7 aMP aKu Tryz.pinned.checked.mixed (fun _ _ _ h=>by cases h) ⟨fun _ _ _ _ h=>(by cases h),fun _ _ _ _ h=>(by cases h)⟩ aKe aJR (aD8 aD7)
end Ev
end
section
open Go.RowKit Go.Lib
namespace Sk
open Ev (bM DT LG eU aO hp vG kG iU mJ qF PD GL oN aU AV DW vH dS aB aC eF mD)
open Bk (Dt aV cvv)
def yb0:AV:=.aK [(rK q8 qz q8 qz),qf]
def yb1:AV:=.agg [(qi 10),(qi 11),(qi 12)]
def yb2:AV:=rK (qe 14) (qi 15) (qe 16) (qi 17)
def yb3:AV:=rK (qe 18) (qi 19) (qe 20) (qi 21)
def yb4:AV:=rK (qe 57) (qi 58) (qe 59) (qi 60)
def yb5:AV:=rK (qe 47) (qi 48) (qe 49) (qi 50)
def yb6:AV:=rK (qe 37) (qi 38) (qe 39) (qi 40)
def yb7:AV:=rK (qe 27) (qi 28) (qe 29) (qi 30)
def yb8:AV:=rK (qe 11) (qi 12) (qe 13) (qi 14)
def yb9:AV:=rK (qe 31) (qi 32) (qe 33) (qi 34)
def aT0:AV:=rK (qe 41) (qi 42) (qe 43) (qi 44)
def aTZ:AV:=rK (qe 51) (qi 52) (qe 53) (qi 54)
def aTY:AV:=rK (qe 10) (qi 11) (qe 12) (qi 13)
def aBF:AV:=rK (qe 16) (qi 17) (qe 18) (qi 19)
def aMI:AV:=rK (qe 21) (qi 22) (qe 23) (qi 24)
def aOP:DT:=(.node 3 (qb 13) (qb 13) (.node 0 (qi 16) qz (.leaf (.aK [(rK q8 (qi 14) q8 (qi 15)),qt])) (.leaf (.aK [(rK q8 (qi 14) q8 (qi 15)),qf]))) (.leaf yb0))
theorem aI1(l:Value):aOP.ok eU l [] [(290,[iF,.agg [(qi 10),(qi 11),(qi 12)]],.aK [rK q8 (qi 14) q8 (qi 15),(qi 16)])] hp 60 LG 283 [iF,.agg [(qi 10),(qi 11),(qi 12)],(qb 13)] []=true:=by kernel_rfl
theorem aDR(d:Dt)(cy cm ck lo hi er:Int)(is:Bool){w0:World}(hst:SS w0) (H0:Same w0 290 #[(aV d),(cvv cy cm ck)] (.tuple #[(r4 0 lo 0 hi),(.int .i64 er)])):Same w0 283 #[(aV d),(cvv cy cm ck),(.bool is)] (cond is (cond (er==0) (.tuple #[(r4 0 lo 0 hi),(.bool true)]) (.tuple #[(r4 0 lo 0 hi),(.bool false)])) (.tuple #[(r4 0 0 0 0),(.bool false)])):=
 aB (aI1 (lv (dL d) [.int .i64 cy,.int .i64 cm,.int .i64 ck,.bool is,.int .i64 lo,.int .i64 hi,.int .i64 er])) (aO w0) hst .nil (.cons H0 .nil) (aC (by kernel_rfl)) (by kernel_rfl)
def aHt:DT:=(.node 0 (qi 13) qz (.leaf (.aK [yb2,(qb 22)])) (.leaf (.aK [yb3,(qb 23)])))
theorem aCF(l:Value):aHt.ok eU l [] [(282,[iF],.aK [.agg [(qi 10),(qi 11),(qi 12)],(qi 13)]),(283,[iF,.agg [(qi 10),(qi 11),(qi 12)],qt],.aK [yb2,(qb 22)]),(283,[iF,.agg [(qi 10),(qi 11),(qi 12)],qf],.aK [yb3,(qb 23)])] hp 60 LG 276 [iF] []=true:=by kernel_rfl
theorem aEn(d:Dt)(cy cm ck e ra rl rb rh qa ql qb qh:Int)(it if_:Bool){w0:World}(hst:SS w0) (H0:Same w0 282 #[(aV d)] (.tuple #[(cvv cy cm ck),(.int .i64 e)]))(H1:Same w0 283 #[(aV d),(cvv cy cm ck),(.bool true)] (.tuple #[(r4 ra rl rb rh),(.bool it)]))(H2:Same w0 283 #[(aV d),(cvv cy cm ck),(.bool false)] (.tuple #[(r4 qa ql qb qh),(.bool if_)])):Same w0 276 #[(aV d)] (cond (e==0) (.tuple #[(r4 ra rl rb rh),(.bool it)]) (.tuple #[(r4 qa ql qb qh),(.bool if_)])):=
 aB (aCF (lv (dL d) [.int .i64 cy,.int .i64 cm,.int .i64 ck,.int .i64 e,.int .i8 ra,.int .i64 rl,.int .i8 rb,.int .i64 rh,.int .i8 qa,.int .i64 ql,.int .i8 qb,.int .i64 qh,.bool it,.bool if_])) (aO w0) hst .nil (.cons H0 (.cons H1 (.cons H2 .nil))) (aC (by kernel_rfl)) (by kernel_rfl)
def aLS:DT:=(.node 0 (qi 13) qz (.leaf (.aK [yb2,(qb 22)])) (.leaf (.aK [yb3,(qb 23)])))
theorem aF3(l:Value):aLS.ok eU l [] [(285,[iF],.aK [.agg [(qi 10),(qi 11),(qi 12)],(qi 13)]),(283,[iF,.agg [(qi 10),(qi 11),(qi 12)],qt],.aK [yb2,(qb 22)]),(283,[iF,.agg [(qi 10),(qi 11),(qi 12)],qf],.aK [yb3,(qb 23)])] hp 60 LG 278 [iF] []=true:=by kernel_rfl
theorem aCT(d:Dt)(cy cm ck e ra rl rb rh qa ql qb qh:Int)(it if_:Bool){w0:World}(hst:SS w0) (H0:Same w0 285 #[(aV d)] (.tuple #[(cvv cy cm ck),(.int .i64 e)]))(H1:Same w0 283 #[(aV d),(cvv cy cm ck),(.bool true)] (.tuple #[(r4 ra rl rb rh),(.bool it)]))(H2:Same w0 283 #[(aV d),(cvv cy cm ck),(.bool false)] (.tuple #[(r4 qa ql qb qh),(.bool if_)])):Same w0 278 #[(aV d)] (cond (e==0) (.tuple #[(r4 ra rl rb rh),(.bool it)]) (.tuple #[(r4 qa ql qb qh),(.bool if_)])):=
 aB (aF3 (lv (dL d) [.int .i64 cy,.int .i64 cm,.int .i64 ck,.int .i64 e,.int .i8 ra,.int .i64 rl,.int .i8 rb,.int .i64 rh,.int .i8 qa,.int .i64 ql,.int .i8 qb,.int .i64 qh,.bool it,.bool if_])) (aO w0) hst .nil (.cons H0 (.cons H1 (.cons H2 .nil))) (aC (by kernel_rfl)) (by kernel_rfl)
def aDB:DT:=(.leaf (.aK [yb1,(qi 13)]))
theorem aAe(l:Value):aDB.ok eU l [] [(289,[iF,.agg [.v (.int .i64 (-9223372036854775808)),qz,qz],qt],.aK [.agg [(qi 10),(qi 11),(qi 12)],(qi 13)])] hp 60 LG 282 [iF] []=true:=by kernel_rfl
theorem aKH(d:Dt)(cy cm ck e:Int){w0:World}(hst:SS w0) (H0:Same w0 289 #[(aV d),(cvv (-9223372036854775808) 0 0),(.bool true)] (.tuple #[(cvv cy cm ck),(.int .i64 e)])):Same w0 282 #[(aV d)] (.tuple #[(cvv cy cm ck),(.int .i64 e)]):=
 aB (aAe (lv (dL d) [.int .i64 cy,.int .i64 cm,.int .i64 ck,.int .i64 e])) (aO w0) hst .nil (.cons H0 .nil) (aC (by kernel_rfl)) (by kernel_rfl)
def aHs:DT:=(.leaf (.aK [yb1,(qi 13)]))
theorem aCE(l:Value):aHs.ok eU l [] [(289,[iF,.agg [.v (.int .i64 9223372036854775807),qz,qz],qf],.aK [.agg [(qi 10),(qi 11),(qi 12)],(qi 13)])] hp 60 LG 285 [iF] []=true:=by kernel_rfl
theorem aN6(d:Dt)(cy cm ck e:Int){w0:World}(hst:SS w0) (H0:Same w0 289 #[(aV d),(cvv 9223372036854775807 0 0),(.bool false)] (.tuple #[(cvv cy cm ck),(.int .i64 e)])):Same w0 285 #[(aV d)] (.tuple #[(cvv cy cm ck),(.int .i64 e)]):=
 aB (aCE (lv (dL d) [.int .i64 cy,.int .i64 cm,.int .i64 ck,.int .i64 e])) (aO w0) hst .nil (.cons H0 .nil) (aC (by kernel_rfl)) (by kernel_rfl)
def aPf:DT:=(.leaf (.aK [(.agg [(qi 1),(qi 2),(aU 1 .i64 [(aU 2 .i64 [(qi 0),(qi 3)]),(.v (.int .i64 1))])]),qz]))
theorem aJr(l:Value):aPf.ok eU l [] [(143,[(qi 0)],.aK [(qi 1),(qi 2),qz]),(157,[(qi 1),(qi 2)],.aK [(qi 3),qz])] hp 60 LG 286 [(qi 0)] []=true:=by kernel_rfl
theorem aQc(day y m s:Int){w0:World}(hst:SS w0) (H0:Same w0 143 #[(.int .i64 day)] (.tuple #[(.int .i64 y),(.int .i64 m),(.int .i64 0)]))(H1:Same w0 157 #[(.int .i64 y),(.int .i64 m)] (.tuple #[(.int .i64 s),(.int .i64 0)])):Same w0 286 #[(.int .i64 day)] (.tuple #[(.agg #[(.int .i64 y),(.int .i64 m),(.int .i64 (IntKind.i64.wrap ((IntKind.i64.wrap (day - s))+1)))]),(.int .i64 0)]):=
 aB (aJr (.agg #[.int .i64 day,.int .i64 y,.int .i64 m,.int .i64 s])) (aO w0) hst .nil (.cons H0 (.cons H1 .nil)) (aC (by kernel_rfl)) (by kernel_rfl)
def aHx:DT:=(.leaf (.aK [(.agg [qz,qz,qz]),(.v (.int .i64 6))]))
theorem aCJ(l:Value):aHx.ok eU l [] [(143,[(qi 0)],.aK [qz,qz,.v (.int .i64 6)])] hp 60 LG 286 [(qi 0)] []=true:=by kernel_rfl
theorem aEw(day:Int){w0:World}(hst:SS w0) (H0:Same w0 143 #[(.int .i64 day)] (.tuple #[(.int .i64 0),(.int .i64 0),(.int .i64 6)])):Same w0 286 #[(.int .i64 day)] (.tuple #[(cvv 0 0 0),(.int .i64 6)]):=
 aB (aCJ (.agg #[.int .i64 day])) (aO w0) hst .nil (.cons H0 .nil) (aC (by kernel_rfl)) (by kernel_rfl)
def aHy:DT:=(.node 3 (qb 15) (qb 15) (.node 1 (qi 10) (qi 12) (.node 0 (qi 19) qz (.node 0 (qu 21) (.v (.int .u8 0)) (.node 3 (qb 51) (qb 51) (.node 1 (qi 10) (qi 48) (.leaf (.aK [yb4,(qb 61)])) (.leaf (.aK [yb5,qt]))) (.leaf (.aK [yb5,qf]))) (.node 3 (qb 31) (qb 31) (.node 1 (qi 10) (qi 28) (.leaf (.aK [yb6,(qb 41)])) (.leaf (.aK [yb7,qt]))) (.leaf (.aK [yb7,qf])))) (.leaf yb0)) (.leaf (.aK [yb8,qt]))) (.leaf (.aK [yb8,qf])))
theorem aCK(l:Value):aHy.ok eU l [] [(278,[iF],.aK [yb8,(qb 15)]),(286,[(qi 10)],.aK [.agg [(qi 16),(qi 17),(qi 18)],(qi 19)]),(288,[iF],.aK [(qu 21),(qi 20)]),(287,[iF,.agg [(qi 16),(qi 17),(qi 18)]],.aK [.agg [(qi 22),(qi 23),(qi 24)],(qb 26),(qi 25)]),(283,[iF,.agg [(qi 22),(qi 23),(qi 24)],(qb 26)],.aK [yb7,(qb 31)]),(287,[iF,.agg [aU 2 .i64 [(qi 22),.v (.int .i64 1)],.v (.int .i64 99),qz]],.aK [.agg [(qi 32),(qi 33),(qi 34)],(qb 36),(qi 35)]),(283,[iF,.agg [(qi 32),(qi 33),(qi 34)],(qb 36)],.aK [yb6,(qb 41)]),(287,[iF,.agg [(qi 16),.v (.int .i64 99),(qi 18)]],.aK [.agg [(qi 42),(qi 43),(qi 44)],(qb 46),(qi 45)]),(283,[iF,.agg [(qi 42),(qi 43),(qi 44)],(qb 46)],.aK [yb5,(qb 51)]),(287,[iF,.agg [aU 2 .i64 [(qi 42),.v (.int .i64 1)],.v (.int .i64 99),qz]],.aK [.agg [(qi 52),(qi 53),(qi 54)],(qb 56),(qi 55)]),(283,[iF,.agg [(qi 52),(qi 53),(qi 54)],(qb 56)],.aK [yb4,(qb 61)])] hp 60 LG 281 [iF,(qi 10)] []=true:=by kernel_rfl
theorem aOy(d:Dt)(day La Ll Lb Lh cy cm ck ce pe pp f1y f1m f1k f1e aOf aKM aOe aOd f2y f2m f2k f2e aSu aSr aSt aSs t1y t1m t1k t1e aMW aH9 aMV aMU t2y t2m t2k t2e aQW aQT aQV aQU:Int)(Lis f1o f1i f2o f2i t1o t1i t2o t2i:Bool){w0:World}(hst:SS w0) (H0:Same w0 278 #[(aV d)] (.tuple #[(r4 La Ll Lb Lh),(.bool Lis)]))(H1:Same w0 286 #[(.int .i64 day)] (.tuple #[(cvv cy cm ck),(.int .i64 ce)]))(H2:Same w0 288 #[(aV d)] (.tuple #[(.int .u8 pp),(.int .i64 pe)]))(H3:Same w0 287 #[(aV d),(cvv cy cm ck)] (.tuple #[(cvv f1y f1m f1k),(.bool f1o),(.int .i64 f1e)]))(H4:Same w0 283 #[(aV d),(cvv f1y f1m f1k),(.bool f1o)] (.tuple #[(r4 aOf aKM aOe aOd),(.bool f1i)]))(H5:Same w0 287 #[(aV d),(cvv (IntKind.i64.wrap (f1y - 1)) 99 0)] (.tuple #[(cvv f2y f2m f2k),(.bool f2o),(.int .i64 f2e)]))(H6:Same w0 283 #[(aV d),(cvv f2y f2m f2k),(.bool f2o)] (.tuple #[(r4 aSu aSr aSt aSs),(.bool f2i)]))(H7:Same w0 287 #[(aV d),(cvv cy 99 ck)] (.tuple #[(cvv t1y t1m t1k),(.bool t1o),(.int .i64 t1e)]))(H8:Same w0 283 #[(aV d),(cvv t1y t1m t1k),(.bool t1o)] (.tuple #[(r4 aMW aH9 aMV aMU),(.bool t1i)]))(H9:Same w0 287 #[(aV d),(cvv (IntKind.i64.wrap (t1y - 1)) 99 0)] (.tuple #[(cvv t2y t2m t2k),(.bool t2o),(.int .i64 t2e)]))(H10:Same w0 283 #[(aV d),(cvv t2y t2m t2k),(.bool t2o)] (.tuple #[(r4 aQW aQT aQV aQU),(.bool t2i)])):Same w0 281 #[(aV d),(.int .i64 day)] (cond Lis (cond (decide (day<Ll)) (cond (ce==0) (cond (pp==0) (cond t1i (cond (decide (day<aH9)) (.tuple #[(r4 aQW aQT aQV aQU),(.bool t2i)]) (.tuple #[(r4 aMW aH9 aMV aMU),(.bool true)])) (.tuple #[(r4 aMW aH9 aMV aMU),(.bool false)])) (cond f1i (cond (decide (day<aKM)) (.tuple #[(r4 aSu aSr aSt aSs),(.bool f2i)]) (.tuple #[(r4 aOf aKM aOe aOd),(.bool true)])) (.tuple #[(r4 aOf aKM aOe aOd),(.bool false)]))) (.tuple #[(r4 0 0 0 0),(.bool false)])) (.tuple #[(r4 La Ll Lb Lh),(.bool true)])) (.tuple #[(r4 La Ll Lb Lh),(.bool false)])):=
 aB (aCK (lv (dL d) (.int .i64 day:: .int .i8 La:: .int .i64 Ll:: .int .i8 Lb:: .int .i64 Lh:: .bool Lis:: .int .i64 cy:: .int .i64 cm:: .int .i64 ck:: .int .i64 ce:: .int .i64 pe:: .int .u8 pp:: .int .i64 f1y:: .int .i64 f1m:: .int .i64 f1k:: .int .i64 f1e:: .bool f1o:: .int .i8 aOf:: .int .i64 aKM:: .int .i8 aOe:: .int .i64 aOd:: .bool f1i:: .int .i64 f2y:: .int .i64 f2m:: .int .i64 f2k:: .int .i64 f2e:: .bool f2o:: .int .i8 aSu:: .int .i64 aSr:: .int .i8 aSt:: .int .i64 aSs:: .bool f2i:: .int .i64 t1y:: .int .i64 t1m:: .int .i64 t1k:: .int .i64 t1e:: .bool t1o:: .int .i8 aMW:: .int .i64 aH9:: .int .i8 aMV:: .int .i64 aMU:: .bool t1i:: .int .i64 t2y:: .int .i64 t2m:: .int .i64 t2k:: .int .i64 t2e:: .bool t2o:: .int .i8 aQW:: .int .i64 aQT:: .int .i8 aQV:: .int .i64 aQU:: .bool t2i::[]))) (aO w0) hst .nil (.cons H0 (.cons H1 (.cons H2 (.cons H3 (.cons H4 (.cons H5 (.cons H6 (.cons H7 (.cons H8 (.cons H9 (.cons H10 .nil))))))))))) (aC (by kernel_rfl)) (by kernel_rfl)
def aS7:DT:=(.node 3 (qb 15) (qb 15) (.node 1 (qi 14) (qi 10) (.leaf yb0) (.leaf (.aK [yb8,qt]))) (.leaf yb0))
theorem aNw(l:Value):aS7.ok eU l [] [(281,[iF,(qi 10)],.aK [yb8,(qb 15)])] hp 60 LG 275 [iF,(qi 10)] []=true:=by kernel_rfl
theorem aZi(d:Dt)(day ba bl bb bh:Int)(bi:Bool){w0:World}(hst:SS w0) (H0:Same w0 281 #[(aV d),(.int .i64 day)] (.tuple #[(r4 ba bl bb bh),(.bool bi)])):Same w0 275 #[(aV d),(.int .i64 day)] (cond bi (cond (decide (bh<day)) (.tuple #[(r4 0 0 0 0),(.bool false)]) (.tuple #[(r4 ba bl bb bh),(.bool true)])) (.tuple #[(r4 0 0 0 0),(.bool false)])):=
 aB (aNw (lv (dL d) [.int .i64 day,.int .i8 ba,.int .i64 bl,.int .i8 bb,.int .i64 bh,.bool bi])) (aO w0) hst .nil (.cons H0 .nil) (aC (by kernel_rfl)) (by kernel_rfl)
def aLQ:DT:=(.node 3 (qb 18) (qb 18) (.node 3 (qb 25) (qb 25) (.leaf yb0) (.node 0 (qi 22) qz (.node 0 (qu 24) (.v (.int .u8 0)) (.leaf (.aK [yb9,(qb 35)])) (.node 0 (qu 24) (.v (.int .u8 1)) (.leaf (.aK [yb9,(qb 35)])) (.node 0 (qu 24) (.v (.int .u8 2)) (.leaf (.aK [aT0,(qb 45)])) (.leaf (.aK [aTZ,(qb 55)]))))) (.leaf yb0))) (.leaf yb0))
theorem aF1(l:Value):aLQ.ok eU l [(42,yb2,aTY,(qb 25))] [(278,[iF],.aK [yb2,(qb 18)]),(286,[(qi 11)],.aK [.agg [(qi 19),(qi 20),(qi 21)],(qi 22)]),(288,[iF],.aK [(qu 24),(qi 23)]),(291,[iF,.agg [aU 1 .i64 [(qi 19),.v (.int .i64 1)],qz,qz]],.aK [.agg [(qi 26),(qi 27),(qi 28)],(qb 30),(qi 29)]),(283,[iF,.agg [(qi 26),(qi 27),(qi 28)],(qb 30)],.aK [yb9,(qb 35)]),(291,[iF,.agg [(qi 19),aU 1 .i64 [(qi 20),.v (.int .i64 1)],qz]],.aK [.agg [(qi 36),(qi 37),(qi 38)],(qb 40),(qi 39)]),(283,[iF,.agg [(qi 36),(qi 37),(qi 38)],(qb 40)],.aK [aT0,(qb 45)]),(291,[iF,.agg [(qi 19),(qi 20),aU 1 .i64 [(qi 21),.v (.int .i64 1)]]],.aK [.agg [(qi 46),(qi 47),(qi 48)],(qb 50),(qi 49)]),(283,[iF,.agg [(qi 46),(qi 47),(qi 48)],(qb 50)],.aK [aTZ,(qb 55)])] hp 60 LG 284 [iF,aTY] []=true:=by kernel_rfl
theorem aJN(d:Dt)(ra rl rb rh La Ll Lb Lh cy cm ck ce pe pp nyy nym nyk nye aND aNA aNC aNB nmy nmm nmk nme aRE aRB aRD aRC nky nkm nkk nke aRI aRF aRH aRG:Int)(Lis ze nyo nyi nmo nmi nko nki:Bool){w0:World}(hst:SS w0)(hz:ze=decide (La=ra/\Ll=rl/\Lb=rb/\Lh=rh))(H0:Same w0 278 #[(aV d)] (.tuple #[(r4 La Ll Lb Lh),(.bool Lis)]))(H1:Same w0 286 #[(.int .i64 rl)] (.tuple #[(cvv cy cm ck),(.int .i64 ce)]))(H2:Same w0 288 #[(aV d)] (.tuple #[(.int .u8 pp),(.int .i64 pe)]))(H3:Same w0 291 #[(aV d),(cvv (IntKind.i64.wrap (cy+1)) 0 0)] (.tuple #[(cvv nyy nym nyk),(.bool nyo),(.int .i64 nye)]))(H4:Same w0 283 #[(aV d),(cvv nyy nym nyk),(.bool nyo)] (.tuple #[(r4 aND aNA aNC aNB),(.bool nyi)]))(H5:Same w0 291 #[(aV d),(cvv cy (IntKind.i64.wrap (cm+1)) 0)] (.tuple #[(cvv nmy nmm nmk),(.bool nmo),(.int .i64 nme)]))(H6:Same w0 283 #[(aV d),(cvv nmy nmm nmk),(.bool nmo)] (.tuple #[(r4 aRE aRB aRD aRC),(.bool nmi)]))(H7:Same w0 291 #[(aV d),(cvv cy cm (IntKind.i64.wrap (ck+1)))] (.tuple #[(cvv nky nkm nkk),(.bool nko),(.int .i64 nke)]))(H8:Same w0 283 #[(aV d),(cvv nky nkm nkk),(.bool nko)] (.tuple #[(r4 aRI aRF aRH aRG),(.bool nki)])):Same w0 284 #[(aV d),(r4 ra rl rb rh)] (cond Lis (cond ze (.tuple #[(r4 0 0 0 0),(.bool false)]) (cond (ce==0) (cond (pp==0) (.tuple #[(r4 aND aNA aNC aNB),(.bool nyi)]) (cond (pp==1) (.tuple #[(r4 aND aNA aNC aNB),(.bool nyi)]) (cond (pp==2) (.tuple #[(r4 aRE aRB aRD aRC),(.bool nmi)]) (.tuple #[(r4 aRI aRF aRH aRG),(.bool nki)])))) (.tuple #[(r4 0 0 0 0),(.bool false)]))) (.tuple #[(r4 0 0 0 0),(.bool false)])):=
 aB (aF1 (lv (dL d) [.int .i8 ra,.int .i64 rl,.int .i8 rb,.int .i64 rh,.int .i8 La,.int .i64 Ll,.int .i8 Lb,.int .i64 Lh,.bool Lis,.int .i64 cy,.int .i64 cm,.int .i64 ck,.int .i64 ce,.int .i64 pe,.int .u8 pp,.bool ze,.int .i64 nyy,.int .i64 nym,.int .i64 nyk,.int .i64 nye,.bool nyo,.int .i8 aND,.int .i64 aNA,.int .i8 aNC,.int .i64 aNB,.bool nyi,.int .i64 nmy,.int .i64 nmm,.int .i64 nmk,.int .i64 nme,.bool nmo,.int .i8 aRE,.int .i64 aRB,.int .i8 aRD,.int .i64 aRC,.bool nmi,.int .i64 nky,.int .i64 nkm,.int .i64 nkk,.int .i64 nke,.bool nko,.int .i8 aRI,.int .i64 aRF,.int .i8 aRH,.int .i64 aRG,.bool nki])) (aO w0) hst (.cons (lW _ _ _ _ _ _ _ _ _ hz) (fun _ _ _=>⟨by kernel_rfl,by kernel_rfl⟩) .nil) (.cons H0 (.cons H1 (.cons H2 (.cons H3 (.cons H4 (.cons H5 (.cons H6 (.cons H7 (.cons H8 .nil))))))))) (aC (by kernel_rfl)) (by kernel_rfl)
def aLT:DT:=(.node 3 (qb 15) (qb 15) (.node 1 (qi 12) (qi 10) (.node 3 (qb 20) (qb 20) (.node 0 (qi 17) (qi 10) (.leaf (.aK [aBF,qt])) (.leaf (.aK [aMI,(qb 25)]))) (.leaf (.aK [aBF,qf]))) (.leaf (.aK [yb8,qt]))) (.leaf (.aK [yb8,qf])))
theorem aF4(l:Value):aLT.ok eU l [] [(276,[iF],.aK [yb8,(qb 15)]),(281,[iF,(qi 10)],.aK [aBF,(qb 20)]),(284,[iF,aBF],.aK [aMI,(qb 25)])] hp 60 LG 277 [iF,(qi 10)] []=true:=by kernel_rfl
theorem aKk(d:Dt)(day Fa Fl Fb Fh ba bl bb bh na nl nb nh:Int)(Fi bi ni:Bool){w0:World}(hst:SS w0) (H0:Same w0 276 #[(aV d)] (.tuple #[(r4 Fa Fl Fb Fh),(.bool Fi)]))(H1:Same w0 281 #[(aV d),(.int .i64 day)] (.tuple #[(r4 ba bl bb bh),(.bool bi)]))(H2:Same w0 284 #[(aV d),(r4 ba bl bb bh)] (.tuple #[(r4 na nl nb nh),(.bool ni)])):Same w0 277 #[(aV d),(.int .i64 day)] (cond Fi (cond (decide (Fl<day)) (cond bi (cond (bl==day) (.tuple #[(r4 ba bl bb bh),(.bool true)]) (.tuple #[(r4 na nl nb nh),(.bool ni)])) (.tuple #[(r4 ba bl bb bh),(.bool false)])) (.tuple #[(r4 Fa Fl Fb Fh),(.bool true)])) (.tuple #[(r4 Fa Fl Fb Fh),(.bool false)])):=
 aB (aF4 (lv (dL d) [.int .i64 day,.int .i8 Fa,.int .i64 Fl,.int .i8 Fb,.int .i64 Fh,.bool Fi,.int .i8 ba,.int .i64 bl,.int .i8 bb,.int .i64 bh,.bool bi,.int .i8 na,.int .i64 nl,.int .i8 nb,.int .i64 nh,.bool ni])) (aO w0) hst .nil (.cons H0 (.cons H1 (.cons H2 .nil))) (aC (by kernel_rfl)) (by kernel_rfl)
def aLM:DT:=(.node 3 (qb 15) (qb 15) (.node 1 (qi 10) (qi 14) (.node 3 (qb 20) (qb 20) (.node 1 (qi 10) (qi 19) (.node 0 (qi 17) (.v (.int .i64 (-9223372036854775808))) (.leaf yb0) (.leaf (.aK [aMI,(qb 25)]))) (.leaf (.aK [aBF,qt]))) (.leaf (.aK [aBF,qf]))) (.leaf (.aK [yb8,qt]))) (.leaf (.aK [yb8,qf])))
theorem aFX(l:Value):aLM.ok eU l [] [(278,[iF],.aK [yb8,(qb 15)]),(281,[iF,(qi 10)],.aK [aBF,(qb 20)]),(281,[iF,aU 2 .i64 [(qi 17),.v (.int .i64 1)]],.aK [aMI,(qb 25)])] hp 60 LG 280 [iF,(qi 10)] []=true:=by kernel_rfl
theorem aQO(d:Dt)(day La Ll Lb Lh ba bl bb bh ca cl cb ch:Int)(Li bi ci:Bool){w0:World}(hst:SS w0) (H0:Same w0 278 #[(aV d)] (.tuple #[(r4 La Ll Lb Lh),(.bool Li)]))(H1:Same w0 281 #[(aV d),(.int .i64 day)] (.tuple #[(r4 ba bl bb bh),(.bool bi)]))(H2:Same w0 281 #[(aV d),(.int .i64 (IntKind.i64.wrap (bl - 1)))] (.tuple #[(r4 ca cl cb ch),(.bool ci)])):Same w0 280 #[(aV d),(.int .i64 day)] (cond Li (cond (decide (day<Lh)) (cond bi (cond (decide (day<bh)) (cond (bl==(-9223372036854775808)) (.tuple #[(r4 0 0 0 0),(.bool false)]) (.tuple #[(r4 ca cl cb ch),(.bool ci)])) (.tuple #[(r4 ba bl bb bh),(.bool true)])) (.tuple #[(r4 ba bl bb bh),(.bool false)])) (.tuple #[(r4 La Ll Lb Lh),(.bool true)])) (.tuple #[(r4 La Ll Lb Lh),(.bool false)])):=
 aB (aFX (lv (dL d) [.int .i64 day,.int .i8 La,.int .i64 Ll,.int .i8 Lb,.int .i64 Lh,.bool Li,.int .i8 ba,.int .i64 bl,.int .i8 bb,.int .i64 bh,.bool bi,.int .i8 ca,.int .i64 cl,.int .i8 cb,.int .i64 ch,.bool ci])) (aO w0) hst .nil (.cons H0 (.cons H1 (.cons H2 .nil))) (aC (by kernel_rfl)) (by kernel_rfl)
end Sk
end
section
open Go.RowKit
namespace Ev
inductive SV where
 |s (v:AV)
 |p (j:Nat)
 |l (j n c:Nat)
def SV.av(L:Nat):SV->AV
 | .s v=>v
 | .p j=>.ptr (L+j) 0
 | .l j n c=>.sl (L+j) 0 n c
def SV.den(l:Value)(P:List Nat):SV->Value
 | .s v=>dS l v
 | .p j=>.pointer (some ⟨P.getD j 0,0,none⟩)
 | .l j n c=>.slice (some ⟨P.getD j 0,0,none⟩) n c
noncomputable def SV.ok(g m:Nat):SV->Bool
 | .s v=>kR g v
 | .p j=>Nat.ble (j+1) m
 | .l j _ _=>Nat.ble (j+1) m
def O8(w:World)(p:Nat)(el:TypeId)(vs:List Value):Prop:= ∃c fr,w.heap[p]? =some (.cells c el fr)/\(∀i,i<c.size-> ¬(fr.1<=i/\i<fr.2))/\c.toList=vs
def aTn(w:World)(P:List Nat)(F:List (TypeId × List Value)):Prop:=P.length=F.length/\ ∀(j p:Nat) (e:TypeId × List Value),P[j]? =some p->F[j]? =some e->O8 w p e.1 e.2
structure dX(w0:World)(N:Nat)(P:List Nat)(F:List (TypeId × List Value))(S:List (Nat × Value))(a:Act)(w:World):Prop where
 below:Below w0.heap.size w0 w
 new: ∀p ∈ P,w0.heap.size<=p
 nd:P.Nodup
 fr:aTn w P F
 size:a.tmps.size=N
 defs:a.defers=[]
 val: ∀e ∈ S,a.tmps[e.1]? =some e.2
abbrev AF:=List (TypeId × List AV)
def OC(l:Value)(F:AF):List (TypeId × List Value):=F.map fun e=>(e.1,e.2.map (dS l))
def aA0(l:Value)(P:List Nat)(S:List (Nat × SV)):List (Nat × Value):=S.map fun e=>(e.1,e.2.den l P)
noncomputable def aSR(L:Nat):AF->Tr HO->Tr HO
 |[],h=>h
 |e::t,h=>aSR (L+1) t (setH h L (.row e.2 e.1))
noncomputable def aG8(L:Nat):List (Nat × SV)->TE
 |[]=>nilA
 |e::t=>YW (aG8 L t) e.1 (e.2.av L)
theorem aFi{w0 w:World}{ρ:Env}{cx:Cx}{s:Hs}(h:@aQ G0 w0 ρ cx s w)(hid:cx.hid=[]){p:Nat}{el:TypeId}{cells:List AV}(h0:w0.heap.size<=p)
 (hne: ∀b o,s.h.get b=some o->cx.l<=b->ρ.blk b≠p) (hB:O8 w p el (cells.map (den (ρ.add s.n p 0)))) (hs:@iT G0 (s.n+1) cells):
 @aQ G0 w0 (ρ.add s.n p 0) cx ⟨s.h.set s.n (.row cells el),s.n+1⟩ w:=by
 letI:Gh:=G0
 obtain⟨gl,WJ,good,gn,ln,zW,sK,below,lt,obj,new,old,inj⟩:=h;have lk: ∀(s:Hs) b,s.look cx.hid b=s.h.get b:=fun s b=>by rw[hid];rfl
 simp only[lk]at lt obj new old inj;have look: ∀b x,(s.h.set s.n (.row cells el)).get b=some x->(b=s.n/\x=.row cells el)\/(b≠s.n/\s.h.get b=some x):=by
  intro b x hb
  by_cases e:b=s.n
  . subst e;rw[Tr.xQ]at hb;exact .inl ⟨rfl,(aPk hb).symm⟩
  rw[Tr.dV _ _ (aWJ e)]at hb;exact .inr ⟨e,hb⟩
 have ext:Ext s.n ρ (ρ.add s.n p 0):=Env.uU _ _ _ _;have kS: ∀b x,s.h.get b=some x->(ρ.add s.n p 0).blk b=ρ.blk b:=fun b x hb=>(ext b (lt b x hb)).1;have hlt:cx.l<=s.n:=aHU ln zW;refine⟨fun g hg=>?_,WJ,fun b hb=>good b (by have:s.n+1<=b:=hb;omega),gn,ln,aXE zW,fun b hb=>sK b (by have:s.n+1<=b:=hb;omega),below,fun b x hb=>?_,fun b x hb=>?_,fun b x hb hl=>?_,fun b x hb hl=>?_,fun b b' x x' hb hb' hl hl' e=>?_⟩
 . have:=ext g (aGA hg (aHU gn hlt));rw[this.1,this.2.1,this.2.2];exact gl g hg
 . rw[lk]at hb;show b<s.n+1;rcases look b x hb with⟨e,_⟩|⟨_,hb⟩
   . omega
   have:=lt b x hb;omega
 . rw[lk]at hb;rcases look b x hb with⟨e,e'⟩|⟨hne,hb⟩
   . subst e;subst e';obtain⟨c,fr,q1,q2,q3⟩:=hB;exact⟨Env.gG _ _ _ _,c,fr,by rw[Env.dG];exact q1,q2,q3,hs⟩
   exact(obj b x hb).keep ext (lt b x hb) (aTc _) rfl
 . rw[lk]at hb;rcases look b x hb with⟨e,_⟩|⟨_,hb⟩
   . subst e;rw[Env.dG];exact h0
   rw[kS b x hb];exact new b x hb hl
 . rw[lk]at hb;rcases look b x hb with⟨e,_⟩|⟨_,hb⟩
   . omega
   rw[kS b x hb];exact old b x hb hl
 rw[lk]at hb hb';rcases look b x hb with⟨e1,_⟩|⟨_,hb⟩<;>rcases look b' x' hb' with⟨e2,_⟩|⟨_,hb'⟩
 . omega
 . subst e1;rw[Env.dG,kS b' x' hb']at e;exact absurd e.symm (hne b' x' hb' hl')
 . subst e2;rw[Env.dG,kS b x hb]at e;exact absurd e (hne b x hb hl)
 rw[kS b x hb,kS b' x' hb']at e;exact inj b b' x x' hb hb' hl hl' e
theorem aIj{w0 w:World}{cx:Cx}{g:Nat}{l:Value}(hid:cx.hid=[])(hg:g<cx.g.n): ∀(F:AF) (P:List Nat) (ρ:Env) (s:Hs),@aQ G0 w0 ρ cx s w->ρ.cp g=⟨0,0,l⟩->F.all (fun e=>iW g e.2)=true->P.Nodup->
 (∀p ∈ P,w0.heap.size<=p)->(∀b o,s.h.get b=some o->cx.l<=b->ρ.blk b ∉ P)->aTn w P (OC l F)->
 ∃ ρ',@aQ G0 w0 ρ' cx ⟨aSR s.n F s.h,s.n+F.length⟩ w/\Ext s.n ρ ρ'/\ ∀j p,P[j]? =some p->ρ'.blk (s.n+j)=p/\ρ'.off (s.n+j)=0:=by
 intro F
 induction F with
 |nil=>
  intro P ρ s h _ _ _ _ _ hf;obtain⟨h1,_⟩:=hf
  cases P with
  |nil=>exact⟨ρ,h,Ext.refl _ _,fun j p hp=>by simp at hp⟩
  |cons p P=>simp[OC]at h1
 | cons e F ih=>
  intro P ρ s h hρ hs hnd hn hh hf;obtain⟨h1,h2⟩:=hf
  cases P with
  |nil=>simp[OC]at h1
  | cons p P=>
   rw[aP2,aDY]at hs;rw[List.nodup_cons]at hnd;have hgs:g<s.n:=aGA hg (aHU (@aQ.gn G0 _ _ _ _ _ h) (aHU (@aQ.ln G0 _ _ _ _ _ h) (@aQ.zW G0 _ _ _ _ _ h)));have ext:Ext s.n ρ (ρ.add s.n p 0):=Env.uU _ _ _ _;have WB:(ρ.add s.n p 0).cp g=⟨0,0,l⟩:=by rw[(ext g hgs).2.2];exact hρ
   have hb:=h2 0 p _ rfl rfl;have hb:O8 w p e.1 (e.2.map (dS l)):=hb;have hgd:@Gd G0 (s.n+1) g:=⟨by omega,fun q=>q⟩;rw[<-XH,<-lU WB e.2 hs.1,dM]at hb;have h3:=aFi h hid (hn p aHB) (fun b o hb hl q=>hh b o hb hl (by rw[q];exact aHB)) hb (@tJ G0 _ _ hgd e.2 hs.1);obtain⟨ρ',q1,q2,q3⟩:=ih P (ρ.add s.n p 0) _ h3 WB hs.2 hnd.2 (fun p' hp'=>hn p' (aHJ _ hp')) (fun b o hb hl=>by
    have hb:(s.h.set s.n (.row e.2 e.1)).get b=some o:=hb
    by_cases q:b=s.n
    . subst q;rw[Env.dG];exact hnd.1
    rw[Tr.dV _ _ (aWJ q)]at hb;rw[Env.aDm ρ q];exact fun m=>hh b o hb hl (aHJ _ m)) ⟨by simpa[OC]using h1,fun j p' e' a b=>h2 (j+1) p' e' a b⟩
   refine⟨ρ',?_,fun b hb=>?_,fun j p' hp'=>?_⟩
   . have e3:s.n+1+F.length=s.n+(e::F).length:=by simp;omega
     rw[<-e3];exact q1
   . have:=q2 b (by show b<s.n+1;omega);have:=ext b hb;exact⟨by rw[(q2 b (by show b<s.n+1;omega)).1];exact this.1,by rw[(q2 b (by show b<s.n+1;omega)).2.1];exact this.2.1,by rw[(q2 b (by show b<s.n+1;omega)).2.2];exact this.2.2⟩
   cases j with
   |zero=>
    have:p=p':=by simpa using hp'
    subst this;have:=q2 s.n (by show s.n<s.n+1;omega);exact⟨by rw[aMk,this.1,Env.dG],by rw[aMk,this.2.1,Env.gG]⟩
   |succ j=>
    have:=q3 j p' (by simpa using hp');rw[show s.n+(j+1)=s.n+1+j by omega];exact this
inductive mX where
 |leaf (e:Ex) (S:List (Nat × SV)) (F:AF)
 |no
 |node (c:Nat) (x y:AV) (t f:mX)
def mX.post(l:Value)(K:Ex->List (Nat × SV)->AF->Prop):mX->Prop
 | .leaf e S F=>K e S F
 | .no=>False
 | .node c x y t f=>(nG c (dS l x) (dS l y)=true->t.post l K)/\(nG c (dS l x) (dS l y)=false->f.post l K)
noncomputable def aSw(a b:Ex):Bool:=Ex.rec (motive:=fun _=>Bool) (Ex.rec (motive:=fun _=>Bool) true (fun _=>false) false b) (fun i=>Ex.rec (motive:=fun _=>Bool) false (fun j=>Nat.beq i j) false b) (Ex.rec (motive:=fun _=>Bool) false (fun _=>false) true b) a
theorem aOg{a b:Ex}(h:aSw a b=true):a=b:=by
 cases a<;>cases b<;>first|rfl|(cases h;done)|skip
 rw[aGo (show Nat.beq _ _=true from h)]
noncomputable def slB(g L m:Nat)(t:TE)(e:Nat × SV):Bool:=band (e.2.ok g m) (Option.rec (motive:=fun _=>Bool) false (fun v=>eqS v (e.2.av L)) (oZ t e.1))
noncomputable def rowB(g:Nat)(e:TypeId × List AV):HO->Bool
 | .row c el=>band (Nat.beq el e.1) (band (WW c e.2) (iW g e.2))
 |_=>false
noncomputable def aKj(g:Nat):Nat->AF->Tr HO->Bool
 |_,[],_=>true
 |L,e::t,h=>band (Option.rec (motive:=fun _=>Bool) false (fun o=>rowB g e o) (aAJ h L)) (aKj g (L+1) t h)
noncomputable def aP0(g L m:Nat)(e:Ex)(S:List (Nat × SV))(F:AF)(x:Option (Ex × St)):Bool:=
 Option.rec (motive:=fun _=>Bool) false (fun p=>band (aSw p.1 e) (band (isNil p.2.d) (band (S.all (slB g L F.length p.2.t)) (band (aKj g L F p.2.s.h) (Nat.ble m F.length))))) x
theorem aN2{g:Nat}{h:Tr HO}: ∀ {F:AF} {L:Nat},aKj g L F h=true-> ∀j e,F[j]? =some e-> ∃c,h.get (L+j)=some (.row c e.1)/\c=e.2/\iW g e.2=true:=by
 intro F
 induction F with
 |nil=>intro L _ j e he;simp at he
 | cons q F ih=>
  intro L hb j e he;obtain⟨h1,h2⟩:=aJ (show band (Option.rec (motive:=fun _=>Bool) false (fun o=>rowB g q o) (aAJ h L)) (aKj g (L+1) F h)=true from hb)
  cases j with
  | zero=>
   have:q=e:=by simpa using he
   subst this
   cases ho:aAJ h L with
   |none=>rw[ho]at h1;cases h1
   | some o=>
    rw[ho]at h1;have h1:rowB g q o=true:=h1
    match o,ho,h1 with
    | .row c el,ho,h1=>
     obtain⟨g1,g2⟩:=aJ (show band (Nat.beq el q.1) (band (WW c q.2) (iW g q.2))=true from h1);obtain⟨g3,g4⟩:=aJ g2;refine⟨c,?_,uO _ _ g3,g4⟩;rw[aMk,<-aGo g1];exact ho
  |succ j=>
   have:=ih h2 j e (by simpa using he);rw[show L+(j+1)=L+1+j by omega];exact this
def aW:List Nat->Code->Code
 |[],c=>c
 |0::t,.seq a _=>aW t a
 |_::t,.seq _ b=>aW t b
 |0::t,.cond _ a _=>aW t a
 |_::t,.cond _ _ b=>aW t b
 |_::t,.block _ c=>aW t c
 |_::t,.loop c=>aW t c
 |_::t,.scope c=>aW t c
 |_,c=>c
def fU:Nat->Code->Code
 |n+1,.seq _ b=>fU n b
 |_,c=>c
noncomputable def runs(f:Code->St->CR):Nat->Code->St->CR
 |0,_,st=>some (.normal,st)
 |n+1,.seq x y,st=>MZ (runs f n y) (f x st)
 |_+1,_,_=>none
noncomputable def runN(f:Code->St->CR)(n:Nat)(c:Code)(st:St):CR:=Nat.rec (motive:=fun _=>CR) (f c st) (fun k _=>runs f (k+1) c st) n
def zN(P:Program)(Q:Exit->Act->World->Prop):Nat->Code->Exit->Act->World->Prop
 |0,_=>Q
 |n+1,c=>Exit.then ((fU (n+1) c).wp P Q) Q
section
variable{tb:Tab}{w0:World}{call:dO}{cx:Cx}{N:Nat}
theorem aBZ(hT:iQ tb w0)(hc:kV tb w0 call)(hf:gY call)(hg:cx.g=tb.g)(hl:cx.l=tb.l){fuel:Nat}{Q:Exit->Act->World->Prop}:
 ∀(n:Nat) (c:Code) (st:St) (e:Ex) (st':St),runs (code tb call cx N none fuel) n c st=some (e,st')-> ∀(ρ:Env) (w:World) (a:Act),@aQ G0 w0 ρ cx st.s w->@jH G0 N ρ st.s.n a st.t->@iR G0 ρ st.s.n st.d a.defers->
  @Post G0 w0 cx N st st' ρ w (Exit.then ((fU n c).wp tb.p Q) Q (QX e))->c.wp tb.p Q a w:=by
 intro n
 induction n with
 |zero=>
  intro c st e st' h ρ w a hs ht hd hq;have h:some (Ex.normal,st)=some (e,st'):=h;obtain⟨rfl,rfl⟩:Ex.normal=e/\st=st':=by simpa using h
  exact hq ρ w a (@Stp.refl G0 _ _ _ _ _ hs) ht hd
 | succ n ih=>
  intro c st e st' h ρ w a hs ht hd hq
  cases c with
  |seq x y=>
   refine aXj ?_;rcases nM (show MZ (runs (code tb call cx N none fuel) n y) (code tb call cx N none fuel x st)=some (e,st')from h)with⟨st1,h1,h2⟩|⟨h1,hne⟩
   . refine wpIn_wide.1 ((@kH G0 _ _ _ _ N hT hc hf hg hl none fuel).1 x _ _ _ h1 ρ w a _ none 0 trivial hs ht hd (fun ρ1 w1 a1 s1 t1 d1=>?_));exact ih y _ _ _ h2 ρ1 w1 a1 (@Stp.sat G0 _ _ _ _ _ _ _ _ s1) t1 d1 (fun ρ2 w2 a2 s2 t2 d2=>hq ρ2 w2 a2 (@Stp.trans G0 _ _ _ _ _ _ _ _ _ _ _ s1 s2) t2 d2)
   refine wpIn_wide.1 ((@kH G0 _ _ _ _ N hT hc hf hg hl none fuel).1 x _ _ _ h1 ρ w a _ none 0 trivial hs ht hd (fun ρ1 w1 a1 s1 t1 d1=>?_));have:=hq ρ1 w1 a1 s1 t1 d1
   cases e with
   |normal=>exact absurd rfl hne
   |exit i=>exact this
   |ret=>exact this
  |_=>cases h
theorem aB3(hT:iQ tb w0)(hc:kV tb w0 call)(hf:gY call)(hg:cx.g=tb.g)(hl:cx.l=tb.l){fuel:Nat}{Q:Exit->Act->World->Prop}(n:Nat)(c:Code)(st:St)(e:Ex)(st':St)
 (h:runN (code tb call cx N none fuel) n c st=some (e,st')) (ρ:Env) (w:World) (a:Act) (hs:@aQ G0 w0 ρ cx st.s w) (ht:@jH G0 N ρ st.s.n a st.t) (hd:@iR G0 ρ st.s.n st.d a.defers)
 (hq:@Post G0 w0 cx N st st' ρ w (zN tb.p Q n c (QX e))):c.wp tb.p Q a w:=by
 cases n with
 |zero=>exact wpIn_wide.1 ((@kH G0 _ _ _ _ N hT hc hf hg hl none fuel).1 c _ _ _ h ρ w a _ none 0 trivial hs ht hd hq)
 |succ n=>exact aBZ hT hc hf hg hl (n+1) c st e st' h ρ w a hs ht hd hq
end
section
variable(B:Tab)(l:Value)(ps:List DW)(os:List vH)(h0:Tr HO)(d g N fuel n:Nat)(c:Code)(S0:List (Nat × SV))(F0:AF)
noncomputable def aIv(fs:List Fct):Option (Ex × St):=runN (code (tbL B l fs ps os) (zA (tbL B l fs ps os) d) ⟨⟨B.g.n,fun _=>⟨0,0,l⟩⟩,B.l,B.l,[]⟩ N none fuel) n c ⟨aG8 B.l S0,⟨aSR B.l F0 h0,B.l+F0.length⟩,[]⟩
noncomputable def mX.ok(T:mX):List Fct->Bool:=
 mX.rec (motive:=fun _=>List Fct->Bool) (fun e S F fs=>aP0 g B.l F0.length e S F (aIv B l ps os h0 d N fuel n c S0 F0 fs)) (fun _=>true)
  (fun c x y _ _ iht ihf fs=>band (band (kR g x) (kR g y)) (band (iht ((c,x,y,true)::fs)) (ihf ((c,x,y,false)::fs)))) T
end
theorem aLu{N L m n g:Nat}{l:Value}{ρ:Env}{a:Act}{P:List Nat}(hg:g<n)(hρ:ρ.cp g=⟨0,0,l⟩)(hm:L+m<=n)(hP: ∀j p,P[j]? =some p->ρ.blk (L+j)=p/\ρ.off (L+j)=0)(hl:P.length=m)(hsz:a.tmps.size=N):
 ∀S:List (Nat × SV),S.all (fun e=>e.2.ok g m)=true->(∀e ∈ aA0 l P S,a.tmps[e.1]? =some e.2)->@jH G0 N ρ n a (aG8 L S):=by
 intro S
 induction S with
 |nil=>intro _ _;exact @jH.mk G0 _ _ _ _ _ hsz (fun i v h=>absurd h (by rw[show aG8 L []=nilA from rfl,aAK];intro h;cases h))
 |cons e S ih=>
  intro hs hv;rw[aP2,aDY]at hs;have h1:=ih hs.2 (fun e' he'=>hv e' (aHJ _ he'));have h2:=hv (e.1,e.2.den l P) (by show _ ∈ (e::S).map _;exact aHB);have h2:a.tmps[e.1]? =some (e.2.den l P):=h2;refine @jH.mk G0 _ _ _ _ _ hsz (fun i v h=>?_);have h:oZ (YW (aG8 L S) e.1 (e.2.av L)) i=some v:=h
  by_cases q:e.1=i
  . subst q;rw[CJ]at h;obtain rfl:=aPk h;have hlt:e.1<N:=by
     rw[<-hsz]
     by_cases c:e.1<a.tmps.size
     . exact c
     rw[aKi (by omega)]at h2;cases h2
    obtain⟨i,sv⟩:=e
    cases sv with
    |s v=>
     have hk:kR g v=true:=hs.1;exact⟨@UY G0 _ _ ⟨hg,fun q=>q⟩ v hk,hlt,by rw[h2];show some (dS l v)=some (den ρ v);rw[lT hρ v hk]⟩
    |p j=>
     have hj:j<m:=by have:=aKf (show Nat.ble (j+1) m=true from hs.1);omega
     obtain⟨p,hp⟩: ∃p,P[j]? =some p:=⟨P[j]'(by omega),aEM (by omega)⟩;obtain⟨q1,q2⟩:=hP j p hp;refine⟨⟨by show L+j<n;omega,fun q=>q⟩,hlt,?_⟩;rw[h2];show some (Value.pointer (some ⟨P.getD j 0,0,none⟩))=some (den ρ (.ptr (L+j) 0));have:P.getD j 0=p:=by rw[aQg,hp];rfl
     rw[this];simp[den,q1,q2]
    |l j k cp=>
     have hj:j<m:=by have:=aKf (show Nat.ble (j+1) m=true from hs.1);omega
     obtain⟨p,hp⟩: ∃p,P[j]? =some p:=⟨P[j]'(by omega),aEM (by omega)⟩;obtain⟨q1,q2⟩:=hP j p hp;refine⟨⟨by show L+j<n;omega,fun q=>q⟩,hlt,?_⟩;rw[h2];show some (Value.slice (some ⟨P.getD j 0,0,none⟩) k cp)=some (den ρ (.sl (L+j) 0 k cp));have:P.getD j 0=p:=by rw[aQg,hp];rfl
     rw[this];simp[den,q1,q2]
  rw[rE _ _ q]at h;exact @jH.val G0 _ _ _ _ _ h1 i v h
theorem aKZ{B:Tab}{w0 w:World}{l:Value}{ps:List DW}{os:List vH}{g d N fuel n:Nat}{h0:Tr HO}{c:Code}{S0:List (Nat × SV)}{F0:AF}{P:List Nat}{a:Act}{Q:Exit->Act->World->Prop}(hB:iQ B w0)(hst:bM B.g.n B.l w0 h0)(hg:Nat.ble (g+1) B.g.n=true)
 (hp: ∀e ∈ ps,aFB g e=true/\O5 B.p l e) (ho: ∀e ∈ os,P8 B g e=true/\AU B.p w0 l e) (hS:S0.all (fun e=>e.2.ok g F0.length)=true) (hF:F0.all (fun e=>iW g e.2)=true)
 (hw:dX w0 N P (OC l F0) (aA0 l P S0) a w) (T:mX):
 ∀fs,(∀e ∈ fs,aMb g l e)->T.ok B l ps os h0 d g N fuel n c S0 F0 fs=true->
  T.post l (fun e S F=> ∀P' a' w',(∀(j p:Nat),P[j]? =some p->P'[j]? =some p)->dX w0 N P' (OC l F) (aA0 l P' S) a' w'->zN B.p Q n c (QX e) a' w')->c.wp B.p Q a w:=by
 induction T with
 | leaf e S F=>
  intro fs hf h hq;have h:aP0 g B.l F0.length e S F (aIv B l ps os h0 d N fuel n c S0 F0 fs)=true:=h
  cases hr:aIv B l ps os h0 d N fuel n c S0 F0 fs with
  |none=>rw[hr]at h;cases h
  | some p=>
   rw[hr]at h;obtain⟨e',st'⟩:=p;obtain⟨h1,h2⟩:=aJ (show band (aSw e' e) (band (isNil st'.d) (band (S.all (slB g B.l F.length st'.t)) (band (aKj g B.l F st'.s.h) (Nat.ble F0.length F.length))))=true from h);obtain⟨h3,h4⟩:=aJ h2;obtain⟨h5,h6⟩:=aJ h4;obtain⟨h7,h8⟩:=aJ h6;have h1:=aOg h1;subst h1;obtain⟨ρ,hs⟩:=hst (fun _=>⟨0,0,l⟩) w hw.below;have hg':g<B.g.n:=by have:=aKf hg;omega
   have hρ:ρ.cp g=⟨0,0,l⟩:=(@aQ.gl G0 _ _ _ _ _ hs g hg').2.2;have hlen:P.length=F0.length:=by have:=hw.fr.1;simpa[OC]using this
   obtain⟨ρ1,hs1,ext,hP⟩:=aIj (l:=l) rfl hg' F0 P ρ _ hs hρ hF hw.nd hw.new (fun b o hb hl=>absurd (@aQ.lt G0 _ _ _ _ _ hs b o hb) (Nat.not_lt.2 hl)) hw.fr;have hgl:g<B.l:=aGA hg' (@aQ.gn G0 _ _ _ _ _ hs);have WB:ρ1.cp g=⟨0,0,l⟩:=(@aQ.gl G0 _ _ _ _ _ hs1 g hg').2.2;have hT:=aH5 hB hg hf hp ho;have ht:@jH G0 N ρ1 (B.l+F0.length) a (aG8 B.l S0):=aLu (g:=g) (aGA hgl (aWP _ _)) WB (aEc _) hP hlen hw.size S0 hS hw.val;refine aB3 (Q:=Q) hT (aBb hT d) (OL d) rfl rfl n c _ _ _ hr ρ1 w a hs1 ht (by rw[hw.defs];trivial) (fun ρ2 w2 a2 S2 T2 D2=>?_);have aBY:=@Stp.sat G0 _ _ _ _ _ _ _ _ S2;have aYJ:=@Stp.ext G0 _ _ _ _ _ _ _ _ S2;have hρ2:ρ2.cp g=⟨0,0,l⟩:=(@aQ.gl G0 _ _ _ _ _ aBY g hg').2.2;have hmF:F0.length<=F.length:=aKf h8;have hP2: ∀j p,P[j]? =some p->j<F0.length/\ρ2.blk (B.l+j)=p:=fun j p hp=>by
    have hj:j<F0.length:=by
     rw[<-hlen]
     by_cases c:j<P.length
     . exact c
     rw[aSz (by omega)]at hp;cases hp
    have:=aYJ (B.l+j) (by show B.l+j<B.l+F0.length;omega);exact⟨hj,by rw[this.1];exact(hP j p hp).1⟩
   have hrow: ∀j,j<F.length-> ∃q,F[j]? =some q/\st'.s.h.get (B.l+j)=some (.row q.2 q.1)/\iW g q.2=true:=fun j hj=>by
    obtain⟨c2,hc,rfl,hsy⟩:=aN2 h7 j _ (aEM hj);exact⟨_,aEM hj,hc,hsy⟩
   obtain⟨P',hP'⟩: ∃P',P'=(List.range F.length).map fun j=>ρ2.blk (B.l+j):=⟨_,rfl⟩;have hat: ∀j,j<F.length->P'[j]? =some (ρ2.blk (B.l+j)):=fun j hj=>by rw[hP',aHG,aTx hj];rfl
   have hin: ∀j p,P'[j]? =some p->j<F.length/\p=ρ2.blk (B.l+j):=fun j p hp=>by
    by_cases c:j<F.length
    . rw[hat j c]at hp;exact⟨c,(aPk hp).symm⟩
    rw[hP',aSz (by simp;omega)]at hp;cases hp
   refine hq P' a2 w2 (fun j p hp=>by obtain⟨q1,q2⟩:=hP2 j p hp;rw[hat j (by omega),q2]) ?_;refine⟨@aQ.below G0 _ _ _ _ _ aBY,fun p hp=>?_,?_,⟨?_,fun j p e hp he=>?_⟩,@jH.size G0 _ _ _ _ _ T2,?_,fun e he=>?_⟩
   . obtain⟨j,hj⟩:=aXb hp;obtain⟨k1,rfl⟩:=hin j p hj;obtain⟨q,_,hq2,_⟩:=hrow j k1;exact @aQ.new G0 _ _ _ _ _ aBY (B.l+j) _ hq2 (aWP _ _)
   . rw[hP',List.Nodup,aXF,aTo];intro i j hi hj hij e;simp only[List.getElem_range,List.length_range]at hi hj e;obtain⟨q,_,hq2,_⟩:=hrow i hi;obtain⟨q',_,aYb,_⟩:=hrow j hj;have:=@aQ.inj G0 _ _ _ _ _ aBY _ _ _ _ hq2 aYb (aWP _ _) (aWP _ _) e;omega
   . rw[hP'];simp[OC]
   . obtain⟨k1,rfl⟩:=hin j p hp;obtain⟨q,hq1,hq2,hsy⟩:=hrow j k1;have he':e=(q.1,q.2.map (dS l)):=by
      rw[OC,aHG,hq1]at he;exact(aPk he).symm
     subst he';obtain⟨_,cc,fr,o1,o2,o3,_⟩:=@aQ.obj G0 _ _ _ _ _ aBY (B.l+j) _ hq2;refine⟨cc,fr,o1,o2,?_⟩;rw[o3,<-dM,lU hρ2 _ hsy,XH]
   . cases hd:st'.d with
     |nil=>
      rw[hd]at D2
      cases hy:a2.defers with
      |nil=>rfl
      |cons x l=>rw[hy]at D2;exact D2.elim
     |cons x l=>rw[hd]at h3;cases h3
   obtain⟨⟨i,sv⟩,hm,rfl⟩:=aPo.1 he;have hb:=aL4.1 h5 _ hm;obtain⟨b1,b2⟩:=aJ (show band (sv.ok g F.length) (Option.rec (motive:=fun _=>Bool) false (fun v=>eqS v (sv.av B.l)) (oZ st'.t i))=true from hb)
   cases hv:oZ st'.t i with
   |none=>rw[hv]at b2;cases b2
   | some v=>
    rw[hv]at b2;have b2:=wX _ _ (show eqS v (sv.av B.l)=true from b2);obtain⟨_,_,k3⟩:=@jH.val G0 _ _ _ _ _ T2 i v hv;show a2.tmps[i]? =some (sv.den l P');rw[k3,b2]
    cases sv with
    |s u=>show some (den ρ2 u)=some (dS l u);rw[lT hρ2 u b1]
    |p j=>
     have hj:j<F.length:=by have:=aKf (show Nat.ble (j+1) F.length=true from b1);omega
     obtain⟨q,hq1,hq2,hsy⟩:=hrow j hj;obtain⟨ho,_⟩:=@aQ.obj G0 _ _ _ _ _ aBY (B.l+j) _ hq2;show some (den ρ2 (.ptr (B.l+j) 0))=some (Value.pointer (some ⟨P'.getD j 0,0,none⟩));have:P'.getD j 0=ρ2.blk (B.l+j):=by rw[aQg,hat j hj];rfl
     rw[this];simp[den,ho]
    |l j k cp=>
     have hj:j<F.length:=by have:=aKf (show Nat.ble (j+1) F.length=true from b1);omega
     obtain⟨q,hq1,hq2,hsy⟩:=hrow j hj;obtain⟨ho,_⟩:=@aQ.obj G0 _ _ _ _ _ aBY (B.l+j) _ hq2;show some (den ρ2 (.sl (B.l+j) 0 k cp))=some (Value.slice (some ⟨P'.getD j 0,0,none⟩) k cp);have:P'.getD j 0=ρ2.blk (B.l+j):=by rw[aQg,hat j hj];rfl
     rw[this];simp[den,ho]
 |no=>intro fs _ _ h;exact h.elim
 | node c x y t u iht ihu=>
  intro fs hf h hl;obtain⟨h1,h2⟩:=aJ (show band (band (kR g x) (kR g y)) (band (t.ok B l ps os h0 d g N fuel n _ S0 F0 ((c,x,y,true)::fs)) (u.ok B l ps os h0 d g N fuel n _ S0 F0 ((c,x,y,false)::fs)))=true from h);obtain⟨h3,h4⟩:=aJ h1;obtain⟨h5,h6⟩:=aJ h2
  cases hb:nG c (dS l x) (dS l y)with
  | true=>
   exact iht _ (fun e he=>by
    rcases aHC.1 he with rfl|he
    . exact⟨h3,h4,hb⟩
    exact hf e he) h5 (hl.1 hb)
  | false=>
   exact ihu _ (fun e he=>by
    rcases aHC.1 he with rfl|he
    . exact⟨h3,h4,hb⟩
    exact hf e he) h6 (hl.2 hb)
def Lf(w0:World)(N:Nat)(P:List Nat)(F:List (TypeId × List Value))(S:List Nat->List (Nat × Value))(K:Act->World->Prop):Prop:=
 ∀P' a' w',(∀(j p:Nat),P[j]? =some p->P'[j]? =some p)->dX w0 N P' F (S P') a' w'->K a' w'
noncomputable def pcB(B:Tab)(ps:List DW)(os:List vH)(g:Nat)(S0:List (Nat × SV))(F0:AF):Bool:=band (Nat.ble (g+1) B.g.n) (band (ps.all (aFB g)) (band (os.all (P8 B g)) (band (S0.all fun e=>e.2.ok g F0.length) (F0.all fun e=>iW g e.2))))
theorem eY{B:Tab}{w0 w:World}{l:Value}{ps:List DW}{os:List vH}{g d N fuel n:Nat}{h0:Tr HO}{c:Code}{S0:List (Nat × SV)}{F0:AF}{P:List Nat}{a:Act}{Q:Exit->Act->World->Prop}{T:mX}{LP:List (TypeId × Value × Value × Value)}{LO:List (FuncId × Array Value × Value)}{FV:List (TypeId × List Value)}{SVs:List (Nat × Value)}{PP:Prop}
 (h:T.ok B l ps os h0 d g N fuel n c S0 F0 []=true) (hB:iQ B w0) (hst:bM B.g.n B.l w0 h0) (hp:OpS B.p LP) (ho:OrS B.p w0 LO) (hw:dX w0 N P FV SVs a w) (hl:PP)
 (hc:(pcB B ps os g S0 F0,ps.map (fun e=>(e.1,dS l e.2.1,dS l e.2.2.1,dS l e.2.2.2)),os.map (fun e=>(e.1,(e.2.1.map (dS l)).toArray,dS l e.2.2)),OC l F0,aA0 l P S0,T.post l (fun e S F=>Lf w0 N P (OC l F) (fun P'=>aA0 l P' S) (zN B.p Q n c (QX e))))=(true,LP,LO,FV,SVs,PP)):c.wp B.p Q a w:=by
 simp only[Prod.mk.injEq]at hc;obtain⟨hc,e3,e4,e1,e2,e5⟩:=hc;obtain⟨c1,c⟩:=aJ hc;obtain⟨c2,c⟩:=aJ c;obtain⟨c3,c⟩:=aJ c;obtain⟨c4,c5⟩:=aJ c;subst e1 e2 e3 e4;rw[<-e5]at hl;refine aKZ hB hst c1 (fun e he=>⟨aL4.1 c2 e he,?_⟩) (fun e he=>⟨aL4.1 c3 e he,ho.all _ (aWw he)⟩) c4 c5 hw T [] (fun e he=>by cases he) h hl;obtain⟨z,hz,q,g⟩:=hp.all _ (aWw he);exact mD (fun ox oy w=>(g ox oy w).1) (fun ox oy w=>(g ox oy w).2) z hz q.1 q.2
end Ev
end

section
open Go.RowKit Go.Lib
namespace Sk
open Ev (bM DT LG eU tb2 fD hp tb0 aP kM vG kG iU mJ qF PD GL oN aU AV DW vH dS aB aC eF mD mX dX Lf zN eY aW fU)
open Bk (Dt aV)
abbrev sO:List AV:=[mJ 0,oN 1,PD 2,PD 3,GL 4,iU 5,iU 6,GL 7,GL 8,mJ 9,mJ 10,mJ 11,mJ 12,vG 13,iU 14,vG 15,iU 16]
noncomputable def mW:Code:=match(Tryz.f3).body with
 |some c=>c
 |none=>.skip
abbrev pF(k:Int)(bs:Option Addr)(n cp:Nat)(d:Dt)(p a lo b hi x y z:Int):List (TypeId × List Value):=[(44,lF k (.slice bs n cp) d p a lo b hi),(2,[.int .i64 x,.int .i64 y,.int .i64 z])]
abbrev pt0(P:List Nat):Value:=.pointer (some ⟨P.getD 0 0,0,none⟩)
abbrev sl3(P:List Nat):Value:=.slice (some ⟨P.getD 1 0,0,none⟩) 3 3
abbrev nrS(i:Int)(P:List Nat):List (Nat × Value):=[(4,.bool false),(11,.int .i64 i),(5,pt0 P),(6,sl3 P)]
abbrev LZ(i by':Int)(P:List Nat):List (Nat × Value):=[(4,.bool false),(11,.int .i64 i),(12,.int .i64 by'),(5,pt0 P),(6,sl3 P)]
abbrev EM(l:List (Nat × Value))(P:List Nat):List (Nat × Value):=(4,.bool false)::(5,pt0 P)::(6,sl3 P)::l
abbrev zQ:List (TypeId × List AV):=[(44,sO),(2,[qi 17,qi 18,qi 19])]
abbrev BO(l:List (Nat × Ev.SV)):List (Nat × Ev.SV):=(4,.s qf)::(5,.p 0)::(6,.l 1 3 3)::l
noncomputable abbrev yK:Code:=aW [1,1,1,1,1,1,1,1,0,1,0,0,1,0,0,1,0,0] mW
def JV:AV:=aU 6 .i64 [(kG 17)]
def yp1:AV:=aU 1 .i64 [JV,(qi 19)]
def yp2:AV:=aU 1 .i64 [JV,(qi 26)]
def I5:AV:=rK (qe 21) (qi 22) (qe 23) (qi 24)
def yp4:AV:=aU 1 .i64 [(qi 20),(.v (.int .i64 1))]
def aO2:mX:=(.node 1 qz (qi 17) (.node 0 (qi 17) qz mX.no (.leaf .ret [(4,.s qt)] [(44,sO)])) mX.no)
theorem aJe(l:Value):aO2.ok tb2 l [] [(7,[bU (qu 0)],(qi 17)),(8,[bU (qu 0)],(qi 17)),(9,[],qt)] hp 60 LG 123 60 1 (aW [1,1] mW) [(4,.s qf),(5,.p 0)] [(44,sO)] []=true:=by kernel_rfl
theorem aUL(k:Int)(bs:Option Addr)(n cp:Nat)(d:Dt)(p a lo b hi:Int)(c:Int){w0 w:World}{P:List Nat}{a0:Act}{Q:Exit->Act->World->Prop}(hst:SS w0) (H0:Same w0 7 #[(fam k (.slice bs n cp) d p a lo b hi)] (.int .i64 c))(H1:Same w0 8 #[(fam k (.slice bs n cp) d p a lo b hi)] (.int .i64 c))(H2:Same w0 9 #[] (.bool true))(hw:dX w0 123 P [(44,(lF k (.slice bs n cp) d p a lo b hi))] [(4,(.bool false)),(5,.pointer (some ⟨P.getD 0 0,0,none⟩))] a0 w)(HP:(((decide (0<c))=true->(((c==0)=true->False)/\((c==0)=false->Lf w0 123 P [(44,(lF k (.slice bs n cp) d p a lo b hi))] (fun P=>[(4,(.bool true))]) (zN Tryz.prog Q 1 (aW [1,1] mW) .ret))))/\((decide (0<c))=false->False))):(aW [1,1] mW).wp Tryz.prog Q a0 w:=
 eY (aJe (lv (lF k (.slice bs n cp) d p a lo b hi) [.int .i64 c])) (fD w0) hst .nil (.cons H0 (.cons H1 (.cons H2 .nil))) hw HP (by kernel_rfl)
def aLP:mX:=(.node 0 (qi 22) (.v (.int .i64 1)) (.node 0 (qe 18) q8 (.node 0 (qi 27) (.v (.int .i64 1)) (.node 0 (qe 25) q8 (.leaf .normal (BO []) [(44,sO),(2,[yp1,yp2,JV])]) (.leaf .normal (BO []) [(44,sO),(2,[yp1,JV,JV])])) (.leaf .normal (BO []) [(44,sO),(2,[yp1,JV,JV])])) (.node 0 (qi 27) (.v (.int .i64 1)) (.node 0 (qe 25) q8 (.leaf .normal (BO []) [(44,sO),(2,[JV,yp2,JV])]) (.leaf .normal (BO []) [(44,sO),(2,[JV,JV,JV])])) (.leaf .normal (BO []) [(44,sO),(2,[JV,JV,JV])]))) (.node 0 (qi 27) (.v (.int .i64 1)) (.node 0 (qe 25) q8 (.leaf .normal (BO []) [(44,sO),(2,[JV,yp2,JV])]) (.leaf .normal (BO []) [(44,sO),(2,[JV,JV,JV])])) (.leaf .normal (BO []) [(44,sO),(2,[JV,JV,JV])])))
theorem aF0(l:Value):aLP.ok tb2 l [] [(7,[bU (qu 0)],qz),(10,[bU (qu 0),qz,qz],.aK [(rK (qe 18) (qi 19) (qe 20) (qi 21)),(qi 22)]),(10,[bU (qu 0),.v (.int .i64 1),qz],.aK [(rK (qe 23) (qi 24) (qe 25) (qi 26)),(qi 27)])] hp 60 LG 123 60 6 (aW [1,1] mW) [(4,.s qf),(1,.s ((kG 17))),(5,.p 0)] [(44,sO)] []=true:=by kernel_rfl
theorem aRz(k:Int)(bs:Option Addr)(n cp:Nat)(d:Dt)(p a lo b hi:Int)(nn fa fl fb fh fi la ll lb lh li:Int){w0 w:World}{P:List Nat}{a0:Act}{Q:Exit->Act->World->Prop}(hst:SS w0) (H0:Same w0 7 #[(fam k (.slice bs n cp) d p a lo b hi)] (.int .i64 0))(H1:Same w0 10 #[(fam k (.slice bs n cp) d p a lo b hi),(.int .i64 0),(.int .i64 0)] (.tuple #[(r4 fa fl fb fh),(.int .i64 fi)]))(H2:Same w0 10 #[(fam k (.slice bs n cp) d p a lo b hi),(.int .i64 1),(.int .i64 0)] (.tuple #[(r4 la ll lb lh),(.int .i64 li)]))(hw:dX w0 123 P [(44,(lF k (.slice bs n cp) d p a lo b hi))] [(4,(.bool false)),(1,(.int .i16 nn)),(5,.pointer (some ⟨P.getD 0 0,0,none⟩))] a0 w)(HP:(((fi==1)=true->(((fa==0)=true->(((li==1)=true->(((lb==0)=true->Lf w0 123 P (pF k bs n cp d p a lo b hi (IntKind.i64.wrap ((IntKind.i64.wrap nn)+fl)) (IntKind.i64.wrap ((IntKind.i64.wrap nn)+lh)) (IntKind.i64.wrap nn)) (EM []) (zN Tryz.prog Q 6 (aW [1,1] mW) .normal))/\((lb==0)=false->Lf w0 123 P (pF k bs n cp d p a lo b hi (IntKind.i64.wrap ((IntKind.i64.wrap nn)+fl)) (IntKind.i64.wrap nn) (IntKind.i64.wrap nn)) (EM []) (zN Tryz.prog Q 6 (aW [1,1] mW) .normal))))/\((li==1)=false->Lf w0 123 P (pF k bs n cp d p a lo b hi (IntKind.i64.wrap ((IntKind.i64.wrap nn)+fl)) (IntKind.i64.wrap nn) (IntKind.i64.wrap nn)) (EM []) (zN Tryz.prog Q 6 (aW [1,1] mW) .normal))))/\((fa==0)=false->(((li==1)=true->(((lb==0)=true->Lf w0 123 P (pF k bs n cp d p a lo b hi (IntKind.i64.wrap nn) (IntKind.i64.wrap ((IntKind.i64.wrap nn)+lh)) (IntKind.i64.wrap nn)) (EM []) (zN Tryz.prog Q 6 (aW [1,1] mW) .normal))/\((lb==0)=false->Lf w0 123 P (pF k bs n cp d p a lo b hi (IntKind.i64.wrap nn) (IntKind.i64.wrap nn) (IntKind.i64.wrap nn)) (EM []) (zN Tryz.prog Q 6 (aW [1,1] mW) .normal))))/\((li==1)=false->Lf w0 123 P (pF k bs n cp d p a lo b hi (IntKind.i64.wrap nn) (IntKind.i64.wrap nn) (IntKind.i64.wrap nn)) (EM []) (zN Tryz.prog Q 6 (aW [1,1] mW) .normal))))))/\((fi==1)=false->(((li==1)=true->(((lb==0)=true->Lf w0 123 P (pF k bs n cp d p a lo b hi (IntKind.i64.wrap nn) (IntKind.i64.wrap ((IntKind.i64.wrap nn)+lh)) (IntKind.i64.wrap nn)) (EM []) (zN Tryz.prog Q 6 (aW [1,1] mW) .normal))/\((lb==0)=false->Lf w0 123 P (pF k bs n cp d p a lo b hi (IntKind.i64.wrap nn) (IntKind.i64.wrap nn) (IntKind.i64.wrap nn)) (EM []) (zN Tryz.prog Q 6 (aW [1,1] mW) .normal))))/\((li==1)=false->Lf w0 123 P (pF k bs n cp d p a lo b hi (IntKind.i64.wrap nn) (IntKind.i64.wrap nn) (IntKind.i64.wrap nn)) (EM []) (zN Tryz.prog Q 6 (aW [1,1] mW) .normal)))))):(aW [1,1] mW).wp Tryz.prog Q a0 w:=
 eY (aF0 (lv (lF k (.slice bs n cp) d p a lo b hi) [.int .i16 nn,.int .i8 fa,.int .i64 fl,.int .i8 fb,.int .i64 fh,.int .i64 fi,.int .i8 la,.int .i64 ll,.int .i8 lb,.int .i64 lh,.int .i64 li])) (fD w0) hst .nil (.cons H0 (.cons H1 (.cons H2 .nil))) hw HP (by kernel_rfl)
def aOU:mX:=(.leaf .normal (BO [(11,.s qz)]) zQ)
theorem aI6(l:Value):aOU.ok tb2 l [] [] hp 60 LG 123 60 0 (aW [1,1,1,1,1,1,1,1,0,0] mW) (BO []) zQ []=true:=by kernel_rfl
theorem aUD(k:Int)(bs:Option Addr)(n cp:Nat)(d:Dt)(p a lo b hi:Int)(x y z:Int){w0 w:World}{P:List Nat}{a0:Act}{Q:Exit->Act->World->Prop}(hst:SS w0) (hw:dX w0 123 P (pF k bs n cp d p a lo b hi x y z) [(4,(.bool false)),(5,.pointer (some ⟨P.getD 0 0,0,none⟩)),(6,.slice (some ⟨P.getD 1 0,0,none⟩) 3 3)] a0 w)(HP:Lf w0 123 P (pF k bs n cp d p a lo b hi x y z) (EM [(11,(.int .i64 0))]) (Q .normal)):(aW [1,1,1,1,1,1,1,1,0,0] mW).wp Tryz.prog Q a0 w:=
 eY (aI6 (lv (lF k (.slice bs n cp) d p a lo b hi) [.int .i64 x,.int .i64 y,.int .i64 z])) (fD w0) hst .nil .nil hw HP (by kernel_rfl)
def aVX:mX:=(.node 1 (qi 20) (.v (.int .i64 3)) (.leaf .normal (BO [(11,.s (qi 20))]) zQ) (.leaf (.exit 0) (BO [(11,.s (qi 20))]) zQ))
theorem aRm(l:Value):aVX.ok tb2 l [] [] hp 60 LG 123 60 1 (aW [1,1,1,1,1,1,1,1,0,1,0,0] mW) [(4,.s qf),(11,.s ((qi 20))),(5,.p 0),(6,.l 1 3 3)] zQ []=true:=by kernel_rfl
theorem nrI(k:Int)(bs:Option Addr)(n cp:Nat)(d:Dt)(p a lo b hi:Int)(x y z i:Int){w0 w:World}{P:List Nat}{a0:Act}{Q:Exit->Act->World->Prop}(hst:SS w0) (hw:dX w0 123 P (pF k bs n cp d p a lo b hi x y z) (nrS i P) a0 w)(HP:(((decide (i<3))=true->Lf w0 123 P (pF k bs n cp d p a lo b hi x y z) (EM [(11,(.int .i64 i))]) (zN Tryz.prog Q 1 (aW [1,1,1,1,1,1,1,1,0,1,0,0] mW) .normal))/\((decide (i<3))=false->Lf w0 123 P (pF k bs n cp d p a lo b hi x y z) (EM [(11,(.int .i64 i))]) (zN Tryz.prog Q 1 (aW [1,1,1,1,1,1,1,1,0,1,0,0] mW) (.exit 0))))):(aW [1,1,1,1,1,1,1,1,0,1,0,0] mW).wp Tryz.prog Q a0 w:=
 eY (aRm (lv (lF k (.slice bs n cp) d p a lo b hi) [.int .i64 x,.int .i64 y,.int .i64 z,.int .i64 i])) (fD w0) hst .nil .nil hw HP (by kernel_rfl)
def aOS:mX:=(.leaf .normal (BO [(11,.s (qi 20)),(12,.s qz)]) zQ)
theorem aI4(l:Value):aOS.ok tb2 l [] [] hp 60 LG 123 60 0 (aW [1,1,1,1,1,1,1,1,0,1,0,0,1,0,0,0] mW) [(4,.s qf),(11,.s ((qi 20))),(5,.p 0),(6,.l 1 3 3)] zQ []=true:=by kernel_rfl
theorem aUB(k:Int)(bs:Option Addr)(n cp:Nat)(d:Dt)(p a lo b hi:Int)(x y z i:Int){w0 w:World}{P:List Nat}{a0:Act}{Q:Exit->Act->World->Prop}(hst:SS w0) (hw:dX w0 123 P (pF k bs n cp d p a lo b hi x y z) (nrS i P) a0 w)(HP:Lf w0 123 P (pF k bs n cp d p a lo b hi x y z) (EM [(11,(.int .i64 i)),(12,(.int .i64 0))]) (Q .normal)):(aW [1,1,1,1,1,1,1,1,0,1,0,0,1,0,0,0] mW).wp Tryz.prog Q a0 w:=
 eY (aI4 (lv (lF k (.slice bs n cp) d p a lo b hi) [.int .i64 x,.int .i64 y,.int .i64 z,.int .i64 i])) (fD w0) hst .nil .nil hw HP (by kernel_rfl)
def aS5:mX:=(.leaf (.exit 2) (BO [(11,.s (qi 20))]) zQ)
theorem aNu(l:Value):aS5.ok tb2 l [] [] hp 60 LG 123 60 0 yK [(4,.s qf),(11,.s ((qi 20))),(12,.s (.v (.int .i64 5))),(5,.p 0),(6,.l 1 3 3)] zQ []=true:=by kernel_rfl
theorem aXO(k:Int)(bs:Option Addr)(n cp:Nat)(d:Dt)(p a lo b hi:Int)(x y z i:Int){w0 w:World}{P:List Nat}{a0:Act}{Q:Exit->Act->World->Prop}(hst:SS w0) (hw:dX w0 123 P (pF k bs n cp d p a lo b hi x y z) (LZ i 5 P) a0 w)(HP:Lf w0 123 P (pF k bs n cp d p a lo b hi x y z) (EM [(11,(.int .i64 i))]) (Q (.exit 2))):yK.wp Tryz.prog Q a0 w:=
 eY (aNu (lv (lF k (.slice bs n cp) d p a lo b hi) [.int .i64 x,.int .i64 y,.int .i64 z,.int .i64 i])) (fD w0) hst .nil .nil hw HP (by kernel_rfl)
def aOZ:mX:=(.node 1 (qi 20) (.v (.int .i64 5)) (.node 3 (qb 25) (qb 25) (.leaf .normal (BO [(11,.s qz),(12,.s yp4)]) zQ) (.leaf .ret (BO [(11,.s qz),(12,.s (qi 20))]) zQ)) mX.no)
theorem aJb(l:Value):aOZ.ok tb2 l [(42,I5,I5,(qb 25))] [(11,[bU (qu 0),(qi 20),(qi 17)],.aK [I5,qt,qz]),(10,[bU (qu 0),(qi 20),(qi 17)],.aK [I5,.v (.int .i64 1)])] hp 60 LG 123 60 0 yK [(4,.s qf),(11,.s qz),(12,.s ((qi 20))),(5,.p 0),(6,.l 1 3 3)] zQ []=true:=by kernel_rfl
theorem aUI(k:Int)(bs:Option Addr)(n cp:Nat)(d:Dt)(p a lo b hi:Int)(x y z nT ra rl rb rh:Int)(q:Bool){w0 w:World}{P:List Nat}{a0:Act}{Q:Exit->Act->World->Prop}(hst:SS w0)(hz:q=decide (ra=ra/\rl=rl/\rb=rb/\rh=rh))(H0:Same w0 11 #[(fam k (.slice bs n cp) d p a lo b hi),(.int .i64 nT),(.int .i64 x)] (.tuple #[(r4 ra rl rb rh),(.bool true),(.int .i64 0)]))(H1:Same w0 10 #[(fam k (.slice bs n cp) d p a lo b hi),(.int .i64 nT),(.int .i64 x)] (.tuple #[(r4 ra rl rb rh),(.int .i64 1)]))(hw:dX w0 123 P (pF k bs n cp d p a lo b hi x y z) (LZ 0 nT P) a0 w)(HP:(((decide (nT<5))=true->((q=true->Lf w0 123 P (pF k bs n cp d p a lo b hi x y z) (EM [(11,(.int .i64 0)),(12,(.int .i64 (IntKind.i64.wrap (nT+1))))]) (Q .normal))/\(q=false->Lf w0 123 P (pF k bs n cp d p a lo b hi x y z) (EM [(11,(.int .i64 0)),(12,(.int .i64 nT))]) (Q .ret))))/\((decide (nT<5))=false->False))):yK.wp Tryz.prog Q a0 w:=
 eY (aJb (lv (lF k (.slice bs n cp) d p a lo b hi) [.int .i64 x,.int .i64 y,.int .i64 z,.int .i64 nT,.int .i8 ra,.int .i64 rl,.int .i8 rb,.int .i64 rh,.bool q])) (fD w0) hst (.cons (lW _ _ _ _ _ _ _ _ _ hz) (fun _ _ _=>⟨by kernel_rfl,by kernel_rfl⟩) .nil) (.cons H0 (.cons H1 .nil)) hw HP (by kernel_rfl)
def aO0:mX:=(.node 1 (qi 20) (.v (.int .i64 5)) (.node 3 (qb 25) (qb 25) (.leaf .normal (BO [(11,.s qz),(12,.s yp4)]) zQ) (.leaf .ret (BO [(11,.s qz),(12,.s (qi 20))]) zQ)) mX.no)
theorem aJc(l:Value):aO0.ok tb2 l [(42,I5,I5,(qb 25))] [(11,[bU (qu 0),(qi 20),(qi 17)],.aK [I5,qf,qz]),(10,[bU (qu 0),(qi 20),(qi 17)],.aK [I5,qz])] hp 60 LG 123 60 0 yK [(4,.s qf),(11,.s qz),(12,.s ((qi 20))),(5,.p 0),(6,.l 1 3 3)] zQ []=true:=by kernel_rfl
theorem aUJ(k:Int)(bs:Option Addr)(n cp:Nat)(d:Dt)(p a lo b hi:Int)(x y z nT ra rl rb rh:Int)(q:Bool){w0 w:World}{P:List Nat}{a0:Act}{Q:Exit->Act->World->Prop}(hst:SS w0)(hz:q=decide (ra=ra/\rl=rl/\rb=rb/\rh=rh))(H0:Same w0 11 #[(fam k (.slice bs n cp) d p a lo b hi),(.int .i64 nT),(.int .i64 x)] (.tuple #[(r4 ra rl rb rh),(.bool false),(.int .i64 0)]))(H1:Same w0 10 #[(fam k (.slice bs n cp) d p a lo b hi),(.int .i64 nT),(.int .i64 x)] (.tuple #[(r4 ra rl rb rh),(.int .i64 0)]))(hw:dX w0 123 P (pF k bs n cp d p a lo b hi x y z) (LZ 0 nT P) a0 w)(HP:(((decide (nT<5))=true->((q=true->Lf w0 123 P (pF k bs n cp d p a lo b hi x y z) (EM [(11,(.int .i64 0)),(12,(.int .i64 (IntKind.i64.wrap (nT+1))))]) (Q .normal))/\(q=false->Lf w0 123 P (pF k bs n cp d p a lo b hi x y z) (EM [(11,(.int .i64 0)),(12,(.int .i64 nT))]) (Q .ret))))/\((decide (nT<5))=false->False))):yK.wp Tryz.prog Q a0 w:=
 eY (aJc (lv (lF k (.slice bs n cp) d p a lo b hi) [.int .i64 x,.int .i64 y,.int .i64 z,.int .i64 nT,.int .i8 ra,.int .i64 rl,.int .i8 rb,.int .i64 rh,.bool q])) (fD w0) hst (.cons (lW _ _ _ _ _ _ _ _ _ hz) (fun _ _ _=>⟨by kernel_rfl,by kernel_rfl⟩) .nil) (.cons H0 (.cons H1 .nil)) hw HP (by kernel_rfl)
def aOX:mX:=(.node 1 (qi 20) (.v (.int .i64 5)) (.node 3 (qb 25) (qb 25) (.leaf .normal (BO [(11,.s (.v (.int .i64 1))),(12,.s yp4)]) zQ) (.leaf .ret (BO [(11,.s (.v (.int .i64 1))),(12,.s (qi 20))]) zQ)) mX.no)
theorem aI9(l:Value):aOX.ok tb2 l [(42,I5,I5,(qb 25))] [(11,[bU (qu 0),(qi 20),(qi 18)],.aK [I5,qt,qz]),(10,[bU (qu 0),(qi 20),(qi 18)],.aK [I5,.v (.int .i64 1)])] hp 60 LG 123 60 0 yK [(4,.s qf),(11,.s (.v (.int .i64 1))),(12,.s ((qi 20))),(5,.p 0),(6,.l 1 3 3)] zQ []=true:=by kernel_rfl
theorem aUG(k:Int)(bs:Option Addr)(n cp:Nat)(d:Dt)(p a lo b hi:Int)(x y z nT ra rl rb rh:Int)(q:Bool){w0 w:World}{P:List Nat}{a0:Act}{Q:Exit->Act->World->Prop}(hst:SS w0)(hz:q=decide (ra=ra/\rl=rl/\rb=rb/\rh=rh))(H0:Same w0 11 #[(fam k (.slice bs n cp) d p a lo b hi),(.int .i64 nT),(.int .i64 y)] (.tuple #[(r4 ra rl rb rh),(.bool true),(.int .i64 0)]))(H1:Same w0 10 #[(fam k (.slice bs n cp) d p a lo b hi),(.int .i64 nT),(.int .i64 y)] (.tuple #[(r4 ra rl rb rh),(.int .i64 1)]))(hw:dX w0 123 P (pF k bs n cp d p a lo b hi x y z) (LZ 1 nT P) a0 w)(HP:(((decide (nT<5))=true->((q=true->Lf w0 123 P (pF k bs n cp d p a lo b hi x y z) (EM [(11,(.int .i64 1)),(12,(.int .i64 (IntKind.i64.wrap (nT+1))))]) (Q .normal))/\(q=false->Lf w0 123 P (pF k bs n cp d p a lo b hi x y z) (EM [(11,(.int .i64 1)),(12,(.int .i64 nT))]) (Q .ret))))/\((decide (nT<5))=false->False))):yK.wp Tryz.prog Q a0 w:=
 eY (aI9 (lv (lF k (.slice bs n cp) d p a lo b hi) [.int .i64 x,.int .i64 y,.int .i64 z,.int .i64 nT,.int .i8 ra,.int .i64 rl,.int .i8 rb,.int .i64 rh,.bool q])) (fD w0) hst (.cons (lW _ _ _ _ _ _ _ _ _ hz) (fun _ _ _=>⟨by kernel_rfl,by kernel_rfl⟩) .nil) (.cons H0 (.cons H1 .nil)) hw HP (by kernel_rfl)
def aOY:mX:=(.node 1 (qi 20) (.v (.int .i64 5)) (.node 3 (qb 25) (qb 25) (.leaf .normal (BO [(11,.s (.v (.int .i64 1))),(12,.s yp4)]) zQ) (.leaf .ret (BO [(11,.s (.v (.int .i64 1))),(12,.s (qi 20))]) zQ)) mX.no)
theorem aJa(l:Value):aOY.ok tb2 l [(42,I5,I5,(qb 25))] [(11,[bU (qu 0),(qi 20),(qi 18)],.aK [I5,qf,qz]),(10,[bU (qu 0),(qi 20),(qi 18)],.aK [I5,qz])] hp 60 LG 123 60 0 yK [(4,.s qf),(11,.s (.v (.int .i64 1))),(12,.s ((qi 20))),(5,.p 0),(6,.l 1 3 3)] zQ []=true:=by kernel_rfl
theorem aUH(k:Int)(bs:Option Addr)(n cp:Nat)(d:Dt)(p a lo b hi:Int)(x y z nT ra rl rb rh:Int)(q:Bool){w0 w:World}{P:List Nat}{a0:Act}{Q:Exit->Act->World->Prop}(hst:SS w0)(hz:q=decide (ra=ra/\rl=rl/\rb=rb/\rh=rh))(H0:Same w0 11 #[(fam k (.slice bs n cp) d p a lo b hi),(.int .i64 nT),(.int .i64 y)] (.tuple #[(r4 ra rl rb rh),(.bool false),(.int .i64 0)]))(H1:Same w0 10 #[(fam k (.slice bs n cp) d p a lo b hi),(.int .i64 nT),(.int .i64 y)] (.tuple #[(r4 ra rl rb rh),(.int .i64 0)]))(hw:dX w0 123 P (pF k bs n cp d p a lo b hi x y z) (LZ 1 nT P) a0 w)(HP:(((decide (nT<5))=true->((q=true->Lf w0 123 P (pF k bs n cp d p a lo b hi x y z) (EM [(11,(.int .i64 1)),(12,(.int .i64 (IntKind.i64.wrap (nT+1))))]) (Q .normal))/\(q=false->Lf w0 123 P (pF k bs n cp d p a lo b hi x y z) (EM [(11,(.int .i64 1)),(12,(.int .i64 nT))]) (Q .ret))))/\((decide (nT<5))=false->False))):yK.wp Tryz.prog Q a0 w:=
 eY (aJa (lv (lF k (.slice bs n cp) d p a lo b hi) [.int .i64 x,.int .i64 y,.int .i64 z,.int .i64 nT,.int .i8 ra,.int .i64 rl,.int .i8 rb,.int .i64 rh,.bool q])) (fD w0) hst (.cons (lW _ _ _ _ _ _ _ _ _ hz) (fun _ _ _=>⟨by kernel_rfl,by kernel_rfl⟩) .nil) (.cons H0 (.cons H1 .nil)) hw HP (by kernel_rfl)
def aOV:mX:=(.node 1 (qi 20) (.v (.int .i64 5)) (.node 3 (qb 25) (qb 25) (.leaf .normal (BO [(11,.s (.v (.int .i64 2))),(12,.s yp4)]) zQ) (.leaf .ret (BO [(11,.s (.v (.int .i64 2))),(12,.s (qi 20))]) zQ)) mX.no)
theorem aI7(l:Value):aOV.ok tb2 l [(42,I5,I5,(qb 25))] [(11,[bU (qu 0),(qi 20),(qi 19)],.aK [I5,qt,qz]),(10,[bU (qu 0),(qi 20),(qi 19)],.aK [I5,.v (.int .i64 1)])] hp 60 LG 123 60 0 yK [(4,.s qf),(11,.s (.v (.int .i64 2))),(12,.s ((qi 20))),(5,.p 0),(6,.l 1 3 3)] zQ []=true:=by kernel_rfl
theorem aUE(k:Int)(bs:Option Addr)(n cp:Nat)(d:Dt)(p a lo b hi:Int)(x y z nT ra rl rb rh:Int)(q:Bool){w0 w:World}{P:List Nat}{a0:Act}{Q:Exit->Act->World->Prop}(hst:SS w0)(hz:q=decide (ra=ra/\rl=rl/\rb=rb/\rh=rh))(H0:Same w0 11 #[(fam k (.slice bs n cp) d p a lo b hi),(.int .i64 nT),(.int .i64 z)] (.tuple #[(r4 ra rl rb rh),(.bool true),(.int .i64 0)]))(H1:Same w0 10 #[(fam k (.slice bs n cp) d p a lo b hi),(.int .i64 nT),(.int .i64 z)] (.tuple #[(r4 ra rl rb rh),(.int .i64 1)]))(hw:dX w0 123 P (pF k bs n cp d p a lo b hi x y z) (LZ 2 nT P) a0 w)(HP:(((decide (nT<5))=true->((q=true->Lf w0 123 P (pF k bs n cp d p a lo b hi x y z) (EM [(11,(.int .i64 2)),(12,(.int .i64 (IntKind.i64.wrap (nT+1))))]) (Q .normal))/\(q=false->Lf w0 123 P (pF k bs n cp d p a lo b hi x y z) (EM [(11,(.int .i64 2)),(12,(.int .i64 nT))]) (Q .ret))))/\((decide (nT<5))=false->False))):yK.wp Tryz.prog Q a0 w:=
 eY (aI7 (lv (lF k (.slice bs n cp) d p a lo b hi) [.int .i64 x,.int .i64 y,.int .i64 z,.int .i64 nT,.int .i8 ra,.int .i64 rl,.int .i8 rb,.int .i64 rh,.bool q])) (fD w0) hst (.cons (lW _ _ _ _ _ _ _ _ _ hz) (fun _ _ _=>⟨by kernel_rfl,by kernel_rfl⟩) .nil) (.cons H0 (.cons H1 .nil)) hw HP (by kernel_rfl)
def aOW:mX:=(.node 1 (qi 20) (.v (.int .i64 5)) (.node 3 (qb 25) (qb 25) (.leaf .normal (BO [(11,.s (.v (.int .i64 2))),(12,.s yp4)]) zQ) (.leaf .ret (BO [(11,.s (.v (.int .i64 2))),(12,.s (qi 20))]) zQ)) mX.no)
theorem aI8(l:Value):aOW.ok tb2 l [(42,I5,I5,(qb 25))] [(11,[bU (qu 0),(qi 20),(qi 19)],.aK [I5,qf,qz]),(10,[bU (qu 0),(qi 20),(qi 19)],.aK [I5,qz])] hp 60 LG 123 60 0 yK [(4,.s qf),(11,.s (.v (.int .i64 2))),(12,.s ((qi 20))),(5,.p 0),(6,.l 1 3 3)] zQ []=true:=by kernel_rfl
theorem aUF(k:Int)(bs:Option Addr)(n cp:Nat)(d:Dt)(p a lo b hi:Int)(x y z nT ra rl rb rh:Int)(q:Bool){w0 w:World}{P:List Nat}{a0:Act}{Q:Exit->Act->World->Prop}(hst:SS w0)(hz:q=decide (ra=ra/\rl=rl/\rb=rb/\rh=rh))(H0:Same w0 11 #[(fam k (.slice bs n cp) d p a lo b hi),(.int .i64 nT),(.int .i64 z)] (.tuple #[(r4 ra rl rb rh),(.bool false),(.int .i64 0)]))(H1:Same w0 10 #[(fam k (.slice bs n cp) d p a lo b hi),(.int .i64 nT),(.int .i64 z)] (.tuple #[(r4 ra rl rb rh),(.int .i64 0)]))(hw:dX w0 123 P (pF k bs n cp d p a lo b hi x y z) (LZ 2 nT P) a0 w)(HP:(((decide (nT<5))=true->((q=true->Lf w0 123 P (pF k bs n cp d p a lo b hi x y z) (EM [(11,(.int .i64 2)),(12,(.int .i64 (IntKind.i64.wrap (nT+1))))]) (Q .normal))/\(q=false->Lf w0 123 P (pF k bs n cp d p a lo b hi x y z) (EM [(11,(.int .i64 2)),(12,(.int .i64 nT))]) (Q .ret))))/\((decide (nT<5))=false->False))):yK.wp Tryz.prog Q a0 w:=
 eY (aI8 (lv (lF k (.slice bs n cp) d p a lo b hi) [.int .i64 x,.int .i64 y,.int .i64 z,.int .i64 nT,.int .i8 ra,.int .i64 rl,.int .i8 rb,.int .i64 rh,.bool q])) (fD w0) hst (.cons (lW _ _ _ _ _ _ _ _ _ hz) (fun _ _ _=>⟨by kernel_rfl,by kernel_rfl⟩) .nil) (.cons H0 (.cons H1 .nil)) hw HP (by kernel_rfl)
def aOT:mX:=(.leaf .normal (BO [(11,.s yp4)]) zQ)
theorem aI5(l:Value):aOT.ok tb2 l [] [] hp 60 LG 123 60 0 (aW [1,1,1,1,1,1,1,1,0,1,0,0,1,1] mW) [(4,.s qf),(11,.s ((qi 20))),(5,.p 0),(6,.l 1 3 3)] zQ []=true:=by kernel_rfl
theorem aUC(k:Int)(bs:Option Addr)(n cp:Nat)(d:Dt)(p a lo b hi:Int)(x y z i:Int){w0 w:World}{P:List Nat}{a0:Act}{Q:Exit->Act->World->Prop}(hst:SS w0) (hw:dX w0 123 P (pF k bs n cp d p a lo b hi x y z) (nrS i P) a0 w)(HP:Lf w0 123 P (pF k bs n cp d p a lo b hi x y z) (EM [(11,(.int .i64 (IntKind.i64.wrap (i+1))))]) (Q .normal)):(aW [1,1,1,1,1,1,1,1,0,1,0,0,1,1] mW).wp Tryz.prog Q a0 w:=
 eY (aI5 (lv (lF k (.slice bs n cp) d p a lo b hi) [.int .i64 x,.int .i64 y,.int .i64 z,.int .i64 i])) (fD w0) hst .nil .nil hw HP (by kernel_rfl)
def aO1:mX:=(.leaf .ret [(4,.s qt)] zQ)
theorem aJd(l:Value):aO1.ok tb2 l [] [(9,[],qt)] hp 60 LG 123 60 0 (aW [1,1,1,1,1,1,1,1,1] mW) (BO []) zQ []=true:=by kernel_rfl
theorem aUK(k:Int)(bs:Option Addr)(n cp:Nat)(d:Dt)(p a lo b hi:Int)(x y z:Int){w0 w:World}{P:List Nat}{a0:Act}{Q:Exit->Act->World->Prop}(hst:SS w0) (H0:Same w0 9 #[] (.bool true))(hw:dX w0 123 P (pF k bs n cp d p a lo b hi x y z) [(4,(.bool false)),(5,.pointer (some ⟨P.getD 0 0,0,none⟩)),(6,.slice (some ⟨P.getD 1 0,0,none⟩) 3 3)] a0 w)(HP:Lf w0 123 P (pF k bs n cp d p a lo b hi x y z) (fun P=>[(4,(.bool true))]) (Q .ret)):(aW [1,1,1,1,1,1,1,1,1] mW).wp Tryz.prog Q a0 w:=
 eY (aJd (lv (lF k (.slice bs n cp) d p a lo b hi) [.int .i64 x,.int .i64 y,.int .i64 z])) (fD w0) hst .nil (.cons H0 .nil) hw HP (by kernel_rfl)
end Sk
end
section
open Go.RowKit Go.Lib
namespace Sk
open Ev (bM DT LG eU aO hp vG kG iU mJ qF PD GL oN aU AV DW vH dS aB aC eF mD)
open Bk (Dt aV)
def yw0:AV:=rK q8 (qi 5) q8 (qi 6)
def yw1:AV:=rK q8 (qi 11) q8 (qi 12)
def yw2:AV:=rK q8 (qi 19) q8 (qi 20)
def yw3:AV:=rK (qe 6) (qi 7) (qe 8) (qi 9)
def yw4:AV:=.aK [(rK q8 qz q8 qz),qf,qz]
def yw5:AV:=rK (qe 8) (qi 9) (qe 10) (qi 11)
def yw6:AV:=rK (qe 17) (qi 18) (qe 19) (qi 20)
def yw7:AV:=.aK [yw6,(qb 21),qz]
def yw8:AV:=rK (qe 18) (qi 19) (qe 20) (qi 21)
def yw9:AV:=.aK [yw8,(qb 22),qz]
def aQI:AV:=rK (qe 22) (qi 23) (qe 24) (qi 25)
def aME:AV:=.aK [aQI,(qb 26)]
def aQH:AV:=rK (qe 14) (qi 15) (qe 16) (qi 17)
def X5:AV:=.aK [aQH,(qb 18)]
def G7:List AV:=[(qe 0),(qi 1),(qe 2),(qi 3),(qu 4)]
def aMD:List AV:=[(qe 13),(qi 14),(qe 15),(qi 16),(qu 12)]
def aDy:DT:=(.leaf (.aK [yw6,qt,qz]))
theorem aAb(l:Value):aDy.ok eU l [] [(8,[bU (.v (.int .u8 1))],qz),(58,[bU (.v (.int .u8 1))],.yM 128 yw6)] hp 60 LG 12 [bU (.v (.int .u8 1))] []=true:=by kernel_rfl
theorem aIN(k:Int)(bs:Option Addr)(n cp:Nat)(d:Dt)(p a lo b hi:Int)(ua ul ub uh:Int){w0:World}(hst:SS w0) (H0:Same w0 8 #[(fam 1 (.slice bs n cp) d p a lo b hi)] (.int .i64 0))(H1:Same w0 58 #[(fam 1 (.slice bs n cp) d p a lo b hi)] (.iface 128 (r4 ua ul ub uh))):Same w0 12 #[(fam 1 (.slice bs n cp) d p a lo b hi)] (.tuple #[(r4 ua ul ub uh),(.bool true),(.int .i64 0)]):=
 aB (aAb (lv (lF k (.slice bs n cp) d p a lo b hi) [.int .i8 ua,.int .i64 ul,.int .i8 ub,.int .i64 uh])) (aO w0) hst .nil (.cons H0 (.cons H1 .nil)) (aC (by kernel_rfl)) (by kernel_rfl)
def aDA:DT:=(.leaf yw7)
theorem aAd(l:Value):aDA.ok eU l [] [(8,[bU (.v (.int .u8 2))],qz),(276,[xA],.aK [yw6,(qb 21)])] hp 60 LG 12 [bU (.v (.int .u8 2))] []=true:=by kernel_rfl
theorem aKG(k:Int)(bs:Option Addr)(n cp:Nat)(d:Dt)(p a lo b hi:Int)(ra rl rb rh:Int)(ri:Bool){w0:World}(hst:SS w0) (H0:Same w0 8 #[(fam 2 (.slice bs n cp) d p a lo b hi)] (.int .i64 0))(H1:Same w0 276 #[(aV d)] (.tuple #[(r4 ra rl rb rh),(.bool ri)])):Same w0 12 #[(fam 2 (.slice bs n cp) d p a lo b hi)] (.tuple #[(r4 ra rl rb rh),(.bool ri),(.int .i64 0)]):=
 aB (aAd (lv (lF k (.slice bs n cp) d p a lo b hi) [.int .i8 ra,.int .i64 rl,.int .i8 rb,.int .i64 rh,.bool ri])) (aO w0) hst .nil (.cons H0 (.cons H1 .nil)) (aC (by kernel_rfl)) (by kernel_rfl)
def aDz:DT:=(.leaf yw7)
theorem aAc(l:Value):aDz.ok eU l [] [(8,[bU (.v (.int .u8 3))],qz),(265,[.agg aMD],.aK [yw6,(qb 21)])] hp 60 LG 12 [bU (.v (.int .u8 3))] []=true:=by kernel_rfl
theorem aJW(k:Int)(bs:Option Addr)(n cp:Nat)(d:Dt)(p a lo b hi:Int)(ra rl rb rh:Int)(ri:Bool){w0:World}(hst:SS w0) (H0:Same w0 8 #[(fam 3 (.slice bs n cp) d p a lo b hi)] (.int .i64 0))(H1:Same w0 265 #[(.agg #[(.int .i8 a),(.int .i64 lo),(.int .i8 b),(.int .i64 hi),(.int .u8 p)])] (.tuple #[(r4 ra rl rb rh),(.bool ri)])):Same w0 12 #[(fam 3 (.slice bs n cp) d p a lo b hi)] (.tuple #[(r4 ra rl rb rh),(.bool ri),(.int .i64 0)]):=
 aB (aAc (lv (lF k (.slice bs n cp) d p a lo b hi) [.int .i8 ra,.int .i64 rl,.int .i8 rb,.int .i64 rh,.bool ri])) (aO w0) hst .nil (.cons H0 (.cons H1 .nil)) (aC (by kernel_rfl)) (by kernel_rfl)
def aHn:DT:=(.leaf (.aK [yw6,qt,qz]))
theorem aCz(l:Value):aHn.ok eU l [] [(8,[bU (.v (.int .u8 1))],qz),(58,[bU (.v (.int .u8 1))],.yM 128 yw6)] hp 60 LG 15 [bU (.v (.int .u8 1))] []=true:=by kernel_rfl
theorem aNf(k:Int)(bs:Option Addr)(n cp:Nat)(d:Dt)(p a lo b hi:Int)(ua ul ub uh:Int){w0:World}(hst:SS w0) (H0:Same w0 8 #[(fam 1 (.slice bs n cp) d p a lo b hi)] (.int .i64 0))(H1:Same w0 58 #[(fam 1 (.slice bs n cp) d p a lo b hi)] (.iface 128 (r4 ua ul ub uh))):Same w0 15 #[(fam 1 (.slice bs n cp) d p a lo b hi)] (.tuple #[(r4 ua ul ub uh),(.bool true),(.int .i64 0)]):=
 aB (aCz (lv (lF k (.slice bs n cp) d p a lo b hi) [.int .i8 ua,.int .i64 ul,.int .i8 ub,.int .i64 uh])) (aO w0) hst .nil (.cons H0 (.cons H1 .nil)) (aC (by kernel_rfl)) (by kernel_rfl)
def aHv:DT:=(.leaf yw7)
theorem aCH(l:Value):aHv.ok eU l [] [(8,[bU (.v (.int .u8 2))],qz),(278,[xA],.aK [yw6,(qb 21)])] hp 60 LG 15 [bU (.v (.int .u8 2))] []=true:=by kernel_rfl
theorem aN9(k:Int)(bs:Option Addr)(n cp:Nat)(d:Dt)(p a lo b hi:Int)(ra rl rb rh:Int)(ri:Bool){w0:World}(hst:SS w0) (H0:Same w0 8 #[(fam 2 (.slice bs n cp) d p a lo b hi)] (.int .i64 0))(H1:Same w0 278 #[(aV d)] (.tuple #[(r4 ra rl rb rh),(.bool ri)])):Same w0 15 #[(fam 2 (.slice bs n cp) d p a lo b hi)] (.tuple #[(r4 ra rl rb rh),(.bool ri),(.int .i64 0)]):=
 aB (aCH (lv (lF k (.slice bs n cp) d p a lo b hi) [.int .i8 ra,.int .i64 rl,.int .i8 rb,.int .i64 rh,.bool ri])) (aO w0) hst .nil (.cons H0 (.cons H1 .nil)) (aC (by kernel_rfl)) (by kernel_rfl)
def aHq:DT:=(.leaf yw7)
theorem aCC(l:Value):aHq.ok eU l [] [(8,[bU (.v (.int .u8 3))],qz),(267,[.agg aMD],.aK [yw6,(qb 21)])] hp 60 LG 15 [bU (.v (.int .u8 3))] []=true:=by kernel_rfl
theorem aNP(k:Int)(bs:Option Addr)(n cp:Nat)(d:Dt)(p a lo b hi:Int)(ra rl rb rh:Int)(ri:Bool){w0:World}(hst:SS w0) (H0:Same w0 8 #[(fam 3 (.slice bs n cp) d p a lo b hi)] (.int .i64 0))(H1:Same w0 267 #[(.agg #[(.int .i8 a),(.int .i64 lo),(.int .i8 b),(.int .i64 hi),(.int .u8 p)])] (.tuple #[(r4 ra rl rb rh),(.bool ri)])):Same w0 15 #[(fam 3 (.slice bs n cp) d p a lo b hi)] (.tuple #[(r4 ra rl rb rh),(.bool ri),(.int .i64 0)]):=
 aB (aCC (lv (lF k (.slice bs n cp) d p a lo b hi) [.int .i8 ra,.int .i64 rl,.int .i8 rb,.int .i64 rh,.bool ri])) (aO w0) hst .nil (.cons H0 (.cons H1 .nil)) (aC (by kernel_rfl)) (by kernel_rfl)
def aHo:DT:=(.node 0 (qe 18) q8 (.node 1 (qi 19) (qi 17) (.leaf yw4) (.leaf (.aK [yw8,qt,qz]))) (.leaf yw4))
theorem aCA(l:Value):aHo.ok eU l [] [(8,[bU (.v (.int .u8 1))],qz),(58,[bU (.v (.int .u8 1))],.yM 128 yw8)] hp 60 LG 13 [bU (.v (.int .u8 1)),(qi 17)] []=true:=by kernel_rfl
theorem aNg(k:Int)(bs:Option Addr)(n cp:Nat)(d:Dt)(p a lo b hi:Int)(day ua ul ub uh:Int){w0:World}(hst:SS w0) (H0:Same w0 8 #[(fam 1 (.slice bs n cp) d p a lo b hi)] (.int .i64 0))(H1:Same w0 58 #[(fam 1 (.slice bs n cp) d p a lo b hi)] (.iface 128 (r4 ua ul ub uh))):Same w0 13 #[(fam 1 (.slice bs n cp) d p a lo b hi),(.int .i64 day)] (cond (ua==0) (cond (decide (ul<day)) (.tuple #[(r4 0 0 0 0),(.bool false),(.int .i64 0)]) (.tuple #[(r4 ua ul ub uh),(.bool true),(.int .i64 0)])) (.tuple #[(r4 0 0 0 0),(.bool false),(.int .i64 0)])):=
 aB (aCA (lv (lF k (.slice bs n cp) d p a lo b hi) [.int .i64 day,.int .i8 ua,.int .i64 ul,.int .i8 ub,.int .i64 uh])) (aO w0) hst .nil (.cons H0 (.cons H1 .nil)) (aC (by kernel_rfl)) (by kernel_rfl)
def aHw:DT:=(.leaf yw9)
theorem aCI(l:Value):aHw.ok eU l [] [(8,[bU (.v (.int .u8 2))],qz),(277,[xA,(qi 17)],.aK [yw8,(qb 22)])] hp 60 LG 13 [bU (.v (.int .u8 2)),(qi 17)] []=true:=by kernel_rfl
theorem aOa(k:Int)(bs:Option Addr)(n cp:Nat)(d:Dt)(p a lo b hi:Int)(day ra rl rb rh:Int)(ri:Bool){w0:World}(hst:SS w0) (H0:Same w0 8 #[(fam 2 (.slice bs n cp) d p a lo b hi)] (.int .i64 0))(H1:Same w0 277 #[(aV d),(.int .i64 day)] (.tuple #[(r4 ra rl rb rh),(.bool ri)])):Same w0 13 #[(fam 2 (.slice bs n cp) d p a lo b hi),(.int .i64 day)] (.tuple #[(r4 ra rl rb rh),(.bool ri),(.int .i64 0)]):=
 aB (aCI (lv (lF k (.slice bs n cp) d p a lo b hi) [.int .i64 day,.int .i8 ra,.int .i64 rl,.int .i8 rb,.int .i64 rh,.bool ri])) (aO w0) hst .nil (.cons H0 (.cons H1 .nil)) (aC (by kernel_rfl)) (by kernel_rfl)
def aHr:DT:=(.leaf yw9)
theorem aCD(l:Value):aHr.ok eU l [] [(8,[bU (.v (.int .u8 3))],qz),(266,[.agg aMD,(qi 17)],.aK [yw8,(qb 22)])] hp 60 LG 13 [bU (.v (.int .u8 3)),(qi 17)] []=true:=by kernel_rfl
theorem aNQ(k:Int)(bs:Option Addr)(n cp:Nat)(d:Dt)(p a lo b hi:Int)(day ra rl rb rh:Int)(ri:Bool){w0:World}(hst:SS w0) (H0:Same w0 8 #[(fam 3 (.slice bs n cp) d p a lo b hi)] (.int .i64 0))(H1:Same w0 266 #[(.agg #[(.int .i8 a),(.int .i64 lo),(.int .i8 b),(.int .i64 hi),(.int .u8 p)]),(.int .i64 day)] (.tuple #[(r4 ra rl rb rh),(.bool ri)])):Same w0 13 #[(fam 3 (.slice bs n cp) d p a lo b hi),(.int .i64 day)] (.tuple #[(r4 ra rl rb rh),(.bool ri),(.int .i64 0)]):=
 aB (aCD (lv (lF k (.slice bs n cp) d p a lo b hi) [.int .i64 day,.int .i8 ra,.int .i64 rl,.int .i8 rb,.int .i64 rh,.bool ri])) (aO w0) hst .nil (.cons H0 (.cons H1 .nil)) (aC (by kernel_rfl)) (by kernel_rfl)
def aHm:DT:=(.node 0 (qe 20) q8 (.node 1 (qi 17) (qi 21) (.leaf yw4) (.leaf (.aK [yw8,qt,qz]))) (.leaf yw4))
theorem aCy(l:Value):aHm.ok eU l [] [(8,[bU (.v (.int .u8 1))],qz),(58,[bU (.v (.int .u8 1))],.yM 128 yw8)] hp 60 LG 14 [bU (.v (.int .u8 1)),(qi 17)] []=true:=by kernel_rfl
theorem aNd(k:Int)(bs:Option Addr)(n cp:Nat)(d:Dt)(p a lo b hi:Int)(day ua ul ub uh:Int){w0:World}(hst:SS w0) (H0:Same w0 8 #[(fam 1 (.slice bs n cp) d p a lo b hi)] (.int .i64 0))(H1:Same w0 58 #[(fam 1 (.slice bs n cp) d p a lo b hi)] (.iface 128 (r4 ua ul ub uh))):Same w0 14 #[(fam 1 (.slice bs n cp) d p a lo b hi),(.int .i64 day)] (cond (ub==0) (cond (decide (day<uh)) (.tuple #[(r4 0 0 0 0),(.bool false),(.int .i64 0)]) (.tuple #[(r4 ua ul ub uh),(.bool true),(.int .i64 0)])) (.tuple #[(r4 0 0 0 0),(.bool false),(.int .i64 0)])):=
 aB (aCy (lv (lF k (.slice bs n cp) d p a lo b hi) [.int .i64 day,.int .i8 ua,.int .i64 ul,.int .i8 ub,.int .i64 uh])) (aO w0) hst .nil (.cons H0 (.cons H1 .nil)) (aC (by kernel_rfl)) (by kernel_rfl)
def aHu:DT:=(.leaf yw9)
theorem aCG(l:Value):aHu.ok eU l [] [(8,[bU (.v (.int .u8 2))],qz),(280,[xA,(qi 17)],.aK [yw8,(qb 22)])] hp 60 LG 14 [bU (.v (.int .u8 2)),(qi 17)] []=true:=by kernel_rfl
theorem aN8(k:Int)(bs:Option Addr)(n cp:Nat)(d:Dt)(p a lo b hi:Int)(day ra rl rb rh:Int)(ri:Bool){w0:World}(hst:SS w0) (H0:Same w0 8 #[(fam 2 (.slice bs n cp) d p a lo b hi)] (.int .i64 0))(H1:Same w0 280 #[(aV d),(.int .i64 day)] (.tuple #[(r4 ra rl rb rh),(.bool ri)])):Same w0 14 #[(fam 2 (.slice bs n cp) d p a lo b hi),(.int .i64 day)] (.tuple #[(r4 ra rl rb rh),(.bool ri),(.int .i64 0)]):=
 aB (aCG (lv (lF k (.slice bs n cp) d p a lo b hi) [.int .i64 day,.int .i8 ra,.int .i64 rl,.int .i8 rb,.int .i64 rh,.bool ri])) (aO w0) hst .nil (.cons H0 (.cons H1 .nil)) (aC (by kernel_rfl)) (by kernel_rfl)
def aHp:DT:=(.leaf yw9)
theorem aCB(l:Value):aHp.ok eU l [] [(8,[bU (.v (.int .u8 3))],qz),(268,[.agg aMD,(qi 17)],.aK [yw8,(qb 22)])] hp 60 LG 14 [bU (.v (.int .u8 3)),(qi 17)] []=true:=by kernel_rfl
theorem aNO(k:Int)(bs:Option Addr)(n cp:Nat)(d:Dt)(p a lo b hi:Int)(day ra rl rb rh:Int)(ri:Bool){w0:World}(hst:SS w0) (H0:Same w0 8 #[(fam 3 (.slice bs n cp) d p a lo b hi)] (.int .i64 0))(H1:Same w0 268 #[(.agg #[(.int .i8 a),(.int .i64 lo),(.int .i8 b),(.int .i64 hi),(.int .u8 p)]),(.int .i64 day)] (.tuple #[(r4 ra rl rb rh),(.bool ri)])):Same w0 14 #[(fam 3 (.slice bs n cp) d p a lo b hi),(.int .i64 day)] (.tuple #[(r4 ra rl rb rh),(.bool ri),(.int .i64 0)]):=
 aB (aCB (lv (lF k (.slice bs n cp) d p a lo b hi) [.int .i64 day,.int .i8 ra,.int .i64 rl,.int .i8 rb,.int .i64 rh,.bool ri])) (aO w0) hst .nil (.cons H0 (.cons H1 .nil)) (aC (by kernel_rfl)) (by kernel_rfl)
def aLR:DT:=(.node 0 (qe 0) q8 (.leaf (.aK [yw5,(qb 12)])) (.leaf (.aK [(rK q8 qz q8 qz),qf])))
theorem aF2(l:Value):aLR.ok eU l [] [(85,[(qi 1),(qu 4)],.aK [yw0,(qi 7)]),(269,[.agg G7,yw0,(qi 7)],.aK [yw5,(qb 12)])] hp 60 LG 265 [.agg G7] []=true:=by kernel_rfl
theorem aRW(a lo b hi p ul uh ue ra rl rb rh:Int)(ri:Bool){w0:World}(hst:SS w0) (H0:Same w0 85 #[(.int .i64 lo),(.int .u8 p)] (.tuple #[(r4 0 ul 0 uh),(.int .i64 ue)]))(H1:Same w0 269 #[(.agg #[(.int .i8 a),(.int .i64 lo),(.int .i8 b),(.int .i64 hi),(.int .u8 p)]),(r4 0 ul 0 uh),(.int .i64 ue)] (.tuple #[(r4 ra rl rb rh),(.bool ri)])):Same w0 265 #[(.agg #[(.int .i8 a),(.int .i64 lo),(.int .i8 b),(.int .i64 hi),(.int .u8 p)])] (cond (a==0) (.tuple #[(r4 ra rl rb rh),(.bool ri)]) (.tuple #[(r4 0 0 0 0),(.bool false)])):=
 aB (aF2 (.agg #[.int .i8 a,.int .i64 lo,.int .i8 b,.int .i64 hi,.int .u8 p,.int .i64 ul,.int .i64 uh,.int .i64 ue,.int .i8 ra,.int .i64 rl,.int .i8 rb,.int .i64 rh,.bool ri])) (aO w0) hst .nil (.cons H0 (.cons H1 .nil)) (aC (by kernel_rfl)) (by kernel_rfl)
def aO5:DT:=(.node 0 (qe 2) q8 (.leaf (.aK [yw5,(qb 12)])) (.leaf (.aK [(rK q8 qz q8 qz),qf])))
theorem aJh(l:Value):aO5.ok eU l [] [(85,[(qi 3),(qu 4)],.aK [yw0,(qi 7)]),(269,[.agg G7,yw0,(qi 7)],.aK [yw5,(qb 12)])] hp 60 LG 267 [.agg G7] []=true:=by kernel_rfl
theorem aUS(a lo b hi p ul uh ue ra rl rb rh:Int)(ri:Bool){w0:World}(hst:SS w0) (H0:Same w0 85 #[(.int .i64 hi),(.int .u8 p)] (.tuple #[(r4 0 ul 0 uh),(.int .i64 ue)]))(H1:Same w0 269 #[(.agg #[(.int .i8 a),(.int .i64 lo),(.int .i8 b),(.int .i64 hi),(.int .u8 p)]),(r4 0 ul 0 uh),(.int .i64 ue)] (.tuple #[(r4 ra rl rb rh),(.bool ri)])):Same w0 267 #[(.agg #[(.int .i8 a),(.int .i64 lo),(.int .i8 b),(.int .i64 hi),(.int .u8 p)])] (cond (b==0) (.tuple #[(r4 ra rl rb rh),(.bool ri)]) (.tuple #[(r4 0 0 0 0),(.bool false)])):=
 aB (aJh (.agg #[.int .i8 a,.int .i64 lo,.int .i8 b,.int .i64 hi,.int .u8 p,.int .i64 ul,.int .i64 uh,.int .i64 ue,.int .i8 ra,.int .i64 rl,.int .i8 rb,.int .i64 rh,.bool ri])) (aO w0) hst .nil (.cons H0 (.cons H1 .nil)) (aC (by kernel_rfl)) (by kernel_rfl)
def aO6:DT:=(.node 0 (qe 0) q8 (.node 1 (qi 1) (qi 5) (.node 0 (qi 13) qz (.node 1 (qi 11) (qi 5) (.leaf aME) (.leaf X5)) (.leaf X5)) (.leaf (.aK [yw3,(qb 10)]))) (.node 0 (qi 13) qz (.node 1 (qi 11) (qi 5) (.leaf aME) (.leaf X5)) (.leaf X5)))
theorem aJi(l:Value):aO6.ok eU l [] [(265,[.agg G7],.aK [yw3,(qb 10)]),(85,[(qi 5),(qu 4)],.aK [yw1,(qi 13)]),(269,[.agg G7,yw1,(qi 13)],.aK [aQH,(qb 18)]),(270,[yw1,(qu 4)],.aK [yw2,(qi 21)]),(269,[.agg G7,yw2,(qi 21)],.aK [aQI,(qb 26)])] hp 60 LG 266 [.agg G7,(qi 5)] []=true:=by kernel_rfl
theorem aUT(a lo b hi p day fa fl fb fh ul uh ue ra rl rb rh vl vh ve sa sl sb sh:Int)(fi ri si:Bool){w0:World}(hst:SS w0) (H0:Same w0 265 #[(.agg #[(.int .i8 a),(.int .i64 lo),(.int .i8 b),(.int .i64 hi),(.int .u8 p)])] (.tuple #[(r4 fa fl fb fh),(.bool fi)]))(H1:Same w0 85 #[(.int .i64 day),(.int .u8 p)] (.tuple #[(r4 0 ul 0 uh),(.int .i64 ue)]))(H2:Same w0 269 #[(.agg #[(.int .i8 a),(.int .i64 lo),(.int .i8 b),(.int .i64 hi),(.int .u8 p)]),(r4 0 ul 0 uh),(.int .i64 ue)] (.tuple #[(r4 ra rl rb rh),(.bool ri)]))(H3:Same w0 270 #[(r4 0 ul 0 uh),(.int .u8 p)] (.tuple #[(r4 0 vl 0 vh),(.int .i64 ve)]))(H4:Same w0 269 #[(.agg #[(.int .i8 a),(.int .i64 lo),(.int .i8 b),(.int .i64 hi),(.int .u8 p)]),(r4 0 vl 0 vh),(.int .i64 ve)] (.tuple #[(r4 sa sl sb sh),(.bool si)])):Same w0 266 #[(.agg #[(.int .i8 a),(.int .i64 lo),(.int .i8 b),(.int .i64 hi),(.int .u8 p)]),(.int .i64 day)] (cond (a==0) (cond (decide (lo<day)) (cond (ue==0) (cond (decide (ul<day)) (.tuple #[(r4 sa sl sb sh),(.bool si)]) (.tuple #[(r4 ra rl rb rh),(.bool ri)])) (.tuple #[(r4 ra rl rb rh),(.bool ri)])) (.tuple #[(r4 fa fl fb fh),(.bool fi)])) (cond (ue==0) (cond (decide (ul<day)) (.tuple #[(r4 sa sl sb sh),(.bool si)]) (.tuple #[(r4 ra rl rb rh),(.bool ri)])) (.tuple #[(r4 ra rl rb rh),(.bool ri)]))):=
 aB (aJi (.agg #[.int .i8 a,.int .i64 lo,.int .i8 b,.int .i64 hi,.int .u8 p,.int .i64 day,.int .i8 fa,.int .i64 fl,.int .i8 fb,.int .i64 fh,.bool fi,.int .i64 ul,.int .i64 uh,.int .i64 ue,.int .i8 ra,.int .i64 rl,.int .i8 rb,.int .i64 rh,.bool ri,.int .i64 vl,.int .i64 vh,.int .i64 ve,.int .i8 sa,.int .i64 sl,.int .i8 sb,.int .i64 sh,.bool si])) (aO w0) hst .nil (.cons H0 (.cons H1 (.cons H2 (.cons H3 (.cons H4 .nil))))) (aC (by kernel_rfl)) (by kernel_rfl)
def aO4:DT:=(.node 0 (qe 2) q8 (.node 1 (qi 5) (qi 3) (.node 0 (qi 13) qz (.node 1 (qi 5) (qi 12) (.leaf aME) (.leaf X5)) (.leaf X5)) (.leaf (.aK [yw3,(qb 10)]))) (.node 0 (qi 13) qz (.node 1 (qi 5) (qi 12) (.leaf aME) (.leaf X5)) (.leaf X5)))
theorem aJg(l:Value):aO4.ok eU l [] [(267,[.agg G7],.aK [yw3,(qb 10)]),(85,[(qi 5),(qu 4)],.aK [yw1,(qi 13)]),(269,[.agg G7,yw1,(qi 13)],.aK [aQH,(qb 18)]),(271,[yw1,(qu 4)],.aK [yw2,(qi 21)]),(269,[.agg G7,yw2,(qi 21)],.aK [aQI,(qb 26)])] hp 60 LG 268 [.agg G7,(qi 5)] []=true:=by kernel_rfl
theorem aUR(a lo b hi p day fa fl fb fh ul uh ue ra rl rb rh vl vh ve sa sl sb sh:Int)(fi ri si:Bool){w0:World}(hst:SS w0) (H0:Same w0 267 #[(.agg #[(.int .i8 a),(.int .i64 lo),(.int .i8 b),(.int .i64 hi),(.int .u8 p)])] (.tuple #[(r4 fa fl fb fh),(.bool fi)]))(H1:Same w0 85 #[(.int .i64 day),(.int .u8 p)] (.tuple #[(r4 0 ul 0 uh),(.int .i64 ue)]))(H2:Same w0 269 #[(.agg #[(.int .i8 a),(.int .i64 lo),(.int .i8 b),(.int .i64 hi),(.int .u8 p)]),(r4 0 ul 0 uh),(.int .i64 ue)] (.tuple #[(r4 ra rl rb rh),(.bool ri)]))(H3:Same w0 271 #[(r4 0 ul 0 uh),(.int .u8 p)] (.tuple #[(r4 0 vl 0 vh),(.int .i64 ve)]))(H4:Same w0 269 #[(.agg #[(.int .i8 a),(.int .i64 lo),(.int .i8 b),(.int .i64 hi),(.int .u8 p)]),(r4 0 vl 0 vh),(.int .i64 ve)] (.tuple #[(r4 sa sl sb sh),(.bool si)])):Same w0 268 #[(.agg #[(.int .i8 a),(.int .i64 lo),(.int .i8 b),(.int .i64 hi),(.int .u8 p)]),(.int .i64 day)] (cond (b==0) (cond (decide (day<hi)) (cond (ue==0) (cond (decide (day<uh)) (.tuple #[(r4 sa sl sb sh),(.bool si)]) (.tuple #[(r4 ra rl rb rh),(.bool ri)])) (.tuple #[(r4 ra rl rb rh),(.bool ri)])) (.tuple #[(r4 fa fl fb fh),(.bool fi)])) (cond (ue==0) (cond (decide (day<uh)) (.tuple #[(r4 sa sl sb sh),(.bool si)]) (.tuple #[(r4 ra rl rb rh),(.bool ri)])) (.tuple #[(r4 ra rl rb rh),(.bool ri)]))):=
 aB (aJg (.agg #[.int .i8 a,.int .i64 lo,.int .i8 b,.int .i64 hi,.int .u8 p,.int .i64 day,.int .i8 fa,.int .i64 fl,.int .i8 fb,.int .i64 fh,.bool fi,.int .i64 ul,.int .i64 uh,.int .i64 ue,.int .i8 ra,.int .i64 rl,.int .i8 rb,.int .i64 rh,.bool ri,.int .i64 vl,.int .i64 vh,.int .i64 ve,.int .i8 sa,.int .i64 sl,.int .i8 sb,.int .i64 sh,.bool si])) (aO w0) hst .nil (.cons H0 (.cons H1 (.cons H2 (.cons H3 (.cons H4 .nil))))) (aC (by kernel_rfl)) (by kernel_rfl)
end Sk
end
section
open Go.RowKit Go.Lib
namespace Sk
open Ev (bM DT LG eU aO hp vG kG iU mJ qF PD GL oN aU AV DW vH dS aB aC eF mD)
open Bk (Dt aV)
def yc0:AV:=.aK [(rK q8 qz q8 qz),qf]
def aDw:DT:=(.node 0 (qi 17) qz (.node 0 (qu 0) (.v (.int .u8 1)) (.node 1 (.v (.int .i64 1)) (aU 8 .i64 [(oN 1)]) (.leaf (.v (.int .i64 14))) (.node 1 (.v (.int .u8 3)) (qu 0) DT.no (.leaf qz))) (.node 1 (.v (.int .u8 3)) (qu 0) (.leaf (.v (.int .i64 1))) (.leaf qz))) (.leaf (qi 17)))
theorem Z9(l:Value):aDw.ok eU l [] [(22,[bU (qu 0)],(qi 17))] hp 60 LG 8 [bU (qu 0)] []=true:=by kernel_rfl
theorem aIk(k:Int)(bs:Option Addr)(n cp:Nat)(d:Dt)(p a lo b hi:Int)(c:Int){w0:World}(hst:SS w0) (H0:Same w0 22 #[(fam k (.slice bs n cp) d p a lo b hi)] (.int .i64 c)):Same w0 8 #[(fam k (.slice bs n cp) d p a lo b hi)] (cond (c==0) (cond (k==1) (cond (decide (1<((n:Nat):Int))) (.int .i64 14) (cond (decide (3<k)) (.bool false) (.int .i64 0))) (cond (decide (3<k)) (.int .i64 1) (.int .i64 0))) (.int .i64 c)):=
 aB (Z9 (lv (lF k (.slice bs n cp) d p a lo b hi) [.int .i64 c])) (aO w0) hst .nil (.cons H0 .nil) (eF (by kernel_rfl:_=((((c==0)=true->(((k==1)=true->(((decide (1<((n:Nat):Int)))=true->True)/\((decide (1<((n:Nat):Int)))=false->(((decide (3<k))=true->False)/\((decide (3<k))=false->True)))))/\((k==1)=false->(((decide (3<k))=true->True)/\((decide (3<k))=false->True)))))/\((c==0)=false->True)))) (⟨fun h0=>⟨fun h1=>⟨fun h2=>trivial,fun h2=>⟨fun h3=>(by simp only[aGw,aBA,aDE,aDG]at *;omega),fun h3=>trivial⟩⟩,fun h1=>⟨fun h2=>trivial,fun h2=>trivial⟩⟩,fun h0=>trivial⟩)) (by kernel_rfl)
def aDx:DT:=(.node 1 qz (qi 17) (.leaf (qi 17)) (.node 0 (qu 0) (.v (.int .u8 1)) (.node 1 (.v (.int .i64 1)) (aU 8 .i64 [(oN 1)]) (.leaf (.v (.int .i64 14))) (.node 1 (.v (.int .u8 3)) (qu 0) DT.no (.leaf qz))) (.node 1 (.v (.int .u8 3)) (qu 0) (.leaf (.v (.int .i64 1))) (.leaf qz))))
theorem aAa(l:Value):aDx.ok eU l [] [(21,[bU (qu 0)],(qi 17))] hp 60 LG 7 [bU (qu 0)] []=true:=by kernel_rfl
theorem aIp(k:Int)(bs:Option Addr)(n cp:Nat)(d:Dt)(p a lo b hi:Int)(c:Int){w0:World}(hst:SS w0) (H0:Same w0 21 #[(fam k (.slice bs n cp) d p a lo b hi)] (.int .i64 c)):Same w0 7 #[(fam k (.slice bs n cp) d p a lo b hi)] (cond (decide (0<c)) (.int .i64 c) (cond (k==1) (cond (decide (1<((n:Nat):Int))) (.int .i64 14) (cond (decide (3<k)) (.bool false) (.int .i64 0))) (cond (decide (3<k)) (.int .i64 1) (.int .i64 0)))):=
 aB (aAa (lv (lF k (.slice bs n cp) d p a lo b hi) [.int .i64 c])) (aO w0) hst .nil (.cons H0 .nil) (eF (by kernel_rfl:_=((((decide (0<c))=true->True)/\((decide (0<c))=false->(((k==1)=true->(((decide (1<((n:Nat):Int)))=true->True)/\((decide (1<((n:Nat):Int)))=false->(((decide (3<k))=true->False)/\((decide (3<k))=false->True)))))/\((k==1)=false->(((decide (3<k))=true->True)/\((decide (3<k))=false->True)))))))) (⟨fun h0=>trivial,fun h0=>⟨fun h1=>⟨fun h2=>trivial,fun h2=>⟨fun h3=>(by simp only[aGw,aBA,aDE,aDG]at *;omega),fun h3=>trivial⟩⟩,fun h1=>⟨fun h2=>trivial,fun h2=>trivial⟩⟩⟩)) (by kernel_rfl)
def aO7:DT:=(.node 3 (qb 7) (qb 7) (.node 1 qz (qi 5) (.leaf qf) (.node 1 qz (qi 6) (.leaf qf) (.leaf qt))) (.leaf qf))
theorem aJj(l:Value):aO7.ok eU l [] [(103,[rK q8 (qi 4) q8 (qi 4),(rK (qe 0) (qi 1) (qe 2) (qi 3))],(qb 7)),(78,[.agg [(qe 0),(qi 1)],.agg [q8,(qi 4)]],(qi 5)),(78,[.agg [q8,(qi 4)],.agg [(qe 2),(qi 3)]],(qi 6))] hp 60 LG 262 [(rK (qe 0) (qi 1) (qe 2) (qi 3)),(qi 4)] []=true:=by kernel_rfl
theorem aU8(ua ul ub uh day c1 c2:Int)(rt:Bool){w0:World}(hst:SS w0) (H0:Same w0 103 #[(r4 0 day 0 day),(r4 ua ul ub uh)] (.bool rt))(H1:Same w0 78 #[(ev ua ul),(ev 0 day)] (.int .i64 c1))(H2:Same w0 78 #[(ev 0 day),(ev ub uh)] (.int .i64 c2)):Same w0 262 #[(r4 ua ul ub uh),(.int .i64 day)] (cond rt (cond (decide (0<c1)) (.bool false) (cond (decide (0<c2)) (.bool false) (.bool true))) (.bool false)):=
 aB (aJj (.agg #[.int .i8 ua,.int .i64 ul,.int .i8 ub,.int .i64 uh,.int .i64 day,.int .i64 c1,.int .i64 c2,.bool rt])) (aO w0) hst .nil (.cons H0 (.cons H1 (.cons H2 .nil))) (aC (by kernel_rfl)) (by kernel_rfl)
def aS6:DT:=(.node 0 (qi 9) qz (.node 1 (qi 10) qz (.leaf yc0) (.node 1 qz (qi 11) (.leaf yc0) (.leaf (.aK [(rK (qe 5) (qi 6) (qe 7) (qi 8)),qt])))) (.leaf yc0))
theorem aNv(l:Value):aS6.ok eU l [] [(78,[.agg [(qe 5),(qi 6)],.agg [(qe 0),(qi 1)]],(qi 10)),(78,[.agg [(qe 7),(qi 8)],.agg [(qe 2),(qi 3)]],(qi 11))] hp 60 LG 269 [.agg [(qe 0),(qi 1),(qe 2),(qi 3),(qu 4)],(rK (qe 5) (qi 6) (qe 7) (qi 8)),(qi 9)] []=true:=by kernel_rfl
theorem aX5(a lo b hi p ua ul ub uh e c1 c2:Int){w0:World}(hst:SS w0) (H0:Same w0 78 #[(ev ua ul),(ev a lo)] (.int .i64 c1))(H1:Same w0 78 #[(ev ub uh),(ev b hi)] (.int .i64 c2)):Same w0 269 #[(.agg #[(.int .i8 a),(.int .i64 lo),(.int .i8 b),(.int .i64 hi),(.int .u8 p)]),(r4 ua ul ub uh),(.int .i64 e)] (cond (e==0) (cond (decide (c1<0)) (.tuple #[(r4 0 0 0 0),(.bool false)]) (cond (decide (0<c2)) (.tuple #[(r4 0 0 0 0),(.bool false)]) (.tuple #[(r4 ua ul ub uh),(.bool true)]))) (.tuple #[(r4 0 0 0 0),(.bool false)])):=
 aB (aNv (.agg #[.int .i8 a,.int .i64 lo,.int .i8 b,.int .i64 hi,.int .u8 p,.int .i8 ua,.int .i64 ul,.int .i8 ub,.int .i64 uh,.int .i64 e,.int .i64 c1,.int .i64 c2])) (aO w0) hst .nil (.cons H0 (.cons H1 .nil)) (aC (by kernel_rfl)) (by kernel_rfl)
end Sk
end
end Go.Proofs.YtacggmlngekidaaGreatDoor
