import Derived.Test.YtebgcnnhokclaaaGreatDoorP2
import Derived.Test.YtebgcnnhokclaaaGreatDoorP3
import Derived.Test.YtebgcnnhokclaaaGreatDoorP4
import Derived.Deep.CutBlock
set_option linter.unusedSimpArgs false
set_option linter.unusedVariables false
set_option maxRecDepth 1000000
set_option linter.unusedSectionVars false
set_option maxHeartbeats 8000000
namespace Go.Proofs.YtebgcnnhokclaaaGreatDoor
noncomputable section
open Go.Proofs.Tryz
abbrev aUE:=@Go.IntKind.wrap_u8
section
open Go.RowKit Go.Lib
theorem TV: ∀k:Nat,k<10->DV.extract k (k+1)=⟨#[YO k]⟩:=by decide
theorem aHm{m:Nat}(h:m<10000):DV.extract (m / 1000) (m / 1000+1)++DV.extract (m / 100 % 10) (m / 100 % 10+1)++DV.extract (m / 10 % 10) (m / 10 % 10+1)++DV.extract (m % 10) (m % 10+1)=iM m:=by
 rw[TV _ (by omega),TV _ (by omega),TV _ (by omega),TV _ (by omega)];exact FT (by simp[iM])
theorem aHn(n:Nat)(w:World)(h:n<65536):
 Calls prog 67 #[.int .u16 n] w fun r w'=>r=.returned (.string (iM (n % 10000)))/\Below w.heap.size w w':=by
 obtain⟨m,hm0⟩: ∃m,m=n % 10000:=⟨_,rfl⟩;rw[<-hm0];have HT:=aAC (aHm (m:=m) (by omega));have HM:=aAC hm0;unfold DV at HT;clear hm0;go_enter func67,ntmps67;go_upto_region 2 with(fail)
 go_cut [0] (fun s wx=>s=.int .u16 (m:Int)/\w=wx)
 case first=>
  clear HT
  go_wp2
  go_meet;exact⟨by rw[HM.out];go_num,rfl⟩
 case rest=>
 obtain⟨rfl,rfl⟩:=hcut;have hm:m<10000:=by rw[HM.out];omega
 go_wp2
 go_quiet (fail)
 go_wp2
 all_goals go_ret
 all_goals exact⟨rs HT.out,below_drewN (aDA _ _) _⟩
def U1(f:Nat)(neg:Bool)(n z0 z1 mo da k0 k1 k2:Nat):List Value:=[.int .u8 f,.bool neg,.int .u16 n,.int .u8 z0,.int .u8 z1,.int .u8 mo,.int .u8 da,.int .u8 k0,.int .u8 k1,.int .u8 k2]
theorem aDZ(f:Nat)(neg:Bool)(n z0 z1 mo da k0 k1 k2:Nat)(w:World)(h:mo<256):
 Calls prog 43 #[.agg (U1 f neg n z0 z1 mo da k0 k1 k2).toArray] w fun r w'=>r=.returned (.string (jI (mo % 40)))/\Below w.heap.size w w':=by
 have hD:Rw w.heap.size (U1 f neg n z0 z1 mo da k0 k1 k2) w _:=Rw.fresh (aDA _ _) _ 69;have HT:=aAC (fun(n:Nat) (h:n<=99) w=>CG n w h);unfold U1 at hD;unfold U1;obtain⟨m,hm0⟩: ∃m,m=mo % 40:=⟨_,rfl⟩;rw[<-hm0];have HM:=aAC hm0;clear hm0;go_enter func43,ntmps43;go_upto_region 1 with(fail);generalize World.alloc _ _=W0 at hD ⊢;have c5:=hD.cell 5 _ rfl;have hB:=hD.below
 go_cut [3] (fun s wx=>s=.int .i64 (m:Int)/\Below w.heap.size w wx)
 case first=>
  clear HT
  go_wp2
  go_meet;exact⟨by rw[HM.out];go_num,hB⟩
 case rest=>
 obtain⟨rfl,hB⟩:=hcut;clear c5 hD;have hm:m<40:=by rw[HM.out];omega
 clear HM;by_cases c0:m=0
 . subst c0;clear HT
   go_wp2
   go_ret;exact⟨rfl,hB⟩
 by_cases c1:m<=12
 . have HQ:Hid (twoS m=jI m):=aAC (by unfold jI;rw[aEg c0,aEo c1]);have HT2:=aAC (fun w=>HT.out m (by omega) w);clear HT
   go_wp2_with (go_at_call 69;with_reducible refine(HT2.out _).mono ?_;rintro _ w' ⟨rfl,hb⟩)
   go_ret;exact⟨rs HQ.out,aYR hB hb⟩
 by_cases c2:m<=33
 . have HQ:Hid (twoS (m+8)=jI m):=aAC (by unfold jI;rw[aEg c0,aEg c1,aEo c2]);have HT2:Hid (∀w,Calls prog 69 #[.int .i64 ((m:Int)+8)] w fun r w'=>r=.returned (.string (twoS (m+8)))/\Below w.heap.size w w'):=aAC (fun w=>HT.out (m+8) (by omega) w);clear HT
   go_wp2_with (go_at_call 69;with_reducible refine(HT2.out _).mono ?_;rintro _ w' ⟨rfl,hb⟩)
   go_ret;exact⟨rs HQ.out,aYR hB hb⟩
 clear HT;have:m=34\/m=35\/m=36\/m=37\/m=38\/m=39:=by omega
 rcases this with rfl|rfl|rfl|rfl|rfl|rfl
 all_goals
  go_wp2
  go_ret;exact⟨rfl,by first|exact aYR hB (ba (aDA _ _) _)|exact ba hB _⟩
def dtB(m:Nat):Bool:=((jI m).data.toList==[48,50])==decide (m=2)&&(((jI m).data.toList==[48,52])==decide (m=4)&&(((jI m).data.toList==[48,54])==decide (m=6)&&(((jI m).data.toList==[48,57])==decide (m=9)&&(((jI m).data.toList==[49,49])==decide (m=11)&&((jI m).data.toList==[88,57])==decide (m=39)))))
theorem aOp:((List.range 40).all fun m=>dtB m)=true:=by kernel_rfl
theorem aMn{m:Nat}(h:m<40){s:ByteArray}(hs:s=jI m):(s.toList==[48,50])=decide (m=2)/\(s.toList==[48,52])=decide (m=4)/\(s.toList==[48,54])=decide (m=6)/\(s.toList==[48,57])=decide (m=9)/\(s.toList==[49,49])=decide (m=11)/\(s.toList==[88,57])=decide (m=39):=by
 have:=aOp;rw[aIJ]at this;have:=this m (aMv.2 h);unfold dtB at this;rw[aUF,hs];simp only[aEb,aI3]at this;exact this
theorem aK6(f:Nat)(neg:Bool)(n z0 z1 mo da k0 k1 k2 m:Nat)(w:World)(h:da<256)(hm:m<40)(h0:m≠0)(hs:dD (jI m)=0):
 Calls prog 45 #[.agg (U1 f neg n z0 z1 mo da k0 k1 k2).toArray,.string (jI m)] w fun r w'=>r=.returned (.string (uF m (da % 40)))/\Below w.heap.size w w':=by
 have hD:Rw w.heap.size (U1 f neg n z0 z1 mo da k0 k1 k2) w _:=Rw.fresh (aDA _ _) _ 69;have HT:=aAC (fun(n:Nat) (h:n<=99) w=>CG n w h);unfold U1 at hD;unfold U1;obtain⟨k,hk0⟩: ∃k,k=da % 40:=⟨_,rfl⟩;rw[<-hk0];have HM:=aAC hk0;clear hk0;obtain⟨s,hs0⟩: ∃s,s=jI m:=⟨_,rfl⟩;rw[<-hs0];have HS:=aAC hs0;have HZ:=aAC hs;clear hs0 hs;go_enter func45,ntmps45;go_upto_region 1 with(fail);generalize World.alloc _ _=W0 at hD ⊢;have c6:=hD.cell 6 _ rfl;have hB:=hD.below
 go_cut [5] (fun s wx=>s=.int .i64 (k:Int)/\Below w.heap.size w wx)
 case first=>
  clear HT
  go_wp2
  go_meet;exact⟨by rw[HM.out];go_num,hB⟩
 case rest=>
 obtain⟨rfl,hB⟩:=hcut;clear c6 hD;have hk:k<40:=by rw[HM.out];omega
 clear HM;by_cases c0:k=0
 . subst c0;clear HT HS HZ
   go_wp2
   go_ret;exact⟨rfl,hB⟩
 by_cases c1:k<=31
 . obtain⟨M,hM0⟩: ∃M,M=aGO m:=⟨_,rfl⟩;have HMS:=aAC hM0;have hq0:twoS (min k M)=uF m k:=by unfold uF;rw[aEg c0,aEo c1,hM0]
   have hmin:min k M<=99:=by omega
   have HQ:=aAC hq0;have HT2:=aAC (fun w=>HT.out (min k M) hmin w);clear hM0 hq0 hmin HT
   go_upto_block 0 with(fail)
   go_cut [6] (fun s wx=>s=.int .i64 (M:Int)/\Below w.heap.size w wx)
   case first=>
    clear HZ HT2 HQ;obtain⟨t2,t4,t6,t9,t11,t39⟩:=aMn hm HS.out;clear HS;have hM:=HMS.out;clear HMS;unfold aGO at hM;by_cases g2:m=2
    . rw[aEo g2]at hM;rw[aDx g2]at t2;subst hM;clear t4 t6 t9 t11 t39 g2 hm h0
      go_wp2
      go_meet;exact⟨rfl,hB⟩
    rw[aEg g2]at hM;rw[aBW g2]at t2;by_cases g4:m=4\/m=6\/m=9\/m=11\/m=39
    . rw[aEo g4]at hM;subst hM;rcases g4 with rfl|rfl|rfl|rfl|rfl
      all_goals
       simp only[aWN,Nat.reduceEqDiff,aVG]at t4 t6 t9 t11 t39;clear hm h0 g2
       go_wp2
       go_meet;exact⟨rfl,hB⟩
    rw[aEg g4]at hM;subst hM;rw[aBW (by omega)]at t4 t6 t9 t11 t39;clear g4 g2 hm h0
    go_wp2
    go_meet;exact⟨rfl,hB⟩
   case rest=>
   obtain⟨rfl,hB⟩:=hcut;clear HMS HS HZ;rw[show ((min k M:Nat):Int)=min (k:Int) (M:Int)from by omega]at HT2
   go_wp2_with (go_at_call 69;with_reducible refine(HT2.out _).mono ?_;rintro _ w' ⟨rfl,hb⟩)
   go_ret;exact⟨rs HQ.out,aYR hB hb⟩
 have t2:=(aMn hm HS.out).1;clear HT HZ HS;have hkk:k=32\/k=33\/k=34\/k=35\/k=36\/k=37\/k=38\/k=39:=by omega
 by_cases g2:m=2
 . subst g2;rw[aDx rfl]at t2;rcases hkk with rfl|rfl|rfl|rfl|rfl|rfl|rfl|rfl
   all_goals
    go_wp2
    go_ret;exact⟨rfl,by first|exact aYR hB (ba (aDA _ _) _)|exact ba hB _⟩
 have HQ:Hid (daX (k - 32)=uF m k):=aAC (by unfold uF;rw[aEg c0,aEg c1,aEg (fun h=>g2 h.1)]);rw[aBW g2]at t2;rcases hkk with rfl|rfl|rfl|rfl|rfl|rfl|rfl|rfl
 all_goals
  go_wp2
  go_ret;exact⟨rs (by rw[<-HQ.out];rfl),by first|exact aYR hB (ba (aDA _ _) _)|exact ba hB _⟩
theorem aBI{s:ByteArray}(a b:Int)(h4:s.size=4): ∀i,i<=4->(xS s a b i).size=i
 |0,_=>rfl
 |i+1,h=>by
  rw[xP,ByteArray.size_append,aBI a b h4 i (by omega)];split
  . rfl
  rw[aVE];omega
theorem extract_all(s:ByteArray):s.extract 0 s.size=s:=by
 apply FT;simp
def N9:ByteArray:=⟨#[49,50,51,52,53,54,55,56,57]⟩
theorem aWQ: ∀k:Nat,k<9->N9.extract k (k+1)=⟨#[YO (k+1)]⟩:=by decide
def yl(f:Nat)(neg:Bool)(n z0 z1:Nat):List Value:=[.int .u8 f,.bool neg,.int .u16 n,.int .u8 z0,.int .u8 z1]
def jS(neg long:Bool)(s:ByteArray)(ex sig:Int):List Value:=[.bool neg,.bool long,.string s,.int .i64 ex,.int .i64 sig]
def EL(g m z0 z1:Nat):Bool × ByteArray × Int × Int:=
 if g=3 then(false,xS (iM m) ((z0:Int) % 4) ((z1:Int) % 4) 4,0,0)
 else if g=4 then(false,iM m,0,1+(z0:Int) % 4)
 else if g=5 then
  (if 0<z1 % 3 then(true,(zU m z0).extract 0 (1+z1 % 5),1+(z1:Int) / 16 % 11,(z0:Int) / 16 % (((1+z1 % 5:Nat):Int)+(1+(z1:Int) / 16 % 11)+1))
  else(true,zU m z0,0,(z0:Int) / 16 % (((5:Nat):Int)+0+1)))
 else(false,iM m,0,0)
def yX(f:Nat)(neg:Bool)(n z0 z1:Nat):Bool × Bool × ByteArray × Int × Int:=
 (neg&&zH neg (EL (f % 6) (n % 10000) z0 z1).1 (EL (f % 6) (n % 10000) z0 z1).2.1 (EL (f % 6) (n % 10000) z0 z1).2.2.1 (EL (f % 6) (n % 10000) z0 z1).2.2.2,EL (f % 6) (n % 10000) z0 z1)
theorem aPC{f n z0 z1:Nat}{dO:Bool}{g m:Nat}(hg:g=f % 6)(hm:m=n % 10000){long s ex sig}(h:(long,s,ex,sig)=EL g m z0 z1){b:Bool}(hb:zH dO long s ex sig=b):(dO&&b,long,s,ex,sig)=yX f dO n z0 z1:=by
 unfold yX;rw[<-hg,<-hm,<-h,hb]
def aXR(f:Nat)(dO:Bool)(n z0 z1:Nat)(w:World)(e:Ending)(w':World):Prop:= ∃neg long s ex sig,(neg,long,s,ex,sig)=yX f dO n z0 z1/\(f % 6≠3->hasB 88 s=false)/\ED neg long s ex sig/\e=.returned (yv neg long s ex sig)/\Below w.heap.size w w'
theorem aKv{neg:Bool}{s:ByteArray}{ex sig:Int}(h:ZM neg true s ex sig):hasB 88 s=false:=by
 have: ∀ {ng},ED ng true s ex sig->hasB 88 s=false:=fun g=>(lD (tZ (kN g.1).2.2.1)).2 (kN g.1).2.2.1;rcases h with h|⟨_,h⟩<;>exact this h
theorem aCt{n:Nat}(hn:n<10000):hasB 88 (iM n)=false:=(lD (tZ (tY hn))).2 (tY hn)
theorem aVX{m z0 z1:Nat}{a b:Int}(ha:a=(z0:Int) % 4)(hb:b=(z1:Int) % 4):(false,xS (iM m) a b 4,(0:Int),(0:Int))=EL 3 m z0 z1:=by rw[ha,hb];rfl
theorem aVW{m z0 z1 k:Nat}{S t:ByteArray}{ex:Int}(hS:S=zU m z0)(ht:(t,k,ex)=if 0<z1 % 3 then(S.extract 0 (1+z1 % 5),1+z1 % 5,1+(z1:Int) / 16 % 11)else(S,5,0)):(true,t,ex,(z0:Int) / 16 % ((k:Int)+ex+1))=EL 5 m z0 z1:=by
 subst hS;unfold EL;rw[aEg (by decide),aEg (by decide),aEo rfl];split at ht<;>(rename_i c;cases ht;first|rw[aEo c]|rw[aEg c])
theorem aVY{g m z0 z1:Nat}(h3:g≠3)(h4:g≠4)(h5:g≠5):(false,iM m,(0:Int),(0:Int))=EL g m z0 z1:=by unfold EL;rw[aEg h3,aEg h4,aEg h5]
theorem PZ:(prog.info? 27).map (·.size)=some 5:=by kernel_rfl
structure Yw(p:Nat)(f:Nat)(dO:Bool)(n z0 z1:Nat)(neg long:Bool)(s:ByteArray)(ex sig:Int)(w W:World):Prop where
 x:Rw w.heap.size (yl f dO n z0 z1) w W
 r:Rw (w.heap.size+1) (jS false false ⟨#[]⟩ 0 0) w W
 y:Rw p (jS neg long s ex sig) w W
 n:w.heap.size+1<p
theorem Yw.later{p f:Nat}{dO:Bool}{n z0 z1:Nat}{neg long:Bool}{s:ByteArray}{ex sig:Int}{w W W2:World}(h:Yw p f dO n z0 z1 neg long s ex sig w W)(hb:Below W.heap.size W W2):Yw p f dO n z0 z1 neg long s ex sig w W2:=
 ⟨h.x.later hb,h.r.later hb,h.y.later hb,h.n⟩
theorem Yw.set{p f:Nat}{dO:Bool}{n z0 z1:Nat}{neg long:Bool}{s:ByteArray}{ex sig:Int}{w W:World}(h:Yw p f dO n z0 z1 neg long s ex sig w W)(k:Nat)(hk:k<5)(v:Value)
 {neg' long':Bool} {s':ByteArray} {ex' aM5:Int} (e:(jS neg long s ex sig).set k v=jS neg' long' s' ex' aM5):Yw p f dO n z0 z1 neg' long' s' ex' aM5 w (W.setCell ⟨p,k,none⟩ v):=
 ⟨h.x.other (by have:=h.n;omega) h.y.new k v,h.r.other (by have:=h.n;omega) h.y.new k v,by have:=h.y.set k hk v;rw[e]at this;exact this,h.n⟩
theorem Yw.cells{p f:Nat}{dO:Bool}{n z0 z1:Nat}{neg long:Bool}{s:ByteArray}{ex sig:Int}{w W:World}(h:Yw p f dO n z0 z1 neg long s ex sig w W):
 W.cell? ⟨w.heap.size,0,none⟩=some (.int .u8 f)/\W.cell? ⟨w.heap.size,1,none⟩=some (.bool dO)/\W.cell? ⟨w.heap.size,2,none⟩=some (.int .u16 n)/\W.cell? ⟨w.heap.size,3,none⟩=some (.int .u8 z0)/\W.cell? ⟨w.heap.size,4,none⟩=some (.int .u8 z1)/\
 W.cell? ⟨p,0,none⟩=some (.bool neg)/\W.cell? ⟨p,1,none⟩=some (.bool long)/\W.cell? ⟨p,2,none⟩=some (.string s)/\W.cell? ⟨p,3,none⟩=some (.int .i64 ex)/\W.cell? ⟨p,4,none⟩=some (.int .i64 sig)/\
 W.frozen? ⟨p,0,none⟩=false/\W.frozen? ⟨p,1,none⟩=false/\W.frozen? ⟨p,2,none⟩=false/\W.frozen? ⟨p,3,none⟩=false/\W.frozen? ⟨p,4,none⟩=false:=
 ⟨h.x.cell 0 _ rfl,h.x.cell 1 _ rfl,h.x.cell 2 _ rfl,h.x.cell 3 _ rfl,h.x.cell 4 _ rfl,h.y.cell 0 _ rfl,h.y.cell 1 _ rfl,h.y.cell 2 _ rfl,h.y.cell 3 _ rfl,h.y.cell 4 _ rfl,
  h.y.free 0 (by unfold jS;simp),h.y.free 1 (by unfold jS;simp),h.y.free 2 (by unfold jS;simp),h.y.free 3 (by unfold jS;simp),h.y.free 4 (by unfold jS;simp)⟩
theorem aI5(f:Nat)(dO:Bool)(n z0 z1:Nat)(w:World)(hf:f<256)(hn:n<65536)(h0:z0<256)(h1:z1<256):
 Calls prog 42 #[.agg (yl f dO n z0 z1).toArray] w (aXR f dO n z0 z1 w):=by
 have hX:Rw w.heap.size (yl f dO n z0 z1) w _:=Rw.fresh (aDA _ _) _ 67;have hX2:=Rw.fresh hX.below (jS false false ⟨#[]⟩ 0 0) 27;simp only[l7]at hX2;have hA:_/\_:=⟨hX.later (ba (aDA _ _) (.cells (jS false false ⟨#[]⟩ 0 0).toArray 27)),hX2⟩;clear hX hX2;have H4:=aAC (fun w=>aHn n w hn);obtain⟨m,hm0⟩: ∃m,m=n % 10000:=⟨_,rfl⟩;have hm:m<10000:=by omega
 rw[<-hm0]at H4;have HM0:=aAC hm0;clear hm0;obtain⟨g,hg0⟩: ∃g,g=f % 6:=⟨_,rfl⟩;have HG:=aAC hg0;clear hg0;have HM:=aAC hm;clear hm;have HCK:=aAC (fun neg long s ex sig w hs s0 s1=>F9 neg long s ex sig w hs s0 s1);unfold yl jS at hA;unfold yl;go_enter func42,ntmps42;go_upto_region 1 with(fail);generalize World.alloc _ _=W0 at hA ⊢;have HD:Hid (Rw w.heap.size (yl f dO n z0 z1) w W0):=aAC hA.1;have HF:Hid (Rw (w.heap.size+1) (jS false false ⟨#[]⟩ 0 0) w W0):=aAC hA.2;clear hA
 go_cut [3] (fun s3 wx=> ∃p,s3=.pointer (some ⟨p,0,none⟩)/\Yw p f dO n z0 z1 dO false (iM m) 0 0 w wx)
 case first=>
  have c1:=HD.out.cell 1 _ rfl;have c2:=HD.out.cell 2 _ rfl;clear HCK HG HM;have HN:Hid (Rw W0.heap.size (jS false false ⟨#[]⟩ 0 0) w (W0.alloc (.cells #[.bool false,.bool false,.string ⟨#[]⟩,.int .i64 0,.int .i64 0] 27))):=aAC (Rw.fresh HD.out.below _ _);have lt0:=HD.out.lt;have HLT:=aAC HF.out.lt
  go_region_with (go_at_call 67;with_reducible refine(H4.out _).mono ?_;rintro _ w' ⟨rfl,hb⟩;first
   |(replace HD:=aAC (HD.out.later (by first|exact hb|exact aYR (aDA _ _).drew hb|exact aYR (aDA _ _).drew.drew hb|exact aYR (aDA _ _).drew.drew.drew hb));replace HF:=aAC (HF.out.later (by first|exact hb|exact aYR (aDA _ _).drew hb|exact aYR (aDA _ _).drew.drew hb|exact aYR (aDA _ _).drew.drew.drew hb));clear hb c1 c2 lt0 HN;have lt0:=HD.out.lt;have c1:=HD.out.cell 1 _ rfl;have c2:=HD.out.cell 2 _ rfl)
   | (have hb2:Below (W0.alloc (.cells #[.bool false,.bool false,.string ⟨#[]⟩,.int .i64 0,.int .i64 0] 27)).heap.size (W0.alloc (.cells #[.bool false,.bool false,.string ⟨#[]⟩,.int .i64 0,.int .i64 0] 27)) w':=(by first|exact hb|exact aYR (aDA _ _).drew hb|exact aYR (aDA _ _).drew.drew hb)
      replace HN:=aAC (HN.out.later hb2);replace HD:=aAC (HD.out.later (aYR (ba (aDA _ _) _) hb2));replace HF:=aAC (HF.out.later (aYR (ba (aDA _ _) _) hb2));clear hb hb2 c1 c2 lt0;have lt0:=HD.out.lt;have c1:=HD.out.cell 1 _ rfl;have c2:=HD.out.cell 2 _ rfl;have n0:=HN.out.cell 0 _ rfl;have n1:=HN.out.cell 1 _ rfl;have n2:=HN.out.cell 2 _ rfl;have n3:=HN.out.cell 3 _ rfl;have n4:=HN.out.cell 4 _ rfl;have f0:=HN.out.free 0 (by unfold jS;simp);have f1:=HN.out.free 1 (by unfold jS;simp);have f2:=HN.out.free 2 (by unfold jS;simp);have f3:=HN.out.free 3 (by unfold jS;simp);have f4:=HN.out.free 4 (by unfold jS;simp)))
  all_goals (go_wp2_with fail)
  all_goals go_meet
  all_goals first
   | (have e2:=HN.out.new
      have e1:=HLT.out;exact⟨_,rfl,HD.out.others (by omega) e2 (jS dO false (iM m) 0 0) 0,HF.out.others (by omega) e2 (jS dO false (iM m) 0 0) 0,HN.out.pJ (jS dO false (iM m) 0 0) rfl,e1⟩)
   |exact⟨_,rfl,HD.out.later (ba (aDA _ _) _),HF.out.later (ba (aDA _ _) _),Rw.fresh HD.out.below (jS dO false (iM m) 0 0) _,HF.out.lt⟩
 case rest=>
 obtain⟨p,rfl,hW⟩:=hcut;clear HD HF H4;obtain⟨x0,x1,x2,x3,x4,y0,y1,y2,y3,y4,z0',z1',z2',z3',ZV⟩:=hW.cells;go_upto_region 2 with(fail)
 go_cut [16] (fun s wx=>s=.int .u8 (g:Int)/\wc=wx)
 case first=>
  clear HCK HM
  go_wp2
  go_meet;exact⟨by rw[HG.out];go_num,rfl⟩
 case rest=>
 obtain⟨rfl,rfl⟩:=hcut
 go_upto_block 0 with(fail)
 go_cut [] (fun wx=> ∃long s ex sig,(long,s,ex,sig)=EL g m z0 z1/\(g≠3->hasB 88 s=false)/\ZM dO long s ex sig/\Yw p f dO n z0 z1 dO long s ex sig w wx)
 case first=>
  clear HCK;by_cases g3:g=3
  . subst g3;have HW:=aAC hW;clear hW;go_upto_region 4 with(fail)
    go_cut [4,5] (fun s4 s5 wx=> ∃a b:Int,s4=.int .i64 a/\s5=.int .i64 b/\a=(z0:Int) % 4/\b=(z1:Int) % 4/\0<=a/\a<4/\Yw p f dO n z0 z1 dO false (iM m) 0 0 w wx)
    case first=>
     clear HM
     go_region
     all_goals (go_wp2_with fail)
     all_goals go_meet
     all_goals exact⟨_,_,rfl,rfl,by omega,by omega,by omega,by omega,HW.out.later (aDA _ _).drew⟩
    case rest=>
    obtain⟨a,b,rfl,rfl,ea,eb,a0,a1,hW⟩:=hcut;clear HW x0 x1 x2 x3 x4 y0 y1 y2 y3 y4 z0' z1' z2' z3' ZV;have HM2:=aAC (⟨a0,a1⟩:_/\_);have HAB:=aAC (⟨ea,eb⟩:_/\_);clear ea eb a0 a1
    go_upto_block 1 with(fail)
    go_wp2
    go_loopw [6,7] (fun s6 s7 wr=> ∃i:Nat,i<=4/\s7=.int .i64 i/\s6=.string (xS (iM m) a b i)/\Yw p f dO n z0 z1 dO false (iM m) 0 0 w wr) (fun _ i _=>4 - (intOf i).toNat)
    case atStart=>exact⟨0,by omega,rfl,rfl,hW⟩
    case round=>
     obtain⟨i,hi,rfl,rfl,hW⟩:=hrel;by_cases hlt:i<4
     . have e4:(iM m).size=4:=rfl;have eX:(xS (iM m) a b i).size=i:=aBI a b rfl i (by omega);have HNX:=aAC (xP (iM m) a b i);obtain⟨x0,x1,x2,x3,x4,y0,y1,y2,y3,y4,z0',z1',z2',z3',ZV⟩:=hW.cells;have HW:=aAC hW;clear hW;generalize xS (iM m) a b i=X at *;by_cases ha:(i:Int)=a\/(i:Int)=b
       . rw[aEo ha]at HNX;have key:((i:Int)==a)=true\/(((i:Int)==a)=false/\((i:Int)==b)=true):=by
          by_cases c:(i:Int)=a
          . exact .inl (by rw[aI3];exact c)
          exact .inr ⟨by rw[aEB];exact c,by rw[aI3];exact ha.resolve_left c⟩
         clear ha;rcases key with t1|⟨t1,t2⟩
         all_goals
          go_wp2
          go_roundw
          case rel=>exact⟨i+1,by omega,by go_num,by rw[HNX.out],HW.out⟩
          case measure=>simp[intOf];omega
       rw[aEg ha]at HNX;have t1:((i:Int)==a)=false:=by rw[aEB];exact fun c=>ha (.inl c)
       have t2:((i:Int)==b)=false:=by rw[aEB];exact fun c=>ha (.inr c)
       clear ha
       go_wp2
       go_roundw
       case rel=>exact⟨i+1,by omega,by go_num,by rw[HNX.out],HW.out⟩
       case measure=>simp[intOf];omega
     obtain rfl:i=4:=by omega
     have HQ:=aAC (aNH HM.out dO (b:=b) HM2.out.1 HM2.out.2);obtain⟨x0,x1,x2,x3,x4,y0,y1,y2,y3,y4,z0',z1',z2',z3',ZV⟩:=hW.cells;have HW:=aAC hW;clear hW HM
     go_wp2
     go_meet;exact⟨_,_,_,_,aVX HAB.out.1 HAB.out.2,fun c=>absurd rfl c,HQ.out,HW.out.set 2 (by omega) _ rfl⟩
  by_cases g4:g=4
  . subst g4;have HW:=aAC hW;clear hW;have hm:=HM.out;have HQ:=aAC (LH hm dO (sig:=1+(z0:Int) % 4) (by omega) (by omega));have HX:=aAC (aCt hm);clear hm HM
    go_wp2
    go_meet;exact⟨_,_,_,_,(rfl:(false,iM m,(0:Int),1+(z0:Int) % 4)=EL 4 m z0 z1),fun _=>HX.out,HQ.out,HW.out.set 4 (by omega) _ rfl⟩
  by_cases g5:g=5
  . subst g5;have HW:=aAC hW;clear hW;go_upto_region 17 with(fail)
    go_cut [] (fun wx=>Yw p f dO n z0 z1 dO true (zU m z0) 0 0 w wx)
    case first=>
     have e4:(iM m).size=4:=aA7 m;have HN:Hid (N9.extract (z0 % 9) (z0 % 9+1)++iM m=zU m z0):=aAC (by rw[aWQ _ (by omega)];rfl);unfold N9 at HN;clear HM;generalize iM m=s4 at *
     go_region
     all_goals (go_wp2_with fail)
     all_goals go_meet
     all_goals
      have h1:=HW.out.set 1 (by omega) (.bool true) (neg':=dO) (long':=true) (s':=s4) (ex':=0) (aM5:=0) rfl;rw[HN.out];exact(h1.set 2 (by omega) (.string (zU m z0)) rfl).later (aDA _ _).drew
    case rest=>
    have hW:=hcut;clear HW x0 x1 x2 x3 x4 y0 y1 y2 y3 y4 z0' z1' z2' z3' ZV;obtain⟨x0,x1,x2,x3,x4,y0,y1,y2,y3,y4,z0',z1',z2',z3',ZV⟩:=hW.cells;obtain⟨S,hS⟩: ∃S,S=zU m z0:=⟨_,rfl⟩;have e5:S.size=5:=by rw[hS];rfl
    have HS:=aAC hS;have HW:=aAC hW;rw[<-hS]at HW y2;clear hW hS;obtain⟨b3,hb3⟩: ∃b,decide (0<(z1:Int) % 3)=b:=⟨_,rfl⟩
    go_upto_if 83 with(fail)
    have HB3:=aAC hb3;clear hb3
    go_cut [] (fun wx=> ∃(t:ByteArray) (k:Nat) (ex:Int),((t,k,ex)=if 0<z1 % 3 then(S.extract 0 (1+z1 % 5),1+z1 % 5,1+(z1:Int) / 16 % 11)else(S,5,0))/\t=S.extract 0 k/\t.size=k/\1<=k/\k<=5/\0<=ex/\ex<=11/\(ex=0->k=5)/\Yw p f dO n z0 z1 dO true t ex 0 w wx)
    case first=>
     clear HM;cases b3
     case true=>
      obtain⟨k,hk0⟩: ∃k,k=1+z1 % 5:=⟨_,rfl⟩;have hwr:IntKind.u8.wrap (1+(z1:Int) % 5)=(k:Int):=by rw[aUE];omega
      have k0:1<=k:=by omega
      have k1:k<=5:=by omega
      have HK0:=aAC hk0;clear hk0;have HK:=aAC (⟨k0,k1⟩:_/\_);have HT:Hid ((S.extract 0 k).size=k):=aAC (by rw[aVE];omega)
      go_wp2
      go_meet;have h1:Yw p f dO n z0 z1 dO true (S.extract 0 k) 0 0 w _:=HW.out.set 2 (by omega) (.string (S.extract 0 k)) rfl;exact⟨S.extract 0 k,k,1+(z1:Int) / 16 % 11,by have e:=HK0.out;have c:=aEF HB3.out;rw[aEo (by omega),e],rfl,HT.out,HK.out.1,HK.out.2,by omega,by omega,fun h=>by omega,h1.set 3 (by omega) _ rfl⟩
     case false=>
      have HT:Hid (S=S.extract 0 5):=aAC (by rw[<-e5];exact(extract_all S).symm)
      go_wp2
      go_meet;exact⟨S,5,0,by have c:=aIH HB3.out;rw[aEg (by omega)],HT.out,e5,by omega,by omega,by omega,by omega,fun _=>rfl,HW.out⟩
    case rest=>
    obtain⟨t,k,ex,hraw,ht,hk,k0,k1,e0,e1,hz,hW⟩:=hcut;have aXU:=aAC (aVW (m:=m) (z0:=z0) HS.out hraw);clear hraw HB3;clear HW x0 x1 x2 x3 x4 y0 y1 y2 y3 y4 z0' z1' z2' z3' ZV;obtain⟨x0,x1,x2,x3,x4,y0,y1,y2,y3,y4,z0',z1',z2',z3',ZV⟩:=hW.cells;have HW:=aAC hW;clear hW;have ht4:t.size=k:=hk;have m0:0<=(z0:Int) / 16 % ((k:Int)+ex+1):=aUh _ (by omega);have m1:(z0:Int) / 16 % ((k:Int)+ex+1)<(k:Int)+ex+1:=aUL _ (by omega);have HQ:=aAC (aDW dO (sig:=(z0:Int) / 16 % ((k:Int)+ex+1)) HM.out HS.out ht k0 k1 e0 e1 hz m0 (by omega));clear HM HS ht hz
    go_wp2
    go_meet;exact⟨_,_,_,_,aXU.out,fun _=>aKv HQ.out,HQ.out,HW.out.set 4 (by omega) _ rfl⟩
  have hm:=HM.out;have HQ:=aAC (LH hm dO (sig:=0) (by omega) (by omega));have HX:=aAC (aCt hm);have HR0:=aAC (aVY (m:=m) (z0:=z0) (z1:=z1) g3 g4 g5);have HW:=aAC hW;clear hW hm HM x0 x1 x2 x3 x4 y0 y1 y2 y3 y4 z0' z1' z2' z3' ZV
  go_wp2
  go_meet;exact⟨_,_,_,_,HR0.out,fun _=>HX.out,HQ.out,HW.out⟩
 case rest=>
 obtain⟨long,s,ex,sig,hraw,hX,hQ,hW⟩:=hcut;have HX:Hid (f % 6≠3->hasB 88 s=false):=aAC (by have e:=HG.out;intro c;exact hX (by omega));have HYX:Hid (∀b:Bool,zH dO long s ex sig=b->(dO&&b,long,s,ex,sig)=yX f dO n z0 z1):=aAC (fun b hb=>aPC HG.out HM0.out hraw hb);clear hX hraw;obtain⟨x0,x1,x2,x3,x4,y0,y1,y2,y3,y4,z0',z1',z2',z3',ZV⟩:=hW.cells;have HW:=aAC hW;clear hW;rcases hQ with hq|⟨hn,hq⟩
 . have aID:Hid (∀w,Calls prog 68 #[.agg (jS dO long s ex sig).toArray] w fun r w'=>r=.returned (.int .i64 1)/\Below w.heap.size w w'):=aAC (fun w=>by
    have:=HCK.out dO long s ex sig w (by have:=hq.2.2.2.2.2.2;omega) (by have:=hq.2.2.1;omega) (by have:=hq.2.2.2.1;omega);rw[hq.1,aEo rfl]at this;exact this)
   have HQ:=aAC hq;have HYY:Hid ((dO,long,s,ex,sig)=yX f dO n z0 z1):=aAC (by have:=HYX.out true hq.1;rwa[aTY]at this);clear HCK hq HG HM;unfold jS at aID;go_upto_region 24 with(go_at_call 68;with_reducible refine(aID.out _).mono ?_;rintro _ w' ⟨rfl,hb⟩;replace HW:=aAC (HW.out.later hb);clear hb x0 x1 x2 x3 x4 y0 y1 y2 y3 y4 z0' z1' z2' z3' ZV);obtain⟨x0,x1,x2,x3,x4,y0,y1,y2,y3,y4,z0',z1',z2',z3',ZV⟩:=HW.out.cells;have r0:=HW.out.r.cell 0 _ rfl;have r1:=HW.out.r.cell 1 _ rfl;have r2:=HW.out.r.cell 2 _ rfl;have r3:=HW.out.r.cell 3 _ rfl;have r4:=HW.out.r.cell 4 _ rfl;have s0:=HW.out.r.free 0 (by unfold jS;simp);have s1:=HW.out.r.free 1 (by unfold jS;simp);have s2:=HW.out.r.free 2 (by unfold jS;simp);have s3:=HW.out.r.free 3 (by unfold jS;simp);have s4:=HW.out.r.free 4 (by unfold jS;simp)
   go_wp2
   have hY:=HW.out.r.pJ (jS dO long s ex sig) rfl;exact aT9 (v:=yv dO long s ex sig) (mO results42 _ rfl (aRg _ _ 0 27 (jS dO long s ex sig) _ hY.range underlying27 rfl PZ)) rfl ⟨_,_,_,_,_,HYY.out,HX.out,HQ.out,rfl,hY.below⟩
 have aID:Hid (∀w,Calls prog 68 #[.agg (jS dO long s ex sig).toArray] w fun r w'=>r=.returned (.int .i64 0)/\Below w.heap.size w w'):=aAC (fun w=>by
  have:=HCK.out dO long s ex sig w (by have:=hq.2.2.2.2.2.2;omega) (by have:=hq.2.2.1;omega) (by have:=hq.2.2.2.1;omega);rw[hn,aEg (by decide)]at this;exact this)
 have HQ:=aAC hq;have HYY:Hid ((false,long,s,ex,sig)=yX f dO n z0 z1):=aAC (by have:=HYX.out false hn;rwa[aPe]at this);clear HCK hq hn HG HM;unfold jS at aID;go_upto_region 23 with(go_at_call 68;with_reducible refine(aID.out _).mono ?_;rintro _ w' ⟨rfl,hb⟩;replace HW:=aAC (HW.out.later hb);clear hb x0 x1 x2 x3 x4 y0 y1 y2 y3 y4 z0' z1' z2' z3' ZV);obtain⟨x0,x1,x2,x3,x4,y0,y1,y2,y3,y4,z0',z1',z2',z3',ZV⟩:=HW.out.cells;go_upto_region 24 with(fail);have hN:Yw p f dO n z0 z1 false long s ex sig w _:=HW.out.set 0 (by omega) (.bool false) rfl;clear HW x0 x1 x2 x3 x4 y0 y1 y2 y3 y4 z0' z1' z2' z3' ZV;generalize World.setCell _ _ _=W9 at hN ⊢;have HW:=aAC hN;clear hN;obtain⟨x0,x1,x2,x3,x4,y0,y1,y2,y3,y4,z0',z1',z2',z3',ZV⟩:=HW.out.cells;have r0:=HW.out.r.cell 0 _ rfl;have r1:=HW.out.r.cell 1 _ rfl;have r2:=HW.out.r.cell 2 _ rfl;have r3:=HW.out.r.cell 3 _ rfl;have r4:=HW.out.r.cell 4 _ rfl;have s0:=HW.out.r.free 0 (by unfold jS;simp);have s1:=HW.out.r.free 1 (by unfold jS;simp);have s2:=HW.out.r.free 2 (by unfold jS;simp);have s3:=HW.out.r.free 3 (by unfold jS;simp);have s4:=HW.out.r.free 4 (by unfold jS;simp)
 go_wp2
 have hY:=HW.out.r.pJ (jS false long s ex sig) rfl;exact aT9 (v:=yv false long s ex sig) (mO results42 _ rfl (aRg _ _ 0 27 (jS false long s ex sig) _ hY.range underlying27 rfl PZ)) rfl ⟨_,_,_,_,_,HYY.out,HX.out,HQ.out,rfl,hY.below⟩
structure aYL(m k:Nat)(d:Dt):Prop where
 y:ED d.neg d.long d.dg d.ex d.sig
 s:0<d.sig->d.mo.size=0
 hm:m<40
 hk:k<40
 mo:d.mo=jI m\/d.mo.size=0
 da:d.da.size=0\/(d.mo=jI m/\m≠0/\k≠0/\d.aH=0/\d.da=uF m k)
 ke:jR d.m0 d.m1 d.m2 (comps d.mo d.da)=0
 m0:0<=d.m0/\d.m0<=3
 m1:0<=d.m1/\d.m1<=3
 m2:0<=d.m2/\d.m2<=3
def OI(sig:Int)(m:Nat):ByteArray:=if sig=0 then jI m else⟨#[]⟩
def YR(mo:ByteArray)(m k:Nat):ByteArray:=if mo.size≠0/\dD mo=0 then uF m k else⟨#[]⟩
def dY(y:Bool × Bool × ByteArray × Int × Int)(mo da:ByteArray)(k0 k1 k2:Nat):Dt:=⟨y.1,y.2.1,y.2.2.1,y.2.2.2.1,y.2.2.2.2,mo,da,(k0:Int) % 4,if 1<comps mo da then(k1:Int) % 4 else 0,if 2<comps mo da then(k2:Int) % 4 else 0⟩
def dX(f:Nat)(neg:Bool)(n z0 z1 mo da k0 k1 k2:Nat):Dt:=dY (yX f neg n z0 z1) (OI (yX f neg n z0 z1).2.2.2.2 (mo % 40)) (YR (OI (yX f neg n z0 z1).2.2.2.2 (mo % 40)) (mo % 40) (da % 40)) k0 k1 k2
def aT1(f:Nat)(dO:Bool)(n z0 z1 mo da k0 k1 k2:Nat)(w:World)(e:Ending)(w':World):Prop:= ∃d:Dt,d=dX f dO n z0 z1 mo da k0 k1 k2/\aYL (mo % 40) (da % 40) d/\(f % 6≠3->hasB 88 d.dg=false)/\e=.returned (dP d)/\Below w.heap.size w w'
def zD:Dt:=⟨false,false,⟨#[]⟩,0,0,⟨#[]⟩,⟨#[]⟩,0,0,0⟩
structure Dw(p:Nat)(xs:List Value)(d:Dt)(w W:World):Prop where
 x:Rw w.heap.size xs w W
 r:Rw (w.heap.size+1) (iZ zD) w W
 y:Rw p (iZ d) w W
 n:w.heap.size+1<p
theorem Dw.later{p:Nat}{xs:List Value}{d:Dt}{w W W2:World}(h:Dw p xs d w W)(hb:Below W.heap.size W W2):Dw p xs d w W2:=
 ⟨h.x.later hb,h.r.later hb,h.y.later hb,h.n⟩
theorem Dw.set{p:Nat}{xs:List Value}{d:Dt}{w W:World}(h:Dw p xs d w W)(k:Nat)(hk:k<10)(v:Value){d':Dt}(e:(iZ d).set k v=iZ d'):Dw p xs d' w (W.setCell ⟨p,k,none⟩ v):=
 ⟨h.x.other (by have:=h.n;omega) h.y.new k v,h.r.other (by have:=h.n;omega) h.y.new k v,by have:=h.y.set k hk v;rw[e]at this;exact this,h.n⟩
def dOf(neg long:Bool)(s:ByteArray)(ex sig:Int)(mo da:ByteArray):Dt:=⟨neg,long,s,ex,sig,mo,da,0,0,0⟩
theorem aCE (f:Nat) (dO:Bool) (n z0 z1 mo da k0 k1 k2:Nat) (w:World) (hf:f<256) (hn:n<65536) (h0:z0<256) (h1:z1<256) (h2:mo<256) (h3:da<256) (h4:k0<256) (h5:k1<256) (h6:k2<256):
 Calls prog 23 #[.agg (U1 f dO n z0 z1 mo da k0 k1 k2).toArray] w (aT1 f dO n z0 z1 mo da k0 k1 k2 w):=by
 have hX:Rw w.heap.size (U1 f dO n z0 z1 mo da k0 k1 k2) w _:=Rw.fresh (aDA _ _) _ 69;have hX2:=Rw.fresh hX.below (iZ zD) 30;simp only[l7]at hX2;have hA:_/\_:=⟨hX.later (ba (aDA _ _) (.cells (iZ zD).toArray 30)),hX2⟩;clear hX hX2;have HY:=aAC (fun w=>aI5 f dO n z0 z1 w hf hn h0 h1);have HM:=aAC (fun w=>aDZ f dO n z0 z1 mo da k0 k1 k2 w h2);have HDY:=aAC (fun m w hm hz hs=>aK6 f dO n z0 z1 mo da k0 k1 k2 m w h3 hm hz hs);have HSE:=aAC (fun d w=>oQ d w);have HCO:=aAC (fun d w=>AL d w);have HK:=aAC (⟨h4,h5,h6⟩:_/\_/\_);obtain⟨m,hm0⟩: ∃m,m=mo % 40:=⟨_,rfl⟩;obtain⟨k,hk0⟩: ∃k,k=da % 40:=⟨_,rfl⟩;have hm:m<40:=by omega
 have hk:k<40:=by omega
 rw[<-hm0]at HM;rw[<-hk0]at HDY;have HRD:Hid (∀e w',aT1 f dO n z0 z1 mo da k0 k1 k2 w e w'↔ ∃d:Dt,d=dY (yX f dO n z0 z1) (OI (yX f dO n z0 z1).2.2.2.2 m) (YR (OI (yX f dO n z0 z1).2.2.2.2 m) m k) k0 k1 k2/\aYL m k d/\(f % 6≠3->hasB 88 d.dg=false)/\e=.returned (dP d)/\Below w.heap.size w w'):=aAC (by intro e w';rw[hm0,hk0];exact aXT);clear hm0 hk0 hf hn h0 h1 h2 h3 h4 h5 h6;unfold iZ zD at hA;unfold yl at HY;unfold U1 at hA HM HDY;unfold U1;go_enter func23,ntmps23;go_upto_region 1 with(fail);generalize World.alloc _ _=W0 at hA ⊢;have HD:Hid (Rw w.heap.size (U1 f dO n z0 z1 mo da k0 k1 k2) w W0):=aAC hA.1;have HF:Hid (Rw (w.heap.size+1) (iZ zD) w W0):=aAC hA.2;clear hA
 go_cut [3] (fun s3 wx=> ∃p neg long s ex sig,s3=.pointer (some ⟨p,0,none⟩)/\(neg,long,s,ex,sig)=yX f dO n z0 z1/\(f % 6≠3->hasB 88 s=false)/\ED neg long s ex sig/\Dw p (U1 f dO n z0 z1 mo da k0 k1 k2) (dOf neg long s ex sig ⟨#[]⟩ ⟨#[]⟩) w wx)
 case first=>
  have c0:=HD.out.cell 0 _ rfl;have c1:=HD.out.cell 1 _ rfl;have c2:=HD.out.cell 2 _ rfl;have c3:=HD.out.cell 3 _ rfl;have c4:=HD.out.cell 4 _ rfl;clear HM HDY HSE HCO
  go_wp2_with (go_at_call 42;refine(HY.out _).mono ?_;rintro _ w1 ⟨neg,long,s,ex,sig,hyx,hx,hg,rfl,hb⟩;have HYX:=aAC hyx;clear hyx;unfold yv)
  go_meet;exact⟨_,_,_,_,_,_,rfl,HYX.out,hx,hg,(HD.out.later hb).later (ba (aDA _ _) _),(HF.out.later hb).later (ba (aDA _ _) _),Rw.fresh (aYR HD.out.below hb) (iZ (dOf neg long s ex sig ⟨#[]⟩ ⟨#[]⟩)) _,(HF.out.later hb).lt⟩
 case rest=>
 obtain⟨p,neg,long,s,ex,sig,rfl,hyx,hx,hg,hW⟩:=hcut;have HX:=aAC hx;have HYX:=aAC hyx;have HG:=aAC hg;clear HD HF HY hg hx hyx;obtain⟨bs,hbs⟩: ∃b,(sig==0)=b:=⟨_,rfl⟩;have HBS:Hid ((bs=true/\sig=0)\/(bs=false/\sig≠0)):=aAC (by
  cases hb:bs
  . rw[hb]at hbs;exact .inr ⟨rfl,by simpa using hbs⟩
  rw[hb]at hbs;exact .inl ⟨rfl,by simpa using hbs⟩)
 have q4:World.cell? _ ⟨p,4,none⟩=some (.int .i64 sig):=hW.y.NG.2.2.2.2.1
 go_upto_if 12 with(fail)
 clear hbs q4
 go_cut [] (fun wx=> ∃vT:ByteArray,((sig=0/\vT=jI m)\/(sig≠0/\vT=⟨#[]⟩))/\Dw p (U1 f dO n z0 z1 mo da k0 k1 k2) (dOf neg long s ex sig vT ⟨#[]⟩) w wx)
 case first=>
  clear HDY HSE HCO;rcases HBS.out with⟨rfl,e⟩|⟨rfl,e⟩
  . have HE:=aAC e;clear e HBS;have c0:=hW.x.cell 0 _ rfl;have c1:=hW.x.cell 1 _ rfl;have c2:=hW.x.cell 2 _ rfl;have c3:=hW.x.cell 3 _ rfl;have c4:=hW.x.cell 4 _ rfl;have c5:=hW.x.cell 5 _ rfl;have c6:=hW.x.cell 6 _ rfl;have c7:=hW.x.cell 7 _ rfl;have c8:=hW.x.cell 8 _ rfl;have c9:=hW.x.cell 9 _ rfl;have HW:=aAC hW;clear hW;go_upto_region 3 with(fail)
    go_wp2_with (go_at_call 43;refine(HM.out _).mono ?_;rintro _ w2 ⟨rfl,hb⟩;replace HW:=aAC (HW.out.later hb);clear hb c0 c1 c2 c3 c4 c5 c6 c7 c8 c9;have d5:=HW.out.y.cell 5 _ rfl;have z5:=HW.out.y.free 5 (by unfold iZ;simp))
    go_meet;exact⟨_,.inl ⟨HE.out,rfl⟩,HW.out.set 5 (by omega) (.string (jI m)) rfl⟩
  go_wp2
  go_meet;exact⟨_,.inr ⟨e,rfl⟩,hW⟩
 case rest=>
 obtain⟨vT,hmo,hW⟩:=hcut;have HMO:=aAC hmo;clear HBS HM hmo;go_upto_region 4 with(fail)
 go_cut [23] (fun s23 wx=> ∃b:Bool,s23=.bool b/\(b=true↔(vT.size≠0/\dD vT=0))/\Dw p (U1 f dO n z0 z1 mo da k0 k1 k2) (dOf neg long s ex sig vT ⟨#[]⟩) w wx)
 case first=>
  clear HDY HMO HCO;have q0:World.cell? _ ⟨p,0,none⟩=some (.bool neg):=hW.y.cell 0 _ rfl;have q1:World.cell? _ ⟨p,1,none⟩=some (.bool long):=hW.y.cell 1 _ rfl;have q2:World.cell? _ ⟨p,2,none⟩=some (.string s):=hW.y.cell 2 _ rfl;have q3:World.cell? _ ⟨p,3,none⟩=some (.int .i64 ex):=hW.y.cell 3 _ rfl;have q4:World.cell? _ ⟨p,4,none⟩=some (.int .i64 sig):=hW.y.cell 4 _ rfl;have q5:World.cell? _ ⟨p,5,none⟩=some (.string vT):=hW.y.cell 5 _ rfl;have q6:World.cell? _ ⟨p,6,none⟩=some (.string ⟨#[]⟩):=hW.y.cell 6 _ rfl;have q7:World.cell? _ ⟨p,7,none⟩=some (.int .u8 0):=hW.y.cell 7 _ rfl;have q8:World.cell? _ ⟨p,8,none⟩=some (.int .u8 0):=hW.y.cell 8 _ rfl;have q9:World.cell? _ ⟨p,9,none⟩=some (.int .u8 0):=hW.y.cell 9 _ rfl;have HW:=aAC hW;clear hW;rcases lC vT with⟨e0,x0⟩|⟨e0,x0⟩
  . clear HSE
    go_wp2
    go_meet;exact⟨false,rfl,⟨fun h=>(by cases h),fun h=>absurd e0 h.1⟩,HW.out⟩
  have aO0:Hid (∀w,Calls prog 44 #[.agg #[.bool neg,.bool long,.string s,.int .i64 ex,.int .i64 sig,.string vT,.string ⟨#[]⟩,.int .u8 0,.int .u8 0,.int .u8 0]] w fun r w'=>r=.returned (.int .i64 (dD vT))/\Below w.heap.size w w'):=aAC (fun w=>HSE.out (dOf neg long s ex sig vT ⟨#[]⟩) w);have HE:=aAC e0;clear HSE e0;by_cases e:dD vT=0
  . rw[e]at aO0;have HE2:=aAC e;clear e
    go_wp2_with (go_at_call 44;refine(aO0.out _).mono ?_;rintro _ w2 ⟨rfl,hb⟩;replace HW:=aAC (HW.out.later hb);clear hb)
    go_meet;exact⟨true,rfl,⟨fun _=>⟨HE.out,HE2.out⟩,fun _=>rfl⟩,HW.out⟩
  have HE2:=aAC e;have t1:(dD vT==0)=false:=by rw[aEB];exact e
  clear e
  go_wp2_with (go_at_call 44;refine(aO0.out _).mono ?_;rintro _ w2 ⟨rfl,hb⟩;replace HW:=aAC (HW.out.later hb);clear hb)
  go_meet;exact⟨false,rfl,⟨fun h=>(by cases h),fun h=>absurd h.2 HE2.out⟩,HW.out⟩
 case rest=>
 obtain⟨b,rfl,hb,hW⟩:=hcut;have HB:=aAC hb;clear hb
 go_upto_if 23 with(fail)
 go_cut [] (fun wx=> ∃QA:ByteArray,QA=YR vT m k/\(QA.size=0\/(vT=jI m/\m≠0/\k≠0/\dD vT=0/\QA=uF m k))/\Dw p (U1 f dO n z0 z1 mo da k0 k1 k2) (dOf neg long s ex sig vT QA) w wx)
 case first=>
  clear HSE HCO;cases b
  case false=>
   go_wp2
   go_meet;exact⟨_,by unfold YR;rw[aEg (fun c=>by have:=HB.out.2 c;cases this)],.inl rfl,hW⟩
  case true=>
   obtain⟨h1,h2⟩:=HB.out.1 rfl;obtain⟨hs0,rfl⟩:sig=0/\vT=jI m:=by
    rcases HMO.out with h|⟨_,h⟩
    . exact h
    exfalso;apply h1;rw[h];rfl
   have hm0:m≠0:=fun e=>h1 (by rw[e];rfl);have aXZ:=aAC (fun w=>HDY.out m w hm hm0 h2);have HQ:Hid ((uF m k).size=0\/(m≠0/\k≠0/\dD (jI m)=0)):=aAC (by
    by_cases e:k=0
    . left;rw[e];rfl
    exact .inr ⟨hm0,e,h2⟩)
   have HDX:Hid (uF m k=YR (jI m) m k):=aAC (by unfold YR;rw[aEo ⟨h1,h2⟩]);clear HDY hm0 h1 h2 hs0 HMO HB;generalize jI m=M at *;generalize uF m k=K at *;have c0:=hW.x.cell 0 _ rfl;have c1:=hW.x.cell 1 _ rfl;have c2:=hW.x.cell 2 _ rfl;have c3:=hW.x.cell 3 _ rfl;have c4:=hW.x.cell 4 _ rfl;have c5:=hW.x.cell 5 _ rfl;have c6:=hW.x.cell 6 _ rfl;have c7:=hW.x.cell 7 _ rfl;have c8:=hW.x.cell 8 _ rfl;have c9:=hW.x.cell 9 _ rfl;have q0:World.cell? _ ⟨p,0,none⟩=some (.bool neg):=hW.y.cell 0 _ rfl;have q1:World.cell? _ ⟨p,1,none⟩=some (.bool long):=hW.y.cell 1 _ rfl;have q2:World.cell? _ ⟨p,2,none⟩=some (.string s):=hW.y.cell 2 _ rfl;have q3:World.cell? _ ⟨p,3,none⟩=some (.int .i64 ex):=hW.y.cell 3 _ rfl;have q4:World.cell? _ ⟨p,4,none⟩=some (.int .i64 sig):=hW.y.cell 4 _ rfl;have q5:World.cell? _ ⟨p,5,none⟩=some (.string M):=hW.y.cell 5 _ rfl;have q6:World.cell? _ ⟨p,6,none⟩=some (.string ⟨#[]⟩):=hW.y.cell 6 _ rfl;have q7:World.cell? _ ⟨p,7,none⟩=some (.int .u8 0):=hW.y.cell 7 _ rfl;have q8:World.cell? _ ⟨p,8,none⟩=some (.int .u8 0):=hW.y.cell 8 _ rfl;have q9:World.cell? _ ⟨p,9,none⟩=some (.int .u8 0):=hW.y.cell 9 _ rfl;have HW:=aAC hW;clear hW;go_upto_region 5 with(fail)
   go_wp2_with (go_at_call 45;refine(aXZ.out _).mono ?_;rintro _ w2 ⟨rfl,hb⟩;replace HW:=aAC (HW.out.later hb);clear hb c0 c1 c2 c3 c4 c5 c6 c7 c8 c9 q0 q1 q2 q3 q4 q5 q6 q7 q8 q9;have d5:=HW.out.y.cell 6 _ rfl;have z5:=HW.out.y.free 6 (by unfold iZ;simp))
   go_meet;exact⟨K,HDX.out,HQ.out.imp id fun h=>⟨by first|rfl|trivial,h.1,h.2.1,h.2.2,by first|rfl|trivial⟩,HW.out.set 6 (by omega) (.string K) rfl⟩
 case rest=>
 obtain⟨QA,hdx,hda,hW⟩:=hcut;have HDX:=aAC hdx;have HDA:=aAC hda;clear hda hdx HDY HSE HB;have HC2:Hid (∀(a0 a1 a2:Int) w,Calls prog 46 #[.agg #[.bool neg,.bool long,.string s,.int .i64 ex,.int .i64 sig,.string vT,.string QA,.int .u8 a0,.int .u8 a1,.int .u8 a2]] w fun r w'=>r=.returned (.int .i64 (comps vT QA))/\Below w.heap.size w w'):=aAC (fun a0 a1 a2 w=>HCO.out ⟨neg,long,s,ex,sig,vT,QA,a0,a1,a2⟩ w);clear HCO;obtain⟨N,hN⟩: ∃N:Nat,comps vT QA=N:=⟨(comps vT QA).toNat,by unfold comps;(repeat' split)<;>omega⟩;have hN1:1<=N/\N<=3:=by unfold comps at hN;(repeat' split at hN)<;>omega
 rw[hN]at HC2;have HN:=aAC hN;clear hN;obtain⟨hN1,hN3⟩:=hN1
 go_wp2
 go_loopw [4] (fun s4 wr=> ∃i:Nat,i<=N/\s4=.int .i64 i/\ ∃a0 a1 a2:Int,0<=a0/\a0<=3/\0<=a1/\a1<=3/\0<=a2/\a2<=3/\(i<=0->a0=0)/\(i<=1->a1=0)/\(i<=2->a2=0)/\(0<i->a0=(k0:Int) % 4)/\(1<i->a1=(k1:Int) % 4)/\(2<i->a2=(k2:Int) % 4)/\Dw p (U1 f dO n z0 z1 mo da k0 k1 k2) ⟨neg,long,s,ex,sig,vT,QA,a0,a1,a2⟩ w wr) (fun i _=>4 - (intOf i).toNat)
 case atStart=>exact⟨0,by omega,rfl,0,0,0,by omega,by omega,by omega,by omega,by omega,by omega,fun _=>rfl,fun _=>rfl,fun _=>rfl,fun c=>absurd c (by omega),fun c=>absurd c (by omega),fun c=>absurd c (by omega),hW⟩
 case round=>
  obtain⟨i,hi,rfl,a0,a1,a2,b0,b1,b2,b3,b4,b5,g0,g1,g2,f0,f1,f2,hW⟩:=hrel;have HA:=aAC (⟨b0,b1,b2,b3,b4,b5,g0,g1,g2,f0,f1,f2⟩:_/\_/\_/\_/\_/\_/\_/\_/\_/\_/\_/\_);clear b0 b1 b2 b3 b4 b5 g0 g1 g2 f0 f1 f2;have q0:World.cell? _ ⟨p,0,none⟩=some (.bool neg):=hW.y.cell 0 _ rfl;have q1:World.cell? _ ⟨p,1,none⟩=some (.bool long):=hW.y.cell 1 _ rfl;have q2:World.cell? _ ⟨p,2,none⟩=some (.string s):=hW.y.cell 2 _ rfl;have q3:World.cell? _ ⟨p,3,none⟩=some (.int .i64 ex):=hW.y.cell 3 _ rfl;have q4:World.cell? _ ⟨p,4,none⟩=some (.int .i64 sig):=hW.y.cell 4 _ rfl;have q5:World.cell? _ ⟨p,5,none⟩=some (.string vT):=hW.y.cell 5 _ rfl;have q6:World.cell? _ ⟨p,6,none⟩=some (.string QA):=hW.y.cell 6 _ rfl;have q7:World.cell? _ ⟨p,7,none⟩=some (.int .u8 a0):=hW.y.cell 7 _ rfl;have q8:World.cell? _ ⟨p,8,none⟩=some (.int .u8 a1):=hW.y.cell 8 _ rfl;have q9:World.cell? _ ⟨p,9,none⟩=some (.int .u8 a2):=hW.y.cell 9 _ rfl;have c0:=hW.x.cell 0 _ rfl;have c1:=hW.x.cell 1 _ rfl;have c2:=hW.x.cell 2 _ rfl;have c3:=hW.x.cell 3 _ rfl;have c4:=hW.x.cell 4 _ rfl;have c5:=hW.x.cell 5 _ rfl;have c6:=hW.x.cell 6 _ rfl;have c7:=hW.x.cell 7 _ rfl;have c8:=hW.x.cell 8 _ rfl;have c9:=hW.x.cell 9 _ rfl;have HW:=aAC hW;clear hW;by_cases hlt:i<N
  . have hi3:i=0\/i=1\/i=2:=by omega
    obtain⟨u0,u1,u2⟩:=HK.out;rcases hi3 with rfl|rfl|rfl
    . go_wp2_with (go_at_call 46;refine(HC2.out _ _ _ _).mono ?_;rintro _ w2 ⟨rfl,hb⟩;replace HW:=aAC (HW.out.later hb);clear hb c0 c1 c2 c3 c4 c5 c6 c7 c8 c9 q0 q1 q2 q3 q4 q5 q6 q7 q8 q9;have c7:=HW.out.x.cell 7 _ rfl;have c8:=HW.out.x.cell 8 _ rfl;have c9:=HW.out.x.cell 9 _ rfl;have q7:=HW.out.y.cell 7 _ rfl;have q8:=HW.out.y.cell 8 _ rfl;have q9:=HW.out.y.cell 9 _ rfl;have z7:=HW.out.y.free 7 (by unfold iZ;simp);have z8:=HW.out.y.free 8 (by unfold iZ;simp);have z9:=HW.out.y.free 9 (by unfold iZ;simp))
      go_roundw
      case rel=>
       obtain⟨b0,b1,b2,b3,b4,b5,g0,g1,g2,f0,f1,f2⟩:=HA.out;exact⟨1,by omega,rfl,(k0:Int) % 4,a1,a2,by omega,by omega,b2,b3,b4,b5,fun h=>absurd h (by omega),fun _=>g1 (by omega),fun _=>g2 (by omega),fun _=>rfl,fun h=>absurd h (by omega),fun h=>absurd h (by omega),HW.out.set 7 (by omega) _ rfl⟩
      case measure=>simp[intOf]
    . go_wp2_with (go_at_call 46;refine(HC2.out _ _ _ _).mono ?_;rintro _ w2 ⟨rfl,hb⟩;replace HW:=aAC (HW.out.later hb);clear hb c0 c1 c2 c3 c4 c5 c6 c7 c8 c9 q0 q1 q2 q3 q4 q5 q6 q7 q8 q9;have c7:=HW.out.x.cell 7 _ rfl;have c8:=HW.out.x.cell 8 _ rfl;have c9:=HW.out.x.cell 9 _ rfl;have q7:=HW.out.y.cell 7 _ rfl;have q8:=HW.out.y.cell 8 _ rfl;have q9:=HW.out.y.cell 9 _ rfl;have z7:=HW.out.y.free 7 (by unfold iZ;simp);have z8:=HW.out.y.free 8 (by unfold iZ;simp);have z9:=HW.out.y.free 9 (by unfold iZ;simp))
      go_roundw
      case rel=>
       obtain⟨b0,b1,b2,b3,b4,b5,g0,g1,g2,f0,f1,f2⟩:=HA.out;exact⟨2,by omega,rfl,a0,(k1:Int) % 4,a2,b0,b1,by omega,by omega,b4,b5,fun h=>absurd h (by omega),fun h=>absurd h (by omega),fun _=>g2 (by omega),fun _=>f0 (by omega),fun _=>rfl,fun h=>absurd h (by omega),HW.out.set 8 (by omega) _ rfl⟩
      case measure=>simp[intOf]
    go_wp2_with (go_at_call 46;refine(HC2.out _ _ _ _).mono ?_;rintro _ w2 ⟨rfl,hb⟩;replace HW:=aAC (HW.out.later hb);clear hb c0 c1 c2 c3 c4 c5 c6 c7 c8 c9 q0 q1 q2 q3 q4 q5 q6 q7 q8 q9;have c7:=HW.out.x.cell 7 _ rfl;have c8:=HW.out.x.cell 8 _ rfl;have c9:=HW.out.x.cell 9 _ rfl;have q7:=HW.out.y.cell 7 _ rfl;have q8:=HW.out.y.cell 8 _ rfl;have q9:=HW.out.y.cell 9 _ rfl;have z7:=HW.out.y.free 7 (by unfold iZ;simp);have z8:=HW.out.y.free 8 (by unfold iZ;simp);have z9:=HW.out.y.free 9 (by unfold iZ;simp))
    go_roundw
    case rel=>
     obtain⟨b0,b1,b2,b3,b4,b5,g0,g1,g2,f0,f1,f2⟩:=HA.out;exact⟨3,by omega,rfl,a0,a1,(k2:Int) % 4,b0,b1,b2,b3,by omega,by omega,fun h=>absurd h (by omega),fun h=>absurd h (by omega),fun h=>absurd h (by omega),fun _=>f0 (by omega),fun _=>f1 (by omega),fun _=>rfl,HW.out.set 9 (by omega) _ rfl⟩
    case measure=>simp[intOf]
  obtain rfl:i=N:=by omega
  have HR:Hid (∀d:Dt,d=⟨neg,long,s,ex,sig,vT,QA,a0,a1,a2⟩->d=dY (yX f dO n z0 z1) (OI (yX f dO n z0 z1).2.2.2.2 m) (YR (OI (yX f dO n z0 z1).2.2.2.2 m) m k) k0 k1 k2/\aYL m k d/\(f % 6≠3->hasB 88 d.dg=false)):=aAC (by
   rintro d rfl;obtain⟨b0,b1,b2,b3,b4,b5,g0,g1,g2,f0,f1,f2⟩:=HA.out;have hy:=HG.out;have hma:jR a0 a1 a2 (comps vT QA)=0:=by
    rw[HN.out];unfold jR;rw[aEo ⟨b1,b3,b5,fun h=>g2 (by omega),fun h=>g1 (by omega)⟩]
   have e1:(if 1<comps vT QA then(k1:Int) % 4 else 0)=a1:=by
    rw[HN.out];split
    . exact(f1 (by omega)).symm
    exact(g1 (by omega)).symm
   have e2:(if 2<comps vT QA then(k2:Int) % 4 else 0)=a2:=by
    rw[HN.out];split
    . exact(f2 (by omega)).symm
    exact(g2 (by omega)).symm
   have hmo:vT=OI sig m:=by
    unfold OI;rcases HMO.out with⟨h1,h2⟩|⟨h1,h2⟩
    . rw[aEo h1];exact h2
    rw[aEg h1];exact h2
   exact⟨by rw[<-HYX.out];show(_:Dt)=dY (neg,long,s,ex,sig) (OI sig m) (YR (OI sig m) m k) k0 k1 k2;rw[<-hmo,<-HDX.out];unfold dY;rw[e1,e2,f0 (by omega)],⟨hy,fun h=>by
    rcases HMO.out with⟨h1,_⟩|⟨_,h1⟩
    . have h:0<sig:=h;omega
    . show vT.size=0;rw[h1];rfl,hm,hk,by
    rcases HMO.out with⟨_,h1⟩|⟨_,h1⟩
    . exact .inl h1
    right;show vT.size=0;rw[h1];rfl,HDA.out,hma,⟨b0,b1⟩,⟨b2,b3⟩,⟨b4,b5⟩⟩,HX.out⟩)
  clear HA HN HMO HDA HG HDX HYX
  go_wp2_with (go_at_call 46;refine(HC2.out _ _ _ _).mono ?_;rintro _ w2 ⟨rfl,hb⟩;replace HW:=aAC (HW.out.later hb);clear hb c0 c1 c2 c3 c4 c5 c6 c7 c8 c9 q0 q1 q2 q3 q4 q5 q6 q7 q8 q9;have q0:World.cell? _ ⟨p,0,none⟩=some (.bool neg):=HW.out.y.cell 0 _ rfl;have q1:World.cell? _ ⟨p,1,none⟩=some (.bool long):=HW.out.y.cell 1 _ rfl;have q2:World.cell? _ ⟨p,2,none⟩=some (.string s):=HW.out.y.cell 2 _ rfl;have q3:World.cell? _ ⟨p,3,none⟩=some (.int .i64 ex):=HW.out.y.cell 3 _ rfl;have q4:World.cell? _ ⟨p,4,none⟩=some (.int .i64 sig):=HW.out.y.cell 4 _ rfl;have q5:World.cell? _ ⟨p,5,none⟩=some (.string vT):=HW.out.y.cell 5 _ rfl;have q6:World.cell? _ ⟨p,6,none⟩=some (.string QA):=HW.out.y.cell 6 _ rfl;have q7:World.cell? _ ⟨p,7,none⟩=some (.int .u8 a0):=HW.out.y.cell 7 _ rfl;have q8:World.cell? _ ⟨p,8,none⟩=some (.int .u8 a1):=HW.out.y.cell 8 _ rfl;have q9:World.cell? _ ⟨p,9,none⟩=some (.int .u8 a2):=HW.out.y.cell 9 _ rfl;have r0:=HW.out.r.cell 0 _ rfl;have s0:=HW.out.r.free 0 (by unfold iZ;simp);have r1:=HW.out.r.cell 1 _ rfl;have s1:=HW.out.r.free 1 (by unfold iZ;simp);have r2:=HW.out.r.cell 2 _ rfl;have s2:=HW.out.r.free 2 (by unfold iZ;simp);have r3:=HW.out.r.cell 3 _ rfl;have s3:=HW.out.r.free 3 (by unfold iZ;simp);have r4:=HW.out.r.cell 4 _ rfl;have s4:=HW.out.r.free 4 (by unfold iZ;simp);have r5:=HW.out.r.cell 5 _ rfl;have s5:=HW.out.r.free 5 (by unfold iZ;simp);have r6:=HW.out.r.cell 6 _ rfl;have s6:=HW.out.r.free 6 (by unfold iZ;simp);have r7:=HW.out.r.cell 7 _ rfl;have s7:=HW.out.r.free 7 (by unfold iZ;simp);have r8:=HW.out.r.cell 8 _ rfl;have s8:=HW.out.r.free 8 (by unfold iZ;simp);have r9:=HW.out.r.cell 9 _ rfl;have s9:=HW.out.r.free 9 (by unfold iZ;simp))
  have hY:=HW.out.r.pJ (iZ ⟨neg,long,s,ex,sig,vT,QA,a0,a1,a2⟩) rfl;have hR:=HR.out _ rfl;exact aT9 (v:=dP ⟨neg,long,s,ex,sig,vT,QA,a0,a1,a2⟩) (mO results23 _ rfl (aRg _ _ 0 30 (iZ ⟨neg,long,s,ex,sig,vT,QA,a0,a1,a2⟩) _ hY.range underlying30 rfl yK)) rfl ((HRD.out _ _).2 ⟨_,hR.1,hR.2.1,hR.2.2,rfl,hY.below⟩)
end
section
def aVz:iK:=⟨false,1,24,[(.slice none 0 0)],(.slice 71)⟩
def aVy:iK:=⟨true,5,40,[(.int .u8 (0)),(.slice none 0 0),(.int .u8 (0)),(.int .u8 (0)),(.int .u8 (0))],(.struct [(0,1,false),(1,1,false),(2,2,true),(4,1,false)])⟩
def aVs:iK:=⟨true,5,6,[(.int .u8 (0)),(.bool false),(.int .u16 (0)),(.int .u8 (0)),(.int .u8 (0))],(.struct [(0,1,false),(1,1,false),(2,1,false),(3,2,true)])⟩
def aVr:iK:=⟨true,10,12,[(.int .u8 (0)),(.bool false),(.int .u16 (0)),(.int .u8 (0)),(.int .u8 (0)),(.int .u8 (0)),(.int .u8 (0)),(.int .u8 (0)),(.int .u8 (0)),(.int .u8 (0))],(.struct [(0,5,true),(5,1,false),(6,1,false),(7,3,true)])⟩
def aVq:iK:=⟨true,21,26,[(.int .u8 (0)),(.bool false),(.int .u16 (0)),(.int .u8 (0)),(.int .u8 (0)),(.int .u8 (0)),(.int .u8 (0)),(.int .u8 (0)),(.int .u8 (0)),(.int .u8 (0)),(.int .u8 (0)),(.int .u8 (0)),(.bool false),(.int .u16 (0)),(.int .u8 (0)),(.int .u8 (0)),(.int .u8 (0)),(.int .u8 (0)),(.int .u8 (0)),(.int .u8 (0)),(.int .u8 (0))],(.struct [(0,10,true),(10,1,false),(11,10,true)])⟩
def aVp:iK:=⟨true,11,14,[(.int .u8 (0)),(.int .u8 (0)),(.bool false),(.int .u16 (0)),(.int .u8 (0)),(.int .u8 (0)),(.int .u8 (0)),(.int .u8 (0)),(.int .u8 (0)),(.int .u8 (0)),(.int .u8 (0))],(.struct [(0,1,false),(1,10,true)])⟩
def N7:Tr iK:=(gJ (gJ (bP ty3 (gJ (gJ .nil (gJ (bZ aP6) .nil)) (bP aQN (gJ (bZ aVq) .nil) .nil)) (gJ (gJ (bP aQe (bZ aVs) .nil) .nil) (bZ aQF))) (bP ty5 (bP ty9 (gJ (bZ aQl) .nil) (bZ aVy)) (gJ (gJ (gJ (bZ aVr) .nil) .nil) .nil))) (bP ty2 (bP ty4 (gJ (gJ (bZ aQp) .nil) .nil) (gJ .nil (bZ aQC))) (gJ (gJ .nil (gJ (gJ (bZ aVp) .nil) .nil)) (gJ (bZ aVz) (bZ aQu)))))
theorem aQy:(N7.lst 0 1).map (fun e=>(prog.info? e.1).map fun j=>(j.size,j.bytes,j.zero))=(N7.lst 0 1).map fun e=>some (e.2.size,e.2.bytes,some (zeroOf e.2)):=by kernel_rfl
theorem aQx:(N7.lst 0 1).map (fun e=>(prog.underlying e.1).map fun d=>(L9 d,kindOf prog d))=(N7.lst 0 1).map fun e=>some (e.2.agg,e.2.k):=by kernel_rfl
theorem aQw:(N7.lst 0 1).map (fun e=>(zeroOf e.2).cells.toList)=(N7.lst 0 1).map fun e=>e.2.zero:=by kernel_rfl
theorem aQv:(N7.lst 0 1).map (fun e=>e.2.zero.length)=(N7.lst 0 1).map fun e=>e.2.size:=by kernel_rfl
theorem aJe:N7.zC (fun k i=>nG prog k i) 0 1:=Tr.NU fun e he=>⟨kP aQy e he,kP aQx e he,kP aQw e he,kP aQv e he⟩
def tb2:Tab:={ BJ with ty:=N7 }
theorem aMY(w:World):jY tb2 w:=aE6 aJe aHx Tryz.pinned.checked.mixed (fun _ _ _ h=>by cases h) ⟨fun _ _ _ _ h=>(by cases h),fun _ _ _ _ h=>(by cases h)⟩ aHc aGS (aCi aCh)
def tb3:Tab:={ tb2 with l:=12 }
theorem EO(w:World):jY tb3 w:=let t:=aMY w;⟨t.ty,t.fn,t.orc,⟨fun _ _ _ _ h=>(by cases h),fun _ _ _ _ h=>(by cases h)⟩,t.mixed,t.idn,t.mnz,t.met⟩
theorem ss3(w:World):lI tb3.g.n tb3.l w .nil:=aAg (P:=prog) (L:=[]) (fs:=[]) (bs:=[]) ⟨[],by constructor,List.nodup_nil,fun _ _ h=>by cases h⟩ G8.nil rfl rfl
end
section
open Go.RowKit Go.Lib
def yo0:AV:=bH 5 .u8 [(qu 0),(.v (.int .u8 6))]
def yo1:AV:=bH 5 .u8 [(qu 5),(.v (.int .u8 40))]
def yo2:AV:=bH 2 .u8 [yo1,(.v (.int .u8 33))]
def yo3:AV:=bH 5 .u8 [(qu 6),(.v (.int .u8 40))]
def yo4:AV:=bH 4 .u8 [yo3,(.v (.int .u8 2))]
def yo5:List AV:=[(qb 0),(qb 1),(qs 2),(qi 3),(qi 4),(qs 5),(qs 6),(qu 7),(qu 8),(qu 9)]
def yo6:List AV:=[(qu 0),(qb 1),(mD 2),(qu 3),(qu 4),(qu 5),(qu 6),(qu 7),(qu 8),(qu 9)]
def yo7:List AV:=[(qb 10),(qb 11),(qs 12),(qi 13),qz,(qs 15),(qs 16),(qu 17),(qu 18),(qu 19)]
def yo8:List AV:=[(qb 20),(qb 21),(qs 22),(qi 23),qz,(qs 25),(qs 26),(qu 27),(qu 28),(qu 29)]
def yo9:List AV:=[(qb 30),(qb 31),(qs 32),(qi 33),qz,(qs 35),(qs 36),(qu 37),(qu 38),(qu 39)]
def aPV:List AV:=[(qb 40),(qb 41),(qs 42),(qi 43),qz,(qs 45),(qs 46),(qu 47),(qu 48),(qu 49)]
def aEN:List AV:=[(qb 10),(qb 11),(qs 12),(qi 13),(qi 14),(qs 15),(qs 16),(qu 17),(qu 18),(qu 19)]
def aEM:List AV:=[(qb 20),(qb 21),(qs 22),(qi 23),(qi 24),(qs 25),(qs 26),(qu 27),(qu 28),(qu 29)]
def aME:List AV:=[(qb 30),(qb 31),(qs 32),(qi 33),(qi 34),(qs 35),(qs 36),(qu 37),(qu 38),(qu 39)]
def aMD:List AV:=[(qb 40),(qb 41),(qs 42),(qi 43),(qi 44),(qs 45),(qs 46),(qu 47),(qu 48),(qu 49)]
def aPU:List AV:=[(qb 50),(qb 51),(qs 52),(qi 53),(qi 54),(qs 55),(qs 56),(qu 57),(qu 58),(qu 59)]
def aPT:List AV:=[(qb 60),(qb 61),(qs 62),(qi 63),(qi 64),(qs 65),(qs 66),(qu 67),(qu 68),(qu 69)]
def aPS:List AV:=[(qb 70),(qb 71),(qs 72),(qi 73),(qi 74),(qs 75),(qs 76),(qu 77),(qu 78),(qu 79)]
def aPR:List AV:=[(qb 80),(qb 81),(qs 82),(qi 83),(qi 84),(qs 85),(qs 86),(qu 87),(qu 88),(qu 89)]
def aI2:List AV:=[(qb 42),(qb 43),(qs 44),(qi 45),(qi 46),(qs 47),(qs 48),(qu 49),(qu 50),(qu 51)]
def aI1:List AV:=[(qb 52),(qb 53),(qs 54),(qi 55),(qi 56),(qs 57),(qs 58),(qu 59),(qu 60),(qu 61)]
def aPQ:List AV:=[(qb 62),(qb 63),(qs 64),(qi 65),(qi 66),(qs 67),(qs 68),(qu 69),(qu 70),(qu 71)]
def aPP:List AV:=[(qb 72),(qb 73),(qs 74),(qi 75),(qi 76),(qs 77),(qs 78),(qu 79),(qu 80),(qu 81)]
def aPO:List AV:=[(qb 82),(qb 83),(qs 84),(qi 85),(qi 86),(qs 87),(qs 88),(qu 89),(qu 90),(qu 91)]
def aPN:List AV:=[(qb 92),(qb 93),(qs 94),(qi 95),(qi 96),(qs 97),(qs 98),(qu 99),(qu 100),(qu 101)]
def aIx:DT:=(.node 0 yo0 (.v (.int .u8 3)) (.node 1 (.v (.int .u8 33)) yo1 (.node 1 (.v (.int .u8 31)) yo3 (.node 1 qz (qi 14) (.leaf (.agg yo7)) (.leaf (.agg aEN))) (.node 1 qz (qi 24) (.leaf (.agg yo8)) (.leaf (.agg aEM)))) (.node 1 (.v (.int .u8 31)) yo3 (.node 1 qz (qi 34) (.leaf (.agg yo9)) (.leaf (.agg aME))) (.node 1 qz (qi 44) (.leaf (.agg aPV)) (.leaf (.agg aMD))))) (.node 0 yo0 (.v (.int .u8 4)) (.node 1 (.v (.int .u8 33)) yo1 (.node 1 (.v (.int .u8 31)) yo3 (.node 1 qz (qi 14) (.leaf (.agg yo7)) (.leaf (.agg aEN))) (.node 1 qz (qi 24) (.leaf (.agg yo8)) (.leaf (.agg aEM)))) (.node 1 (.v (.int .u8 31)) yo3 (.node 1 qz (qi 34) (.leaf (.agg yo9)) (.leaf (.agg aME))) (.node 1 qz (qi 44) (.leaf (.agg aPV)) (.leaf (.agg aMD))))) (.node 1 (.v (.int .u8 33)) yo1 (.node 1 (.v (.int .u8 31)) yo3 (.node 1 qz (qi 54) (.leaf (.agg [(qb 50),(qb 51),(qs 52),(qi 53),qz,(qs 55),(qs 56),(qu 57),(qu 58),(qu 59)])) (.leaf (.agg aPU))) (.node 1 qz (qi 64) (.leaf (.agg [(qb 60),(qb 61),(qs 62),(qi 63),qz,(qs 65),(qs 66),(qu 67),(qu 68),(qu 69)])) (.leaf (.agg aPT)))) (.node 1 (.v (.int .u8 31)) yo3 (.node 1 qz (qi 74) (.leaf (.agg [(qb 70),(qb 71),(qs 72),(qi 73),qz,(qs 75),(qs 76),(qu 77),(qu 78),(qu 79)])) (.leaf (.agg aPS))) (.node 1 qz (qi 84) (.leaf (.agg [(qb 80),(qb 81),(qs 82),(qi 83),qz,(qs 85),(qs 86),(qu 87),(qu 88),(qu 89)])) (.leaf (.agg aPR)))))))
theorem aDR(l:Value):aIx.ok tb3 l [] [(23,[.agg [(.v (.int .u8 0)),(qb 1),(mD 2),(qu 3),(qu 4),yo2,yo4,(qu 7),(qu 8),(qu 9)]],.agg aEN),(23,[.agg [(.v (.int .u8 0)),(qb 1),(mD 2),(qu 3),(qu 4),yo2,(qu 6),(qu 7),(qu 8),(qu 9)]],.agg aEM),(23,[.agg [(.v (.int .u8 0)),(qb 1),(mD 2),(qu 3),(qu 4),(qu 5),yo4,(qu 7),(qu 8),(qu 9)]],.agg aME),(23,[.agg [(.v (.int .u8 0)),(qb 1),(mD 2),(qu 3),(qu 4),(qu 5),(qu 6),(qu 7),(qu 8),(qu 9)]],.agg aMD),(23,[.agg [(qu 0),(qb 1),(mD 2),(qu 3),(qu 4),yo2,yo4,(qu 7),(qu 8),(qu 9)]],.agg aPU),(23,[.agg [(qu 0),(qb 1),(mD 2),(qu 3),(qu 4),yo2,(qu 6),(qu 7),(qu 8),(qu 9)]],.agg aPT),(23,[.agg [(qu 0),(qb 1),(mD 2),(qu 3),(qu 4),(qu 5),yo4,(qu 7),(qu 8),(qu 9)]],.agg aPS),(23,[.agg yo6],.agg aPR)] .nil 60 LG 26 [.agg yo6] []=true:=by kernel_rfl
theorem aND(a b c d e g h i:Dt)(f:Int)(ng:Bool)(n:Int)(z0:Int)(z1:Int)(mo:Int)(da:Int)(k0:Int)(k1:Int)(k2:Int)(w0:World) (H0:Same w0 23 #[(.agg #[(.int .u8 0),(.bool ng),(.int .u16 n),(.int .u8 z0),(.int .u8 z1),(.int .u8 (IntKind.u8.wrap ((Int.tmod mo 40) - 33))),(.int .u8 (IntKind.u8.wrap (Int.tdiv (Int.tmod da 40) 2))),(.int .u8 k0),(.int .u8 k1),(.int .u8 k2)])] (dV a))(H1:Same w0 23 #[(.agg #[(.int .u8 0),(.bool ng),(.int .u16 n),(.int .u8 z0),(.int .u8 z1),(.int .u8 (IntKind.u8.wrap ((Int.tmod mo 40) - 33))),(.int .u8 da),(.int .u8 k0),(.int .u8 k1),(.int .u8 k2)])] (dV b))(H2:Same w0 23 #[(.agg #[(.int .u8 0),(.bool ng),(.int .u16 n),(.int .u8 z0),(.int .u8 z1),(.int .u8 mo),(.int .u8 (IntKind.u8.wrap (Int.tdiv (Int.tmod da 40) 2))),(.int .u8 k0),(.int .u8 k1),(.int .u8 k2)])] (dV c))(H3:Same w0 23 #[(.agg #[(.int .u8 0),(.bool ng),(.int .u16 n),(.int .u8 z0),(.int .u8 z1),(.int .u8 mo),(.int .u8 da),(.int .u8 k0),(.int .u8 k1),(.int .u8 k2)])] (dP d))(H4:Same w0 23 #[(.agg #[(.int .u8 f),(.bool ng),(.int .u16 n),(.int .u8 z0),(.int .u8 z1),(.int .u8 (IntKind.u8.wrap ((Int.tmod mo 40) - 33))),(.int .u8 (IntKind.u8.wrap (Int.tdiv (Int.tmod da 40) 2))),(.int .u8 k0),(.int .u8 k1),(.int .u8 k2)])] (dV e))(H5:Same w0 23 #[(.agg #[(.int .u8 f),(.bool ng),(.int .u16 n),(.int .u8 z0),(.int .u8 z1),(.int .u8 (IntKind.u8.wrap ((Int.tmod mo 40) - 33))),(.int .u8 da),(.int .u8 k0),(.int .u8 k1),(.int .u8 k2)])] (dV g))(H6:Same w0 23 #[(.agg #[(.int .u8 f),(.bool ng),(.int .u16 n),(.int .u8 z0),(.int .u8 z1),(.int .u8 mo),(.int .u8 (IntKind.u8.wrap (Int.tdiv (Int.tmod da 40) 2))),(.int .u8 k0),(.int .u8 k1),(.int .u8 k2)])] (dV h))(H7:Same w0 23 #[(.agg #[(.int .u8 f),(.bool ng),(.int .u16 n),(.int .u8 z0),(.int .u8 z1),(.int .u8 mo),(.int .u8 da),(.int .u8 k0),(.int .u8 k1),(.int .u8 k2)])] (dV i)):Same w0 26 #[(.agg #[(.int .u8 f),(.bool ng),(.int .u16 n),(.int .u8 z0),(.int .u8 z1),(.int .u8 mo),(.int .u8 da),(.int .u8 k0),(.int .u8 k1),(.int .u8 k2)])] (cond ((Int.tmod f 6)==3) (cond (decide (33<(Int.tmod mo 40))) (cond (decide (31<(Int.tmod da 40))) (cond (decide (0<a.sig)) (.agg #[(.bool a.neg),(.bool a.long),(.string a.dg),(.int .i64 a.ex),(.int .i64 0),(.string a.mo),(.string a.da),(.int .u8 a.m0),(.int .u8 a.m1),(.int .u8 a.m2)]) (dV a)) (cond (decide (0<b.sig)) (.agg #[(.bool b.neg),(.bool b.long),(.string b.dg),(.int .i64 b.ex),(.int .i64 0),(.string b.mo),(.string b.da),(.int .u8 b.m0),(.int .u8 b.m1),(.int .u8 b.m2)]) (dV b))) (cond (decide (31<(Int.tmod da 40))) (cond (decide (0<c.sig)) (.agg #[(.bool c.neg),(.bool c.long),(.string c.dg),(.int .i64 c.ex),(.int .i64 0),(.string c.mo),(.string c.da),(.int .u8 c.m0),(.int .u8 c.m1),(.int .u8 c.m2)]) (dV c)) (cond (decide (0<d.sig)) (.agg #[(.bool d.neg),(.bool d.long),(.string d.dg),(.int .i64 d.ex),(.int .i64 0),(.string d.mo),(.string d.da),(.int .u8 d.m0),(.int .u8 d.m1),(.int .u8 d.m2)]) (dP d)))) (cond ((Int.tmod f 6)==4) (cond (decide (33<(Int.tmod mo 40))) (cond (decide (31<(Int.tmod da 40))) (cond (decide (0<a.sig)) (.agg #[(.bool a.neg),(.bool a.long),(.string a.dg),(.int .i64 a.ex),(.int .i64 0),(.string a.mo),(.string a.da),(.int .u8 a.m0),(.int .u8 a.m1),(.int .u8 a.m2)]) (dV a)) (cond (decide (0<b.sig)) (.agg #[(.bool b.neg),(.bool b.long),(.string b.dg),(.int .i64 b.ex),(.int .i64 0),(.string b.mo),(.string b.da),(.int .u8 b.m0),(.int .u8 b.m1),(.int .u8 b.m2)]) (dV b))) (cond (decide (31<(Int.tmod da 40))) (cond (decide (0<c.sig)) (.agg #[(.bool c.neg),(.bool c.long),(.string c.dg),(.int .i64 c.ex),(.int .i64 0),(.string c.mo),(.string c.da),(.int .u8 c.m0),(.int .u8 c.m1),(.int .u8 c.m2)]) (dV c)) (cond (decide (0<d.sig)) (.agg #[(.bool d.neg),(.bool d.long),(.string d.dg),(.int .i64 d.ex),(.int .i64 0),(.string d.mo),(.string d.da),(.int .u8 d.m0),(.int .u8 d.m1),(.int .u8 d.m2)]) (dP d)))) (cond (decide (33<(Int.tmod mo 40))) (cond (decide (31<(Int.tmod da 40))) (cond (decide (0<e.sig)) (.agg #[(.bool e.neg),(.bool e.long),(.string e.dg),(.int .i64 e.ex),(.int .i64 0),(.string e.mo),(.string e.da),(.int .u8 e.m0),(.int .u8 e.m1),(.int .u8 e.m2)]) (dV e)) (cond (decide (0<g.sig)) (.agg #[(.bool g.neg),(.bool g.long),(.string g.dg),(.int .i64 g.ex),(.int .i64 0),(.string g.mo),(.string g.da),(.int .u8 g.m0),(.int .u8 g.m1),(.int .u8 g.m2)]) (dV g))) (cond (decide (31<(Int.tmod da 40))) (cond (decide (0<h.sig)) (.agg #[(.bool h.neg),(.bool h.long),(.string h.dg),(.int .i64 h.ex),(.int .i64 0),(.string h.mo),(.string h.da),(.int .u8 h.m0),(.int .u8 h.m1),(.int .u8 h.m2)]) (dV h)) (cond (decide (0<i.sig)) (.agg #[(.bool i.neg),(.bool i.long),(.string i.dg),(.int .i64 i.ex),(.int .i64 0),(.string i.mo),(.string i.da),(.int .u8 i.m0),(.int .u8 i.m1),(.int .u8 i.m2)]) (dV i)))))):=
 eU (aDR (lv [.int .u8 f,.bool ng,.int .u16 n,.int .u8 z0,.int .u8 z1,.int .u8 mo,.int .u8 da,.int .u8 k0,.int .u8 k1,.int .u8 k2] (List.append (dL a) (List.append (dL b) (List.append (dL c) (List.append (dL d) (List.append (dL e) (List.append (dL g) (List.append (dL h) (dL i)))))))))) (EO w0) (ss3 w0) .nil (.cons H0 (.cons H1 (.cons H2 (.cons H3 (.cons H4 (.cons H5 (.cons H6 (.cons H7 .nil)))))))) (kL (by kernel_rfl)) (by kernel_rfl)
def aIw:DT:=(.node 1 (.v (.int .u8 12)) yo1 (.leaf (.agg aEN)) (.leaf (.agg aEM)))
theorem aDQ(l:Value):aIw.ok tb3 l [] [(26,[.agg [(qu 0),(qb 1),(mD 2),(qu 3),(qu 4),(bH 1 .u8 [(bH 5 .u8 [yo1,(.v (.int .u8 12))]),(.v (.int .u8 1))]),(qu 6),(qu 7),(qu 8),(qu 9)]],.agg aEN),(26,[.agg yo6],.agg aEM)] .nil 60 LG 28 [.agg yo6] []=true:=by kernel_rfl
theorem aNB(a b:Dt)(f:Int)(ng:Bool)(n:Int)(z0:Int)(z1:Int)(mo:Int)(da:Int)(k0:Int)(k1:Int)(k2:Int)(w0:World) (H0:Same w0 26 #[(.agg #[(.int .u8 f),(.bool ng),(.int .u16 n),(.int .u8 z0),(.int .u8 z1),(.int .u8 (IntKind.u8.wrap ((Int.tmod (Int.tmod mo 40) 12)+1))),(.int .u8 da),(.int .u8 k0),(.int .u8 k1),(.int .u8 k2)])] (dV a))(H1:Same w0 26 #[(.agg #[(.int .u8 f),(.bool ng),(.int .u16 n),(.int .u8 z0),(.int .u8 z1),(.int .u8 mo),(.int .u8 da),(.int .u8 k0),(.int .u8 k1),(.int .u8 k2)])] (dV b)):Same w0 28 #[(.agg #[(.int .u8 f),(.bool ng),(.int .u16 n),(.int .u8 z0),(.int .u8 z1),(.int .u8 mo),(.int .u8 da),(.int .u8 k0),(.int .u8 k1),(.int .u8 k2)])] (cond (decide (12<(Int.tmod mo 40))) (dV a) (dV b)):=
 eU (aDQ (lv [.int .u8 f,.bool ng,.int .u16 n,.int .u8 z0,.int .u8 z1,.int .u8 mo,.int .u8 da,.int .u8 k0,.int .u8 k1,.int .u8 k2] (List.append (dL a) (dL b)))) (EO w0) (ss3 w0) .nil (.cons H0 (.cons H1 .nil)) (kL (by kernel_rfl)) (by kernel_rfl)
def aOU:DT:=(.node 1 (qi 10) (.v (.int .i64 3)) (.node 1 (qi 10) (.v (.int .i64 2)) (.leaf (.agg [(qb 0),(qb 1),(qs 2),(qi 3),(qi 4),(.v (.string ⟨#[]⟩)),(.v (.string ⟨#[]⟩)),(qu 7),(.v (.int .u8 0)),(.v (.int .u8 0))])) (.leaf (.agg [(qb 0),(qb 1),(qs 2),(qi 3),(qi 4),(qs 5),(.v (.string ⟨#[]⟩)),(qu 7),(qu 8),(.v (.int .u8 0))]))) (.node 1 (qi 10) (.v (.int .i64 2)) DT.no (.leaf (.agg yo5))))
theorem aJ2(l:Value):aOU.ok tb3 l [] [] .nil 60 LG 49 [.agg yo5,(qi 10)] []=true:=by kernel_rfl
theorem aWe(d:Dt)(n:Int)(w0:World)  :Same w0 49 #[(dP d),(.int .i64 n)] (cond (decide (n<3)) (cond (decide (n<2)) (.agg #[(.bool d.neg),(.bool d.long),(.string d.dg),(.int .i64 d.ex),(.int .i64 d.sig),(.string ⟨#[]⟩),(.string ⟨#[]⟩),(.int .u8 d.m0),(.int .u8 0),(.int .u8 0)]) (.agg #[(.bool d.neg),(.bool d.long),(.string d.dg),(.int .i64 d.ex),(.int .i64 d.sig),(.string d.mo),(.string ⟨#[]⟩),(.int .u8 d.m0),(.int .u8 d.m1),(.int .u8 0)])) (cond (decide (n<2)) (.bool false) (dP d))):=
 eU (aJ2 (lv (dL d) [.int .i64 n])) (EO w0) (ss3 w0) .nil .nil (iD (by kernel_rfl:_=((((decide (n<3))=true->(((decide (n<2))=true->True)/\((decide (n<2))=false->True)))/\((decide (n<3))=false->(((decide (n<2))=true->False)/\((decide (n<2))=false->True)))))) (⟨fun h0=>⟨fun h1=>trivial,fun h1=>trivial⟩,fun h0=>⟨fun h1=>(by simp only[aI3,aEB,aEZ,aFe]at *;omega),fun h1=>trivial⟩⟩)) (by kernel_rfl)
def aXQ:DT:=(.node 0 yo0 (.v (.int .u8 0)) (.leaf (.agg [(.v (.int .u8 2)),qf,qf,(.v (.string ⟨#[]⟩)),qz,qz,(.v (.string ⟨#[]⟩)),(.v (.string ⟨#[]⟩)),(.v (.int .u8 0)),(.v (.int .u8 0)),(.v (.int .u8 0))])) (.node 0 yo0 (.v (.int .u8 1)) (.leaf (.agg [(.v (.int .u8 3)),qf,qf,(.v (.string ⟨#[]⟩)),qz,qz,(.v (.string ⟨#[]⟩)),(.v (.string ⟨#[]⟩)),(.v (.int .u8 0)),(.v (.int .u8 0)),(.v (.int .u8 0))])) (.leaf (.agg [(.v (.int .u8 1)),(qb 11),(qb 12),(qs 13),(qi 14),(qi 15),(qs 16),(qs 17),(qu 18),(qu 19),(qu 20)]))))
theorem aR8(l:Value):aXQ.ok tb3 l [] [(26,[.agg [(qu 1),(qb 2),(mD 3),(qu 4),(qu 5),(qu 6),(qu 7),(qu 8),(qu 9),(qu 10)]],.agg [(qb 11),(qb 12),(qs 13),(qi 14),(qi 15),(qs 16),(qs 17),(qu 18),(qu 19),(qu 20)])] .nil 60 LG 24 [.agg [(qu 0),(qu 1),(qb 2),(mD 3),(qu 4),(qu 5),(qu 6),(qu 7),(qu 8),(qu 9),(qu 10)]] []=true:=by kernel_rfl
theorem oB(a:Dt)(k:Int)(f:Int)(ng:Bool)(n:Int)(z0:Int)(z1:Int)(mo:Int)(da:Int)(k0:Int)(k1:Int)(k2:Int)(w0:World) (H0:Same w0 26 #[(.agg #[(.int .u8 f),(.bool ng),(.int .u16 n),(.int .u8 z0),(.int .u8 z1),(.int .u8 mo),(.int .u8 da),(.int .u8 k0),(.int .u8 k1),(.int .u8 k2)])] (dV a)):Same w0 24 #[(.agg #[(.int .u8 k),(.int .u8 f),(.bool ng),(.int .u16 n),(.int .u8 z0),(.int .u8 z1),(.int .u8 mo),(.int .u8 da),(.int .u8 k0),(.int .u8 k1),(.int .u8 k2)])] (cond ((Int.tmod k 6)==0) (.agg #[(.int .u8 2),(.bool false),(.bool false),(.string ⟨#[]⟩),(.int .i64 0),(.int .i64 0),(.string ⟨#[]⟩),(.string ⟨#[]⟩),(.int .u8 0),(.int .u8 0),(.int .u8 0)]) (cond ((Int.tmod k 6)==1) (.agg #[(.int .u8 3),(.bool false),(.bool false),(.string ⟨#[]⟩),(.int .i64 0),(.int .i64 0),(.string ⟨#[]⟩),(.string ⟨#[]⟩),(.int .u8 0),(.int .u8 0),(.int .u8 0)]) (bV 1 a))):=
 eU (aR8 (lv [.int .u8 k,.int .u8 f,.bool ng,.int .u16 n,.int .u8 z0,.int .u8 z1,.int .u8 mo,.int .u8 da,.int .u8 k0,.int .u8 k1,.int .u8 k2] (dL a))) (EO w0) (ss3 w0) .nil (.cons H0 .nil) (kL (by kernel_rfl)) (by kernel_rfl)
def aLm:DT:=(.node 0 (bH 5 .u8 [(qu 10),(.v (.int .u8 2))]) (.v (.int .u8 1)) (.node 1 (qi 102) (qi 103) (.node 1 (qi 106) (qi 104) (.leaf (.agg [(qb 72),(qb 73),(qs 74),(qi 75),(qi 76),(qs 77),(qs 78),(qu 79),(qu 80),(qu 81),qt,(qb 62),(qb 63),(qs 64),(qi 65),(qi 66),(qs 67),(qs 68),(qu 69),(qu 70),(qu 71)])) (.leaf (.agg [(qb 62),(qb 63),(qs 64),(qi 65),(qi 66),(qs 67),(qs 68),(qu 69),(qu 70),(qu 71),qt,(qb 72),(qb 73),(qs 74),(qi 75),(qi 76),(qs 77),(qs 78),(qu 79),(qu 80),(qu 81)]))) (.node 1 (qi 110) (qi 108) (.leaf (.agg [(qb 92),(qb 93),(qs 94),(qi 95),(qi 96),(qs 97),(qs 98),(qu 99),(qu 100),(qu 101),qt,(qb 82),(qb 83),(qs 84),(qi 85),(qi 86),(qs 87),(qs 88),(qu 89),(qu 90),(qu 91)])) (.leaf (.agg [(qb 82),(qb 83),(qs 84),(qi 85),(qi 86),(qs 87),(qs 88),(qu 89),(qu 90),(qu 91),qt,(qb 92),(qb 93),(qs 94),(qi 95),(qi 96),(qs 97),(qs 98),(qu 99),(qu 100),(qu 101)])))) (.node 3 (qb 21) (qb 21) (.leaf (.agg [(qb 22),(qb 23),(qs 24),(qi 25),(qi 26),(qs 27),(qs 28),(qu 29),(qu 30),(qu 31),qf,qf,qf,(.v (.string ⟨#[]⟩)),qz,qz,(.v (.string ⟨#[]⟩)),(.v (.string ⟨#[]⟩)),(.v (.int .u8 0)),(.v (.int .u8 0)),(.v (.int .u8 0))])) (.leaf (.agg [(qb 32),(qb 33),(qs 34),(qi 35),(qi 36),(qs 37),(qs 38),(qu 39),(qu 40),(qu 41),qf,qf,qf,(.v (.string ⟨#[]⟩)),qz,qz,(.v (.string ⟨#[]⟩)),(.v (.string ⟨#[]⟩)),(.v (.int .u8 0)),(.v (.int .u8 0)),(.v (.int .u8 0))]))))
theorem aF6(l:Value):aLm.ok tb3 l [] [(26,[.agg yo6],.agg [(qb 22),(qb 23),(qs 24),(qi 25),(qi 26),(qs 27),(qs 28),(qu 29),(qu 30),(qu 31)]),(23,[.agg yo6],.agg [(qb 32),(qb 33),(qs 34),(qi 35),(qi 36),(qs 37),(qs 38),(qu 39),(qu 40),(qu 41)]),(28,[.agg yo6],.agg aI2),(28,[.agg [(qu 11),(qb 12),(mD 13),(qu 14),(qu 15),(qu 16),(qu 17),(qu 18),(qu 19),(qu 20)]],.agg aI1),(46,[.agg aI2],(qi 102)),(46,[.agg aI1],(qi 103)),(49,[.agg aI2,(qi 102)],.agg aPQ),(49,[.agg aI1,(qi 102)],.agg aPP),(48,[.agg aPQ],.eP [(qi 104),(qi 105)]),(48,[.agg aPP],.eP [(qi 106),(qi 107)]),(49,[.agg aI2,(qi 103)],.agg aPO),(49,[.agg aI1,(qi 103)],.agg aPN),(48,[.agg aPO],.eP [(qi 108),(qi 109)]),(48,[.agg aPN],.eP [(qi 110),(qi 111)])] .nil 60 LG 27 [.agg [(qu 0),(qb 1),(mD 2),(qu 3),(qu 4),(qu 5),(qu 6),(qu 7),(qu 8),(qu 9),(qu 10),(qu 11),(qb 12),(mD 13),(qu 14),(qu 15),(qu 16),(qu 17),(qu 18),(qu 19),(qu 20)],(qb 21)] []=true:=by kernel_rfl
theorem aSf(x y a b c d g h:Dt)(f:Int)(ng:Bool)(n:Int)(z0:Int)(z1:Int)(mo:Int)(da:Int)(k0:Int)(k1:Int)(k2:Int)(rg:Int)(tf:Int)(tng:Bool)(tn:Int)(tz0:Int)(tz1:Int)(tmo:Int)(tda:Int)(tk0:Int)(tk1:Int)(tk2:Int)(al:Bool)(ca:Int)(cb:Int)(lo:Int)(lo2:Int)(hi:Int)(hi2:Int)(mi:Int)(mi2:Int)(ni:Int)(ni2:Int)(w0:World) (H0:Same w0 26 #[(.agg #[(.int .u8 f),(.bool ng),(.int .u16 n),(.int .u8 z0),(.int .u8 z1),(.int .u8 mo),(.int .u8 da),(.int .u8 k0),(.int .u8 k1),(.int .u8 k2)])] (dV x))(H1:Same w0 23 #[(.agg #[(.int .u8 f),(.bool ng),(.int .u16 n),(.int .u8 z0),(.int .u8 z1),(.int .u8 mo),(.int .u8 da),(.int .u8 k0),(.int .u8 k1),(.int .u8 k2)])] (dV y))(H2:Same w0 28 #[(.agg #[(.int .u8 f),(.bool ng),(.int .u16 n),(.int .u8 z0),(.int .u8 z1),(.int .u8 mo),(.int .u8 da),(.int .u8 k0),(.int .u8 k1),(.int .u8 k2)])] (dV a))(H3:Same w0 28 #[(.agg #[(.int .u8 tf),(.bool tng),(.int .u16 tn),(.int .u8 tz0),(.int .u8 tz1),(.int .u8 tmo),(.int .u8 tda),(.int .u8 tk0),(.int .u8 tk1),(.int .u8 tk2)])] (dV b))(H4:Same w0 46 #[(dV a)] (.int .i64 ca))(H5:Same w0 46 #[(dV b)] (.int .i64 cb))(H6:Same w0 49 #[(dV a),(.int .i64 ca)] (dV c))(H7:Same w0 49 #[(dV b),(.int .i64 ca)] (dP d))(H8:Same w0 48 #[(dV c)] (.tuple #[(.int .i64 lo),(.int .i64 lo2)]))(H9:Same w0 48 #[(dP d)] (.tuple #[(.int .i64 hi),(.int .i64 hi2)]))(H10:Same w0 49 #[(dV a),(.int .i64 cb)] (dV g))(H11:Same w0 49 #[(dV b),(.int .i64 cb)] (dV h))(H12:Same w0 48 #[(dV g)] (.tuple #[(.int .i64 mi),(.int .i64 mi2)]))(H13:Same w0 48 #[(dV h)] (.tuple #[(.int .i64 ni),(.int .i64 ni2)])):Same w0 27 #[(.agg #[(.int .u8 f),(.bool ng),(.int .u16 n),(.int .u8 z0),(.int .u8 z1),(.int .u8 mo),(.int .u8 da),(.int .u8 k0),(.int .u8 k1),(.int .u8 k2),(.int .u8 rg),(.int .u8 tf),(.bool tng),(.int .u16 tn),(.int .u8 tz0),(.int .u8 tz1),(.int .u8 tmo),(.int .u8 tda),(.int .u8 tk0),(.int .u8 tk1),(.int .u8 tk2)]),(.bool al)] (cond ((Int.tmod rg 2)==1) (cond (decide (ca<cb)) (cond (decide (hi<lo)) (iV d true c) (iV c true d)) (cond (decide (ni<mi)) (iV h true g) (iV g true h))) (cond al (.agg #[(.bool x.neg),(.bool x.long),(.string x.dg),(.int .i64 x.ex),(.int .i64 x.sig),(.string x.mo),(.string x.da),(.int .u8 x.m0),(.int .u8 x.m1),(.int .u8 x.m2),(.bool false),(.bool false),(.bool false),(.string ⟨#[]⟩),(.int .i64 0),(.int .i64 0),(.string ⟨#[]⟩),(.string ⟨#[]⟩),(.int .u8 0),(.int .u8 0),(.int .u8 0)]) (.agg #[(.bool y.neg),(.bool y.long),(.string y.dg),(.int .i64 y.ex),(.int .i64 y.sig),(.string y.mo),(.string y.da),(.int .u8 y.m0),(.int .u8 y.m1),(.int .u8 y.m2),(.bool false),(.bool false),(.bool false),(.string ⟨#[]⟩),(.int .i64 0),(.int .i64 0),(.string ⟨#[]⟩),(.string ⟨#[]⟩),(.int .u8 0),(.int .u8 0),(.int .u8 0)]))):=
 eU (aF6 (lv [.int .u8 f,.bool ng,.int .u16 n,.int .u8 z0,.int .u8 z1,.int .u8 mo,.int .u8 da,.int .u8 k0,.int .u8 k1,.int .u8 k2,.int .u8 rg,.int .u8 tf,.bool tng,.int .u16 tn,.int .u8 tz0,.int .u8 tz1,.int .u8 tmo,.int .u8 tda,.int .u8 tk0,.int .u8 tk1,.int .u8 tk2,.bool al] (List.append (dL x) (List.append (dL y) (List.append (dL a) (List.append (dL b) (List.append (dL c) (List.append (dL d) (List.append (dL g) (List.append (dL h) [.int .i64 ca,.int .i64 cb,.int .i64 lo,.int .i64 lo2,.int .i64 hi,.int .i64 hi2,.int .i64 mi,.int .i64 mi2,.int .i64 ni,.int .i64 ni2])))))))))) (EO w0) (ss3 w0) .nil (.cons H0 (.cons H1 (.cons H2 (.cons H3 (.cons H4 (.cons H5 (.cons H6 (.cons H7 (.cons H8 (.cons H9 (.cons H10 (.cons H11 (.cons H12 (.cons H13 .nil)))))))))))))) (kL (by kernel_rfl)) (by kernel_rfl)
theorem z03:(0:Int)<=0/\(0:Int)<=3:=by decide
theorem aNK:((List.range 34).all fun m=> !hasB 88 (jI m))=true:=by kernel_rfl
theorem aOy:((List.range 40).all fun m=>(List.range 32).all fun k=> !hasB 88 (uF m k))=true:=by kernel_rfl
theorem aNJ:((List.range 13).all fun m=>decide (dD (jI m)=0))=true:=by kernel_rfl
section
variable{m k:Nat}{d:Dt}
theorem rW(h:aYL m k d):d.err=0:=(aKE h.y h.s h.hm h.hk h.mo h.da h.ke).1
theorem aSo(h:aYL m k d):d.mo.size<=2/\d.da.size<=2:=by
 constructor
 . rcases h.mo with e|e
   . by_cases c:m=0
     . rw[e,c];decide
     have:=(wV h.hm c).1;rw[e];omega
   omega
 rcases h.da with e|⟨e1,e2,e3,e4,e5⟩
 . omega
 have:=(UG h.hm h.hk e2 e3 (by rw[<-e1];exact e4)).1;rw[e5];omega
theorem CU(h:aYL m k d):Sm d:=by
 obtain⟨a,b⟩:=aSo h;obtain⟨y1,y2,y3,y4,y5,y6,y7⟩:=h.y;exact⟨by omega,by omega,by omega,by omega,by omega,h.m0.1,h.m1.1,h.m2.1⟩
def s0D(d:Dt):Dt:={ d with sig:=if 0<d.sig then 0 else d.sig }
theorem aMH{neg long:Bool}{s:ByteArray}{ex sig:Int}(h:zH neg long s ex sig=true)(he:0<=ex):zH neg long s ex 0=true:=by
 cases long
 . obtain⟨a,b,c,e,f,g,i⟩:=kH h;unfold zH iT;have e1:(neg&&aYP U0 s)=false:=by cases neg;rfl;rw[e rfl];rfl
   rw[aEg (by decide),aDx a,b,aDx c,e1];simp;omega
 unfold zH at h ⊢;rw[aEo rfl]at h ⊢;simp only[aEb,aEZ]at h ⊢;exact⟨h.1,by omega,by omega⟩
theorem aFl(h:aYL m k d):(s0D d).sig=0:=by
 have:=h.y.2.2.1;show(if 0<d.sig then(0:Int)else d.sig)=0;split<;>omega
theorem aSp(h:aYL m k d):aYL m k (s0D d):=by
 obtain⟨y1,y2,y3,y4,y5,y6,y7⟩:=h.y;have e:=aFl h;refine⟨?_,fun c=>by omega,h.hm,h.hk,h.mo,h.da,h.ke,h.m0,h.m1,h.m2⟩;rw[e];exact⟨aMH y1 y5,y2,by omega,by omega,y5,y6,y7⟩
theorem aSq(h:aYL m k d)(hm:m<=33)(hk:k<=31):hasB 88 d.mo=false/\hasB 88 d.da=false:=by
 have hM:hasB 88 (jI m)=false:=by have:=aIJ.1 aNK m (aMv.2 (by omega));simpa using this
 have e0: ∀s:ByteArray,s.size=0->hasB 88 s=false:=fun s hs=>by rw[MS hs];rfl
 constructor
 . rcases h.mo with e|e
   . rw[e];exact hM
   exact e0 _ e
 rcases h.da with e|⟨_,_,_,_,e⟩
 . exact e0 _ e
 rw[e];have:=aIJ.1 (aIJ.1 aOy m (aMv.2 h.hm)) k (aMv.2 (by omega));simpa using this
theorem aNQ(h:aYL m k d)(hm:m<=33)(hk:k<=31)(hx:hasB 88 d.dg=false)(hs:d.sig=0):d.vO=true:=by
 obtain⟨a,b⟩:=aSq h hm hk;unfold Dt.vO;rw[jK,jK,hx,a,b,aDx hs];rfl
theorem aD1(h:aYL m k d)(hm:m<=12):d.aH=0:=by
 unfold Dt.aH;rcases h.mo with e|e
 . rw[e];exact aEF (aIJ.1 aNJ m (aMv.2 (by omega)))
 rw[MS e];rfl
theorem SB(h:aYL m k d)(hm:m<=12):d.prec=comps d.mo d.da/\d.prec≠0:=by
 have hs:=aD1 h hm;unfold Dt.prec comps;rcases h.da with e|⟨e1,e2,e3,e4,e5⟩
 . rw[aEg (by omega),aEg (by omega),aEo e];by_cases c:d.mo.size=0
   . rw[aEg (by omega),aEo c];decide
   rw[aEo c,aEg c];decide
 have a:=(UG h.hm h.hk e2 e3 (by rw[<-e1];exact e4)).1;have b:=(wV h.hm e2).1;rw[<-e5]at a;rw[<-e1]at b;rw[aEo (by omega),aEg (by omega),aEg (by omega)];decide
theorem aAP(h:aYL m k d)(hm:m<=12)(hx:d.vO=true):d.UY=true:=by
 unfold Dt.UY;rw[hx,aDx (rW h),aBW (SB h hm).2];rfl
def IJ(d:Dt)(n:Int):Dt:=if n<3 then(if n<2 then{ d with mo:=⟨#[]⟩,da:=⟨#[]⟩,m1:=0,m2:=0 }else{ d with da:=⟨#[]⟩,m2:=0 })else d
theorem aMb{a b c n:Int}(h:a<=3/\b<=3/\c<=3/\(n<3->c=0)/\(n<2->b=0)):jR a b c n=0:=by unfold jR;rw[aEo h]
theorem aSa{a b c n:Int}(h:jR a b c n=0):a<=3/\b<=3/\c<=3/\(n<3->c=0)/\(n<2->b=0):=by
 unfold jR at h;split at h
 . assumption
 cases h
theorem aSr(h:aYL m k d)(n:Int):aYL m k (IJ d n):=by
 obtain⟨q0,q1,q2,q3,q4⟩:=aSa h.ke;unfold IJ;split
 . split
   . exact⟨h.y,fun _=>rfl,h.hm,h.hk,.inr rfl,.inl rfl,aMb ⟨q0,by show(0:Int)<=3;decide,by show(0:Int)<=3;decide,fun _=>rfl,fun _=>rfl⟩,h.m0,z03,z03⟩
   refine⟨h.y,h.s,h.hm,h.hk,h.mo,.inl rfl,aMb ⟨q0,q1,by show(0:Int)<=3;decide,fun _=>rfl,fun c=>q4 ?_⟩,h.m0,h.m1,z03⟩;have c:comps d.mo ⟨#[]⟩<2:=c;rcases h.da with e|⟨e1,e2,_⟩
   . rw[MS e];exact c
   have b:=(wV h.hm e2).1;rw[<-e1]at b;unfold comps at c;rw[aEg (by omega),aEo (by rfl)]at c;omega
 exact h
theorem aOB(h:aYL m k d)(n:Int)(hx:d.vO=true):(IJ d n).vO=true:=by
 obtain⟨x1,x2,x3,x4,x5⟩:=gB hx;have x1:hasB 88 d.dg=false:=x1;unfold IJ;split
 . split
   . unfold Dt.vO;rw[jK,jK,x1,aDx x4];rfl
   unfold Dt.vO;rw[jK,jK,x1,x2,aDx x4];rfl
 exact hx
theorem lQ(mo da:ByteArray):1<=comps mo da/\comps mo da<=3:=by unfold comps;(repeat' split)<;>omega
theorem YU(h:aYL m k d){n:Int}(h1:1<=n)(h2:n<=comps d.mo d.da):comps (IJ d n).mo (IJ d n).da=n:=by
 have hda:d.da.size≠0->d.mo.size≠0:=fun c=>by
  rcases h.da with e|⟨e1,e2,_⟩
  . exact absurd e c
  have b:=(wV h.hm e2).1;rw[e1];omega
 have hb:=lQ d.mo d.da;unfold IJ;split
 . rename_i c3;split
   . rename_i c2;show comps ⟨#[]⟩ ⟨#[]⟩=n;have:comps ⟨#[]⟩ ⟨#[]⟩=1:=by decide
     omega
   rename_i c2;show comps d.mo ⟨#[]⟩=n;have e:d.mo.size≠0:=fun c=>by
    have:d.da.size=0:=aOY fun g=>hda g c;unfold comps at h2;rw[aEo c,aEo this]at h2;omega
   unfold comps;rw[aEg e,aEo (by rfl)];omega
 rename_i c3;omega
end
structure Dd where
 f:Nat
 ng:Bool
 n:Nat
 z0:Nat
 z1:Nat
 mo:Nat
 da:Nat
 k0:Nat
 k1:Nat
 k2:Nat
structure Dd.Ok(D:Dd):Prop where
 f:D.f<256
 n:D.n<65536
 z0:D.z0<256
 z1:D.z1<256
 mo:D.mo<256
 da:D.da<256
 k0:D.k0<256
 k1:D.k1<256
 k2:D.k2<256
abbrev Dd.l(D:Dd):List Value:=[.int .u8 D.f,.bool D.ng,.int .u16 D.n,.int .u8 D.z0,.int .u8 D.z1,.int .u8 D.mo,.int .u8 D.da,.int .u8 D.k0,.int .u8 D.k1,.int .u8 D.k2]
abbrev Dd.v(D:Dd):Value:=.agg D.l.toArray
def Dd.dt(D:Dd):Dt:=dX D.f D.ng D.n D.z0 D.z1 D.mo D.da D.k0 D.k1 D.k2
def Dd.E(D:Dd):Dd:={ D with f:=if D.f % 6=3\/D.f % 6=4 then 0 else D.f,mo:=if 33<D.mo % 40 then D.mo % 40 - 33 else D.mo,da:=if 31<D.da % 40 then D.da % 40 / 2 else D.da }
def Dd.ex(D:Dd):Dt:=s0D D.E.dt
def Dd.P(D:Dd):Dd:={ D with mo:=if 12<D.mo % 40 then D.mo % 40 % 12+1 else D.mo }
def Dd.pl(D:Dd):Dt:=D.P.ex
section
variable{w0:World}{D:Dd}
theorem sOf(h:D.Ok):Same w0 23 #[D.v] (dP D.dt):=fun w _=>(aCE D.f D.ng D.n D.z0 D.z1 D.mo D.da D.k0 D.k1 D.k2 w h.f h.n h.z0 h.z1 h.mo h.da h.k0 h.k1 h.k2).mono fun e w' hr=>by
 obtain⟨d,rfl,_,_,h1,h2⟩:=hr;exact⟨h1,h2⟩
theorem XL(h:D.Ok):aYL (D.mo % 40) (D.da % 40) D.dt/\(D.f % 6≠3->hasB 88 D.dt.dg=false):=by
 obtain⟨e,w',fr,hr,_⟩:=aCE D.f D.ng D.n D.z0 D.z1 D.mo D.da D.k0 D.k1 D.k2 ((⟨none,none⟩:Option World × Option World).1.getD default) h.f h.n h.z0 h.z1 h.mo h.da h.k0 h.k1 h.k2 [];obtain⟨d,rfl,a,b,_⟩:=hr;exact⟨a,b⟩
theorem aWc(h:D.Ok):D.E.Ok:=by
 refine⟨?_,h.n,h.z0,h.z1,?_,?_,h.k0,h.k1,h.k2⟩
 . show(if D.f % 6=3\/D.f % 6=4 then 0 else D.f)<256;have:=h.f;split<;>omega
 . show(if 33<D.mo % 40 then D.mo % 40 - 33 else D.mo)<256;have:=h.mo;split<;>omega
 show(if 31<D.da % 40 then D.da % 40 / 2 else D.da)<256;have:=h.da;split<;>omega
theorem aWb(h:D.Ok):D.P.Ok:=by
 refine⟨h.f,h.n,h.z0,h.z1,?_,h.da,h.k0,h.k1,h.k2⟩;show(if 12<D.mo % 40 then D.mo % 40 % 12+1 else D.mo)<256;have:=h.mo;split<;>omega
theorem CV(h:D.Ok):aYL (D.E.mo % 40) (D.E.da % 40) D.ex/\D.ex.vO=true:=by
 obtain⟨a,b⟩:=XL (aWc h);have c:=aSp a;have hm:D.E.mo % 40<=33:=by show(if 33<D.mo % 40 then D.mo % 40 - 33 else D.mo) % 40<=33;split<;>omega
 have hk:D.E.da % 40<=31:=by show(if 31<D.da % 40 then D.da % 40 / 2 else D.da) % 40<=31;split<;>omega
 have hf:D.E.f % 6≠3:=by show(if D.f % 6=3\/D.f % 6=4 then 0 else D.f) % 6≠3;split<;>omega
 exact⟨c,aNQ c hm hk (b hf) (aFl a)⟩
theorem XK(h:D.Ok): ∃m k,m<=12/\aYL m k D.pl/\D.pl.vO=true:=by
 obtain⟨a,b⟩:=CV (aWb h);refine⟨_,_,?_,a,b⟩;have hp:D.P.mo % 40<=12:=by show(if 12<D.mo % 40 then D.mo % 40 % 12+1 else D.mo) % 40<=12;split<;>omega
 show(if 33<D.P.mo % 40 then D.P.mo % 40 - 33 else D.P.mo) % 40<=12;rw[aEg (by omega)];exact hp
end
theorem cs0(x:Dt):(cond (decide (0<x.sig)) (.agg #[(.bool x.neg),(.bool x.long),(.string x.dg),(.int .i64 x.ex),(.int .i64 0),(.string x.mo),(.string x.da),(.int .u8 x.m0),(.int .u8 x.m1),(.int .u8 x.m2)]) (dV x):Value)=dP (s0D x):=by
 unfold s0D;by_cases c:0<x.sig
 . rw[aDx c,aEo c];rfl
 rw[aBW c,aEg c];rfl
theorem tm(a b:Nat):Int.tmod (a:Int) (b:Int)=((a % b:Nat):Int):=rfl
section
variable{w0:World}{D:Dd}
theorem sEx(h:D.Ok):Same w0 26 #[D.v] (dP D.ex):=by
 have e6:Int.tmod (D.f:Int) 6=((D.f % 6:Nat):Int):=tm D.f 6;have em:Int.tmod (D.mo:Int) 40=((D.mo % 40:Nat):Int):=tm D.mo 40;have ed:Int.tmod (D.da:Int) 40=((D.da % 40:Nat):Int):=tm D.da 40;obtain⟨mw,hmw,hm1,hm2⟩: ∃mw:Nat,IntKind.u8.wrap (Int.tmod (D.mo:Int) 40 - 33)=mw/\mw<256/\(33<D.mo % 40->mw=D.mo % 40 - 33):=by
  refine⟨(IntKind.u8.wrap (Int.tmod (D.mo:Int) 40 - 33)).toNat,?_,?_,?_⟩<;>rw[em,aUE]<;>omega
 obtain⟨dw,hdw,hd1,hd2⟩: ∃dw:Nat,IntKind.u8.wrap (Int.tdiv (Int.tmod (D.da:Int) 40) 2)=dw/\dw<256/\dw=D.da % 40 / 2:=by
  refine⟨D.da % 40 / 2,?_,?_,rfl⟩
  . rw[ed,show Int.tdiv ((D.da % 40:Nat):Int) 2=((D.da % 40 / 2:Nat):Int)from rfl,aUE];omega
  omega
 have T:=aND ({ D with f:=0,mo:=mw,da:=dw }:Dd).dt ({ D with f:=0,mo:=mw }:Dd).dt ({ D with f:=0,da:=dw }:Dd).dt ({ D with f:=0 }:Dd).dt ({ D with mo:=mw,da:=dw }:Dd).dt ({ D with mo:=mw }:Dd).dt ({ D with da:=dw }:Dd).dt D.dt
  D.f D.ng D.n D.z0 D.z1 D.mo D.da D.k0 D.k1 D.k2 w0
  (by rw[hmw,hdw];exact sOf (D:={ D with f:=0,mo:=mw,da:=dw }) ⟨by show 0<256;decide,h.n,h.z0,h.z1,hm1,hd1,h.k0,h.k1,h.k2⟩)
  (by rw[hmw];exact sOf (D:={ D with f:=0,mo:=mw }) ⟨by show 0<256;decide,h.n,h.z0,h.z1,hm1,h.da,h.k0,h.k1,h.k2⟩)
  (by rw[hdw];exact sOf (D:={ D with f:=0,da:=dw }) ⟨by show 0<256;decide,h.n,h.z0,h.z1,h.mo,hd1,h.k0,h.k1,h.k2⟩)
  (sOf (D:={ D with f:=0 }) ⟨by show 0<256;decide,h.n,h.z0,h.z1,h.mo,h.da,h.k0,h.k1,h.k2⟩)
  (by rw[hmw,hdw];exact sOf (D:={ D with mo:=mw,da:=dw }) ⟨h.f,h.n,h.z0,h.z1,hm1,hd1,h.k0,h.k1,h.k2⟩)
  (by rw[hmw];exact sOf (D:={ D with mo:=mw }) ⟨h.f,h.n,h.z0,h.z1,hm1,h.da,h.k0,h.k1,h.k2⟩)
  (by rw[hdw];exact sOf (D:={ D with da:=dw }) ⟨h.f,h.n,h.z0,h.z1,h.mo,hd1,h.k0,h.k1,h.k2⟩)
  (sOf h)
 refine zS T ?_;simp only[cs0];rw[e6,em,ed,jW,jW];have k3:decide (((D.f % 6:Nat):Int)=3)=decide (D.f % 6=3):=by by_cases c:D.f % 6=3<;>simp[c];omega
 have k4:decide (((D.f % 6:Nat):Int)=4)=decide (D.f % 6=4):=by by_cases c:D.f % 6=4<;>simp[c];omega
 have k33:decide ((33:Int)<((D.mo % 40:Nat):Int))=decide (33<D.mo % 40):=by by_cases c:33<D.mo % 40<;>simp[c]<;>omega
 have k31:decide ((31:Int)<((D.da % 40:Nat):Int))=decide (31<D.da % 40):=by by_cases c:31<D.da % 40<;>simp[c]<;>omega
 rw[k3,k4,k33,k31];clear T k3 k4 k33 k31 e6 em ed hmw hdw;unfold Dd.ex Dd.E;by_cases c3:D.f % 6=3<;>by_cases c4:D.f % 6=4<;>by_cases cm:33<D.mo % 40<;>by_cases cd:31<D.da % 40
 all_goals first
  |omega
  | (have hm2:=fun c=>hm2 c
     simp only[c3,c4,cm,cd,show decide ((4:Nat)=3)=false from rfl,show decide ((3:Nat)=4)=false from rfl,show((4:Nat)=3)=False from by simp,show((3:Nat)=4)=False from by simp,aWN,aVG,aVL,aUB,aUj,aPv,or_true,true_or,aXj,aWF]<;>first
      |rfl
      |rw[hm2 cm,hd2]
      |rw[hm2 cm]
      |rw[hd2])
theorem aJr(h:D.Ok):Same w0 28 #[D.v] (dP D.pl):=by
 have em:Int.tmod (D.mo:Int) 40=((D.mo % 40:Nat):Int):=tm D.mo 40;have em2:Int.tmod (Int.tmod (D.mo:Int) 40) 12=((D.mo % 40 % 12:Nat):Int):=by rw[em];exact tm (D.mo % 40) 12
 have e1:IntKind.u8.wrap (((D.mo % 40 % 12:Nat):Int)+1)=((D.mo % 40 % 12+1:Nat):Int):=by rw[aUE];omega
 have T:=aNB ({ D with mo:=D.mo % 40 % 12+1 }:Dd).ex D.ex D.f D.ng D.n D.z0 D.z1 D.mo D.da D.k0 D.k1 D.k2 w0
  (by rw[em2,e1];exact sEx (D:={ D with mo:=D.mo % 40 % 12+1 }) ⟨h.f,h.n,h.z0,h.z1,by show D.mo % 40 % 12+1<256;omega,h.da,h.k0,h.k1,h.k2⟩) (sEx h)
 refine zS T ?_;rw[em];unfold Dd.pl Dd.P;by_cases c:12<D.mo % 40
 . rw[aDx (show(12:Int)<((D.mo % 40:Nat):Int) by omega),aEo c];rfl
 rw[aBW (show ¬(12:Int)<((D.mo % 40:Nat):Int) by omega),aEg c];rfl
def ZR(k:Nat):Int:=if k % 6=0 then 2 else if k % 6=1 then 3 else 1
def UO(k:Nat)(D:Dd):Dt:=if k % 6=0 then z0 else if k % 6=1 then z0 else D.ex
theorem sBo(h:D.Ok){k:Nat}(hk:k<256):Same w0 24 #[.agg (.int .u8 k::D.l).toArray] (rE (ZR k) (UO k D)):=by
 have e6:Int.tmod (k:Int) 6=((k % 6:Nat):Int):=tm k 6;refine zS (oB D.ex k D.f D.ng D.n D.z0 D.z1 D.mo D.da D.k0 D.k1 D.k2 w0 (sEx h)) ?_;rw[e6,jW,jW];unfold ZR UO;by_cases c:k % 6=0
 . rw[aDx (show((k % 6:Nat):Int)=0 by omega),aEo c,aEo c];rfl
 rw[aBW (show ¬((k % 6:Nat):Int)=0 by omega),aEg c,aEg c];by_cases c1:k % 6=1
 . rw[aDx (show((k % 6:Nat):Int)=1 by omega),aEo c1,aEo c1];rfl
 rw[aBW (show ¬((k % 6:Nat):Int)=1 by omega),aEg c1,aEg c1];rfl
theorem aFd(h:D.Ok):Sm D.ex:=CU (CV h).1
theorem aLD(h:D.Ok):Sm D.pl:=by obtain⟨m,k,_,a,_⟩:=XK h;exact CU a
theorem aMq(h:D.Ok)(k:Nat):zB (ZR k) (UO k D)/\Sm (UO k D):=by
 unfold zB ZR UO;split
 . exact⟨.inr ⟨.inl rfl,rfl⟩,z0S⟩
 split
 . exact⟨.inr ⟨.inr rfl,rfl⟩,z0S⟩
 exact⟨.inl ⟨rfl,rW (CV h).1,(CV h).2⟩,aFd h⟩
theorem aJu(d:Dt){n:Int}(h1:1<=n):Same w0 49 #[dP d,.int .i64 n] (dP (IJ d n)):=by
 refine zS (aWe d n w0) ?_;unfold IJ;by_cases c3:n<3
 . by_cases c2:n<2
   . rw[aDx c3,aDx c2,aEo c3,aEo c2];rfl
   rw[aDx c3,aBW c2,aEo c3,aEg c2];rfl
 rw[aBW c3,aBW (show ¬n<2 by omega),aEg c3];rfl
end
structure Iz where
 a:Dd
 rg:Nat
 b:Dd
structure Iz.Ok(I:Iz):Prop where
 a:I.a.Ok
 rg:I.rg<256
 b:I.b.Ok
abbrev Iz.l(I:Iz):List Value:=I.a.l++(.int .u8 I.rg::I.b.l)
abbrev Iz.v(I:Iz):Value:=.agg I.l.toArray
def Iz.n(I:Iz):Int:=if comps I.a.pl.mo I.a.pl.da<comps I.b.pl.mo I.b.pl.da then comps I.a.pl.mo I.a.pl.da else comps I.b.pl.mo I.b.pl.da
def Iz.ca(I:Iz):Dt:=IJ I.a.pl I.n
def Iz.cb(I:Iz):Dt:=IJ I.b.pl I.n
def Iz.it(I:Iz)(all:Bool):lK:=if I.rg % 2=1 then(if I.cb.lo<I.ca.lo then(I.cb,true,I.ca)else(I.ca,true,I.cb))else((if all=true then I.a.ex else I.a.dt),false,z0)
section
variable{w0:World}{I:Iz}
theorem aLE{D:Dd}(h:D.Ok):Sm D.dt:=CU (XL h).1
theorem aCF{D:Dd}(h:D.Ok)(n:Int): ∃m k,m<=12/\aYL m k (IJ D.pl n)/\(IJ D.pl n).vO=true:=by
 obtain⟨m,k,hm,a,b⟩:=XK h;exact⟨m,k,hm,aSr a n,aOB a n b⟩
theorem JG(hst:SS w0){D:Dd}(h:D.Ok)(n:Int):Same w0 48 #[dP (IJ D.pl n)] (.tuple #[.int .i64 (IJ D.pl n).lo,.int .i64 (IJ D.pl n).hi]):=by
 obtain⟨m,k,_,a,b⟩:=aCF h n;exact aAo hst (CU a) (rW a) b
theorem sIt(hst:SS w0)(h:I.Ok)(all:Bool):Same w0 27 #[I.v,.bool all] (I.it all).v:=by
 have cA:=lQ I.a.pl.mo I.a.pl.da;have cB:=lQ I.b.pl.mo I.b.pl.da;have T:=aSf I.a.ex I.a.dt I.a.pl I.b.pl (IJ I.a.pl (comps I.a.pl.mo I.a.pl.da)) (IJ I.b.pl (comps I.a.pl.mo I.a.pl.da)) (IJ I.a.pl (comps I.b.pl.mo I.b.pl.da)) (IJ I.b.pl (comps I.b.pl.mo I.b.pl.da))
  I.a.f I.a.ng I.a.n I.a.z0 I.a.z1 I.a.mo I.a.da I.a.k0 I.a.k1 I.a.k2 I.rg I.b.f I.b.ng I.b.n I.b.z0 I.b.z1 I.b.mo I.b.da I.b.k0 I.b.k1 I.b.k2 all _ _ _ _ _ _ _ _ _ _ w0
  (sEx h.a) (sOf h.a) (aJr h.a) (aJr h.b) (aRl hst (aLD h.a)) (aRl hst (aLD h.b)) (aJu _ cA.1) (aJu _ cA.1) (JG hst h.a _) (JG hst h.b _) (aJu _ cB.1) (aJu _ cB.1) (JG hst h.a _) (JG hst h.b _)
 refine zS T ?_;rw[show Int.tmod (I.rg:Int) 2=((I.rg % 2:Nat):Int)from tm I.rg 2,jW];unfold Iz.it;by_cases c:I.rg % 2=1
 . rw[aDx (show((I.rg % 2:Nat):Int)=1 by omega),aEo c];unfold Iz.ca Iz.cb;have hn:I.n=if comps I.a.pl.mo I.a.pl.da<comps I.b.pl.mo I.b.pl.da then comps I.a.pl.mo I.a.pl.da else comps I.b.pl.mo I.b.pl.da:=rfl
   by_cases e:comps I.a.pl.mo I.a.pl.da<comps I.b.pl.mo I.b.pl.da
   . rw[aEo e]at hn;rw[aDx e,hn];by_cases g:(IJ I.b.pl (comps I.a.pl.mo I.a.pl.da)).lo<(IJ I.a.pl (comps I.a.pl.mo I.a.pl.da)).lo
     . rw[aDx g,aEo g];rfl
     rw[aBW g,aEg g];rfl
   rw[aEg e]at hn;rw[aBW e,hn];by_cases g:(IJ I.b.pl (comps I.b.pl.mo I.b.pl.da)).lo<(IJ I.a.pl (comps I.b.pl.mo I.b.pl.da)).lo
   . rw[aDx g,aEo g];rfl
   rw[aBW g,aEg g];rfl
 rw[aBW (show ¬((I.rg % 2:Nat):Int)=1 by omega),aEg c];cases all<;>rfl
theorem aSx(h:I.Ok){kd:Int}(all:Bool)(hk:kd=4->all=true):aIB kd (I.it all)/\Sm (I.it all).1/\Sm (I.it all).2.2:=by
 unfold Iz.it;by_cases c:I.rg % 2=1
 . rw[aEo c];obtain⟨ma,ka,a1,a2,a3⟩:=aCF h.a I.n;obtain⟨mb,kb,b1,b2,b3⟩:=aCF h.b I.n;have pa:=aAP a2 a1 a3;have pb:=aAP b2 b1 b3;obtain⟨_,_,_,qa,_⟩:=XK h.a;obtain⟨_,_,_,qb,_⟩:=XK h.b;have cA:=lQ I.a.pl.mo I.a.pl.da;have cB:=lQ I.b.pl.mo I.b.pl.da;have n1:1<=I.n/\I.n<=comps I.a.pl.mo I.a.pl.da/\I.n<=comps I.b.pl.mo I.b.pl.da:=by unfold Iz.n;split<;>omega
   have e1:=YU qa n1.1 n1.2.1;have e2:=YU qb n1.1 n1.2.2;have ep:I.ca.prec=I.cb.prec:=by rw[show I.ca.prec=_ from(SB a2 a1).1,show I.cb.prec=_ from(SB b2 b1).1];exact e1.trans e2.symm
   have pa:I.ca.UY=true:=pa;have pb:I.cb.UY=true:=pb;split
   . rename_i g;refine⟨⟨rW b2,.inr ⟨rfl,?_⟩⟩,CU b2,CU a2⟩;show RI I.cb I.ca=true;unfold RI;rw[pa,pb,aDx ep.symm,aBW (show ¬I.ca.lo<I.cb.lo by omega)];rfl
   rename_i g;refine⟨⟨rW a2,.inr ⟨rfl,?_⟩⟩,CU a2,CU b2⟩;show RI I.ca I.cb=true;unfold RI;rw[pa,pb,aDx ep,aBW g];rfl
 rw[aEg c];cases all
 . exact⟨⟨rW (XL h.a).1,.inl ⟨rfl,rfl,fun e=>by cases hk e⟩⟩,aLE h.a,z0S⟩
 exact⟨⟨rW (CV h.a).1,.inl ⟨rfl,rfl,fun _=>(CV h.a).2⟩⟩,aFd h.a,z0S⟩
end
end
section
open Go.RowKit
noncomputable def YL:Code:=match(f30).body with
 |some c=>c
 |none=>.skip
noncomputable def aTo:Code:=bF [1,1,0,1,0] YL
noncomputable def aOs:Code:=bF [1,1,1,0,0] YL
noncomputable def aOr:Code:=bF [1,1,1,0,1,0] YL
noncomputable def aK1:Code:=bF [1,1,1,1,0,0] YL
noncomputable def aKZ:Code:=bF [1,1,1,1,0,1,0] YL
noncomputable def aTn:Code:=bF [1,1,1,1,1,0,0] YL
noncomputable def aOq:Code:=bF [1,1,1,1,1,0,1,0,0,0,0] YL
noncomputable def aHM:Code:=bF [1,1,1,1,1,0,1,0,0,1,0,0,0] YL
noncomputable def aHL:Code:=bF [1,1,1,1,1,0,1,0,0,1,0,0,1,0] YL
noncomputable def aHK:Code:=bF [1,1,1,1,1,0,1,0,0,1,0,0,1,1,0] YL
noncomputable def aHN:Code:=bF [1,1,1,1,1,0,1,0,0,1,1] YL
noncomputable def P9:Code:=bF [1,1,1,1,1,1,0] YL
theorem aW6:YL=(.seq (bF [0] YL) (.seq (bF [1,0] YL) (.seq (.seq (bF [1,1,0,0] YL) (.cond (.tmp 7) aTo .skip)) (.seq (.seq aOs (.cond (.tmp 21) aOr .skip)) (.seq (.seq aK1 (.cond (.tmp 36) aKZ .skip)) (.seq (.seq aTn (.block 0 (.loop (.seq (.seq aOq (.cond (.tmp 57) .skip (.exit 0))) (.seq (.block 1 (.seq aHM (.seq aHL (.cond (.tmp 74) aHK .skip)))) aHN))))) (.seq P9 .ret))))))):=by kernel_rfl
theorem aMS{N:Nat}{S:List (Nat × Value)}{a:Act}{ds:List Deferred}{ops:Array Oper}{o:Oper}{j:Nat}{b:Bool}{d:Nat}{g0:Option (Tmp × Bool)}{p0:Op}{K:List Ky}(hK:ops.toList.map key=K)(hj:K[j]? =some (g0,some d,p0))(hg:o.guard=some (j,b))(h:Sl N S a ds)(hm:(d,undef) ∈ S):
 Region.wanted o (yielded ops a.tmps)=false:=by
 have h1:(ops[j]?).bind (·.dst)=some d:=by
  rw[<-hK,aEC]at hj;rw[<-aEt];cases ho:ops.toList[j]? with
  |none=>rw[ho]at hj;cases hj
  |some o=>rw[ho]at hj;simp only[aLw,aPb,key,aNS]at hj;simp[hj.2.1]
 have h2:yielded ops a.tmps j=none:=by unfold yielded;rw[h1,aPi,h.val _ hm];rfl
 unfold Region.wanted;rw[hg];show(yielded ops a.tmps j==some b)=_;rw[h2];rfl
theorem sXU{P:Program}{r:Option Nat}{n N:Nat}{ops:Array Oper}{Q:Exit->Act->World->Prop}{S:List (Nat × Value)}{a:Act}{ds:List Deferred}{l:List Oper}{ks:List Ky}{W:World}{jj:Nat}{b:Bool}{d:Nat}{g0:Option (Tmp × Bool)}{p0 p:Op}{K:List Ky}
 (hK:ops.toList.map key=K) (hk:l.map key=(some (jj,b),some d,p)::ks) (h:Sl N S a ds) (d0:Nat) (k: ∀l a,l.map key=ks->Sl N ((d,undef)::S.filter (fun e=>e.1 !=d)) a ds->wpListIn (FR r) n P ops Q l a W) (hj:K[jj]? =some (g0,some d0,p0):=by rfl) (hm:(d0,undef) ∈ S:=by simp) (hd:d<N:=by decide):wpListIn (FR r) n P ops Q l a W:=by
 obtain⟨o,l',rfl,e,hl⟩:=EX hk;simp only[key,aNS]at e;obtain⟨hg,hd',rfl⟩:=e;unfold wpListIn;rw[aEg (by rw[aMS hK hj hg h hm];decide),hd'];exact⟨fun _ _=>trivial,k l' _ hl (qK h hd)⟩
theorem aXs(W:World)(d:Dt):(Instr.buildSlice 85 1 #[(0,.agg (nK d).toArray)]).run prog W=.ok (.slice (some ⟨W.heap.size,0,none⟩) 1 1) (W.alloc (.cells (nK d).toArray 30)):=by kernel_rfl
theorem KO{W:World}{a:Act}{o:Oper}{x:Operand}{d:Dt}(ho:o.op=.buildSlice 85 1 #[(0,x)])(hx:a.eval x=.agg (nK d).toArray):
 (execOp a.eval o).run prog W=.ok (.value (.slice (some ⟨W.heap.size,0,none⟩) 1 1)) (W.alloc (.cells (nK d).toArray 30)):=by
 have h:(#[(0,x)]:Array (Nat × Operand)).map (fun p=>(p.1,a.eval p.2))= #[(0,.agg (nK d).toArray)]:=by simp[hx]
 unfold execOp;simp only[ho,aDt,aD0];rw[h,aXs];rfl
theorem info30: ∃i,prog.info? 30=some i/\i.zero=some (.agg (nK z0).toArray)/\i.size=10/\i.bytes<=1000:=by
 have h:(match prog.info? 30 with|some i=>decide (i.size=10/\i.bytes<=1000)|none=>false)=true:=by kernel_rfl
 have z:(match prog.info? 30 with|some i=>i.zero|none=>none)=some (.agg (nK z0).toArray):=by kernel_rfl
 cases hi:prog.info? 30 with
 |none=>rw[hi]at h;cases h
 |some i=>
  rw[hi]at h z;have:=aEF h;exact⟨i,rfl,z,this.1,this.2⟩
theorem aCC(d:Dt): ∀v ∈ nK d,v.oneCell'=true:=by
 intro v hv;simp only[nK,aLr,aSU,aXj]at hv;rcases hv with rfl|rfl|rfl|rfl|rfl|rfl|rfl|rfl|rfl|rfl<;>rfl
def EK(l:List Dt):List Value:=l.flatMap nK
theorem vC{n n1:Nat}{w W W':World}(h:Below n w W)(k:Below n1 W W')(hn:n<=n1):Below n w W':=⟨k.os.trans h.os,k.tape.trans h.tape,k.output.trans h.output,aKM h.size k.size,fun b hb=>(k.block b (by omega)).trans (h.block b hb)⟩
theorem apd{W:World}{n1:Nat}{v:Value}{ds:List Dt}(d:Dt)(hown:W.ownsRow n1 30 10 v ds.length (EK ds))(hn1:n1<=W.heap.size)(hk:ds.length<10000):
 ∃v' W2,(∀ty,(Builtin.append_ #[85,85] ty #[v,.slice (some ⟨W.heap.size,0,none⟩) 1 1]).run prog (W.alloc (.cells (nK d).toArray 30))=.ok v' W2)/\W2.ownsRow n1 30 10 v' (ds++[d]).length (EK (ds++[d]))/\Below n1 W W2:=by
 obtain⟨i,i1,i2,i3,i4⟩:=info30;have hA:Al W (W.alloc (.cells (nK d).toArray 30)) W.heap.size 30 (nK d):=dN (nK d);have hown:=hown.alloc (.cells (nK d).toArray 30);generalize W.alloc (.cells (nK d).toArray 30)=W1 at hA hown ⊢;obtain⟨e1,k1⟩:=gV hA;have z1:=hA.2.1;obtain⟨v',W2,hrun,r1,r2,r3,r4⟩:=aUN (P:=prog) W1 n1 85 0 30 i _ 10 i.bytes (by kernel_rfl) i1 i2 i3 rfl rfl (by decide) v ds.length (EK ds) hown ⟨W.heap.size,0,none⟩ 1 1 (nK d) rfl
  (fun j u hu=>by have:=aO hA.2.2.2.1 j u hu;rw[aSD];exact this) (aCC d) (by simp only[maxLen];omega) (by
    have:(ds.length+1) * i.bytes<=10001 * 1000:=Nat.mul_le_mul (by omega) i4;omega) (by omega)
 refine⟨v',W2,fun ty=>hrun,?_,?_⟩
 . rw[show (ds++[d]).length=ds.length+1 by simp,show EK (ds++[d])=EK ds++nK d by unfold EK;simp];exact r1
 have own: ∀g,v.ownBlock=some g->n1<=g:=fun g hg=>by
  rcases hown.2 with⟨rfl,_⟩|⟨g',cap,cur,rfl,h1,_⟩
  . cases hg
  cases hg;exact h1
 exact⟨r2.os.trans hA.2.2.2.2.1,r2.tape.trans hA.2.2.2.2.2.1,r2.output.trans hA.2.2.2.2.2.2,by have:=r2.size;omega,fun b hb=>(r2.block b (by omega) (fun e=>by have:=own b e.symm;omega)).trans (k1 b (by omega))⟩
theorem aAd{W:World}{p off:Nat}{el:TypeId}{vs cs:List Value}(f:dA W p el vs)(hs: ∀j v,cs[j]? =some v->vs[off+j]? =some v):W.rangeAt p off cs:=fun j v hv=>aI f (hs j v hv)
section
variable{r:Option Nat}{Q:Exit->Act->World->Prop}{a:Act}{W:World}{x:Xp}{p0 n1:Nat}{v:Value}{ds:List Dt}
theorem ds3(f:dA W p0 35 x.l)(hown:W.ownsRow n1 30 10 v ds.length (EK ds))(hn1:n1<=W.heap.size)(hk0:ds.length<10000)(h:Sl 85 [(1,aYW p0 0),(3,v)] a)
 (k: ∀a W' v',W'.ownsRow n1 30 10 v' (ds++[x.d]).length (EK (ds++[x.d]))->Below n1 W W'->Sl 85 [(1,aYW p0 0),(3,v')] a->Q .normal a W'):aTo.wpIn (FR r) 0 prog Q a W:=by
 obtain⟨v',W2,hrun,r1,r2⟩:=apd (x.d) hown hn1 hk0;refine aG [km 8 3,kf 9 35 1 1,kl 10 30 9,(none,some 11,.buildSlice 85 1 #[(0,(.tmp 10))]),(none,some 12,.call ⟨.builtin .append,#[(.tmp 8),(.tmp 11)],#[85,85]⟩),ka 3 12] fun ops l hK hk=>?_;refine mV (v:=v) hk h fun l a hk h=>
 sV (v:=aYW p0 (0+1)) hk h (fun _ ho=>aJ (b:=p0) (o':=0) aHr ho (sT h)) fun l a hk h=>
 sV (v:=.agg (nK (x.d)).toArray) hk h (fun _ ho=>bC (b:=p0) (off:=0+1) (cs:=nK (x.d)) (aAd f (fun j v hv=>by have hj:j<10:=(aED.1 hv).1;match j,hj with|0,_=>exact hv|1,_=>exact hv|2,_=>exact hv|3,_=>exact hv|4,_=>exact hv|5,_=>exact hv|6,_=>exact hv|7,_=>exact hv|8,_=>exact hv|9,_=>exact hv)) underlying30 rfl (by kernel_rfl) ho (sT h)) fun l a hk h=>
 sV (v:=.slice (some ⟨W.heap.size,0,none⟩) 1 1) hk h (fun _ ho=>KO (d:=x.d) ho (sT h)) fun l a hk h=>
 sV (v:=v') hk h (fun o ho=>oP (v:=v) (ad:=some ⟨W.heap.size,0,none⟩) (m:=1) (c:=1) ho (sT h) (sT h) hrun) fun l a hk h=>
 aV (v:=v') hk h fun l a hk h=>?_
 exact s0 hk (k _ _ _ r1 r2 (aN h))
theorem ds5(f:dA W p0 35 x.l)(hown:W.ownsRow n1 30 10 v ds.length (EK ds))(hn1:n1<=W.heap.size)(hk0:ds.length<10000)(h:Sl 85 [(1,aYW p0 0),(3,v)] a)
 (k: ∀a W' v',W'.ownsRow n1 30 10 v' (ds++[x.f]).length (EK (ds++[x.f]))->Below n1 W W'->Sl 85 [(1,aYW p0 0),(3,v')] a->Q .normal a W'):aOr.wpIn (FR r) 0 prog Q a W:=by
 obtain⟨v',W2,hrun,r1,r2⟩:=apd (x.f) hown hn1 hk0;refine aG [km 22 3,kf 23 35 1 2,kf 24 32 23 1,kl 25 30 24,(none,some 26,.buildSlice 85 1 #[(0,(.tmp 25))]),(none,some 27,.call ⟨.builtin .append,#[(.tmp 22),(.tmp 26)],#[85,85]⟩),ka 3 27] fun ops l hK hk=>?_;refine mV (v:=v) hk h fun l a hk h=>
 sV (v:=aYW p0 (0+11)) hk h (fun _ ho=>aJ (b:=p0) (o':=0) ML ho (sT h)) fun l a hk h=>
 sV (v:=aYW p0 (0+11+1)) hk h (fun _ ho=>aJ (b:=p0) (o':=0+11) TT ho (sT h)) fun l a hk h=>
 sV (v:=.agg (nK (x.f)).toArray) hk h (fun _ ho=>bC (b:=p0) (off:=0+11+1) (cs:=nK (x.f)) (aAd f (fun j v hv=>by have hj:j<10:=(aED.1 hv).1;match j,hj with|0,_=>exact hv|1,_=>exact hv|2,_=>exact hv|3,_=>exact hv|4,_=>exact hv|5,_=>exact hv|6,_=>exact hv|7,_=>exact hv|8,_=>exact hv|9,_=>exact hv)) underlying30 rfl (by kernel_rfl) ho (sT h)) fun l a hk h=>
 sV (v:=.slice (some ⟨W.heap.size,0,none⟩) 1 1) hk h (fun _ ho=>KO (d:=x.f) ho (sT h)) fun l a hk h=>
 sV (v:=v') hk h (fun o ho=>oP (v:=v) (ad:=some ⟨W.heap.size,0,none⟩) (m:=1) (c:=1) ho (sT h) (sT h) hrun) fun l a hk h=>
 aV (v:=v') hk h fun l a hk h=>?_
 exact s0 hk (k _ _ _ r1 r2 (aN h))
theorem ds7(f:dA W p0 35 x.l)(hown:W.ownsRow n1 30 10 v ds.length (EK ds))(hn1:n1<=W.heap.size)(hk0:ds.length<10000)(h:Sl 85 [(1,aYW p0 0),(3,v)] a)
 (k: ∀a W' v',W'.ownsRow n1 30 10 v' (ds++[x.t]).length (EK (ds++[x.t]))->Below n1 W W'->Sl 85 [(1,aYW p0 0),(3,v')] a->Q .normal a W'):aKZ.wpIn (FR r) 0 prog Q a W:=by
 obtain⟨v',W2,hrun,r1,r2⟩:=apd (x.t) hown hn1 hk0;refine aG [km 37 3,kf 38 35 1 3,kf 39 32 38 1,kl 40 30 39,(none,some 41,.buildSlice 85 1 #[(0,(.tmp 40))]),(none,some 42,.call ⟨.builtin .append,#[(.tmp 37),(.tmp 41)],#[85,85]⟩),ka 3 42] fun ops l hK hk=>?_;refine mV (v:=v) hk h fun l a hk h=>
 sV (v:=aYW p0 (0+22)) hk h (fun _ ho=>aJ (b:=p0) (o':=0) TS ho (sT h)) fun l a hk h=>
 sV (v:=aYW p0 (0+22+1)) hk h (fun _ ho=>aJ (b:=p0) (o':=0+22) TT ho (sT h)) fun l a hk h=>
 sV (v:=.agg (nK (x.t)).toArray) hk h (fun _ ho=>bC (b:=p0) (off:=0+22+1) (cs:=nK (x.t)) (aAd f (fun j v hv=>by have hj:j<10:=(aED.1 hv).1;match j,hj with|0,_=>exact hv|1,_=>exact hv|2,_=>exact hv|3,_=>exact hv|4,_=>exact hv|5,_=>exact hv|6,_=>exact hv|7,_=>exact hv|8,_=>exact hv|9,_=>exact hv)) underlying30 rfl (by kernel_rfl) ho (sT h)) fun l a hk h=>
 sV (v:=.slice (some ⟨W.heap.size,0,none⟩) 1 1) hk h (fun _ ho=>KO (d:=x.t) ho (sT h)) fun l a hk h=>
 sV (v:=v') hk h (fun o ho=>oP (v:=v) (ad:=some ⟨W.heap.size,0,none⟩) (m:=1) (c:=1) ho (sT h) (sT h) hrun) fun l a hk h=>
 aV (v:=v') hk h fun l a hk h=>?_
 exact s0 hk (k _ _ _ r1 r2 (aN h))
theorem aXa{i g o:Nat}(hi:i<x.L.length)(eb:x.bs=some ⟨g,o,none⟩)(hr:W.rangeAt g (o+i * 21) (x.L.getD i bQ).l)(f:dA W p0 35 x.l)(hown:W.ownsRow n1 30 10 v ds.length (EK ds))(hn1:n1<=W.heap.size)(hk0:ds.length<10000)(h:Sl 85 [(1,aYW p0 0),(3,v),(4,.int .i64 (i:Int))] a)
 (k: ∀a W' v',W'.ownsRow n1 30 10 v' (ds++[(x.L.getD i bQ).1]).length (EK (ds++[(x.L.getD i bQ).1]))->Below n1 W W'->Sl 85 [(1,aYW p0 0),(3,v'),(4,.int .i64 (i:Int))] a->Q .normal a W'):aHM.wpIn (FR r) 0 prog Q a W:=by
 obtain⟨v',W2,hrun,r1,r2⟩:=apd ((x.L.getD i bQ).1) hown hn1 hk0;refine aG [km 60 3,kf 61 35 1 4,kl 62 33 61,km 63 4,(none,some 64,.indexAddr 33 (.tmp 62) (.tmp 63)),kf 65 79 64 0,kl 66 30 65,(none,some 67,.buildSlice 85 1 #[(0,(.tmp 66))]),(none,some 68,.call ⟨.builtin .append,#[(.tmp 60),(.tmp 67)],#[85,85]⟩),ka 3 68] fun ops l hK hk=>?_;refine mV (v:=v) hk h fun l a hk h=>
 sV (v:=aYW p0 (0+33)) hk h (fun _ ho=>aJ (b:=p0) (o':=0) pU ho (sT h)) fun l a hk h=>
 lV wU (v:=.slice x.bs x.L.length x.cp) hk h (aI (j:=0+33) f rfl) fun l a hk h=>
 mV (v:=.int .i64 (i:Int)) hk h fun l a hk h=>
 sV (v:=aYW g (o+i * 21)) hk h (fun _ ho=>fP (g:=g) (off:=o) (n:=x.L.length) (cp:=x.cp) (el:=79) (sz:=21) (by kernel_rfl) (by kernel_rfl) hi ho (by rw[<-eb];exact sT h) (sT h)) fun l a hk h=>
 sV (v:=aYW g (o+i * 21+0)) hk h (fun _ ho=>aJ (b:=g) (o':=o+i * 21) aA9 ho (sT h)) fun l a hk h=>
 sV (v:=.agg (nK ((x.L.getD i bQ).1)).toArray) hk h (fun _ ho=>bC (b:=g) (off:=o+i * 21+0) (cs:=nK ((x.L.getD i bQ).1)) (fun j v hv=>by have hj:j<10:=(aED.1 hv).1;rw[aMR];exact hr (0+j) v (match j,hj,hv with|0,_,hv=>hv|1,_,hv=>hv|2,_,hv=>hv|3,_,hv=>hv|4,_,hv=>hv|5,_,hv=>hv|6,_,hv=>hv|7,_,hv=>hv|8,_,hv=>hv|9,_,hv=>hv)) underlying30 rfl (by kernel_rfl) ho (sT h)) fun l a hk h=>?_
 refine sV (v:=.slice (some ⟨W.heap.size,0,none⟩) 1 1) hk h (fun _ ho=>KO (d:=(x.L.getD i bQ).1) ho (sT h)) fun l a hk h=>
 sV (v:=v') hk h (fun o ho=>oP (v:=v) (ad:=some ⟨W.heap.size,0,none⟩) (m:=1) (c:=1) ho (sT h) (sT h) hrun) fun l a hk h=>
 aV (v:=v') hk h fun l a hk h=>?_
 exact s0 hk (k _ _ _ r1 r2 (aN h))
theorem aW8{i g o:Nat}(hi:i<x.L.length)(eb:x.bs=some ⟨g,o,none⟩)(hr:W.rangeAt g (o+i * 21) (x.L.getD i bQ).l)(f:dA W p0 35 x.l)(hown:W.ownsRow n1 30 10 v ds.length (EK ds))(hn1:n1<=W.heap.size)(hk0:ds.length<10000)(h:Sl 85 [(1,aYW p0 0),(3,v),(4,.int .i64 (i:Int))] a)
 (k: ∀a W' v',W'.ownsRow n1 30 10 v' (ds++[(x.L.getD i bQ).2.2]).length (EK (ds++[(x.L.getD i bQ).2.2]))->Below n1 W W'->Sl 85 [(1,aYW p0 0),(3,v'),(4,.int .i64 (i:Int))] a->Q .normal a W'):aHK.wpIn (FR r) 0 prog Q a W:=by
 obtain⟨v',W2,hrun,r1,r2⟩:=apd ((x.L.getD i bQ).2.2) hown hn1 hk0;refine aG [km 75 3,kf 76 35 1 4,kl 77 33 76,km 78 4,(none,some 79,.indexAddr 33 (.tmp 77) (.tmp 78)),kf 80 79 79 2,kl 81 30 80,(none,some 82,.buildSlice 85 1 #[(0,(.tmp 81))]),(none,some 83,.call ⟨.builtin .append,#[(.tmp 75),(.tmp 82)],#[85,85]⟩),ka 3 83] fun ops l hK hk=>?_;refine mV (v:=v) hk h fun l a hk h=>
 sV (v:=aYW p0 (0+33)) hk h (fun _ ho=>aJ (b:=p0) (o':=0) pU ho (sT h)) fun l a hk h=>
 lV wU (v:=.slice x.bs x.L.length x.cp) hk h (aI (j:=0+33) f rfl) fun l a hk h=>
 mV (v:=.int .i64 (i:Int)) hk h fun l a hk h=>
 sV (v:=aYW g (o+i * 21)) hk h (fun _ ho=>fP (g:=g) (off:=o) (n:=x.L.length) (cp:=x.cp) (el:=79) (sz:=21) (by kernel_rfl) (by kernel_rfl) hi ho (by rw[<-eb];exact sT h) (sT h)) fun l a hk h=>
 sV (v:=aYW g (o+i * 21+11)) hk h (fun _ ho=>aJ (b:=g) (o':=o+i * 21) aHp ho (sT h)) fun l a hk h=>
 sV (v:=.agg (nK ((x.L.getD i bQ).2.2)).toArray) hk h (fun _ ho=>bC (b:=g) (off:=o+i * 21+11) (cs:=nK ((x.L.getD i bQ).2.2)) (fun j v hv=>by have hj:j<10:=(aED.1 hv).1;rw[aMR];exact hr (11+j) v (match j,hj,hv with|0,_,hv=>hv|1,_,hv=>hv|2,_,hv=>hv|3,_,hv=>hv|4,_,hv=>hv|5,_,hv=>hv|6,_,hv=>hv|7,_,hv=>hv|8,_,hv=>hv|9,_,hv=>hv)) underlying30 rfl (by kernel_rfl) ho (sT h)) fun l a hk h=>?_
 refine sV (v:=.slice (some ⟨W.heap.size,0,none⟩) 1 1) hk h (fun _ ho=>KO (d:=(x.L.getD i bQ).2.2) ho (sT h)) fun l a hk h=>
 sV (v:=v') hk h (fun o ho=>oP (v:=v) (ad:=some ⟨W.heap.size,0,none⟩) (m:=1) (c:=1) ho (sT h) (sT h) hrun) fun l a hk h=>
 aV (v:=v') hk h fun l a hk h=>?_
 exact s0 hk (k _ _ _ r1 r2 (aN h))
theorem ds4(f:dA W p0 35 x.l)(h:Sl 85 [(1,aYW p0 0),(3,v)] a)(k: ∀a,Sl 85 [(21,.bool (decide (x.kd=2/\x.fk=1))),(1,aYW p0 0),(3,v)] a->Q .normal a W):aOs.wpIn (FR r) 0 prog Q a W:=by
 refine aG [kf 13 35 1 0,kl 14 5 13,(none,some 15,.binOp .eql 5 (.tmp 14) (.const (.int .u8 2)) 5),km 16 15,kg 3 true (kf 17 35 1 2),kg 3 true (kf 18 32 17 0),kg 3 true (kl 19 5 18),(some (3,true),some 20,.binOp .eql 5 (.tmp 19) (.const (.int .u8 1)) 5),(none,some 21,.pick (.tmp 16) (.tmp 20) (.const (.bool false)))] fun ops l hK hk=>?_;refine sV (v:=aYW p0 (0+0)) hk h (fun _ ho=>aJ (b:=p0) (o':=0) sJ ho (sT h)) fun l a hk h=>
 lV lY (v:=.int .u8 x.kd) hk h (aI (j:=0+0) f rfl) fun l a hk h=>
 sV (v:=.bool (decide (x.kd=2))) hk h (fun _ ho=>jE (q:=.u8) ho (sT h) rfl) fun l a hk h=>
 mV (v:=.bool (decide (x.kd=2))) hk h fun l a hk h=>?_
 by_cases c:x.kd=2
 . rw[aDx c]at h;refine sG (v:=aYW p0 (0+11)) hK hk h 16 (fun _ ho=>aJ (b:=p0) (o':=0) ML ho (sT h)) fun l a hk h=>
   sG (v:=aYW p0 (0+11+0)) hK hk h 16 (fun _ ho=>aJ (b:=p0) (o':=0+11) FB ho (sT h)) fun l a hk h=>
   sG (v:=.int .u8 x.fk) hK hk h 16 (fun _ ho=>gK (b:=p0) (off:=0+11+0) lY ho (sT h) (aI (j:=0+11+0) f rfl)) fun l a hk h=>
   sG (v:=.bool (decide (x.fk=1))) hK hk h 16 (fun _ ho=>jE (q:=.u8) ho (sT h) rfl) fun l a hk h=>
   sV (v:=.bool (decide (x.fk=1))) hk h (fun _ ho=>dR ho (sT h) (sT h)) fun l a hk h=>?_
   refine s0 hk (k _ ?_);rw[show decide (x.kd=2/\x.fk=1)=decide (x.fk=1) by simp[c]];exact aN h
 rw[aBW c]at h;refine sX hK hk h 16 fun l a hk h=>
 sX hK hk h 16 fun l a hk h=>
 sX hK hk h 16 fun l a hk h=>
 sX hK hk h 16 fun l a hk h=>
 sV (v:=.bool false) hk h (fun _ ho=>dI ho (sT h) rfl) fun l a hk h=>?_
 refine s0 hk (k _ ?_);rw[show decide (x.kd=2/\x.fk=1)=false by simp[c]];exact aN h
theorem ds6(f:dA W p0 35 x.l)(h:Sl 85 [(1,aYW p0 0),(3,v)] a)(k: ∀a,Sl 85 [(36,.bool (decide (x.kd=2/\x.tk=1))),(1,aYW p0 0),(3,v)] a->Q .normal a W):aK1.wpIn (FR r) 0 prog Q a W:=by
 refine aG [kf 28 35 1 0,kl 29 5 28,(none,some 30,.binOp .eql 5 (.tmp 29) (.const (.int .u8 2)) 5),km 31 30,kg 3 true (kf 32 35 1 3),kg 3 true (kf 33 32 32 0),kg 3 true (kl 34 5 33),(some (3,true),some 35,.binOp .eql 5 (.tmp 34) (.const (.int .u8 1)) 5),(none,some 36,.pick (.tmp 31) (.tmp 35) (.const (.bool false)))] fun ops l hK hk=>?_;refine sV (v:=aYW p0 (0+0)) hk h (fun _ ho=>aJ (b:=p0) (o':=0) sJ ho (sT h)) fun l a hk h=>
 lV lY (v:=.int .u8 x.kd) hk h (aI (j:=0+0) f rfl) fun l a hk h=>
 sV (v:=.bool (decide (x.kd=2))) hk h (fun _ ho=>jE (q:=.u8) ho (sT h) rfl) fun l a hk h=>
 mV (v:=.bool (decide (x.kd=2))) hk h fun l a hk h=>?_
 by_cases c:x.kd=2
 . rw[aDx c]at h;refine sG (v:=aYW p0 (0+22)) hK hk h 31 (fun _ ho=>aJ (b:=p0) (o':=0) TS ho (sT h)) fun l a hk h=>
   sG (v:=aYW p0 (0+22+0)) hK hk h 31 (fun _ ho=>aJ (b:=p0) (o':=0+22) FB ho (sT h)) fun l a hk h=>
   sG (v:=.int .u8 x.tk) hK hk h 31 (fun _ ho=>gK (b:=p0) (off:=0+22+0) lY ho (sT h) (aI (j:=0+22+0) f rfl)) fun l a hk h=>
   sG (v:=.bool (decide (x.tk=1))) hK hk h 31 (fun _ ho=>jE (q:=.u8) ho (sT h) rfl) fun l a hk h=>
   sV (v:=.bool (decide (x.tk=1))) hk h (fun _ ho=>dR ho (sT h) (sT h)) fun l a hk h=>?_
   refine s0 hk (k _ ?_);rw[show decide (x.kd=2/\x.tk=1)=decide (x.tk=1) by simp[c]];exact aN h
 rw[aBW c]at h;refine sX hK hk h 31 fun l a hk h=>
 sX hK hk h 31 fun l a hk h=>
 sX hK hk h 31 fun l a hk h=>
 sX hK hk h 31 fun l a hk h=>
 sV (v:=.bool false) hk h (fun _ ho=>dI ho (sT h) rfl) fun l a hk h=>?_
 refine s0 hk (k _ ?_);rw[show decide (x.kd=2/\x.tk=1)=false by simp[c]];exact aN h
theorem ds9{i:Nat}(f:dA W p0 35 x.l)(h:Sl 85 [(1,aYW p0 0),(3,v),(4,.int .i64 (i:Int))] a)(k: ∀a,Sl 85 [(57,.bool (decide (i<x.L.length/\(x.kd=3\/x.kd=4)))),(1,aYW p0 0),(3,v),(4,.int .i64 (i:Int))] a->Q .normal a W):aOq.wpIn (FR r) 0 prog Q a W:=by
 refine aG [km 43 4,kf 44 35 1 4,kl 45 33 44,(none,some 46,.call ⟨.builtin .len,#[(.tmp 45)],#[33]⟩),(none,some 47,.binOp .lss 3 (.tmp 43) (.tmp 46) 3),km 48 47,kg 5 true (kf 49 35 1 0),kg 5 true (kl 50 5 49),(some (5,true),some 51,.binOp .eql 5 (.tmp 50) (.const (.int .u8 3)) 5),kg 5 true (km 52 51),kg 9 false (kf 53 35 1 0),kg 9 false (kl 54 5 53),(some (9,false),some 55,.binOp .eql 5 (.tmp 54) (.const (.int .u8 4)) 5),(some (5,true),some 56,.pick (.tmp 52) (.const (.bool true)) (.tmp 55)),(none,some 57,.pick (.tmp 48) (.tmp 56) (.const (.bool false)))] fun ops l hK hk=>?_;refine mV (v:=.int .i64 (i:Int)) hk h fun l a hk h=>
 sV (v:=aYW p0 (0+33)) hk h (fun _ ho=>aJ (b:=p0) (o':=0) pU ho (sT h)) fun l a hk h=>
 lV wU (v:=.slice x.bs x.L.length x.cp) hk h (aI (j:=0+33) f rfl) fun l a hk h=>
 sV (v:=.int .i64 (x.L.length:Int)) hk h (fun _ ho=>lM (s:=x.bs) (c:=x.cp) (el:=79) (by kernel_rfl) ho (sT h)) fun l a hk h=>
 sV (v:=.bool (decide ((i:Int)<(x.L.length:Int)))) hk h (fun _ ho=>mP (q:=.i64) ho (sT h) (sT h)) fun l a hk h=>
 mV (v:=.bool (decide ((i:Int)<(x.L.length:Int)))) hk h fun l a hk h=>?_
 by_cases c:i<x.L.length
 . rw[aDx (show(i:Int)<(x.L.length:Int) by omega)]at h;refine sG (v:=aYW p0 (0+0)) hK hk h 48 (fun _ ho=>aJ (b:=p0) (o':=0) sJ ho (sT h)) fun l a hk h=>
   sG (v:=.int .u8 x.kd) hK hk h 48 (fun _ ho=>gK (b:=p0) (off:=0+0) lY ho (sT h) (aI (j:=0+0) f rfl)) fun l a hk h=>
   sG (v:=.bool (decide (x.kd=3))) hK hk h 48 (fun _ ho=>jE (q:=.u8) ho (sT h) rfl) fun l a hk h=>
   mG (v:=.bool (decide (x.kd=3))) hK hk h 48 fun l a hk h=>?_
   by_cases c3:x.kd=3
   . rw[aDx c3]at h;refine sX hK hk h 52 fun l a hk h=>
     sX hK hk h 52 fun l a hk h=>
     sX hK hk h 52 fun l a hk h=>
     sG (v:=.bool true) hK hk h 48 (fun _ ho=>dR ho (sT h) rfl) fun l a hk h=>
     sV (v:=.bool true) hk h (fun _ ho=>dR ho (sT h) (sT h)) fun l a hk h=>?_
     refine s0 hk (k _ ?_);rw[aDx (show i<x.L.length/\(x.kd=3\/x.kd=4)from⟨c,.inl c3⟩)];exact aN h
   rw[aBW c3]at h;refine sG (v:=aYW p0 (0+0)) hK hk h 52 (fun _ ho=>aJ (b:=p0) (o':=0) sJ ho (sT h)) fun l a hk h=>
   sG (v:=.int .u8 x.kd) hK hk h 52 (fun _ ho=>gK (b:=p0) (off:=0+0) lY ho (sT h) (aI (j:=0+0) f rfl)) fun l a hk h=>
   sG (v:=.bool (decide (x.kd=4))) hK hk h 52 (fun _ ho=>jE (q:=.u8) ho (sT h) rfl) fun l a hk h=>
   sG (v:=.bool (decide (x.kd=4))) hK hk h 48 (fun _ ho=>dI ho (sT h) (sT h)) fun l a hk h=>
   sV (v:=.bool (decide (x.kd=4))) hk h (fun _ ho=>dR ho (sT h) (sT h)) fun l a hk h=>?_
   refine s0 hk (k _ ?_);rw[show decide (i<x.L.length/\(x.kd=3\/x.kd=4))=decide (x.kd=4) by simp[c,c3]];exact aN h
 rw[aBW (show ¬(i:Int)<(x.L.length:Int) by omega)]at h;refine sX hK hk h 48 fun l a hk h=>
 sX hK hk h 48 fun l a hk h=>
 sX hK hk h 48 fun l a hk h=>
 sX hK hk h 48 fun l a hk h=>?_
 refine sXU hK hk h 52 fun l a hk h=>?_;refine sXU hK hk h 52 fun l a hk h=>?_;refine sXU hK hk h 52 fun l a hk h=>?_;refine sX hK hk h 48 fun l a hk h=>
 sV (v:=.bool false) hk h (fun _ ho=>dI ho (sT h) rfl) fun l a hk h=>?_
 refine s0 hk (k _ ?_);rw[aBW (show ¬(i<x.L.length/\(x.kd=3\/x.kd=4))from fun h=>c h.1)];exact aN h
theorem aW9{i g o:Nat}(hi:i<x.L.length)(eb:x.bs=some ⟨g,o,none⟩)(hr:W.rangeAt g (o+i * 21) (x.L.getD i bQ).l)(f:dA W p0 35 x.l)(h:Sl 85 [(1,aYW p0 0),(3,v),(4,.int .i64 (i:Int))] a)(k: ∀a,Sl 85 [(74,.bool (x.L.getD i bQ).2.1),(1,aYW p0 0),(3,v),(4,.int .i64 (i:Int))] a->Q .normal a W):aHL.wpIn (FR r) 0 prog Q a W:=by
 refine aG [kf 69 35 1 4,kl 70 33 69,km 71 4,(none,some 72,.indexAddr 33 (.tmp 70) (.tmp 71)),kf 73 79 72 1,kl 74 4 73] fun ops l hK hk=>?_;refine sV (v:=aYW p0 (0+33)) hk h (fun _ ho=>aJ (b:=p0) (o':=0) pU ho (sT h)) fun l a hk h=>
 lV wU (v:=.slice x.bs x.L.length x.cp) hk h (aI (j:=0+33) f rfl) fun l a hk h=>
 mV (v:=.int .i64 (i:Int)) hk h fun l a hk h=>
 sV (v:=aYW g (o+i * 21)) hk h (fun _ ho=>fP (g:=g) (off:=o) (n:=x.L.length) (cp:=x.cp) (el:=79) (sz:=21) (by kernel_rfl) (by kernel_rfl) hi ho (by rw[<-eb];exact sT h) (sT h)) fun l a hk h=>
 sV (v:=aYW g (o+i * 21+10)) hk h (fun _ ho=>aJ (b:=g) (o':=o+i * 21) aA8 ho (sT h)) fun l a hk h=>
 lV OH (v:=.bool (x.L.getD i bQ).2.1) hk h (hr 10 _ rfl) fun l a hk h=>?_
 exact s0 hk (k _ (aN h))
end
def aCX(W:World)(ad:Option Addr)(ds:List Dt):Prop:= ∀k,k<ds.length-> ∃g,ad=some ⟨g,0,none⟩/\g<W.heap.size/\W.rangeAt g (k * 10) (nK (ds.getD k z0))
theorem aOx{ds:List Dt}{k j:Nat}{v:Value}(hk:k<ds.length)(hv:(nK (ds.getD k z0))[j]? =some v):(EK ds)[k * 10+j]? =some v:=by
 have hj:j<10:=(aED.1 hv).1
 induction ds generalizing k with
 |nil=>simp at hk
 | cons d ds ih=>
  rw[show EK (d::ds)=nK d++EK ds from rfl];cases k with
  |zero=>rw[Nat.zero_mul,aHG,aIG (by show j<10;exact hj)];exact hv
  |succ k=>
   rw[aJk (by show 10<=_;omega),show(k+1) * 10+j - (nK d).length=k * 10+j by show(k+1) * 10+j - 10=_;omega];exact ih (by simpa using hk) hv
theorem aHU{W:World}{n1:Nat}{v:Value}{ds:List Dt}(h:W.ownsRow n1 30 10 v ds.length (EK ds)): ∃ad cap,v=.slice ad ds.length cap/\aCX W ad ds:=by
 rcases h.2 with⟨rfl,e⟩|⟨g,cap,cur,rfl,q1,q2,q3,q4,q5,q6⟩
 . exact⟨none,0,by rw[e],fun k hk=>by omega⟩
 refine⟨some ⟨g,0,none⟩,cap,rfl,fun k hk=>⟨g,rfl,(aEH.1 q2).1,fun j u hu=>?_⟩⟩;have hu:=aOx hk hu;rw[<-q6]at hu;have hc:cur[k * 10+j]? =some u:=by
  rw[<-aEt];rw[aPh]at hu;split at hu
  . exact hu
  cases hu
 simp[World.cell?,q2,hc]
theorem SX(L:List lK): ∀i,(AX L i).length<=2 * i
 |0=>aC4 _
 |i+1=>by
  show(AX L i++_).length<=_;rw[aLx];have h1:((L.getD i bQ).1::(if(L.getD i bQ).2.1 then[(L.getD i bQ).2.2]else[])).length<=2:=by split<;>simp
  have h2:=SX L i;omega
section
variable{w0:World}{x:Xp}
abbrev dsL:Code:=.seq aTn (.block 0 (.loop (.seq (.seq aOq (.cond (.tmp 57) .skip (.exit 0))) (.seq (.block 1 (.seq aHM (.seq aHL (.cond (.tmp 74) aHK .skip)))) aHN))))
abbrev DsR(x:Xp)(w:World)(e:Ending)(w':World):Prop:= ∃ad cap,e=.returned (.slice ad x.nU.length cap)/\aCX w' ad x.nU/\Below w.heap.size w w'
abbrev DsP(x:Xp)(w:World):Exit->Act->World->Prop:=bodyPost prog f30 (DsR x w)
theorem aHT(hkd:x.kd=1\/x.kd=2\/x.kd=3\/x.kd=4)(hn:x.L.length<=256)(w:World)(hI:gW w x.bs x.L):
 Calls prog 30 #[x.v] w (DsR x w):=by
 refine(aMd (n:=0)).1 ?_;refine fM (args:=[x.v]) (N:=85) func30 (show _=some YL by kernel_rfl) ntmps30 (by simp) fun a h=>?_;rw[aW6];refine aDs (aG [(none,some 1,.box 35 (.tmp 0)),kc 2 (.slice none 0 0)] fun ops l hK hk=>?_);refine sV (v:=aYW w.heap.size 0) hk h (fun _ ho=>rJ (v:=x.v) ho (sT h) rfl) fun l a hk h=>?_;have A0:Al w (w.alloc (.cells x.l.toArray 35)) w.heap.size 35 x.l:=dN x.l;change wpListIn _ _ _ _ _ _ _ (w.alloc (.cells x.l.toArray 35));generalize w.alloc (.cells x.l.toArray 35)=W0 at A0 ⊢;obtain⟨p0,hp0⟩: ∃p,p=w.heap.size:=⟨_,rfl⟩;rw[<-hp0]at A0 h;obtain⟨n1,hn1⟩: ∃n,n=W0.heap.size:=⟨_,rfl⟩;have y0:=A0.2.1;refine aC hk h fun l a hk h=>?_;have f0:=A0.2.2.2.1;have b0:Below w.heap.size w W0:=dZ A0;refine s0 hk (aDs (aG [kc 3 (.slice none 0 0)] fun ops l hK hk=>?_));refine aC hk h fun l a hk h=>?_;have h:Sl 85 [(1,aYW p0 0),(3,.slice none 0 0)] a:=aN h;have st0: ∀W,Below n1 W0 W->Below w.heap.size w W/\dA W p0 35 x.l/\n1<=W.heap.size/\gW W x.bs x.L:=fun W B=>by
  have B':Below w.heap.size w W:=vC b0 B (by omega);exact⟨B',aT f0 (B.block p0 (by omega)),by have:=B.size;omega,qP hI B'.size B'.block⟩
 have o0:W0.ownsRow n1 30 10 (.slice none 0 0) ([]:List Dt).length (EK []):=aRr _ _ _ _;have fin: ∀W v a,Below n1 W0 W->W.ownsRow n1 30 10 v x.nU.length (EK x.nU)->Sl 85 [(1,aYW p0 0),(3,v)] a->(Code.seq P9 .ret).wpIn (FR none) 0 prog (DsP x w) a W:=by
  intro W v a B hown h;obtain⟨ad,cap,rfl,hD⟩:=aHU hown;refine aDs (aG [km 84 3,ka 2 84] fun ops l hK hk=>?_);refine mV (v:=.slice ad x.nU.length cap) hk h fun l a hk h=>
  aV (v:=.slice ad x.nU.length cap) hk h fun l a hk h=>?_
  refine s0 hk (aMu ?_);exact fF (R:=DsR x w) (i:=2) (v:=.slice ad x.nU.length cap) h results30 (by simp) ⟨_,_,rfl,hD,(st0 W B).1⟩
 have loop: ∀W v a ds,Below n1 W0 W->W.ownsRow n1 30 10 v ds.length (EK ds)->ds.length<=2->x.nU=ds++(if x.kd=3\/x.kd=4 then AX x.L x.L.length else[])->Sl 85 [(1,aYW p0 0),(3,v)] a->
  (Code.seq dsL (.seq P9 .ret)).wpIn (FR none) 0 prog (DsP x w) a W:=by
  intro W v a ds B hown hds hx h;refine aDs (aDs (aG [kc 4 (.int .i64 0)] fun ops l hK hk=>?_));refine sV (v:=.int .i64 ((0:Nat):Int)) hk h (fun _ ho=>BZ ho rfl) fun l a hk h=>?_;refine s0 hk (aLs (gQ (fun m a W=> ∃i v,m+i=x.L.length/\Below n1 W0 W/\W.ownsRow n1 30 10 v (ds++AX x.L i).length (EK (ds++AX x.L i))/\(0<i->x.kd=3\/x.kd=4)/\Sl 85 [(1,aYW p0 0),(3,v),(4,.int .i64 (i:Int))] a) ?_ (m:=x.L.length) ⟨0,v,rfl,B,by rw[show AX x.L 0=[]from rfl,aO6];exact hown,fun h=>absurd h (Nat.lt_irrefl _),aN h⟩));intro m a W ⟨i,v,hm,B,hown,hi0,h⟩;obtain⟨B',f,hs,hIt⟩:=st0 W B;refine aDs (aDs (ds9 f h fun a h=>?_));refine cZ (t:=decide (i<x.L.length/\(x.kd=3\/x.kd=4))) h (by simp) (fun c=>aJt ?_) (fun c=>aRf ?_)
  . obtain⟨hi,aWy⟩:=aEF c;obtain⟨g,o,eb,hg,hr⟩:=hIt i hi;have hlen:(ds++AX x.L i).length<9000:=by
     have:=SX x.L i;rw[aLx];omega
    refine aDs (aLs (aDs ?_));refine aXa hi eb hr f hown hs (by omega) (aN h) fun a W2 v2 KZ B2 h=>?_;have B:=vC B B2 (aC4 _);obtain⟨B',f,hs,hIt⟩:=st0 W2 B;obtain⟨g',o',eb',hg,hr⟩:=hIt i hi;rw[eb]at eb';cases eb';refine aDs (aW9 hi eb hr f h fun a h=>?_);have nxt: ∀W3 v3 a,Below n1 W0 W3->W3.ownsRow n1 30 10 v3 (ds++AX x.L (i+1)).length (EK (ds++AX x.L (i+1)))->Sl 85 [(1,aYW p0 0),(3,v3),(4,.int .i64 (i:Int))] a->aHN.wpIn (FR none) 0 prog (Exit.then (fun a' w'=> ∃m',m'<m/\ ∃i v,m'+i=x.L.length/\Below n1 W0 w'/\w'.ownsRow n1 30 10 v (ds++AX x.L i).length (EK (ds++AX x.L i))/\(0<i->x.kd=3\/x.kd=4)/\Sl 85 [(1,aYW p0 0),(3,v),(4,.int .i64 (i:Int))] a') (Exit.inBlock 0 (Exit.then (fun a' w'=>(Code.seq P9 .ret).wpIn (FR none) 0 prog (DsP x w) a' w') (DsP x w)))) a W3:=by
     intro W3 v3 a B hown h;refine aG [km 58 4,(none,some 59,.binOp .add 3 (.tmp 58) (.const (.int .i64 1)) 3),ka 4 59] fun ops l hK hk=>?_;refine mV (v:=.int .i64 (i:Int)) hk h fun l a hk h=>
     sV (v:=.int .i64 ((i:Int)+1)) hk h (fun _ ho=>rM ho (sT h) rfl (wrap_succ hi (by omega))) fun l a hk h=>
     aV (v:=.int .i64 ((i:Int)+1)) hk h fun l a hk h=>?_
     exact s0 hk ⟨m - 1,by omega,i+1,v3,by omega,B,hown,fun _=>aWy,by rw[aNq];exact aN h⟩
    have e1:AX x.L (i+1)=AX x.L i++((x.L.getD i bQ).1::(if(x.L.getD i bQ).2.1 then[(x.L.getD i bQ).2.2]else[])):=rfl;refine cZ (t:=(x.L.getD i bQ).2.1) h (by simp) (fun c1=>?_) (fun c1=>aJt ?_)
    . refine aW8 hi eb hr f KZ hs (by rw[aLx];simp only[aPk,List.length_nil];omega) (aN h) fun a W3 v3 aV8 B3 h=>?_;refine nxt W3 v3 a (vC B B3 (aC4 _)) ?_ h;rw[e1,aEo c1,show ds++(AX x.L i++[(x.L.getD i bQ).1,(x.L.getD i bQ).2.2])=ds++AX x.L i++[(x.L.getD i bQ).1]++[(x.L.getD i bQ).2.2] by simp];exact aV8
    refine nxt W2 v2 a B ?_ (aN h);rw[e1,aEg (by rw[c1];simp),show ds++(AX x.L i++[(x.L.getD i bQ).1])=ds++AX x.L i++[(x.L.getD i bQ).1] by simp];exact KZ
  have c:=aIH c;refine fin W v a B ?_ (aN h);have e:x.nU=ds++AX x.L i:=by
   rw[hx];by_cases k34:x.kd=3\/x.kd=4
   . rw[aEo k34];have:i=x.L.length:=aT7 fun h=>c ⟨by omega,k34⟩;rw[this]
   rw[aEg k34];have:i=0:=aT7 fun h=>k34 (hi0 (by omega));rw[this];rfl
  rw[e];exact hown
 have p6: ∀W v a ds,Below n1 W0 W->W.ownsRow n1 30 10 v ds.length (EK ds)->ds.length<=1->x.nU=ds++(if x.kd=2/\x.tk=1 then[x.t]else[])++(if x.kd=3\/x.kd=4 then AX x.L x.L.length else[])->Sl 85 [(1,aYW p0 0),(3,v)] a->
  (Code.seq (.seq aK1 (.cond (.tmp 36) aKZ .skip)) (.seq dsL (.seq P9 .ret))).wpIn (FR none) 0 prog (DsP x w) a W:=by
  intro W v a ds B hown hds hx h;obtain⟨B',f,hs,hIt⟩:=st0 W B;refine aDs (aDs (ds6 f h fun a h=>?_));refine cZ (t:=decide (x.kd=2/\x.tk=1)) h (by simp) (fun c=>?_) (fun c=>aJt ?_)
  . rw[aEo (aEF c)]at hx;exact ds7 f hown hs (by omega) (aN h) fun a W2 v2 KZ B2 h=>loop W2 v2 a _ (vC B B2 (aC4 _)) KZ (by rw[aLx];simp only[aPk,List.length_nil];omega) hx h
  rw[aEg (aIH c),aO6]at hx;exact loop W v a ds B hown (by omega) hx (aN h)
 have p4: ∀W v a ds,Below n1 W0 W->W.ownsRow n1 30 10 v ds.length (EK ds)->ds.length<=1->(ds≠[]->x.kd=1)->x.nU=ds++(if x.kd=2/\x.fk=1 then[x.f]else[])++(if x.kd=2/\x.tk=1 then[x.t]else[])++(if x.kd=3\/x.kd=4 then AX x.L x.L.length else[])->Sl 85 [(1,aYW p0 0),(3,v)] a->
  (Code.seq (.seq aOs (.cond (.tmp 21) aOr .skip)) (.seq (.seq aK1 (.cond (.tmp 36) aKZ .skip)) (.seq dsL (.seq P9 .ret)))).wpIn (FR none) 0 prog (DsP x w) a W:=by
  intro W v a ds B hown hds hd1 hx h;obtain⟨B',f,hs,hIt⟩:=st0 W B;refine aDs (aDs (ds4 f h fun a h=>?_));refine cZ (t:=decide (x.kd=2/\x.fk=1)) h (by simp) (fun c=>?_) (fun c=>aJt ?_)
  . have c:=aEF c;rw[aEo c]at hx;have hnil:ds=[]:=by
     cases ds with
     |nil=>rfl
     |cons d ds=>have:=hd1 (by simp);omega
    subst hnil;exact ds5 f hown hs (by simp) (aN h) fun a W2 v2 KZ B2 h=>p6 W2 v2 a _ (vC B B2 (aC4 _)) KZ (by simp) hx h
  rw[aEg (aIH c),aO6]at hx;exact p6 W v a ds B hown hds hx (aN h)
 have aKP:x.nU=(if x.kd=1 then[x.d]else[])++(if x.kd=2/\x.fk=1 then[x.f]else[])++(if x.kd=2/\x.tk=1 then[x.t]else[])++(if x.kd=3\/x.kd=4 then AX x.L x.L.length else[]):=by
  unfold Xp.nU;rcases hkd with k|k|k|k<;>simp[k]
 refine s0 hk (aDs (aDs (aG [kf 5 35 1 0,kl 6 5 5,(none,some 7,.binOp .eql 5 (.tmp 6) (.const (.int .u8 1)) 5)] fun ops l hK hk=>?_)));refine sV (v:=aYW p0 (0+0)) hk h (fun _ ho=>aJ (b:=p0) (o':=0) sJ ho (sT h)) fun l a hk h=>
 lV lY (v:=.int .u8 x.kd) hk h (aI (j:=0+0) f0 rfl) fun l a hk h=>
 sV (v:=.bool (decide (x.kd=1))) hk h (fun _ ho=>jE (q:=.u8) ho (sT h) rfl) fun l a hk h=>?_
 refine s0 hk (cZ (t:=decide (x.kd=1)) h (by simp) (fun c=>?_) (fun c=>aJt ?_))
 . have c:=aEF c;rw[aEo c]at aKP;exact ds3 f0 o0 (by omega) (by simp) (aN h) fun a W2 v2 KZ B2 h=>p4 W2 v2 a _ B2 KZ (by simp) (fun _=>c) aKP h
 rw[aEg (aIH c)]at aKP;exact p4 W0 _ a [] (aDA _ _) o0 (by simp) (fun h=>absurd rfl h) aKP (aN h)
end
noncomputable def wrC:Code:=match(f8).body with
 |some c=>c
 |none=>.skip
noncomputable def aP0:Code:=bF [1,1,1,0,1,0,0,1,0,0,1,0,0,1,1] wrC
noncomputable def aP1:Code:=bF [1,1,1,0,1,0,0,1,1] wrC
theorem aVc:wrC=(.seq (bF [0] wrC) (.seq (bF [1,0] wrC) (.seq (bF [1,1,0] wrC) (.seq (.seq (bF [1,1,1,0,0] wrC) (.block 0 (.loop (.seq (.seq (bF [1,1,1,0,1,0,0,0,0] wrC) (.cond (.tmp 12) .skip (.exit 0))) (.seq (.block 1 (.seq (bF [1,1,1,0,1,0,0,1,0,0,0] wrC) (.block 2 (.loop (.seq (.seq (bF [1,1,1,0,1,0,0,1,0,0,1,0,0,0,0] wrC) (.cond (.tmp 21) .skip (.exit 2))) (.seq (.block 3 (bF [1,1,1,0,1,0,0,1,0,0,1,0,0,1,0,0] wrC)) aP0)))))) aP1))))) (.seq (bF [1,1,1,1,0] wrC) .ret))))):=by kernel_rfl
noncomputable def prC:Code:=match(f31).body with
 |some c=>c
 |none=>.skip
noncomputable def aRS:Code:=bF [1,1,1,0,0] prC
noncomputable def aRR:Code:=bF [1,1,1,0,1,0] prC
noncomputable def aNp:Code:=bF [1,1,1,1,0] prC
theorem aV4:prC=(.seq (bF [0] prC) (.seq (bF [1,0] prC) (.seq (.seq (bF [1,1,0,0] prC) (.cond (.tmp 7) (bF [1,1,0,1,0] prC) .skip)) (.seq (.seq aRS (.cond (.tmp 11) aRR .skip)) (.seq aNp .ret))))):=by kernel_rfl
section
variable{P:Program}{W:World}{a:Act}{o:Oper}{t:TypeId}{x:Operand}
theorem aFx{s:ByteArray}(hu:P.underlying t=some .string)(ho:o.op=.call ⟨.builtin .len,#[x],#[t]⟩)(hx:a.eval x=.string s):(execOp a.eval o).run P W=.ok (.value (.int .i64 s.size)) W:=by
 have hx':(#[x]:Array Operand).map a.eval= #[.string s]:=by simp[hx]
 unfold execOp;simp only[ho,resolve,hx',aDt,aD0,aBF,invoke];simp[builtin,Builtin.len_,aEG hu,goInt]
end
def BQ(d:Dt):Nat:=if 0<d.da.size then 3 else if 0<d.mo.size then 2 else 1
theorem u9:prog.underlying 9=some .string:=by kernel_rfl
theorem aDn(d:Dt)(w:World):Calls prog 31 #[.agg (nK d).toArray] w fun e w'=>e=.returned (.int .i64 (BQ d:Int))/\Below w.heap.size w w':=by
 refine(aMd (n:=0)).1 ?_;refine fM (args:=[.agg (nK d).toArray]) (N:=13) func31 (show _=some prC by kernel_rfl) ntmps31 (by simp) fun a h=>?_;rw[aV4];refine aDs (aG [(none,some 1,.box 30 (.tmp 0)),kc 2 (.int .i64 0)] fun ops l hK hk=>?_);refine sV (v:=aYW w.heap.size 0) hk h (fun _ ho=>rJ (v:=.agg (nK d).toArray) ho (sT h) rfl) fun l a hk h=>?_;have A0:Al w (w.alloc (.cells (nK d).toArray 30)) w.heap.size 30 (nK d):=dN (nK d);change wpListIn _ _ _ _ _ _ _ (w.alloc (.cells (nK d).toArray 30));generalize w.alloc (.cells (nK d).toArray 30)=W0 at A0 ⊢;obtain⟨p0,hp0⟩: ∃p,p=w.heap.size:=⟨_,rfl⟩;rw[<-hp0]at A0 h;have f0:=A0.2.2.2.1;have b0:Below w.heap.size w W0:=dZ A0;refine aC hk h fun l a hk h=>?_;refine s0 hk (aDs (aG [kc 3 (.int .i64 1)] fun ops l hK hk=>?_));refine aC hk h fun l a hk h=>?_;have fin: ∀(n:Nat) a,n=BQ d->Sl 13 [(1,aYW p0 0),(3,.int .i64 (n:Int))] a->(Code.seq aNp .ret).wpIn (FR none) 0 prog (bodyPost prog f31 fun e w'=>e=.returned (.int .i64 (BQ d:Int))/\Below w.heap.size w w') a W0:=by
  intro n a hn h;refine aDs (aG [km 12 3,ka 2 12] fun ops l hK hk=>?_);refine mV (v:=.int .i64 (n:Int)) hk h fun l a hk h=>
  aV (v:=.int .i64 (n:Int)) hk h fun l a hk h=>?_
  refine s0 hk (aMu ?_);exact fF (R:=fun e w'=>e=.returned (.int .i64 (BQ d:Int))/\Below w.heap.size w w') (i:=2) (v:=.int .i64 (n:Int)) h results31 (by simp) ⟨by rw[hn],b0⟩
 have p4: ∀(n:Nat) a,n=(if 0<d.mo.size then 2 else 1)->Sl 13 [(1,aYW p0 0),(3,.int .i64 (n:Int))] a->(Code.seq (.seq aRS (.cond (.tmp 11) aRR .skip)) (.seq aNp .ret)).wpIn (FR none) 0 prog (bodyPost prog f31 fun e w'=>e=.returned (.int .i64 (BQ d:Int))/\Below w.heap.size w w') a W0:=by
  intro n a hn h;refine aDs (aDs (aG [kf 8 30 1 2,kl 9 9 8,(none,some 10,.call ⟨.builtin .len,#[(.tmp 9)],#[9]⟩),(none,some 11,.binOp .gtr 3 (.tmp 10) (.const (.int .i64 0)) 3)] fun ops l hK hk=>?_));refine sV (v:=aYW p0 (0+6)) hk h (fun _ ho=>aJ (b:=p0) (o':=0) aHs ho (sT h)) fun l a hk h=>
  lV aJ0 (v:=.string d.da) hk h (aI (j:=0+6) f0 rfl) fun l a hk h=>
  sV (v:=.int .i64 (d.da.size:Int)) hk h (fun _ ho=>aFx u9 ho (sT h)) fun l a hk h=>
  sV (v:=.bool (decide ((0:Int)<(d.da.size:Int)))) hk h (fun _ ho=>aB0 (q:=.i64) ho (sT h) rfl) fun l a hk h=>?_
  refine s0 hk (cZ (t:=decide ((0:Int)<(d.da.size:Int))) h (by simp) (fun c=>aG [kc 3 (.int .i64 3)] fun ops l hK hk=>?_) (fun c=>aJt ?_))
  . have c:=aEF c;refine aC hk h fun l a hk h=>?_;exact s0 hk (fin 3 a (by unfold BQ;rw[aEo (by omega)]) (aN h))
  have c:=aIH c;exact fin n a (by unfold BQ;rw[aEg (by omega)];exact hn) (aN h)
 refine s0 hk (aDs (aDs (aG [kf 4 30 1 1,kl 5 9 4,(none,some 6,.call ⟨.builtin .len,#[(.tmp 5)],#[9]⟩),(none,some 7,.binOp .gtr 3 (.tmp 6) (.const (.int .i64 0)) 3)] fun ops l hK hk=>?_)));refine sV (v:=aYW p0 (0+5)) hk h (fun _ ho=>aJ (b:=p0) (o':=0) aHt ho (sT h)) fun l a hk h=>
 lV aJ0 (v:=.string d.mo) hk h (aI (j:=0+5) f0 rfl) fun l a hk h=>
 sV (v:=.int .i64 (d.mo.size:Int)) hk h (fun _ ho=>aFx u9 ho (sT h)) fun l a hk h=>
 sV (v:=.bool (decide ((0:Int)<(d.mo.size:Int)))) hk h (fun _ ho=>aB0 (q:=.i64) ho (sT h) rfl) fun l a hk h=>?_
 refine s0 hk (cZ (t:=decide ((0:Int)<(d.mo.size:Int))) h (by simp) (fun c=>aG [kc 3 (.int .i64 2)] fun ops l hK hk=>?_) (fun c=>aJt ?_))
 . have c:=aEF c;refine aC hk h fun l a hk h=>?_;exact s0 hk (p4 2 a (by rw[aEo (by omega)]) (aN h))
 have c:=aIH c;exact p4 1 a (by rw[aEg (by omega)]) (aN h)
theorem apl{W:World}{n1 q:Nat}{v:Value}{x:Xp}(hown:W.ownsRow n1 46 3 v q (x.cls q))(hn1:n1<=W.heap.size)(hk:q<10000000):
 ∃v' W2,(∀ty,(Builtin.append_ #[37,37] ty #[v,.slice (some ⟨W.heap.size,0,none⟩) 1 1]).run prog (W.alloc (.cells (x.cl q).toArray 46))=.ok v' W2)/\W2.ownsRow n1 46 3 v' (q+1) (x.cls (q+1))/\Below n1 W W2:=by
 obtain⟨i,i1,i2,i3,i4⟩:=info46;have hA:Al W (W.alloc (.cells (x.cl q).toArray 46)) W.heap.size 46 (x.cl q):=dN (x.cl q);have hown:=hown.alloc (.cells (x.cl q).toArray 46);generalize W.alloc (.cells (x.cl q).toArray 46)=W1 at hA hown ⊢;obtain⟨e1,k1⟩:=gV hA;have z1:=hA.2.1;obtain⟨v',W2,hrun,r1,r2,r3,r4⟩:=aUN (P:=prog) W1 n1 37 0 46 i _ 3 24 (by kernel_rfl) i1 i2 i3 i4 rfl (by decide) v q (x.cls q) hown ⟨W.heap.size,0,none⟩ 1 1 (x.cl q) rfl
  (fun j u hu=>by have:=aO hA.2.2.2.1 j u hu;rw[aSD];exact this) (NI x q) (by simp only[maxLen];omega) (by omega) (by omega)
 refine⟨v',W2,fun ty=>hrun,by rw[x.D6];exact r1,?_⟩;have own: ∀g,v.ownBlock=some g->n1<=g:=fun g hg=>(KX hown hg).1;exact⟨r2.os.trans hA.2.2.2.2.1,r2.tape.trans hA.2.2.2.2.2.1,r2.output.trans hA.2.2.2.2.2.2,by have:=r2.size;omega,fun b hb=>(r2.block b (by omega) (fun e=>by have:=own b e.symm;omega)).trans (k1 b (by omega))⟩
theorem aKF{W:World}{n1 n:Nat}{v:Value}{x:Xp}(h:W.ownsRow n1 46 3 v n (x.cls n)): ∃ad cap,v=.slice ad n cap/\jA W ad n x.cl:=by
 rcases h.2 with⟨rfl,e⟩|⟨g,cap,cur,rfl,q1,q2,q3,q4,q5,q6⟩
 . exact⟨none,0,by rw[e],fun k hk=>by omega⟩
 refine⟨some ⟨g,0,none⟩,cap,rfl,fun k hk=>⟨g,rfl,(aEH.1 q2).1,fun j u hu=>?_⟩⟩;have hu:=x.aH5 hk hu;rw[<-q6]at hu;have hc:cur[k * 3+j]? =some u:=by
  rw[<-aEt];rw[aPh]at hu;split at hu
  . exact hu
  cases hu
 simp[World.cell?,q2,hc]
theorem u28:prog.underlying 28=some (.array 3 5):=by kernel_rfl
section
variable{x:Xp}
abbrev Xp.q0(x:Xp)(k:Nat):Nat:=(vN x.PT k).length
theorem aTA{k j:Nat}(hk:k<x.nU.length)(hj:j<x.PT k):x.cl (x.q0 k+j)=[.int .i64 (k:Int),.int .i64 (j:Int),.int .u8 (mkv (x.dt k) j)]/\x.q0 k+j<x.pl.length:=by
 obtain⟨e,l⟩:=aFN x.PT hk hj;refine⟨?_,l⟩;have e':x.pl.getD (x.q0 k+j) (0,0)=(k,j):=e;unfold Xp.cl;rw[e']
abbrev WrR(x:Xp)(w:World)(e:Ending)(w':World):Prop:= ∃ad cap,e=.returned (.slice ad x.pl.length cap)/\jA w' ad x.pl.length x.cl/\Below w.heap.size w w'
theorem PI(hkd:x.kd=1\/x.kd=2\/x.kd=3\/x.kd=4)(hn:x.L.length<=256)(hp: ∀k,k<x.nU.length->BQ (x.dt k)=x.PT k)(w:World)(hI:gW w x.bs x.L):
 Calls prog 8 #[x.v] w (WrR x w):=by
 refine(aMd (n:=0)).1 ?_;refine fM (args:=[x.v]) (N:=38) func8 (show _=some wrC by kernel_rfl) ntmps8 (by simp) fun a h=>?_;rw[aVc];refine aDs (aG [(none,some 1,.box 35 (.tmp 0)),kc 2 (.slice none 0 0)] fun ops l hK hk=>?_);refine sV (v:=aYW w.heap.size 0) hk h (fun _ ho=>rJ (v:=x.v) ho (sT h) rfl) fun l a hk h=>?_;have A0:Al w (w.alloc (.cells x.l.toArray 35)) w.heap.size 35 x.l:=dN x.l;change wpListIn _ _ _ _ _ _ _ (w.alloc (.cells x.l.toArray 35));generalize w.alloc (.cells x.l.toArray 35)=W0 at A0 ⊢;obtain⟨p0,hp0⟩: ∃p,p=w.heap.size:=⟨_,rfl⟩;rw[<-hp0]at A0 h;have f0:=A0.2.2.2.1;have b0:Below w.heap.size w W0:=dZ A0;refine aC hk h fun l a hk h=>?_;refine s0 hk (aDs (aG [kc 3 (.slice none 0 0)] fun ops l hK hk=>?_));refine aC hk h fun l a hk h=>?_;refine s0 hk (aDs (aG [kl 7 35 1,(none,some 8,.call ⟨.value (.func 30),#[(.tmp 7)],#[35]⟩),ka 4 8] fun ops l hK hk=>?_));refine sV (v:=x.v) hk h (fun _ ho=>bC (aO f0) underlying35 rfl (by kernel_rfl) ho (sT h)) fun l a hk h=>?_;refine sc hk h rfl (by decide) (fun _ ho=>fU ho func30) (R:=DsR x W0) (by rw[aHe,sT h (v:=x.v)];exact aHT hkd hn W0 (qP hI b0.size b0.block)) (fun e W1 ⟨ad,cap,ev,hD,B1⟩=>⟨_,ev,fun l a hk h=>?_⟩);refine aV (v:=.slice ad x.nU.length cap) hk h fun l a hk h=>?_;have b1:Below w.heap.size w W1:=bD b0 B1 (aC4 _);have s1:=b1.size;obtain⟨n1,hn1⟩: ∃n,n=W1.heap.size:=⟨_,rfl⟩;have hND:x.nU.length<=600:=by
  have:=x.aIE 0;have h2:=aBj (kd:=x.kd) (fk:=x.fk) (tk:=x.tk) (pe:=0) (bs:=x.bs) (R:=x.R) (by rw[x.NY];omega);have h3:=x.GN hn;unfold Xp.nU;split
  . simp
  split
  . split<;>split<;>simp
  have:=SX x.L x.L.length;omega
 have st: ∀W,Below n1 W1 W->n1<=W.heap.size/\Below w.heap.size w W:=fun W B=>⟨by have:=B.size;omega,vC b1 B (by omega)⟩;have hdat: ∀W k,Below n1 W1 W->k<x.nU.length-> ∃g,ad=some ⟨g,0,none⟩/\W.rangeAt g (k * 10) (nK (x.dt k)):=fun W k B hk=>by
  obtain⟨g,e,hg,hr⟩:=hD k hk;exact⟨g,e,fun j v hv=>(aWK (B.block g (by omega))).trans (hr j v hv)⟩
 have aZ2:=x.GN hn;refine s0 hk (aDs (aDs (aG [kc 5 (.int .i64 0)] fun ops l hK hk=>?_)));refine sV (v:=.int .i64 ((0:Nat):Int)) hk h (fun _ ho=>BZ ho rfl) fun l a hk h=>?_;refine s0 hk (aLs (gQ (fun m a W=> ∃k v,m+k=x.nU.length/\Below n1 W1 W/\W.ownsRow n1 46 3 v (x.q0 k) (x.cls (x.q0 k))/\Sl 38 [(4,.slice ad x.nU.length cap),(3,v),(5,.int .i64 (k:Int))] a) ?_ (m:=x.nU.length) ⟨0,.slice none 0 0,rfl,aDA _ _,aRr _ _ _ _,aN h⟩));intro m a W ⟨k,v,hm,B,hown,h⟩;obtain⟨hs,B'⟩:=st W B;refine aDs (aDs (aG [km 9 5,km 10 4,(none,some 11,.call ⟨.builtin .len,#[(.tmp 10)],#[85]⟩),(none,some 12,.binOp .lss 3 (.tmp 9) (.tmp 11) 3)] fun ops l hK hk=>?_));refine mV (v:=.int .i64 (k:Int)) hk h fun l a hk h=>
 mV (v:=.slice ad x.nU.length cap) hk h fun l a hk h=>
 sV (v:=.int .i64 (x.nU.length:Int)) hk h (fun _ ho=>lM (s:=ad) (c:=cap) (el:=30) (by kernel_rfl) ho (sT h)) fun l a hk h=>
 sV (v:=.bool (decide ((k:Int)<(x.nU.length:Int)))) hk h (fun _ ho=>mP (q:=.i64) ho (sT h) (sT h)) fun l a hk h=>?_
 refine s0 hk (cZ (t:=decide ((k:Int)<(x.nU.length:Int))) h (by simp) (fun c=>aJt ?_) (fun c=>aRf ?_))
 . have hk1:k<x.nU.length:=by have:=aEF c;omega
   refine aDs (aLs (aDs (aG [kc 6 (.int .i64 0)] fun ops l hK hk=>?_)));refine sV (v:=.int .i64 ((0:Nat):Int)) hk h (fun _ ho=>BZ ho rfl) fun l a hk h=>?_;refine s0 hk (aLs (gQ (fun m' a W=> ∃j v,m'+j=x.PT k/\Below n1 W1 W/\W.ownsRow n1 46 3 v (x.q0 k+j) (x.cls (x.q0 k+j))/\Sl 38 [(4,.slice ad x.nU.length cap),(3,v),(5,.int .i64 (k:Int)),(6,.int .i64 (j:Int))] a) ?_ (m:=x.PT k) ⟨0,v,rfl,B,hown,aN h⟩));clear h hown B B' hs;intro m' a W ⟨j,v,hm',B,hown,h⟩;obtain⟨hs,B'⟩:=st W B;obtain⟨g,rfl,hr⟩:=hdat W k B hk1;refine aDs (aDs (aG [km 15 6,km 16 4,km 17 5,(none,some 18,.indexAddr 85 (.tmp 16) (.tmp 17)),kl 19 30 18,(none,some 20,.call ⟨.value (.func 31),#[(.tmp 19)],#[30]⟩),(none,some 21,.binOp .lss 3 (.tmp 15) (.tmp 20) 3)] fun ops l hK hk=>?_));refine mV (v:=.int .i64 (j:Int)) hk h fun l a hk h=>
   mV (v:=.slice (some ⟨g,0,none⟩) x.nU.length cap) hk h fun l a hk h=>
   mV (v:=.int .i64 (k:Int)) hk h fun l a hk h=>
   sV (v:=aYW g (0+k * 10)) hk h (fun _ ho=>fP (g:=g) (off:=0) (n:=x.nU.length) (cp:=cap) (el:=30) (sz:=10) (by kernel_rfl) (by kernel_rfl) hk1 ho (sT h) (sT h)) fun l a hk h=>
   sV (v:=.agg (nK (x.dt k)).toArray) hk h (fun _ ho=>bC (b:=g) (off:=0+k * 10) (cs:=nK (x.dt k)) (by rw[aHG];exact hr) underlying30 rfl (by kernel_rfl) ho (sT h)) fun l a hk h=>?_
   refine sc hk h rfl (by decide) (fun _ ho=>fU ho func31) (R:=fun e w'=>e=.returned (.int .i64 (BQ (x.dt k):Int))/\Below W.heap.size W w') (by rw[aHe,sT h (v:=.agg (nK (x.dt k)).toArray)];exact aDn (x.dt k) W) (fun e W2 hR=>⟨_,hR.1,fun l a hk h=>?_⟩);rw[hp k hk1]at h;have B2:=hR.2;have hown:W2.ownsRow n1 46 3 v (x.q0 k+j) (x.cls (x.q0 k+j)):=KY hown (fun g hg=>B2.block g (KX hown hg).2);have B:Below n1 W1 W2:=vC B B2 hs;obtain⟨hs,B'⟩:=st W2 B;obtain⟨g',e',hr⟩:=hdat W2 k B hk1;cases e';refine sV (v:=.bool (decide ((j:Int)<(x.PT k:Int)))) hk h (fun _ ho=>mP (q:=.i64) ho (sT h) (sT h)) fun l a hk h=>?_;refine s0 hk (cZ (t:=decide ((j:Int)<(x.PT k:Int))) h (by simp) (fun c=>aJt ?_) (fun c=>aRf ?_))
   . have hj:j<x.PT k:=by have:=aEF c;omega
     have hj3:j<3:=aG0 hj (RF _ _);obtain⟨ecl,hql⟩:=aTA hk1 hj;obtain⟨v',W3,hrun,r1,r2⟩:=apl hown hs (by omega);rw[ecl]at hrun;refine aDs (aLs (aG [km 24 3,km 25 5,km 26 6,km 27 4,km 28 5,km 29 6,(none,some 30,.indexAddr 85 (.tmp 27) (.tmp 28)),kf 31 30 30 3,(none,some 32,.indexAddr 28 (.tmp 31) (.tmp 29)),kl 33 5 32,(none,some 34,.build 46 #[(0,(.tmp 25)),(1,(.tmp 26)),(2,(.tmp 33))]),(none,some 35,.buildSlice 37 1 #[(0,(.tmp 34))]),(none,some 36,.call ⟨.builtin .append,#[(.tmp 24),(.tmp 35)],#[37,37]⟩),ka 3 36] fun ops l hK hk=>?_));refine mV (v:=v) hk h fun l a hk h=>
     mV (v:=.int .i64 (k:Int)) hk h fun l a hk h=>
     mV (v:=.int .i64 (j:Int)) hk h fun l a hk h=>
     mV (v:=.slice (some ⟨g,0,none⟩) x.nU.length cap) hk h fun l a hk h=>
     mV (v:=.int .i64 (k:Int)) hk h fun l a hk h=>
     mV (v:=.int .i64 (j:Int)) hk h fun l a hk h=>
     sV (v:=aYW g (0+k * 10)) hk h (fun _ ho=>fP (g:=g) (off:=0) (n:=x.nU.length) (cp:=cap) (el:=30) (sz:=10) (by kernel_rfl) (by kernel_rfl) hk1 ho (sT h) (sT h)) fun l a hk h=>?_
     refine sV (v:=aYW g (0+k * 10+7)) hk h (fun _ ho=>aJ (b:=g) (o':=0+k * 10) aBa ho (sT h)) fun l a hk h=>
     sV (v:=aYW g (0+k * 10+7+j * 1)) hk h (fun _ ho=>wP (b:=g) (off:=0+k * 10+7) (el:=5) (len:=3) (sz:=1) (i:=j) u28 (by kernel_rfl) hj3 ho (sT h) (sT h)) fun l a hk h=>
     lV (b:=g) (off:=0+k * 10+7+j * 1) lY (v:=.int .u8 (mkv (x.dt k) j)) hk h (by
      have:=hr (7+j) (.int .u8 (mkv (x.dt k) j)) (by
       match j,hj3 with
       |0,_=>rfl
       |1,_=>rfl
       |2,_=>rfl)
      rw[show 0+k * 10+7+j * 1=k * 10+(7+j) by omega];exact this) fun l a hk h=>?_
     refine sV (v:=.agg #[.int .i64 (k:Int),.int .i64 (j:Int),.int .u8 (mkv (x.dt k) j)]) hk h (fun _ ho=>PO ho (sT h) (sT h) (sT h)) fun l a hk h=>
     sV (v:=.slice (some ⟨W2.heap.size,0,none⟩) 1 1) hk h (fun _ ho=>aFB (n:=(k:Int)) (i:=(j:Int)) (m:=mkv (x.dt k) j) ho (sT h)) fun l a hk h=>
     sV (v:=v') hk h (fun o ho=>oP (v:=v) (ad:=some ⟨W2.heap.size,0,none⟩) (m:=1) (c:=1) ho (sT h) (sT h) hrun) fun l a hk h=>
     aV (v:=v') hk h fun l a hk h=>?_
     refine s0 hk ?_;show aP0.wpIn _ _ _ _ _ _;refine aG [km 22 6,(none,some 23,.binOp .add 3 (.tmp 22) (.const (.int .i64 1)) 3),ka 6 23] fun ops l hK hk=>?_;refine mV (v:=.int .i64 (j:Int)) hk h fun l a hk h=>
     sV (v:=.int .i64 ((j:Int)+1)) hk h (fun _ ho=>rM ho (sT h) rfl (wrap_succ hj3 (by omega))) fun l a hk h=>
     aV (v:=.int .i64 ((j:Int)+1)) hk h fun l a hk h=>?_
     exact s0 hk ⟨m' - 1,by omega,j+1,v',by omega,vC B r2 (aC4 _),r1,by rw[aNq];exact aN h⟩
   have hj:j=x.PT k:=by have:=aIH c;omega
   show aP1.wpIn _ _ _ _ _ _;refine aG [km 13 5,(none,some 14,.binOp .add 3 (.tmp 13) (.const (.int .i64 1)) 3),ka 5 14] fun ops l hK hk=>?_;refine mV (v:=.int .i64 (k:Int)) hk h fun l a hk h=>
   sV (v:=.int .i64 ((k:Int)+1)) hk h (fun _ ho=>rM ho (sT h) rfl (wrap_succ hk1 (by omega))) fun l a hk h=>
   aV (v:=.int .i64 ((k:Int)+1)) hk h fun l a hk h=>?_
   exact s0 hk ⟨m - 1,by omega,k+1,v,by omega,B,by rw[show x.q0 (k+1)=x.q0 k+j by rw[hj];exact CP _ _];exact hown,by rw[aNq];exact aN h⟩
 have hk1:k=x.nU.length:=by have:=aIH c;omega
 have hown:W.ownsRow n1 46 3 v x.pl.length (x.cls x.pl.length):=by
  rw[hk1]at hown;exact hown
 obtain⟨al,cp,rfl,hL⟩:=aKF hown;refine aDs (aG [km 37 3,ka 2 37] fun ops l hK hk=>?_);refine mV (v:=.slice al x.pl.length cp) hk h fun l a hk h=>
 aV (v:=.slice al x.pl.length cp) hk h fun l a hk h=>?_
 refine s0 hk (aMu ?_);exact fF (R:=WrR x w) (i:=2) (v:=.slice al x.pl.length cp) h results8 (by simp) ⟨_,_,rfl,hL,B'⟩
end
def allT(f:Nat->Bool):Nat->Bool
 |0=>true
 |n+1=>allT f n&&f n
def sK(f:Nat->Bool):Nat->Bool
 |0=>false
 |n+1=>sK f n||f n
theorem JJ{f:Nat->Bool}{q:Nat}(hf:f q=false): ∀n,q<n->allT f n=false
 |0,h=>absurd h (aS2 _)
 |n+1,h=>by
  show(allT f n&&f n)=false;by_cases c:q=n
  . rw[<-c,hf,aPe]
  rw[JJ hf n (by omega),aPd]
def xO(m n:Int):Int:=IntKind.u8.wrap (BitVec.ofInt IntKind.u8.bits m &&& BitVec.ofInt IntKind.u8.bits n).toNat
theorem V7(t:TypeId)(m n:Int)(x y:Operand)(W:World):(do eqGuard .and t x y (.int .u8 m) (.int .u8 n);binOp .and t (.int .u8 m) (.int .u8 n)).run prog W=.ok (.int .u8 (xO m n)) W:=by
 unfold xO;simp[eqGuard,binOp,Op.intBits]
def Xp.mq(x:Xp)(q:Nat):Int:=mkv (x.dt (x.pl.getD q (0,0)).1) (x.pl.getD q (0,0)).2
def Xp.pz(x:Xp):Bool:=allT (fun q=>decide (x.mq q=0)) x.pl.length
abbrev fA(x:Xp)(m:Int)(q:Nat):Bool:=decide (xO (x.mq q) m=m)
abbrev fS(x:Xp)(m:Int)(q:Nat):Bool:= !decide (xO (x.mq q) m=0)
def Xp.tr(x:Xp)(m:Int):Int:=if allT (fA x m) x.pl.length then 3 else if sK (fS x m) x.pl.length then 2 else 1
abbrev PlR(x:Xp)(w:World)(e:Ending)(w':World):Prop:=e=.returned (.tuple #[.bool x.pz,.int .i64 0])/\Below w.heap.size w w'
abbrev MkR(x:Xp)(m:Int)(w:World)(e:Ending)(w':World):Prop:=e=.returned (.tuple #[.int .u8 (if mE m=0 then x.tr m else 0),.int .i64 (mE m)])/\Below w.heap.size w w'
section
variable{w0:World}{x:Xp}
theorem aFO(hck:Same w0 19 #[x.v] (.int .i64 0))(hI:gW w0 x.bs x.L)(hn:x.L.length<=256)(w:World)(hw:Below w0.heap.size w0 w):
 Calls prog 9 #[x.v] w (PlR x w):=by
 refine(aMd (n:=0)).1 ?_;refine fM (args:=[x.v]) (N:=26) func9 (show _=some pnC by kernel_rfl) ntmps9 (by simp) fun a h=>?_;rw[aV5];refine aDs (aG [(none,some 1,.box 35 (.tmp 0)),kc 2 (.bool false),kc 3 (.int .i64 0)] fun ops l hK hk=>?_);refine sV (v:=aYW w.heap.size 0) hk h (fun _ ho=>rJ (v:=x.v) ho (sT h) rfl) fun l a hk h=>?_;have A0:Al w (w.alloc (.cells x.l.toArray 35)) w.heap.size 35 x.l:=dN x.l;change wpListIn _ _ _ _ _ _ _ (w.alloc (.cells x.l.toArray 35));generalize w.alloc (.cells x.l.toArray 35)=W0 at A0 ⊢;obtain⟨p0,hp0⟩: ∃p,p=w.heap.size:=⟨_,rfl⟩;rw[<-hp0]at A0 h;refine aC (v:=.bool false) hk h fun l a hk h=>
 aC (v:=.int .i64 0) hk h fun l a hk h=>?_
 have f0:=A0.2.2.2.1;have aMT:Below w0.heap.size w0 W0:=bD hw (dZ A0) (aC4 _);refine s0 hk (aDs (aG [kl 9 35 1,(none,some 10,.call ⟨.value (.func 7),#[(.tmp 9)],#[35]⟩),km 8 10,kx 11 8 0,kx 12 8 1,ka 4 11,ka 5 12] fun ops l hK hk=>?_));refine sV (v:=x.v) hk h (fun _ ho=>bC (aO f0) underlying35 rfl (by kernel_rfl) ho (sT h)) fun l a hk h=>?_;refine sc hk h rfl (by decide) (fun _ ho=>fU ho func7) (R:=fun e w'=> ∃ad,e=.returned (.tuple #[x.sl ad,.int .i64 0])/\jA w' ad x.pl.length x.cl/\Below W0.heap.size W0 w') (by rw[aHe,sT h (v:=x.v)];exact JQ hck hI hn W0 aMT) (fun e WW ⟨ad,ev,hL,BW⟩=>⟨_,ev,fun l a hk h=>?_⟩);refine mV (v:=.tuple #[x.sl ad,.int .i64 0]) hk h fun l a hk h=>
 sV (v:=x.sl ad) hk h (fun _ ho=>fQ (vs:= #[x.sl ad,.int .i64 0]) rfl ho (sT h)) fun l a hk h=>
 sV (v:=.int .i64 0) hk h (fun _ ho=>fQ (vs:= #[x.sl ad,.int .i64 0]) rfl ho (sT h)) fun l a hk h=>
 aV (v:=x.sl ad) hk h fun l a hk h=>
 aV (v:=.int .i64 0) hk h fun l a hk h=>?_
 have bW:Below w.heap.size w WW:=bD (dZ A0) BW (aC4 _);refine s0 hk (aDs (aDs (aG [km 13 5,(none,some 14,.binOp .neq 38 (.tmp 13) (.const (.int .i64 0)) 38)] fun ops l hK hk=>?_)));refine mV (v:=.int .i64 0) hk h fun l a hk h=>
 sV (v:=.bool false) hk h (fun _ ho=>qM (q:=.i64) (m:=0) (m':=0) rfl ho (sT h) rfl) fun l a hk h=>?_
 refine s0 hk (aNZ (sT h) (aJt (aDs (aDs (aG [km 16 4,(none,some 17,.call ⟨.builtin .len,#[(.tmp 16)],#[37]⟩),(none,some 18,.move (.const (.int .i64 0)))] fun ops l hK hk=>?_)))));refine mV (v:=x.sl ad) hk h fun l a hk h=>
 sV (v:=.int .i64 (x.pl.length:Int)) hk h (fun _ ho=>lM (s:=ad) (c:=x.pl.length) (el:=46) (by kernel_rfl) ho (sT h)) fun l a hk h=>
 sV (v:=.int .i64 ((0:Nat):Int)) hk h (fun _ ho=>eY ho rfl) fun l a hk h=>?_
 refine s0 hk (aLs (gQ (fun k a W=> ∃q,k+q=x.pl.length/\allT (fun q=>decide (x.mq q=0)) q=true/\Below w.heap.size w W/\jA W ad x.pl.length x.cl/\Sl 26 [(16,x.sl ad),(17,.int .i64 (x.pl.length:Int)),(18,.int .i64 (q:Int))] a) ?_ (m:=x.pl.length) ⟨0,rfl,rfl,bW,hL,aN h⟩));intro k a W ⟨q,hkq,hz,hB,hL,h⟩;refine aDs (aG [(none,some 19,.binOp .lss 3 (.tmp 18) (.tmp 17) 3)] fun ops l hK hk=>?_);refine sV (v:=.bool (decide ((q:Int)<(x.pl.length:Int)))) hk h (fun _ ho=>mP (q:=.i64) ho (sT h) (sT h)) fun l a hk h=>?_;refine s0 hk (aDs (cZ (t:=decide ((q:Int)<(x.pl.length:Int))) h (by simp) (fun hi=>aJt ?_) (fun hi=>aRf ?_)))
 . refine aDs (aLs (aDs ?_));have hq:q<x.pl.length:=by have:=aEF hi;omega
   obtain⟨g,rfl,hg,hr⟩:=hL q hq;refine aG [(none,some 20,.indexAddr 37 (.tmp 16) (.tmp 18)),kl 21 46 20,(none,some 7,.alloc 46),ks' 46 7 21] fun ops l hK hk=>?_;refine sV (v:=aYW g (0+q * 3)) hk h (fun _ ho=>fP (g:=g) (off:=0) (n:=x.pl.length) (cp:=x.pl.length) (el:=46) (sz:=3) (by kernel_rfl) (by kernel_rfl) hq ho (sT h) (sT h)) fun l a hk h=>
   sV (v:=.agg (x.cl q).toArray) hk h (fun _ ho=>bC (b:=g) (off:=0+q * 3) (cs:=x.cl q) (by rw[aHG];exact hr) underlying46 rfl (by kernel_rfl) ho (sT h)) fun l a hk h=>
   sV (v:=aYW W.heap.size 0) hk h (fun _ ho=>oH ho (zeroValue46 W)) fun l a hk h=>?_
   refine ss (g:=none) hk h rfl (fun _ ho=>iG (b:=W.heap.size) (off:=0) (cs:=x.cl q) (show World.there _ _ 0 3 from aX (dN (W:=W) (el:=46) [.int .i64 0,.int .i64 0,.int .u8 0]).2.2.2.1) (by kernel_rfl) (NI x q) ho (sT h) (sT h)) (fun l hk=>?_);have AZ:=aMs x q W;change wpListIn _ _ _ _ _ _ _ (pz W (x.cl q));generalize pz W (x.cl q)=W1 at AZ ⊢;obtain⟨p,hp⟩: ∃p,p=W.heap.size:=⟨_,rfl⟩;rw[<-hp]at AZ h;obtain⟨ez,kz⟩:=gV AZ;have fz:=AZ.2.2.2.1;have bz:Below w.heap.size w W1:=bD hB (dZ AZ) (aC4 _);have lz:jA W1 (some ⟨g,0,none⟩) x.pl.length x.cl:=hL.later ez kz;refine s0 hk (aDs (aG [kf 22 46 7 2,kl 23 5 22,(none,some 24,.binOp .neq 5 (.tmp 23) (.const (.int .u8 0)) 5)] fun ops l hK hk=>?_));have fz2:W1.cell? ⟨p,0+2,none⟩=some (.int .u8 (mkv (x.dt (x.pl.getD q (0,0)).1) (x.pl.getD q (0,0)).2)):=aI (j:=0+2) fz rfl;obtain⟨mk,hmk⟩: ∃mk,mk=x.mq q:=⟨_,rfl⟩;change W1.cell? ⟨p,0+2,none⟩=some (.int .u8 (x.mq q))at fz2;rw[<-hmk]at fz2;refine sV (v:=aYW p (0+2)) hk h (fun _ ho=>aJ (b:=p) (o':=0) xG ho (sT h)) fun l a hk h=>
   lV (b:=p) (off:=0+2) lY (v:=.int .u8 mk) hk h fz2 fun l a hk h=>
   sV (v:=.bool (!decide (mk=0))) hk h (fun _ ho=>KN (q:=.u8) ho (sT h) rfl) fun l a hk h=>?_
   refine s0 hk (cZ (t:= !decide (mk=0)) h (by simp) (fun c=>aDs (aG [kc 2 (.bool false),kc 3 (.int .i64 0)] fun ops l hK hk=>?_)) (fun c=>aJt ?_))
   . refine aC (v:=.bool false) hk h fun l a hk h=>?_;refine aC (v:=.int .i64 0) hk h fun l a hk h=>?_;refine s0 hk (aMu ?_);exact uM (R:=PlR x w) (i:=2) (j:=3) (v:=.bool false) (u:=.int .i64 0) h results9 (by simp) (by simp) ⟨by rw[show x.pz=false from JJ (by rw[<-hmk];simpa using c) _ hq],bz⟩
   show aRT.wpIn _ _ _ _ _ _;refine aG [(none,some 25,.binOp .add 3 (.tmp 18) (.const (.int .i64 1)) 3),km 18 25] fun ops l hK hk=>?_;refine sV (v:=.int .i64 ((q:Int)+1)) hk h (fun _ ho=>rM ho (sT h) rfl (wrap_succ hq (x.GN hn))) fun l a hk h=>
   mV (v:=.int .i64 ((q:Int)+1)) hk h fun l a hk h=>?_
   exact s0 hk ⟨k - 1,by omega,q+1,by omega,by show(allT _ q&&decide (x.mq q=0))=true;rw[hz,<-hmk];simpa using c,bz,lz,by rw[aNq];exact aN h⟩
 refine aDs (aG [kc 2 (.bool true),kc 3 (.int .i64 0)] fun ops l hK hk=>?_);refine aC (v:=.bool true) hk h fun l a hk h=>
 aC (v:=.int .i64 0) hk h fun l a hk h=>?_
 refine s0 hk (aMu ?_);exact uM (R:=PlR x w) (i:=2) (j:=3) (v:=.bool true) (u:=.int .i64 0) h results9 (by simp) (by simp) ⟨by have:=aIH hi;rw[show x.pz=true by unfold Xp.pz;rw[show x.pl.length=q by omega];exact hz],hB⟩
end
theorem aU4{r:Option Nat}{Q:Exit->Act->World->Prop}{a:Act}{W:World}{p:Nat}{m mk:Int}{bA bS:Bool}{v26 v27 v28:Value}(h:Sl 54 [(1,.int .u8 m),(9,.bool bA),(10,.bool bS),(12,aYW p 0),(26,v26),(27,v27),(28,v28)] a)(hc:W.cell? ⟨p,0+2,none⟩=some (.int .u8 mk))(k: ∀a,Sl 54 [(1,.int .u8 m),(9,.bool (bA&&decide (xO mk m=m))),(10,.bool bS),(12,aYW p 0),(26,v26),(27,v27),(28,v28)] a->Q .normal a W):aL5.wpIn (FR r) 0 prog Q a W:=by
 refine aG [km 32 9,km 33 32,kg 1 true (kf 34 46 12 2),kg 1 true (kl 35 5 34),kg 1 true (km 36 1),(some (1,true),some 37,.binOp .and 5 (.tmp 35) (.tmp 36) 5),kg 1 true (km 38 1),(some (1,true),some 39,.binOp .eql 5 (.tmp 37) (.tmp 38) 5),(none,some 40,.pick (.tmp 33) (.tmp 39) (.const (.bool false))),ka 9 40] fun ops l hK hk=>?_;refine mV (v:=.bool bA) hk h fun l a hk h=>
 mV (v:=.bool bA) hk h fun l a hk h=>?_
 obtain⟨z,ez⟩: ∃z,z=xO mk m:=⟨_,rfl⟩;have hz:=V7 5 mk m (.tmp 35) (.tmp 36) W;rw[<-ez]at hz k;cases bA with
 |true=>
  refine sG (v:=aYW p (0+2)) hK hk h 33 (fun _ ho=>aJ (b:=p) (o':=0) xG ho (sT h)) fun l a hk h=>
  sG (v:=.int .u8 mk) hK hk h 33 (fun _ ho=>gK (b:=p) (off:=0+2) lY ho (sT h) hc) fun l a hk h=>
  mG (v:=.int .u8 m) hK hk h 33 fun l a hk h=>
  sG (v:=.int .u8 z) hK hk h 33 (fun _ ho=>nM ho (sT h) (sT h) hz) fun l a hk h=>
  mG (v:=.int .u8 m) hK hk h 33 fun l a hk h=>
  sG (v:=.bool (decide (z=m))) hK hk h 33 (fun _ ho=>jE (q:=.u8) ho (sT h) (sT h)) fun l a hk h=>
  sV (v:=.bool (decide (z=m))) hk h (fun _ ho=>dR ho (sT h) (sT h)) fun l a hk h=>?_
  refine aV (v:=.bool (decide (z=m))) hk h fun l a hk h=>?_;exact s0 hk (k _ (by rw[aO8];exact aN h))
 |false=>
  refine sX hK hk h 33 fun l a hk h=>
  sX hK hk h 33 fun l a hk h=>
  sX hK hk h 33 fun l a hk h=>
  sX hK hk h 33 fun l a hk h=>
  sX hK hk h 33 fun l a hk h=>
  sX hK hk h 33 fun l a hk h=>
  sV (v:=.bool false) hk h (fun _ ho=>dI ho (sT h) rfl) fun l a hk h=>?_
  refine aV (v:=.bool false) hk h fun l a hk h=>?_;exact s0 hk (k _ (by rw[aPd];exact aN h))
theorem aU3{r:Option Nat}{Q:Exit->Act->World->Prop}{a:Act}{W:World}{p:Nat}{m mk:Int}{bA bS:Bool}{v26 v27 v28:Value}(h:Sl 54 [(1,.int .u8 m),(9,.bool bA),(10,.bool bS),(12,aYW p 0),(26,v26),(27,v27),(28,v28)] a)(hc:W.cell? ⟨p,0+2,none⟩=some (.int .u8 mk))(k: ∀a,Sl 54 [(1,.int .u8 m),(9,.bool bA),(10,.bool (bS|| !decide (xO mk m=0))),(12,aYW p 0),(26,v26),(27,v27),(28,v28)] a->Q .normal a W):aL4.wpIn (FR r) 0 prog Q a W:=by
 refine aG [km 41 10,km 42 41,kg 1 false (kf 43 46 12 2),kg 1 false (kl 44 5 43),kg 1 false (km 45 1),(some (1,false),some 46,.binOp .and 5 (.tmp 44) (.tmp 45) 5),(some (1,false),some 47,.binOp .neq 5 (.tmp 46) (.const (.int .u8 0)) 5),(none,some 48,.pick (.tmp 42) (.const (.bool true)) (.tmp 47)),ka 10 48] fun ops l hK hk=>?_;refine mV (v:=.bool bS) hk h fun l a hk h=>
 mV (v:=.bool bS) hk h fun l a hk h=>?_
 obtain⟨z,ez⟩: ∃z,z=xO mk m:=⟨_,rfl⟩;have hz:=V7 5 mk m (.tmp 44) (.tmp 45) W;rw[<-ez]at hz k;cases bS with
 |false=>
  refine sG (v:=aYW p (0+2)) hK hk h 42 (fun _ ho=>aJ (b:=p) (o':=0) xG ho (sT h)) fun l a hk h=>
  sG (v:=.int .u8 mk) hK hk h 42 (fun _ ho=>gK (b:=p) (off:=0+2) lY ho (sT h) hc) fun l a hk h=>
  mG (v:=.int .u8 m) hK hk h 42 fun l a hk h=>
  sG (v:=.int .u8 z) hK hk h 42 (fun _ ho=>nM ho (sT h) (sT h) hz) fun l a hk h=>
  sG (v:=.bool (!decide (z=0))) hK hk h 42 (fun _ ho=>KN (q:=.u8) ho (sT h) rfl) fun l a hk h=>
  sV (v:=.bool (!decide (z=0))) hk h (fun _ ho=>dI ho (sT h) (sT h)) fun l a hk h=>
  aV (v:=.bool (!decide (z=0))) hk h fun l a hk h=>?_
  exact s0 hk (k _ (by rw[aVb];exact aN h))
 |true=>
  refine sX hK hk h 42 fun l a hk h=>
  sX hK hk h 42 fun l a hk h=>
  sX hK hk h 42 fun l a hk h=>
  sX hK hk h 42 fun l a hk h=>
  sX hK hk h 42 fun l a hk h=>
  sV (v:=.bool true) hk h (fun _ ho=>dR ho (sT h) rfl) fun l a hk h=>
  aV (v:=.bool true) hk h fun l a hk h=>?_
  exact s0 hk (k _ (by rw[aX0];exact aN h))
section
variable{w0:World}{x:Xp}
theorem yH(hck:Same w0 19 #[x.v] (.int .i64 0))(hI:gW w0 x.bs x.L)(hn:x.L.length<=256)(m:Int)(w:World)(hw:Below w0.heap.size w0 w):
 Calls prog 11 #[x.v,.int .u8 m] w (MkR x m w):=by
 refine(aMd (n:=0)).1 ?_;refine fM (args:=[x.v,.int .u8 m]) (N:=54) func11 (show _=some OL by kernel_rfl) ntmps11 (by simp) fun a h=>?_;rw[aWj];refine aDs (aG [(none,some 2,.box 35 (.tmp 0)),kc 4 (.int .u8 0),kc 5 (.int .i64 0)] fun ops l hK hk=>?_);refine sV (v:=aYW w.heap.size 0) hk h (fun _ ho=>rJ (v:=x.v) ho (sT h) rfl) fun l a hk h=>?_;have A0:Al w (w.alloc (.cells x.l.toArray 35)) w.heap.size 35 x.l:=dN x.l;change wpListIn _ _ _ _ _ _ _ (w.alloc (.cells x.l.toArray 35));generalize w.alloc (.cells x.l.toArray 35)=W0 at A0 ⊢;obtain⟨p0,hp0⟩: ∃p,p=w.heap.size:=⟨_,rfl⟩;rw[<-hp0]at A0 h;refine aC (v:=.int .u8 0) hk h fun l a hk h=>
 aC (v:=.int .i64 0) hk h fun l a hk h=>?_
 have f0:=A0.2.2.2.1;have bA0:=dZ A0;have aMT:Below w0.heap.size w0 W0:=bD hw bA0 (aC4 _);refine s0 hk (aDs (aDs (aG [km 13 1,(none,some 14,.call ⟨.value (.func 32),#[(.tmp 13)],#[5]⟩),ka 6 14] fun ops l hK hk=>?_)));refine mV (v:=.int .u8 m) hk h fun l a hk h=>?_;refine sc hk h rfl (by decide) (fun _ ho=>fU ho func32) (R:=fun e W3=>e=.returned (.int .i64 (mE m))/\W3=W0) (by rw[aHe,sT h (v:=.int .u8 m)];exact aKD m W0) (fun e W3 hR=>⟨_,hR.1,fun l a hk h=>?_⟩);rw[hR.2];refine aV (v:=.int .i64 (mE m)) hk h fun l a hk h=>?_;refine s0 hk (aDs (aG [km 15 6,(none,some 16,.binOp .neq 38 (.tmp 15) (.const (.int .i64 0)) 38)] fun ops l hK hk=>?_));refine mV (v:=.int .i64 (mE m)) hk h fun l a hk h=>
 sV (v:=.bool (!decide (mE m=0))) hk h (fun _ ho=>KN (q:=.i64) ho (sT h) rfl) fun l a hk h=>?_
 refine s0 hk (cZ (t:= !decide (mE m=0)) h (by simp) (fun c=>aDs (aG [km 17 6,kc 4 (.int .u8 0),ka 5 17] fun ops l hK hk=>?_)) (fun c=>aJt ?_))
 . refine mV (v:=.int .i64 (mE m)) hk h fun l a hk h=>?_;refine aC (v:=.int .u8 0) hk h fun l a hk h=>
   aV (v:=.int .i64 (mE m)) hk h fun l a hk h=>?_
   refine s0 hk (aMu ?_);exact uM (R:=MkR x m w) (i:=4) (j:=5) (v:=.int .u8 0) (u:=.int .i64 (mE m)) h results11 (by simp) (by simp) ⟨by rw[aEg (by simpa using c)],bA0⟩
 have hm0:mE m=0:=by simpa using c
 refine aDs (aG [kl 19 35 2,(none,some 20,.call ⟨.value (.func 7),#[(.tmp 19)],#[35]⟩),km 18 20,kx 21 18 0,kx 22 18 1,ka 7 21,ka 8 22] fun ops l hK hk=>?_);refine sV (v:=x.v) hk h (fun _ ho=>bC (aO f0) underlying35 rfl (by kernel_rfl) ho (sT h)) fun l a hk h=>?_;refine sc hk h rfl (by decide) (fun _ ho=>fU ho func7) (R:=fun e w'=> ∃ad,e=.returned (.tuple #[x.sl ad,.int .i64 0])/\jA w' ad x.pl.length x.cl/\Below W0.heap.size W0 w') (by rw[aHe,sT h (v:=x.v)];exact JQ hck hI hn W0 aMT) (fun e WW ⟨ad,ev,hL,BW⟩=>⟨_,ev,fun l a hk h=>?_⟩);refine mV (v:=.tuple #[x.sl ad,.int .i64 0]) hk h fun l a hk h=>
 sV (v:=x.sl ad) hk h (fun _ ho=>fQ (vs:= #[x.sl ad,.int .i64 0]) rfl ho (sT h)) fun l a hk h=>
 sV (v:=.int .i64 0) hk h (fun _ ho=>fQ (vs:= #[x.sl ad,.int .i64 0]) rfl ho (sT h)) fun l a hk h=>
 aV (v:=x.sl ad) hk h fun l a hk h=>
 aV (v:=.int .i64 0) hk h fun l a hk h=>?_
 have bW:Below w.heap.size w WW:=bD bA0 BW (aC4 _);refine s0 hk (aDs (aDs (aG [km 23 8,(none,some 24,.binOp .neq 38 (.tmp 23) (.const (.int .i64 0)) 38)] fun ops l hK hk=>?_)));refine mV (v:=.int .i64 0) hk h fun l a hk h=>
 sV (v:=.bool false) hk h (fun _ ho=>qM (q:=.i64) (m:=0) (m':=0) rfl ho (sT h) rfl) fun l a hk h=>?_
 refine s0 hk (aNZ (sT h) (aJt (aDs (aG [kc 9 (.bool true),kc 10 (.bool false)] fun ops l hK hk=>?_))));refine aC (v:=.bool true) hk h fun l a hk h=>
 aC (v:=.bool false) hk h fun l a hk h=>?_
 refine s0 hk (aDs (aDs (aG [km 26 7,(none,some 27,.call ⟨.builtin .len,#[(.tmp 26)],#[37]⟩),(none,some 28,.move (.const (.int .i64 0)))] fun ops l hK hk=>?_)));refine mV (v:=x.sl ad) hk h fun l a hk h=>
 sV (v:=.int .i64 (x.pl.length:Int)) hk h (fun _ ho=>lM (s:=ad) (c:=x.pl.length) (el:=46) (by kernel_rfl) ho (sT h)) fun l a hk h=>
 sV (v:=.int .i64 ((0:Nat):Int)) hk h (fun _ ho=>eY ho rfl) fun l a hk h=>?_
 refine s0 hk (aLs (gQ (fun k a W=> ∃q bA bS,k+q=x.pl.length/\bA=allT (fA x m) q/\bS=sK (fS x m) q/\Below w.heap.size w W/\jA W ad x.pl.length x.cl/\Sl 54 [(26,x.sl ad),(27,.int .i64 (x.pl.length:Int)),(28,.int .i64 (q:Int)),(1,.int .u8 m),(9,.bool bA),(10,.bool bS)] a) ?_ (m:=x.pl.length) ⟨0,true,false,rfl,rfl,rfl,bW,hL,aN h⟩));intro k a W ⟨q,bA,bS,hkq,eA,eS,hB,hL,h⟩;refine aDs (aG [(none,some 29,.binOp .lss 3 (.tmp 28) (.tmp 27) 3)] fun ops l hK hk=>?_);refine sV (v:=.bool (decide ((q:Int)<(x.pl.length:Int)))) hk h (fun _ ho=>mP (q:=.i64) ho (sT h) (sT h)) fun l a hk h=>?_;refine s0 hk (aDs (cZ (t:=decide ((q:Int)<(x.pl.length:Int))) h (by simp) (fun hi=>aJt ?_) (fun hi=>aRf ?_)))
 . refine aDs (aLs (aDs ?_));have hq:q<x.pl.length:=by have:=aEF hi;omega
   obtain⟨g,rfl,hg,hr⟩:=hL q hq;refine aG [(none,some 30,.indexAddr 37 (.tmp 26) (.tmp 28)),kl 31 46 30,(none,some 12,.alloc 46),ks' 46 12 31] fun ops l hK hk=>?_;refine sV (v:=aYW g (0+q * 3)) hk h (fun _ ho=>fP (g:=g) (off:=0) (n:=x.pl.length) (cp:=x.pl.length) (el:=46) (sz:=3) (by kernel_rfl) (by kernel_rfl) hq ho (sT h) (sT h)) fun l a hk h=>
   sV (v:=.agg (x.cl q).toArray) hk h (fun _ ho=>bC (b:=g) (off:=0+q * 3) (cs:=x.cl q) (by rw[aHG];exact hr) underlying46 rfl (by kernel_rfl) ho (sT h)) fun l a hk h=>
   sV (v:=aYW W.heap.size 0) hk h (fun _ ho=>oH ho (zeroValue46 W)) fun l a hk h=>?_
   refine ss (g:=none) hk h rfl (fun _ ho=>iG (b:=W.heap.size) (off:=0) (cs:=x.cl q) (show World.there _ _ 0 3 from aX (dN (W:=W) (el:=46) [.int .i64 0,.int .i64 0,.int .u8 0]).2.2.2.1) (by kernel_rfl) (NI x q) ho (sT h) (sT h)) (fun l hk=>?_);have AZ:=aMs x q W;change wpListIn _ _ _ _ _ _ _ (pz W (x.cl q));generalize pz W (x.cl q)=W1 at AZ ⊢;obtain⟨p,hp⟩: ∃p,p=W.heap.size:=⟨_,rfl⟩;rw[<-hp]at AZ h;obtain⟨ez,kz⟩:=gV AZ;have fz:=AZ.2.2.2.1;have bz:Below w.heap.size w W1:=bD hB (dZ AZ) (aC4 _);have lz:jA W1 (some ⟨g,0,none⟩) x.pl.length x.cl:=hL.later ez kz;have fz2:W1.cell? ⟨p,0+2,none⟩=some (.int .u8 (x.mq q)):=aI (j:=0+2) fz rfl;refine s0 hk (aDs (aU4 (p:=p) (m:=m) (bA:=bA) (bS:=bS) (v26:=x.sl (some ⟨g,0,none⟩)) (v27:=.int .i64 (x.pl.length:Int)) (v28:=.int .i64 (q:Int)) (aN h) fz2 fun a h=>?_));refine aU3 (p:=p) (m:=m) (bA:=(bA&&fA x m q)) (bS:=bS) (v26:=x.sl (some ⟨g,0,none⟩)) (v27:=.int .i64 (x.pl.length:Int)) (v28:=.int .i64 (q:Int)) (aN h) fz2 fun a h=>?_;show aL3.wpIn _ _ _ _ _ _;refine aG [(none,some 49,.binOp .add 3 (.tmp 28) (.const (.int .i64 1)) 3),km 28 49] fun ops l hK hk=>?_;refine sV (v:=.int .i64 ((q:Int)+1)) hk h (fun _ ho=>rM ho (sT h) rfl (wrap_succ hq (x.GN hn))) fun l a hk h=>
   mV (v:=.int .i64 ((q:Int)+1)) hk h fun l a hk h=>?_
   exact s0 hk ⟨k - 1,by omega,q+1,(bA&&fA x m q),(bS||fS x m q),by omega,by rw[eA];rfl,by rw[eS];rfl,bz,lz,by rw[aNq];exact aN h⟩
 have eT:x.tr m=if bA then 3 else if bS then 2 else 1:=by
  have:=aIH hi;unfold Xp.tr;rw[show x.pl.length=q by omega,<-eA,<-eS]
 refine aDs (aLs (aDs (aG [km 51 9,ka 50 51] fun ops l hK hk=>?_)));refine mV (v:=.bool bA) hk h fun l a hk h=>
 aV (v:=.bool bA) hk h fun l a hk h=>?_
 refine s0 hk (cZ (t:=bA) h (by simp) (fun c=>aDs (aG [kc 4 (.int .u8 3),kc 5 (.int .i64 0)] fun ops l hK hk=>?_)) (fun c=>aDs (aG [km 53 10,ka 52 53] fun ops l hK hk=>?_)))
 . refine aC (v:=.int .u8 3) hk h fun l a hk h=>?_;refine aC (v:=.int .i64 0) hk h fun l a hk h=>?_;refine s0 hk (aMu ?_);exact uM (R:=MkR x m w) (i:=4) (j:=5) (v:=.int .u8 3) (u:=.int .i64 0) h results11 (by simp) (by simp) ⟨by rw[aEo hm0,hm0,eT,c];rfl,hB⟩
 refine mV (v:=.bool bS) hk h fun l a hk h=>?_;refine aV (v:=.bool bS) hk h fun l a hk h=>?_;refine s0 hk (cZ (t:=bS) h (by simp) (fun c2=>aDs (aG [kc 4 (.int .u8 2),kc 5 (.int .i64 0)] fun ops l hK hk=>?_)) (fun c2=>aJt ?_))
 . refine aC (v:=.int .u8 2) hk h fun l a hk h=>?_;refine aC (v:=.int .i64 0) hk h fun l a hk h=>?_;refine s0 hk (aMu ?_);exact uM (R:=MkR x m w) (i:=4) (j:=5) (v:=.int .u8 2) (u:=.int .i64 0) h results11 (by simp) (by simp) ⟨by rw[aEo hm0,hm0,eT,c,c2];rfl,hB⟩
 show(Code.seq aL2 .ret).wpIn _ _ _ _ _ _;refine aDs (aG [kc 4 (.int .u8 1),kc 5 (.int .i64 0)] fun ops l hK hk=>?_);refine aC (v:=.int .u8 1) hk h fun l a hk h=>
 aC (v:=.int .i64 0) hk h fun l a hk h=>?_
 refine s0 hk (aMu ?_);exact uM (R:=MkR x m w) (i:=4) (j:=5) (v:=.int .u8 1) (u:=.int .i64 0) h results11 (by simp) (by simp) ⟨by rw[aEo hm0,hm0,eT,c,c2];rfl,hB⟩
end
noncomputable def smC:Code:=match(f10).body with
 |some c=>c
 |none=>.skip
noncomputable def aRi:Code:=bF [1,1,0,1,0,0,1,1] smC
theorem aVK:smC=(.seq (bF [0] smC) (.seq (.seq (bF [1,0,0] smC) (.cond (.tmp 10) (.seq (bF [1,0,1,0,0] smC) .ret) .skip)) (.seq (.seq (bF [1,1,0,0] smC) (.block 0 (.loop (.seq (.seq (bF [1,1,0,1,0,0,0,0] smC) (.cond (.tmp 14) .skip (.exit 0))) (.seq (.block 1 (.seq (bF [1,1,0,1,0,0,1,0,0,0] smC) (.cond (.tmp 25) (.seq (bF [1,1,0,1,0,0,1,0,0,1,0,0] smC) .ret) .skip))) aRi))))) (.seq (bF [1,1,1,0] smC) .ret)))):=by kernel_rfl
noncomputable def btC:Code:=match(f33).body with
 |some c=>c
 |none=>.skip
noncomputable def aTK:Code:=bF [1,0,1,0,0] btC
noncomputable def aOJ:Code:=bF [1,1,0] btC
theorem aXr:btC=(.seq (bF [0] btC) (.seq (.seq (bF [1,0,0] btC) (.cond (.tmp 18) (.seq aTK .ret) .skip)) (.seq aOJ .ret))):=by kernel_rfl
theorem aDz(a b c:Int):ZU 46 (.agg #[.int .i64 a,.int .i64 b,.int .u8 c]) (.agg #[.int .i64 a,.int .i64 b,.int .u8 c]) true:=by
 refine⟨fun w=>?_,fun w=>?_⟩<;>go_simp
theorem aNe{W:World}{a:Act}{o:Oper}{x y:Operand}{u v z:Int}(ho:o.op=.binOp .neq 46 x y 46)(hx:a.eval x=.agg #[.int .i64 u,.int .i64 v,.int .u8 z])(hy:a.eval y=.agg #[.int .i64 u,.int .i64 v,.int .u8 z]):
 (execOp a.eval o).run prog W=.ok (.value (.bool false)) W:=by
 have h:=(aDz u v z).2 W;have g: ∀X Y:Operand,(eqGuard .neq 46 X Y (.agg #[.int .i64 u,.int .i64 v,.int .u8 z]) (.agg #[.int .i64 u,.int .i64 v,.int .u8 z])).run prog W=.ok () W:=fun X Y=>by go_simp
 refine nM ho hx hy ?_;rw[aDt,g x y];exact h
theorem aFp{n c1 c2:Nat}{ad bd:Option Addr}{cl:Nat->List Value}(w:World)(hA:jA w ad n cl)(hB:jA w bd n cl)(hcl: ∀q,q<n-> ∃u v z:Int,cl q=[.int .i64 u,.int .i64 v,.int .u8 z])(hn:n<10000000):
 Calls prog 10 #[.slice ad n c1,.slice bd n c2] w fun e w'=>e=.returned (.int .i64 1)/\Below w.heap.size w w':=by
 refine(aMd (n:=0)).1 ?_;refine fM (args:=[.slice ad n c1,.slice bd n c2]) (N:=26) func10 (show _=some smC by kernel_rfl) ntmps10 (by simp) fun a h=>?_;rw[aVK];refine aDs (aG [kc 4 (.int .i64 0)] fun ops l hK hk=>?_);refine aC hk h fun l a hk h=>?_;refine s0 hk (aDs (aDs (aG [km 6 0,(none,some 7,.call ⟨.builtin .len,#[(.tmp 6)],#[37]⟩),km 8 1,(none,some 9,.call ⟨.builtin .len,#[(.tmp 8)],#[37]⟩),(none,some 10,.binOp .neq 3 (.tmp 7) (.tmp 9) 3)] fun ops l hK hk=>?_)));refine mV (v:=.slice ad n c1) hk h fun l a hk h=>
 sV (v:=.int .i64 (n:Int)) hk h (fun _ ho=>lM (s:=ad) (c:=c1) (el:=46) (by kernel_rfl) ho (sT h)) fun l a hk h=>
 mV (v:=.slice bd n c2) hk h fun l a hk h=>
 sV (v:=.int .i64 (n:Int)) hk h (fun _ ho=>lM (s:=bd) (c:=c2) (el:=46) (by kernel_rfl) ho (sT h)) fun l a hk h=>
 sV (v:=.bool false) hk h (fun _ ho=>qM (q:=.i64) (m:=(n:Int)) (m':=(n:Int)) rfl ho (sT h) (sT h)) fun l a hk h=>?_
 refine s0 hk (aNZ (sT h) (aJt (aDs (aDs (aG [kc 5 (.int .i64 0)] fun ops l hK hk=>?_)))));refine sV (v:=.int .i64 ((0:Nat):Int)) hk h (fun _ ho=>BZ ho rfl) fun l a hk h=>?_;refine s0 hk (aLs (gQ (fun m a W=> ∃q,m+q=n/\Below w.heap.size w W/\Sl 26 [(0,.slice ad n c1),(1,.slice bd n c2),(5,.int .i64 (q:Int))] a) ?_ (m:=n) ⟨0,rfl,aDA _ _,aN h⟩));intro m a W ⟨q,hm,B,h⟩;refine aDs (aDs (aG [km 11 5,km 12 0,(none,some 13,.call ⟨.builtin .len,#[(.tmp 12)],#[37]⟩),(none,some 14,.binOp .lss 3 (.tmp 11) (.tmp 13) 3)] fun ops l hK hk=>?_));refine mV (v:=.int .i64 (q:Int)) hk h fun l a hk h=>
 mV (v:=.slice ad n c1) hk h fun l a hk h=>
 sV (v:=.int .i64 (n:Int)) hk h (fun _ ho=>lM (s:=ad) (c:=c1) (el:=46) (by kernel_rfl) ho (sT h)) fun l a hk h=>
 sV (v:=.bool (decide ((q:Int)<(n:Int)))) hk h (fun _ ho=>mP (q:=.i64) ho (sT h) (sT h)) fun l a hk h=>?_
 refine s0 hk (cZ (t:=decide ((q:Int)<(n:Int))) h (by simp) (fun c=>aJt ?_) (fun c=>aRf ?_))
 . have hq:q<n:=by have:=aEF c;omega
   obtain⟨u,v,z,ecl⟩:=hcl q hq;have hA1:=hA.later B.size B.block;have hB1:=hB.later B.size B.block;obtain⟨g,rfl,hg,hr⟩:=hA1 q hq;obtain⟨g',rfl,hg',hr'⟩:=hB1 q hq;rw[ecl]at hr hr';refine aDs (aLs (aDs ?_));have h:Sl 26 [(0,.slice (some ⟨g,0,none⟩) n c1),(1,.slice (some ⟨g',0,none⟩) n c2),(5,.int .i64 (q:Int))] a:=aN h;have hr1:W.drew.rangeAt g (0+q * 3) [.int .i64 u,.int .i64 v,.int .u8 z]:=by rw[aHG];exact hr
   have hr2:W.drew.rangeAt g' (0+q * 3) [.int .i64 u,.int .i64 v,.int .u8 z]:=by rw[aHG];exact hr'
   refine aOu (Pz:=[(none,17,[],.move (.tmp 0),.slice (some ⟨g,0,none⟩) n c1),(none,18,[],.move (.tmp 5),.int .i64 (q:Int)),(none,19,[0,1],.indexAddr 37 (.tmp 17) (.tmp 18),aYW g (0+q * 3)),(none,20,[2],.load 46 (.tmp 19),.agg #[.int .i64 u,.int .i64 v,.int .u8 z]),(none,21,[],.move (.tmp 1),.slice (some ⟨g',0,none⟩) n c2),(none,22,[],.move (.tmp 5),.int .i64 (q:Int)),(none,23,[4,5],.indexAddr 37 (.tmp 21) (.tmp 22),aYW g' (0+q * 3)),(none,24,[6],.load 46 (.tmp 23),.agg #[.int .i64 u,.int .i64 v,.int .u8 z]),(none,25,[3,7],.binOp .neq 46 (.tmp 20) (.tmp 24) 46,.bool false)]) (T:=[]) (TA:=[]) (by kernel_rfl) (And.intro (by kernel_rfl) (by kernel_rfl)) (by kernel_rfl) (by kernel_rfl) (by simp) (by kernel_rfl) (by simp) (by simp) (.inl rfl) (by kernel_rfl) h (fun j y hy=>?_) (fun ops l a hK hk h=>?_)
   . match j,hy with
     |0,hy=>cases hy;exact .inr ⟨rfl,fun o a ho h=>eY ho (sT h)⟩
     |1,hy=>cases hy;exact .inr ⟨rfl,fun o a ho h=>eY ho (sT h)⟩
     |2,hy=>
      cases hy;refine .inr ⟨rfl,fun o a ho h=>?_⟩;change Sl 26 ([(17,.slice (some ⟨g,0,none⟩) n c1),(18,.int .i64 (q:Int))]++_) a at h;exact fP (g:=g) (off:=0) (n:=n) (cp:=c1) (el:=46) (sz:=3) (by kernel_rfl) (by kernel_rfl) hq ho (sT h) (sT h)
     |3,hy=>
      cases hy;refine .inr ⟨rfl,fun o a ho h=>?_⟩;change Sl 26 ([(19,aYW g (0+q * 3))]++_) a at h;exact bC (b:=g) (off:=0+q * 3) (cs:=[.int .i64 u,.int .i64 v,.int .u8 z]) hr1 underlying46 rfl (by kernel_rfl) ho (sT h)
     |4,hy=>cases hy;exact .inr ⟨rfl,fun o a ho h=>eY ho (sT h)⟩
     |5,hy=>cases hy;exact .inr ⟨rfl,fun o a ho h=>eY ho (sT h)⟩
     |6,hy=>
      cases hy;refine .inr ⟨rfl,fun o a ho h=>?_⟩;change Sl 26 ([(21,.slice (some ⟨g',0,none⟩) n c2),(22,.int .i64 (q:Int))]++_) a at h;exact fP (g:=g') (off:=0) (n:=n) (cp:=c2) (el:=46) (sz:=3) (by kernel_rfl) (by kernel_rfl) hq ho (sT h) (sT h)
     |7,hy=>
      cases hy;refine .inr ⟨rfl,fun o a ho h=>?_⟩;change Sl 26 ([(23,aYW g' (0+q * 3))]++_) a at h;exact bC (b:=g') (off:=0+q * 3) (cs:=[.int .i64 u,.int .i64 v,.int .u8 z]) hr2 underlying46 rfl (by kernel_rfl) ho (sT h)
     |8,hy=>
      cases hy;refine .inr ⟨rfl,fun o a ho h=>?_⟩;change Sl 26 ([(20,.agg #[.int .i64 u,.int .i64 v,.int .u8 z]),(24,.agg #[.int .i64 u,.int .i64 v,.int .u8 z])]++_) a at h;exact aNe (u:=u) (v:=v) (z:=z) ho (sT h) (sT h)
     |j+9,hy=>cases hy
   change Sl 26 ([(17,.slice (some ⟨g,0,none⟩) n c1),(18,.int .i64 (q:Int)),(19,aYW g (0+q * 3)),(20,.agg #[.int .i64 u,.int .i64 v,.int .u8 z]),(21,.slice (some ⟨g',0,none⟩) n c2),(22,.int .i64 (q:Int)),(23,aYW g' (0+q * 3)),(24,.agg #[.int .i64 u,.int .i64 v,.int .u8 z]),(25,.bool false)]++_) a at h;refine s0 hk (aNZ (sT h) (aJt ?_));have Bd:Below w.heap.size w W.drew:=⟨B.os,B.tape,B.output,B.size,B.block⟩;show aRi.wpIn _ _ _ _ _ _;refine aG [km 15 5,(none,some 16,.binOp .add 3 (.tmp 15) (.const (.int .i64 1)) 3),ka 5 16] fun ops l hK hk=>?_;refine mV (v:=.int .i64 (q:Int)) hk h fun l a hk h=>
   sV (v:=.int .i64 ((q:Int)+1)) hk h (fun _ ho=>rM ho (sT h) rfl (wrap_succ hq hn)) fun l a hk h=>
   aV (v:=.int .i64 ((q:Int)+1)) hk h fun l a hk h=>?_
   exact s0 hk ⟨m - 1,by omega,q+1,by omega,Bd,by rw[aNq];exact aN h⟩
 refine aDs (aG [kc 4 (.int .i64 1)] fun ops l hK hk=>?_);refine aC hk h fun l a hk h=>?_;refine s0 hk (aMu ?_);exact fF (R:=fun e w'=>e=.returned (.int .i64 1)/\Below w.heap.size w w') (i:=4) (v:=.int .i64 1) h results10 (by simp) ⟨rfl,B⟩
section
variable{P:Program}{W:World}{a:Act}{o:Oper}{t yt:TypeId}{x y:Operand}{m:Int}
theorem Q9(ho:o.op=.binOp .rem t x y yt)(hx:a.eval x=.int .u8 m)(hy:a.eval y=.int .u8 2):(execOp a.eval o).run P W=.ok (.value (.int .u8 (m.tmod 2))) W:=
 nM ho hx hy (by simp[eqGuard,binOp,Op.intArith,Op.intDiv])
theorem aAw(ho:o.op=.binOp .quo t x y yt)(hx:a.eval x=.int .u8 m)(hy:a.eval y=.int .u8 2):(execOp a.eval o).run P W=.ok (.value (.int .u8 (IntKind.u8.wrap (m.tdiv 2)))) W:=
 nM ho hx hy (by simp[eqGuard,binOp,Op.intArith,Op.intDiv])
end
def aIc(a b:Int):Bool:=decide (a.tmod 2<b.tmod 2)
def aCO(a b:Int):Bool:=decide ((IntKind.u8.wrap (a.tdiv 2)).tmod 2<(IntKind.u8.wrap (b.tdiv 2)).tmod 2)
def aW(a b:Int):Int:=if(aIc a b||aCO a b)=true then 0 else 1
theorem vF(u v:Int)(W:World):Calls prog 33 #[.int .u8 u,.int .u8 v] W fun e W1=>e=.returned (.int .i64 (aW u v))/\W1=W:=by
 refine(aMd (n:=0)).1 ?_;refine fM (args:=[.int .u8 u,.int .u8 v]) (N:=19) func33 (show _=some btC by kernel_rfl) ntmps33 (by simp) fun a h=>?_;rw[aXr];refine aDs (aG [kc 4 (.int .i64 0)] fun ops l hK hk=>?_);refine aC hk h fun l a hk h=>?_;have fin: ∀(t:Bool) a,t=(aIc u v||aCO u v)->Sl 19 [(18,.bool t)] a->(Code.cond (.tmp 18) (.seq aTK .ret) .skip).wpIn (FR none) 0 prog (Exit.then ((Code.seq aOJ .ret).wpIn (FR none) 0 prog (bodyPost prog f33 fun e W1=>e=.returned (.int .i64 (aW u v))/\W1=W)) (bodyPost prog f33 fun e W1=>e=.returned (.int .i64 (aW u v))/\W1=W)) a W:=by
  intro t a ht h;refine cZ (t:=t) h (by simp) (fun c=>aDs (aG [kc 4 (.int .i64 0)] fun ops l hK hk=>?_)) (fun c=>aJt ?_)
  . refine aC hk h fun l a hk h=>?_;refine s0 hk (aMu ?_);exact fF (R:=fun e W1=>e=.returned (.int .i64 (aW u v))/\W1=W) (i:=4) (v:=.int .i64 0) h results33 (by simp) ⟨by unfold aW;rw[aEo (by rw[<-ht];exact c)],rfl⟩
  show(Code.seq aOJ .ret).wpIn _ _ _ _ _ _;refine aDs (aG [kc 4 (.int .i64 1)] fun ops l hK hk=>?_);refine aC hk h fun l a hk h=>?_;refine s0 hk (aMu ?_);exact fF (R:=fun e W1=>e=.returned (.int .i64 (aW u v))/\W1=W) (i:=4) (v:=.int .i64 1) h results33 (by simp) ⟨by unfold aW;rw[aEg (by rw[<-ht,c];simp)],rfl⟩
 refine s0 hk (aDs (aDs (aG [km 5 0,(none,some 6,.binOp .rem 5 (.tmp 5) (.const (.int .u8 2)) 5),km 7 1,(none,some 8,.binOp .rem 5 (.tmp 7) (.const (.int .u8 2)) 5),(none,some 9,.binOp .lss 5 (.tmp 6) (.tmp 8) 5),km 10 9,kg 5 false (km 11 0),(some (5,false),some 12,.binOp .quo 5 (.tmp 11) (.const (.int .u8 2)) 5),(some (5,false),some 13,.binOp .rem 5 (.tmp 12) (.const (.int .u8 2)) 5),kg 5 false (km 14 1),(some (5,false),some 15,.binOp .quo 5 (.tmp 14) (.const (.int .u8 2)) 5),(some (5,false),some 16,.binOp .rem 5 (.tmp 15) (.const (.int .u8 2)) 5),(some (5,false),some 17,.binOp .lss 5 (.tmp 13) (.tmp 16) 5),(none,some 18,.pick (.tmp 10) (.const (.bool true)) (.tmp 17))] fun ops l hK hk=>?_)));refine mV (v:=.int .u8 u) hk h fun l a hk h=>
 sV (v:=.int .u8 (u.tmod 2)) hk h (fun _ ho=>Q9 ho (sT h) rfl) fun l a hk h=>
 mV (v:=.int .u8 v) hk h fun l a hk h=>
 sV (v:=.int .u8 (v.tmod 2)) hk h (fun _ ho=>Q9 ho (sT h) rfl) fun l a hk h=>
 sV (v:=.bool (aIc u v)) hk h (fun _ ho=>mP (q:=.u8) ho (sT h) (sT h)) fun l a hk h=>
 mV (v:=.bool (aIc u v)) hk h fun l a hk h=>?_
 cases hb:aIc u v with
 |true=>
  rw[hb]at h;refine sX hK hk h 10 fun l a hk h=>
  sX hK hk h 10 fun l a hk h=>
  sX hK hk h 10 fun l a hk h=>
  sX hK hk h 10 fun l a hk h=>
  sX hK hk h 10 fun l a hk h=>
  sX hK hk h 10 fun l a hk h=>
  sX hK hk h 10 fun l a hk h=>?_
  refine sV (v:=.bool true) hk h (fun _ ho=>dR ho (sT h) rfl) fun l a hk h=>?_;exact s0 hk (fin true a (by rw[hb,aX0]) (aN h))
 |false=>
  rw[hb]at h;refine mG (v:=.int .u8 u) hK hk h 10 fun l a hk h=>
  sG (v:=.int .u8 (IntKind.u8.wrap (u.tdiv 2))) hK hk h 10 (fun _ ho=>aAw ho (sT h) rfl) fun l a hk h=>
  sG (v:=.int .u8 ((IntKind.u8.wrap (u.tdiv 2)).tmod 2)) hK hk h 10 (fun _ ho=>Q9 ho (sT h) rfl) fun l a hk h=>
  mG (v:=.int .u8 v) hK hk h 10 fun l a hk h=>
  sG (v:=.int .u8 (IntKind.u8.wrap (v.tdiv 2))) hK hk h 10 (fun _ ho=>aAw ho (sT h) rfl) fun l a hk h=>
  sG (v:=.int .u8 ((IntKind.u8.wrap (v.tdiv 2)).tmod 2)) hK hk h 10 (fun _ ho=>Q9 ho (sT h) rfl) fun l a hk h=>
  sG (v:=.bool (aCO u v)) hK hk h 10 (fun _ ho=>mP (q:=.u8) ho (sT h) (sT h)) fun l a hk h=>?_
  refine sV (v:=.bool (aCO u v)) hk h (fun _ ho=>dI ho (sT h) (sT h)) fun l a hk h=>?_;exact s0 hk (fin _ a (by rw[hb,aVb]) (aN h))
noncomputable def rmC:Code:=match(f13).body with
 |some c=>c
 |none=>.skip
noncomputable def aJw:Code:=bF [1,1,1,0,1,0,0,1,0,0,1,0] rmC
noncomputable def aRu:Code:=bF [1,1,1,0,1,0,0,1,0,0,1,1,0] rmC
noncomputable def aRv:Code:=bF [1,1,1,0,1,0,0,1,1] rmC
noncomputable def aLI:Code:=bF [1,1,1,1,1,0] rmC
theorem aVV:rmC=(.seq (bF [0] rmC) (.seq (bF [1,0] rmC) (.seq (bF [1,1,0] rmC) (.seq (.seq (bF [1,1,1,0,0] rmC) (.block 0 (.loop (.seq (.seq (bF [1,1,1,0,1,0,0,0,0] rmC) (.cond (.tmp 14) .skip (.exit 0))) (.seq (.block 1 (.seq (bF [1,1,1,0,1,0,0,1,0,0,0] rmC) (.seq aJw (.cond (.tmp 47) aRu .skip)))) aRv))))) (.seq (.seq (bF [1,1,1,1,0,0] rmC) (.cond (.tmp 49) (.seq (bF [1,1,1,1,0,1,0,0] rmC) .ret) .skip)) (.seq aLI .ret)))))):=by kernel_rfl
section
variable{P:Program}{W:World}{a:Act}{o:Oper}{t yt:TypeId}{x y:Operand}{q:IntKind}{m m':Int}
theorem aBZ(ho:o.op=.binOp .mul t x y yt)(hx:a.eval x=.int q m)(hy:a.eval y=.int q m')(hw:q.wrap (m * m')=m * m'):(execOp a.eval o).run P W=.ok (.value (.int q (m * m'))) W:=
 nM ho hx hy (by simp[eqGuard,binOp,Op.intArith,hw])
theorem aFu(ho:o.op=.binOp .sub t x y yt)(hx:a.eval x=.int q m)(hy:a.eval y=.int q m')(hw:q.wrap (m - m')=m - m'):(execOp a.eval o).run P W=.ok (.value (.int q (m - m'))) W:=
 nM ho hx hy (by simp[eqGuard,binOp,Op.intArith,hw])
theorem aAx{b:Bool}{k:Int}(hb:decide (m=k)=b)(ho:o.op=.binOp .eql t x (.const (.int .i64 k)) yt)(hx:a.eval x=.int .i64 m):(execOp a.eval o).run P W=.ok (.value (.bool b)) W:=by
 rw[<-hb];exact jE (q:=.i64) ho hx rfl
end
theorem xM(u v:Int):aW u v=0\/aW u v=1:=by unfold aW;split;exact .inl rfl;exact .inr rfl
theorem QU{u v:Int}(hu:u=0\/u=1)(hv:v=0\/v=1):IntKind.i64.wrap (u * v)=u * v:=by
 rcases hu with rfl|rfl<;>rcases hv with rfl|rfl<;>rfl
theorem aFs{r:Option Nat}{Q:Exit->Act->World->Prop}{a:Act}{W:World}{x:Xp}{g cap q:Nat}{m mk:Int}{v6 v7:Value}(hq:q<x.pl.length)(hb:decide (aW m 1 * aW mk 1=1)=true)(hc:W.drew.cell? ⟨g,0+q * 3+2,none⟩=some (.int .u8 mk))
 (h:Sl 52 [(1,.int .u8 m),(5,.slice (some ⟨g,0,none⟩) x.pl.length cap),(6,v6),(7,v7),(8,.int .i64 (q:Int))] a) (k: ∀a,Sl 52 ((47,.bool true)::[(1,.int .u8 m),(5,.slice (some ⟨g,0,none⟩) x.pl.length cap),(6,v6),(7,v7),(8,.int .i64 (q:Int))]) a->Q .normal a W.drew):aJw.wpIn (FR r) 0 prog Q a W:=by
 refine UA (Pz:=[(none,26,[],.move (.tmp 1),.int .u8 m),(none,27,[0],.call ⟨.value (.func 33),#[(.tmp 26),(.const (.int .u8 1))],#[5,5]⟩,.int .i64 (aW m 1)),(none,28,[],.move (.tmp 5),.slice (some ⟨g,0,none⟩) x.pl.length cap),(none,29,[],.move (.tmp 8),.int .i64 (q:Int)),(none,30,[2,3],.indexAddr 37 (.tmp 28) (.tmp 29),aYW g (0+q * 3)),(none,31,[4],.fieldAddr 46 (.tmp 30) 2,aYW g (0+q * 3+2)),(none,32,[5],.load 5 (.tmp 31),.int .u8 mk),(none,33,[6,1],.call ⟨.value (.func 33),#[(.tmp 32),(.const (.int .u8 1))],#[5,5]⟩,.int .i64 (aW mk 1)),(none,34,[1,7],.binOp .mul 3 (.tmp 27) (.tmp 33) 3,.int .i64 (aW m 1 * aW mk 1)),(none,35,[8],.binOp .eql 3 (.tmp 34) (.const (.int .i64 1)) 3,.bool true),(none,36,[9,7],.move (.tmp 35),.bool true),(some (10,false),37,[10],.move (.tmp 1),undef),(some (10,false),38,[11,10,10],.call ⟨.value (.func 33),#[(.tmp 37),(.const (.int .u8 2))],#[5,5]⟩,undef),(some (10,false),39,[10],.move (.tmp 5),undef),(some (10,false),40,[10],.move (.tmp 8),undef),(some (10,false),41,[13,14,10],.indexAddr 37 (.tmp 39) (.tmp 40),undef),(some (10,false),42,[15,10],.fieldAddr 46 (.tmp 41) 2,undef),(some (10,false),43,[16,10],.load 5 (.tmp 42),undef),(some (10,false),44,[17,12,10],.call ⟨.value (.func 33),#[(.tmp 43),(.const (.int .u8 2))],#[5,5]⟩,undef),(some (10,false),45,[12,18,10],.binOp .mul 3 (.tmp 38) (.tmp 44) 3,undef),(some (10,false),46,[19,10],.binOp .eql 3 (.tmp 45) (.const (.int .i64 1)) 3,undef),(none,47,[10,20],.pick (.tmp 36) (.const (.bool true)) (.tmp 46),.bool true)]) (T:=[]) (TA:=[]) (by kernel_rfl) (And.intro (by kernel_rfl) (by kernel_rfl)) (by kernel_rfl) (by kernel_rfl) (by simp) (by kernel_rfl) (by simp) (by simp) (.inl rfl) (by kernel_rfl) h (fun j y hy=>?_) (fun ops l a hK hk h=>?_)
 . match j,hy with
   |0,hy=>
    cases hy;refine .inr ⟨rfl,fun o a ho h=>?_⟩;change Sl 52 ([]++_) a at h;exact .inl (eY ho (sT h))
   |1,hy=>
    cases hy;refine .inr ⟨rfl,fun o a ho h=>?_⟩;change Sl 52 ([(26,.int .u8 m)]++_) a at h;exact .inr ⟨_,_,fU ho func33,by rw[tJ,sT h (v:=.int .u8 m)];exact vF m 1 _⟩
   |2,hy=>
    cases hy;refine .inr ⟨rfl,fun o a ho h=>?_⟩;change Sl 52 ([]++_) a at h;exact .inl (eY ho (sT h))
   |3,hy=>
    cases hy;refine .inr ⟨rfl,fun o a ho h=>?_⟩;change Sl 52 ([]++_) a at h;exact .inl (eY ho (sT h))
   |4,hy=>
    cases hy;refine .inr ⟨rfl,fun o a ho h=>?_⟩;change Sl 52 ([(28,.slice (some ⟨g,0,none⟩) x.pl.length cap),(29,.int .i64 (q:Int))]++_) a at h;exact .inl (fP (g:=g) (off:=0) (n:=x.pl.length) (cp:=cap) (el:=46) (sz:=3) (by kernel_rfl) (by kernel_rfl) hq ho (sT h) (sT h))
   |5,hy=>
    cases hy;refine .inr ⟨rfl,fun o a ho h=>?_⟩;change Sl 52 ([(30,aYW g (0+q * 3))]++_) a at h;exact .inl (aJ (b:=g) (o':=0+q * 3) xG ho (sT h))
   |6,hy=>
    cases hy;refine .inr ⟨rfl,fun o a ho h=>?_⟩;change Sl 52 ([(31,aYW g (0+q * 3+2))]++_) a at h;exact .inl (gK (b:=g) (off:=0+q * 3+2) lY ho (sT h) hc)
   |7,hy=>
    cases hy;refine .inr ⟨rfl,fun o a ho h=>?_⟩;change Sl 52 ([(32,.int .u8 mk),(27,.int .i64 (aW m 1))]++_) a at h;exact .inr ⟨_,_,fU ho func33,by rw[tJ,sT h (v:=.int .u8 mk)];exact vF mk 1 _⟩
   |8,hy=>
    cases hy;refine .inr ⟨rfl,fun o a ho h=>?_⟩;change Sl 52 ([(27,.int .i64 (aW m 1)),(33,.int .i64 (aW mk 1))]++_) a at h;exact .inl (aBZ (q:=.i64) ho (sT h) (sT h) (QU (xM m 1) (xM mk 1)))
   |9,hy=>
    cases hy;refine .inr ⟨rfl,fun o a ho h=>?_⟩;change Sl 52 ([(34,.int .i64 (aW m 1 * aW mk 1))]++_) a at h;exact .inl (aAx hb ho (sT h))
   |10,hy=>
    cases hy;refine .inr ⟨rfl,fun o a ho h=>?_⟩;change Sl 52 ([(35,.bool true),(33,.int .i64 (aW mk 1))]++_) a at h;exact .inl (eY ho (sT h))
   |11,hy=>
    cases hy;exact .inl ⟨rfl,rfl⟩
   |12,hy=>
    cases hy;exact .inl ⟨rfl,rfl⟩
   |13,hy=>
    cases hy;exact .inl ⟨rfl,rfl⟩
   |14,hy=>
    cases hy;exact .inl ⟨rfl,rfl⟩
   |15,hy=>
    cases hy;exact .inl ⟨rfl,rfl⟩
   |16,hy=>
    cases hy;exact .inl ⟨rfl,rfl⟩
   |17,hy=>
    cases hy;exact .inl ⟨rfl,rfl⟩
   |18,hy=>
    cases hy;exact .inl ⟨rfl,rfl⟩
   |19,hy=>
    cases hy;exact .inl ⟨rfl,rfl⟩
   |20,hy=>
    cases hy;exact .inl ⟨rfl,rfl⟩
   |21,hy=>
    cases hy;refine .inr ⟨rfl,fun o a ho h=>?_⟩;change Sl 52 ([(36,.bool true),(46,undef)]++_) a at h;exact .inl (dR ho (sT h) rfl)
   |j+22,hy=>cases hy
 change Sl 52 ([(26,.int .u8 m),(27,.int .i64 (aW m 1)),(28,.slice (some ⟨g,0,none⟩) x.pl.length cap),(29,.int .i64 (q:Int)),(30,aYW g (0+q * 3)),(31,aYW g (0+q * 3+2)),(32,.int .u8 mk),(33,.int .i64 (aW mk 1)),(34,.int .i64 (aW m 1 * aW mk 1)),(35,.bool true),(36,.bool true),(37,undef),(38,undef),(39,undef),(40,undef),(41,undef),(42,undef),(43,undef),(44,undef),(45,undef),(46,undef),(47,.bool true)]++_) a at h;exact s0 hk (k a (aN h))
theorem aDp{r:Option Nat}{Q:Exit->Act->World->Prop}{a:Act}{W:World}{x:Xp}{g cap q:Nat}{m mk:Int}{v6 v7:Value}(hq:q<x.pl.length)(hb:decide (aW m 1 * aW mk 1=1)=false)(hc:W.drew.cell? ⟨g,0+q * 3+2,none⟩=some (.int .u8 mk))
 (h:Sl 52 [(1,.int .u8 m),(5,.slice (some ⟨g,0,none⟩) x.pl.length cap),(6,v6),(7,v7),(8,.int .i64 (q:Int))] a) (k: ∀a,Sl 52 ((47,.bool (decide (aW m 2 * aW mk 2=1)))::[(1,.int .u8 m),(5,.slice (some ⟨g,0,none⟩) x.pl.length cap),(6,v6),(7,v7),(8,.int .i64 (q:Int))]) a->Q .normal a W.drew):aJw.wpIn (FR r) 0 prog Q a W:=by
 refine UA (Pz:=[(none,26,[],.move (.tmp 1),.int .u8 m),(none,27,[0],.call ⟨.value (.func 33),#[(.tmp 26),(.const (.int .u8 1))],#[5,5]⟩,.int .i64 (aW m 1)),(none,28,[],.move (.tmp 5),.slice (some ⟨g,0,none⟩) x.pl.length cap),(none,29,[],.move (.tmp 8),.int .i64 (q:Int)),(none,30,[2,3],.indexAddr 37 (.tmp 28) (.tmp 29),aYW g (0+q * 3)),(none,31,[4],.fieldAddr 46 (.tmp 30) 2,aYW g (0+q * 3+2)),(none,32,[5],.load 5 (.tmp 31),.int .u8 mk),(none,33,[6,1],.call ⟨.value (.func 33),#[(.tmp 32),(.const (.int .u8 1))],#[5,5]⟩,.int .i64 (aW mk 1)),(none,34,[1,7],.binOp .mul 3 (.tmp 27) (.tmp 33) 3,.int .i64 (aW m 1 * aW mk 1)),(none,35,[8],.binOp .eql 3 (.tmp 34) (.const (.int .i64 1)) 3,.bool false),(none,36,[9,7],.move (.tmp 35),.bool false),(some (10,false),37,[10],.move (.tmp 1),.int .u8 m),(some (10,false),38,[11,10,10],.call ⟨.value (.func 33),#[(.tmp 37),(.const (.int .u8 2))],#[5,5]⟩,.int .i64 (aW m 2)),(some (10,false),39,[10],.move (.tmp 5),.slice (some ⟨g,0,none⟩) x.pl.length cap),(some (10,false),40,[10],.move (.tmp 8),.int .i64 (q:Int)),(some (10,false),41,[13,14,10],.indexAddr 37 (.tmp 39) (.tmp 40),aYW g (0+q * 3)),(some (10,false),42,[15,10],.fieldAddr 46 (.tmp 41) 2,aYW g (0+q * 3+2)),(some (10,false),43,[16,10],.load 5 (.tmp 42),.int .u8 mk),(some (10,false),44,[17,12,10],.call ⟨.value (.func 33),#[(.tmp 43),(.const (.int .u8 2))],#[5,5]⟩,.int .i64 (aW mk 2)),(some (10,false),45,[12,18,10],.binOp .mul 3 (.tmp 38) (.tmp 44) 3,.int .i64 (aW m 2 * aW mk 2)),(some (10,false),46,[19,10],.binOp .eql 3 (.tmp 45) (.const (.int .i64 1)) 3,.bool (decide (aW m 2 * aW mk 2=1))),(none,47,[10,20],.pick (.tmp 36) (.const (.bool true)) (.tmp 46),.bool (decide (aW m 2 * aW mk 2=1)))]) (T:=[]) (TA:=[]) (by kernel_rfl) (And.intro (by kernel_rfl) (by kernel_rfl)) (by kernel_rfl) (by kernel_rfl) (by simp) (by kernel_rfl) (by simp) (by simp) (.inl rfl) (by kernel_rfl) h (fun j y hy=>?_) (fun ops l a hK hk h=>?_)
 . match j,hy with
   |0,hy=>
    cases hy;refine .inr ⟨rfl,fun o a ho h=>?_⟩;change Sl 52 ([]++_) a at h;exact .inl (eY ho (sT h))
   |1,hy=>
    cases hy;refine .inr ⟨rfl,fun o a ho h=>?_⟩;change Sl 52 ([(26,.int .u8 m)]++_) a at h;exact .inr ⟨_,_,fU ho func33,by rw[tJ,sT h (v:=.int .u8 m)];exact vF m 1 _⟩
   |2,hy=>
    cases hy;refine .inr ⟨rfl,fun o a ho h=>?_⟩;change Sl 52 ([]++_) a at h;exact .inl (eY ho (sT h))
   |3,hy=>
    cases hy;refine .inr ⟨rfl,fun o a ho h=>?_⟩;change Sl 52 ([]++_) a at h;exact .inl (eY ho (sT h))
   |4,hy=>
    cases hy;refine .inr ⟨rfl,fun o a ho h=>?_⟩;change Sl 52 ([(28,.slice (some ⟨g,0,none⟩) x.pl.length cap),(29,.int .i64 (q:Int))]++_) a at h;exact .inl (fP (g:=g) (off:=0) (n:=x.pl.length) (cp:=cap) (el:=46) (sz:=3) (by kernel_rfl) (by kernel_rfl) hq ho (sT h) (sT h))
   |5,hy=>
    cases hy;refine .inr ⟨rfl,fun o a ho h=>?_⟩;change Sl 52 ([(30,aYW g (0+q * 3))]++_) a at h;exact .inl (aJ (b:=g) (o':=0+q * 3) xG ho (sT h))
   |6,hy=>
    cases hy;refine .inr ⟨rfl,fun o a ho h=>?_⟩;change Sl 52 ([(31,aYW g (0+q * 3+2))]++_) a at h;exact .inl (gK (b:=g) (off:=0+q * 3+2) lY ho (sT h) hc)
   |7,hy=>
    cases hy;refine .inr ⟨rfl,fun o a ho h=>?_⟩;change Sl 52 ([(32,.int .u8 mk),(27,.int .i64 (aW m 1))]++_) a at h;exact .inr ⟨_,_,fU ho func33,by rw[tJ,sT h (v:=.int .u8 mk)];exact vF mk 1 _⟩
   |8,hy=>
    cases hy;refine .inr ⟨rfl,fun o a ho h=>?_⟩;change Sl 52 ([(27,.int .i64 (aW m 1)),(33,.int .i64 (aW mk 1))]++_) a at h;exact .inl (aBZ (q:=.i64) ho (sT h) (sT h) (QU (xM m 1) (xM mk 1)))
   |9,hy=>
    cases hy;refine .inr ⟨rfl,fun o a ho h=>?_⟩;change Sl 52 ([(34,.int .i64 (aW m 1 * aW mk 1))]++_) a at h;exact .inl (aAx hb ho (sT h))
   |10,hy=>
    cases hy;refine .inr ⟨rfl,fun o a ho h=>?_⟩;change Sl 52 ([(35,.bool false),(33,.int .i64 (aW mk 1))]++_) a at h;exact .inl (eY ho (sT h))
   |11,hy=>
    cases hy;refine .inr ⟨rfl,fun o a ho h=>?_⟩;change Sl 52 ([(36,.bool false)]++_) a at h;exact .inl (eY ho (sT h))
   |12,hy=>
    cases hy;refine .inr ⟨rfl,fun o a ho h=>?_⟩;change Sl 52 ([(37,.int .u8 m),(36,.bool false),(36,.bool false)]++_) a at h;exact .inr ⟨_,_,fU ho func33,by rw[tJ,sT h (v:=.int .u8 m)];exact vF m 2 _⟩
   |13,hy=>
    cases hy;refine .inr ⟨rfl,fun o a ho h=>?_⟩;change Sl 52 ([(36,.bool false)]++_) a at h;exact .inl (eY ho (sT h))
   |14,hy=>
    cases hy;refine .inr ⟨rfl,fun o a ho h=>?_⟩;change Sl 52 ([(36,.bool false)]++_) a at h;exact .inl (eY ho (sT h))
   |15,hy=>
    cases hy;refine .inr ⟨rfl,fun o a ho h=>?_⟩;change Sl 52 ([(39,.slice (some ⟨g,0,none⟩) x.pl.length cap),(40,.int .i64 (q:Int)),(36,.bool false)]++_) a at h;exact .inl (fP (g:=g) (off:=0) (n:=x.pl.length) (cp:=cap) (el:=46) (sz:=3) (by kernel_rfl) (by kernel_rfl) hq ho (sT h) (sT h))
   |16,hy=>
    cases hy;refine .inr ⟨rfl,fun o a ho h=>?_⟩;change Sl 52 ([(41,aYW g (0+q * 3)),(36,.bool false)]++_) a at h;exact .inl (aJ (b:=g) (o':=0+q * 3) xG ho (sT h))
   |17,hy=>
    cases hy;refine .inr ⟨rfl,fun o a ho h=>?_⟩;change Sl 52 ([(42,aYW g (0+q * 3+2)),(36,.bool false)]++_) a at h;exact .inl (gK (b:=g) (off:=0+q * 3+2) lY ho (sT h) hc)
   |18,hy=>
    cases hy;refine .inr ⟨rfl,fun o a ho h=>?_⟩;change Sl 52 ([(43,.int .u8 mk),(38,.int .i64 (aW m 2)),(36,.bool false)]++_) a at h;exact .inr ⟨_,_,fU ho func33,by rw[tJ,sT h (v:=.int .u8 mk)];exact vF mk 2 _⟩
   |19,hy=>
    cases hy;refine .inr ⟨rfl,fun o a ho h=>?_⟩;change Sl 52 ([(38,.int .i64 (aW m 2)),(44,.int .i64 (aW mk 2)),(36,.bool false)]++_) a at h;exact .inl (aBZ (q:=.i64) ho (sT h) (sT h) (QU (xM m 2) (xM mk 2)))
   |20,hy=>
    cases hy;refine .inr ⟨rfl,fun o a ho h=>?_⟩;change Sl 52 ([(45,.int .i64 (aW m 2 * aW mk 2)),(36,.bool false)]++_) a at h;exact .inl (jE (q:=.i64) ho (sT h) rfl)
   |21,hy=>
    cases hy;refine .inr ⟨rfl,fun o a ho h=>?_⟩;change Sl 52 ([(36,.bool false),(46,.bool (decide (aW m 2 * aW mk 2=1)))]++_) a at h;exact .inl (dI ho (sT h) (sT h))
   |j+22,hy=>cases hy
 change Sl 52 ([(26,.int .u8 m),(27,.int .i64 (aW m 1)),(28,.slice (some ⟨g,0,none⟩) x.pl.length cap),(29,.int .i64 (q:Int)),(30,aYW g (0+q * 3)),(31,aYW g (0+q * 3+2)),(32,.int .u8 mk),(33,.int .i64 (aW mk 1)),(34,.int .i64 (aW m 1 * aW mk 1)),(35,.bool false),(36,.bool false),(37,.int .u8 m),(38,.int .i64 (aW m 2)),(39,.slice (some ⟨g,0,none⟩) x.pl.length cap),(40,.int .i64 (q:Int)),(41,aYW g (0+q * 3)),(42,aYW g (0+q * 3+2)),(43,.int .u8 mk),(44,.int .i64 (aW mk 2)),(45,.int .i64 (aW m 2 * aW mk 2)),(46,.bool (decide (aW m 2 * aW mk 2=1))),(47,.bool (decide (aW m 2 * aW mk 2=1)))]++_) a at h;exact s0 hk (k a (aN h))
theorem aNc{r:Option Nat}{Q:Exit->Act->World->Prop}{a:Act}{W:World}{x:Xp}{g cap q:Nat}{m mk:Int}{v6 v7:Value}(hq:q<x.pl.length)(hc:W.drew.cell? ⟨g,0+q * 3+2,none⟩=some (.int .u8 mk))
 (h:Sl 52 [(1,.int .u8 m),(5,.slice (some ⟨g,0,none⟩) x.pl.length cap),(6,v6),(7,v7),(8,.int .i64 (q:Int))] a) (k: ∀a,Sl 52 ((47,.bool (decide (aW m 1 * aW mk 1=1)||decide (aW m 2 * aW mk 2=1)))::[(1,.int .u8 m),(5,.slice (some ⟨g,0,none⟩) x.pl.length cap),(6,v6),(7,v7),(8,.int .i64 (q:Int))]) a->Q .normal a W.drew):aJw.wpIn (FR r) 0 prog Q a W:=by
 cases hb:decide (aW m 1 * aW mk 1=1)with
 |true=>exact aFs hq hb hc h fun a h=>k a (by rw[hb,aX0];exact h)
 |false=>exact aDp hq hb hc h fun a h=>k a (by rw[hb,aVb];exact h)
def b01(b:Bool):Int:=if b then 1 else 0
theorem aNb{r:Option Nat}{Q:Exit->Act->World->Prop}{a:Act}{W:World}{v1 v5 v6 v8:Value}{b c:Bool}(h:Sl 52 [(47,.bool b),(1,v1),(5,v5),(6,v6),(7,.int .i64 (b01 (!c))),(8,v8)] a)(k: ∀a,Sl 52 [(1,v1),(5,v5),(6,v6),(7,.int .i64 (b01 (!(c||b)))),(8,v8)] a->Q .normal a W):(Code.cond (.tmp 47) aRu .skip).wpIn (FR r) 0 prog Q a W:=by
 refine cZ (t:=b) h (by simp) (fun cb=>aG [kc 7 (.int .i64 0)] fun ops l hK hk=>?_) (fun cb=>aJt ?_)
 . refine aC hk h fun l a hk h=>?_;exact s0 hk (k a (by rw[cb,aX1];exact(show Sl 52 [(1,v1),(5,v5),(6,v6),(7,.int .i64 0),(8,v8)] a from aN h)))
 exact k a (by rw[cb,aUz];exact aN h)
abbrev fB(x:Xp)(m:Int)(q:Nat):Bool:=decide (aW (x.mq q) m=1)
abbrev fC(x:Xp)(m:Int)(q:Nat):Bool:=decide (aW m 1 * aW (x.mq q) 1=1)||decide (aW m 2 * aW (x.mq q) 2=1)
def Xp.rtr(x:Xp)(m:Int):Int:=if allT (fB x m) x.pl.length then 3 else 2 - b01 (!sK (fC x m) x.pl.length)
theorem aLf(b:Bool)(u v:Int):b01 b * aW u v=b01 (b&&decide (aW u v=1)):=by
 rcases xM u v with e|e<;>rw[e]<;>cases b<;>rfl
theorem aOP(b:Bool):b01 b=0\/b01 b=1:=by cases b;exact .inl rfl;exact .inr rfl
abbrev RmR(x:Xp)(m:Int)(w:World)(e:Ending)(w':World):Prop:=e=.returned (.int .i64 (x.rtr m))/\Below w.heap.size w w'
section
variable{x:Xp}
theorem aAt(hkd:x.kd=1\/x.kd=2\/x.kd=3\/x.kd=4)(hn:x.L.length<=256)(hp: ∀k,k<x.nU.length->BQ (x.dt k)=x.PT k)(m:Int)(w:World)(hI:gW w x.bs x.L):
 Calls prog 13 #[x.v,.int .u8 m] w (RmR x m w):=by
 refine(aMd (n:=0)).1 ?_;refine fM (args:=[x.v,.int .u8 m]) (N:=52) func13 (show _=some rmC by kernel_rfl) ntmps13 (by simp) fun a h=>?_;rw[aVV];refine aDs (aG [(none,some 2,.box 35 (.tmp 0)),kc 4 (.int .i64 0)] fun ops l hK hk=>?_);refine sV (v:=aYW w.heap.size 0) hk h (fun _ ho=>rJ (v:=x.v) ho (sT h) rfl) fun l a hk h=>?_;have A0:Al w (w.alloc (.cells x.l.toArray 35)) w.heap.size 35 x.l:=dN x.l;change wpListIn _ _ _ _ _ _ _ (w.alloc (.cells x.l.toArray 35));generalize w.alloc (.cells x.l.toArray 35)=W0 at A0 ⊢;obtain⟨p0,hp0⟩: ∃p,p=w.heap.size:=⟨_,rfl⟩;rw[<-hp0]at A0 h;have f0:=A0.2.2.2.1;have b0:Below w.heap.size w W0:=dZ A0;refine aC hk h fun l a hk h=>?_;refine s0 hk (aDs (aG [kl 9 35 2,(none,some 10,.call ⟨.value (.func 8),#[(.tmp 9)],#[35]⟩),ka 5 10] fun ops l hK hk=>?_));refine sV (v:=x.v) hk h (fun _ ho=>bC (aO f0) underlying35 rfl (by kernel_rfl) ho (sT h)) fun l a hk h=>?_;refine sc hk h rfl (by decide) (fun _ ho=>fU ho func8) (R:=WrR x W0) (by rw[aHe,sT h (v:=x.v)];exact PI hkd hn hp W0 (qP hI b0.size b0.block)) (fun e W1 ⟨ad,cap,ev,hL,B1⟩=>⟨_,ev,fun l a hk h=>?_⟩);refine aV (v:=.slice ad x.pl.length cap) hk h fun l a hk h=>?_;have b1:Below w.heap.size w W1:=bD b0 B1 (aC4 _);refine s0 hk (aDs (aG [kc 6 (.int .i64 1),kc 7 (.int .i64 1)] fun ops l hK hk=>?_));refine aC hk h fun l a hk h=>
 aC hk h fun l a hk h=>?_
 refine s0 hk (aDs (aDs (aG [kc 8 (.int .i64 0)] fun ops l hK hk=>?_)));refine sV (v:=.int .i64 ((0:Nat):Int)) hk h (fun _ ho=>BZ ho rfl) fun l a hk h=>?_;refine s0 hk (aLs (gQ (fun k a W=> ∃q,k+q=x.pl.length/\Below w.heap.size w W/\jA W ad x.pl.length x.cl/\Sl 52 [(1,.int .u8 m),(5,.slice ad x.pl.length cap),(6,.int .i64 (b01 (allT (fB x m) q))),(7,.int .i64 (b01 (!sK (fC x m) q))),(8,.int .i64 (q:Int))] a) ?_ (m:=x.pl.length) ⟨0,rfl,b1,hL,(show Sl 52 [(1,.int .u8 m),(5,.slice ad x.pl.length cap),(6,.int .i64 1),(7,.int .i64 1),(8,.int .i64 ((0:Nat):Int))] a from aN h)⟩));intro k a W ⟨q,hkq,B,hLq,h⟩;refine aDs (aDs (aG [km 11 8,km 12 5,(none,some 13,.call ⟨.builtin .len,#[(.tmp 12)],#[37]⟩),(none,some 14,.binOp .lss 3 (.tmp 11) (.tmp 13) 3)] fun ops l hK hk=>?_));refine mV (v:=.int .i64 (q:Int)) hk h fun l a hk h=>
 mV (v:=.slice ad x.pl.length cap) hk h fun l a hk h=>
 sV (v:=.int .i64 (x.pl.length:Int)) hk h (fun _ ho=>lM (s:=ad) (c:=cap) (el:=46) (by kernel_rfl) ho (sT h)) fun l a hk h=>
 sV (v:=.bool (decide ((q:Int)<(x.pl.length:Int)))) hk h (fun _ ho=>mP (q:=.i64) ho (sT h) (sT h)) fun l a hk h=>?_
 refine s0 hk (cZ (t:=decide ((q:Int)<(x.pl.length:Int))) h (by simp) (fun c=>aJt ?_) (fun c=>aRf ?_))
 . have hq:q<x.pl.length:=by have:=aEF c;omega
   obtain⟨g,rfl,hg,hr⟩:=hLq q hq;have hc:W.cell? ⟨g,0+q * 3+2,none⟩=some (.int .u8 (x.mq q)):=by rw[aHG];exact hr 2 _ rfl
   refine aDs (aLs (aDs (aG [km 17 6,km 18 5,km 19 8,(none,some 20,.indexAddr 37 (.tmp 18) (.tmp 19)),kf 21 46 20 2,kl 22 5 21,km 23 1,(none,some 24,.call ⟨.value (.func 33),#[(.tmp 22),(.tmp 23)],#[5,5]⟩),(none,some 25,.binOp .mul 3 (.tmp 17) (.tmp 24) 3),ka 6 25] fun ops l hK hk=>?_)));refine mV (v:=.int .i64 (b01 (allT (fB x m) q))) hk h fun l a hk h=>
   mV (v:=.slice (some ⟨g,0,none⟩) x.pl.length cap) hk h fun l a hk h=>
   mV (v:=.int .i64 (q:Int)) hk h fun l a hk h=>
   sV (v:=aYW g (0+q * 3)) hk h (fun _ ho=>fP (g:=g) (off:=0) (n:=x.pl.length) (cp:=cap) (el:=46) (sz:=3) (by kernel_rfl) (by kernel_rfl) hq ho (sT h) (sT h)) fun l a hk h=>
   sV (v:=aYW g (0+q * 3+2)) hk h (fun _ ho=>aJ (b:=g) (o':=0+q * 3) xG ho (sT h)) fun l a hk h=>
   lV (b:=g) (off:=0+q * 3+2) lY (v:=.int .u8 (x.mq q)) hk h hc fun l a hk h=>
   mV (v:=.int .u8 m) hk h fun l a hk h=>?_
   refine sc hk h rfl (by decide) (fun _ ho=>fU ho func33) (R:=fun e W2=>e=.returned (.int .i64 (aW (x.mq q) m))/\W2=W) (by rw[tJ,sT h (k:=22) (v:=.int .u8 (x.mq q)),sT h (k:=23) (v:=.int .u8 m)];exact vF _ _ W) (fun e W2 hR=>⟨_,hR.1,fun l a hk h=>?_⟩);rw[hR.2];refine sV (v:=.int .i64 (b01 (allT (fB x m) q) * aW (x.mq q) m)) hk h (fun _ ho=>aBZ (q:=.i64) ho (sT h) (sT h) (QU (aOP _) (xM _ _))) fun l a hk h=>?_;rw[aLf]at h;refine aV (v:=.int .i64 (b01 (allT (fB x m) q&&decide (aW (x.mq q) m=1)))) hk h fun l a hk h=>?_;refine s0 hk (aDs ?_);have Bd:Below w.heap.size w W.drew:=⟨B.os,B.tape,B.output,B.size,B.block⟩;have hLd:jA W.drew (some ⟨g,0,none⟩) x.pl.length x.cl:=hLq;refine aNc (x:=x) (q:=q) (m:=m) (cap:=cap) (v6:=.int .i64 (b01 (allT (fB x m) q&&decide (aW (x.mq q) m=1)))) (v7:=.int .i64 (b01 (!sK (fC x m) q))) hq hc (aN h) fun a h=>?_;refine aNb (v1:=.int .u8 m) (v5:=.slice (some ⟨g,0,none⟩) x.pl.length cap) (v8:=.int .i64 (q:Int)) (v6:=.int .i64 (b01 (allT (fB x m) q&&decide (aW (x.mq q) m=1)))) (c:=sK (fC x m) q) (b:=fC x m q) h fun a h=>?_;show aRv.wpIn _ _ _ _ _ _;refine aG [km 15 8,(none,some 16,.binOp .add 3 (.tmp 15) (.const (.int .i64 1)) 3),ka 8 16] fun ops l hK hk=>?_;refine mV (v:=.int .i64 (q:Int)) hk h fun l a hk h=>
   sV (v:=.int .i64 ((q:Int)+1)) hk h (fun _ ho=>rM ho (sT h) rfl (wrap_succ hq (x.GN hn))) fun l a hk h=>
   aV (v:=.int .i64 ((q:Int)+1)) hk h fun l a hk h=>?_
   have h:Sl 52 [(1,.int .u8 m),(5,.slice (some ⟨g,0,none⟩) x.pl.length cap),(6,.int .i64 (b01 (allT (fB x m) q&&decide (aW (x.mq q) m=1)))),(7,.int .i64 (b01 (!(sK (fC x m) q||fC x m q)))),(8,.int .i64 ((q:Int)+1))] a:=aN h;exact s0 hk ⟨k - 1,by omega,q+1,by omega,Bd,hLd,by rw[aNq];exact h⟩
 have hq:q=x.pl.length:=by have:=aIH c;omega
 refine aDs (aDs (aG [km 48 6,(none,some 49,.binOp .eql 3 (.tmp 48) (.const (.int .i64 1)) 3)] fun ops l hK hk=>?_));rw[hq]at h;refine mV (v:=.int .i64 (b01 (allT (fB x m) x.pl.length))) hk h fun l a hk h=>
 sV (v:=.bool (allT (fB x m) x.pl.length)) hk h (fun _ ho=>aAx (by cases allT (fB x m) x.pl.length<;>rfl) ho (sT h (v:=.int .i64 (b01 (allT (fB x m) x.pl.length))))) fun l a hk h=>?_
 refine s0 hk (cZ (t:=allT (fB x m) x.pl.length) h (by simp) (fun cA=>aDs (aG [kc 4 (.int .i64 3)] fun ops l hK hk=>?_)) (fun cA=>aJt ?_))
 . refine aC hk h fun l a hk h=>?_;refine s0 hk (aMu ?_);exact fF (R:=RmR x m w) (i:=4) (v:=.int .i64 3) h results13 (by simp) ⟨by unfold Xp.rtr;rw[cA];rfl,B⟩
 show(Code.seq aLI .ret).wpIn _ _ _ _ _ _;refine aDs (aG [km 50 7,(none,some 51,.binOp .sub 3 (.const (.int .i64 2)) (.tmp 50) 3),ka 4 51] fun ops l hK hk=>?_);refine mV (v:=.int .i64 (b01 (!sK (fC x m) x.pl.length))) hk h fun l a hk h=>
 sV (v:=.int .i64 (2 - b01 (!sK (fC x m) x.pl.length))) hk h (fun _ ho=>aFu (q:=.i64) ho rfl (sT h) (by cases sK (fC x m) x.pl.length<;>rfl)) fun l a hk h=>
 aV (v:=.int .i64 (2 - b01 (!sK (fC x m) x.pl.length))) hk h fun l a hk h=>?_
 refine s0 hk (aMu ?_);exact fF (R:=RmR x m w) (i:=4) (v:=.int .i64 (2 - b01 (!sK (fC x m) x.pl.length))) h results13 (by simp) ⟨by unfold Xp.rtr;rw[cA];rfl,B⟩
end
theorem BI{f g:Nat->Bool}: ∀n,(∀q,q<n->f q=g q)->allT f n=allT g n
 |0,_=>rfl
 |n+1,h=>by show(allT f n&&f n)=(allT g n&&g n);rw[BI n (fun q hq=>h q (by omega)),h n (by omega)]
theorem NS{f g:Nat->Bool}: ∀n,(∀q,q<n->f q=g q)->sK f n=sK g n
 |0,_=>rfl
 |n+1,h=>by show(sK f n||f n)=(sK g n||g n);rw[NS n (fun q hq=>h q (by omega)),h n (by omega)]
theorem ZJ(f g:Nat->Bool): ∀n,allT (fun q=>f q&&g q) n=(allT f n&&allT g n)
 |0=>rfl
 |n+1=>by
  show(allT (fun q=>f q&&g q) n&&(f n&&g n))=((allT f n&&f n)&&(allT g n&&g n));rw[ZJ f g n];cases allT f n<;>cases allT g n<;>cases f n<;>cases g n<;>rfl
theorem aLi{f:Nat->Bool}{n q:Nat}(h:allT f n=true)(hq:q<n):f q=true:=by
 cases hf:f q with
 |true=>rfl
 |false=>rw[JJ hf n hq]at h;cases h
theorem QF{f:Nat->Bool}: ∀n,(∀q,q<n->f q=false)->sK f n=false
 |0,_=>rfl
 |n+1,h=>by show(sK f n||f n)=false;rw[QF n (fun q hq=>h q (by omega)),h n (by omega)];rfl
theorem four{a:Int}(h0:0<=a)(h3:a<=3):a=0\/a=1\/a=2\/a=3:=by omega
theorem three{a:Int}(h0:1<=a)(h3:a<=3):a=1\/a=2\/a=3:=by omega
theorem aLh{a m:Int}(h0:0<=a)(h3:a<=3)(m1:1<=m)(m3:m<=3):decide (xO a m=m)=decide (aW a m=1):=by
 rcases four h0 h3 with rfl|rfl|rfl|rfl<;>rcases three m1 m3 with rfl|rfl|rfl<;>kernel_rfl
theorem aIk{a m:Int}(h0:0<=a)(h3:a<=3)(m1:1<=m)(m3:m<=3):(!decide (xO a m=0))=(decide (aW m 1 * aW a 1=1)||decide (aW m 2 * aW a 2=1)):=by
 rcases four h0 h3 with rfl|rfl|rfl|rfl<;>rcases three m1 m3 with rfl|rfl|rfl<;>kernel_rfl
theorem aIl{a:Int}(h0:0<=a)(h3:a<=3):decide (xO a 3=3)=(decide (xO a 1=1)&&decide (xO a 2=2)):=by
 rcases four h0 h3 with rfl|rfl|rfl|rfl<;>kernel_rfl
theorem and_zero{m:Int}(m1:1<=m)(m3:m<=3):decide (xO 0 m=m)=false/\decide (xO 0 m=0)=true:=by
 rcases three m1 m3 with rfl|rfl|rfl<;>exact⟨by kernel_rfl,by kernel_rfl⟩
section
variable{x:Xp}(hm: ∀q,q<x.pl.length->0<=x.mq q/\x.mq q<=3)
include hm
theorem aRe{m:Int}(m1:1<=m)(m3:m<=3):x.tr m=x.rtr m:=by
 unfold Xp.tr Xp.rtr;rw[BI (f:=fA x m) (g:=fB x m) _ (fun q hq=>aLh (hm q hq).1 (hm q hq).2 m1 m3),NS (f:=fS x m) (g:=fC x m) _ (fun q hq=>aIk (hm q hq).1 (hm q hq).2 m1 m3)];cases allT (fB x m) x.pl.length<;>cases sK (fC x m) x.pl.length<;>rfl
theorem QV(m:Int):(x.tr m=1\/x.tr m=2\/x.tr m=3)/\decide (x.tr m=3)=allT (fA x m) x.pl.length:=by
 unfold Xp.tr;cases allT (fA x m) x.pl.length<;>cases sK (fS x m) x.pl.length<;>exact⟨by simp,rfl⟩
theorem aJj:decide (x.tr 3=3)=(decide (x.tr 1=3)&&decide (x.tr 2=3)):=by
 rw[(QV hm 3).2,(QV hm 1).2,(QV hm 2).2,<-ZJ];exact BI _ (fun q hq=>aIl (hm q hq).1 (hm q hq).2)
theorem aE4{m:Int}(m1:1<=m)(m3:m<=3)(h0:0<x.pl.length)(hp:x.pz=true):x.tr m=1:=by
 have hz: ∀q,q<x.pl.length->x.mq q=0:=fun q hq=>aEF (aLi hp hq);unfold Xp.tr;rw[JJ (f:=fA x m) (q:=0) (by show decide (xO (x.mq 0) m=m)=false;rw[hz 0 h0];exact(and_zero m1 m3).1) _ h0,QF _ (fun q hq=>by show(!decide (xO (x.mq q) m=0))=false;rw[hz q hq,(and_zero m1 m3).2];rfl)]
 rfl
end
end
end
end Go.Proofs.YtebgcnnhokclaaaGreatDoor
