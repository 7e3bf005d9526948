import Derived.Test.YtacggmlngekidaaGreatDoorProg
import Derived.Test.YtacggmlngekidaaGreatDoorP2
import Derived.Test.YtacggmlngekidaaGreatDoorP3
import Derived.Lib.OwnBridge
import Derived.Deep.CutBlock
import Derived.Deep.MidRow
import Derived.Deep.RegionHeld3
import Derived.LoopN
import Derived.ChangeKeysEq
set_option linter.unusedSimpArgs false
set_option linter.unusedVariables false
set_option maxRecDepth 1000000
set_option maxHeartbeats 8000000
set_option linter.unusedSectionVars false
namespace Go.Proofs.YtacggmlngekidaaGreatDoor
abbrev aAf:=@List.setIfInBounds_toArray
abbrev aAM:=@List.set_cons_zero
abbrev aAN:=@List.set_cons_succ
abbrev aSN:=@false_implies
abbrev aTE:=@Go.Lib.holds_of_ownsRow
abbrev aUd:=@implies_true
abbrev aUe:=@forall_const
abbrev aUt:=@true_implies
abbrev aUB:=@Go.wp_region_held_drew
abbrev aVy:=@List.length_reverse
abbrev aVC:=@true_and
abbrev aVE:=@false_or
abbrev aVF:=@and_true
abbrev aV6:=@Bool.true_or
abbrev aWv:=@Bool.cond_decide
abbrev aWw:=@Go.wpAnyH_done
abbrev aWz:=@UInt8.toNat.inj
abbrev aWY:=@List.getElem_cons_zero
abbrev aW9:=@List.getElem_cons_succ
section
namespace Bk
def Dt.D9(d:Dt):List Int:=d.ms.reverse
def Dt.dsr(d:Dt):List Int:=d.ds.reverse
theorem Dt.aMB(d:Dt):d.D9.length<=12:=by unfold Dt.D9;rw[aVy];exact d.UY
theorem Dt.aM7(d:Dt):d.dsr.length<=31:=by unfold Dt.dsr;rw[aVy];exact d.aCn
theorem Dt.IV{d:Dt}{m:Int}:m ∈ d.D9↔m ∈ d.ms:=List.mem_reverse
theorem Dt.U4{d:Dt}{m:Int}:m ∈ d.dsr↔m ∈ d.ds:=List.mem_reverse
def Dt.le(d:Dt)(y m k cy cm ck:Int):Prop:=y<cy\/(y=cy/\(d.mo.size=0\/m<cm\/(m=cm/\(d.da.size=0\/k<=ck))))
def Dt.jW(d:Dt)(cy cm ck:Int)(y m k:Int)(found:Bool):Prop:=
 (found=true/\d.Fill y m k/\d.le y m k cy cm ck/\ ∀z n j,d.Fill z n j->d.le z n j cy cm ck-> ¬xR y m k z n j)\/
 (found=false/\y=0/\m=0/\k=0/\ ∀z n j,d.Fill z n j-> ¬d.le z n j cy cm ck)
def Dt.GH(d:Dt)(n v:Int)(ok:Bool):Prop:=
 (ok=true/\d.In v/\v<=n/\ ∀u,d.In u->u<=n->u<=v)\/(ok=false/\ ∀u,d.In u-> ¬u<=n)
def Dt.WO(d:Dt)(y cy cm ck:Int)(i:Nat):Prop:= ∀j,j<i-> ∀(h:j<d.D9.length),∀k,k ∈ d.ds->k<=d.len y (d.D9[j]'h)-> ¬d.le y (d.D9[j]'h) k cy cm ck
def Dt.aGW(d:Dt)(y m cy cm ck:Int)(i:Nat):Prop:= ∀j,j<i-> ∀(h:j<d.dsr.length),(d.dsr[j]'h)<=d.len y m-> ¬d.le y m (d.dsr[j]'h) cy cm ck
def Dt.aKV(d:Dt)(y cy cm ck:Int):Prop:= ∀z n j,d.Fill z n j->y<z-> ¬d.le z n j cy cm ck
theorem Dt.aFB(d:Dt)(y cy cm ck:Int):d.WO y cy cm ck 0:=fun j h=>by omega
theorem Dt.aFE(d:Dt)(y m cy cm ck:Int):d.aGW y m cy cm ck 0:=fun j h=>by omega
theorem Dt.aFF{d:Dt}{y m cy cm ck:Int}{i:Nat}(h:d.aGW y m cy cm ck i)(hi:i<d.dsr.length)(hn:(d.dsr[i]'hi)<=d.len y m-> ¬d.le y m (d.dsr[i]'hi) cy cm ck):d.aGW y m cy cm ck (i+1):=by
 intro j hj hl
 by_cases e:j=i
 . subst e;exact hn
 exact h j (by omega) hl
theorem Dt.aFC{d:Dt}{y cy cm ck:Int}{i:Nat}(h:d.WO y cy cm ck i)(hi:i<d.D9.length)(hn:d.aGW y (d.D9[i]'hi) cy cm ck d.dsr.length):d.WO y cy cm ck (i+1):=by
 intro j hj hl
 by_cases e:j=i
 . subst e;intro k hk hkl;obtain⟨a,ha,rfl⟩:=aNI (Dt.U4.2 hk);exact hn a ha ha hkl
 exact h j (by omega) hl
theorem Dt.aFD{d:Dt}{y cy cm ck:Int}{i:Nat}(h:d.WO y cy cm ck i)(hi:i<d.D9.length)(hy:y=cy)(hm:d.mo.size≠0)(hlt:cm<(d.D9[i]'hi)):d.WO y cy cm ck (i+1):=by
 intro j hj hl
 by_cases e:j=i
 . subst e;rintro k hk hkl (g|⟨g,g|g|⟨g,_⟩⟩)<;>omega
 exact h j (by omega) hl
theorem Dt.aFA{d:Dt}{y v cy cm ck:Int}{ok:Bool}(h:d.aKV y cy cm ck)(hm:d.WO y cy cm ck d.D9.length)(hy:d.GH (y - 1) v ok):
 (ok=true->d.aKV v cy cm ck)/\(ok=false-> ∀z n j,d.Fill z n j-> ¬d.le z n j cy cm ck):=by
 have key: ∀z n j,d.Fill z n j->y<=z-> ¬d.le z n j cy cm ck:=by
  intro z n j hf hz
  by_cases e:z=y
  . subst e;obtain⟨h1,h2,h3,h4⟩:=hf;obtain⟨a,ha,rfl⟩:=aNI (Dt.IV.2 h2);exact hm a ha ha j h3 h4
  exact h z n j hf (by omega)
 constructor
 . rintro rfl z n j hf hz;rcases hy with⟨_,_,_,hmin⟩|⟨h,_⟩
   . exact key z n j hf (by have:=hmin z hf.1;omega)
   cases h
 rintro rfl z n j hf;rcases hy with⟨h,_⟩|⟨_,hno⟩
 . cases h
 exact key z n j hf (by have:=hno z hf.1;omega)
theorem Dt.aBV{d:Dt}{v cy cm ck:Int}{ok:Bool}(hy:d.GH cy v ok):
 (ok=true->d.aKV v cy cm ck)/\(ok=false-> ∀z n j,d.Fill z n j-> ¬d.le z n j cy cm ck):=by
 have low: ∀z n j,cy<z-> ¬d.le z n j cy cm ck:=by rintro z n j h (g|⟨g,_⟩)<;>omega
 constructor
 . rintro rfl z n j hf hz;rcases hy with⟨_,_,_,hmin⟩|⟨h,_⟩
   . exact low z n j (by have:=hmin z hf.1;omega)
   cases h
 rintro rfl z n j hf;rcases hy with⟨h,_⟩|⟨_,hno⟩
 . cases h
 exact low z n j (by have:=hno z hf.1;omega)
theorem QU{l:List Int}(hs:l.Pairwise (· < ·)){i j:Nat}(hi:i<l.reverse.length)(hj:j<l.reverse.length)(h:(l.reverse[i]'hi)<(l.reverse[j]'hj)):j<i:=by
 have hr:l.reverse.Pairwise (fun a b=>b<a):=List.pairwise_reverse.2 hs
 by_cases c:j<i
 . exact c
 exfalso
 by_cases e:i=j
 . subst e;omega
 have:=aUP.1 hr i j hi hj (by omega);omega
theorem Dt.aQz{d:Dt}{y cy cm ck:Int}{i j:Nat}(hY:d.In y)(hN:d.aKV y cy cm ck)(hM:d.WO y cy cm ck i)(hi:i<d.D9.length)(hK:d.aGW y (d.D9[i]'hi) cy cm ck j)(hj:j<d.dsr.length)
 (hl:(d.dsr[j]'hj)<=d.len y (d.D9[i]'hi)) (hg:d.le y (d.D9[i]'hi) (d.dsr[j]'hj) cy cm ck):d.jW cy cm ck y (d.D9[i]'hi) (d.dsr[j]'hj) true:=by
 refine .inl ⟨rfl,⟨hY,Dt.IV.1 (aRV hi),Dt.U4.1 (aRV hj),hl⟩,hg,?_⟩;intro z n k hf hge hlt;rcases hlt with h|⟨rfl,h|⟨rfl,h⟩⟩
 . exact hN z n k hf h hge
 . obtain⟨_,h2,h3,h4⟩:=hf;obtain⟨a,ha,rfl⟩:=aNI (Dt.IV.2 h2);exact hM a (QU d.RH hi ha h) ha k h3 h4 hge
 obtain⟨_,h2,h3,h4⟩:=hf;obtain⟨a,ha,rfl⟩:=aNI (Dt.U4.2 h3);exact hK a (QU d.SG hj ha h) ha h4 hge
theorem aLR{d:Dt}{v m k cy cm ck:Int}{s2:Bool}(hmd:d.mo.size=0->d.da.size=0)(hle:v<=cy)(hns: ¬(v=cy/\d.mo.size≠0/\cm<m))(h2:s2=true↔v=cy/\(d.mo.size=0\/m=cm)):
 d.le v m k cy cm ck↔ ¬(s2=true/\d.da.size≠0/\ck<k):=by
 unfold Dt.le;rw[h2]
 by_cases c:v<cy
 . exact⟨fun _ h=>by omega,fun _=>.inl c⟩
 have e:v=cy:=by omega
 constructor
 . rintro(h|⟨_,h⟩) ⟨⟨_,g1⟩,g2,g3⟩
   . exact c h
   have:d.mo.size≠0:=fun h=>g2 (hmd h);omega
 intro h;refine .inr ⟨e,?_⟩
 by_cases c1:d.mo.size=0
 . exact .inl c1
 by_cases c2:m=cm
 . refine .inr (.inr ⟨c2,?_⟩)
   by_cases c3:d.da.size=0
   . exact .inl c3
   right
   by_cases c4:ck<k
   . exact absurd ⟨⟨e,.inr c2⟩,c3,c4⟩ h
   omega
 right;left;omega
structure WL(d:Dt)(cy cm ck:Int)(v:Int)(ok:Bool):Prop where
 yes:ok=true->d.In v/\v<=cy/\d.aKV v cy cm ck
 no:ok=false-> ∀z n j,d.Fill z n j-> ¬d.le z n j cy cm ck
theorem WL.start{d:Dt}{cy cm ck v:Int}{ok:Bool}(h:d.GH cy v ok):WL d cy cm ck v ok:=by
 have hs:=Dt.aBV (cm:=cm) (ck:=ck) h;refine⟨fun e=>?_,hs.2⟩;rcases h with g|g
 . exact⟨g.2.1,g.2.2.1,hs.1 e⟩
 rw[g.1]at e;cases e
theorem WL.next{d:Dt}{cy cm ck y v:Int}{ok:Bool}(hs:WL d cy cm ck y true)(hm:d.WO y cy cm ck d.D9.length)(h:d.GH (y - 1) v ok):WL d cy cm ck v ok/\(ok=true->v<y):=by
 obtain⟨h1,h2,h3⟩:=hs.yes rfl;have hn:=Dt.aFA h3 hm h;rcases h with g|g
 . exact⟨⟨fun e=>⟨g.2.1,by have:=g.2.2.1;omega,hn.1 e⟩,hn.2⟩,fun _=>by have:=g.2.2.1;omega⟩
 refine⟨⟨fun e=>?_,hn.2⟩,fun e=>?_⟩<;>(rw[g.1]at e;cases e)
theorem BI{y m k z n j:Int}(h1: ¬xR y m k z n j)(h2: ¬xR z n j y m k):y=z/\m=n/\k=j:=by
 unfold xR at h1 h2;omega
theorem Dt.aA5{d:Dt}{cy cm ck y m k y' m' k':Int}{b b':Bool}(h:d.jF cy cm ck y m k b)(h':d.jF cy cm ck y' m' k' b'):(y,m,k,b)=(y',m',k',b'):=by
 rcases h with⟨rfl,h1,h2,h3⟩|⟨rfl,rfl,rfl,rfl,h3⟩<;>rcases h' with⟨rfl,g1,g2,g3⟩|⟨rfl,rfl,rfl,rfl,g3⟩
 . obtain⟨rfl,rfl,rfl⟩:=BI (g3 _ _ _ h1 h2) (h3 _ _ _ g1 g2);rfl
 . exact absurd h2 (g3 _ _ _ h1)
 . exact absurd g2 (h3 _ _ _ g1)
 rfl
theorem Dt.XT{d:Dt}{cy cm ck y m k y' m' k':Int}{b b':Bool}(h:d.jW cy cm ck y m k b)(h':d.jW cy cm ck y' m' k' b'):(y,m,k,b)=(y',m',k',b'):=by
 rcases h with⟨rfl,h1,h2,h3⟩|⟨rfl,rfl,rfl,rfl,h3⟩<;>rcases h' with⟨rfl,g1,g2,g3⟩|⟨rfl,rfl,rfl,rfl,g3⟩
 . obtain⟨rfl,rfl,rfl⟩:=BI (h3 _ _ _ g1 g2) (g3 _ _ _ h1 h2);rfl
 . exact absurd h2 (g3 _ _ _ h1)
 . exact absurd g2 (h3 _ _ _ g1)
 rfl
open Classical in
noncomputable def Dt.nx(d:Dt)(c:Int × Int × Int):Int × Int × Int × Bool:=if h: ∃t:Int × Int × Int × Bool,d.jF c.1 c.2.1 c.2.2 t.1 t.2.1 t.2.2.1 t.2.2.2 then h.choose else(0,0,0,false)
open Classical in
noncomputable def Dt.pv(d:Dt)(c:Int × Int × Int):Int × Int × Int × Bool:=if h: ∃t:Int × Int × Int × Bool,d.jW c.1 c.2.1 c.2.2 t.1 t.2.1 t.2.2.1 t.2.2.2 then h.choose else(0,0,0,false)
theorem Dt.aID{d:Dt}{cy cm ck y m k:Int}{b:Bool}(h:d.jF cy cm ck y m k b):d.nx (cy,cm,ck)=(y,m,k,b):=by
 have he: ∃t:Int × Int × Int × Bool,d.jF cy cm ck t.1 t.2.1 t.2.2.1 t.2.2.2:=⟨(y,m,k,b),h⟩;unfold Dt.nx;rw[dif_pos he];exact Dt.aA5 he.choose_spec h
theorem Dt.aHT{d:Dt}{cy cm ck y m k:Int}{b:Bool}(h:d.jW cy cm ck y m k b):d.pv (cy,cm,ck)=(y,m,k,b):=by
 have he: ∃t:Int × Int × Int × Bool,d.jW cy cm ck t.1 t.2.1 t.2.2.1 t.2.2.2:=⟨(y,m,k,b),h⟩;unfold Dt.pv;rw[dif_pos he];exact Dt.XT he.choose_spec h
end Bk
end
section
open Go.RowKit Go.Lib
namespace Bk
open Un (ba bt ri rb aU bF)
theorem PI(s:ByteArray)(n:Int)(w:World)(h4:s.size=4)(hx:allB bU s=true)(n0: -9223372036854775808<=n)(n1:n<9223372036854775808):
 Calls Tryz.prog 137 #[.string s,.int .i64 n,.bool true,.int .i64 1] w (TI (UpR (aY s) n 1) w):=by
 have HN:=GK (fun w=>RG s (max n 1) w h4 hx);have HU: ∀v x,nZ (aY s) (max n 1) v x->UpR (aY s) n 1 v (x==0):=by
  intro v x h;obtain⟨b0,b1,_⟩:=ZE h;refine⟨b0,b1,?_⟩;rcases h with⟨rfl,h1,h2,h3⟩|⟨rfl,_,h3⟩
  . exact .inl ⟨rfl,h1,by omega,by omega,fun f hf g1 g2=>h3 f hf (by omega)⟩
  exact .inr ⟨rfl,fun f hf hl=>by have:=h3 f hf;have:=hf.1;omega⟩
 replace HU:=GK HU
 go_enter Tryz.func137,Tryz.ntmps137
 go_wp2_with fail
 refine(HN.out _).mono ?_;rintro _ w1 ⟨v,x,hN,rfl,hb1⟩;have hR:=GK (HU.out _ _ hN);clear hN
 go_wp2_with fail
 go_ret2
 exact⟨_,_,hR.out,rfl,hb1⟩
theorem PK(s:ByteArray)(n:Int)(w:World)(h4:s.size=4)(hx:allB bU s=true):
 Calls Tryz.prog 137 #[.string s,.int .i64 n,.bool false,.int .i64 0] w (TI (DnR (aY s) n 0) w):=by
 have HN:=GK (fun w=>Q9 s n w h4 hx);have HU: ∀v x,qA (aY s) n v x->DnR (aY s) n 0 v (x==0&&decide (0<=v)):=by
  intro v x h;obtain⟨b0,b1,_⟩:=A8 h;refine⟨b0,b1,?_⟩;rcases h with⟨rfl,h1,h2,h3⟩|⟨rfl,_,h3⟩
  . by_cases c:0<=v
    . exact .inl ⟨by rw[aAP c];rfl,h1,h2,c,h3⟩
    exact .inr ⟨by rw[aCw c];rfl,fun f hf hl=>by have:=h3 f hf hl;omega⟩
  exact .inr ⟨rfl,fun f hf hl=>by have:=h3 f hf;omega⟩
 replace HU:=GK HU
 go_enter Tryz.func137,Tryz.ntmps137
 go_wp2_with fail
 refine(HN.out _).mono ?_;rintro _ w1 ⟨v,x,hN,rfl,hb1⟩;have hR:=HU.out _ _ hN;have hx2:=(A8 hN).2.2;clear hN;rcases hx2 with rfl|rfl
 . have hR2:=GK (show DnR (aY s) n 0 v (decide (0<=v)) by rw[show ((0:Int)==0)=true from rfl,aQT]at hR;exact hR);clear hR
   go_wp2_with fail
   go_ret2
   exact⟨_,_,hR2.out,rfl,hb1⟩
 have hR2:=GK (show DnR (aY s) n 0 v false by rw[show ((16:Int)==0)=false from rfl,aRW]at hR;exact hR);clear hR
 go_wp2_with fail
 go_ret2
 exact⟨_,_,hR2.out,rfl,hb1⟩
theorem aAS{d:Dt}{n:Int}(hm:d.mask=false):d.GH n (yVal d.neg d.dg d.ex) (decide (yVal d.neg d.dg d.ex<=n)):=by
 have hin: ∀u,d.In u↔u=yVal d.neg d.dg d.ex:=fun u=>by
  unfold Dt.In yVal Dt.mag;rw[aB9 (by rw[hm];decide)]
 by_cases c:yVal d.neg d.dg d.ex<=n
 . exact .inl ⟨aAP c,(hin _).2 rfl,c,fun u hu _=>by rw[(hin u).1 hu];exact aRT _⟩
 exact .inr ⟨aCw c,fun u hu h=>by rw[(hin u).1 hu]at h;exact c h⟩
theorem aLC{d:Dt}{n v:Int}{ok:Bool}(hm:d.mask=true)(hn:d.neg=false)(h:DnR (aY d.dg) n 0 v ok):d.GH n v ok:=by
 have hin: ∀u,d.In u↔oO (aY d.dg) u:=fun u=>by
  unfold Dt.In;rw[aFV hm,aB9 (by rw[hn];decide)]
 rcases h.2.2 with⟨h1,h2,h3,_,h4⟩|⟨h1,h2⟩
 . exact .inl ⟨h1,(hin _).2 h2,h3,fun u hu hl=>h4 u ((hin u).1 hu) hl⟩
 exact .inr ⟨h1,fun u hu hl=>by have:=h2 u ((hin u).1 hu) hl;have:=((hin u).1 hu).1;omega⟩
theorem aLB{d:Dt}{n v:Int}{ok:Bool}(hm:d.mask=true)(hn:d.neg=true)(h:UpR (aY d.dg) (-(max n (-9223372036854775807))) 1 v ok):d.GH n (-v) ok:=by
 have hin: ∀u,d.In u↔(oO (aY d.dg) (-u)/\u≠0):=fun u=>by
  unfold Dt.In;rw[aFV hm,aFV hn]
 have hv:=h.2.1;rcases h.2.2 with⟨h1,h2,h3,h5,h4⟩|⟨h1,h2⟩
 . refine .inl ⟨h1,(hin _).2 ⟨by rw[Int.neg_neg];exact h2,by omega⟩,by omega,fun u hu hl=>?_⟩;obtain⟨g1,g2⟩:=(hin u).1 hu;have:=h4 (-u) g1 (by have:=g1.2.1;omega) (by have:=g1.1;omega);omega
 refine .inr ⟨h1,fun u hu hl=>?_⟩;obtain⟨g1,g2⟩:=(hin u).1 hu;have:=h2 (-u) g1 (by have:=g1.1;omega);have:=g1.2.1;omega
theorem QB(d:Dt)(mv dv:Value)(n:Int)(w:World)(hy:d.dg.size<=1000)(hok:d.JG=true)(n0: -9223372036854775808<=n)(n1:n<9223372036854775808):
 Calls Tryz.prog 114 #[fmv d mv dv,.int .i64 n,.bool false] w (TI (fun v ok=>d.GH n v ok) w):=by
 have hF:Rw w.heap.size (iE d mv dv) w _:=Rw.fresh (aAL _ _) (iE d mv dv) 116;unfold iE at hF;have hM:=fun W=>nP d.neg d.long d.dg d.ex d.sig W;unfold yv at hM;unfold Dt.JG at hok;unfold fmv
 go_enter Tryz.func114,Tryz.ntmps114
 go_upto_region 1 with(fail)
 generalize w.alloc _=W0 at hF ⊢;obtain⟨r0,r1,r2,r3,r4⟩:=(⟨hF.cell 0 _ rfl,hF.cell 1 _ rfl,hF.cell 2 _ rfl,hF.cell 3 _ rfl,hF.cell 4 _ rfl⟩:_/\_/\_/\_/\_);have HB0:=GK hF.below;clear hF
 go_upto_region 2 with(fail)
 have hY:=Ym.new d.neg d.long d.dg d.ex d.sig W0 35;generalize W0.alloc _=W1 at hY ⊢;clear r0 r1 r2 r3 r4;obtain⟨q0,q1,q2,q3,q4,qB⟩:=id hY
 cases hx:hasB 88 d.dg
 . rw[hx]at hM;have HM:=GK hM;have hV:=fun W=>zC d.neg d.long d.dg d.ex d.sig W hy hok hx;unfold yv at hV;have HV:=GK hV;have HP:=GK (aAS (d:=d) (n:=n) (by unfold Dt.mask;exact hx));have hb:=TP hok hx;clear hM hV hok hx;generalize yVal d.neg d.dg d.ex=v at *
   go_wp2_with fail
   refine(HM.out _).mono ?_;rintro _ w1 ⟨rfl,hb⟩;replace hY:=hY.later hb;clear hb;obtain⟨q0,q1,q2,q3,q4,qB⟩:=id hY
   go_wp2_with fail
   refine(HV.out _).mono ?_;rintro _ w2 ⟨rfl,hb⟩;replace hY:=hY.later hb;clear hb;obtain⟨q0,q1,q2,q3,q4,qB⟩:=id hY;have HB2:=GK (bt HB0.out hY.below)
   by_cases cn:v<=n
   . rw[aAP cn]at HP
     go_wp2_with fail
     go_ret2
     exact⟨_,_,HP.out,rfl,HB2.out⟩
   go_wp2_with fail
   go_ret2
   exact⟨_,_,HP.out,rfl,HB2.out⟩
 have hs:d.long=false/\d.dg.size=4/\allB bU d.dg=true:=by
  rcases aRO d.long with hl|hl
  case inr=>
   rw[hl]at hok;obtain⟨h1,h2,_⟩:=iC hok;exact⟨hl,h1,h2⟩
  case inl=>
   rw[hl]at hok;have hd:=(jG hok).2.2.1;have:=(jV (pY hd)).2 hd;rw[hx]at this;cases this
 obtain⟨-,h4,hdx⟩:=hs;rw[hx]at hM;have HM:=GK hM;have hmk:d.mask=true:=by unfold Dt.mask;exact hx
 rcases aRO d.neg with hn|hn
 case inr=>
  as_aux_lemma=>
   have HU:=GK (fun w=>PK d.dg n w h4 hdx);have HP:=GK (fun v ok h=>aLC (n:=n) (v:=v) (ok:=ok) hmk hn h);have HN:=GK hn;clear hM hok hx h4 hdx hmk hn
   go_wp2_with fail
   refine(HM.out _).mono ?_;rintro _ w1 ⟨rfl,hb⟩;replace hY:=hY.later hb;clear hb;obtain⟨q0,q1,q2,q3,q4,qB⟩:=id hY;rw[HN.out]at q0
   go_wp2_with fail
   refine(HU.out _).mono ?_;rintro _ w2 ⟨v,ok,hU,rfl,hb⟩;have HP2:=GK (HP.out _ _ hU);have HB2:=GK (bt (bt HB0.out hY.below) hb);clear hb hU
   go_wp2_with fail
   go_ret2
   exact⟨_,_,HP2.out,rfl,HB2.out⟩
 case inl=>
  as_aux_lemma=>
   have HU:=GK (fun w=>PI d.dg (-(max n (-9223372036854775807))) w h4 hdx (by omega) (by omega));have HP:=GK (fun v ok h=>aLB (n:=n) (v:=v) (ok:=ok) hmk hn h);have HN:=GK hn;clear hM hok hx h4 hdx hmk hn
   go_wp2_with fail
   refine(HM.out _).mono ?_;rintro _ w1 ⟨rfl,hb⟩;replace hY:=hY.later hb;clear hb;obtain⟨q0,q1,q2,q3,q4,qB⟩:=id hY;rw[HN.out]at q0
   go_wp2_with fail
   refine(HU.out _).mono ?_;rintro _ w2 ⟨v,ok,hU,rfl,hb⟩;have HP2:=GK (HP.out _ _ hU);have hw:wrap64 (-v)= -v:=by
    have g0:=hU.1;have g1:=hU.2.1;unfold wrap64;omega
   have HB2:=GK (bt (bt HB0.out hY.below) hb);clear hb hU
   go_wp2_with fail
   rw[hw]
   go_ret2
   exact⟨_,_,HP2.out,rfl,HB2.out⟩
end Bk
end
section
open Go.RowKit Go.Lib
namespace Bk
open Un (ba bt ri rb aU bF)
def AB(base:Nat)(W:World)(v:Value)(l:List Int):Prop:=W.ownsRow base 3 1 v l.length (l.map (.int .i64))/\v≠ .slice none 0 0
theorem AB.sl{base:Nat}{W:World}{v:Value}{l:List Int}(h:AB base W v l)(hne:l≠[]):bD W v l:=bD.own h.1 hne
theorem rC{w w':World}{base e size n:Nat}{v:Value}{xs:List Value}(h:w.ownsRow base e size v n xs)(hb: ∀g,v.ownBlock=some g->w'.heap[g]? =w.heap[g]?):w'.ownsRow base e size v n xs:=by
 refine⟨h.1,?_⟩;rcases h.2 with h2|⟨g,cap,cur,rfl,h3,h4,h5⟩
 . exact .inl h2
 exact .inr ⟨g,cap,cur,rfl,h3,(hb g rfl).trans h4,h5⟩
theorem AB.later{base:Nat}{W W2:World}{v:Value}{l:List Int}(h:AB base W v l)(hb:Below W.heap.size W W2):AB base W2 v l:=by
 refine⟨rC h.1 (fun g hg=>?_),h.2⟩;obtain⟨g',cap,rfl,_,hlt,_⟩:=aTE h.1 h.2
 cases hg
 exact hb.block _ hlt
theorem clone_any(v:Value)(l:List Int)(w:World)(hlen:l.length<=1000)(h:bD w v l):
 Calls Tryz.prog 111 #[v] w fun e w'=> ∃v',e=.returned v'/\AB w.heap.size w' v' l/\Below w.heap.size w w':=by
 obtain⟨g,cap,rfl,_,hc⟩:=h;refine(Tryz.slices_Clone_int g 0 l.length cap l w (aCU _) (by omega) (fun j hj=>?_)).mono ?_
 . rw[aJU,hc j hj];simp[List.getD,aGX hj]
 rintro e w' ⟨v',rfl,h1,h2,h3⟩;rw[List.take_length]at h1;exact⟨v',rfl,⟨h1,h2⟩,h3⟩
structure Rev(v:Value)(l:List Int)(base:Nat)(w w':World):Prop where
 own:AB base w' v l.reverse
 below: ∀B w0,Below B w0 w->B<=base->Below B w0 w'
 other: ∀g,v.ownBlock≠some g->w'.heap[g]? =w.heap[g]?
theorem FK(v:Value)(l:List Int)(base:Nat)(w:World)(hlen:l.length<=1000)(h:AB base w v l):
 Calls Tryz.prog 112 #[v] w fun e w'=>e=.returned (.tuple #[])/\Rev v l base w w':=by
 obtain⟨g,cap,rfl,hb,hlt,_,_,_,hH⟩:=aTE h.1 h.2;refine(Tryz.slices_Reverse_int g 0 cap l w hH (by omega)).mono ?_;rintro e w' ⟨rfl,n,rfl⟩;refine⟨rfl,⟨?_,(by simp)⟩,fun B w0 hB hle=>below_putRow hB (aI6 hle hb),fun k hk=>?_⟩
 . have:=ownsRow_putRow (q:=n) (ys:=l.reverse) (k:=l.length) h.1 (by simp) (aCU _);rw[aRy (by simp)]at this;rw[aVy];exact this
 have hne:g≠k:=fun e=>hk (by rw[e];rfl);simp[Sort.putRow,Sort.mapBlock,Sort.ahead,aU8,hne]
theorem OC(a b:Int)(p:Nat)(w:World)(hc:w.cell? ⟨p,0,none⟩=some (.bool false)):
 Calls Tryz.prog 113 #[.int .i64 a,.int .i64 b,.pointer (some ⟨p,0,none⟩)] w fun r w'=>r=.returned (.bool (decide (b<a)))/\w=w':=by
 go_enter Tryz.func113,Tryz.ntmps113
 by_cases c:b<a
 . rw[aAP c]
   go_wp2_with fail
   go_ret
   exact⟨rfl,rfl⟩
 rw[aCw c]
 go_wp2_with fail
 go_ret
 exact⟨rfl,rfl⟩
def zZ(d:Dt)(cy cm ck:Int)(w:World)(e:Ending)(w':World):Prop:= ∃y m k ok,d.jW cy cm ck y m k ok/\e=.returned (.tuple #[cvv y m k,.bool ok])/\Below w.heap.size w w'
structure SkD(d:Dt)(mv dv mr dr:Value)(cy cm ck:Int)(p3 p4 p5 p6:Nat)(w W:World):Prop where
 f:Rw p3 (iE d mv dv) w W
 c:Rw p4 (aP cy cm ck) w W
 u:Rw p5 [.bool false] w W
 o:Rw p6 (aP 0 0 0) w W
 m:bD W mr d.D9
 d:bD W dr d.dsr
theorem SkD.later{d:Dt}{mv dv mr dr:Value}{cy cm ck:Int}{p3 p4 p5 p6:Nat}{w W W2:World}(h:SkD d mv dv mr dr cy cm ck p3 p4 p5 p6 w W)(hb:Below W.heap.size W W2):SkD d mv dv mr dr cy cm ck p3 p4 p5 p6 w W2:=
 ⟨h.f.later hb,h.c.later hb,h.u.later hb,h.o.later hb,h.m.later hb,h.d.later hb⟩
structure Sk0(d:Dt)(mv dv:Value)(cy cm ck:Int)(p3 p4 p5 p6:Nat)(w W:World):Prop where
 f:Rw p3 (iE d mv dv) w W
 c:Rw p4 (aP cy cm ck) w W
 u:Rw p5 [.bool false] w W
 o:Rw p6 (aP 0 0 0) w W
 m:bD W mv d.ms
 d:bD W dv d.ds
theorem Sk0.later{d:Dt}{mv dv:Value}{cy cm ck:Int}{p3 p4 p5 p6:Nat}{w W W2:World}(h:Sk0 d mv dv cy cm ck p3 p4 p5 p6 w W)(hb:Below W.heap.size W W2):Sk0 d mv dv cy cm ck p3 p4 p5 p6 w W2:=
 ⟨h.f.later hb,h.c.later hb,h.u.later hb,h.o.later hb,h.m.later hb,h.d.later hb⟩
theorem Sk0.new(d:Dt){mv dv:Value}(cy cm ck:Int)(w:World)(t1 t2 t3 t4:TypeId)(hm:bD w mv d.ms)(hd:bD w dv d.ds):
 Sk0 d mv dv cy cm ck w.heap.size (w.heap.size+1) (w.heap.size+1+1) (w.heap.size+1+1+1) w ((((w.alloc (.cells (iE d mv dv).toArray t1)).alloc (.cells (aP cy cm ck).toArray t2)).alloc (.cells #[.bool false] t3)).alloc (.cells (aP 0 0 0).toArray t4)):=by
 have f1:=Rw.fresh (aAL w.heap.size w) (iE d mv dv) t1;have f2:=Rw.fresh f1.below (aP cy cm ck) t2;have f3:=Rw.fresh f2.below [.bool false] t3;have f4:=Rw.fresh f3.below (aP 0 0 0) t4;simp only[fC]at f2 f3 f4;refine⟨?_,?_,?_,f4,?_,?_⟩
 . exact((f1.later (ba (aAL _ _) _)).later (ba (aAL _ _) _)).later (ba (aAL _ _) _)
 . exact(f2.later (ba (aAL _ _) _)).later (ba (aAL _ _) _)
 . exact f3.later (ba (aAL _ _) _)
 . exact hm.later f4.below
 exact hd.later f4.below
theorem QX{d:Dt}{cy cm ck y m k:Int}{ok:Bool}{p6:Nat}{w wO:World}{tmps:Array Value}(ho:Rw p6 (aP 0 0 0) w wO)(h:d.jW cy cm ck y m k ok)
 (hp:tmps.getD 6 undef=.pointer (some ⟨p6,0,none⟩)) (hq:tmps.getD 7 undef=.bool ok):
 bodyPost Tryz.prog Tryz.f83 (zZ d cy cm ck w) Exit.ret ⟨tmps,[]⟩ (((wO.setCell ⟨p6,0,none⟩ (.int .i64 y)).setCell ⟨p6,1,none⟩ (.int .i64 m)).setCell ⟨p6,2,none⟩ (.int .i64 k)):=by
 have hX:=ho.eU (aP y m k) rfl;have hr:=aQl (P:=Tryz.prog) _ p6 0 112 (aP y m k) _ hX.range Tryz.underlying112 rfl pR;exact aG2 (v:=.tuple #[cvv y m k,.bool ok]) (vP Tryz.results83 _ hp hq hr) rfl ⟨y,m,k,ok,h,rfl,hX.below⟩
def aSZ(y f:Value):Nat:=SK f * (intOf y+10000000000000002).toNat
theorem AB.other{b1 b2:Nat}{w1 w2 w3:World}{v1 v2:Value}{l1 l2:List Int}(h2:AB w1.heap.size w2 v2 l2)(r:Rev v1 l1 b1 w2 w3)(h1:AB b2 w1 v1 l1)(hb:Below w1.heap.size w1 w2):AB w1.heap.size w3 v2 l2:=by
 refine⟨rC h2.1 (fun g hg=>r.other g (fun e=>?_)),h2.2⟩;obtain⟨g1,c1,rfl,_,hlt,_⟩:=aTE h1.1 h1.2;obtain⟨g2,c2,rfl,hle,_,_⟩:=aTE h2.1 h2.2
 cases hg;cases e
 omega
theorem Sk0.turn{d:Dt}{mv dv v1 v2:Value}{cy cm ck:Int}{p3 p4 p5 p6:Nat}{w wx w1 w2 w3 w4:World}(h:Sk0 d mv dv cy cm ck p3 p4 p5 p6 w wx)(o1:AB wx.heap.size w1 v1 d.ms)(b1:Below wx.heap.size wx w1)(o2:AB w1.heap.size w2 v2 d.ds)(b2:Below w1.heap.size w1 w2)
 (r1:Rev v1 d.ms wx.heap.size w2 w3) (r2:Rev v2 d.ds w1.heap.size w3 w4) (hmn:d.ms≠[]) (hdn:d.ds≠[]):SkD d mv dv v1 v2 cy cm ck p3 p4 p5 p6 w w4:=by
 have B2:=bt b1 b2;have B3:=r1.below _ _ B2 (aCU _);have B4:=r2.below _ _ B3 b1.size;refine⟨h.f.later B4,h.c.later B4,h.u.later B4,h.o.later B4,?_,r2.own.sl (by simp[hdn])⟩;have hm:AB wx.heap.size w4 v1 d.ms.reverse:=by
  refine⟨rC r1.own.1 (fun g hg=>r2.other g (fun e=>?_)),r1.own.2⟩;obtain⟨g1,c1,rfl,_,hlt,_⟩:=aTE o1.1 o1.2;obtain⟨g2,c2,rfl,hle,_,_⟩:=aTE o2.1 o2.2
  cases hg;cases e
  omega
 exact hm.sl (by simp[hmn])
theorem aEy (d : Dt) (mv dv:Value) (cy cm ck:Int) (w:World) (hk:lW w) (hy:d.dg.size<=1000) (hok:d.JG=true) (hmd:d.mo.size=0->d.da.size=0)
 (y0: -9223372036854775808<=cy) (y1:cy<9223372036854775808) (hm:bD w mv d.ms) (hd:bD w dv d.ds) (hmn:d.ms≠[]) (hdn:d.ds≠[]) (hmm:d.da.size≠0-> ∀m,m ∈ d.ms->1<=m/\m<=12):
 Calls Tryz.prog 83 #[fmv d mv dv,cvv cy cm ck,.bool false] w (zZ d cy cm ck w):=by
 obtain⟨gm,xm,rfl,-,-⟩:=id hm;obtain⟨gd,xd,rfl,-,-⟩:=id hd;have hS:=Sk0.new d cy cm ck w 116 112 4 112 hm hd;have HY:=GK (fun n W h0 h1=>QB d (.slice (some ⟨gm,0,none⟩) d.ms.length xm) (.slice (some ⟨gd,0,none⟩) d.ds.length xd) n W hy hok h0 h1);have HL:=GK (fun y m W hb h0 h1 hm=>FX d (.slice (some ⟨gm,0,none⟩) d.ms.length xm) (.slice (some ⟨gd,0,none⟩) d.ds.length xd) y m W (hk.below (w':=W) hb) h0 h1 hm);have HIN:=GK (fun y (h:d.In y)=>Dt.jU hok h);have HMM:=GK hmm;have HMD:=GK hmd;unfold fmv at HY HL;unfold fmv cvv;unfold iE aP at hS
 go_enter Tryz.func83,Tryz.ntmps83
 go_upto_region 1 with(fail)
 generalize World.alloc _ _=W0 at hS ⊢;generalize w.heap.size+1+1+1=p6 at *;generalize w.heap.size+1+1=p5 at *;generalize w.heap.size+1=p4 at *;have HMN:=GK hmn;have HDN:=GK hdn;clear hk hy hok hm hd hmm hmd hmn hdn;replace hS:Hid (Sk0 d (.slice (some ⟨gm,0,none⟩) d.ms.length xm) (.slice (some ⟨gd,0,none⟩) d.ds.length xd) cy cm ck w.heap.size p4 p5 p6 w W0):=GK hS;have HB0:=GK hS.out.f.below
 go_cut [8,9,10] (fun a b c wx=>a=.int .i64 1/\ .slice (some ⟨gm,0,none⟩) d.ms.length xm=b/\ .slice (some ⟨gd,0,none⟩) d.ds.length xd=c/\Sk0 d b c cy cm ck w.heap.size p4 p5 p6 w wx)
 case first=>
  have f0:=hS.out.f.cell 10 _ rfl;have f1:=hS.out.f.cell 11 _ rfl
  go_region_with (fail)
  all_goals (go_wp2_with fail)
  all_goals (go_meet;exact⟨rfl,rfl,rfl,hS.out.later (aAL W0.heap.size W0).drew⟩)
 case rest=>
 obtain⟨rfl,rfl,rfl,hS⟩:=hcut;replace hS:=GK hS;have ml:=d.UY;have dl:=d.aCn;have hu:=hS.out.u.cell 0 _ rfl
 go_wp2_with fail
 refine(clone_any _ d.ms _ (by omega) hS.out.m).mono ?_;rintro _ w1 ⟨v1,rfl,o1,b1⟩;have O1:=GK o1;have B1:=GK b1;clear o1 b1 hu
 go_wp2_with fail
 refine(clone_any _ d.ds _ (by omega) (hS.out.d.later B1.out)).mono ?_;rintro _ w2 ⟨v2,rfl,o2,b2⟩;have O2:=GK o2;have B2:=GK b2;clear o2 b2
 go_wp2_with fail
 refine(FK v1 d.ms _ _ (by omega) (O1.out.later B2.out)).mono ?_;rintro _ w3 ⟨rfl,r1⟩;have R1:=GK r1;clear r1
 go_wp2_with fail
 refine(FK v2 d.ds w1.heap.size _ (by omega) (O2.out.other R1.out O1.out B2.out)).mono ?_;rintro _ w4 ⟨rfl,r2⟩;have R2:=GK r2;clear r2;have hX:=Sk0.turn hS.out O1.out B1.out O2.out B2.out R1.out R2.out HMN.out HDN.out;obtain⟨gn,xn,rfl,-,-⟩:=id hX.m;obtain⟨ge,xe,rfl,-,-⟩:=id hX.d;replace hS:=GK hX;clear hX O1 B1 O2 B2 R1 R2 ml dl;have hu:=hS.out.u.cell 0 _ rfl;have g0:=hS.out.c.cell 0 _ rfl;have hR:=hS.out.f.range
 go_wp2_with (first
  |(refine aG6 rfl 116 (.tmp 3) rfl w.heap.size 0 rfl (iE d (.slice (some ⟨gm,0,none⟩) d.ms.length xm) (.slice (some ⟨gd,0,none⟩) d.ds.length xd)) _ hR Tryz.underlying116 rfl jM ?_)
  |(go_at_call 114;refine(HY.out _ _ y0 y1).mono ?_;rintro _ w1 ⟨v,ok,hv,rfl,hb⟩))
 replace hS:Hid (SkD d (.slice (some ⟨gm,0,none⟩) d.ms.length xm) (.slice (some ⟨gd,0,none⟩) d.ds.length xd) (.slice (some ⟨gn,0,none⟩) d.D9.length xn) (.slice (some ⟨ge,0,none⟩) d.dsr.length xe) cy cm ck w.heap.size p4 p5 p6 w w1):=GK (hS.out.later hb);have HV0:Hid (WL d cy cm ck v ok):=GK (WL.start hv);clear hu g0 hR hv hb HB0
 go_loopw [7,12,13] (fun r y f wr=> ∃v ok,r=.bool false/\y=.int .i64 v/\f=.bool ok/\WL d cy cm ck v ok/\SkD d (.slice (some ⟨gm,0,none⟩) d.ms.length xm) (.slice (some ⟨gd,0,none⟩) d.ds.length xd) (.slice (some ⟨gn,0,none⟩) d.D9.length xn) (.slice (some ⟨ge,0,none⟩) d.dsr.length xe) cy cm ck w.heap.size p4 p5 p6 w wr) (fun _ y f _=>aSZ y f)
 case atStart=>exact⟨v,ok,rfl,rfl,rfl,HV0.out,hS.out⟩
 case round =>
  obtain⟨v,ok,rfl,rfl,rfl,hV,hS⟩:=hrel;generalize wr=wO at *;have HV:=GK hV;have HS:=GK hS;clear hV hS
  cases ok
  . have HN:=GK (HV.out.no rfl);have f0:=HS.out.o.cell 0 _ rfl;have f1:=HS.out.o.cell 1 _ rfl;have f2:=HS.out.o.cell 2 _ rfl;have z0:=HS.out.o.free 0 (by unfold aP;simp);have z1:=HS.out.o.free 1 (by unfold aP;simp);have z2:=HS.out.o.free 2 (by unfold aP;simp)
    go_wp2_with fail
    exact QX HS.out.o (.inr ⟨rfl,rfl,rfl,rfl,HN.out⟩) rfl rfl
  obtain ⟨i1, i2, i3⟩:=HV.out.yes rfl;have HIV:=GK (HIN.out _ i1);have HLE:=GK i2;clear i1 i2 i3
  go_wp2_with fail
  go_step3
  go_wp2_with fail
  go_step3
  go_wp2_with fail
  have HM0:=GK (Dt.aFB d v cy cm ck)
  go_loopw [7,55] (fun r i wr=> ∃i':Nat,r=.bool false/\i=.int .i64 i'/\i'<=d.D9.length/\d.WO v cy cm ck i'/\SkD d (.slice (some ⟨gm,0,none⟩) d.ms.length xm) (.slice (some ⟨gd,0,none⟩) d.ds.length xd) (.slice (some ⟨gn,0,none⟩) d.D9.length xn) (.slice (some ⟨ge,0,none⟩) d.dsr.length xe) cy cm ck w.heap.size p4 p5 p6 w wr) (fun _ i _=>d.D9.length - (intOf i).toNat)
  case atStart=>exact⟨0,rfl,rfl,by omega,HM0.out,HS.out⟩
  case round =>
   obtain⟨i,rfl,rfl,hi,hM,hS⟩:=hrel;clear HS HM0;generalize wr=wO at *;have HS:=GK hS;have HM:=GK hM;clear hS hM;have ml:=d.aMB
   by_cases hlt:i<d.D9.length
   . have hcell :=HS.out.m.at i hlt;generalize hme:d.D9[i]'hlt=m at hcell;have g0:=HS.out.c.cell 0 _ rfl
     go_upto_region 13 with(fail)
     go_cut [16] (fun s wx=> ∃b,s=.bool b/\(b=true↔v=cy)/\wO=wx)
     case first=>
      go_wp2_with fail
      go_meet
      exact⟨_,rfl,by simp,rfl⟩
     case rest=>
      obtain⟨sb,rfl,hsb,rfl⟩:=hcut;have IJ:=GK hsb;clear hsb g0 hcell
      go_upto_region 14 with(fail)
      go_cut [76] (fun s wx=> ∃b,s=.bool b/\(b=true↔(v=cy/\d.mo.size≠0/\cm<m))/\wO=wx)
      case first=>
       have g5:=HS.out.f.cell 5 _ rfl;have g1:=HS.out.c.cell 1 _ rfl;have hu:=HS.out.u.cell 0 _ rfl;have HA:=GK (OC m cm p5 wO hu)
       cases sb
       . have hne:v≠cy:=fun e=>by have:=IJ.out.2 e;cases this
         go_wp2_with fail
         go_meet
         exact⟨_,rfl,by simp[hne],rfl⟩
       have hve:=IJ.out.1 rfl;rcases fA d.mo with⟨c,e1⟩|⟨c,e1⟩
       . have HC:=GK c;clear c hve
         go_wp2_with fail
         go_meet
         exact⟨_,rfl,by simp[HC.out],rfl⟩
       have HC:=GK c;have HVE:=GK hve;clear c hve;generalize hmc:decide (cm<m)=mc at HA;have HMC:=GK hmc;clear hmc
       go_wp2_with (go_at_call 113;with_reducible refine HA.out.mono ?_;rintro _ w' ⟨rfl,rfl⟩)
       go_meet
       exact⟨_,rfl,by rw[<-HMC.out];simp[HC.out,HVE.out],rfl⟩
      case rest =>
       obtain⟨b,rfl,hb,rfl⟩:=hcut
       cases b
       . have HNS : Hid (¬(v=cy/\d.mo.size≠0/\cm<m)):=GK (fun h=>by have:=hb.2 h;cases this);clear hb;have hR:=HS.out.f.range;have hl:=HL.out v m wO HS.out.f.below HIV.out.1 HIV.out.2 (fun h=>HMM.out h m (by rw[<-hme];exact Dt.IV.1 (aRV hlt)));have HLN:=GK hl;clear hl;obtain⟨n,hn⟩: ∃n,n=d.len v m:=⟨_,rfl⟩;rw[<-hn]at HLN;have HNN:=GK hn;clear hn
         go_upto_region 16 with(first
          |(refine aG6 rfl 116 (.tmp 3) rfl w.heap.size 0 rfl (iE d (.slice (some ⟨gm,0,none⟩) d.ms.length xm) (.slice (some ⟨gd,0,none⟩) d.ds.length xd)) _ hR Tryz.underlying116 rfl jM ?_)
          |(go_at_call 115;refine HLN.out.mono ?_;rintro _ w2 ⟨rfl,hb⟩))
         replace HS:=GK (HS.out.later hb);clear hb hR HLN
         go_cut [16] (fun s wx=> ∃b,s=.bool b/\(b=true↔(v=cy/\(d.mo.size=0\/m=cm)))/\w2=wx)
         case first=>
          have g5:=HS.out.f.cell 5 _ rfl;have g1:=HS.out.c.cell 1 _ rfl
          cases sb
          . have hne:v≠cy:=fun e=>by have:=IJ.out.2 e;cases this
            go_wp2_with fail
            go_meet
            exact⟨_,rfl,by simp[hne],rfl⟩
          have hve:=IJ.out.1 rfl;have HVE:=GK hve;clear hve;rcases fA d.mo with⟨c,e1⟩|⟨c,e1⟩
          . have HC:=GK c;clear c
            go_wp2_with fail
            go_meet
            exact⟨_,rfl,by simp[HC.out,HVE.out],rfl⟩
          have HC:=GK c;clear c
          go_wp2_with fail
          go_meet
          exact⟨_,rfl,by simp[HC.out,HVE.out],rfl⟩
         case rest=>
          obtain⟨s2,rfl,hs2,rfl⟩:=hcut;have HS2:=GK hs2;have HGE:=GK (fun k=>aLR (k:=k) (ck:=ck) HMD.out HLE.out HNS.out hs2);clear hs2 IJ;have HK0:=GK (Dt.aFE d v m cy cm ck)
          go_wp2_with fail
          go_loopw [7,96] (fun r i wr=> ∃i':Nat,r=.bool false/\i=.int .i64 i'/\i'<=d.dsr.length/\d.aGW v m cy cm ck i'/\SkD d (.slice (some ⟨gm,0,none⟩) d.ms.length xm) (.slice (some ⟨gd,0,none⟩) d.ds.length xd) (.slice (some ⟨gn,0,none⟩) d.D9.length xn) (.slice (some ⟨ge,0,none⟩) d.dsr.length xe) cy cm ck w.heap.size p4 p5 p6 w wr) (fun _ i _=>d.dsr.length - (intOf i).toNat)
          case atStart=>exact⟨0,rfl,rfl,by omega,HK0.out,HS.out⟩
          case round=>
           obtain⟨j,rfl,rfl,hj,hK,hS⟩:=hrel;clear HS HK0;generalize wr=wO at *;have HS:=GK hS;have HK:=GK hK;clear hS hK;have dl:=d.aM7
           by_cases hjt:j<d.dsr.length
           . have hcell:=HS.out.d.at j hjt;generalize hke:d.dsr[j]'hjt=k at hcell
             go_upto_region 20 with(fail)
             go_cut [119] (fun s wx=> ∃b,s=.bool b/\(b=true↔(k<=n/\ ¬(s2=true/\d.da.size≠0/\ck<k)))/\wO=wx)
             case first=>
              have g6:=HS.out.f.cell 6 _ rfl;have g2:=HS.out.c.cell 2 _ rfl;have hu:=HS.out.u.cell 0 _ rfl;have HA:=GK (OC k ck p5 wO hu)
              by_cases hkn:k<=n
              . cases s2
                . go_wp2_with fail
                  go_meet
                  exact⟨_,rfl,by simp[hkn],rfl⟩
                rcases fA d.da with⟨c,e1⟩|⟨c,e1⟩
                . have HC:=GK c;clear c
                  go_wp2_with fail
                  go_meet
                  exact⟨_,rfl,by simp[HC.out,hkn],rfl⟩
                have HC:=GK c;clear c;generalize hmc:decide (ck<k)=mc at HA;have HMC:=GK hmc;clear hmc
                go_wp2_with (go_at_call 113;with_reducible refine HA.out.mono ?_;rintro _ w' ⟨rfl,rfl⟩)
                go_meet
                exact⟨_,rfl,by rw[<-HMC.out];simp[HC.out,hkn],rfl⟩
              go_wp2_with fail
              go_meet
              exact⟨_,rfl,⟨fun h=>by simp[hkn]at h,fun h=>absurd h.1 (by omega)⟩,rfl⟩
             case rest=>
              obtain⟨b,rfl,hb,rfl⟩:=hcut
              cases b
              . have HK2:=GK (Dt.aFF HK.out hjt (fun hle hg=>by
                 rw[hke]at hle hg;have:=hb.2 ⟨by rw[HNN.out];exact hle,(HGE.out k).1 hg⟩
                 cases this))
                clear hb HK hcell
                go_wp2_with fail
                go_roundw
                case rel=>exact⟨j+1,rfl,by go_num,by omega,HK2.out,HS.out⟩
                case measure=>simp[intOf];omega
              have hb:=hb.1 rfl;have HF:=GK (Dt.aQz (HV.out.yes rfl).1 (HV.out.yes rfl).2.2 HM.out hlt (by rw[hme];exact HK.out) hjt (by rw[hme,hke,<-HNN.out];exact hb.1) (by rw[hme,hke];exact(HGE.out k).2 hb.2));rw[hme,hke]at HF;clear hb HK hcell;have f0:=HS.out.o.cell 0 _ rfl;have f1:=HS.out.o.cell 1 _ rfl;have f2:=HS.out.o.cell 2 _ rfl;have z0:=HS.out.o.free 0 (by unfold aP;simp);have z1:=HS.out.o.free 1 (by unfold aP;simp);have z2:=HS.out.o.free 2 (by unfold aP;simp)
              go_wp2_with fail
              exact QX HS.out.o HF.out rfl rfl
           obtain rfl:j=d.dsr.length:=by omega
           have HM2:=GK (Dt.aFC HM.out hlt (by rw[hme];exact HK.out));clear HK HM
           go_wp2_with fail
           go_roundw
           case rel=>exact⟨i+1,rfl,by go_num,by omega,HM2.out,HS.out⟩
           case measure=>simp[intOf];omega
       have hb:=hb.1 rfl;have HB:=GK hb;have HK:=GK (Dt.aFD HM.out hlt HB.out.1 HB.out.2.1 (by rw[hme];exact HB.out.2.2));clear hb HM
       go_wp2_with fail
       go_roundw
       case rel=>exact⟨i+1,rfl,by go_num,by omega,HK.out,HS.out⟩
       case measure=>simp[intOf];omega
   obtain rfl:i=d.D9.length:=by omega
   have hR:=HS.out.f.range;have hu:=HS.out.u.cell 0 _ rfl;have aZG:IntKind.i64.wrap (v+ -1)=v - 1:=by rw[aGZ];have:=HIV.out;omega
   have hwk:IntKind.i64.wrap (v - 1)=v - 1:=by rw[aGZ];have:=HIV.out;omega
   have hy:=HY.out (v - 1) wO (by have:=HIV.out;omega) (by have:=HIV.out;omega);have HY1:=GK hy;clear hy
   go_wp2_with fail
   rw[aUM]
   go_wp2_with (first
    |(refine aG6 rfl 116 (.tmp 3) rfl w.heap.size 0 rfl (iE d (.slice (some ⟨gm,0,none⟩) d.ms.length xm) (.slice (some ⟨gd,0,none⟩) d.ds.length xd)) _ hR Tryz.underlying116 rfl jM ?_)
    |(go_at_call 114;refine HY1.out.mono ?_;rintro _ w2 ⟨v2,ok2,hv2,rfl,hb⟩))
   have HX:=GK (WL.next HV.out HM.out hv2);have HS2:=GK (HS.out.later hb);clear hv2 hb hR hu
   go_roundw
   case rel=>exact⟨v2,ok2,rfl,rfl,rfl,HX.out.1,HS2.out⟩
   case measure=>
    have h1:=HIV.out;have h2:=HX.out.2;unfold aSZ
    cases ok2
    . simp[SK,intOf];omega
    have:=h2 rfl;simp[SK,intOf];omega
end Bk
end
section
open Go.RowKit Go.Lib
namespace Bk
open Un (ba bt ri rb aU bF)
theorem QY(d:Dt)(mv dv:Value)(cy cm ck:Int)(w:World)(hk:lW w)(hy:d.dg.size<=1000)(hf:d.form=0)
 (y0: -9223372036854775808<=cy) (y1:cy<9223372036854775808) (hm:bD w mv d.ms) (hd:bD w dv d.ds):
 Calls Tryz.prog 83 #[fmv d mv dv,cvv cy cm ck,.bool false] w (zZ d cy cm ck w):=
 aEy d mv dv cy cm ck w hk hy (Dt.iD (Dt.kN hf).1).1 (fmd hf) y0 y1 hm hd (Dt.aOq hf) (Dt.aOC hf) (fmm hf)
def Dt.qA(d:Dt)(cy cm ck:Int)(y m k:Int)(ok:Bool):Prop:=(d.dO=0/\d.jW cy cm ck y m k ok)\/(d.dO≠0/\y=0/\m=0/\k=0/\ok=false)
def aD2(d:Dt)(cy cm ck:Int)(w:World)(e:Ending)(w':World):Prop:= ∃y m k ok,d.qA cy cm ck y m k ok/\e=.returned (.tuple #[cvv y m k,.bool ok,.int .i64 d.dO])/\Below w.heap.size w w'
theorem YH{d:Dt}{cy cm ck y m k:Int}{ok:Bool}{p6:Nat}{w wO:World}{tmps:Array Value}(ho:Rw p6 (aP y m k) w wO)(h:d.qA cy cm ck y m k ok)
 (hp:tmps.getD 4 undef=.pointer (some ⟨p6,0,none⟩)) (hq:tmps.getD 5 undef=.bool ok) (hr:tmps.getD 6 undef=.int .i64 d.dO):
 bodyPost Tryz.prog Tryz.f287 (aD2 d cy cm ck w) Exit.ret ⟨tmps,[]⟩ wO:=by
 have hv:=aQl (P:=Tryz.prog) _ p6 0 112 (aP y m k) _ ho.range Tryz.underlying112 rfl pR;exact aG2 (v:=.tuple #[cvv y m k,.bool ok,.int .i64 d.dO]) (yT Tryz.results287 _ hp hq hr hv) rfl ⟨y,m,k,ok,h,rfl,ho.below⟩
theorem SB(d:Dt)(cy cm ck:Int)(w:World)(hk:lW w)(hs:d.mo.size<=1000)(hy:d.dg.size<=1000)(m0:0<=d.m0)(m1:0<=d.m1)(m2:0<=d.m2)
 (y0: -9223372036854775808<=cy) (y1:cy<9223372036854775808):
 Calls Tryz.prog 287 #[aW d,cvv cy cm ck] w (aD2 d cy cm ck w):=by
 have hD:Rw w.heap.size (bP d) w _:=Rw.fresh (aAL _ _) (bP d) 37;have hD2:=Rw.fresh hD.below (aP cy cm ck) 112;have hD3:=Rw.fresh hD2.below (aP 0 0 0) 112;simp only[fC]at hD2 hD3;have hA:_/\_/\_:=⟨(hD.later (ba (aAL _ _) (.cells (aP cy cm ck).toArray 112))).later (ba (aAL _ _) (.cells (aP 0 0 0).toArray 112)),hD2.later (ba (aAL _ _) (.cells (aP 0 0 0).toArray 112)),hD3⟩;clear hD hD2 hD3;have HC:=GK (fun W hb=>uN d W (hk.below (w':=W) hb) hs hy m0 m1 m2);have HO:=GK (fun W hb hf=>zL d W (hk.below (w':=W) hb) hs hf);have HS:=GK (fun mv dv W hb hf hm hd=>QY d mv dv cy cm ck W (hk.below (w':=W) hb) hy hf y0 y1 hm hd);unfold cvv fmv at HS;clear hk hs hy m0 m1 m2;rw[zT]at HC HO;unfold aW cvv;unfold bP aP at hA
 go_enter Tryz.func287,Tryz.ntmps287
 go_upto_region 1 with(fail)
 generalize World.alloc _ _=W0 at hA ⊢;have HD:Hid (Rw w.heap.size (bP d) w W0):=GK hA.1;have HE:Hid (Rw (w.heap.size+1) (aP cy cm ck) w W0):=GK hA.2.1;have HF:Hid (Rw (w.heap.size+1+1) (aP 0 0 0) w W0):=GK hA.2.2;clear hA;have hR:=HD.out.range;generalize w.heap.size+1+1=p6 at *;generalize w.heap.size+1=p5 at *
 by_cases hc:d.dO=0
 . have HCE:=GK hc;have HFM:=GK (dZ hc);rw[hc]at HC;clear hc
   go_upto_region 4 with(first
    |(refine aG6 rfl 37 (.tmp 2) rfl w.heap.size 0 rfl (bP d) _ hR Tryz.underlying37 rfl dX ?_)
    |(go_at_call 292;refine(HC.out _ HD.out.below).mono ?_;rintro _ w1 ⟨rfl,hb⟩))
   replace HD:=GK (HD.out.later hb);replace HE:=GK (HE.out.later hb);replace HF:=GK (HF.out.later hb);clear hR hb HC
   go_cut [5] (fun s wx=> ∃y m k ok,s=.bool ok/\d.jW cy cm ck y m k ok/\Rw p6 (aP y m k) w wx)
   case first=>
    obtain⟨r0,r1,r2,r3,r4,r5,r6,r7,r8,r9⟩:=HD.out.rF;unfold bP at HO;have e0:=HE.out.cell 0 _ rfl;have e1:=HE.out.cell 1 _ rfl;have e2:=HE.out.cell 2 _ rfl
    go_region_with (first
     |(go_at_call 82;refine(HO.out _ (by first|exact HD.out.below|exact HD.out.below.drew|exact HD.out.below.drew.drew) HFM.out).mono ?_;rintro _ w2 ⟨mv,dv,rfl,hm,hd,hb2⟩;have hb2:Below w1.heap.size w1 w2:=(by first|exact hb2|exact bt (aAL _ _).drew hb2|exact bt (aAL _ _).drew.drew hb2);have HBm:=GK (bt HD.out.below hb2);have HS2:=GK (HS.out mv dv w2 HBm.out HFM.out hm hd);have HE2:=GK (HE.out.later hb2);have HF2:=GK (HF.out.later hb2);clear hm hd hb2;have e0:=HE2.out.cell 0 _ rfl;have e1:=HE2.out.cell 1 _ rfl;have e2:=HE2.out.cell 2 _ rfl)
     |(go_at_call 83;refine HS2.out.mono ?_;rintro _ w3 ⟨y,m,k,ok,hso,rfl,hb3⟩;unfold cvv;have HF3:=GK (HF2.out.later hb3);have HSO:=GK hso;clear hb3 hso;have f0:=HF3.out.cell 0 _ rfl;have f1:=HF3.out.cell 1 _ rfl;have f2:=HF3.out.cell 2 _ rfl;have z0:=HF3.out.free 0 (by unfold aP;simp);have z1:=HF3.out.free 1 (by unfold aP;simp);have z2:=HF3.out.free 2 (by unfold aP;simp)))
    all_goals (go_wp2_with fail)
    all_goals (go_meet;exact⟨_,_,_,_,rfl,HSO.out,HF3.out.eU (aP _ _ _) rfl⟩)
   case rest=>
    obtain⟨y,m,k,ok,rfl,hso,hX⟩:=hcut;have HN:Hid (d.qA cy cm ck y m k ok):=GK (.inl ⟨HCE.out,hso⟩);have HX:=GK hX;clear hX hso HS HO HD HE HF;have f0:=HX.out.cell 0 _ rfl;have f1:=HX.out.cell 1 _ rfl;have f2:=HX.out.cell 2 _ rfl;have z0:=HX.out.free 0 (by unfold aP;simp);have z1:=HX.out.free 1 (by unfold aP;simp);have z2:=HX.out.free 2 (by unfold aP;simp)
    go_wp2_with fail
    exact YH (HX.out.eU (aP y m k) rfl) HN.out rfl rfl (by rw[HCE.out];rfl)
 have HN:Hid (d.qA cy cm ck 0 0 0 false):=GK (.inr ⟨hc,rfl,rfl,rfl,rfl⟩);obtain⟨er,her⟩: ∃er,er=d.dO:=⟨_,rfl⟩;rw[<-her]at HC hc;have QJ:=GK her;clear her
 go_wp2_with (first
  |(refine aG6 rfl 37 (.tmp 2) rfl w.heap.size 0 rfl (bP d) _ hR Tryz.underlying37 rfl dX ?_)
  |(go_at_call 292;refine(HC.out _ HD.out.below).mono ?_;rintro _ w1 ⟨rfl,hb⟩;have HF2:=GK (HF.out.later hb);have f0:=HF2.out.cell 0 _ rfl;have f1:=HF2.out.cell 1 _ rfl;have f2:=HF2.out.cell 2 _ rfl;have z0:=HF2.out.free 0 (by unfold aP;simp);have z1:=HF2.out.free 1 (by unfold aP;simp);have z2:=HF2.out.free 2 (by unfold aP;simp)))
 exact YH (HF2.out.eU (aP 0 0 0) rfl) HN.out rfl rfl (by rw[<-QJ.out];rfl)
noncomputable def Dt.oG(d:Dt)(c:Int × Int × Int):Int × Int × Int × Bool:=if d.dO=0 then d.nx c else(0,0,0,false)
noncomputable def Dt.qM(d:Dt)(c:Int × Int × Int):Int × Int × Int × Bool:=if d.dO=0 then d.pv c else(0,0,0,false)
def cvF(t:Int × Int × Int × Bool)(e:Int):Value:=.tuple #[cvv t.1 t.2.1 t.2.2.1,.bool t.2.2.2,.int .i64 e]
theorem aCl(d:Dt)(cy cm ck:Int)(w:World)(hk:lW w)(hs:d.mo.size<=1000)(hy:d.dg.size<=1000)(m0:0<=d.m0)(m1:0<=d.m1)(m2:0<=d.m2)
 (y0: -9223372036854775808<=cy) (y1:cy<9223372036854775808):
 Calls Tryz.prog 291 #[aW d,cvv cy cm ck] w fun e w'=>e=.returned (cvF (d.oG (cy,cm,ck)) d.dO)/\Below w.heap.size w w':=by
 refine(EM d cy cm ck w hk hs hy m0 m1 m2 y0 y1).mono ?_;rintro e w' ⟨y,m,k,ok,h,rfl,hb⟩;refine⟨?_,hb⟩;have:d.oG (cy,cm,ck)=(y,m,k,ok):=by
  unfold Dt.oG;rcases h with⟨h1,h2⟩|⟨h1,rfl,rfl,rfl,rfl⟩
  . rw[aFV h1];exact Dt.aID h2
  rw[aB9 h1]
 rw[this];rfl
theorem aCk(d:Dt)(cy cm ck:Int)(w:World)(hk:lW w)(hs:d.mo.size<=1000)(hy:d.dg.size<=1000)(m0:0<=d.m0)(m1:0<=d.m1)(m2:0<=d.m2)
 (y0: -9223372036854775808<=cy) (y1:cy<9223372036854775808):
 Calls Tryz.prog 287 #[aW d,cvv cy cm ck] w fun e w'=>e=.returned (cvF (d.qM (cy,cm,ck)) d.dO)/\Below w.heap.size w w':=by
 refine(SB d cy cm ck w hk hs hy m0 m1 m2 y0 y1).mono ?_;rintro e w' ⟨y,m,k,ok,h,rfl,hb⟩;refine⟨?_,hb⟩;have:d.qM (cy,cm,ck)=(y,m,k,ok):=by
  unfold Dt.qM;rcases h with⟨h1,h2⟩|⟨h1,rfl,rfl,rfl,rfl⟩
  . rw[aFV h1];exact Dt.aHT h2
  rw[aB9 h1]
 rw[this];rfl
end Bk
end
section
open Go.RowKit Go.Lib
namespace Bk
open Un (ba bt ri rb aU bF)
def aCO(d:Dt)(R:Int->Int->Int->Bool->Prop)(w:World)(e:Ending)(w':World):Prop:= ∃y m k,((d.dO=0/\ ∃ok,R y m k ok)\/(d.dO≠0/\y=0/\m=0/\k=0))/\e=.returned (.tuple #[cvv y m k,.int .i64 d.dO])/\Below w.heap.size w w'
theorem JA{d:Dt}{R:Int->Int->Int->Bool->Prop}{y m k:Int}{p6:Nat}{w wO:World}{tmps:Array Value}(ho:Rw p6 (aP y m k) w wO)(h:(d.dO=0/\ ∃ok,R y m k ok)\/(d.dO≠0/\y=0/\m=0/\k=0))
 (hp:tmps.getD 6 undef=.pointer (some ⟨p6,0,none⟩)) (hq:tmps.getD 7 undef=.int .i64 d.dO):
 bodyPost Tryz.prog Tryz.f289 (aCO d R w) Exit.ret ⟨tmps,[]⟩ wO:=by
 have hv:=aQl (P:=Tryz.prog) _ p6 0 112 (aP y m k) _ ho.range Tryz.underlying112 rfl pR;exact aG2 (v:=.tuple #[cvv y m k,.int .i64 d.dO]) (vP Tryz.results289 _ hp hq hv) rfl ⟨y,m,k,h,rfl,ho.below⟩
theorem aF8(d:Dt)(cy cm ck:Int)(w:World)(hk:lW w)(hs:d.mo.size<=1000)(hy:d.dg.size<=1000)(m0:0<=d.m0)(m1:0<=d.m1)(m2:0<=d.m2)
 (y0: -9223372036854775808<=cy) (y1:cy<9223372036854775808):
 Calls Tryz.prog 289 #[aW d,cvv cy cm ck,.bool true] w (aCO d (fun y m k ok=>d.jF cy cm ck y m k ok) w):=by
 have hD:Rw w.heap.size (bP d) w _:=Rw.fresh (aAL _ _) (bP d) 37;have hD2:=Rw.fresh hD.below (aP cy cm ck) 112;have hD3:=Rw.fresh hD2.below (aP 0 0 0) 112;simp only[fC]at hD2 hD3;have hA:_/\_/\_:=⟨(hD.later (ba (aAL _ _) (.cells (aP cy cm ck).toArray 112))).later (ba (aAL _ _) (.cells (aP 0 0 0).toArray 112)),hD2.later (ba (aAL _ _) (.cells (aP 0 0 0).toArray 112)),hD3⟩;clear hD hD2 hD3;have HC:=GK (fun W hb=>uN d W (hk.below (w':=W) hb) hs hy m0 m1 m2);have HO:=GK (fun W hb hf=>zL d W (hk.below (w':=W) hb) hs hf);have HS:=GK (fun mv dv W hb hf hm hd=>KA d mv dv cy cm ck W (hk.below (w':=W) hb) hy hf y0 y1 hm hd);unfold cvv fmv at HS;clear hk hs hy m0 m1 m2;rw[zT]at HC HO;unfold aW cvv;unfold bP aP at hA
 go_enter Tryz.func289,Tryz.ntmps289
 go_upto_region 1 with(fail)
 generalize World.alloc _ _=W0 at hA ⊢;have HD:Hid (Rw w.heap.size (bP d) w W0):=GK hA.1;have HE:Hid (Rw (w.heap.size+1) (aP cy cm ck) w W0):=GK hA.2.1;have HF:Hid (Rw (w.heap.size+1+1) (aP 0 0 0) w W0):=GK hA.2.2;clear hA;have hR:=HD.out.range;generalize w.heap.size+1+1=p6 at *;generalize w.heap.size+1=p5 at *
 by_cases hc:d.dO=0
 . have HCE:=GK hc;have HFM:=GK (dZ hc);rw[hc]at HC;clear hc
   go_upto_region 4 with(first
    |(refine aG6 rfl 37 (.tmp 3) rfl w.heap.size 0 rfl (bP d) _ hR Tryz.underlying37 rfl dX ?_)
    |(go_at_call 292;refine(HC.out _ HD.out.below).mono ?_;rintro _ w1 ⟨rfl,hb⟩))
   replace HD:=GK (HD.out.later hb);replace HE:=GK (HE.out.later hb);replace HF:=GK (HF.out.later hb);clear hR hb HC
   go_cut [9] (fun s wx=> ∃p9 y m k ok,s=.pointer (some ⟨p9,0,none⟩)/\d.jF cy cm ck y m k ok/\Rw p9 (aP y m k) w wx/\Rw p6 (aP 0 0 0) w wx)
   case first=>
    obtain⟨r0,r1,r2,r3,r4,r5,r6,r7,r8,r9⟩:=HD.out.rF;unfold bP at HO;have e0:=HE.out.cell 0 _ rfl;have e1:=HE.out.cell 1 _ rfl;have e2:=HE.out.cell 2 _ rfl;have el:=HE.out.lt;have dl:=HD.out.lt;have HFL:=GK HF.out.lt
    go_region_with (first
     |(go_at_call 82;refine(HO.out _ (by first|exact HD.out.below|exact HD.out.below.drew|exact HD.out.below.drew.drew|exact ba HD.out.below.drew _|exact(ba HD.out.below.drew _).drew|exact ba HD.out.below.drew.drew _) HFM.out).mono ?_;rintro _ w2 ⟨mv,dv,rfl,hm,hd,hb2⟩;(first|(have HP:Hid (Rw w1.heap.size (aP 0 0 0) w w2):=GK ((Rw.fresh HD.out.below.drew (aP 0 0 0) 112).later hb2))|skip);have hb2:Below w1.heap.size w1 w2:=(by first|exact hb2|exact bt (aAL _ _).drew hb2|exact bt (aAL _ _).drew.drew hb2|exact bt (ba (aAL _ _).drew _) hb2|exact bt (ba (aAL _ _).drew _).drew hb2|exact bt (ba (aAL _ _).drew.drew _) hb2);have HBm:=GK (bt HD.out.below hb2);have HIM:=GK hm;have HID:=GK hd;have HE2:=GK (HE.out.later hb2);have HF2:=GK (HF.out.later hb2);have HSZ:=GK hb2.size;clear hm hd hb2;have e0:=HE2.out.cell 0 _ rfl;have e1:=HE2.out.cell 1 _ rfl;have e2:=HE2.out.cell 2 _ rfl;have el:=HE2.out.lt)
     |(go_at_call 83;refine(HS.out mv dv _ (by first|exact HBm.out|exact ba HBm.out _|exact HBm.out.drew) HFM.out (by first|exact HIM.out|exact HIM.out.later (ba (aAL _ _) _)) (by first|exact HID.out|exact HID.out.later (ba (aAL _ _) _))).mono ?_;rintro _ w3 ⟨y,m,k,ok,hso,rfl,hb3⟩;unfold cvv;(first|(have WR:Hid (Rw w2.heap.size (aP 0 0 0) w w3):=GK ((Rw.fresh HBm.out (aP 0 0 0) 112).later hb3))|skip);have hb3:Below w2.heap.size w2 w3:=(by first|exact hb3|exact bt (ba (aAL _ _) _) hb3);(first|(have WR:=GK (HP.out.later hb3))|skip);have HF3:=GK (HF2.out.later hb3);have HSO:=GK hso;clear hb3 hso;(first|(have f0:=WR.out.cell 0 _ rfl;have f1:=WR.out.cell 1 _ rfl;have f2:=WR.out.cell 2 _ rfl;have z0:=WR.out.free 0 (by unfold aP;simp);have z1:=WR.out.free 1 (by unfold aP;simp);have z2:=WR.out.free 2 (by unfold aP;simp))|skip)))
    all_goals (go_wp2_with fail)
    all_goals go_meet
    all_goals (have g1:=HFL.out;have g2:=HSZ.out;have g3:=HF3.out.lt;have g4:=HF3.out.new)
    all_goals (first
     |exact⟨_,_,_,_,_,rfl,HSO.out,WR.out.eU (aP _ _ _) rfl,HF3.out.others (q:=w1.heap.size) (by omega) (by have:=HD.out.below.size;omega) (aP _ _ _) 0⟩
     |exact⟨_,_,_,_,_,rfl,HSO.out,WR.out.eU (aP _ _ _) rfl,HF3.out.others (q:=w2.heap.size) (by omega) (by have:=HD.out.below.size;omega) (aP _ _ _) 0⟩
     |exact⟨_,_,_,_,_,rfl,HSO.out,Rw.fresh HF3.out.below (aP _ _ _) _,HF3.out.later (ba (aAL _ _) _)⟩)
   case rest=>
    obtain⟨p9,y,m,k,ok,rfl,hso,hX,hF⟩:=hcut;have HN:=GK hso;have HX:=GK hX;have HF:=GK hF;clear hX hso HS HO HD HE hF;have f0:=HX.out.cell 0 _ rfl;have f1:=HX.out.cell 1 _ rfl;have f2:=HX.out.cell 2 _ rfl;have g0:=HF.out.cell 0 _ rfl;have g1:=HF.out.cell 1 _ rfl;have g2:=HF.out.cell 2 _ rfl;have z0:=HF.out.free 0 (by unfold aP;simp);have z1:=HF.out.free 1 (by unfold aP;simp);have z2:=HF.out.free 2 (by unfold aP;simp)
    go_wp2_with fail
    exact JA (HF.out.eU (aP y m k) rfl) (.inl ⟨HCE.out,ok,HN.out⟩) rfl (by rw[HCE.out];rfl)
 obtain⟨er,her⟩: ∃er,er=d.dO:=⟨_,rfl⟩;rw[<-her]at HC;have hc2:=hc;rw[<-her]at hc;have QJ:=GK her;have HC2:=GK hc2;clear her hc2
 go_wp2_with (first
  |(refine aG6 rfl 37 (.tmp 3) rfl w.heap.size 0 rfl (bP d) _ hR Tryz.underlying37 rfl dX ?_)
  |(go_at_call 292;refine(HC.out _ HD.out.below).mono ?_;rintro _ w1 ⟨rfl,hb⟩;have HF2:=GK (HF.out.later hb);have f0:=HF2.out.cell 0 _ rfl;have f1:=HF2.out.cell 1 _ rfl;have f2:=HF2.out.cell 2 _ rfl;have z0:=HF2.out.free 0 (by unfold aP;simp);have z1:=HF2.out.free 1 (by unfold aP;simp);have z2:=HF2.out.free 2 (by unfold aP;simp)))
 exact JA (HF2.out.eU (aP 0 0 0) rfl) (.inr ⟨HC2.out,rfl,rfl,rfl⟩) rfl (by rw[<-QJ.out];rfl)
theorem aGa(d:Dt)(cy cm ck:Int)(w:World)(hk:lW w)(hs:d.mo.size<=1000)(hy:d.dg.size<=1000)(m0:0<=d.m0)(m1:0<=d.m1)(m2:0<=d.m2)
 (y0: -9223372036854775808<=cy) (y1:cy<9223372036854775808):
 Calls Tryz.prog 289 #[aW d,cvv cy cm ck,.bool false] w (aCO d (fun y m k ok=>d.jW cy cm ck y m k ok) w):=by
 have hD:Rw w.heap.size (bP d) w _:=Rw.fresh (aAL _ _) (bP d) 37;have hD2:=Rw.fresh hD.below (aP cy cm ck) 112;have hD3:=Rw.fresh hD2.below (aP 0 0 0) 112;simp only[fC]at hD2 hD3;have hA:_/\_/\_:=⟨(hD.later (ba (aAL _ _) (.cells (aP cy cm ck).toArray 112))).later (ba (aAL _ _) (.cells (aP 0 0 0).toArray 112)),hD2.later (ba (aAL _ _) (.cells (aP 0 0 0).toArray 112)),hD3⟩;clear hD hD2 hD3;have HC:=GK (fun W hb=>uN d W (hk.below (w':=W) hb) hs hy m0 m1 m2);have HO:=GK (fun W hb hf=>zL d W (hk.below (w':=W) hb) hs hf);have HS:=GK (fun mv dv W hb hf hm hd=>QY d mv dv cy cm ck W (hk.below (w':=W) hb) hy hf y0 y1 hm hd);unfold cvv fmv at HS;clear hk hs hy m0 m1 m2;rw[zT]at HC HO;unfold aW cvv;unfold bP aP at hA
 go_enter Tryz.func289,Tryz.ntmps289
 go_upto_region 1 with(fail)
 generalize World.alloc _ _=W0 at hA ⊢;have HD:Hid (Rw w.heap.size (bP d) w W0):=GK hA.1;have HE:Hid (Rw (w.heap.size+1) (aP cy cm ck) w W0):=GK hA.2.1;have HF:Hid (Rw (w.heap.size+1+1) (aP 0 0 0) w W0):=GK hA.2.2;clear hA;have hR:=HD.out.range;generalize w.heap.size+1+1=p6 at *;generalize w.heap.size+1=p5 at *
 by_cases hc:d.dO=0
 . have HCE:=GK hc;have HFM:=GK (dZ hc);rw[hc]at HC;clear hc
   go_upto_region 4 with(first
    |(refine aG6 rfl 37 (.tmp 3) rfl w.heap.size 0 rfl (bP d) _ hR Tryz.underlying37 rfl dX ?_)
    |(go_at_call 292;refine(HC.out _ HD.out.below).mono ?_;rintro _ w1 ⟨rfl,hb⟩))
   replace HD:=GK (HD.out.later hb);replace HE:=GK (HE.out.later hb);replace HF:=GK (HF.out.later hb);clear hR hb HC
   go_cut [9] (fun s wx=> ∃p9 y m k ok,s=.pointer (some ⟨p9,0,none⟩)/\d.jW cy cm ck y m k ok/\Rw p9 (aP y m k) w wx/\Rw p6 (aP 0 0 0) w wx)
   case first=>
    obtain⟨r0,r1,r2,r3,r4,r5,r6,r7,r8,r9⟩:=HD.out.rF;unfold bP at HO;have e0:=HE.out.cell 0 _ rfl;have e1:=HE.out.cell 1 _ rfl;have e2:=HE.out.cell 2 _ rfl;have el:=HE.out.lt;have dl:=HD.out.lt;have HFL:=GK HF.out.lt
    go_region_with (first
     |(go_at_call 82;refine(HO.out _ (by first|exact HD.out.below|exact HD.out.below.drew|exact HD.out.below.drew.drew|exact ba HD.out.below.drew _|exact(ba HD.out.below.drew _).drew|exact ba HD.out.below.drew.drew _) HFM.out).mono ?_;rintro _ w2 ⟨mv,dv,rfl,hm,hd,hb2⟩;(first|(have HP:Hid (Rw w1.heap.size (aP 0 0 0) w w2):=GK ((Rw.fresh HD.out.below.drew (aP 0 0 0) 112).later hb2))|skip);have hb2:Below w1.heap.size w1 w2:=(by first|exact hb2|exact bt (aAL _ _).drew hb2|exact bt (aAL _ _).drew.drew hb2|exact bt (ba (aAL _ _).drew _) hb2|exact bt (ba (aAL _ _).drew _).drew hb2|exact bt (ba (aAL _ _).drew.drew _) hb2);have HBm:=GK (bt HD.out.below hb2);have HIM:=GK hm;have HID:=GK hd;have HE2:=GK (HE.out.later hb2);have HF2:=GK (HF.out.later hb2);have HSZ:=GK hb2.size;clear hm hd hb2;have e0:=HE2.out.cell 0 _ rfl;have e1:=HE2.out.cell 1 _ rfl;have e2:=HE2.out.cell 2 _ rfl;have el:=HE2.out.lt)
     |(go_at_call 83;refine(HS.out mv dv _ (by first|exact HBm.out|exact ba HBm.out _|exact HBm.out.drew) HFM.out (by first|exact HIM.out|exact HIM.out.later (ba (aAL _ _) _)) (by first|exact HID.out|exact HID.out.later (ba (aAL _ _) _))).mono ?_;rintro _ w3 ⟨y,m,k,ok,hso,rfl,hb3⟩;unfold cvv;(first|(have WR:Hid (Rw w2.heap.size (aP 0 0 0) w w3):=GK ((Rw.fresh HBm.out (aP 0 0 0) 112).later hb3))|skip);have hb3:Below w2.heap.size w2 w3:=(by first|exact hb3|exact bt (ba (aAL _ _) _) hb3);(first|(have WR:=GK (HP.out.later hb3))|skip);have HF3:=GK (HF2.out.later hb3);have HSO:=GK hso;clear hb3 hso;(first|(have f0:=WR.out.cell 0 _ rfl;have f1:=WR.out.cell 1 _ rfl;have f2:=WR.out.cell 2 _ rfl;have z0:=WR.out.free 0 (by unfold aP;simp);have z1:=WR.out.free 1 (by unfold aP;simp);have z2:=WR.out.free 2 (by unfold aP;simp))|skip)))
    all_goals (go_wp2_with fail)
    all_goals go_meet
    all_goals (have g1:=HFL.out;have g2:=HSZ.out;have g3:=HF3.out.lt;have g4:=HF3.out.new)
    all_goals (first
     |exact⟨_,_,_,_,_,rfl,HSO.out,WR.out.eU (aP _ _ _) rfl,HF3.out.others (q:=w1.heap.size) (by omega) (by have:=HD.out.below.size;omega) (aP _ _ _) 0⟩
     |exact⟨_,_,_,_,_,rfl,HSO.out,WR.out.eU (aP _ _ _) rfl,HF3.out.others (q:=w2.heap.size) (by omega) (by have:=HD.out.below.size;omega) (aP _ _ _) 0⟩
     |exact⟨_,_,_,_,_,rfl,HSO.out,Rw.fresh HF3.out.below (aP _ _ _) _,HF3.out.later (ba (aAL _ _) _)⟩)
   case rest=>
    obtain⟨p9,y,m,k,ok,rfl,hso,hX,hF⟩:=hcut;have HN:=GK hso;have HX:=GK hX;have HF:=GK hF;clear hX hso HS HO HD HE hF;have f0:=HX.out.cell 0 _ rfl;have f1:=HX.out.cell 1 _ rfl;have f2:=HX.out.cell 2 _ rfl;have g0:=HF.out.cell 0 _ rfl;have g1:=HF.out.cell 1 _ rfl;have g2:=HF.out.cell 2 _ rfl;have z0:=HF.out.free 0 (by unfold aP;simp);have z1:=HF.out.free 1 (by unfold aP;simp);have z2:=HF.out.free 2 (by unfold aP;simp)
    go_wp2_with fail
    exact JA (HF.out.eU (aP y m k) rfl) (.inl ⟨HCE.out,ok,HN.out⟩) rfl (by rw[HCE.out];rfl)
 obtain⟨er,her⟩: ∃er,er=d.dO:=⟨_,rfl⟩;rw[<-her]at HC;have hc2:=hc;rw[<-her]at hc;have QJ:=GK her;have HC2:=GK hc2;clear her hc2
 go_wp2_with (first
  |(refine aG6 rfl 37 (.tmp 3) rfl w.heap.size 0 rfl (bP d) _ hR Tryz.underlying37 rfl dX ?_)
  |(go_at_call 292;refine(HC.out _ HD.out.below).mono ?_;rintro _ w1 ⟨rfl,hb⟩;have HF2:=GK (HF.out.later hb);have f0:=HF2.out.cell 0 _ rfl;have f1:=HF2.out.cell 1 _ rfl;have f2:=HF2.out.cell 2 _ rfl;have z0:=HF2.out.free 0 (by unfold aP;simp);have z1:=HF2.out.free 1 (by unfold aP;simp);have z2:=HF2.out.free 2 (by unfold aP;simp)))
 exact JA (HF2.out.eU (aP 0 0 0) rfl) (.inr ⟨HC2.out,rfl,rfl,rfl⟩) rfl (by rw[<-QJ.out];rfl)
end Bk
end
section
namespace Bk
theorem sH{s:ByteArray}{l:List UInt8}(h:s.data.toList=l)(i:Nat):aY s i=((l.getD i 0).toNat:Int):=by unfold aY;rw[h]
theorem zX{s t:ByteArray}(h:s.data.toList=t.data.toList):s=t:=by
 cases s with|mk a=>cases t with|mk b=>exact aRx _ (aRD h)
theorem zF(s t:ByteArray):(s.toList==t.toList)=decide (s=t):=by
 rw[aUF,aUF,aKX,aFZ,aNo];exact⟨fun h=>zX h,fun h=>by rw[h]⟩
def twoS(n:Nat):ByteArray:=⟨#[UInt8.ofNat (48+n / 10),UInt8.ofNat (48+n % 10)]⟩
theorem aHo{n:Nat}(h:n<=99):aY (twoS n) 0=48+(n:Int) / 10:=by
 show((UInt8.ofNat (48+n / 10)).toNat:Int)=_;rw[aRX];omega
theorem aHn{n:Nat}(h:n<=99):aY (twoS n) 1=48+(n:Int) % 10:=by
 show((UInt8.ofNat (48+n % 10)).toNat:Int)=_;rw[aRX];omega
theorem aLM{s:ByteArray}{n:Nat}(h:n<=99):s=twoS n↔(s.size=2/\aY s 0=48+(n:Int) / 10/\aY s 1=48+(n:Int) % 10):=by
 constructor
 . rintro rfl;exact⟨rfl,aHo h,aHn h⟩
 rintro⟨h2,h0,h1⟩;obtain⟨a,b,e,e0,e1⟩:=vF h2;apply zX;rw[e];show[a,b]=[_,_];have ha:a=UInt8.ofNat (48+n / 10):=by apply aWz;rw[aRX];omega
 have hb:b=UInt8.ofNat (48+n % 10):=by apply aWz;rw[aRX];omega
 rw[ha,hb]
theorem XH{s:ByteArray}{n:Nat}(h0:21<=n)(h1:n<=41):s=twoS n↔dB s=n:=by
 rw[aLM (by omega)];unfold dB;constructor
 . rintro⟨a,b,c⟩;rw[aFV (by omega)];omega
 intro h
 split at h
 . omega
 omega
theorem aLL: ∀n:Nat,n<100->(CG.extract (n / 10) (n / 10+1)++CG.extract (n % 10) (n % 10+1))=twoS n:=by decide
def YF(neg long:Bool)(D X Z sz b0 ex sig m R:Int):Prop:=
 (D+X≠sz\/sig<0->R=0)/\
 (D+X=sz->0<=sig->long=false->(sz≠4\/ex≠0\/(neg=true/\Z=4)\/4<sig\/(0<sig/\0<X))->R=0)/\
 (D+X=sz->0<=sig->long=false->sz=4->ex=0->(neg=true->Z≠4)->sig<=4->(sig<=0\/X<=0)->R=1)/\
 (D+X=sz->0<=sig->long=true->(0<X\/D<1\/17<D\/b0=48\/ex<0\/16<ex\/(ex=0/\D<5)\/D+ex<sig)->R=0)/\
 (D+X=sz->0<=sig->long=true->X<=0->1<=D->D<=17->b0≠48->0<=ex->ex<=16->(ex≠0\/5<=D)->sig<=D+ex->(m<=10000000000000000->R=1)/\(10000000000000000<m->R=0))
theorem yF(neg long:Bool)(s:ByteArray)(ex sig:Int):YF neg long (mV 48 57 s) (mV 88 88 s) (mV 48 48 s) s.size (aY s 0) ex sig (fK s ex) (if GN neg long s ex sig then 1 else 0):=by
 have hd:=aAe s;have hx:=aHi s;have hz:=aRZ s;have hp:=CV 88 88 s;have hdd:allB bU s=true->(hasB 88 s=false↔allB bG s=true):=fun h=>jV h;have hdx:allB bG s=true->allB bU s=true:=fun h=>pY h;generalize mV 48 57 s=D at *;generalize mV 88 88 s=X at *;generalize mV 48 48 s=Z at *;have no: ∀ {b:Bool},b=false->(if b then(1:Int)else 0)=0:=fun h=>by rw[h];rfl
 have yes: ∀ {b:Bool},b=true->(if b then(1:Int)else 0)=1:=fun h=>by rw[h];rfl
 refine⟨fun h=>no ?_,fun h1 h2 h3 h=>no ?_,fun h1 h2 h3 h4 h5 h6 h7 h8=>yes ?_,fun h1 h2 h3 h=>no ?_,fun h1 h2 h3 h4 h5 h6 h7 h8 h9 h10 h11=>?_⟩
 . rw[aMP];intro hk
   cases long
   . obtain⟨a1,a2,a3,a4,a5,a6,a7⟩:=iC hk;have:=hd.2 a2;omega
   obtain⟨a1,a2,a3,a4,a5,a6,a7,a8,a9⟩:=jG hk;have:=hd.2 (hdx a3);omega
 . subst h3;rw[aMP];intro hk;obtain⟨a1,a2,a3,a4,a5,a6,a7⟩:=iC hk;rcases h with h|h|⟨h,g⟩|h|⟨h,g⟩
   . omega
   . omega
   . have:=(hz a1).1 g;rw[a4 h]at this;cases this
   . omega
   have:=hx.1 g;rw[a5 (by omega)]at this;cases this
 . subst h3;have e4:s.size=4:=by omega
   unfold GN gX;rw[aAP e4,hd.1 h1,aAP h5,aAP h2,aAP (show sig<=s.size+ex by omega)];have n1:(neg&&allB ZO s)=false:=by
    cases hn:neg
    . rfl
    have:=h6 hn
    cases ha:allB ZO s
    . rfl
    exact absurd ((hz e4).2 ha) this
   have n2:(!decide (sig=0)&&hasB 88 s)=false:=by
    rcases h8 with h|h
    . rw[aAP (show sig=0 by omega)];rfl
    cases ha:hasB 88 s
    . simp
    have:=hx.2 ha;omega
   rw[n1,n2];rfl
 . subst h3;rw[aMP];intro hk;obtain⟨a1,a2,a3,a4,a5,a6,a7,a8,a9⟩:=jG hk;have hX:hasB 88 s=false:=(hdd (hdx a3)).2 a3;have nX: ¬ 0<X:=fun c=>by rw[hx.1 c]at hX;cases hX
   have:=hd.2 (hdx a3);have e5: ¬(ex=0/\s.size<5):=by
    rintro⟨c1,c2⟩;unfold GN fM at hk;simp[c1,c2]at hk
   omega
 subst h3;have hX:hasB 88 s=false:=by
  cases ha:hasB 88 s
  . rfl
  have:=hx.2 ha;omega
 have ax:=hd.1 h1;have ad:=(hdd ax).1 hX;have:GN neg true s ex sig=decide (fK s ex<=10000000000000000):=by
  unfold GN fM;have q:(decide (ex=0)&&decide (s.size<5))=false:=by
   rw[aMP];intro c;simp at c;omega
  rw[q,ad];simp[h7,h8,h9,h2,show 1<=s.size by omega,show s.size<=17 by omega,show sig<=s.size+ex by omega]
 rw[this];refine⟨fun c=>by rw[aAP c];rfl,fun c=>by rw[aCw (by omega)];rfl⟩
def PN(s:ByteArray)(x:UInt8):Nat->ByteArray
 |0=>⟨#[]⟩
 |k+1=>PN s x k++(if aY s k=88 then⟨#[x]⟩else s.extract k (k+1))
theorem MC(s:ByteArray)(x:UInt8)(k:Nat):PN s x (k+1)=PN s x k++(if aY s k=88 then⟨#[x]⟩else s.extract k (k+1)):=rfl
end Bk
end
section
open Go.RowKit Go.Lib
namespace Bk
open Un (ba bt ri rb aU bF)
theorem I8(s:ByteArray)(a b:Int)(w:World)(hs:s.size<=maxLen):
 Calls Tryz.prog 90 #[.string s,.int .u8 a,.int .u8 b] w fun r w'=>r=.returned (.int .i64 (mV a b s))/\w=w':=by
 unfold maxLen at hs;unfold mV
 go_enter Tryz.func90,Tryz.ntmps90
 go_wp2
 go_loop [7,8] (fun n i=> ∃k:Nat,k<=s.size/\i=.int .i64 k/\n=.int .i64 (qG a b (s.data.toList.take k))) (fun _ i=>s.size - (intOf i).toNat)
 case atStart=>exact⟨0,aKS _,rfl,rfl⟩
 case round=>
  obtain⟨k,hk,rfl,rfl⟩:=hrel;have hd:=JB a b (s.data.toList.take k);have hl:(s.data.toList.take k).length<=k:=List.length_take_le _ _
  by_cases hlt:k<s.size
  . have hsn:=aGi a b (s.data.toList.take k) s[k];have hts:=take_snoc s k hlt;have HS:Hid (qG a b (s.data.toList.take (k+1))=qG a b (s.data.toList.take k)+if a<=(s[k].toNat:Int)/\(s[k].toNat:Int)<=b then 1 else 0):=GK (by rw[hts];exact hsn);clear hsn hts
    go_wp2
    all_goals
     go_round
     case rel=>exact⟨k+1,by omega,by go_num,by rw[HS.out];first|rw[aFV ⟨‹_›,‹_›⟩]|(rw[aB9 (by omega)];go_num)⟩
     case measure=>simp[intOf];omega
  go_wp2
  go_ret
  exact⟨ri (by rw[aRy (by simp;omega)]),rfl⟩
theorem vV(neg long:Bool)(s:ByteArray)(ex sig:Int)(w:World)(hs:s.size<=maxLen):
 Calls Tryz.prog 122 #[.agg #[.bool neg,.bool long,.string s,.int .i64 ex,.int .i64 sig]] w fun r w'=>r=.returned (.int .i64 (if hasB 88 s then 1 else 0))/\Below w.heap.size w w':=by
 have HH:=fun w=>I8 s 88 88 w hs;have hx:=aHi s;have hp:=(CV 88 88 s).1;obtain⟨R,hR⟩: ∃R:Int,R=if hasB 88 s then 1 else 0:=⟨_,rfl⟩
 rw[<-hR];have hR2:(0<mV 88 88 s->R=1)/\(mV 88 88 s<=0->R=0):=by
  refine⟨fun h=>by rw[hR,aFV (hx.1 h)],fun h=>by rw[hR,aB9 (fun c=>by have:=hx.2 c;omega)]⟩
 generalize mV 88 88 s=n at *;have HX:=GK hR2;replace HH:=GK HH;clear hx hR hR2
 go_enter Tryz.func122,Tryz.ntmps122
 go_wp2_with (go_at_call 90;with_reducible refine(HH.out _).mono ?_;rintro _ w' ⟨rfl,rfl⟩)
 all_goals go_ret
 all_goals refine⟨ri ?_,ba (aAL _ _) _⟩
 all_goals have:=HX.out
 all_goals omega
def pJ(m:Int):Int × Int:=if m<=10000000000000000 then(m,1)else(0,0)
theorem nG (s:ByteArray) (e:Nat) (w:World) (hs:s.size<=1000) (he:e<=1000) (hd:allB bG s=true):
 Calls Tryz.prog 91 #[.string s,.int .i64 e] w fun r w'=>r=.returned (.tuple #[.int .i64 (pJ (fK s e)).1,.int .i64 (pJ (fK s e)).2])/\w=w':=by
 have HD:=GK hd;clear hd
 go_enter Tryz.func91,Tryz.ntmps91
 go_wp2
 go_loop [6,7] (fun n i=> ∃k:Nat,k<=s.size+e/\qF s k<=10000000000000000/\i=.int .i64 k/\n=.int .i64 (qF s k)) (fun _ i=>s.size+e - (intOf i).toNat)
 case atStart=>exact⟨0,aKS _,by rw[EC];omega,rfl,by rw[EC]⟩
 case round=>
  obtain⟨k,hk,hm,rfl,rfl⟩:=hrel;have hp:=L6 s k
  by_cases hlt:k<s.size+e
  . by_cases hc:k<s.size
    . have hda:=V6 HD.out k hc;have HS:=GK (L8 HD.out k hc);obtain⟨d0,d1⟩:=hda
      go_wp2
      . go_ret2
        have h1:=HS.out;have h2:=xQ HD.out (k+1) (s.size+e - (k+1));rw[show k+1+(s.size+e - (k+1))=s.size+e by omega,wE]at h2;refine⟨?_,rfl⟩;unfold pJ;rw[aB9 (by omega)]
        rfl
      go_round
      case rel=>exact⟨k+1,by omega,by rw[HS.out];omega,by go_num,by rw[HS.out]⟩
      case measure=>simp[intOf];omega
    have HS:=GK (ZK s k (by omega))
    go_wp2
    . go_ret2
      have h1:=HS.out;have h2:=xQ HD.out (k+1) (s.size+e - (k+1));rw[show k+1+(s.size+e - (k+1))=s.size+e by omega,wE]at h2;refine⟨?_,rfl⟩;unfold pJ;rw[aB9 (by omega)]
      rfl
    go_round
    case rel=>exact⟨k+1,by omega,by rw[HS.out];omega,by go_num,by rw[HS.out]⟩
    case measure=>simp[intOf];omega
  obtain rfl:k=s.size+e:=by omega
  rw[wE]at hm hp ⊢
  go_wp2
  go_ret2
  refine⟨?_,rfl⟩;unfold pJ;rw[aFV hm]
  rfl
theorem FM (neg long:Bool) (s:ByteArray) (ex sig:Int) (w:World) (hs:s.size<=1000) (s0: -9223372036854775808<=sig) (s1:sig<9223372036854775808):
 Calls Tryz.prog 60 #[yv neg long s ex sig] w fun r w'=>r=.returned (.int .i64 (if GN neg long s ex sig then 1 else 0))/\Below w.heap.size w w':=by
 have hF:=yF neg long s ex sig;have hY:=Ym.new neg long s ex sig w 35;have dd:=CV 48 57 s;have dx:=CV 88 88 s;have dz:=CV 48 48 s;have HD:=fun w=>I8 s 48 57 w (by unfold maxLen;omega);have HX:=fun w=>I8 s 88 88 w (by unfold maxLen;omega);have HZ:=fun w=>I8 s 48 48 w (by unfold maxLen;omega);have HM: ∀(e:Nat) w,mV 48 57 s+mV 88 88 s=s.size->mV 88 88 s<=0->e<=1000->Calls Tryz.prog 91 #[.string s,.int .i64 e] w fun r w'=>r=.returned (.tuple #[.int .i64 (pJ (fK s e)).1,.int .i64 (pJ (fK s e)).2])/\w=w':=fun e w h1 h2 h3=>
  nG s e w hs h3 (by
   have ax:=(aAe s).1 h1;refine(jV ax).1 ?_
   cases ha:hasB 88 s
   . rfl
   have:=(aHi s).2 ha;omega)
 have hl0:1<=mV 48 57 s->0<s.size:=fun h=>by omega
 have hb0: ∀h:0<s.size,((s[0]'h).toNat:Int)=aY s 0:=fun h=>(bQ s 0 h).symm;generalize (if GN neg long s ex sig then(1:Int)else 0)=R at *;generalize mV 48 57 s=D at *;generalize mV 88 88 s=X at *;generalize mV 48 48 s=Z at *;generalize aY s 0=b0 at *;replace HD:=GK HD;replace HX:=GK HX;replace HZ:=GK HZ;replace HM:=GK HM;unfold YF at hF;unfold yv;have HB0:=GK hb0;clear hb0
 cases long
 . have HF:Hid _:=GK hF;clear hF HM
   go_enter Tryz.func60,Tryz.ntmps60
   go_upto_region 1 with(fail)
   generalize w.alloc (.cells #[.bool neg,.bool false,.string s,.int .i64 ex,.int .i64 sig] 35)=W0 at hY ⊢;obtain⟨q0,q1,q2,q3,q4,qB⟩:=id hY
   go_cut [3,4] (fun s3 s4 wx=>s3=.int .i64 D/\s4=.int .i64 X/\Ym w.heap.size neg false s ex sig w wx)
   case first=>
    go_region_with (go_at_call 90;first|(with_reducible refine(HD.out _).mono ?_;rintro _ w' ⟨rfl,rfl⟩)|(with_reducible refine(HX.out _).mono ?_;rintro _ w' ⟨rfl,rfl⟩))
    all_goals (go_wp2_with fail)
    all_goals (go_meet;exact⟨rfl,rfl,by first|exact hY|exact hY.drew'|exact hY.drew'.drew'⟩)
   case rest=>
    obtain⟨rfl,rfl,hY⟩:=hcut;clear q0 q1 q2 q3 q4 qB;obtain⟨q0,q1,q2,q3,q4,qB⟩:=id hY
    cases neg
    all_goals
     go_wp2_with (go_at_call 90;with_reducible refine(HZ.out _).mono ?_;rintro _ w' ⟨rfl,rfl⟩)
     all_goals go_ret
     all_goals refine⟨ri ?_,hY.below⟩
     all_goals have hF:=HF.out
     all_goals simp only[aUe,reduceCtorEq,aSN,aUd,aUt,aVF,aVC,aUR,aVE,aVo]at hF
     all_goals try simp only[aFZ]at *
     all_goals omega
 have HF:Hid _:=GK hF;clear hF HZ
 go_enter Tryz.func60,Tryz.ntmps60
 go_upto_region 1 with(fail)
 generalize w.alloc (.cells #[.bool neg,.bool true,.string s,.int .i64 ex,.int .i64 sig] 35)=W0 at hY ⊢;obtain⟨q0,q1,q2,q3,q4,qB⟩:=id hY
 go_cut [3,4] (fun s3 s4 wx=>s3=.int .i64 D/\s4=.int .i64 X/\Ym w.heap.size neg true s ex sig w wx)
 case first=>
  go_region_with (go_at_call 90;first|(with_reducible refine(HD.out _).mono ?_;rintro _ w' ⟨rfl,rfl⟩)|(with_reducible refine(HX.out _).mono ?_;rintro _ w' ⟨rfl,rfl⟩))
  all_goals (go_wp2_with fail)
  all_goals (go_meet;exact⟨rfl,rfl,by first|exact hY|exact hY.drew'|exact hY.drew'.drew'⟩)
 case rest=>
  obtain⟨rfl,rfl,hY⟩:=hcut;clear q0 q1 q2 q3 q4 qB;obtain⟨q0,q1,q2,q3,q4,qB⟩:=id hY
  by_cases l0:0<s.size
  case neg=>
   clear HM
   go_wp2_with fail
   all_goals go_ret
   all_goals refine⟨ri ?_,hY.below⟩
   all_goals have hF:=HF.out
   all_goals simp only[aUe,reduceCtorEq,aSN,aUd,aUt,aVF,aVC,aUR,aVE,aVo]at hF
   all_goals try simp only[aFZ]at *
   all_goals omega
  by_cases x0:0<=ex
  case neg=>
   clear HM
   go_wp2_with fail
   all_goals go_ret
   all_goals refine⟨ri ?_,hY.below⟩
   all_goals have hF:=HF.out
   all_goals have hB:=HB0.out l0
   all_goals simp only[aUe,reduceCtorEq,aSN,aUd,aUt,aVF,aVC,aUR,aVE,aVo]at hF
   all_goals try simp only[aFZ]at *
   all_goals omega
  obtain⟨e,rfl⟩: ∃e:Nat,ex=e:=⟨ex.toNat,by omega⟩;have HM2:=GK (fun w h1 h2 h3=>HM.out e w h1 h2 h3);clear HM;generalize fK s e=m at *;rcases Nat.eq_zero_or_pos e with rfl|e0
  . have HM3:Hid (∀w,D+X=s.size->X<=0->Calls Tryz.prog 91 #[.string s,.int .i64 0] w fun r w'=>r=.returned (.tuple #[.int .i64 (pJ m).1,.int .i64 (pJ m).2])/\w=w'):=GK (fun w h1 h2=>HM2.out w h1 h2 (by omega));clear HM2
    by_cases hm:m<=10000000000000000
    . rw[show pJ m=(m,1) by unfold pJ;rw[aFV hm]]at HM3
      go_wp2_with (go_at_call 91;with_reducible refine(HM3.out _ (by omega) (by omega)).mono ?_;rintro _ w' ⟨rfl,rfl⟩)
      all_goals go_ret
      all_goals refine⟨ri ?_,hY.below⟩
      all_goals have hF:=HF.out
      all_goals have hB:=HB0.out l0
      all_goals simp only[aUe,reduceCtorEq,aSN,aUd,aUt,aVF,aVC,aUR,aVE,aVo]at hF
      all_goals try simp only[aFZ]at *
      all_goals omega
    rw[show pJ m=(0,0) by unfold pJ;rw[aB9 hm]]at HM3
    go_wp2_with (go_at_call 91;with_reducible refine(HM3.out _ (by omega) (by omega)).mono ?_;rintro _ w' ⟨rfl,rfl⟩)
    all_goals go_ret
    all_goals refine⟨ri ?_,hY.below⟩
    all_goals have hF:=HF.out
    all_goals have hB:=HB0.out l0
    all_goals simp only[aUe,reduceCtorEq,aSN,aUd,aUt,aVF,aVC,aUR,aVE,aVo]at hF
    all_goals try simp only[aFZ]at *
    all_goals omega
  have e1: ¬(e:Int)=0:=by omega
  by_cases hm:m<=10000000000000000
  . rw[show pJ m=(m,1) by unfold pJ;rw[aFV hm]]at HM2
    go_wp2_with (go_at_call 91;with_reducible refine(HM2.out _ (by omega) (by omega) (by omega)).mono ?_;rintro _ w' ⟨rfl,rfl⟩)
    all_goals go_ret
    all_goals refine⟨ri ?_,hY.below⟩
    all_goals have hF:=HF.out
    all_goals have hB:=HB0.out l0
    all_goals simp only[aUe,reduceCtorEq,aSN,aUd,aUt,aVF,aVC,aUR,aVE,aVo]at hF
    all_goals try simp only[aFZ]at *
    all_goals omega
  rw[show pJ m=(0,0) by unfold pJ;rw[aB9 hm]]at HM2
  go_wp2_with (go_at_call 91;with_reducible refine(HM2.out _ (by omega) (by omega) (by omega)).mono ?_;rintro _ w' ⟨rfl,rfl⟩)
  all_goals go_ret
  all_goals refine⟨ri ?_,hY.below⟩
  all_goals have hF:=HF.out
  all_goals have hB:=HB0.out l0
  all_goals simp only[aUe,reduceCtorEq,aSN,aUd,aUt,aVF,aVC,aUR,aVE,aVo]at hF
  all_goals try simp only[aFZ]at *
  all_goals omega
end Bk
end
section
open Go.RowKit
namespace Un
open Cal
theorem rM(y k:Int):(y.tmod k==0)=decide (y % k=0):=by
 rw[aKX];simp only[aFZ,aFK];exact⟨fun h=>Int.emod_eq_zero_of_dvd (aWP h),fun h=>aU0 (Int.dvd_of_emod_eq_zero h)⟩
theorem JV(y k:Int):(y.tmod k !=0)= !decide (y % k=0):=by
 rw[<-rM];rfl
theorem vT(y:Int)(w:World):Calls Tryz.prog 64 #[.int .i64 y] w fun e w'=>e=.returned (.int .i64 (lp y))/\w=w':=by
 have t4:=rM y 4;have t1:=JV y 100;have t5:=rM y 400
 by_cases a:y % 4=0<;>by_cases b:y % 100=0<;>by_cases c:y % 400=0<;>
  simp only[a,b,c,aUV,aUH,aVL,aTw]at t4 t1 t5<;>
  (have L:Hid (lp y=if(decide (y % 4=0)&&(decide (y % 100≠0)||decide (y % 400=0)))then 1 else 0):=GK rfl
   simp only[a,b,c,aVo,not_true_eq_false,aVU,aUV,aUH,aQT,aRW,aV7,aUz,aV6,aTF,aRv,aLe]at L;clear a b c
   go_enter Tryz.func64,Tryz.ntmps64
   go_wp2
   go_ret
   exact⟨ri (by first|exact L.out.symm|rfl),rfl⟩)
theorem KP(y m:Int)(w:World)(m0:1<=m)(m1:m<=12):Calls Tryz.prog 67 #[.int .i64 y,.int .i64 m] w fun e w'=>e=.returned (.int .i64 (len y m))/\w=w':=by
 have L:=pK y;have:m=1\/m=2\/m=3\/m=4\/m=5\/m=6\/m=7\/m=8\/m=9\/m=10\/m=11\/m=12:=by omega
 rcases this with rfl|rfl|rfl|rfl|rfl|rfl|rfl|rfl|rfl|rfl|rfl|rfl<;>
  (clear m0 m1
   go_enter Tryz.func67,Tryz.ntmps67
   go_wp2_with (go_at_call 64;refine(vT _ _).mono ?_;rintro e w' ⟨rfl,rfl⟩)
   go_ret
   exact⟨ri (by unfold len;simp),rfl⟩)
theorem oJ(a b:Int)(w:World)(hb:1<b)(hb2:b<9223372036854775808)(h0: -9223372036854775808<=a)(h1:a<9223372036854775808):
 Calls Tryz.prog 43 #[.int .i64 a,.int .i64 b] w fun e w'=>e=.returned (.int .i64 (a / b))/\w=w':=by
 obtain⟨c1,c2,c3⟩:=@yA a b (by omega);have b0:(b==0)=false:=by rw[aAO];omega
 have b1:(b== -1)=false:=by rw[aAO];omega
 have bd:=BX (a:=a) hb h0 h1
 by_cases hz:a.tmod b<0
 . have ha:a<0:=(c3 (by omega)).1 hz;obtain⟨e1,e2⟩:=c1 ⟨by omega,ha⟩;have m2:decide (a.tmod b<0)=true:=aAP hz;have w1:wrap64 (a.tdiv b - 1)=a / b:=by rw[e1];exact wrap_in bd.1 bd.2
   clear hz e1 e2 c1 c2 c3 bd
   go_enter Tryz.func43,Tryz.ntmps43
   go_wp2
   go_ret
   exact⟨ri w1,rfl⟩
 have m2:decide (a.tmod b<0)=false:=aCw hz;have k:a.tmod b=0\/0<=a:=by
  by_cases h:a.tmod b=0
  . exact .inl h
  have:=c3 h;exact .inr (by omega)
 obtain⟨e1,e2⟩:=c2 k;have E1:=GK e1;have w1:wrap64 (a.tdiv b)=a / b:=by rw[e1];exact wrap_in bd.1 bd.2
 clear hz e1 e2 c1 c2 c3 bd k
 go_enter Tryz.func43,Tryz.ntmps43
 go_wp2
 go_ret
 exact⟨ri (by first|exact w1|exact E1.out|rfl),rfl⟩
theorem kK(y:Int)(w:World)(h0: -25000000000000000<=y)(h1:y<=25000000000000000):
 Calls Tryz.prog 63 #[.int .i64 y] w fun e w'=>e=.returned (.int .i64 (st y))/\w=w':=by
 have E:=GK (aPv y);obtain⟨r,hr⟩: ∃r,r=y - y / 400 * 400:=⟨_,rfl⟩;obtain⟨c,hc⟩: ∃c,c=y / 400:=⟨_,rfl⟩;have r0:0<=r:=by omega
 have r1:r<400:=by omega
 go_enter Tryz.func63,Tryz.ntmps63
 go_wp2_with (go_at_call 43;refine(oJ _ _ _ (by omega) (by omega) (by omega) (by omega)).mono ?_;rintro e w' ⟨rfl,rfl⟩)
 go_ret
 exact⟨ri (by rw[<-E.out];unfold rst;omega),rfl⟩
theorem KQ(y m d:Int)(w:World)(h0: -20000000000000000<=y)(h1:y<=20000000000000000)(m0:1<=m)(m1:m<=13)(d0: -1000<=d)(d1:d<=1000):
 Calls Tryz.prog 66 #[.int .i64 y,.int .i64 m,.int .i64 d] w fun e w'=>e=.returned (.int .i64 (st y+bY y m+d - 1))/\w=w':=by
 obtain⟨n,rfl⟩: ∃n:Nat,m=(n:Int)+1:=⟨(m - 1).toNat,by omega⟩;obtain⟨b0,b1⟩:=jQ (y:=y) (by omega) (by omega)
 go_enter Tryz.func66,Tryz.ntmps66
 go_wp2_with (go_at_call 63;refine(kK _ _ (by omega) (by omega)).mono ?_;rintro e w' ⟨rfl,rfl⟩)
 go_loop [7,8] (fun s j=> ∃k:Nat,k<=n/\s=.int .i64 (st y+bY y ((k:Int)+1))/\j=.int .i64 ((k:Int)+1)) (fun _ j=>n+1 - (intOf j).toNat)
 case atStart=>exact⟨0,by omega,by rw[show ((0:Nat):Int)+1=1 from rfl,uQ,aXA],rfl⟩
 case round=>
  obtain⟨k,hk,rfl,rfl⟩:=hrel;have cb:=@dW y ((k:Int)+1) (by omega) (by omega)
  by_cases hlt:k<n
  . have hl:=dJ y ((k:Int)+1);have hcs:=bH y ((k:Int)+1) (by omega) (by omega);have HCS:=GK hcs;clear hcs
    go_wp2_with (go_at_call 67;refine(KP _ _ _ (by omega) (by omega)).mono ?_;rintro e w' ⟨rfl,rfl⟩)
    go_round
    case rel=>exact⟨k+1,by omega,vi (by rw[show ((k+1:Nat):Int)+1=(k:Int)+1+1 by omega,HCS.out];omega),by go_num⟩
    case measure=>simp[intOf];omega
  have e:k=n:=by omega
  subst e
  go_wp2
  go_ret
  exact⟨ri (by omega),rfl⟩
end Un
end
section
open Go.RowKit
namespace Un
open Cal
theorem aOe:st (-10000000000000000)= -3652425000000000000:=by decide
theorem aSL:st 10000000000000000=3652425000000000000:=by decide
theorem aPp:st 10000000000000001=3652425000000000366:=by decide
theorem DJ{d:Int}:(-10000000000000000<=bT d/\bT d<=10000000000000000)↔(-3652425000000000000<=d/\d<3652425000000000366):=by
 have a:=@aAQ d (-10000000000000000);have b:=@aAQ d 10000000000000001;rw[aOe]at a;rw[aPp]at b;omega
def inC(d:Int):Int:=if -3652425000000000000<=d/\d<3652425000000000366 then 1 else 0
theorem DZ(d:Int)(w:World)(h0: -9223372036854775808<=d)(h1:d<9223372036854775808):
 Calls Tryz.prog 74 #[.int .i64 d] w fun e w'=>e=.returned (.int .i64 (inC d))/\w=w':=by
 have HL: ∀W,Calls Tryz.prog 64 #[.int .i64 10000000000000000] W fun e w'=>e=.returned (.int .i64 1)/\W=w':=fun W=>vT _ W;have HA: ∀W,Calls Tryz.prog 63 #[.int .i64 (-10000000000000000)] W fun e w'=>e=.returned (.int .i64 (-3652425000000000000))/\W=w':=fun W=>by
  have:=kK (-10000000000000000) W (by omega) (by omega);rw[aOe]at this;exact this
 have HB: ∀W,Calls Tryz.prog 63 #[.int .i64 10000000000000000] W fun e w'=>e=.returned (.int .i64 3652425000000000000)/\W=w':=fun W=>by
  have:=kK 10000000000000000 W (by omega) (by omega);rw[aSL]at this;exact this
 replace HL:=GK HL;replace HA:=GK HA;replace HB:=GK HB
 by_cases c1:d< -3652425000000000000
 . have t:Hid (inC d=0):=GK (by unfold inC;rw[aB9 (by omega)])
   go_enter Tryz.func74,Tryz.ntmps74
   go_wp2_with fail
   refine(HA.out _).mono ?_;rintro e w' ⟨rfl,rfl⟩
   go_wp2_with fail
   go_ret
   exact⟨ri t.out.symm,rfl⟩
 by_cases c2:d>3652425000000000365
 . have t:Hid (inC d=0):=GK (by unfold inC;rw[aB9 (by omega)])
   go_enter Tryz.func74,Tryz.ntmps74
   go_wp2_with fail
   refine(HA.out _).mono ?_;rintro e w' ⟨rfl,rfl⟩
   go_wp2_with fail
   refine(HB.out _).mono ?_;rintro e w' ⟨rfl,rfl⟩
   go_wp2_with fail
   refine(HL.out _).mono ?_;rintro e w' ⟨rfl,rfl⟩
   go_wp2_with fail
   go_ret
   exact⟨ri t.out.symm,rfl⟩
 have t:Hid (inC d=1):=GK (by unfold inC;rw[aFV (by omega)])
 go_enter Tryz.func74,Tryz.ntmps74
 go_wp2_with fail
 refine(HA.out _).mono ?_;rintro e w' ⟨rfl,rfl⟩
 go_wp2_with fail
 refine(HB.out _).mono ?_;rintro e w' ⟨rfl,rfl⟩
 go_wp2_with fail
 refine(HL.out _).mono ?_;rintro e w' ⟨rfl,rfl⟩
 go_wp2_with fail
 go_ret
 exact⟨ri t.out.symm,rfl⟩
theorem aHh(d:Int):st (d / 146097 * 400+d % 146097 / 366)<=d:=by unfold st OM;omega
theorem vS(d:Int)(w:World)(h0: -3652425000000000000<=d)(h1:d<3652425000000000366):
 Calls Tryz.prog 75 #[.int .i64 d] w fun e w'=>e=.returned (.int .i64 (bT d))/\w=w':=by
 obtain⟨y0,y1⟩:=DJ.2 ⟨h0,h1⟩;have yl:=aHh d;have ys:=gK d;have ym:d / 146097 * 400+d % 146097 / 366<=bT d:=by
  have:=@aAQ d (d / 146097 * 400+d % 146097 / 366);omega
 have YS:=GK ys;have YM:=GK ym;have wr:wrap64 (d - d / 146097 * 146097)=d % 146097:=by rw[wrap_in (by omega) (by omega)];omega
 clear ys ym yl
 go_enter Tryz.func75,Tryz.ntmps75
 go_wp2_with (go_at_call 43;refine(oJ _ _ _ (by omega) (by omega) (by omega) (by omega)).mono ?_;rintro e w' ⟨rfl,rfl⟩)
 go_loop [4] (fun y=> ∃v:Int,y=.int .i64 v/\ -10000000000000010<=v/\v<=bT d) (fun y=>(bT d - intOf y).toNat)
 case atStart=>exact⟨_,rfl,by omega,by have:=YM.out;omega⟩
 case round=>
  obtain⟨v,rfl,v0,v1⟩:=hrel
  by_cases hlt:v<bT d
  . have hle:st (v+1)<=d:=by have:=YS.out.1;have:=fU (a:=v+1) (b:=bT d) (by omega);omega
    have t:decide (st (v+1)<=d)=true:=aAP hle
    go_wp2_with (go_at_call 63;refine(kK _ _ (by omega) (by omega)).mono ?_;rintro e w' ⟨rfl,rfl⟩)
    go_round
    case rel=>exact⟨v+1,rfl,by omega,by omega⟩
    case measure=>simp[intOf];omega
  have e:v=bT d:=by omega
  subst e;have t:decide (st (bT d+1)<=d)=false:=aCw (by have:=YS.out.2;omega)
  go_wp2_with (go_at_call 63;refine(kK _ _ (by omega) (by omega)).mono ?_;rintro e w' ⟨rfl,rfl⟩)
  go_ret
  exact⟨rfl,rfl⟩
theorem UH(d:Int)(w:World)(h0: -3652425000000000000<=d)(h1:d<3652425000000000366):
 Calls Tryz.prog 76 #[.int .i64 d] w fun e w'=>e=.returned (.int .i64 (AL (bT d) (d - st (bT d))))/\w=w':=by
 obtain⟨y0,y1⟩:=DJ.2 ⟨h0,h1⟩;have ys:=gK d;have yn:=st_succ (bT d);obtain⟨m0,m1,m2,m3⟩:=@lS (bT d) (d - st (bT d)) (by omega) (by omega);have HY:=fun W=>vS d W h0 h1;generalize bT d=y at *;generalize AL y (d - st y)=m at *;replace HY:=GK HY;have M2:=GK m2;have M3:=GK m3;clear ys yn m2 m3;have HD: ∀v W,1<=v->v<=12->Calls Tryz.prog 66 #[.int .i64 y,.int .i64 (v+1),.int .i64 1] W fun e w'=>e=.returned (.int .i64 (st y+bY y (v+1)))/\W=w':=fun v W h0 h1=>by
  have:=KQ y (v+1) 1 W (by omega) (by omega) (by omega) (by omega) (by omega) (by omega);rw[show st y+bY y (v+1)+1 - 1=st y+bY y (v+1) by omega]at this;exact this
 replace HD:=GK HD
 go_enter Tryz.func76,Tryz.ntmps76
 go_wp2_with (go_at_call 75;refine(HY.out _).mono ?_;rintro e w' ⟨rfl,rfl⟩)
 go_loop [4] (fun j=> ∃v:Int,j=.int .i64 v/\1<=v/\v<=m) (fun j=>(m - intOf j).toNat)
 case atStart=>exact⟨1,rfl,by omega,by omega⟩
 case round=>
  obtain⟨v,rfl,v0,v1⟩:=hrel
  by_cases hlt:v<m
  . have hle:st y+bY y (v+1)<=d:=by
     have:=M2.out
     by_cases h:v+1=m
     . rw[h];omega
     have:=@wX y (v+1) m (by omega) (by omega) (by omega);have:=dJ y (v+1);omega
    have t:decide (st y+bY y (v+1)<=d)=true:=aAP (by omega);have t2:decide (v<12)=true:=aAP (by omega);clear hle
    go_wp2_with (go_at_call 66;refine(HD.out _ _ (by omega) (by omega)).mono ?_;rintro e w' ⟨rfl,rfl⟩)
    go_round
    case rel=>exact⟨v+1,rfl,by omega,by omega⟩
    case measure=>simp[intOf];omega
  have e:v=m:=by omega
  subst e
  by_cases h12:v<12
  . have t:decide (st y+bY y (v+1)<=d)=false:=aCw (by have:=M3.out;omega);have t2:decide (v<12)=true:=aAP h12
    go_wp2_with (go_at_call 66;refine(HD.out _ _ (by omega) (by omega)).mono ?_;rintro e w' ⟨rfl,rfl⟩)
    go_ret
    exact⟨rfl,rfl⟩
  have e:v=12:=by omega
  subst e
  go_wp2_with (go_at_call 66;refine(HD.out _ _ (by omega) (by omega)).mono ?_;rintro e w' ⟨rfl,rfl⟩)
  go_ret
  exact⟨rfl,rfl⟩
theorem tK(lo hi:Int)(w:World):
 Calls Tryz.prog 42 #[.int .i64 lo,.int .i64 hi] w fun r w'=>r=.returned (rv 0 lo 0 hi)/\Below w.heap.size w w':=by
 go_enter Tryz.func42,Tryz.ntmps42
 go_wp2
 refine aG2 (v:=rv 0 lo 0 hi) (by simp[results,Tryz.results42,go_sem,rv]) rfl ⟨rfl,?_⟩
 first|exact ba (aAL _ _) _|exact aAL _ _
end Un
end
section
open Go.RowKit
namespace Un
open Cal
theorem AX(y:Int)(w:World)(h0: -10000000000000000<=y)(h1:y<=10000000000000000):
 Calls Tryz.prog 40 #[.int .i64 y,.int .i64 0,.int .i64 0] w fun r w'=>r=.returned (rv 0 (st y) 0 (st (y+1) - 1))/\Below w.heap.size w w':=by
 obtain⟨b0,b1⟩:=jQ (y:=y) (by omega) (by omega);obtain⟨l0,l1⟩:=pK y;have E:Hid (st y+364+lp y=st (y+1) - 1):=GK (by rw[st_succ];omega)
 go_enter Tryz.func40,Tryz.ntmps40
 go_wp2_with (first|(go_at_call 63;refine(kK _ _ (by omega) (by omega)).mono ?_;rintro e w' ⟨rfl,rfl⟩)|(go_at_call 64;refine(vT _ _).mono ?_;rintro e w' ⟨rfl,rfl⟩))
 refine(tK _ _ _).mono ?_;rintro _ w1 ⟨rfl,hb1⟩;unfold rv;obtain⟨q0,q1,q2,q3,z0,z1,z2,z3⟩:=dR hb1
 go_wp2_with fail
 refine aG2 (v:=rv 0 (st y) 0 (st y+364+lp y)) (by simp[results,Tryz.results40,go_sem,rv,q0,q1,q2,q3]) rfl ⟨by rw[E.out],?_⟩;exact((((bt (ba (aAL _ _) _) hb1).setCell (aCU _) _).setCell (aCU _) _).setCell (aCU _) _).setCell (aCU _) _
theorem AU(y m:Int)(w:World)(h0: -10000000000000000<=y)(h1:y<=10000000000000000)(m0:1<=m)(m1:m<=12):
 Calls Tryz.prog 40 #[.int .i64 y,.int .i64 m,.int .i64 0] w fun r w'=>r=.returned (rv 0 (st y+bY y m) 0 (st y+bY y (m+1) - 1))/\Below w.heap.size w w':=by
 obtain⟨b0,b1⟩:=jQ (y:=y) (by omega) (by omega);have lb:=dJ y m;have cb:=@dW y m (by omega) (by omega);have E:Hid (st y+bY y m+len y m - 1=st y+bY y (m+1) - 1):=GK (by rw[bH y m m0 m1];omega);have HD: ∀W,Calls Tryz.prog 66 #[.int .i64 y,.int .i64 m,.int .i64 1] W fun e w'=>e=.returned (.int .i64 (st y+bY y m))/\W=w':=fun W=>by
  have:=KQ y m 1 W (by omega) (by omega) (by omega) (by omega) (by omega) (by omega);rw[show st y+bY y m+1 - 1=st y+bY y m by omega]at this;exact this
 replace HD:=GK HD;have t:(m==0)=false:=by rw[aAO];omega
 go_enter Tryz.func40,Tryz.ntmps40
 go_wp2_with (first|(go_at_call 66;refine(HD.out _).mono ?_;rintro e w' ⟨rfl,rfl⟩)|(go_at_call 67;refine(KP _ _ _ (by omega) (by omega)).mono ?_;rintro e w' ⟨rfl,rfl⟩))
 refine(tK _ _ _).mono ?_;rintro _ w1 ⟨rfl,hb1⟩;unfold rv;obtain⟨q0,q1,q2,q3,z0,z1,z2,z3⟩:=dR hb1
 go_wp2_with fail
 refine aG2 (v:=rv 0 (st y+bY y m) 0 (st y+bY y m+len y m - 1)) (by simp[results,Tryz.results40,go_sem,rv,q0,q1,q2,q3]) rfl ⟨by rw[E.out],?_⟩;exact((((bt (ba (aAL _ _) _) hb1).setCell (aCU _) _).setCell (aCU _) _).setCell (aCU _) _).setCell (aCU _) _
theorem GY(d:Int)(w:World):
 Calls Tryz.prog 47 #[.int .i64 d,.int .i64 3] w fun r w'=>r=.returned (.tuple #[rv 0 d 0 d,.int .i64 0])/\Below w.heap.size w w':=by
 go_enter Tryz.func47,Tryz.ntmps47
 go_wp2_with fail
 refine(tK _ _ _).mono ?_;rintro _ w1 ⟨rfl,hb1⟩;unfold rv;obtain⟨q0,q1,q2,q3,z0,z1,z2,z3⟩:=dR hb1
 go_wp2_with fail
 refine aG2 (v:=.tuple #[rv 0 d 0 d,.int .i64 0]) (by simp[results,Tryz.results47,go_sem,rv,q0,q1,q2,q3]) rfl ⟨rfl,?_⟩;exact((((bt (ba (aAL _ _) _) hb1).setCell (aCU _) _).setCell (aCU _) _).setCell (aCU _) _).setCell (aCU _) _
theorem D5(d p:Int)(w:World)(hp:p<1\/3<p):
 Calls Tryz.prog 47 #[.int .i64 d,.int .i64 p] w fun r w'=>r=.returned (.tuple #[rv 0 0 0 0,.int .i64 18])/\Below w.heap.size w w':=by
 rcases hp with hp|hp
 . go_enter Tryz.func47,Tryz.ntmps47
   go_wp2_with fail
   refine aG2 (v:=.tuple #[rv 0 0 0 0,.int .i64 18]) (by simp[results,Tryz.results47,go_sem,rv]) rfl ⟨rfl,?_⟩;exact ba (aAL _ _) _
 go_enter Tryz.func47,Tryz.ntmps47
 go_wp2_with fail
 refine aG2 (v:=.tuple #[rv 0 0 0 0,.int .i64 18]) (by simp[results,Tryz.results47,go_sem,rv]) rfl ⟨rfl,?_⟩;exact ba (aAL _ _) _
theorem AY(d p:Int)(w:World)(hp:p=1\/p=2)(h0: -9223372036854775808<=d)(h1:d<9223372036854775808)(hd:inC d=0):
 Calls Tryz.prog 47 #[.int .i64 d,.int .i64 p] w fun r w'=>r=.returned (.tuple #[rv 0 0 0 0,.int .i64 6])/\Below w.heap.size w w':=by
 have HI:=fun W=>DZ d W h0 h1;rw[hd]at HI;replace HI:=GK HI;clear hd;rcases hp with rfl|rfl
 . go_enter Tryz.func47,Tryz.ntmps47
   go_wp2_with (first|(go_at_call 74;refine(HI.out _).mono ?_;rintro e w' ⟨rfl,rfl⟩))
   refine aG2 (v:=.tuple #[rv 0 0 0 0,.int .i64 6]) (by simp[results,Tryz.results47,go_sem,rv]) rfl ⟨rfl,?_⟩;exact ba (aAL _ _) _
 go_enter Tryz.func47,Tryz.ntmps47
 go_wp2_with (first|(go_at_call 74;refine(HI.out _).mono ?_;rintro e w' ⟨rfl,rfl⟩))
 refine aG2 (v:=.tuple #[rv 0 0 0 0,.int .i64 6]) (by simp[results,Tryz.results47,go_sem,rv]) rfl ⟨rfl,?_⟩;exact ba (aAL _ _) _
theorem G5(d:Int)(w:World)(h0: -3652425000000000000<=d)(h1:d<3652425000000000366):
 Calls Tryz.prog 47 #[.int .i64 d,.int .i64 1] w fun r w'=>r=.returned (.tuple #[rv 0 (st (bT d)) 0 (st (bT d+1) - 1),.int .i64 0])/\Below w.heap.size w w':=by
 have HI:=fun W=>DZ d W (by omega) (by omega);rw[show inC d=1 from by unfold inC;rw[aFV ⟨h0,h1⟩]]at HI;have HY:=fun W=>vS d W h0 h1;obtain⟨y0,y1⟩:=DJ.2 ⟨h0,h1⟩;generalize bT d=y at *;have HU:=fun W=>AX y W y0 y1;generalize st (y+1) - 1=hi at *;generalize st y=lo at *;unfold rv at HU ⊢;replace HI:=GK HI;replace HY:=GK HY;replace HU:=GK HU
 go_enter Tryz.func47,Tryz.ntmps47
 go_wp2_with (first|(go_at_call 74;refine(HI.out _).mono ?_;rintro e w' ⟨rfl,rfl⟩)|(go_at_call 75;refine(HY.out _).mono ?_;rintro e w' ⟨rfl,rfl⟩))
 refine(HU.out _).mono ?_;rintro _ w1 ⟨rfl,hb1⟩;obtain⟨q0,q1,q2,q3,z0,z1,z2,z3⟩:=dR hb1
 go_wp2_with fail
 refine aG2 (v:=.tuple #[rv 0 lo 0 hi,.int .i64 0]) (by simp[results,Tryz.results47,go_sem,rv,q0,q1,q2,q3]) rfl ⟨rfl,?_⟩;exact((((bt (ba (aAL _ _) _) hb1).setCell (aCU _) _).setCell (aCU _) _).setCell (aCU _) _).setCell (aCU _) _
theorem GZ(d:Int)(w:World)(h0: -3652425000000000000<=d)(h1:d<3652425000000000366):
 Calls Tryz.prog 47 #[.int .i64 d,.int .i64 2] w fun r w'=>r=.returned (.tuple #[rv 0 (st (bT d)+bY (bT d) (AL (bT d) (d - st (bT d)))) 0 (st (bT d)+bY (bT d) (AL (bT d) (d - st (bT d))+1) - 1),.int .i64 0])/\Below w.heap.size w w':=by
 have HI:=fun W=>DZ d W (by omega) (by omega);rw[show inC d=1 from by unfold inC;rw[aFV ⟨h0,h1⟩]]at HI;have HY:=fun W=>vS d W h0 h1;have HM:=fun W=>UH d W h0 h1;obtain⟨y0,y1⟩:=DJ.2 ⟨h0,h1⟩;have ys:=gK d;have yn:=st_succ (bT d);obtain⟨m0,m1,m2,m3⟩:=@lS (bT d) (d - st (bT d)) (by omega) (by omega);clear m2 m3 ys yn;generalize bT d=y at *;generalize AL y (d - st y)=m at *;have HU:=fun W=>AU y m W y0 y1 m0 m1;generalize st y+bY y (m+1) - 1=hi at *;generalize st y+bY y m=lo at *;unfold rv at HU ⊢;replace HI:=GK HI;replace HY:=GK HY;replace HU:=GK HU;replace HM:=GK HM
 go_enter Tryz.func47,Tryz.ntmps47
 go_wp2_with (first|(go_at_call 74;refine(HI.out _).mono ?_;rintro e w' ⟨rfl,rfl⟩)|(go_at_call 75;refine(HY.out _).mono ?_;rintro e w' ⟨rfl,rfl⟩)|(go_at_call 76;refine(HM.out _).mono ?_;rintro e w' ⟨rfl,rfl⟩))
 refine(HU.out _).mono ?_;rintro _ w1 ⟨rfl,hb1⟩;obtain⟨q0,q1,q2,q3,z0,z1,z2,z3⟩:=dR hb1
 go_wp2_with fail
 refine aG2 (v:=.tuple #[rv 0 lo 0 hi,.int .i64 0]) (by simp[results,Tryz.results47,go_sem,rv,q0,q1,q2,q3]) rfl ⟨rfl,?_⟩;exact((((bt (ba (aAL _ _) _) hb1).setCell (aCU _) _).setCell (aCU _) _).setCell (aCU _) _).setCell (aCU _) _
theorem vU(d p:Int)(w:World)(h0: -9223372036854775808<=d)(h1:d<9223372036854775808):
 Calls Tryz.prog 47 #[.int .i64 d,.int .i64 p] w fun r w'=>r=.returned (.tuple #[rv 0 (aI p d).1 0 (aI p d).2.1,.int .i64 (aI p d).2.2])/\Below w.heap.size w w':=by
 unfold aI
 by_cases hp:p<1\/3<p
 . rw[aFV hp];exact D5 d p w hp
 rw [aB9 hp];unfold kS
 by_cases p3:p=3
 . subst p3;rw[aFV rfl];exact GY d w
 rw[aB9 p3]
 by_cases hd: -3652425000000000000<=d/\d<3652425000000000366
 . rw[aFV (DJ.2 hd)];obtain rfl|rfl:p=1\/p=2:=by omega
   . rw[aFV rfl];exact G5 d w hd.1 hd.2
   rw[aB9 (by omega)];exact GZ d w hd.1 hd.2
 rw[aB9 (fun h=>hd (DJ.1 h))];exact AY d p w (by omega) h0 h1 (by unfold inC;rw[aB9 hd])
end Un
end
section
open Go.RowKit Go.Lib
namespace Bk
open Un (ba bt ri rb aU bF)
theorem aMH{s:ByteArray}(hd:allB bG s=true)(hs:s.size<=17)(k:Nat)(hk:k<=s.size):0<=qF s k/\qF s k<100000000000000000:=by
 have h1:=L6 s k;have h2:=xQ hd k (s.size - k);rw[show k+(s.size - k)=s.size+0 by omega,wE]at h2;have h3:=aDL hd hs;have:fK s (0:Nat)=iT s:=by unfold fK;rw[show ((0:Nat):Int).toNat=0 from rfl];unfold p10;simp
 omega
theorem aIX(s:ByteArray):qF s s.size=iT s:=by
 have:=wE s 0;rw[aLx]at this;rw[this];unfold fK;rw[show ((0:Nat):Int).toNat=0 from rfl];unfold p10;simp
theorem XF(s:ByteArray)(w:World)(hs:s.size<=2)(hd:allB bG s=true):
 Calls Tryz.prog 293 #[.string s] w fun r w'=>r=.returned (.int .i64 (iT s))/\Below w.heap.size w w':=by
 obtain⟨cap,W1,hcv,hC,hB⟩:=NP w s;have HC:=GK hC;have HD:=GK hd;have HP:=GK (fun k hk=>aMH hd (by omega) k hk);clear hd hC
 go_enter Tryz.func293,Tryz.ntmps293
 go_wp2
 clear hcv
 go_loop [3,9] (fun n i=> ∃k:Nat,k<=s.size/\i=.int .i64 k/\n=.int .i64 (qF s k)) (fun _ i=>s.size - (intOf i).toNat)
 case atStart=>exact⟨0,aKS _,rfl,by rw[EC]⟩
 case round=>
  obtain⟨k,hk,rfl,rfl⟩:=hrel;have p0:=HP.out k hk
  by_cases hlt:k<s.size
  . have hc:=HC.out k hlt;have hd:=V6 HD.out k hlt;have HS:=GK (L8 HD.out k hlt);have p1:=HP.out (k+1) (by omega);rw[HS.out]at p1;obtain⟨d0,d1⟩:=hd
    go_wp2
    go_round
    case rel=>exact⟨k+1,by omega,by go_num,by rw[HS.out]⟩
    case measure=>simp[intOf];omega
  obtain rfl:k=s.size:=by omega
  go_wp2
  go_ret
  exact⟨ri (aIX s),hB⟩
def Dt.msk(d:Dt):Bool:=hasB 88 (d.dg++d.mo++d.da)||decide (0<d.sig)
theorem UK(d:Dt)(w:World)(hs:d.mo.size<=1000)(hy:d.dg.size<=1000)(ha:d.da.size<=1000):
 Calls Tryz.prog 38 #[aW d] w fun r w'=>r=.returned (.int .i64 (if d.msk then 1 else 0))/\Below w.heap.size w w':=by
 have hD:=Dm.new d w 37;obtain⟨R,hR⟩: ∃R:Int,R=if d.msk then 1 else 0:=⟨_,rfl⟩
 rw[<-hR];have HR:Hid ((∀k (h:k<(d.dg++d.mo++d.da).size),((((d.dg++d.mo++d.da)[k]'h).toNat:Int))=88->R=1)/\(0<d.sig->R=1)/\((∀k,k<(d.dg++d.mo++d.da).size->aY (d.dg++d.mo++d.da) k≠88)->d.sig<=0->R=0)):=GK (by
  rw[hR];unfold Dt.msk;generalize d.dg++d.mo++d.da=s;refine⟨fun k h e=>?_,fun h=>?_,fun h h2=>?_⟩
  . rw[(wK 88 s).2 ⟨k,h,by rw[bQ s k h];exact e⟩];rfl
  . rw[aAP h];simp
  have:hasB 88 s=false:=by
   rw[aMP];intro c;obtain⟨i,hi,he⟩:=(wK 88 s).1 c;exact h i hi he
  rw[this,aCw (by omega)];rfl)
 clear hR;unfold aW;have e1:(d.dg++d.mo).size=d.dg.size+d.mo.size:=by simp
 have e2:(d.dg++d.mo++d.da).size=d.dg.size+d.mo.size+d.da.size:=by simp
 go_enter Tryz.func38,Tryz.ntmps38
 go_upto_region 1 with(fail)
 generalize World.alloc _ _=W0 at hD ⊢;obtain⟨q0,q1,q2,q3,q4,q5,q6,q7,q8,q9,qB⟩:=id hD
 go_wp2
 generalize d.dg++d.mo++d.da=s at *
 go_loop [4] (fun i=> ∃k:Nat,k<=s.size/\i=.int .i64 k/\ ∀j,j<k->aY s j≠88) (fun i=>s.size - (intOf i).toNat)
 case atStart=>exact⟨0,aKS _,rfl,fun j h=>by omega⟩
 case round=>
  obtain⟨k,hk,rfl,hn⟩:=hrel;have HN:=GK hn;clear hn
  by_cases hlt:k<s.size
  . by_cases c:((s[k]'hlt).toNat:Int)=88
    . have hv:=HR.out.1 k hlt c
      go_wp2
      go_ret
      exact⟨ri (by first|rfl|exact hv.symm),hD.below⟩
    go_wp2
    go_round
    case rel=>exact⟨k+1,by omega,by go_num,fun j hj=>by
     by_cases e:j=k
     . subst e;rw[bQ s j hlt];exact c
     exact HN.out j (by omega)⟩
    case measure=>simp[intOf];omega
  obtain rfl:k=s.size:=by omega
  by_cases c:0<d.sig
  . have hv:=HR.out.2.1 c
    go_wp2
    go_ret
    exact⟨ri (by first|rfl|exact hv.symm),hD.below⟩
  have hv:=HR.out.2.2 HN.out (by omega)
  go_wp2
  go_ret
  exact⟨ri (by first|rfl|exact hv.symm),hD.below⟩
end Bk
end
section
open Go.RowKit Go.Lib
namespace Bk
open Un (ba bt ri rb aU bF)
def lK(y m k:Int):Int:=if m=0 then Cal.st y else if 12<m then Cal.st y+Cal.bY y (dF m)else if k=0 then Cal.st y+Cal.bY y m else Cal.st y+Cal.bY y m+k - 1
def sV(y m k:Int):Int:=if m=0 then Cal.st (y+1) - 1 else if 12<m then Cal.st (iO y m)+Cal.bY (iO y m) (DC m+1) - 1 else if k=0 then Cal.st y+Cal.bY y (m+1) - 1 else Cal.st y+Cal.bY y m+k - 1
def qZ(y sf k:Int):Int:=if sf+k<=13 then Cal.st y+Cal.bY y (sf+k) - 1 else Cal.st (y+1)+Cal.bY (y+1) (sf+k - 12) - 1
theorem aBb(y c:Int)(h0:21<=c)(h1:c<=41):qZ y (dF c) (eH c)=Cal.st (iO y c)+Cal.bY (iO y c) (DC c+1) - 1:=by
 unfold qZ iO DC
 by_cases h:dF c+eH c - 1<=12
 . rw[aFV (by omega),aFV h,aFV h,show dF c+eH c - 1+1=dF c+eH c by omega]
 rw[aB9 (by omega),aB9 h,aB9 h,show dF c+eH c - 13+1=dF c+eH c - 12 by omega]
theorem aEB{y sf k:Int}(y0: -10000000000000000<=y)(y1:y<=10000000000000000)(h0:1<=sf)(h1:0<=k)(h2:sf+k<=24): -9200000000000000400<=qZ y sf k/\qZ y sf k<=9200000000000000400:=by
 obtain⟨b0,b1⟩:=Un.jQ (y:=y) (by omega) (by omega);obtain⟨b2,b3⟩:=Un.jQ (y:=y+1) (by omega) (by omega);unfold qZ
 split
 . have:=@Cal.dW y (sf+k) (by omega) (by omega);omega
 have:=@Cal.dW (y+1) (sf+k - 12) (by omega) (by omega);omega
theorem J8(c:Int):1<=dF c/\dF c<=12/\3<=eH c/\eH c<=6/\dF c+eH c<=15:=by unfold dF eH;(repeat' split)<;>omega
end Bk
end
section
open Go.RowKit Go.Lib
namespace Bk
open Un (ba bt ri rb aU bF)
def Dt.mOf(d:Dt)(m:Int):Int:=if d.mo.size=0 then 0 else m
def Dt.kOf(d:Dt)(k:Int):Int:=if d.da.size=0 then 0 else k
theorem aHm(d:Dt)(y m k:Int)(w:World)(hw:lW w)(y0: -10000000000000000<=y)(y1:y<=10000000000000000)
 (hm:d.mo.size≠0->(1<=m/\m<=12)\/(21<=m/\m<=41/\iO y m<=10000000000000000)) (hk:d.da.size≠0->1<=k/\k<=31) (hmd:d.mo.size=0->d.da.size=0):
 Calls Tryz.prog 295 #[aW d,cvv y m k] w fun r w'=>r=.returned (.tuple #[rv (lK y (d.mOf m) (d.kOf k)) (sV y (d.mOf m) (d.kOf k)),.int .i64 0])/\Below w.heap.size w w':=by
 unfold lK sV Dt.mOf Dt.kOf;have cal:=fun W hb=>Un.mY y W (hw.below (w':=W) hb).cal;rw[aFV ⟨y0,y1⟩,aFV ⟨y0,y1⟩,aFV ⟨y0,y1⟩]at cal
 by_cases c0:d.mo.size=0
 . rw[aFV c0,aFV rfl,aFV rfl];obtain⟨ng,lg,dg,ex,sig,mo,da,m0,m1,m2⟩:=d;obtain rfl:mo=⟨#[]⟩:=ByteArray.ext (aRQ c0);exact Sk.rJ (Sk.aOO ⟨ng,lg,dg,ex,sig,⟨#[]⟩,da,m0,m1,m2⟩ y m k _ _ w cal) rfl
 rw[aB9 c0];rcases hm c0 with⟨m0,m1⟩|⟨m0,m1,hs⟩
 case inr=>
  refine Sk.rJ (Sk.aON d y m k _ _ _ _ w (by omega) cal (fun W hb=>KD y m W (hw.below hb) y0 y1 m0 m1 hs)) ?_;rw[QD,aCw c0,aB9 (show ¬m=0 by omega),aB9 (show ¬m=0 by omega),aFV (show 12<m by omega),aFV (show 12<m by omega),aAP (show 12<m by omega)];rfl
 have hq:(12 * y+m - 1) / 12=y/\(12 * y+m - 1) % 12=m - 1:=by omega
 have cam:=fun W hb=>Un.lJ (12 * y+m - 1) W (hw.below (w':=W) hb).cal (by omega) (by omega);rw[show Un.pI (12 * y+m - 1)=(Cal.st y+Cal.bY y m,Cal.st y+Cal.bY y (m+1) - 1,0) by
  unfold Un.pI;rw[hq.1,hq.2,aFV ⟨y0,y1⟩,show m - 1+1=m by omega,show m - 1+2=m+1 by omega]]at cam
 have sb:=Un.jQ (y:=y) (by omega) (by omega);have cb:=@Cal.dW y m (by omega) (by omega);have wr: ∀x:Int,-9223372036854775808<=x->x<9223372036854775808->IntKind.i64.wrap x=x:=fun x h0 h1=>by rw[aGZ];omega
 refine Sk.rJ (Sk.aOM d y m k _ _ (Cal.st y+Cal.bY y m) (Cal.st y+Cal.bY y (m+1) - 1) w m0 m1 cal ?_) ?_
 rotate_left
 . rw[QD,QD,aCw c0,aB9 (show ¬m=0 by omega),aB9 (show ¬m=0 by omega),aB9 (show ¬ 12<m by omega),aB9 (show ¬ 12<m by omega),aCw (show ¬ 12<m by omega)]
   by_cases c1:d.da.size=0
   . rw[aFV c1,aFV rfl,aFV rfl,aAP c1];rfl
   have hkb:=hk c1;rw[aB9 c1,aCw c1,wr (Cal.st y+Cal.bY y m+k) (by omega) (by omega),wr (Cal.st y+Cal.bY y m+k - 1) (by omega) (by omega),aB9 (show ¬k=0 by omega),aB9 (show ¬k=0 by omega)];rfl
 rw[wr (12 * y) (by omega) (by omega),wr (12 * y+m) (by omega) (by omega),wr (12 * y+m - 1) (by omega) (by omega)];exact cam
end Bk
end
section
open Go.RowKit Go.Lib
namespace Bk
open Un (ba bt ri rb aU bF)
theorem aDW{s:ByteArray}{n:Int}(h:jD s n=true)(hx:hasB 88 s=false)(n0:0<=n)(n1:n<=99):s.size=2/\allB bG s=true/\iT s=n:=by
 unfold jD at h;simp at h;obtain⟨h2,h0,h1⟩:=h;have nx: ∀i,i<s.size->aY s i≠88:=fun i hi c=>by rw[(wK 88 s).2 ⟨i,hi,c⟩]at hx;cases hx
 have x0:=nx 0 (by omega);have x1:=nx 1 (by omega);have b0:aY s 0=48+n / 10:=by omega
 have b1:aY s 1=48+n % 10:=by omega
 refine⟨h2,?_,?_⟩
 . rw[kH];intro i hi;obtain rfl|rfl:i=0\/i=1:=by omega
   . unfold bG;exact aAP (by omega)
   unfold bG;exact aAP (by omega)
 obtain⟨a,b,e,e0,e1⟩:=vF h2;unfold iT;rw[e];simp only[dec];omega
theorem KC{s:ByteArray}(h:dB s≠0):s.size=2/\allB bG s=true/\iT s=dB s:=by
 unfold dB at h ⊢
 split at h
 . rename_i g
   rw[aFV g];refine⟨g.1,?_,?_⟩
   . rw[kH];intro i hi;obtain rfl|rfl:i=0\/i=1:=by omega
     . unfold bG;exact aAP (by omega)
     unfold bG;exact aAP (by omega)
   obtain⟨a,b,e,e0,e1⟩:=vF g.1;unfold iT;rw[e];simp only[dec];omega
 exact absurd rfl h
theorem aGe{s:ByteArray}(h:s.size=0):iT s=0/\allB bG s=true:=by
 have e:s.data.toList=[]:=aUh.1 (by simpa using h);unfold iT allB;rw[e];exact⟨rfl,rfl⟩
theorem aP7{d:Dt}(h:d.form=0)(hx:hasB 88 d.mo=false):d.mo.size<=2/\allB bG d.mo=true/\d.ms=[iT d.mo]/\(d.mo.size≠0->(1<=iT d.mo/\iT d.mo<=12/\d.aH=0)\/(21<=iT d.mo/\iT d.mo<=41/\d.aH=iT d.mo)):=by
 have hbd:d.aH=0\/(21<=d.aH/\d.aH<=41):=iZ d.mo;rcases jB h with⟨h1,h2,h3⟩|⟨h1,h2,h3,h4⟩|⟨h1,h2,h3⟩
 . obtain⟨a,b,c⟩:=KC h1;change iT d.mo=d.aH at c;refine⟨by omega,b,by rw[Dt.mM h1,c],fun _=>.inr (by omega)⟩
 . obtain⟨n,n1,n2,ha⟩:=(DU _ _).1 h3;obtain⟨a,b,c⟩:=aDW ha hx (by omega) (by omega);refine⟨by omega,b,?_,fun _=>.inl (by omega)⟩;rw[Dt.qN h1 h2];have hs:=oM d.mo 12;have hall: ∀u,u ∈ dV d.mo 12->u=iT d.mo:=fun u hu=>by
    obtain⟨u1,u2,u3⟩:=(eY _ _ _).1 hu;exact(aDW u3 hx (by omega) (by omega)).2.2.symm
   have hin:iT d.mo ∈ dV d.mo 12:=(eY _ _ _).2 ⟨by omega,by omega,by rw[c];exact ha⟩;generalize dV d.mo 12=l at *
   match l,hs,hall,hin with
   |[],_,_,hin=>cases hin
   |[u],_,hall,_=>rw[hall u (aG1 ..)]
   |u::v::r,hs,hall,_=>
    have e1:=hall u (aG1 ..);have e2:=hall v (aHg _ (aG1 ..));have:=(List.pairwise_cons.1 hs).1 v (aG1 ..);omega
 obtain⟨e1,e2⟩:=aGe h2;refine⟨by omega,e2,by rw[Dt.BF h1 h2,e1],fun c=>absurd h2 c⟩
theorem aAb{d:Dt}(h:d.err=0):d.form=0:=by
 by_cases c:d.form=0
 . exact c
 rw[wU c]at h;exact absurd h c
theorem aQE{d:Dt}{y m:Int}(hk:d.JG=true)(hf:d.far=false)(hy:d.In y)(hm:m=d.aH)(hs:d.aH≠0):iO y m<=10000000000000000:=by
 have hb:=Dt.jU hk hy;unfold iO
 split
 . omega
 rename_i hc
 have hbd:d.aH=0\/(21<=d.aH/\d.aH<=41):=iZ d.mo;have hw:d.aH=24\/d.aH=28\/d.aH=30:=by
  rw[hm]at hc;generalize d.aH=z at *;have hz:z=21\/z=22\/z=23\/z=24\/z=25\/z=26\/z=27\/z=28\/z=29\/z=30\/z=31\/z=32\/z=33\/z=34\/z=35\/z=36\/z=37\/z=38\/z=39\/z=40\/z=41:=by omega
  rcases hz with rfl|rfl|rfl|rfl|rfl|rfl|rfl|rfl|rfl|rfl|rfl|rfl|rfl|rfl|rfl|rfl|rfl|rfl|rfl|rfl|rfl<;>first|omega|(exfalso;revert hc;decide)
 have e1:(decide (d.aH=24)||(decide (d.aH=28)||decide (d.aH=30)))=true:=by rcases hw with h|h|h<;>simp[h]
 unfold Dt.far at hf;rw[e1,aQT]at hf
 cases hmk:d.mask
 . rw[hmk]at hf;simp at hf;unfold Dt.In at hy;rw[hmk]at hy;simp at hy
   cases hn:d.neg
   . rw[hn]at hy;simp at hy
     by_cases c:d.mag=10000000000000000
     . have:=hf c;rw[hn]at this;cases this
     omega
   rw[hn]at hy;simp at hy;have:=nS d.dg d.ex;change 0<=d.mag at this;omega
 unfold Dt.In at hy;rw[hmk,aFV rfl]at hy
 split at hy
 . have:=hy.1.1;have:=hy.1.2.1;omega
 have:=hy.2.1;omega
end Bk
end
section
open Go.RowKit Go.Lib
namespace Bk
open Un (ba bt ri rb aU bF)
def Dt.aK5(d:Dt)(y m k lo hi er:Int):Prop:=((d.err≠0/\er=d.err/\lo=0/\hi=0)\/(d.err=0/\ ¬(d.sig<=0/\d.Has y m k)/\er=1/\lo=0/\hi=0)\/
 (d.err=0/\d.sig<=0/\d.Has y m k/\er=0/\lo=lK y (d.mOf m) (d.kOf k)/\hi=sV y (d.mOf m) (d.kOf k)))
def TJ(d:Dt)(y m k:Int)(w:World)(e:Ending)(w':World):Prop:= ∃lo hi er:Int,d.aK5 y m k lo hi er/\
 e=.returned (.tuple #[rv lo hi,.int .i64 er])/\Below w.heap.size w w'
theorem EG{d:Dt}{y m k:Int}(h:d.Has y m k): -10000000000000000<=y/\y<=10000000000000000/\(d.mo.size≠0->(1<=m/\m<=12)\/(21<=m/\m<=41/\iO y m<=10000000000000000))/\(d.da.size≠0->1<=k/\k<=31)/\(d.mo.size=0->d.da.size=0):=by
 obtain⟨hc,n,j,⟨hin,hms,hds,hlen⟩,hm,hk⟩:=h;have hf:=dZ hc;obtain⟨hyk,_,aJk⟩:=Dt.iD (Dt.kN hf).1;have hb:=Dt.jU hyk hin;have hbd:d.aH=0\/(21<=d.aH/\d.aH<=41):=iZ d.mo;refine⟨hb.1,hb.2,fun h0=>?_,fun h0=>?_,fmd hf⟩
 . obtain rfl:=hm.resolve_left h0
   by_cases hs:d.aH=0
   . rw[Dt.qN hs h0,eY]at hms;exact .inl (by omega)
   rw[Dt.mM hs,aLi]at hms;exact .inr ⟨by omega,by omega,aQE hyk aJk hin hms hs⟩
 obtain rfl:=hk.resolve_left h0;rw[Dt.V5 h0,eY]at hds;omega
theorem XG(d:Dt)(y m k:Int)(w:World)(hk:lW w)(hs:d.mo.size<=1000)(hy:d.dg.size<=1000)(m0:0<=d.m0)(m1:0<=d.m1)(m2:0<=d.m2)
 (y0: -9223372036854775808<=y) (y1:y<9223372036854775808):
 Calls Tryz.prog 290 #[aW d,cvv y m k] w (TJ d y m k w):=by
 have HC: ∀e,d.err=e->Sk.Same w 51 #[aW d] (.int .i64 e):=fun e h=>h ▸ fun W hb=>uO d W (hk.below hb) hs hy m0 m1 m2;have HH: ∀b:Bool,(b=true↔d.Has y m k)->Sk.Same w 294 #[aW d,cvv y m k] (.bool b):=fun b e W hb=>(aJG d y m k W (hk.below hb) hs hy m0 m1 m2 y0 y1).mono fun r w' ⟨c,hc,he,hb⟩=>by
  obtain rfl:c=b:=by rw[aKX,hc,e]
  exact⟨he,hb⟩
 have fin: ∀ {lo hi er:Int},d.aK5 y m k lo hi er->(Calls Tryz.prog 290 #[aW d,cvv y m k] w fun r w'=>r=.returned (.tuple #[rv lo hi,.int .i64 er])/\Below w.heap.size w w')->Calls Tryz.prog 290 #[aW d,cvv y m k] w (TJ d y m k w):=
  fun h c=>c.mono fun r w' ⟨e,hb⟩=>⟨_,_,_,h,e,hb⟩
 by_cases c:d.err=0
 case neg=>exact fin (.inl ⟨c,rfl,rfl,rfl⟩) (Sk.rJ (Sk.aHf d y m k d.err w c (HC _ rfl)) (by rw[aAO.2 c];rfl))
 by_cases h:d.Has y m k
 case neg=>exact fin (.inr (.inl ⟨c,fun g=>h g.2,rfl,rfl,rfl⟩)) (Sk.rJ (Sk.aHe d y m k w (HC _ c) (HH false (by simp[h]))) (by cases decide (0<d.sig)<;>rfl))
 have HF:=Sk.aHd d y m k _ _ w (HC _ c) (HH true (by simp[h])) (fun W hb=>aHm d y m k W (hk.below hb) (EG h).1 (EG h).2.1 (EG h).2.2.1 (EG h).2.2.2.1 (EG h).2.2.2.2)
 by_cases s:0<d.sig
 . exact fin (.inr (.inl ⟨c,fun g=>by omega,rfl,rfl,rfl⟩)) (Sk.rJ HF (by rw[aAP s];rfl))
 exact fin (.inr (.inr ⟨c,by omega,h,rfl,rfl,rfl⟩)) (Sk.rJ HF (by rw[aCw s];rfl))
def Dt.prec(d:Dt):Int:=if d.da.size≠0 then 3 else if d.mo.size=0 then 1 else if d.aH≠0 then 0 else 2
theorem aNb{s:ByteArray}(h:allB bG s=true):hasB 88 s=false:=(jV (pY h)).2 h
theorem aEk(d:Dt)(w:World)(hk:lW w)(hs:d.mo.size<=1000)(hy:d.dg.size<=1000)(m0:0<=d.m0)(m1:0<=d.m1)(m2:0<=d.m2):
 Calls Tryz.prog 288 #[aW d] w fun r w'=>r=.returned (.tuple #[.int .u8 (if d.err=0 then d.prec else 0),.int .i64 d.err])/\Below w.heap.size w w':=by
 have HC: ∀e,d.err=e->Sk.Same w 51 #[aW d] (.int .i64 e):=fun e h=>h ▸ fun W hb=>uO d W (hk.below hb) hs hy m0 m1 m2;unfold Dt.prec
 by_cases c:d.err=0
 case neg=>rw[aB9 c];exact Sk.rJ (Sk.aOV d d.err w c (HC _ rfl)) (by rw[aAO.2 c];rfl)
 have HK: ∀b,hasB 88 d.mo=b->Sk.Same w 84 #[.string d.mo,.string ⟨#[88]⟩] (.bool b):=fun b e W _=>by
  have:=Tryz.strings_Contains_one d.mo 88 W;rw[nH]at this;subst e;exact Sk.aWV this
 have hf:=aAb c;rw[aFV c,c];have tac: ∀z:Bool,z=decide (d.aH≠0)->cond (d.da.toList==(⟨#[]⟩:ByteArray).toList) (cond (d.mo.toList==(⟨#[]⟩:ByteArray).toList) (Value.tuple #[.int .u8 1,.int .i64 0]) (cond z (.tuple #[.int .u8 0,.int .i64 0]) (.tuple #[.int .u8 2,.int .i64 0]))) (.tuple #[.int .u8 3,.int .i64 0])=
  .tuple #[.int .u8 (if d.da.size≠0 then 3 else if d.mo.size=0 then 1 else if d.aH≠0 then 0 else 2),.int .i64 0]:=fun z hz=>by
  rw[QD,QD,hz]
  by_cases e1:d.mo.size=0<;>by_cases e2:d.da.size=0<;>by_cases e3:d.aH=0<;>simp[e1,e2,e3]
 cases hx:hasB 88 d.mo
 case true=>
  refine Sk.rJ (Sk.aOU d w (HC _ c) (HK _ hx)) (tac false ?_)
  symm
  by_cases c:d.aH=0
  . simp[c]
  have:=aNb (KC c).2.1;rw[this]at hx;cases hx
 obtain⟨a,b,_,e⟩:=aP7 hf hx;refine Sk.rJ (Sk.aOT d _ w (HC _ c) (HK _ hx) (fun W _=>XF d.mo W a b)) ?_
 by_cases e0:d.mo.size=0
 . rw[QD,QD,aAP e0]
   by_cases e2:d.da.size=0<;>simp[e0,e2]
 refine tac _ ?_;rw[decide_eq_decide];rcases e e0 with⟨h1,h2,h3⟩|⟨h1,h2,h3⟩<;>omega
end Bk
end
section
open Go.RowKit Go.Lib
namespace Sk
open Un (ba bt ri rb bZ)
open Cal
open Bk (Dt aW cvv cvF rv lW lK sV)
open Ev (aV dQ hp)
structure RB where
 a:Int
 lo:Int
 b:Int
 hi:Int
 is:Bool
def RB.v(r:RB):Value:=.tuple #[.agg #[.int .i8 r.a,.int .i64 r.lo,.int .i8 r.b,.int .i64 r.hi],.bool r.is]
def RB.Bd(r:RB):Prop:= -9223372036854775808<=r.lo/\r.lo<9223372036854775808
def OO(v:Value):Prop:= ∃r:RB,r.Bd/\v=r.v
theorem OO.cond{c:Bool}{v u:Value}(h:OO v)(g:OO u):OO (cond c v u):=by cases c;exact g;exact h
theorem OO.mk{a lo b hi:Int}{is:Bool}(h: -9223372036854775808<=lo/\lo<9223372036854775808):OO (.tuple #[.agg #[.int .i8 a,.int .i64 lo,.int .i8 b,.int .i64 hi],.bool is]):=⟨⟨a,lo,b,hi,is⟩,h,rfl⟩
structure C9(d:Dt)(w0:World):Prop where
 hk:lW w0
 st:aV dQ.g.n dQ.l w0 hp
 mo:d.mo.size<=1000
 dg:d.dg.size<=1000
 m0:0<=d.m0
 m1:0<=d.m1
 m2:0<=d.m2
section
variable{d:Dt}{w0:World}(h:C9 d w0)
open Classical in
noncomputable def IC(d:Dt)(y m k:Int):Int × Int × Int:=if d.err≠0 then(0,0,d.err)else if ¬(d.sig<=0/\d.Has y m k)then(0,0,1)else(lK y (d.mOf m) (d.kOf k),sV y (d.mOf m) (d.kOf k),0)
theorem aMY{d:Dt}{y m k lo hi er:Int}(h:d.aK5 y m k lo hi er):IC d y m k=(lo,hi,er):=by
 unfold IC;rcases h with⟨h1,rfl,rfl,rfl⟩|⟨h1,h2,rfl,rfl,rfl⟩|⟨h1,h2,h3,rfl,rfl,rfl⟩
 . rw[aFV h1]
 . rw[aB9 (by simp[h1]),aFV h2]
 rw[aB9 (by simp[h1]),aB9 (by simp[h2,h3])]
theorem aLJ{y m k:Int}(y0: -10000000000000000<=y)(y1:y<=10000000000000000)(hm:m=0\/(1<=m/\m<=12)\/(21<=m/\m<=41))(hk:0<=k/\k<=31): -9223372036854775808<=lK y m k/\lK y m k<9223372036854775808:=by
 have b0:=Un.jQ (y:=y) (by omega) (by omega);rcases hm with rfl|hm|hm
 . unfold lK;rw[aFV rfl];omega
 . have c0:=@dW y m (by omega) (by omega);unfold lK;rw[aB9 (show ¬m=0 by omega),aB9 (show ¬ 12<m by omega)]
   by_cases c:k=0
   . rw[aFV c];omega
   rw[aB9 c];omega
 have f:=Bk.J8 m;have c0:=@dW y (Bk.dF m) (by omega) (by omega);unfold lK;rw[aB9 (show ¬m=0 by omega),aFV (show 12<m by omega)];omega
theorem aMZ(d:Dt)(y m k:Int): -9223372036854775808<=(IC d y m k).1/\(IC d y m k).1<9223372036854775808:=by
 unfold IC
 split
 . dsimp only;omega
 split
 . dsimp only;omega
 rename_i h1 h2
 have h3:=(aOr.1 h2).2;obtain⟨y0,y1,hm,hk,hmd⟩:=Bk.EG h3;have hs:=h3;dsimp only;refine aLJ y0 y1 ?_ ?_
 . unfold Dt.mOf;split
   . exact .inl rfl
   rename_i c;rcases hm c with g|g<;>omega
 unfold Dt.kOf;split
 . omega
 rename_i c;have:=hk c;omega
theorem BR(y m k:Int)(y0: -9223372036854775808<=y)(y1:y<9223372036854775808)(h:C9 d w0):Same w0 290 #[aW d,cvv y m k] (.tuple #[rv (IC d y m k).1 (IC d y m k).2.1,.int .i64 (IC d y m k).2.2]):=fun W hb=>by
 refine(Bk.XG d y m k W (h.hk.below hb) h.mo h.dg h.m0 h.m1 h.m2 y0 y1).mono ?_;rintro e w' ⟨lo,hi,er,hF,rfl,hb'⟩;rw[aMY hF];exact⟨rfl,hb'⟩
theorem vM(y m k:Int)(is:Bool)(y0: -9223372036854775808<=y)(y1:y<9223372036854775808)(h:C9 d w0): ∃r:RB,r.Bd/\Same w0 283 #[aW d,cvv y m k,.bool is] r.v:=by
 have key: ∀v,(∀W,Below w0.heap.size w0 W->Calls Tryz.prog 283 #[aW d,cvv y m k,.bool is] W fun r w'=>r=.returned v/\Below W.heap.size W w')->OO v-> ∃r:RB,r.Bd/\Same w0 283 #[aW d,cvv y m k,.bool is] r.v:=by
  rintro v hv ⟨r,hb,rfl⟩;exact⟨r,hb,hv⟩
 have hf:=aMZ d y m k;refine key _ (aC7 d y m k _ _ _ is h.st (BR y m k y0 y1 h)) ?_;exact OO.cond (OO.cond (OO.mk hf) (OO.mk hf)) (OO.mk (by omega))
theorem jU{d:Dt}(hc:d.dO=0){y:Int}(hy:d.In y): -10000000000000000<=y/\y<=10000000000000000:=Bk.Dt.jU (Bk.Dt.iD (Bk.Dt.kN (Bk.dZ hc)).1).1 hy
theorem LK(d:Dt)(c:Int × Int × Int): -10000000000000000<=(d.oG c).1/\(d.oG c).1<=10000000000000000:=by
 unfold Bk.Dt.oG
 by_cases hc:d.dO=0
 . rw[aFV hc];unfold Bk.Dt.nx
   split
   . rename_i he
     rcases he.choose_spec with⟨_,g,_⟩|⟨_,g,_⟩
     . exact jU hc g.1
     rw[g];omega
   dsimp only;omega
 rw[aB9 hc];dsimp only;omega
theorem aHU(d:Dt)(c:Int × Int × Int): -10000000000000000<=(d.qM c).1/\(d.qM c).1<=10000000000000000:=by
 unfold Bk.Dt.qM
 by_cases hc:d.dO=0
 . rw[aFV hc];unfold Bk.Dt.pv
   split
   . rename_i he
     rcases he.choose_spec with⟨_,g,_⟩|⟨_,g,_⟩
     . exact jU hc g.1
     rw[g];omega
   dsimp only;omega
 rw[aB9 hc];dsimp only;omega
theorem mX(n:Int): -9223372036854775808<=IntKind.i64.wrap n/\IntKind.i64.wrap n<9223372036854775808:=by rw[aGZ];omega
theorem xO(cy cm ck:Int)(y0: -9223372036854775808<=cy)(y1:cy<9223372036854775808)(h:C9 d w0):Same w0 291 #[aW d,cvv cy cm ck] (cvF (d.oG (cy,cm,ck)) d.dO):=fun W hb=>
 Bk.aCl d cy cm ck W (h.hk.below hb) h.mo h.dg h.m0 h.m1 h.m2 y0 y1
theorem aEV(cy cm ck:Int)(y0: -9223372036854775808<=cy)(y1:cy<9223372036854775808)(h:C9 d w0):Same w0 287 #[aW d,cvv cy cm ck] (cvF (d.qM (cy,cm,ck)) d.dO):=fun W hb=>
 Bk.aCk d cy cm ck W (h.hk.below hb) h.mo h.dg h.m0 h.m1 h.m2 y0 y1
def cv3(t:Int × Int × Int × Bool)(e:Int):Value:=.tuple #[cvv t.1 t.2.1 t.2.2.1,.int .i64 e]
theorem aF9(cy cm ck:Int)(y0: -9223372036854775808<=cy)(y1:cy<9223372036854775808)(h:C9 d w0):Same w0 289 #[aW d,cvv cy cm ck,.bool true] (cv3 (d.oG (cy,cm,ck)) d.dO):=fun W hb=>by
 refine(Bk.aF8 d cy cm ck W (h.hk.below hb) h.mo h.dg h.m0 h.m1 h.m2 y0 y1).mono ?_;rintro e w' ⟨y,m,k,hF,rfl,hb'⟩;refine⟨?_,hb'⟩;have: ∃ok,d.oG (cy,cm,ck)=(y,m,k,ok):=by
  unfold Bk.Dt.oG;rcases hF with⟨h1,ok,h2⟩|⟨h1,rfl,rfl,rfl⟩
  . rw[aFV h1];exact⟨ok,Bk.Dt.aID h2⟩
  rw[aB9 h1];exact⟨_,rfl⟩
 obtain⟨ok,this⟩:=this;rw[this];rfl
theorem aGb(cy cm ck:Int)(y0: -9223372036854775808<=cy)(y1:cy<9223372036854775808)(h:C9 d w0):Same w0 289 #[aW d,cvv cy cm ck,.bool false] (cv3 (d.qM (cy,cm,ck)) d.dO):=fun W hb=>by
 refine(Bk.aGa d cy cm ck W (h.hk.below hb) h.mo h.dg h.m0 h.m1 h.m2 y0 y1).mono ?_;rintro e w' ⟨y,m,k,hF,rfl,hb'⟩;refine⟨?_,hb'⟩;have: ∃ok,d.qM (cy,cm,ck)=(y,m,k,ok):=by
  unfold Bk.Dt.qM;rcases hF with⟨h1,ok,h2⟩|⟨h1,rfl,rfl,rfl⟩
  . rw[aFV h1];exact⟨ok,Bk.Dt.aHT h2⟩
  rw[aB9 h1];exact⟨_,rfl⟩
 obtain⟨ok,this⟩:=this;rw[this];rfl
theorem Z7(h:C9 d w0):Same w0 282 #[aW d] (cv3 (d.oG (-9223372036854775808,0,0)) d.dO):=aJC d _ _ _ _ h.st (aF9 (-9223372036854775808) 0 0 (by omega) (by omega) h)
theorem MW(h:C9 d w0):Same w0 285 #[aW d] (cv3 (d.qM (9223372036854775807,0,0)) d.dO):=aMV d _ _ _ _ h.st (aGb 9223372036854775807 0 0 (by omega) (by omega) h)
theorem exR{f:FuncId}{args:Array Value}{v:Value}(hv:Same w0 f args v)(h:OO v): ∃r:RB,r.Bd/\Same w0 f args r.v:=by
 obtain⟨r,hb,rfl⟩:=h;exact⟨r,hb,hv⟩
theorem aFS(h:C9 d w0): ∃r:RB,r.Bd/\Same w0 278 #[aW d] r.v:=by
 have b:=aHU d (9223372036854775807,0,0);have N:=MW h;unfold cv3 at N;generalize d.qM (9223372036854775807,0,0)=t at N b;obtain⟨y,m,k,ok⟩:=t;dsimp only at N b;obtain⟨r1,b1,H1⟩:=vM (d:=d) y m k true (by omega) (by omega) h;obtain⟨r2,b2,H2⟩:=vM (d:=d) y m k false (by omega) (by omega) h;exact exR (aB3 (hst:=h.st) (H0:=N) (H1:=H1) (H2:=H2)) (OO.cond (OO.mk b1) (OO.mk b2))
theorem aJ1(day:Int)(hk:lW w0)(st:aV dQ.g.n dQ.l w0 hp)(h0: -9223372036854775808<=day)(h1:day<9223372036854775808): ∃y m k e:Int,(-9223372036854775808<=y/\y<9223372036854775808)/\Same w0 286 #[.int .i64 day] (.tuple #[cvv y m k,.int .i64 e]):=by
 have HM:=fun W hb=>Un.oK day W (hk.below (w':=W) hb).cal h0 h1;unfold bZ at HM
 by_cases c: -10000000000000000<=bT day/\bT day<=10000000000000000
 . simp only[aFV c]at HM;obtain⟨s1,s2⟩:=gK day;rw[st_succ]at s2;have hms:=@lS (bT day) (day - Cal.st (bT day)) (by omega) (by omega);have lp1:=pK (bT day);refine⟨_,_,_,_,?_,aOE day _ _ _ st HM (fun W hb=>Un.iP _ _ W (hk.below hb).cal c.1 c.2 (by omega) (by omega))⟩;omega
 simp only[aB9 c]at HM;exact⟨_,_,_,_,(by omega: -9223372036854775808<=(0:Int)/\(0:Int)<9223372036854775808),aDP day st HM⟩
theorem RD(h:C9 d w0):Same w0 288 #[aW d] (.tuple #[.int .u8 (if d.err=0 then d.prec else 0),.int .i64 d.err]):=fun W hb=>
 Bk.aEk d W (h.hk.below hb) h.mo h.dg h.m0 h.m1 h.m2
theorem aP2(r:RB)(br:r.Bd)(h:C9 d w0): ∃q:RB,q.Bd/\Same w0 284 #[aW d,.agg #[.int .i8 r.a,.int .i64 r.lo,.int .i8 r.b,.int .i64 r.hi]] q.v:=by
 obtain⟨L,bL,HL⟩:=aFS h;obtain⟨cy,cm,ck,ce,bc,HC⟩:=aJ1 r.lo h.hk h.st br.1 br.2;have HP:=RD h;obtain⟨w1,hw1⟩: ∃n,n=IntKind.i64.wrap (cy+1):=⟨_,rfl⟩;have bw1:=mX (cy+1);rw[<-hw1]at bw1;have P1:=xO w1 0 0 bw1.1 bw1.2 h;have q1:=LK d (w1,0,0);unfold cvF at P1;generalize d.oG (w1,0,0)=t at P1 q1;obtain⟨y1,m1,k1,ok1⟩:=t;dsimp only at P1 q1;obtain⟨r1,b1,R1⟩:=vM (d:=d) y1 m1 k1 ok1 (by omega) (by omega) h;rw[hw1]at P1;obtain⟨w2,hw2⟩: ∃n,n=IntKind.i64.wrap (cm+1):=⟨_,rfl⟩;have bw2:=mX (cm+1);rw[<-hw2]at bw2;have P2:=xO cy w2 0 bc.1 bc.2 h;have q2:=LK d (cy,w2,0);unfold cvF at P2;generalize d.oG (cy,w2,0)=t at P2 q2;obtain⟨y2,m2,k2,ok2⟩:=t;dsimp only at P2 q2;obtain⟨r2,b2,R2⟩:=vM (d:=d) y2 m2 k2 ok2 (by omega) (by omega) h;rw[hw2]at P2;obtain⟨w3,hw3⟩: ∃n,n=IntKind.i64.wrap (ck+1):=⟨_,rfl⟩;have bw3:=mX (ck+1);rw[<-hw3]at bw3;have P3:=xO cy cm w3 bc.1 bc.2 h;have q3:=LK d (cy,cm,w3);unfold cvF at P3;generalize d.oG (cy,cm,w3)=t at P3 q3;obtain⟨y3,m3,k3,ok3⟩:=t;dsimp only at P3 q3;obtain⟨r3,b3,R3⟩:=vM (d:=d) y3 m3 k3 ok3 (by omega) (by omega) h;rw[hw3]at P3;refine exR (aIM (d:=d) (hst:=h.st) (hz:=rfl) (H0:=HL) (H1:=HC) (H2:=HP) (H3:=P1) (H4:=R1) (H5:=P2) (H6:=R2) (H7:=P3) (H8:=R3)) ?_
 repeat (first|exact OO.mk bL|exact OO.mk b1|exact OO.mk b2|exact OO.mk b3|exact OO.mk (by omega)|apply OO.cond)
end
end Sk
end
section
open Go.RowKit Go.Lib
namespace Sk
open Ev (aV DT LG dQ aQ hp uY iW iV lT kR OJ FQ lY aN AV yJ rG dS aG aJ eG kX)
open Bk (Dt aW)
def ya0:AV:=rK (qe 13) (qi 14) (qe 15) (qi 16)
def aKH:DT:=(.node 1 (qu 0) (.v (.int .u8 1)) (.leaf (.v (.int .i64 18))) (.node 1 (.v (.int .u8 5)) (qu 0) (.leaf (.v (.int .i64 18))) (.node 0 (qu 0) (.v (.int .u8 1)) (.node 0 (qu 0) (.v (.int .u8 2)) DT.no (.node 3 (qb 31) (qb 31) (.node 0 (qu 0) (.v (.int .u8 3)) DT.no (.node 0 (qu 12) (.v (.int .u8 0)) (.node 1 (qu 0) (.v (.int .u8 3)) (.node 3 (qb 32) (qb 32) (.node 0 (aN 8 .i64 [(lY 1)]) qz (.leaf (.v (.int .i64 17))) (.leaf (qi 17))) (.leaf (.v (.int .i64 5)))) DT.no) (.leaf (.v (.int .i64 5))))) (.leaf (.v (.int .i64 5))))) (.node 1 qz (aN 8 .i64 [(lY 1)]) (.leaf (.v (.int .i64 5))) (.node 0 (qu 0) (.v (.int .u8 2)) (.node 0 (qu 0) (.v (.int .u8 3)) DT.no (.node 0 (qu 12) (.v (.int .u8 0)) (.node 1 (qu 0) (.v (.int .u8 3)) (.node 3 (qb 32) (qb 32) (.node 1 qz (qi 18) (.leaf (qi 18)) (.node 1 qz (qi 6) (.leaf (.v (.int .i64 1))) (.node 0 (qi 19) qz (.leaf (.v (.int .i64 1))) (.node 3 (qb 33) (qb 33) (.leaf qz) (.leaf (.v (.int .i64 1))))))) (.leaf (.v (.int .i64 5)))) DT.no) (.leaf (.v (.int .i64 5))))) (.node 3 (qb 31) (qb 31) (.node 0 (qu 0) (.v (.int .u8 3)) (.node 1 (qu 0) (.v (.int .u8 3)) DT.no (.node 1 (qu 12) (.v (.int .u8 1)) (.leaf (.v (.int .i64 18))) (.node 1 (.v (.int .u8 3)) (qu 12) (.leaf (.v (.int .i64 18))) (.node 1 qz (qi 20) (.leaf (.v (.int .i64 1))) (.node 0 (qe 13) q8 (.node 1 qz (qi 25) (.leaf (.v (.int .i64 1))) (.node 3 (qb 34) (qb 34) (.node 0 (qe 15) q8 (.node 1 qz (qi 30) (.leaf (.v (.int .i64 1))) (.node 3 (qb 35) (qb 35) (.leaf qz) (.leaf (.v (.int .i64 1))))) (.leaf qz)) (.leaf (.v (.int .i64 1))))) (.node 0 (qe 15) q8 (.node 1 qz (qi 30) (.leaf (.v (.int .i64 1))) (.node 3 (qb 35) (qb 35) (.leaf qz) (.leaf (.v (.int .i64 1))))) (.leaf (.v (.int .i64 1))))))))) (.node 0 (qu 12) (.v (.int .u8 0)) (.node 1 (qu 0) (.v (.int .u8 3)) DT.no (.node 1 qz (qi 20) (.leaf (.v (.int .i64 1))) (.node 0 (qu 0) (.v (.int .u8 4)) (.node 0 (qe 13) q8 (.leaf (.v (.int .i64 1))) (.node 0 (qe 15) q8 (.node 0 (qu 0) (.v (.int .u8 5)) DT.no (.leaf qz)) (.leaf (.v (.int .i64 1))))) (.node 0 (qu 0) (.v (.int .u8 5)) (.node 0 (qe 13) q8 (.node 0 (qe 15) q8 (.leaf (.v (.int .i64 1))) (.leaf qz)) (.leaf (.v (.int .i64 1)))) DT.no)))) (.leaf (.v (.int .i64 5))))) (.leaf (.v (.int .i64 5)))))))))
theorem aFr(l:Value):aKH.ok dQ l [(37,zA,.agg [qf,qf,.v (.string ⟨#[]⟩),qz,qz,.v (.string ⟨#[]⟩),.v (.string ⟨#[]⟩),.v (.int .u8 0),.v (.int .u8 0),.v (.int .u8 0)],(qb 31)),(42,ya0,(rK q8 qz q8 qz),(qb 32)),(26,.agg [(qu 9),(qu 10),(qu 11)],.agg [.v (.int .u8 0),.v (.int .u8 0),.v (.int .u8 0)],(qb 33)),(40,.agg [(qe 21),(qi 22)],.agg [(qe 13),(qi 14)],(qb 34)),(40,.agg [(qe 28),(qi 29)],.agg [(qe 15),(qi 16)],(qb 35))] [(44,[(lY 1)],(qi 17)),(45,[zA],(qi 18)),(17,[zA],(qi 19)),(46,[ya0],(qi 20)),(47,[(qi 14),aN 6 .i64 [(qu 12)]],.aS [rK (qe 21) (qi 22) (qe 23) (qi 24),(qi 25)]),(47,[(qi 16),aN 6 .i64 [(qu 12)]],.aS [rK (qe 26) (qi 27) (qe 28) (qi 29),(qi 30)])] hp 60 LG 21 [gY (qu 0)] []=true:=by kernel_rfl
theorem aPx(k:Int)(bs:Option Addr)(n cp:Nat)(d:Dt)(p a lo b hi c10 c16 xx JC ua ulo ub uhi be va vlo vb vhi bf:Int)(zd zr zm zu zv:Bool){w0:World}(hst:SS w0)(hk0:0<=k)(hpw:IntKind.i64.wrap p=p)(hd:OU 37 (aW d) (aW z0) zd)(hr:OU 42 (r4 a lo b hi) (r4 0 0 0 0) zr)(hm:OU 26 (.agg #[.int .u8 d.m0,.int .u8 d.m1,.int .u8 d.m2]) (.agg #[.int .u8 0,.int .u8 0,.int .u8 0]) zm)(hu:zu=decide (ua=a/\ulo=lo))(hv:zv=decide (vb=b/\vhi=hi))(CS:Same w0 44 #[(.slice bs n cp)] (.int .i64 c10))(CE:Same w0 45 #[(aW d)] (.int .i64 c16))(CX:Same w0 17 #[(aW d)] (.int .i64 xx))(CR:Same w0 46 #[(r4 a lo b hi)] (.int .i64 JC))(CH1:Same w0 47 #[(.int .i64 lo),(.int .i64 (IntKind.i64.wrap p))] (.tuple #[(r4 ua ulo ub uhi),(.int .i64 be)]))(CH2:Same w0 47 #[(.int .i64 hi),(.int .i64 (IntKind.i64.wrap p))] (.tuple #[(r4 va vlo vb vhi),(.int .i64 bf)])):Same w0 21 #[(fam k (.slice bs n cp) d p a lo b hi)] (cond (decide (k<1)) (.int .i64 18) (cond (decide (5<k)) (.int .i64 18) (cond (k==1) (cond (k==2) (.bool false) (cond zd (cond (k==3) (.bool false) (cond (p==0) (cond (decide (k<3)) (cond zr (cond (((n:Nat):Int)==0) (.int .i64 17) (.int .i64 c10)) (.int .i64 5)) (.bool false)) (.int .i64 5))) (.int .i64 5))) (cond (decide (0<((n:Nat):Int))) (.int .i64 5) (cond (k==2) (cond (k==3) (.bool false) (cond (p==0) (cond (decide (k<3)) (cond zr (cond (decide (0<c16)) (.int .i64 c16) (cond (decide (0<d.sig)) (.int .i64 1) (cond (xx==0) (.int .i64 1) (cond zm (.int .i64 0) (.int .i64 1))))) (.int .i64 5)) (.bool false)) (.int .i64 5))) (cond zd (cond (k==3) (cond (decide (k<3)) (.bool false) (cond (decide (p<1)) (.int .i64 18) (cond (decide (3<p)) (.int .i64 18) (cond (decide (0<JC)) (.int .i64 1) (cond (a==0) (cond (decide (0<be)) (.int .i64 1) (cond zu (cond (b==0) (cond (decide (0<bf)) (.int .i64 1) (cond zv (.int .i64 0) (.int .i64 1))) (.int .i64 0)) (.int .i64 1))) (cond (b==0) (cond (decide (0<bf)) (.int .i64 1) (cond zv (.int .i64 0) (.int .i64 1))) (.int .i64 1))))))) (cond (p==0) (cond (decide (k<3)) (.bool false) (cond (decide (0<JC)) (.int .i64 1) (cond (k==4) (cond (a==0) (.int .i64 1) (cond (b==0) (cond (k==5) (.bool false) (.int .i64 0)) (.int .i64 1))) (cond (k==5) (cond (a==0) (cond (b==0) (.int .i64 1) (.int .i64 0)) (.int .i64 1)) (.bool false))))) (.int .i64 5))) (.int .i64 5))))))):=
 aG (aFr (lv (lF k (.slice bs n cp) d p a lo b hi) [.int .i64 c10,.int .i64 c16,.int .i64 xx,.int .i64 JC,.int .i8 ua,.int .i64 ulo,.int .i8 ub,.int .i64 uhi,.int .i64 be,.int .i8 va,.int .i64 vlo,.int .i8 vb,.int .i64 vhi,.int .i64 bf,.bool zd,.bool zr,.bool zm,.bool zu,.bool zv])) (aQ w0) hst (.cons hd (fun _ _ _=>⟨by kernel_rfl,by kernel_rfl⟩) (.cons hr (fun _ _ _=>⟨by kernel_rfl,by kernel_rfl⟩) (.cons hm (fun _ _ _=>⟨by kernel_rfl,by kernel_rfl⟩) (.cons (nI _ _ _ _ _ hu) (fun _ _ _=>⟨by kernel_rfl,by kernel_rfl⟩) (.cons (nI _ _ _ _ _ hv) (fun _ _ _=>⟨by kernel_rfl,by kernel_rfl⟩) .nil))))) (.cons CS (.cons CE (.cons CX (.cons CR (.cons CH1 (.cons CH2 .nil)))))) (eG (by kernel_rfl:_=((((decide (k<1))=true->True)/\((decide (k<1))=false->(((decide (5<k))=true->True)/\((decide (5<k))=false->(((k==1)=true->(((k==2)=true->False)/\((k==2)=false->((zd=true->(((k==3)=true->False)/\((k==3)=false->(((p==0)=true->(((decide (k<3))=true->((zr=true->(((((n:Nat):Int)==0)=true->True)/\((((n:Nat):Int)==0)=false->True)))/\(zr=false->True)))/\((decide (k<3))=false->False)))/\((p==0)=false->True)))))/\(zd=false->True)))))/\((k==1)=false->(((decide (0<((n:Nat):Int)))=true->True)/\((decide (0<((n:Nat):Int)))=false->(((k==2)=true->(((k==3)=true->False)/\((k==3)=false->(((p==0)=true->(((decide (k<3))=true->((zr=true->(((decide (0<c16))=true->True)/\((decide (0<c16))=false->(((decide (0<d.sig))=true->True)/\((decide (0<d.sig))=false->(((xx==0)=true->True)/\((xx==0)=false->((zm=true->True)/\(zm=false->True)))))))))/\(zr=false->True)))/\((decide (k<3))=false->False)))/\((p==0)=false->True)))))/\((k==2)=false->((zd=true->(((k==3)=true->(((decide (k<3))=true->False)/\((decide (k<3))=false->(((decide (p<1))=true->True)/\((decide (p<1))=false->(((decide (3<p))=true->True)/\((decide (3<p))=false->(((decide (0<JC))=true->True)/\((decide (0<JC))=false->(((a==0)=true->(((decide (0<be))=true->True)/\((decide (0<be))=false->((zu=true->(((b==0)=true->(((decide (0<bf))=true->True)/\((decide (0<bf))=false->((zv=true->True)/\(zv=false->True)))))/\((b==0)=false->True)))/\(zu=false->True)))))/\((a==0)=false->(((b==0)=true->(((decide (0<bf))=true->True)/\((decide (0<bf))=false->((zv=true->True)/\(zv=false->True)))))/\((b==0)=false->True)))))))))))))/\((k==3)=false->(((p==0)=true->(((decide (k<3))=true->False)/\((decide (k<3))=false->(((decide (0<JC))=true->True)/\((decide (0<JC))=false->(((k==4)=true->(((a==0)=true->True)/\((a==0)=false->(((b==0)=true->(((k==5)=true->False)/\((k==5)=false->True)))/\((b==0)=false->True)))))/\((k==4)=false->(((k==5)=true->(((a==0)=true->(((b==0)=true->True)/\((b==0)=false->True)))/\((a==0)=false->True)))/\((k==5)=false->False)))))))))/\((p==0)=false->True)))))/\(zd=false->True)))))))))))))) (⟨fun h0=>trivial,fun h0=>⟨fun h1=>trivial,fun h1=>⟨fun h2=>⟨fun h3=>(by simp only[aFZ,aAO,aFK,aD5]at *;omega),fun h3=>⟨fun h4=>⟨fun h5=>(by simp only[aFZ,aAO,aFK,aD5]at *;omega),fun h5=>⟨fun h6=>⟨fun h7=>⟨fun h8=>⟨fun h9=>trivial,fun h9=>trivial⟩,fun h8=>trivial⟩,fun h7=>(by simp only[aFZ,aAO,aFK,aD5]at *;omega)⟩,fun h6=>trivial⟩⟩,fun h4=>trivial⟩⟩,fun h2=>⟨fun h3=>trivial,fun h3=>⟨fun h4=>⟨fun h5=>(by simp only[aFZ,aAO,aFK,aD5]at *;omega),fun h5=>⟨fun h6=>⟨fun h7=>⟨fun h8=>⟨fun h9=>trivial,fun h9=>⟨fun h10=>trivial,fun h10=>⟨fun h11=>trivial,fun h11=>⟨fun h12=>trivial,fun h12=>trivial⟩⟩⟩⟩,fun h8=>trivial⟩,fun h7=>(by simp only[aFZ,aAO,aFK,aD5]at *;omega)⟩,fun h6=>trivial⟩⟩,fun h4=>⟨fun h5=>⟨fun h6=>⟨fun h7=>(by simp only[aFZ,aAO,aFK,aD5]at *;omega),fun h7=>⟨fun h8=>trivial,fun h8=>⟨fun h9=>trivial,fun h9=>⟨fun h10=>trivial,fun h10=>⟨fun h11=>⟨fun h12=>trivial,fun h12=>⟨fun h13=>⟨fun WU=>⟨fun h15=>trivial,fun h15=>⟨fun h16=>trivial,fun h16=>trivial⟩⟩,fun WU=>trivial⟩,fun h13=>trivial⟩⟩,fun h11=>⟨fun h12=>⟨fun h13=>trivial,fun h13=>⟨fun WU=>trivial,fun WU=>trivial⟩⟩,fun h12=>trivial⟩⟩⟩⟩⟩⟩,fun h6=>⟨fun h7=>⟨fun h8=>(by simp only[aFZ,aAO,aFK,aD5]at *;omega),fun h8=>⟨fun h9=>trivial,fun h9=>⟨fun h10=>⟨fun h11=>trivial,fun h11=>⟨fun h12=>⟨fun h13=>(by simp only[aFZ,aAO,aFK,aD5]at *;omega),fun h13=>trivial⟩,fun h12=>trivial⟩⟩,fun h10=>⟨fun h11=>⟨fun h12=>⟨fun h13=>trivial,fun h13=>trivial⟩,fun h12=>trivial⟩,fun h11=>(by simp only[aFZ,aAO,aFK,aD5]at *;omega)⟩⟩⟩⟩,fun h7=>trivial⟩⟩,fun h5=>trivial⟩⟩⟩⟩⟩⟩)) (by kernel_rfl)
end Sk
end
section
open Go.RowKit Go.Lib
namespace Sk
open Ev (aV DT LG dQ aQ hp tb0 bW rH uY iW iV lT kR OJ FQ lY aN AV yJ rG dS aG aJ eG kX)
def yg0:AV:=.aS [(.agg [(qe 0),(qi 1)]),qz]
def yg1:AV:=aN 1 .i64 [(qi 1),(.v (.int .i64 1))]
def yg2:List AV:=[rK (qe 0) (qi 1) (qe 2) (qi 3),rK (qe 4) (qi 5) (qe 6) (qi 7)]
def yg3:List AV:=[rK (qe 4) (qi 5) (qe 6) (qi 7),rK (qe 0) (qi 1) (qe 2) (qi 3)]
def aGH:DT:=(.node 0 (qe 0) (qe 0) (.node 0 (qe 2) (qe 2) (.node 1 (qe 0) (qe 2) (.node 0 (qi 1) (qi 1) (.node 0 (qi 3) (qi 3) (.node 1 (qi 1) (qi 3) (.leaf (.v (.int .i64 (-1)))) (.node 1 (qi 3) (qi 1) (.leaf (.v (.int .i64 (-1)))) (.leaf (.v (.int .i64 (-1)))))) DT.no) DT.no) (.node 1 (qe 2) (qe 0) (.node 0 (qi 1) (qi 1) (.node 0 (qi 3) (qi 3) (.node 1 (qi 1) (qi 3) (.leaf (.v (.int .i64 1))) (.node 1 (qi 3) (qi 1) (.leaf (.v (.int .i64 1))) (.leaf (.v (.int .i64 1))))) DT.no) DT.no) (.node 0 (qi 1) (qi 1) (.node 0 (qi 3) (qi 3) (.node 1 (qi 1) (qi 3) (.leaf (.v (.int .i64 (-1)))) (.node 1 (qi 3) (qi 1) (.leaf (.v (.int .i64 1))) (.leaf qz))) DT.no) DT.no))) DT.no) DT.no)
theorem aBG(l:Value):aGH.ok tb0 l [] [] .nil 60 LG 78 [.agg [(qe 0),(qi 1)],.agg [(qe 2),(qi 3)]] []=true:=by kernel_rfl
theorem aLu(i d j e:Int)(w0:World)  :Same w0 78 #[(ev i d),(ev j e)] (cond (i==i) (cond (j==j) (cond (decide (i<j)) (cond (d==d) (cond (e==e) (cond (decide (d<e)) (.int .i64 (-1)) (cond (decide (e<d)) (.int .i64 (-1)) (.int .i64 (-1)))) (.bool false)) (.bool false)) (cond (decide (j<i)) (cond (d==d) (cond (e==e) (cond (decide (d<e)) (.int .i64 1) (cond (decide (e<d)) (.int .i64 1) (.int .i64 1))) (.bool false)) (.bool false)) (cond (d==d) (cond (e==e) (cond (decide (d<e)) (.int .i64 (-1)) (cond (decide (e<d)) (.int .i64 1) (.int .i64 0))) (.bool false)) (.bool false)))) (.bool false)) (.bool false)):=
 aG (aBG (.agg #[.int .i8 i,.int .i64 d,.int .i8 j,.int .i64 e])) (bW w0) (rH w0) .nil .nil (eG (by kernel_rfl:_=((((i==i)=true->(((j==j)=true->(((decide (i<j))=true->(((d==d)=true->(((e==e)=true->(((decide (d<e))=true->True)/\((decide (d<e))=false->(((decide (e<d))=true->True)/\((decide (e<d))=false->True)))))/\((e==e)=false->False)))/\((d==d)=false->False)))/\((decide (i<j))=false->(((decide (j<i))=true->(((d==d)=true->(((e==e)=true->(((decide (d<e))=true->True)/\((decide (d<e))=false->(((decide (e<d))=true->True)/\((decide (e<d))=false->True)))))/\((e==e)=false->False)))/\((d==d)=false->False)))/\((decide (j<i))=false->(((d==d)=true->(((e==e)=true->(((decide (d<e))=true->True)/\((decide (d<e))=false->(((decide (e<d))=true->True)/\((decide (e<d))=false->True)))))/\((e==e)=false->False)))/\((d==d)=false->False)))))))/\((j==j)=false->False)))/\((i==i)=false->False)))) (⟨fun h0=>⟨fun h1=>⟨fun h2=>⟨fun h3=>⟨fun h4=>⟨fun h5=>trivial,fun h5=>⟨fun h6=>trivial,fun h6=>trivial⟩⟩,fun h4=>(by simp only[aFZ,aAO,aFK,aD5]at *;omega)⟩,fun h3=>(by simp only[aFZ,aAO,aFK,aD5]at *;omega)⟩,fun h2=>⟨fun h3=>⟨fun h4=>⟨fun h5=>⟨fun h6=>trivial,fun h6=>⟨fun h7=>trivial,fun h7=>trivial⟩⟩,fun h5=>(by simp only[aFZ,aAO,aFK,aD5]at *;omega)⟩,fun h4=>(by simp only[aFZ,aAO,aFK,aD5]at *;omega)⟩,fun h3=>⟨fun h4=>⟨fun h5=>⟨fun h6=>trivial,fun h6=>⟨fun h7=>trivial,fun h7=>trivial⟩⟩,fun h5=>(by simp only[aFZ,aAO,aFK,aD5]at *;omega)⟩,fun h4=>(by simp only[aFZ,aAO,aFK,aD5]at *;omega)⟩⟩⟩,fun h1=>(by simp only[aFZ,aAO,aFK,aD5]at *;omega)⟩,fun h0=>(by simp only[aFZ,aAO,aFK,aD5]at *;omega)⟩)) (by kernel_rfl)
def aCC:DT:=(.node 1 (qe 0) (qe 2) (.leaf (.v (.int .i64 (-1)))) (.node 1 (qe 2) (qe 0) (.leaf (.v (.int .i64 1))) (.node 1 (qi 1) (qi 3) (.leaf (.v (.int .i64 (-1)))) (.node 1 (qi 3) (qi 1) (.leaf (.v (.int .i64 1))) (.leaf qz)))))
theorem YX(l:Value):aCC.ok tb0 l [] [] .nil 60 LG 69 [.agg [(qe 0),(qi 1)],.agg [(qe 2),(qi 3)]] []=true:=by kernel_rfl
theorem aHb(i d j e:Int)(w0:World)  :Same w0 69 #[(ev i d),(ev j e)] (cond (decide (i<j)) (.int .i64 (-1)) (cond (decide (j<i)) (.int .i64 1) (cond (decide (d<e)) (.int .i64 (-1)) (cond (decide (e<d)) (.int .i64 1) (.int .i64 0))))):=
 aG (YX (.agg #[.int .i8 i,.int .i64 d,.int .i8 j,.int .i64 e])) (bW w0) (rH w0) .nil .nil (aJ (by kernel_rfl)) (by kernel_rfl)
def aKw:DT:=(.node 0 (qe 0) q8 (.leaf qz) (.node 3 (qb 2) (qb 2) (.leaf qz) (.node 3 (qb 3) (qb 3) (.leaf qz) (.leaf (.v (.int .i64 5))))))
theorem aFf(l:Value):aKw.ok tb0 l [(40,.agg [(qe 0),(qi 1)],.agg [.v (.int .i8 1),qz],(qb 2)),(40,.agg [(qe 0),(qi 1)],.agg [.v (.int .i8 (-1)),qz],(qb 3))] [] .nil 60 LG 77 [.agg [(qe 0),(qi 1)]] []=true:=by kernel_rfl
theorem aOW(i d:Int)(x y:Bool)(w0:World)(hx:x=decide (i=1/\d=0))(hy:y=decide (i= -1/\d=0)):Same w0 77 #[(ev i d)] (cond (i==0) (.int .i64 0) (cond x (.int .i64 0) (cond y (.int .i64 0) (.int .i64 5)))):=
 aG (aFf (.agg #[.int .i8 i,.int .i64 d,.bool x,.bool y])) (bW w0) (rH w0) (.cons (nI _ _ _ _ _ hx) (fun _ _ _=>⟨by kernel_rfl,by kernel_rfl⟩) (.cons (nI _ _ _ _ _ hy) (fun _ _ _=>⟨by kernel_rfl,by kernel_rfl⟩) .nil)) .nil (aJ (by kernel_rfl)) (by kernel_rfl)
def aGC:DT:=(.node 0 (qe 0) q8 (.leaf qz) (.node 0 (qe 0) (.v (.int .i8 1)) (.node 0 (qi 1) qz (.leaf qz) (.leaf (.v (.int .i64 5)))) (.node 0 (qe 0) (.v (.int .i8 (-1))) (.node 0 (qi 1) qz (.leaf qz) (.leaf (.v (.int .i64 5)))) (.leaf (.v (.int .i64 5))))))
theorem aBB(l:Value):aGC.ok tb0 l [] [] .nil 60 LG 73 [.agg [(qe 0),(qi 1)]] []=true:=by kernel_rfl
theorem aLp(i d:Int)(w0:World)  :Same w0 73 #[(ev i d)] (cond (i==0) (.int .i64 0) (cond (i==1) (cond (d==0) (.int .i64 0) (.int .i64 5)) (cond (i==(-1)) (cond (d==0) (.int .i64 0) (.int .i64 5)) (.int .i64 5)))):=
 aG (aBB (.agg #[.int .i8 i,.int .i64 d])) (bW w0) (rH w0) .nil .nil (aJ (by kernel_rfl)) (by kernel_rfl)
def aKq:DT:=(.node 0 (qi 5) qz (.node 0 (qi 6) qz (.node 1 q8 (qe 0) (.leaf (.v (.int .i64 4))) (.node 1 (qe 2) q8 (.leaf (.v (.int .i64 4))) (.node 1 qz (qi 4) (.leaf (.v (.int .i64 12))) (.leaf qz)))) (.leaf (.v (.int .i64 5)))) (.leaf (.v (.int .i64 5))))
theorem aE9(l:Value):aKq.ok tb0 l [] [(77,[.agg [(qe 0),(qi 1)]],(qi 5)),(77,[.agg [(qe 2),(qi 3)]],(qi 6)),(78,[.agg [(qe 0),(qi 1)],.agg [(qe 2),(qi 3)]],(qi 4))] .nil 60 LG 49 [rK (qe 0) (qi 1) (qe 2) (qi 3)] []=true:=by kernel_rfl
theorem aOQ(a lo b hi t x y:Int)(w0:World) (H0:Same w0 77 #[(ev a lo)] (.int .i64 x))(H1:Same w0 77 #[(ev b hi)] (.int .i64 y))(H2:Same w0 78 #[(ev a lo),(ev b hi)] (.int .i64 t)):Same w0 49 #[(r4 a lo b hi)] (cond (x==0) (cond (y==0) (cond (decide (0<a)) (.int .i64 4) (cond (decide (b<0)) (.int .i64 4) (cond (decide (0<t)) (.int .i64 12) (.int .i64 0)))) (.int .i64 5)) (.int .i64 5)):=
 aG (aE9 (.agg #[.int .i8 a,.int .i64 lo,.int .i8 b,.int .i64 hi,.int .i64 t,.int .i64 x,.int .i64 y])) (bW w0) (rH w0) .nil (.cons H0 (.cons H1 (.cons H2 .nil))) (aJ (by kernel_rfl)) (by kernel_rfl)
def aGB:DT:=(.node 0 (qi 5) qz (.node 0 (qi 6) qz (.node 0 (qe 0) (.v (.int .i8 1)) (.leaf (.v (.int .i64 4))) (.node 0 (qe 2) (.v (.int .i8 (-1))) (.leaf (.v (.int .i64 4))) (.node 0 (qi 4) (.v (.int .i64 1)) (.leaf (.v (.int .i64 12))) (.leaf qz)))) (.leaf (.v (.int .i64 5)))) (.leaf (.v (.int .i64 5))))
theorem aBA(l:Value):aGB.ok tb0 l [] [(73,[.agg [(qe 0),(qi 1)]],(qi 5)),(73,[.agg [(qe 2),(qi 3)]],(qi 6)),(69,[.agg [(qe 0),(qi 1)],.agg [(qe 2),(qi 3)]],(qi 4))] .nil 60 LG 46 [rK (qe 0) (qi 1) (qe 2) (qi 3)] []=true:=by kernel_rfl
theorem aLo(a lo b hi t x y:Int)(w0:World) (H0:Same w0 73 #[(ev a lo)] (.int .i64 x))(H1:Same w0 73 #[(ev b hi)] (.int .i64 y))(H2:Same w0 69 #[(ev a lo),(ev b hi)] (.int .i64 t)):Same w0 46 #[(r4 a lo b hi)] (cond (x==0) (cond (y==0) (cond (a==1) (.int .i64 4) (cond (b==(-1)) (.int .i64 4) (cond (t==1) (.int .i64 12) (.int .i64 0)))) (.int .i64 5)) (.int .i64 5)):=
 aG (aBA (.agg #[.int .i8 a,.int .i64 lo,.int .i8 b,.int .i64 hi,.int .i64 t,.int .i64 x,.int .i64 y])) (bW w0) (rH w0) .nil (.cons H0 (.cons H1 (.cons H2 .nil))) (aJ (by kernel_rfl)) (by kernel_rfl)
def aKr:DT:=(.node 0 (qi 8) qz (.node 0 (qi 9) qz (.leaf qt) (.leaf qf)) (.leaf qf))
theorem aFa(l:Value):aKr.ok tb0 l [] [(49,[rK (qe 0) (qi 1) (qe 2) (qi 3)],(qi 8)),(49,[rK (qe 4) (qi 5) (qe 6) (qi 7)],(qi 9))] .nil 60 LG 103 yg2 []=true:=by kernel_rfl
theorem aOR(a lo b hi c lp d hp s t:Int)(w0:World) (H0:Same w0 49 #[(r4 a lo b hi)] (.int .i64 s))(H1:Same w0 49 #[(r4 c lp d hp)] (.int .i64 t)):Same w0 103 #[(r4 a lo b hi),(r4 c lp d hp)] (cond (s==0) (cond (t==0) (.bool true) (.bool false)) (.bool false)):=
 aG (aFa (.agg #[.int .i8 a,.int .i64 lo,.int .i8 b,.int .i64 hi,.int .i8 c,.int .i64 lp,.int .i8 d,.int .i64 hp,.int .i64 s,.int .i64 t])) (bW w0) (rH w0) .nil (.cons H0 (.cons H1 .nil)) (aJ (by kernel_rfl)) (by kernel_rfl)
def aGw:DT:=(.node 0 (qi 8) qz (.node 0 (qi 9) qz (.leaf qz) (.leaf (qi 9))) (.leaf (qi 8)))
theorem aBv(l:Value):aGw.ok tb0 l [] [(78,[.agg [(qe 0),(qi 1)],.agg [(qe 4),(qi 5)]],(qi 8)),(78,[.agg [(qe 2),(qi 3)],.agg [(qe 6),(qi 7)]],(qi 9))] .nil 60 LG 79 yg2 []=true:=by kernel_rfl
theorem aLj(a lo b hi c lp d hp s t:Int)(w0:World) (H0:Same w0 78 #[(ev a lo),(ev c lp)] (.int .i64 s))(H1:Same w0 78 #[(ev b hi),(ev d hp)] (.int .i64 t)):Same w0 79 #[(r4 a lo b hi),(r4 c lp d hp)] (cond (s==0) (cond (t==0) (.int .i64 0) (.int .i64 t)) (.int .i64 s)):=
 aG (aBv (.agg #[.int .i8 a,.int .i64 lo,.int .i8 b,.int .i64 hi,.int .i8 c,.int .i64 lp,.int .i8 d,.int .i64 hp,.int .i64 s,.int .i64 t])) (bW w0) (rH w0) .nil (.cons H0 (.cons H1 .nil)) (aJ (by kernel_rfl)) (by kernel_rfl)
def aNs:DT:=(.node 0 (qe 0) q8 (.node 1 (qi 1) yg1 (.leaf (.aS [(.agg [q8,yg1]),qz])) (.leaf (.aS [(.agg [q8,qz]),(.v (.int .i64 15))]))) (.node 3 (qb 2) (qb 2) (.leaf yg0) (.node 3 (qb 3) (qb 3) (.leaf yg0) (.leaf (.aS [(.agg [q8,qz]),(.v (.int .i64 5))])))))
theorem aIf(l:Value):aNs.ok tb0 l [(40,.agg [(qe 0),(qi 1)],.agg [.v (.int .i8 1),qz],(qb 2)),(40,.agg [(qe 0),(qi 1)],.agg [.v (.int .i8 (-1)),qz],(qb 3))] [] .nil 60 LG 104 [.agg [(qe 0),(qi 1)]] []=true:=by kernel_rfl
theorem aR2(i d:Int)(x y:Bool)(w0:World)(hx:x=decide (i=1/\d=0))(hy:y=decide (i= -1/\d=0)):Same w0 104 #[(ev i d)] (cond (i==0) (cond (decide (d<(IntKind.i64.wrap (d+1)))) (.tuple #[(ev 0 (IntKind.i64.wrap (d+1))),(.int .i64 0)]) (.tuple #[(ev 0 0),(.int .i64 15)])) (cond x (.tuple #[(ev i d),(.int .i64 0)]) (cond y (.tuple #[(ev i d),(.int .i64 0)]) (.tuple #[(ev 0 0),(.int .i64 5)])))):=
 aG (aIf (.agg #[.int .i8 i,.int .i64 d,.bool x,.bool y])) (bW w0) (rH w0) (.cons (nI _ _ _ _ _ hx) (fun _ _ _=>⟨by kernel_rfl,by kernel_rfl⟩) (.cons (nI _ _ _ _ _ hy) (fun _ _ _=>⟨by kernel_rfl,by kernel_rfl⟩) .nil)) .nil (aJ (by kernel_rfl)) (by kernel_rfl)
def aKp:DT:=(.node 1 (qi 14) qz (.node 1 qz (qi 16) (.node 0 (qi 13) qz (.node 3 (qb 18) (qb 18) (.leaf qt) (.leaf qf)) (.leaf qf)) (.leaf qt)) (.node 1 qz (qi 15) (.node 0 (qi 10) qz (.node 3 (qb 17) (qb 17) (.leaf qt) (.leaf qf)) (.leaf qf)) (.leaf qt)))
theorem aE8(l:Value):aKp.ok tb0 l [(40,.agg [(qe 8),(qi 9)],.agg [(qe 4),(qi 5)],(qb 17)),(40,.agg [(qe 11),(qi 12)],.agg [(qe 0),(qi 1)],(qb 18))] [(103,yg2,qt),(78,[.agg [(qe 4),(qi 5)],.agg [(qe 0),(qi 1)]],(qi 14)),(78,[.agg [(qe 4),(qi 5)],.agg [(qe 2),(qi 3)]],(qi 15)),(78,[.agg [(qe 0),(qi 1)],.agg [(qe 6),(qi 7)]],(qi 16)),(104,[.agg [(qe 2),(qi 3)]],.aS [.agg [(qe 8),(qi 9)],(qi 10)]),(104,[.agg [(qe 6),(qi 7)]],.aS [.agg [(qe 11),(qi 12)],(qi 13)])] .nil 60 LG 80 yg2 []=true:=by kernel_rfl
theorem aOP(a lo b hi c lp d hp j e f k g h r s t:Int)(x y:Bool)(w0:World)(hx:x=decide (j=c/\e=lp))(hy:y=decide (k=a/\g=lo))(H0:Same w0 103 #[(r4 a lo b hi),(r4 c lp d hp)] (.bool true))(H1:Same w0 78 #[(ev c lp),(ev a lo)] (.int .i64 r))(H2:Same w0 78 #[(ev c lp),(ev b hi)] (.int .i64 s))(H3:Same w0 78 #[(ev a lo),(ev d hp)] (.int .i64 t))(H4:Same w0 104 #[(ev b hi)] (.tuple #[(ev j e),(.int .i64 f)]))(H5:Same w0 104 #[(ev d hp)] (.tuple #[(ev k g),(.int .i64 h)])):Same w0 80 #[(r4 a lo b hi),(r4 c lp d hp)] (cond (decide (r<0)) (cond (decide (0<t)) (cond (h==0) (cond y (.bool true) (.bool false)) (.bool false)) (.bool true)) (cond (decide (0<s)) (cond (f==0) (cond x (.bool true) (.bool false)) (.bool false)) (.bool true))):=
 aG (aE8 (.agg #[.int .i8 a,.int .i64 lo,.int .i8 b,.int .i64 hi,.int .i8 c,.int .i64 lp,.int .i8 d,.int .i64 hp,.int .i8 j,.int .i64 e,.int .i64 f,.int .i8 k,.int .i64 g,.int .i64 h,.int .i64 r,.int .i64 s,.int .i64 t,.bool x,.bool y])) (bW w0) (rH w0) (.cons (nI _ _ _ _ _ hx) (fun _ _ _=>⟨by kernel_rfl,by kernel_rfl⟩) (.cons (nI _ _ _ _ _ hy) (fun _ _ _=>⟨by kernel_rfl,by kernel_rfl⟩) .nil)) (.cons H0 (.cons H1 (.cons H2 (.cons H3 (.cons H4 (.cons H5 .nil)))))) (aJ (by kernel_rfl)) (by kernel_rfl)
def aNr:DT:=(.node 0 (qe 2) q8 (.node 0 (qe 4) q8 (.node 1 (qi 3) (.v (.int .i64 9223372036854775807)) (.node 0 (aN 1 .i64 [(qi 3),(.v (.int .i64 1))]) (qi 5) (.leaf qt) (.leaf qf)) (.leaf qf)) (.leaf qf)) (.leaf qf))
theorem aIe(l:Value):aNr.ok tb0 l [] [] .nil 60 LG 93 yg2 []=true:=by kernel_rfl
theorem aR1(a lo b hi c lp d hp:Int)(w0:World)  :Same w0 93 #[(r4 a lo b hi),(r4 c lp d hp)] (cond (b==0) (cond (c==0) (cond (decide (hi<9223372036854775807)) (cond ((IntKind.i64.wrap (hi+1))==lp) (.bool true) (.bool false)) (.bool false)) (.bool false)) (.bool false)):=
 aG (aIe (.agg #[.int .i8 a,.int .i64 lo,.int .i8 b,.int .i64 hi,.int .i8 c,.int .i64 lp,.int .i8 d,.int .i64 hp])) (bW w0) (rH w0) .nil .nil (aJ (by kernel_rfl)) (by kernel_rfl)
def aNq:DT:=(.node 0 (qe 4) (.v (.int .i8 (-1))) (.node 0 (qe 0) (.v (.int .i8 (-1))) (.leaf qt) (.leaf qf)) (.node 0 (qe 0) (.v (.int .i8 (-1))) (.node 0 (qe 2) (.v (.int .i8 1)) (.leaf qt) (.node 1 (qi 3) (qi 5) (.leaf qf) (.leaf qt))) (.node 1 (qi 5) (qi 1) (.leaf qf) (.node 0 (qe 2) (.v (.int .i8 1)) (.leaf qt) (.node 1 (qi 3) (qi 5) (.leaf qf) (.leaf qt))))))
theorem aId(l:Value):aNq.ok tb0 l [] [] .nil 60 LG 121 yg2 []=true:=by kernel_rfl
theorem aR0(a lo b hi c lp d hp:Int)(w0:World)  :Same w0 121 #[(r4 a lo b hi),(r4 c lp d hp)] (cond (c==(-1)) (cond (a==(-1)) (.bool true) (.bool false)) (cond (a==(-1)) (cond (b==1) (.bool true) (cond (decide (hi<lp)) (.bool false) (.bool true))) (cond (decide (lp<lo)) (.bool false) (cond (b==1) (.bool true) (cond (decide (hi<lp)) (.bool false) (.bool true)))))):=
 aG (aId (.agg #[.int .i8 a,.int .i64 lo,.int .i8 b,.int .i64 hi,.int .i8 c,.int .i64 lp,.int .i8 d,.int .i64 hp])) (bW w0) (rH w0) .nil .nil (aJ (by kernel_rfl)) (by kernel_rfl)
def aKs:DT:=(.node 3 (qb 8) (qb 8) (.leaf qt) (.leaf (qb 9)))
theorem aFb(l:Value):aKs.ok tb0 l [] [(121,yg2,(qb 8)),(121,yg3,(qb 9))] .nil 60 LG 92 yg2 []=true:=by kernel_rfl
theorem aOS(a lo b hi c lp d hp:Int)(x y:Bool)(w0:World) (H0:Same w0 121 #[(r4 a lo b hi),(r4 c lp d hp)] (.bool x))(H1:Same w0 121 #[(r4 c lp d hp),(r4 a lo b hi)] (.bool y)):Same w0 92 #[(r4 a lo b hi),(r4 c lp d hp)] (cond x (.bool true) (.bool y)):=
 aG (aFb (.agg #[.int .i8 a,.int .i64 lo,.int .i8 b,.int .i64 hi,.int .i8 c,.int .i64 lp,.int .i8 d,.int .i64 hp,.bool x,.bool y])) (bW w0) (rH w0) .nil (.cons H0 (.cons H1 .nil)) (aJ (by kernel_rfl)) (by kernel_rfl)
def aGA:DT:=(.node 3 (qb 8) (qb 8) (.leaf qt) (.node 3 (qb 9) (qb 9) (.leaf qt) (.leaf (qb 10))))
theorem aBz(l:Value):aGA.ok tb0 l [] [(92,yg2,(qb 8)),(93,yg2,(qb 9)),(93,yg3,(qb 10))] .nil 60 LG 70 yg2 []=true:=by kernel_rfl
theorem aLn(a lo b hi c lp d hp:Int)(x y z:Bool)(w0:World) (H0:Same w0 92 #[(r4 a lo b hi),(r4 c lp d hp)] (.bool x))(H1:Same w0 93 #[(r4 a lo b hi),(r4 c lp d hp)] (.bool y))(H2:Same w0 93 #[(r4 c lp d hp),(r4 a lo b hi)] (.bool z)):Same w0 70 #[(r4 a lo b hi),(r4 c lp d hp)] (cond x (.bool true) (cond y (.bool true) (.bool z))):=
 aG (aBz (.agg #[.int .i8 a,.int .i64 lo,.int .i8 b,.int .i64 hi,.int .i8 c,.int .i64 lp,.int .i8 d,.int .i64 hp,.bool x,.bool y,.bool z])) (bW w0) (rH w0) .nil (.cons H0 (.cons H1 (.cons H2 .nil))) (aJ (by kernel_rfl)) (by kernel_rfl)
end Sk
end
section
namespace Sk
def endOk(i d:Int):Bool:=decide (i=0)||((decide (i=1)||decide (i= -1))&&decide (d=0))
def bK(i d j e:Int):Int:=if i<j then -1 else if j<i then 1 else if d<e then -1 else if e<d then 1 else 0
def dM(a lo b hi:Int):Int:=if endOk a lo=false\/endOk b hi=false then 5 else if a=1\/b= -1 then 4 else if 0<bK a lo b hi then 12 else 0
structure Right(a lo b hi:Int):Prop where
 low:(a= -1/\lo=0)\/a=0
 high:(b=1/\hi=0)\/b=0
 le:a=0->b=0->lo<=hi
theorem vO{a lo b hi:Int}(h:dM a lo b hi=0):Right a lo b hi:=by
 unfold dM at h
 by_cases h1:endOk a lo=false\/endOk b hi=false
 . rw[aFV h1]at h;cases h
 rw [aB9 h1]at h
 by_cases h2:a=1\/b= -1
 . rw[aFV h2]at h;cases h
 rw [aB9 h2]at h
 by_cases h3:0<bK a lo b hi
 . rw[aFV h3]at h;cases h
 rw[aB9 h3]at h;simp only[not_or,Bool.not_eq_false,endOk,aJj,aFU,aFK]at h1 h2;unfold bK at h3;refine⟨by omega,by omega,fun ha hb=>?_⟩;subst ha hb;rw[aB9 (by decide),aB9 (by decide)]at h3
 by_cases h4:lo<hi
 . omega
 rw[aB9 h4]at h3
 by_cases h5:hi<lo
 . rw[aFV h5]at h3;omega
 omega
theorem QZ{a lo b hi:Int}(h:Right a lo b hi):dM a lo b hi=0:=by
 obtain⟨h1,h2,h3⟩:=h;unfold dM bK endOk;rcases h1 with⟨rfl,rfl⟩|rfl<;>rcases h2 with⟨rfl,rfl⟩|rfl<;>simp;have:=h3 rfl rfl;omega
theorem UE(a lo b hi:Int):dM a lo b hi=0\/dM a lo b hi=4\/dM a lo b hi=5\/dM a lo b hi=12:=by
 unfold dM
 (repeat' split)<;>omega
def KI(a lo b hi c lp d hp:Int):Int:=if bK a lo c lp=0 then bK b hi d hp else bK a lo c lp
def JR(a lo b hi c lp d hp:Int):Bool:=
 if bK c lp a lo<0 then decide (bK a lo d hp<=0)||(decide (d=0)&&decide (a=0)&&decide (hp+1=lo))
 else decide (bK c lp b hi<=0)||(decide (b=0)&&decide (c=0)&&decide (hi+1=lp))
def aQv(a lo b hi x:Int):Bool:=(decide (a= -1)||decide (lo<=x))&&(decide (b=1)||decide (x<=hi))
def nK(a lo b hi c lp:Int):Bool:=if c= -1 then decide (a= -1)else aQv a lo b hi lp
def aGu(b hi c lp:Int):Bool:=decide (b=0)&&decide (c=0)&&decide (hi<9223372036854775807)&&decide (hi+1=lp)
def JQ(a lo b hi c lp d hp:Int):Bool:=nK a lo b hi c lp||nK c lp d hp a lo||aGu b hi c lp||aGu d hp a lo
def aGm(a lo b hi c lp d hp:Int):Bool:=decide (0<KI a lo b hi c lp d hp)||JR a lo b hi c lp d hp
def badR(a lo b hi c lp d hp:Int):Bool:=decide (0<=bK b hi c lp)||JQ a lo b hi c lp d hp
theorem bad_eq{a lo b hi c lp d hp:Int}(h:Right a lo b hi)(g:Right c lp d hp)(h0: -9223372036854775808<=lo)(h1:lo<9223372036854775808)(h2: -9223372036854775808<=hi)(h3:hi<9223372036854775808)
 (g0: -9223372036854775808<=lp) (g1:lp<9223372036854775808) (g2: -9223372036854775808<=hp) (g3:hp<9223372036854775808):aGm a lo b hi c lp d hp=badR a lo b hi c lp d hp:=by
 obtain⟨x1,x2,x3⟩:=h;obtain⟨y1,y2,y3⟩:=g;rw[aKX];unfold aGm badR JR JQ KI bK nK aQv aGu;rcases x1 with⟨rfl,rfl⟩|rfl<;>rcases x2 with⟨rfl,rfl⟩|rfl<;>rcases y1 with⟨rfl,rfl⟩|rfl<;>rcases y2 with⟨rfl,rfl⟩|rfl<;>simp at x3 y3 ⊢ <;>(repeat' split)<;>(try simp)<;>(try omega)
end Sk
end
section
namespace Sk
def scan(f:Nat->Int):Nat->Nat->Int
 |0,_=>0
 |k+1,i=>if f i=0 then scan f k (i+1)else f i
theorem aEC(f:Nat->Int)(i:Nat):scan f 0 i=0:=rfl
theorem scan_ok{f:Nat->Int}{k i:Nat}(h:f i=0):scan f (k+1) i=scan f k (i+1):=by
 rw[scan,aFV h]
theorem scan_bad{f:Nat->Int}{k i:Nat}(h:f i≠0):scan f (k+1) i=f i:=by
 rw[scan,aB9 h]
theorem KE{f g:Nat->Int}: ∀(k i:Nat),(∀j,j<i->f j=0)->(∀i,(∀j,j<i->f j=0)->f i=g i)->scan f k i=scan g k i
 |0,i,_,_=>rfl
 |k+1,i,h,hh=>by
  have e:=hh i h
  by_cases h0:f i=0
  . rw[scan_ok h0,scan_ok (e ▸ h0)];refine KE k (i+1) (fun j hj=>?_) hh
    by_cases e2:j=i
    . rw[e2];exact h0
    exact h j (by omega)
  rw[scan_bad h0,scan_bad (e ▸ h0)];exact e
structure R4 where
 a:Int
 lo:Int
 b:Int
 hi:Int
def R4.err(r:R4):Int:=dM r.a r.lo r.b r.hi
structure R4.Bd(r:R4):Prop where
 h0: -9223372036854775808<=r.lo
 h1:r.lo<9223372036854775808
 h2: -9223372036854775808<=r.hi
 h3:r.hi<9223372036854775808
def SX(f:Nat->R4)(i:Nat):Int:=if(f i).err=0 then(if 0<i/\aGm (f (i - 1)).a (f (i - 1)).lo (f (i - 1)).b (f (i - 1)).hi (f i).a (f i).lo (f i).b (f i).hi=true then 12 else 0)else(f i).err
def atR(f:Nat->R4)(i:Nat):Int:=if(f i).err=0 then(if 0<i/\badR (f (i - 1)).a (f (i - 1)).lo (f (i - 1)).b (f (i - 1)).hi (f i).a (f i).lo (f i).b (f i).hi=true then 12 else 0)else(f i).err
theorem SQ{f:Nat->R4}{i:Nat}(h:SX f i=0):(f i).err=0:=by
 unfold SX at h
 by_cases e:(f i).err=0
 . exact e
 rw[aB9 e]at h;exact h
theorem at_eq{f:Nat->R4}{i:Nat}(hb: ∀j,(f j).Bd)(h: ∀j,j<i->SX f j=0):SX f i=atR f i:=by
 unfold SX atR
 by_cases e:(f i).err=0
 . rw[aFV e,aFV e]
   by_cases hi:0<i
   . have e2:=SQ (h (i - 1) (by omega));rw[bad_eq (vO e2) (vO e) (hb _).h0 (hb _).h1 (hb _).h2 (hb _).h3 (hb _).h0 (hb _).h1 (hb _).h2 (hb _).h3]
   rw[aB9 (fun h=>hi h.1),aB9 (fun h=>hi h.1)]
 rw[aB9 e,aB9 e]
theorem aPt{f:Nat->R4}(hb: ∀j,(f j).Bd)(n:Nat):scan (SX f) n 0=scan (atR f) n 0:=
 KE n 0 (fun j hj=>by omega) (fun i h=>at_eq hb h)
def mG(f:Nat->R4)(n:Nat):Int:=if 4096<n then 3 else scan (SX f) n 0
end Sk
end
section
open Go.RowKit Go.Lib
namespace Sk
def l4(a lo b hi:Int):List Value:=[.int .i8 a,.int .i64 lo,.int .i8 b,.int .i64 hi]
theorem kG(i d j e:Int)(w:World):
 Calls Tryz.prog 78 #[ev i d,ev j e] w fun r w'=>r=.returned (.int .i64 (bK i d j e))/\Below w.heap.size w w':=
 rJ (aLu i d j e w) (by unfold bK;simp only[aV8,cond_true,aWv];(repeat' split)<;>first|rfl|(exfalso;omega))
theorem FN(i d j e:Int)(w:World):
 Calls Tryz.prog 69 #[ev i d,ev j e] w fun r w'=>r=.returned (.int .i64 (bK i d j e))/\Below w.heap.size w w':=
 rJ (aHb i d j e w) (by unfold bK;simp only[aWv];(repeat' split)<;>rfl)
def eck(i d:Int):Int:=if endOk i d then 0 else 5
theorem V4(i d:Int):(eck i d=0/\(i=0\/i=1\/i= -1))\/eck i d=5:=by
 unfold eck endOk;simp only[aJj,aFU,aFK]
 split<;>omega
theorem aGc(i d j e:Int):bK i d j e=0\/bK i d j e=1\/bK i d j e= -1:=by unfold bK;(repeat' split)<;>omega
theorem X5{a lo b hi:Int}:dM a lo b hi=if eck a lo≠0\/eck b hi≠0 then 5 else if a=1\/b= -1 then 4 else if 0<bK a lo b hi then 12 else 0:=by
 unfold dM eck
 cases endOk a lo<;>cases endOk b hi<;>simp
theorem BU(i d:Int)(w:World):Calls Tryz.prog 77 #[ev i d] w fun r w'=>r=.returned (.int .i64 (eck i d))/\Below w.heap.size w w':=
 rJ (aOW i d _ _ w rfl rfl) (by unfold eck endOk;simp only[aG3,aFZ,aFU,aJj,aFK];(repeat' split)<;>first|rfl|(exfalso;omega))
theorem yX(i d:Int)(w:World):Calls Tryz.prog 73 #[ev i d] w fun r w'=>r=.returned (.int .i64 (eck i d))/\Below w.heap.size w w':=
 rJ (aLp i d w) (by unfold eck endOk;simp only[aG3,aFZ,aFU,aJj,aFK];(repeat' split)<;>first|rfl|(exfalso;omega))
theorem lQ(a lo b hi:Int)(w:World):
 Calls Tryz.prog 49 #[r4 a lo b hi] w fun r w'=>r=.returned (.int .i64 (dM a lo b hi))/\Below w.heap.size w w':=
 rJ (aOQ a lo b hi _ _ _ w (fun W _=>BU a lo W) (fun W _=>BU b hi W) (fun W _=>kG a lo b hi W)) (by
  have h1:=V4 a lo;have h2:=V4 b hi;rw[X5];simp only[aG3,aFZ,aFK];(repeat' split)<;>first|rfl|(exfalso;omega))
theorem yV(a lo b hi:Int)(w:World):
 Calls Tryz.prog 46 #[r4 a lo b hi] w fun r w'=>r=.returned (.int .i64 (dM a lo b hi))/\Below w.heap.size w w':=
 rJ (aLo a lo b hi _ _ _ w (fun W _=>yX a lo W) (fun W _=>yX b hi W) (fun W _=>FN a lo b hi W)) (by
  have h1:=V4 a lo;have h2:=V4 b hi;have h3:=aGc a lo b hi;rw[X5];simp only[aG3,aFZ];(repeat' split)<;>first|rfl|(exfalso;omega))
theorem aEN(a lo b hi c lp d hp:Int)(w:World):
 Calls Tryz.prog 103 #[r4 a lo b hi,r4 c lp d hp] w fun r w'=>r=.returned (.bool (decide (dM a lo b hi=0)&&decide (dM c lp d hp=0)))/\Below w.heap.size w w':=
 rJ (aOR a lo b hi c lp d hp _ _ w (fun W _=>lQ a lo b hi W) (fun W _=>lQ c lp d hp W)) (by
  by_cases h:dM a lo b hi=0<;>by_cases g:dM c lp d hp=0<;>simp[aG3,h,g])
theorem aBi(a lo b hi c lp d hp:Int)(w:World):
 Calls Tryz.prog 79 #[r4 a lo b hi,r4 c lp d hp] w fun r w'=>r=.returned (.int .i64 (KI a lo b hi c lp d hp))/\Below w.heap.size w w':=
 rJ (aLj a lo b hi c lp d hp _ _ w (fun W _=>kG a lo c lp W) (fun W _=>kG b hi d hp W)) (by
  unfold KI;by_cases h:bK a lo c lp=0<;>by_cases g:bK b hi d hp=0<;>simp[aG3,h,g])
theorem NG(i d:Int)(w:World)(h0: -9223372036854775808<=d)(h1:d<9223372036854775808): ∃j e er,Same w 104 #[ev i d] (.tuple #[ev j e,.int .i64 er])/\(i=0->d<9223372036854775807->er=0/\j=0/\e=d+1):=by
 have h:=aR2 i d _ _ w rfl rfl
 by_cases c:i=0
 . subst c
   by_cases g:d<9223372036854775807
   . have e:IntKind.i64.wrap (d+1)=d+1:=by rw[aGZ];omega
     exact⟨0,d+1,0,DC h (by rw[e];simp[ev,show d<d+1 by omega]),fun _ _=>⟨rfl,rfl,rfl⟩⟩
   obtain rfl:d=9223372036854775807:=by omega
   exact⟨0,0,15,h,fun _ e=>by omega⟩
 by_cases x:i=1/\d=0
 . exact⟨i,d,0,DC h (by simp[x]),fun e=>absurd e c⟩
 by_cases y:i= -1/\d=0
 . exact⟨i,d,0,DC h (by simp[y]),fun e=>absurd e c⟩
 exact⟨0,0,5,DC h (by simp[aG3,c,x,y]),fun e=>absurd e c⟩
theorem JO{a lo d hp k g h:Int}(ha:(a= -1/\lo=0)\/a=0)(hd:(d=1/\hp=0)\/d=0)(l1:lo<9223372036854775808)(n:d=0->hp<9223372036854775807->h=0/\k=0/\g=hp+1):
 cond (decide (0<bK a lo d hp)) (cond (h==0) (cond (decide (k=a/\g=lo)) (Value.bool true) (.bool false)) (.bool false)) (.bool true)=.bool (decide (bK a lo d hp<=0)||(decide (d=0)&&decide (a=0)&&decide (hp+1=lo))):=by
 by_cases q:0<bK a lo d hp
 . obtain⟨rfl,rfl,hl⟩:a=0/\d=0/\hp<lo:=by unfold bK at q;(repeat' split at q)<;>omega
   obtain⟨rfl,rfl,rfl⟩:=n rfl (by omega)
   by_cases e:hp+1=lo<;>simp[aG3,q,e,show ¬bK 0 lo 0 hp<=0 by omega]
 simp[q,show bK a lo d hp<=0 by omega]
theorem aEp(a lo b hi c lp d hp:Int)(w:World)(h:Right a lo b hi)(g:Right c lp d hp)(h0: -9223372036854775808<=lo)(h1:lo<9223372036854775808)(h2: -9223372036854775808<=hi)(h3:hi<9223372036854775808)
 (g0: -9223372036854775808<=lp) (g1:lp<9223372036854775808) (g2: -9223372036854775808<=hp) (g3:hp<9223372036854775808):
 Calls Tryz.prog 80 #[r4 a lo b hi,r4 c lp d hp] w fun r w'=>r=.returned (.bool (JR a lo b hi c lp d hp))/\Below w.heap.size w w':=by
 obtain⟨j,e,f,N1,n1⟩:=NG b hi w h2 h3;obtain⟨k,g',h',N2,n2⟩:=NG d hp w g2 g3;refine rJ (aOP a lo b hi c lp d hp j e f k g' h' _ _ _ _ _ w rfl rfl (fun W _=>?_) (fun W _=>kG c lp a lo W) (fun W _=>kG c lp b hi W) (fun W _=>kG a lo d hp W) N1 N2) ?_
 . have:=aEN a lo b hi c lp d hp W;rwa[QZ h,QZ g]at this
 rw[JO h.low g.high h1 n2,JO g.low h.high g1 n1];unfold JR;rw[aWv]
 split<;>rfl
theorem aBo(a lo b hi c lp d hp:Int)(w:World)(h2: -9223372036854775808<=hi)(h3:hi<9223372036854775808)(g2: -9223372036854775808<=hp)(g3:hp<9223372036854775808):
 Calls Tryz.prog 70 #[r4 a lo b hi,r4 c lp d hp] w fun r w'=>r=.returned (.bool (JQ a lo b hi c lp d hp))/\Below w.heap.size w w':=by
 have B: ∀(a lo b hi c lp d hp:Int) W,Calls Tryz.prog 121 #[r4 a lo b hi,r4 c lp d hp] W fun r w'=>r=.returned (.bool (nK a lo b hi c lp))/\Below W.heap.size W w':=fun a lo b hi c lp d hp W=>
  rJ (aR0 a lo b hi c lp d hp W) (by unfold nK aQv;simp only[aG3,aFZ,aFK];(repeat' split)<;>simp_all<;>omega)
 have A: ∀(a lo b hi c lp d hp:Int) W,-9223372036854775808<=hi->hi<9223372036854775808->Calls Tryz.prog 93 #[r4 a lo b hi,r4 c lp d hp] W fun r w'=>r=.returned (.bool (aGu b hi c lp))/\Below W.heap.size W w':=fun a lo b hi c lp d hp W h0 h1=>
  rJ (aR1 a lo b hi c lp d hp W) (by
   unfold aGu
   by_cases e:hi<9223372036854775807
   . rw[show IntKind.i64.wrap (hi+1)=hi+1 by rw[aGZ];omega]
     by_cases b=0<;>by_cases c=0<;>by_cases hi+1=lp<;>simp_all [aG3]
   have e2:decide (hi<9223372036854775807)=false:=aCw e;rw[e2]
   by_cases b=0<;>by_cases c=0<;>simp_all)
 refine rJ (aLn a lo b hi c lp d hp _ _ _ w (fun W _=>rJ (aOS a lo b hi c lp d hp _ _ W (fun V _=>B _ _ _ _ _ _ _ _ V) (fun V _=>B _ _ _ _ _ _ _ _ V)) (u:=.bool (nK a lo b hi c lp||nK c lp d hp a lo)) (by cases nK a lo b hi c lp<;>rfl)) (fun W _=>A _ _ _ _ _ _ _ _ W h2 h3) (fun W _=>A _ _ _ _ _ _ _ _ W g2 g3)) ?_;unfold JQ
 cases nK a lo b hi c lp<;>cases nK c lp d hp a lo<;>cases aGu b hi c lp<;>rfl
end Sk
end
section
open Go.RowKit Go.Lib
namespace Sk
open Un (ba bt ri rb)
open Bk (Rw)
theorem aHr{P:Program}{md:Region.Mode}{ops:Array Oper}{Q:Exit->Act->World->Prop}{S:World->Prop}(i d:Nat){oi:Oper}{v:Value}{fuel:Nat}{listed:Array Bool}{a:Act}{w:World}(hi:ops[i]? =some oi)(hd:oi.dst=some d)
 (hs:Region.noSelect ops=true) (hf:Region.free md ops listed i=true) (hr:(Region.ready md ops listed).contains i=true)
 (hQ: ∀c a w,Q (.panic c) (a.put oi.dst v) w->Q (.panic c) a w) (hy:YieldsIf P ops S oi v a) (hS:S w)
 (h:wpAnyH P md ops Q S fuel (listed.setIfInBounds i true) (a.put (some d) v) w):wpAnyH P md ops Q S (fuel+1) listed a w:=
 wpAnyH_take hi hs hf hr hQ hy hS (by rw[hd];exact h)
theorem lM{P:Program}{md:Region.Mode}{ops:Array Oper}{Q:Exit->Act->World->Prop}{S:World->Prop}(i d:Nat){oi:Oper}{fuel:Nat}{listed:Array Bool}{a:Act}{w:World}(hS:S w)
 (h:wpAnyH P md ops Q S fuel (listed.setIfInBounds i true) (a.put (some d) undef) w) (hi:ops[i]? =some oi:=by rfl) (hd:oi.dst=some d:=by rfl)
 (hs:Region.noSelect ops=true:=by kernel_rfl) (hf:Region.free md ops listed i=true:=by kernel_rfl) (hr:(Region.ready md ops listed).contains i=true:=by kernel_rfl)
 (hQ: ∀c a w,Q (.panic c) (a.put oi.dst undef) w->Q (.panic c) a w:=by exact fun _ _ _ h=>h) (hy:YieldsIf P ops S oi undef a:=by exact Or.inr ⟨by rfl,rfl⟩):wpAnyH P md ops Q S (fuel+1) listed a w:=
 aHr i d hi hd hs hf hr hQ hy hS h
theorem sW{P:Program}{md:Region.Mode}{ops:Array Oper}{Q:Exit->Act->World->Prop}{S:World->Prop}(i d:Nat)(v:Value){oi:Oper}{fuel:Nat}{listed:Array Bool}{a:Act}{w:World}(hS:S w)
 (hy: ∀w,S w->(execOp a.eval oi).run P w=.ok (.value v) w) (h:wpAnyH P md ops Q S fuel (listed.setIfInBounds i true) (a.put (some d) v) w) (hi:ops[i]? =some oi:=by rfl) (hd:oi.dst=some d:=by rfl)
 (hs:Region.noSelect ops=true:=by kernel_rfl) (hf:Region.free md ops listed i=true:=by kernel_rfl) (hr:(Region.ready md ops listed).contains i=true:=by kernel_rfl)
 (hQ: ∀c a w,Q (.panic c) (a.put oi.dst v) w->Q (.panic c) a w:=by exact fun _ _ _ h=>h) (hw:Region.wanted oi (yielded ops a.tmps)=true:=by rfl):wpAnyH P md ops Q S (fuel+1) listed a w:=
 aHr i d hi hd hs hf hr hQ (Or.inl ⟨hw,hy⟩) hS h
def wZ(W:World)(bs:Option Addr)(n:Nat)(f:Nat->R4):Prop:= ∀i,i<n-> ∃g o,bs=some ⟨g,o,none⟩/\g<W.heap.size/\W.cell? ⟨g,o+i * 4,none⟩=some (.int .i8 (f i).a)/\W.cell? ⟨g,o+i * 4+1,none⟩=some (.int .i64 (f i).lo)/\W.cell? ⟨g,o+i * 4+2,none⟩=some (.int .i8 (f i).b)/\W.cell? ⟨g,o+i * 4+3,none⟩=some (.int .i64 (f i).hi)
theorem wZ.later{W W2:World}{bs:Option Addr}{n:Nat}{f:Nat->R4}(h:wZ W bs n f)(hb:Below W.heap.size W W2):wZ W2 bs n f:=fun i hi=>by
 obtain⟨g,o,e,hg,c0,c1,c2,c3⟩:=h i hi;exact⟨g,o,e,by have:=hb.size;omega,(hb.cell (p:=⟨g,_,none⟩) hg).trans c0,(hb.cell (p:=⟨g,_,none⟩) hg).trans c1,(hb.cell (p:=⟨g,_,none⟩) hg).trans c2,(hb.cell (p:=⟨g,_,none⟩) hg).trans c3⟩
structure Ms(g o k:Nat)(pa pl pb ph:Int)(q:Nat)(ca cl cb ch:Int)(w W:World):Prop where
 p:g<W.heap.size/\W.cell? ⟨g,o+k * 4,none⟩=some (.int .i8 pa)/\W.cell? ⟨g,o+k * 4+1,none⟩=some (.int .i64 pl)/\W.cell? ⟨g,o+k * 4+2,none⟩=some (.int .i8 pb)/\W.cell? ⟨g,o+k * 4+3,none⟩=some (.int .i64 ph)
 c:Rw q (l4 ca cl cb ch) w W
theorem Ms.later{g o k:Nat}{pa pl pb ph:Int}{q:Nat}{ca cl cb ch:Int}{w W W2:World}(h:Ms g o k pa pl pb ph q ca cl cb ch w W)(hb:Below W.heap.size W W2):Ms g o k pa pl pb ph q ca cl cb ch w W2:=by
 obtain⟨⟨hg,c0,c1,c2,c3⟩,hc⟩:=h;exact⟨⟨by have:=hb.size;omega,(hb.cell (p:=⟨g,_,none⟩) hg).trans c0,(hb.cell (p:=⟨g,_,none⟩) hg).trans c1,(hb.cell (p:=⟨g,_,none⟩) hg).trans c2,(hb.cell (p:=⟨g,_,none⟩) hg).trans c3⟩,hc.later hb⟩
theorem Ms.S{g o k:Nat}{pa pl pb ph:Int}{q:Nat}{ca cl cb ch:Int}{w W:World}(h:Ms g o k pa pl pb ph q ca cl cb ch w W):
 W.cell? ⟨g,o+k * 4,none⟩=some (.int .i8 pa)/\W.cell? ⟨g,o+k * 4+1,none⟩=some (.int .i64 pl)/\W.cell? ⟨g,o+k * 4+2,none⟩=some (.int .i8 pb)/\W.cell? ⟨g,o+k * 4+3,none⟩=some (.int .i64 ph)/\
 W.cell? ⟨q,0,none⟩=some (.int .i8 ca)/\W.cell? ⟨q,1,none⟩=some (.int .i64 cl)/\W.cell? ⟨q,2,none⟩=some (.int .i8 cb)/\W.cell? ⟨q,3,none⟩=some (.int .i64 ch)/\Ms g o k pa pl pb ph q ca cl cb ch w W:=
 ⟨h.p.2.1,h.p.2.2.1,h.p.2.2.2.1,h.p.2.2.2.2,h.c.cell 0 _ rfl,h.c.cell 1 _ rfl,h.c.cell 2 _ rfl,h.c.cell 3 _ rfl,h⟩
def XO(f:Nat->R4)(i:Nat):Bool:=decide (0<i)&&aGm (f (i - 1)).a (f (i - 1)).lo (f (i - 1)).b (f (i - 1)).hi (f i).a (f i).lo (f i).b (f i).hi
theorem aKa{f:Nat->R4}{i:Nat}(h:(f i).err=0):SX f i=if XO f i then 12 else 0:=by
 unfold SX XO;rw[aFV h];simp only[aFU,aFK]
theorem aDV{f:Nat->R4}{i:Nat}(h:(f i).err≠0):SX f i=(f i).err:=by
 unfold SX;rw[aB9 h]
def aUb(v:Int)(w:World)(e:Ending)(w':World):Prop:=e=.returned (.int .i64 v)/\Below w.heap.size w w'
def intOf:Value->Int
 | .int _ n=>n
 |_=>0
theorem TW (f:Nat->R4) (bs:Option Addr) (n cp:Nat) (w:World) (hb: ∀j,(f j).Bd) (hs:wZ w bs n f):
 Calls Tryz.prog 50 #[.slice bs n cp] w (aUb (mG f n) w):=by
 unfold mG
 by_cases hn:4096<n
 . rw[aFV hn];have hn2:(4096:Int)<n:=by omega
   clear hn hs hb
   go_enter Tryz.func50,Tryz.ntmps50
   go_wp2
   go_ret
   exact⟨rfl,aAL _ _⟩
 rw[aB9 hn];have hn2:(n:Int)<=4096:=by omega
 obtain⟨E,hE⟩: ∃E,E=scan (SX f) n 0:=⟨_,rfl⟩;rw[<-hE];have HE:=GK hE;have HS:=GK hs;have HBD:=GK hb;have HC:=GK (fun i w=>lQ (f i).a (f i).lo (f i).b (f i).hi w);clear hE hs hb hn
 go_enter Tryz.func50,Tryz.ntmps50
 go_wp2
 go_loopw [2,11] (fun r i wr=> ∃i':Nat,r=.int .i64 0/\i=.int .i64 i'/\i'<=n/\(∀j,j<i'->SX f j=0)/\scan (SX f) (n - i') i'=E/\Below w.heap.size w wr) (fun _ i _=>n - (intOf i).toNat)
 case atStart=>exact⟨0,rfl,rfl,by omega,fun j hj=>by omega,HE.out.symm,aAL _ _⟩
 case round=>
  obtain⟨i,rfl,rfl,hi,hall,hsc,hB⟩:=hrel;generalize wr=wO at *;have aAJ:=GK hall;have HSC:=GK hsc;have HB:=GK hB;clear hall hsc hB
  by_cases hlt:i<n
  . obtain⟨g,o,rfl,hg,c0,c1,c2,c3⟩:=(HS.out.later HB.out) i hlt;obtain⟨ca,cl,cb,ch,hf⟩: ∃ca cl cb ch,f i=⟨ca,cl,cb,ch⟩:=⟨_,_,_,_,rfl⟩;have WS:=HC.out i;have HBI:=HBD.out i;rw[hf]at c0 c1 c2 c3 WS HBI;have HF:=GK hf;have her:(f i).err=dM ca cl cb ch:=by rw[hf];rfl
    have QJ:=GK her;unfold r4 at WS;dsimp only at c0 c1 c2 c3 WS;have h0:=HBI.h0;have h1:=HBI.h1;have h2:=HBI.h2;have h3:=HBI.h3;dsimp only at h0 h1 h2 h3;have HCB:Hid (-9223372036854775808<=cl/\cl<9223372036854775808/\ -9223372036854775808<=ch/\ch<9223372036854775808):=GK ⟨h0,h1,h2,h3⟩;clear HBI h0 h1 h2 h3 hf her;obtain⟨e,he⟩: ∃e,e=dM ca cl cb ch:=⟨_,rfl⟩;rw[<-he]at QJ WS;have HEQ:=GK he;clear he;replace WS:=GK WS;clear HC;have hT:Rw wO.heap.size (l4 ca cl cb ch) wO _:=Rw.fresh (aAL _ _) _ 42;unfold l4 at hT
    go_upto_region 6 with(fail)
    generalize World.alloc _ _=W1 at hT ⊢;have s0:=hT.cell 0 _ rfl;have s1:=hT.cell 1 _ rfl;have s2:=hT.cell 2 _ rfl;have s3:=hT.cell 3 _ rfl
    by_cases he:e=0
    case neg=>
     have hans:E=e:=by
      rw[<-HSC.out,show n - i=(n - i - 1)+1 by omega,scan_bad (by rw[aDV (by rw[QJ.out];exact he),QJ.out];exact he),aDV (by rw[QJ.out];exact he),QJ.out]
     have OH:=GK hans;clear hans
     go_wp2_with (go_at_call 49;refine(WS.out _).mono ?_;rintro _ w1 ⟨rfl,hb⟩)
     go_ret
     exact⟨by rw[OH.out];rfl,bt HB.out (bt hT.below hb)⟩
    case pos=>
    subst he;clear c0 c1 c2 c3
    go_upto_region 9 with(go_at_call 49;refine(WS.out _).mono ?_;rintro _ w1 ⟨rfl,hb⟩;replace hT:=hT.later hb;clear hb;clear s0 s1 s2 s3)
    have hat:SX f i=if XO f i then 12 else 0:=aKa QJ.out
    obtain⟨sb,hsb⟩: ∃sb,sb=XO f i:=⟨_,rfl⟩;rw[<-hsb]at hat;have IJ:=GK hsb;have HAT:=GK hat;clear hsb hat WS
    go_cut [41] (fun s wx=>s=.bool sb/\Below wO.heap.size wO wx)
    case first=>
     have s0:=hT.cell 0 _ rfl;have s1:=hT.cell 1 _ rfl;have s2:=hT.cell 2 _ rfl;have s3:=hT.cell 3 _ rfl
     by_cases hz:i=0
     . have hs0:sb=false:=by rw[IJ.out,hz];rfl
       subst hs0;have hz2: ¬(0<i):=by omega
       clear IJ HAT hz
       go_wp2_with fail
       refine aUB (S:=fun w'=>Rw wO.heap.size (l4 ca cl cb ch) wO w') (by kernel_rfl) (hT.later (aAL _ _).drew) (fun hHeld=>?_);refine sW 0 21 ?_ (by assumption) ?_ ?_
       rotate_left
       . (intro w hSw;(try dsimp only at hSw);go_simp;try with_reducible rfl)
       try simp only[Act.put,aAf,aAM,aAN]
       refine sW 1 22 ?_ (by assumption) ?_ ?_
       rotate_left
       . (intro w hSw;(try dsimp only at hSw);go_simp;try with_reducible rfl)
       try simp only[Act.put,aAf,aAM,aAN]
       refine sW 2 23 ?_ (by assumption) ?_ ?_
       rotate_left
       . (intro w hSw;(try dsimp only at hSw);go_simp;try with_reducible rfl)
       try simp only[Act.put,aAf,aAM,aAN]
       refine lM 3 24 (by assumption) ?_
       try simp only[Act.put,aAf,aAM,aAN]
       refine lM 4 25 (by assumption) ?_
       try simp only[Act.put,aAf,aAM,aAN]
       refine lM 5 26 (by assumption) ?_
       try simp only[Act.put,aAf,aAM,aAN]
       refine lM 6 27 (by assumption) ?_
       try simp only[Act.put,aAf,aAM,aAN]
       refine lM 7 28 (by assumption) ?_
       try simp only[Act.put,aAf,aAM,aAN]
       refine lM 8 29 (by assumption) ?_
       try simp only[Act.put,aAf,aAM,aAN]
       refine lM 9 30 (by assumption) ?_
       try simp only[Act.put,aAf,aAM,aAN]
       refine lM 10 31 (by assumption) ?_
       try simp only[Act.put,aAf,aAM,aAN]
       refine lM 11 32 (by assumption) ?_
       try simp only[Act.put,aAf,aAM,aAN]
       refine lM 12 33 (by assumption) ?_
       try simp only[Act.put,aAf,aAM,aAN]
       refine lM 13 34 (by assumption) ?_
       try simp only[Act.put,aAf,aAM,aAN]
       refine lM 14 35 (by assumption) ?_
       try simp only[Act.put,aAf,aAM,aAN]
       refine lM 15 36 (by assumption) ?_
       try simp only[Act.put,aAf,aAM,aAN]
       refine lM 16 37 (by assumption) ?_
       try simp only[Act.put,aAf,aAM,aAN]
       refine lM 17 38 (by assumption) ?_
       try simp only[Act.put,aAf,aAM,aAN]
       refine lM 18 39 (by assumption) ?_
       try simp only[Act.put,aAf,aAM,aAN]
       refine lM 19 40 (by assumption) ?_
       try simp only[Act.put,aAf,aAM,aAN]
       refine sW 20 41 ?_ (by assumption) ?_ ?_
       rotate_left
       . (intro w hSw;(try dsimp only at hSw);go_simp;try with_reducible rfl)
       try simp only[Act.put,aAf,aAM,aAN]
       refine aWw (by kernel_rfl) ?_ _
       go_wp2_with fail
       go_meet
       exact⟨rfl,hT.below.drew⟩
     obtain⟨k,hk1⟩: ∃k,i=k+1:=⟨i - 1,by omega⟩;have hk:wrap64 ((i:Int) - 1)=(k:Int):=by unfold wrap64;omega
     have hk2:IntKind.i64.wrap ((i:Int) - 1)=(k:Int):=by rw[aGZ];omega
     have hkn:k<n:=by omega
     have hi0:0<i:=by omega
     have aWr:(0:Int)<=(k:Int):=by omega
     have hkn2:(k:Int)<(n:Int):=by omega
     obtain⟨pa,pl,pb,ph,hp⟩: ∃pa pl pb ph,f k=⟨pa,pl,pb,ph⟩:=⟨_,_,_,_,rfl⟩;obtain⟨g',o',e',hg',d0,d1,d2,d3⟩:=(HS.out.later (bt HB.out hT.below)) k hkn
     cases e'
     have HBK:=HBD.out k;have hpr:dM pa pl pb ph=0:=by
      have:=SQ (aAJ.out k (by omega));rw[hp]at this;exact this
     rw[hp]at d0 d1 d2 d3 HBK;dsimp only at d0 d1 d2 d3;have h0:=HBK.h0;have h1:=HBK.h1;have h2:=HBK.h2;have h3:=HBK.h3;dsimp only at h0 h1 h2 h3;have hst:sb=aGm pa pl pb ph ca cl cb ch:=by
      rw[IJ.out];unfold XO;rw[show i - 1=k by omega,hp,HF.out,aAP (show 0<i by omega),aQT]
     unfold aGm at hst;have CC:=fun w=>aBi pa pl pb ph ca cl cb ch w;have CT:=fun w=>aEp pa pl pb ph ca cl cb ch w (vO hpr) (vO HEQ.out.symm) h0 h1 h2 h3 HCB.out.1 HCB.out.2.1 HCB.out.2.2.1 HCB.out.2.2.2;unfold r4 at CC CT;generalize KI pa pl pb ph ca cl cb ch=x at *;generalize JR pa pl pb ph ca cl cb ch=y at *;replace CC:=GK CC;replace CT:=GK CT;have hM:Ms g o k pa pl pb ph wO.heap.size ca cl cb ch wO w1:=⟨⟨hg',d0,d1,d2,d3⟩,hT⟩;have hE:=GK (hM.later (aAL _ _).drew);clear hz IJ HAT hpr HBK h0 h1 h2 h3 hM hk1
     by_cases hx:0<x
     . rw[aAP hx,aV6]at hst;subst hst;clear CT;have HW:=GK hE.out;clear hE
       go_wp2_with fail
       refine aUB (S:=fun w'=>w'.cell? ⟨g,o+k * 4,none⟩=some (.int .i8 pa)/\w'.cell? ⟨g,o+k * 4+1,none⟩=some (.int .i64 pl)/\w'.cell? ⟨g,o+k * 4+2,none⟩=some (.int .i8 pb)/\w'.cell? ⟨g,o+k * 4+3,none⟩=some (.int .i64 ph)/\w'.cell? ⟨wO.heap.size,0,none⟩=some (.int .i8 ca)/\w'.cell? ⟨wO.heap.size,1,none⟩=some (.int .i64 cl)/\w'.cell? ⟨wO.heap.size,2,none⟩=some (.int .i8 cb)/\w'.cell? ⟨wO.heap.size,3,none⟩=some (.int .i64 ch)/\Ms g o k pa pl pb ph wO.heap.size ca cl cb ch wO w') (by kernel_rfl) (HW.out.S) (fun hHeld=>?_);refine sW 0 21 ?_ (by assumption) ?_ ?_
       rotate_left
       . (intro w hSw;(try dsimp only at hSw);go_simp;try with_reducible rfl)
       try simp only[Act.put,aAf,aAM,aAN]
       refine sW 1 22 ?_ (by assumption) ?_ ?_
       rotate_left
       . (intro w hSw;(try dsimp only at hSw);go_simp;try with_reducible rfl)
       try simp only[Act.put,aAf,aAM,aAN]
       refine sW 2 23 ?_ (by assumption) ?_ ?_
       rotate_left
       . (intro w hSw;(try dsimp only at hSw);go_simp;try with_reducible rfl)
       try simp only[Act.put,aAf,aAM,aAN]
       refine sW 3 24 ?_ (by assumption) ?_ ?_
       rotate_left
       . (intro w hSw;(try dsimp only at hSw);go_simp;try with_reducible rfl)
       try simp only[Act.put,aAf,aAM,aAN]
       refine sW 4 25 ?_ (by assumption) ?_ ?_
       rotate_left
       . (intro w hSw;(try dsimp only at hSw);go_simp;try with_reducible rfl)
       try simp only[Act.put,aAf,aAM,aAN]
       refine sW 5 26 ?_ (by assumption) ?_ ?_
       rotate_left
       . (intro w hSw;(try dsimp only at hSw);go_simp;try with_reducible rfl)
       try simp only[Act.put,aAf,aAM,aAN]
       refine sW 6 27 ?_ (by assumption) ?_ ?_
       rotate_left
       . (intro w hSw;(try dsimp only at hSw);go_simp;try with_reducible rfl)
       try simp only[Act.put,aAf,aAM,aAN]
       refine sW 7 28 ?_ (by assumption) ?_ ?_
       rotate_left
       . (intro w hSw;(try dsimp only at hSw);go_simp;try with_reducible rfl)
       try simp only[Act.put,aAf,aAM,aAN]
       refine sW 8 29 ?_ (by assumption) ?_ ?_
       rotate_left
       . (intro w hSw;(try dsimp only at hSw);go_simp;try with_reducible rfl)
       try simp only[Act.put,aAf,aAM,aAN]
       refine wpAnyH_ready (rs:=[9]) (by kernel_rfl) (by simp) ?_;refine AllReadyH.cons rfl (fun K hK=>?_) AllReadyH.nil;simp only[List.getElem_toArray,aW9,aWY]
       go_simp
       go_at_call 79
       refine(CC.out _).mono ?_;rintro _ w6 ⟨rfl,hb2⟩;replace HW:=GK (HW.out.later hb2);clear hb2;refine hK.out _ _ (HW.out.S) (fun hHeld=>?_);clear hK K
       try simp only[Act.put,aAf,aAM,aAN]
       refine sW 10 31 ?_ (by assumption) ?_ ?_
       rotate_left
       . (intro w hSw;(try dsimp only at hSw);go_simp;try with_reducible rfl)
       try simp only[Act.put,aAf,aAM,aAN]
       refine sW 11 32 ?_ (by assumption) ?_ ?_
       rotate_left
       . (intro w hSw;(try dsimp only at hSw);go_simp;try with_reducible rfl)
       try simp only[Act.put,aAf,aAM,aAN]
       refine lM 12 33 (by assumption) ?_
       try simp only[Act.put,aAf,aAM,aAN]
       refine lM 13 34 (by assumption) ?_
       try simp only[Act.put,aAf,aAM,aAN]
       refine lM 14 35 (by assumption) ?_
       try simp only[Act.put,aAf,aAM,aAN]
       refine lM 15 36 (by assumption) ?_
       try simp only[Act.put,aAf,aAM,aAN]
       refine lM 16 37 (by assumption) ?_
       try simp only[Act.put,aAf,aAM,aAN]
       refine lM 17 38 (by assumption) ?_
       try simp only[Act.put,aAf,aAM,aAN]
       refine lM 18 39 (by assumption) ?_
       try simp only[Act.put,aAf,aAM,aAN]
       refine sW 19 40 ?_ (by assumption) ?_ ?_
       rotate_left
       . (intro w hSw;(try dsimp only at hSw);go_simp;try with_reducible rfl)
       try simp only[Act.put,aAf,aAM,aAN]
       refine sW 20 41 ?_ (by assumption) ?_ ?_
       rotate_left
       . (intro w hSw;(try dsimp only at hSw);go_simp;try with_reducible rfl)
       try simp only[Act.put,aAf,aAM,aAN]
       refine aWw (by kernel_rfl) ?_ _
       go_wp2_with fail
       go_meet
       exact⟨rfl,HW.out.c.below⟩
     rw[aCw hx,aVR]at hst;subst hst;have hx3:decide (0<x)=false:=aCw hx;have hx4:x<=0:=by omega
     clear hx
     go_wp2_with fail
     go_region_held3 (fun w'=>w'.cell? ⟨g,o+k * 4,none⟩=some (.int .i8 pa)/\w'.cell? ⟨g,o+k * 4+1,none⟩=some (.int .i64 pl)/\w'.cell? ⟨g,o+k * 4+2,none⟩=some (.int .i8 pb)/\w'.cell? ⟨g,o+k * 4+3,none⟩=some (.int .i64 ph)/\w'.cell? ⟨wO.heap.size,0,none⟩=some (.int .i8 ca)/\w'.cell? ⟨wO.heap.size,1,none⟩=some (.int .i64 cl)/\w'.cell? ⟨wO.heap.size,2,none⟩=some (.int .i8 cb)/\w'.cell? ⟨wO.heap.size,3,none⟩=some (.int .i64 ch)/\Ms g o k pa pl pb ph wO.heap.size ca cl cb ch wO w') (first|exact hE.out.S|(have hk:= ‹_/\_/\_/\_/\_/\_/\_/\_/\Ms _ _ _ _ _ _ _ _ _ _ _ _ _ _›;exact(hk.2.2.2.2.2.2.2.2.later (aAL _ _).drew).S)|(have hk:= ‹_/\_/\_/\_/\_/\_/\_/\_/\Ms _ _ _ _ _ _ _ _ _ _ _ _ _ _›;exact(hk.2.2.2.2.2.2.2.2.later hb2).S)|exact(hE.out.later hb2).S|assumption) ((first|(go_at_call 79;refine(CC.out _).mono ?_;rintro _ w6 ⟨rfl,hb2⟩)|(go_at_call 80;refine(CT.out _).mono ?_;rintro _ w7 ⟨rfl,hb2⟩)))
     rename_i hk
     go_wp2_with fail
     go_meet
     exact⟨by simp,hk.2.2.2.2.2.2.2.2.c.below⟩
    case rest=>
     obtain⟨rfl,hBx⟩:=hcut
     cases sb
     . have ha0:SX f i=0:=by rw[HAT.out];rfl
       have hsc:scan (SX f) (n - (i+1)) (i+1)=E:=by
        rw[<-HSC.out,show n - i=(n - (i+1))+1 by omega,scan_ok ha0]
       have aRs:=GK hsc;have aK4:Hid (∀j,j<i+1->SX f j=0):=GK (fun j hj=>by
        by_cases hj2:j=i
        . rw[hj2];exact ha0
        exact aAJ.out j (by omega))
       clear hsc ha0 HSC aAJ HAT IJ
       go_wp2_with fail
       go_roundw
       case rel=>exact⟨i+1,rfl,by go_num,by omega,aK4.out,aRs.out,bt HB.out hBx⟩
       case measure=>simp[intOf];omega
     have ha0:SX f i=12:=by rw[HAT.out];rfl
     have hans:E=12:=by
      rw[<-HSC.out,show n - i=(n - (i+1))+1 by omega,scan_bad (by rw[ha0];decide),ha0]
     have OH:=GK hans;clear hans ha0 HSC aAJ HAT IJ
     go_wp2_with fail
     go_ret
     exact⟨by rw[OH.out];rfl,bt HB.out hBx⟩
  have hin:i=n:=by omega
  subst hin;have hans:E=0:=by rw[<-HSC.out,Nat.sub_self];rfl
  have OH:=GK hans;clear hans HS
  go_wp2_with fail
  go_ret
  exact⟨by rw[OH.out];rfl,HB.out⟩
end Sk
end
section
open Go.RowKit Go.Lib
namespace Sk
open Un (ba bt ri rb)
open Bk (Rw)
structure Mt(g o k i:Nat)(pa pl pb ph ca cl cb ch:Int)(w W:World):Prop where
 l:g<W.heap.size
 p:W.cell? ⟨g,o+k * 4,none⟩=some (.int .i8 pa)/\W.cell? ⟨g,o+k * 4+1,none⟩=some (.int .i64 pl)/\W.cell? ⟨g,o+k * 4+2,none⟩=some (.int .i8 pb)/\W.cell? ⟨g,o+k * 4+3,none⟩=some (.int .i64 ph)
 c:W.cell? ⟨g,o+i * 4,none⟩=some (.int .i8 ca)/\W.cell? ⟨g,o+i * 4+1,none⟩=some (.int .i64 cl)/\W.cell? ⟨g,o+i * 4+2,none⟩=some (.int .i8 cb)/\W.cell? ⟨g,o+i * 4+3,none⟩=some (.int .i64 ch)
 b:Below w.heap.size w W
theorem Mt.later{g o k i:Nat}{pa pl pb ph ca cl cb ch:Int}{w W W2:World}(h:Mt g o k i pa pl pb ph ca cl cb ch w W)(hb:Below W.heap.size W W2):Mt g o k i pa pl pb ph ca cl cb ch w W2:=by
 obtain⟨hg,⟨c0,c1,c2,c3⟩,⟨d0,d1,d2,d3⟩,hB⟩:=h;exact⟨by have:=hb.size;omega,⟨(hb.cell (p:=⟨g,_,none⟩) hg).trans c0,(hb.cell (p:=⟨g,_,none⟩) hg).trans c1,(hb.cell (p:=⟨g,_,none⟩) hg).trans c2,(hb.cell (p:=⟨g,_,none⟩) hg).trans c3⟩,⟨(hb.cell (p:=⟨g,_,none⟩) hg).trans d0,(hb.cell (p:=⟨g,_,none⟩) hg).trans d1,(hb.cell (p:=⟨g,_,none⟩) hg).trans d2,(hb.cell (p:=⟨g,_,none⟩) hg).trans d3⟩,bt hB hb⟩
theorem Mt.S{g o k i:Nat}{pa pl pb ph ca cl cb ch:Int}{w W:World}(h:Mt g o k i pa pl pb ph ca cl cb ch w W):
 W.cell? ⟨g,o+k * 4,none⟩=some (.int .i8 pa)/\W.cell? ⟨g,o+k * 4+1,none⟩=some (.int .i64 pl)/\W.cell? ⟨g,o+k * 4+2,none⟩=some (.int .i8 pb)/\W.cell? ⟨g,o+k * 4+3,none⟩=some (.int .i64 ph)/\
 W.cell? ⟨g,o+i * 4,none⟩=some (.int .i8 ca)/\W.cell? ⟨g,o+i * 4+1,none⟩=some (.int .i64 cl)/\W.cell? ⟨g,o+i * 4+2,none⟩=some (.int .i8 cb)/\W.cell? ⟨g,o+i * 4+3,none⟩=some (.int .i64 ch)/\Mt g o k i pa pl pb ph ca cl cb ch w W:=
 ⟨h.p.1,h.p.2.1,h.p.2.2.1,h.p.2.2.2,h.c.1,h.c.2.1,h.c.2.2.1,h.c.2.2.2,h⟩
def XM(f:Nat->R4)(i:Nat):Bool:=decide (0<i)&&badR (f (i - 1)).a (f (i - 1)).lo (f (i - 1)).b (f (i - 1)).hi (f i).a (f i).lo (f i).b (f i).hi
theorem aJ9{f:Nat->R4}{i:Nat}(h:(f i).err=0):atR f i=if XM f i then 12 else 0:=by
 unfold atR XM;rw[aFV h];simp only[aFU,aFK]
theorem aDU{f:Nat->R4}{i:Nat}(h:(f i).err≠0):atR f i=(f i).err:=by
 unfold atR;rw[aB9 h]
theorem O8 (f:Nat->R4) (bs:Option Addr) (n cp:Nat) (w:World) (hb: ∀j,(f j).Bd) (hs:wZ w bs n f):
 Calls Tryz.prog 44 #[.slice bs n cp] w (aUb (mG f n) w):=by
 unfold mG;rw[aPt hb]
 by_cases hn:4096<n
 . rw[aFV hn];have hn2:(4096:Int)<n:=by omega
   clear hn hs hb
   go_enter Tryz.func44,Tryz.ntmps44
   go_wp2
   go_ret
   exact⟨rfl,aAL _ _⟩
 rw[aB9 hn];have hn2:(n:Int)<=4096:=by omega
 obtain⟨E,hE⟩: ∃E,E=scan (atR f) n 0:=⟨_,rfl⟩;rw[<-hE];have HE:=GK hE;have HS:=GK hs;have HBD:=GK hb;have HC:=GK (fun i w=>yV (f i).a (f i).lo (f i).b (f i).hi w);clear hE hs hb hn
 go_enter Tryz.func44,Tryz.ntmps44
 go_wp2
 go_loopw [2,3] (fun r i wr=> ∃i':Nat,r=.int .i64 0/\i=.int .i64 i'/\i'<=n/\(∀j,j<i'->atR f j=0)/\scan (atR f) (n - i') i'=E/\Below w.heap.size w wr) (fun _ i _=>n - (intOf i).toNat)
 case atStart=>exact⟨0,rfl,rfl,by omega,fun j hj=>by omega,HE.out.symm,aAL _ _⟩
 case round=>
  obtain⟨i,rfl,rfl,hi,hall,hsc,hB⟩:=hrel;generalize wr=wO at *;have aAJ:=GK hall;have HSC:=GK hsc;have HB:=GK hB;clear hall hsc hB
  by_cases hlt:i<n
  . obtain⟨g,o,rfl,hg,c0,c1,c2,c3⟩:=(HS.out.later HB.out) i hlt;obtain⟨ca,cl,cb,ch,hf⟩: ∃ca cl cb ch,f i=⟨ca,cl,cb,ch⟩:=⟨_,_,_,_,rfl⟩;have WS:=HC.out i;have HBI:=HBD.out i;rw[hf]at c0 c1 c2 c3 WS HBI;have HF:=GK hf;have her:(f i).err=dM ca cl cb ch:=by rw[hf];rfl
    have QJ:=GK her;unfold r4 at WS;dsimp only at c0 c1 c2 c3 WS;have h0:=HBI.h0;have h1:=HBI.h1;have h2:=HBI.h2;have h3:=HBI.h3;dsimp only at h0 h1 h2 h3;have HCB:Hid (-9223372036854775808<=cl/\cl<9223372036854775808/\ -9223372036854775808<=ch/\ch<9223372036854775808):=GK ⟨h0,h1,h2,h3⟩;clear HBI h0 h1 h2 h3 hf her;obtain⟨e,he⟩: ∃e,e=dM ca cl cb ch:=⟨_,rfl⟩;rw[<-he]at QJ WS;have HEQ:=GK he;clear he;replace WS:=GK WS;clear HC
    by_cases he:e=0
    case neg=>
     have hans:E=e:=by
      rw[<-HSC.out,show n - i=(n - i - 1)+1 by omega,scan_bad (by rw[aDU (by rw[QJ.out];exact he),QJ.out];exact he),aDU (by rw[QJ.out];exact he),QJ.out]
     have OH:=GK hans;clear hans
     go_wp2_with (go_at_call 46;refine(WS.out _).mono ?_;rintro _ w1 ⟨rfl,hb⟩)
     go_ret
     exact⟨by rw[OH.out];rfl,bt HB.out hb⟩
    case pos=>
    subst he
    go_upto_region 9 with(go_at_call 46;refine(WS.out _).mono ?_;rintro _ w1 ⟨rfl,hb⟩)
    clear c0 c1 c2 c3 hg;have HB1:=GK hb;clear hb;have hat:atR f i=if XM f i then 12 else 0:=aJ9 QJ.out
    obtain⟨sb,hsb⟩: ∃sb,sb=XM f i:=⟨_,rfl⟩;rw[<-hsb]at hat;have IJ:=GK hsb;have HAT:=GK hat;clear hsb hat WS
    go_cut [50] (fun s wx=>s=.bool sb/\Below wO.heap.size wO wx)
    case first=>
     by_cases hz:i=0
     . have hs0:sb=false:=by rw[IJ.out,hz];rfl
       subst hs0;have hz2: ¬(0<i):=by omega
       clear IJ HAT hz
       go_wp2_with fail
       refine aUB (S:=fun w'=>Below wO.heap.size wO w') (by kernel_rfl) (HB1.out.drew) (fun hHeld=>?_);refine sW 0 22 ?_ (by assumption) ?_ ?_
       rotate_left
       . (intro w hSw;(try dsimp only at hSw);go_simp;try with_reducible rfl)
       try simp only[Act.put,aAf,aAM,aAN]
       refine sW 1 23 ?_ (by assumption) ?_ ?_
       rotate_left
       . (intro w hSw;(try dsimp only at hSw);go_simp;try with_reducible rfl)
       try simp only[Act.put,aAf,aAM,aAN]
       refine sW 2 24 ?_ (by assumption) ?_ ?_
       rotate_left
       . (intro w hSw;(try dsimp only at hSw);go_simp;try with_reducible rfl)
       try simp only[Act.put,aAf,aAM,aAN]
       refine lM 3 25 (by assumption) ?_
       try simp only[Act.put,aAf,aAM,aAN]
       refine lM 4 26 (by assumption) ?_
       try simp only[Act.put,aAf,aAM,aAN]
       refine lM 5 27 (by assumption) ?_
       try simp only[Act.put,aAf,aAM,aAN]
       refine lM 6 28 (by assumption) ?_
       try simp only[Act.put,aAf,aAM,aAN]
       refine lM 7 29 (by assumption) ?_
       try simp only[Act.put,aAf,aAM,aAN]
       refine lM 8 30 (by assumption) ?_
       try simp only[Act.put,aAf,aAM,aAN]
       refine lM 9 31 (by assumption) ?_
       try simp only[Act.put,aAf,aAM,aAN]
       refine lM 10 32 (by assumption) ?_
       try simp only[Act.put,aAf,aAM,aAN]
       refine lM 11 33 (by assumption) ?_
       try simp only[Act.put,aAf,aAM,aAN]
       refine lM 12 34 (by assumption) ?_
       try simp only[Act.put,aAf,aAM,aAN]
       refine lM 13 35 (by assumption) ?_
       try simp only[Act.put,aAf,aAM,aAN]
       refine lM 14 36 (by assumption) ?_
       try simp only[Act.put,aAf,aAM,aAN]
       refine lM 15 37 (by assumption) ?_
       try simp only[Act.put,aAf,aAM,aAN]
       refine lM 16 38 (by assumption) ?_
       try simp only[Act.put,aAf,aAM,aAN]
       refine lM 17 39 (by assumption) ?_
       try simp only[Act.put,aAf,aAM,aAN]
       refine lM 18 40 (by assumption) ?_
       try simp only[Act.put,aAf,aAM,aAN]
       refine lM 19 41 (by assumption) ?_
       try simp only[Act.put,aAf,aAM,aAN]
       refine lM 20 42 (by assumption) ?_
       try simp only[Act.put,aAf,aAM,aAN]
       refine lM 21 43 (by assumption) ?_
       try simp only[Act.put,aAf,aAM,aAN]
       refine lM 22 44 (by assumption) ?_
       try simp only[Act.put,aAf,aAM,aAN]
       refine lM 23 45 (by assumption) ?_
       try simp only[Act.put,aAf,aAM,aAN]
       refine lM 24 46 (by assumption) ?_
       try simp only[Act.put,aAf,aAM,aAN]
       refine lM 25 47 (by assumption) ?_
       try simp only[Act.put,aAf,aAM,aAN]
       refine lM 26 48 (by assumption) ?_
       try simp only[Act.put,aAf,aAM,aAN]
       refine lM 27 49 (by assumption) ?_
       try simp only[Act.put,aAf,aAM,aAN]
       refine sW 28 50 ?_ (by assumption) ?_ ?_
       rotate_left
       . (intro w hSw;(try dsimp only at hSw);go_simp;try with_reducible rfl)
       try simp only[Act.put,aAf,aAM,aAN]
       refine aWw (by kernel_rfl) ?_ _
       go_wp2_with fail
       go_meet
       exact⟨rfl,HB1.out.drew⟩
     obtain⟨k,hk1⟩: ∃k,i=k+1:=⟨i - 1,by omega⟩;have hk:wrap64 ((i:Int) - 1)=(k:Int):=by unfold wrap64;omega
     have hk2:IntKind.i64.wrap ((i:Int) - 1)=(k:Int):=by rw[aGZ];omega
     have hkn:k<n:=by omega
     have hi0:0<i:=by omega
     have aWr:(0:Int)<=(k:Int):=by omega
     have hkn2:(k:Int)<(n:Int):=by omega
     have hin1:(0:Int)<=(i:Int):=by omega
     have hin2:(i:Int)<(n:Int):=by omega
     obtain⟨pa,pl,pb,ph,hp⟩: ∃pa pl pb ph,f k=⟨pa,pl,pb,ph⟩:=⟨_,_,_,_,rfl⟩;obtain⟨g',o',e',hg',d0,d1,d2,d3⟩:=(HS.out.later (bt HB.out HB1.out)) k hkn
     cases e'
     obtain⟨g',o',e',_,s0,s1,s2,s3⟩:=(HS.out.later (bt HB.out HB1.out)) i hlt
     cases e'
     rw[HF.out]at s0 s1 s2 s3;dsimp only at s0 s1 s2 s3;have HBK:=HBD.out k;rw[hp]at d0 d1 d2 d3 HBK;dsimp only at d0 d1 d2 d3;have h0:=HBK.h0;have h1:=HBK.h1;have h2:=HBK.h2;have h3:=HBK.h3;dsimp only at h0 h1 h2 h3;have hst:sb=badR pa pl pb ph ca cl cb ch:=by
      rw[IJ.out];unfold XM;rw[show i - 1=k by omega,hp,HF.out,aAP (show 0<i by omega),aQT]
     unfold badR at hst;have CC:=fun w=>FN pb ph ca cl w;have CT:=fun w=>aBo pa pl pb ph ca cl cb ch w h2 h3 HCB.out.2.2.1 HCB.out.2.2.2;unfold r4 at CT;unfold ev at CC;generalize bK pb ph ca cl=x at *;generalize JQ pa pl pb ph ca cl cb ch=y at *;replace CC:=GK CC;replace CT:=GK CT;have hM:Mt g o k i pa pl pb ph ca cl cb ch wO w1:=⟨hg',⟨d0,d1,d2,d3⟩,⟨s0,s1,s2,s3⟩,HB1.out⟩;have hE:=GK (hM.later (aAL _ _).drew);clear hz IJ HAT HBK h0 h1 h2 h3 hM hk1 HB1
     by_cases hx:0<=x
     . rw[aAP hx,aV6]at hst;subst hst;clear CT;have HW:=GK hE.out;clear hE
       go_wp2_with fail
       refine aUB (S:=fun w'=>w'.cell? ⟨g,o+k * 4,none⟩=some (.int .i8 pa)/\w'.cell? ⟨g,o+k * 4+1,none⟩=some (.int .i64 pl)/\w'.cell? ⟨g,o+k * 4+2,none⟩=some (.int .i8 pb)/\w'.cell? ⟨g,o+k * 4+3,none⟩=some (.int .i64 ph)/\w'.cell? ⟨g,o+i * 4,none⟩=some (.int .i8 ca)/\w'.cell? ⟨g,o+i * 4+1,none⟩=some (.int .i64 cl)/\w'.cell? ⟨g,o+i * 4+2,none⟩=some (.int .i8 cb)/\w'.cell? ⟨g,o+i * 4+3,none⟩=some (.int .i64 ch)/\Mt g o k i pa pl pb ph ca cl cb ch wO w') (by kernel_rfl) (HW.out.S) (fun hHeld=>?_);refine sW 0 22 ?_ (by assumption) ?_ ?_
       rotate_left
       . (intro w hSw;(try dsimp only at hSw);go_simp;try with_reducible rfl)
       try simp only[Act.put,aAf,aAM,aAN]
       refine sW 1 23 ?_ (by assumption) ?_ ?_
       rotate_left
       . (intro w hSw;(try dsimp only at hSw);go_simp;try with_reducible rfl)
       try simp only[Act.put,aAf,aAM,aAN]
       refine sW 2 24 ?_ (by assumption) ?_ ?_
       rotate_left
       . (intro w hSw;(try dsimp only at hSw);go_simp;try with_reducible rfl)
       try simp only[Act.put,aAf,aAM,aAN]
       refine sW 3 25 ?_ (by assumption) ?_ ?_
       rotate_left
       . (intro w hSw;(try dsimp only at hSw);go_simp;try with_reducible rfl)
       try simp only[Act.put,aAf,aAM,aAN]
       refine sW 4 26 ?_ (by assumption) ?_ ?_
       rotate_left
       . (intro w hSw;(try dsimp only at hSw);go_simp;try with_reducible rfl)
       try simp only[Act.put,aAf,aAM,aAN]
       refine sW 5 27 ?_ (by assumption) ?_ ?_
       rotate_left
       . (intro w hSw;(try dsimp only at hSw);go_simp;try with_reducible rfl)
       try simp only[Act.put,aAf,aAM,aAN]
       refine sW 6 28 ?_ (by assumption) ?_ ?_
       rotate_left
       . (intro w hSw;(try dsimp only at hSw);go_simp;try with_reducible rfl)
       try simp only[Act.put,aAf,aAM,aAN]
       refine sW 7 29 ?_ (by assumption) ?_ ?_
       rotate_left
       . (intro w hSw;(try dsimp only at hSw);go_simp;try with_reducible rfl)
       try simp only[Act.put,aAf,aAM,aAN]
       refine sW 8 30 ?_ (by assumption) ?_ ?_
       rotate_left
       . (intro w hSw;(try dsimp only at hSw);go_simp;try with_reducible rfl)
       try simp only[Act.put,aAf,aAM,aAN]
       refine sW 9 31 ?_ (by assumption) ?_ ?_
       rotate_left
       . (intro w hSw;(try dsimp only at hSw);go_simp;try with_reducible rfl)
       try simp only[Act.put,aAf,aAM,aAN]
       refine sW 10 32 ?_ (by assumption) ?_ ?_
       rotate_left
       . (intro w hSw;(try dsimp only at hSw);go_simp;try with_reducible rfl)
       try simp only[Act.put,aAf,aAM,aAN]
       refine sW 11 33 ?_ (by assumption) ?_ ?_
       rotate_left
       . (intro w hSw;(try dsimp only at hSw);go_simp;try with_reducible rfl)
       try simp only[Act.put,aAf,aAM,aAN]
       refine sW 12 34 ?_ (by assumption) ?_ ?_
       rotate_left
       . (intro w hSw;(try dsimp only at hSw);go_simp;try with_reducible rfl)
       try simp only[Act.put,aAf,aAM,aAN]
       refine sW 13 35 ?_ (by assumption) ?_ ?_
       rotate_left
       . (intro w hSw;(try dsimp only at hSw);go_simp;try with_reducible rfl)
       try simp only[Act.put,aAf,aAM,aAN]
       refine wpAnyH_ready (rs:=[14]) (by kernel_rfl) (by simp) ?_;refine AllReadyH.cons rfl (fun K hK=>?_) AllReadyH.nil;simp only[List.getElem_toArray,aW9,aWY]
       go_simp
       go_at_call 69
       refine(CC.out _).mono ?_;rintro _ w6 ⟨rfl,hb2⟩;replace HW:=GK (HW.out.later hb2);clear hb2;refine hK.out _ _ (HW.out.S) (fun hHeld=>?_);clear hK K
       try simp only[Act.put,aAf,aAM,aAN]
       refine sW 15 37 ?_ (by assumption) ?_ ?_
       rotate_left
       . (intro w hSw;(try dsimp only at hSw);go_simp;try with_reducible rfl)
       try simp only[Act.put,aAf,aAM,aAN]
       refine sW 16 38 ?_ (by assumption) ?_ ?_
       rotate_left
       . (intro w hSw;(try dsimp only at hSw);go_simp;try with_reducible rfl)
       try simp only[Act.put,aAf,aAM,aAN]
       refine lM 17 39 (by assumption) ?_
       try simp only[Act.put,aAf,aAM,aAN]
       refine lM 18 40 (by assumption) ?_
       try simp only[Act.put,aAf,aAM,aAN]
       refine lM 19 41 (by assumption) ?_
       try simp only[Act.put,aAf,aAM,aAN]
       refine lM 20 42 (by assumption) ?_
       try simp only[Act.put,aAf,aAM,aAN]
       refine lM 21 43 (by assumption) ?_
       try simp only[Act.put,aAf,aAM,aAN]
       refine lM 22 44 (by assumption) ?_
       try simp only[Act.put,aAf,aAM,aAN]
       refine lM 23 45 (by assumption) ?_
       try simp only[Act.put,aAf,aAM,aAN]
       refine lM 24 46 (by assumption) ?_
       try simp only[Act.put,aAf,aAM,aAN]
       refine lM 25 47 (by assumption) ?_
       try simp only[Act.put,aAf,aAM,aAN]
       refine lM 26 48 (by assumption) ?_
       try simp only[Act.put,aAf,aAM,aAN]
       refine sW 27 49 ?_ (by assumption) ?_ ?_
       rotate_left
       . (intro w hSw;(try dsimp only at hSw);go_simp;try with_reducible rfl)
       try simp only[Act.put,aAf,aAM,aAN]
       refine sW 28 50 ?_ (by assumption) ?_ ?_
       rotate_left
       . (intro w hSw;(try dsimp only at hSw);go_simp;try with_reducible rfl)
       try simp only[Act.put,aAf,aAM,aAN]
       refine aWw (by kernel_rfl) ?_ _
       go_wp2_with fail
       go_meet
       exact⟨rfl,HW.out.b⟩
     rw[aCw hx,aVR]at hst;subst hst;have hx3:decide (0<=x)=false:=aCw hx;have hx4:x<0:=by omega
     clear hx
     go_wp2_with fail
     go_region_held3 (fun w'=>w'.cell? ⟨g,o+k * 4,none⟩=some (.int .i8 pa)/\w'.cell? ⟨g,o+k * 4+1,none⟩=some (.int .i64 pl)/\w'.cell? ⟨g,o+k * 4+2,none⟩=some (.int .i8 pb)/\w'.cell? ⟨g,o+k * 4+3,none⟩=some (.int .i64 ph)/\w'.cell? ⟨g,o+i * 4,none⟩=some (.int .i8 ca)/\w'.cell? ⟨g,o+i * 4+1,none⟩=some (.int .i64 cl)/\w'.cell? ⟨g,o+i * 4+2,none⟩=some (.int .i8 cb)/\w'.cell? ⟨g,o+i * 4+3,none⟩=some (.int .i64 ch)/\Mt g o k i pa pl pb ph ca cl cb ch wO w') (first|exact hE.out.S|(have hk:= ‹_/\_/\_/\_/\_/\_/\_/\_/\Mt _ _ _ _ _ _ _ _ _ _ _ _ _ _›;exact(hk.2.2.2.2.2.2.2.2.later (aAL _ _).drew).S)|(have hk:= ‹_/\_/\_/\_/\_/\_/\_/\_/\Mt _ _ _ _ _ _ _ _ _ _ _ _ _ _›;exact(hk.2.2.2.2.2.2.2.2.later hb2).S)|exact(hE.out.later hb2).S|assumption) ((first|(go_at_call 69;refine(CC.out _).mono ?_;rintro _ w6 ⟨rfl,hb2⟩)|(go_at_call 70;refine(CT.out _).mono ?_;rintro _ w7 ⟨rfl,hb2⟩)))
     rename_i hk
     go_wp2_with fail
     go_meet
     exact⟨by simp,hk.2.2.2.2.2.2.2.2.b⟩
    case rest=>
     obtain⟨rfl,hBx⟩:=hcut
     cases sb
     . have ha0:atR f i=0:=by rw[HAT.out];rfl
       have hsc:scan (atR f) (n - (i+1)) (i+1)=E:=by
        rw[<-HSC.out,show n - i=(n - (i+1))+1 by omega,scan_ok ha0]
       have aRs:=GK hsc;have aK4:Hid (∀j,j<i+1->atR f j=0):=GK (fun j hj=>by
        by_cases hj2:j=i
        . rw[hj2];exact ha0
        exact aAJ.out j (by omega))
       clear hsc ha0 HSC aAJ HAT IJ
       go_wp2_with fail
       go_roundw
       case rel=>exact⟨i+1,rfl,by go_num,by omega,aK4.out,aRs.out,bt HB.out hBx⟩
       case measure=>simp[intOf];omega
     have ha0:atR f i=12:=by rw[HAT.out];rfl
     have hans:E=12:=by
      rw[<-HSC.out,show n - i=(n - (i+1))+1 by omega,scan_bad (by rw[ha0];decide),ha0]
     have OH:=GK hans;clear hans ha0 HSC aAJ HAT IJ
     go_wp2_with fail
     go_ret
     exact⟨by rw[OH.out];rfl,bt HB.out hBx⟩
  have hin:i=n:=by omega
  subst hin;have hans:E=0:=by rw[<-HSC.out,Nat.sub_self];rfl
  have OH:=GK hans;clear hans HS
  go_wp2_with fail
  go_ret
  exact⟨by rw[OH.out];rfl,HB.out⟩
end Sk
end
section
open Go.RowKit Go.Lib
namespace Sk
open Un (ba bt ri rb)
open Bk (Rw Dt aW hasB aY)
def xX(d:Dt):Bool:=hasB 88 (d.dg++d.mo++d.da)
theorem Z9(d:Dt)(w:World)(hs:d.mo.size<=1000)(hy:d.dg.size<=1000)(ha:d.da.size<=1000):
 Calls Tryz.prog 52 #[aW d] w fun r w'=>r=.returned (.bool (xX d))/\Below w.heap.size w w':=by
 have hD:=Bk.Dm.new d w 37;have HC: ∀W,Calls Tryz.prog 84 #[.string (d.dg++d.mo++d.da),.string ⟨#[88]⟩] W fun e w'=>e=.returned (.bool (hasB 88 (d.dg++d.mo++d.da)))/\w'=W:=by
  intro W;have:=Tryz.strings_Contains_one (d.dg++d.mo++d.da) 88 W;rw[Bk.nH]at this;exact this
 unfold xX aW;generalize hasB 88 (d.dg++d.mo++d.da)=b at *;have e1:(d.dg++d.mo).size=d.dg.size+d.mo.size:=by simp
 have e2:(d.dg++d.mo++d.da).size=d.dg.size+d.mo.size+d.da.size:=by simp
 replace HC:=GK HC
 go_enter Tryz.func52,Tryz.ntmps52
 go_upto_region 1 with(fail)
 generalize World.alloc _ _=W0 at hD ⊢;obtain⟨q0,q1,q2,q3,q4,q5,q6,q7,q8,q9,qB⟩:=id hD
 go_wp2_with (go_at_call 84;with_reducible refine(HC.out _).mono ?_;rintro _ w' ⟨rfl,rfl⟩)
 go_ret
 exact⟨rfl,hD.below⟩
theorem aHP(d:Dt)(w:World)(hs:d.mo.size<=1000)(hy:d.dg.size<=1000)(ha:d.da.size<=1000):
 Calls Tryz.prog 17 #[aW d] w fun r w'=>r=.returned (.int .i64 (if xX d then 1 else 0))/\Below w.heap.size w w':=by
 have hR:Rw w.heap.size (Bk.bP d) w _:=Rw.fresh (aAL _ _) _ 37;have HM:=fun w=>Bk.UK { d with sig:=0 } w hs hy ha;rw[show Dt.msk { d with sig:=0 }=xX d by unfold Dt.msk xX;simp]at HM;unfold aW at HM;dsimp only at HM;generalize (if xX d then(1:Int)else 0)=R at *;replace HM:=GK HM;unfold aW;unfold Bk.bP at hR;have q0:=hR.cell 0 _ rfl;have q1:=hR.cell 1 _ rfl;have q2:=hR.cell 2 _ rfl;have q3:=hR.cell 3 _ rfl;have q4:=hR.cell 4 _ rfl;have q5:=hR.cell 5 _ rfl;have q6:=hR.cell 6 _ rfl;have q7:=hR.cell 7 _ rfl;have q8:=hR.cell 8 _ rfl;have q9:=hR.cell 9 _ rfl
 go_enter Tryz.func17,Tryz.ntmps17
 go_wp2_with (go_at_call 38;refine(HM.out _).mono ?_;rintro _ w' ⟨rfl,hb⟩)
 go_ret
 exact⟨rfl,bt (ba (aAL _ _) _) hb⟩
theorem aJd: ∃i,Tryz.prog.info? 5=some i:=⟨_,rfl⟩
theorem RJ(k n:Nat)(hk:k=n+1+1)(m0 m1 m2:Int): ∃r:Bool,∀w,(Op.equalIn k 26 (.agg #[.int .u8 m0,.int .u8 m1,.int .u8 m2]) (.agg #[.int .u8 0,.int .u8 0,.int .u8 0])).run Tryz.prog w=.ok r w:=by
 subst hk;obtain⟨i,hi⟩:=aJd;have hc:Tryz.prog.cellsOf 5=1:=by kernel_rfl
 by_cases h0:m0=0<;>by_cases h1:m1=0<;>by_cases h2:m2=0
 all_goals
  refine⟨?_,fun w=>?_⟩
  rotate_left
  . rw[run_equalIn_array w (n+1) _ _ Tryz.underlying26 hi];simp[Op.eqItems,go_sem,hc, *]
    try rfl
theorem aJT(d:Dt): ∃Z:Bool,(∀w,(binOp .eql 37 (aW d) (aW z0)).run Tryz.prog w=.ok (.bool Z) w)/\(∀w,(binOp .neq 37 (aW d) (aW z0)).run Tryz.prog w=.ok (.bool (!Z)) w):=by
 obtain⟨r,hr⟩:=RJ 9999 9997 rfl d.m0 d.m1 d.m2;unfold aW z0
 by_cases h:d.neg=false/\d.long=false/\d.dg.toList=[]/\d.ex=0/\d.sig=0/\d.mo.toList=[]/\d.da.toList=[]
 . obtain⟨h1,h2,h3,h4,h5,h6,h7⟩:=h;refine⟨r,fun w=>?_,fun w=>?_⟩
   . go_simp;cases r<;>rfl
   go_simp;cases r<;>rfl
 refine⟨false,fun w=>?_,fun w=>?_⟩
 . go_simp
   exact fun h1 h2 h3 h4 h5 h6 h7=>absurd ⟨h1,h2,h3,h4,h5,h6,h7⟩ h
 go_simp
 exact fun h1 h2 h3 h4 h5 h6 h7=>absurd ⟨h1,h2,h3,h4,h5,h6,h7⟩ h
theorem aFL(m0 m1 m2:Int): ∃Z:Bool,(∀w,(binOp .eql 26 (.agg #[.int .u8 m0,.int .u8 m1,.int .u8 m2]) (.agg #[.int .u8 0,.int .u8 0,.int .u8 0])).run Tryz.prog w=.ok (.bool Z) w)/\(∀w,(binOp .neq 26 (.agg #[.int .u8 m0,.int .u8 m1,.int .u8 m2]) (.agg #[.int .u8 0,.int .u8 0,.int .u8 0])).run Tryz.prog w=.ok (.bool (!Z)) w):=by
 obtain⟨r,hr⟩:=RJ 10000 9998 rfl m0 m1 m2;refine⟨r,fun w=>?_,fun w=>?_⟩
 . go_simp
 go_simp
theorem aLT(a lo b hi:Int): ∃Z:Bool,(∀w,(binOp .eql 42 (r4 a lo b hi) (r4 0 0 0 0)).run Tryz.prog w=.ok (.bool Z) w)/\(∀w,(binOp .neq 42 (r4 a lo b hi) (r4 0 0 0 0)).run Tryz.prog w=.ok (.bool (!Z)) w):=by
 unfold r4;refine⟨decide (a=0/\lo=0/\b=0/\hi=0),fun w=>?_,fun w=>?_⟩
 . go_simp
   (repeat' split)<;>simp_all
 go_simp
 (repeat' split)<;>simp_all
def qI(k:Int)(n0 zd p0 zr:Bool):Bool:=if k=1 then zd&&p0&&zr else if k=2 then n0&&p0&&zr else if k=3 then n0&&zd else n0&&zd&&p0
end Sk
end
section
open Go.RowKit Go.Lib
namespace Sk
open Un (ba bt ri rb aI)
open Bk (Rw Dt aW hasB aY lW)
theorem aDJ{d:Dt}(h:d.err≠0):0<d.err:=by
 by_cases c:d.form=0
 . unfold Dt.err at h ⊢;rw[aB9 (by omega)]at h ⊢
   split at h
   . rw[aFV (by assumption)];omega
   exact absurd rfl h
 rw[Bk.wU c]at h ⊢;unfold Dt.form at h ⊢;have:=Bk.ZJ d.m0 d.m1 d.m2 (Bk.comps d.mo d.da)
 (repeat' split at h)<;>(repeat' split)<;>simp_all<;>omega
theorem aPr{d:Dt}(h:d.err=0):0<=d.sig:=by
 have hk:=(Bk.Dt.iD (Bk.Dt.kN (Bk.aAb h)).1).1;unfold Bk.Dt.JG at hk;rcases aRO d.long with hl|hl
 . rw[hl]at hk;exact(Bk.jG hk).2.2.2.2.2.2.2.1
 rw[hl]at hk;exact(Bk.iC hk).2.2.2.2.2.1
def FY(p a lo b hi:Int):Bool:= !(decide (a≠0)&&decide (b≠0))&&decide (dM a lo b hi=0)&&(decide (a≠0)||(decide ((aI p lo).2.2=0)&&decide ((aI p lo).1=lo)))&&(decide (b≠0)||(decide ((aI p hi).2.2=0)&&decide ((aI p hi).2.1=hi)))
theorem aDE{p a lo b hi r x y e x' y' e':Int}(hr:r=dM a lo b hi)(h1:aI p lo=(x,y,e))(h2:aI p hi=(x',y',e')):
 FY p a lo b hi=(!(decide (a≠0)&&decide (b≠0))&&decide (r=0)&&(decide (a≠0)||(decide (e=0)&&decide (x=lo)))&&(decide (b≠0)||(decide (e'=0)&&decide (y'=hi)))):=by
 unfold FY;rw[h1,h2,<-hr]
end Sk
end
section
open Go.RowKit Go.Lib
namespace Sk
open Ev (aV DT LG dQ aQ hp uY iW iV lT kR OJ FQ lY aN AV yJ rG dS aG aJ eG kX)
open Bk (Dt aW cvv)
def yd0:AV:=aN 8 .i64 [(lY 1)]
def yd1:AV:=rK (qe 13) (qi 14) (qe 15) (qi 16)
def aCH:DT:=(.node 0 yd0 qz (.node 3 (qb 17) (qb 17) (.node 0 (qu 12) (.v (.int .u8 0)) (.node 3 (qb 18) (qb 18) (.node 0 (qu 0) (.v (.int .u8 1)) (.leaf qt) (.node 0 (qu 0) (.v (.int .u8 2)) (.leaf qt) (.node 0 (qu 0) (.v (.int .u8 3)) (.leaf qt) (.leaf qt)))) (.node 0 (qu 0) (.v (.int .u8 1)) (.leaf qf) (.node 0 (qu 0) (.v (.int .u8 2)) (.leaf qf) (.node 0 (qu 0) (.v (.int .u8 3)) (.leaf qt) (.leaf qt))))) (.node 3 (qb 18) (qb 18) (.node 0 (qu 0) (.v (.int .u8 1)) (.leaf qf) (.node 0 (qu 0) (.v (.int .u8 2)) (.leaf qf) (.node 0 (qu 0) (.v (.int .u8 3)) (.leaf qt) (.leaf qf)))) (.node 0 (qu 0) (.v (.int .u8 1)) (.leaf qf) (.node 0 (qu 0) (.v (.int .u8 2)) (.leaf qf) (.node 0 (qu 0) (.v (.int .u8 3)) (.leaf qt) (.leaf qf)))))) (.node 0 (qu 12) (.v (.int .u8 0)) (.node 3 (qb 18) (qb 18) (.node 0 (qu 0) (.v (.int .u8 1)) (.leaf qf) (.node 0 (qu 0) (.v (.int .u8 2)) (.leaf qt) (.node 0 (qu 0) (.v (.int .u8 3)) (.leaf qf) (.leaf qf)))) (.node 0 (qu 0) (.v (.int .u8 1)) (.leaf qf) (.node 0 (qu 0) (.v (.int .u8 2)) (.leaf qf) (.node 0 (qu 0) (.v (.int .u8 3)) (.leaf qf) (.leaf qf))))) (.node 3 (qb 18) (qb 18) (.node 0 (qu 0) (.v (.int .u8 1)) (.leaf qf) (.node 0 (qu 0) (.v (.int .u8 2)) (.leaf qf) (.node 0 (qu 0) (.v (.int .u8 3)) (.leaf qf) (.leaf qf)))) (.node 0 (qu 0) (.v (.int .u8 1)) (.leaf qf) (.node 0 (qu 0) (.v (.int .u8 2)) (.leaf qf) (.node 0 (qu 0) (.v (.int .u8 3)) (.leaf qf) (.leaf qf))))))) (.node 3 (qb 17) (qb 17) (.node 0 (qu 12) (.v (.int .u8 0)) (.node 3 (qb 18) (qb 18) (.node 0 (qu 0) (.v (.int .u8 1)) (.leaf qt) (.node 0 (qu 0) (.v (.int .u8 2)) (.leaf qf) (.node 0 (qu 0) (.v (.int .u8 3)) (.leaf qf) (.leaf qf)))) (.node 0 (qu 0) (.v (.int .u8 1)) (.leaf qf) (.node 0 (qu 0) (.v (.int .u8 2)) (.leaf qf) (.node 0 (qu 0) (.v (.int .u8 3)) (.leaf qf) (.leaf qf))))) (.node 3 (qb 18) (qb 18) (.node 0 (qu 0) (.v (.int .u8 1)) (.leaf qf) (.node 0 (qu 0) (.v (.int .u8 2)) (.leaf qf) (.node 0 (qu 0) (.v (.int .u8 3)) (.leaf qf) (.leaf qf)))) (.node 0 (qu 0) (.v (.int .u8 1)) (.leaf qf) (.node 0 (qu 0) (.v (.int .u8 2)) (.leaf qf) (.node 0 (qu 0) (.v (.int .u8 3)) (.leaf qf) (.leaf qf)))))) (.node 0 (qu 12) (.v (.int .u8 0)) (.node 3 (qb 18) (qb 18) (.node 0 (qu 0) (.v (.int .u8 1)) (.leaf qf) (.node 0 (qu 0) (.v (.int .u8 2)) (.leaf qf) (.node 0 (qu 0) (.v (.int .u8 3)) (.leaf qf) (.leaf qf)))) (.node 0 (qu 0) (.v (.int .u8 1)) (.leaf qf) (.node 0 (qu 0) (.v (.int .u8 2)) (.leaf qf) (.node 0 (qu 0) (.v (.int .u8 3)) (.leaf qf) (.leaf qf))))) (.node 3 (qb 18) (qb 18) (.node 0 (qu 0) (.v (.int .u8 1)) (.leaf qf) (.node 0 (qu 0) (.v (.int .u8 2)) (.leaf qf) (.node 0 (qu 0) (.v (.int .u8 3)) (.leaf qf) (.leaf qf)))) (.node 0 (qu 0) (.v (.int .u8 1)) (.leaf qf) (.node 0 (qu 0) (.v (.int .u8 2)) (.leaf qf) (.node 0 (qu 0) (.v (.int .u8 3)) (.leaf qf) (.leaf qf))))))))
theorem Y3(l:Value):aCH.ok dQ l [(37,zA,.agg [qf,qf,.v (.string ⟨#[]⟩),qz,qz,.v (.string ⟨#[]⟩),.v (.string ⟨#[]⟩),.v (.int .u8 0),.v (.int .u8 0),.v (.int .u8 0)],(qb 17)),(42,yd1,(rK q8 qz q8 qz),(qb 18))] [] hp 60 LG 48 [gY (qu 0)] []=true:=by kernel_rfl
theorem aHl(k:Int)(bs:Option Addr)(n cp:Nat)(d:Dt)(p a lo b hi:Int)(zd zr:Bool){w0:World}(hst:SS w0)(hd:OU 37 (aW d) (aW z0) zd)(hr:OU 42 (r4 a lo b hi) (r4 0 0 0 0) zr):Same w0 48 #[(fam k (.slice bs n cp) d p a lo b hi)] (cond (((n:Nat):Int)==0) (cond zd (cond (p==0) (cond zr (cond (k==1) (.bool true) (cond (k==2) (.bool true) (cond (k==3) (.bool true) (.bool true)))) (cond (k==1) (.bool false) (cond (k==2) (.bool false) (cond (k==3) (.bool true) (.bool true))))) (cond zr (cond (k==1) (.bool false) (cond (k==2) (.bool false) (cond (k==3) (.bool true) (.bool false)))) (cond (k==1) (.bool false) (cond (k==2) (.bool false) (cond (k==3) (.bool true) (.bool false)))))) (cond (p==0) (cond zr (cond (k==1) (.bool false) (cond (k==2) (.bool true) (cond (k==3) (.bool false) (.bool false)))) (cond (k==1) (.bool false) (cond (k==2) (.bool false) (cond (k==3) (.bool false) (.bool false))))) (cond zr (cond (k==1) (.bool false) (cond (k==2) (.bool false) (cond (k==3) (.bool false) (.bool false)))) (cond (k==1) (.bool false) (cond (k==2) (.bool false) (cond (k==3) (.bool false) (.bool false))))))) (cond zd (cond (p==0) (cond zr (cond (k==1) (.bool true) (cond (k==2) (.bool false) (cond (k==3) (.bool false) (.bool false)))) (cond (k==1) (.bool false) (cond (k==2) (.bool false) (cond (k==3) (.bool false) (.bool false))))) (cond zr (cond (k==1) (.bool false) (cond (k==2) (.bool false) (cond (k==3) (.bool false) (.bool false)))) (cond (k==1) (.bool false) (cond (k==2) (.bool false) (cond (k==3) (.bool false) (.bool false)))))) (cond (p==0) (cond zr (cond (k==1) (.bool false) (cond (k==2) (.bool false) (cond (k==3) (.bool false) (.bool false)))) (cond (k==1) (.bool false) (cond (k==2) (.bool false) (cond (k==3) (.bool false) (.bool false))))) (cond zr (cond (k==1) (.bool false) (cond (k==2) (.bool false) (cond (k==3) (.bool false) (.bool false)))) (cond (k==1) (.bool false) (cond (k==2) (.bool false) (cond (k==3) (.bool false) (.bool false)))))))):=
 aG (Y3 (lv (lF k (.slice bs n cp) d p a lo b hi) [.bool zd,.bool zr])) (aQ w0) hst (.cons hd (fun _ _ _=>⟨by kernel_rfl,by kernel_rfl⟩) (.cons hr (fun _ _ _=>⟨by kernel_rfl,by kernel_rfl⟩) .nil)) .nil (aJ (by kernel_rfl)) (by kernel_rfl)
def aNE:DT:=(.node 1 (qu 0) (.v (.int .u8 1)) (.leaf (.v (.int .i64 18))) (.node 1 (.v (.int .u8 5)) (qu 0) (.leaf (.v (.int .i64 18))) (.node 3 (qb 17) (qb 17) (.node 0 (qi 21) qz (.node 0 (qu 0) (.v (.int .u8 1)) (.node 0 yd0 qz (.leaf (.v (.int .i64 17))) (.leaf (qi 18))) (.node 0 (qu 0) (.v (.int .u8 2)) (.node 0 (qi 19) qz (.node 0 (qi 6) qz (.node 3 (qb 20) (qb 20) (.node 3 (qb 23) (qb 23) (.leaf qz) (.leaf (.v (.int .i64 1)))) (.leaf (.v (.int .i64 1)))) (.leaf (.v (.int .i64 1)))) (.leaf (qi 19))) (.node 0 (qu 0) (.v (.int .u8 3)) (.node 1 (qu 12) (.v (.int .u8 1)) (.leaf (.v (.int .i64 18))) (.node 1 (.v (.int .u8 3)) (qu 12) (.leaf (.v (.int .i64 18))) (.node 3 (qb 22) (qb 22) (.leaf qz) (.leaf (.v (.int .i64 1)))))) (.node 0 (qu 0) (.v (.int .u8 4)) (.node 0 (qe 13) (.v (.int .i8 (-1))) (.node 0 (qe 15) q8 (.leaf qz) (.leaf (.v (.int .i64 1)))) (.leaf (.v (.int .i64 1)))) (.node 0 (qu 0) (.v (.int .u8 5)) (.node 0 (qe 13) q8 (.node 0 (qe 15) (.v (.int .i8 1)) (.leaf qz) (.leaf (.v (.int .i64 1)))) (.leaf (.v (.int .i64 1)))) DT.no))))) (.node 0 (qu 0) (.v (.int .u8 1)) (.node 0 yd0 qz (.leaf (.v (.int .i64 17))) (.leaf (qi 18))) (.node 0 (qu 0) (.v (.int .u8 2)) (.node 0 (qi 19) qz (.node 0 (qi 6) qz (.node 3 (qb 20) (qb 20) (.node 3 (qb 23) (qb 23) (.leaf qz) (.leaf (.v (.int .i64 1)))) (.leaf (.v (.int .i64 1)))) (.leaf (.v (.int .i64 1)))) (.leaf (qi 19))) (.node 0 (qu 0) (.v (.int .u8 3)) (.node 1 (qu 12) (.v (.int .u8 1)) (.leaf (.v (.int .i64 18))) (.node 1 (.v (.int .u8 3)) (qu 12) (.leaf (.v (.int .i64 18))) (.node 3 (qb 22) (qb 22) (.leaf qz) (.leaf (.v (.int .i64 1)))))) (.node 0 (qu 0) (.v (.int .u8 4)) (.leaf (.v (.int .i64 1))) (.node 0 (qu 0) (.v (.int .u8 5)) (.leaf (.v (.int .i64 1))) DT.no)))))) (.leaf (.v (.int .i64 5))))))
theorem aIr(l:Value):aNE.ok dQ l [(26,.agg [(qu 9),(qu 10),(qu 11)],.agg [.v (.int .u8 0),.v (.int .u8 0),.v (.int .u8 0)],(qb 23))] [(48,[gY (qu 0)],(qb 17)),(50,[(lY 1)],(qi 18)),(51,[zA],(qi 19)),(52,[zA],(qb 20)),(49,[yd1],(qi 21)),(53,[yd1,(qu 12)],(qb 22))] hp 60 LG 22 [gY (qu 0)] []=true:=by kernel_rfl
theorem aTt(k:Int)(bs:Option Addr)(n cp:Nat)(d:Dt)(p a lo b hi:Int)(s er rr:Int)(U X ft zm:Bool){w0:World}(hst:SS w0)(hm:OU 26 (.agg #[.int .u8 d.m0,.int .u8 d.m1,.int .u8 d.m2]) (.agg #[.int .u8 0,.int .u8 0,.int .u8 0]) zm)(H0:Same w0 48 #[(fam k (.slice bs n cp) d p a lo b hi)] (.bool U))(H1:Same w0 50 #[(.slice bs n cp)] (.int .i64 s))(H2:Same w0 51 #[(aW d)] (.int .i64 er))(H3:Same w0 52 #[(aW d)] (.bool X))(H4:Same w0 49 #[(r4 a lo b hi)] (.int .i64 rr))(H5:Same w0 53 #[(r4 a lo b hi),(.int .u8 p)] (.bool ft)):Same w0 22 #[(fam k (.slice bs n cp) d p a lo b hi)] (cond (decide (k<1)) (.int .i64 18) (cond (decide (5<k)) (.int .i64 18) (cond U (cond (rr==0) (cond (k==1) (cond (((n:Nat):Int)==0) (.int .i64 17) (.int .i64 s)) (cond (k==2) (cond (er==0) (cond (d.sig==0) (cond X (cond zm (.int .i64 0) (.int .i64 1)) (.int .i64 1)) (.int .i64 1)) (.int .i64 er)) (cond (k==3) (cond (decide (p<1)) (.int .i64 18) (cond (decide (3<p)) (.int .i64 18) (cond ft (.int .i64 0) (.int .i64 1)))) (cond (k==4) (cond (a==(-1)) (cond (b==0) (.int .i64 0) (.int .i64 1)) (.int .i64 1)) (cond (k==5) (cond (a==0) (cond (b==1) (.int .i64 0) (.int .i64 1)) (.int .i64 1)) (.bool false)))))) (cond (k==1) (cond (((n:Nat):Int)==0) (.int .i64 17) (.int .i64 s)) (cond (k==2) (cond (er==0) (cond (d.sig==0) (cond X (cond zm (.int .i64 0) (.int .i64 1)) (.int .i64 1)) (.int .i64 1)) (.int .i64 er)) (cond (k==3) (cond (decide (p<1)) (.int .i64 18) (cond (decide (3<p)) (.int .i64 18) (cond ft (.int .i64 0) (.int .i64 1)))) (cond (k==4) (.int .i64 1) (cond (k==5) (.int .i64 1) (.bool false))))))) (.int .i64 5)))):=
 aG (aIr (lv (lF k (.slice bs n cp) d p a lo b hi) [.bool U,.int .i64 s,.int .i64 er,.bool X,.int .i64 rr,.bool ft,.bool zm])) (aQ w0) hst (.cons hm (fun _ _ _=>⟨by kernel_rfl,by kernel_rfl⟩) .nil) (.cons H0 (.cons H1 (.cons H2 (.cons H3 (.cons H4 (.cons H5 .nil)))))) (eG (by kernel_rfl:_=((((decide (k<1))=true->True)/\((decide (k<1))=false->(((decide (5<k))=true->True)/\((decide (5<k))=false->((U=true->(((rr==0)=true->(((k==1)=true->(((((n:Nat):Int)==0)=true->True)/\((((n:Nat):Int)==0)=false->True)))/\((k==1)=false->(((k==2)=true->(((er==0)=true->(((d.sig==0)=true->((X=true->((zm=true->True)/\(zm=false->True)))/\(X=false->True)))/\((d.sig==0)=false->True)))/\((er==0)=false->True)))/\((k==2)=false->(((k==3)=true->(((decide (p<1))=true->True)/\((decide (p<1))=false->(((decide (3<p))=true->True)/\((decide (3<p))=false->((ft=true->True)/\(ft=false->True)))))))/\((k==3)=false->(((k==4)=true->(((a==(-1))=true->(((b==0)=true->True)/\((b==0)=false->True)))/\((a==(-1))=false->True)))/\((k==4)=false->(((k==5)=true->(((a==0)=true->(((b==1)=true->True)/\((b==1)=false->True)))/\((a==0)=false->True)))/\((k==5)=false->False)))))))))))/\((rr==0)=false->(((k==1)=true->(((((n:Nat):Int)==0)=true->True)/\((((n:Nat):Int)==0)=false->True)))/\((k==1)=false->(((k==2)=true->(((er==0)=true->(((d.sig==0)=true->((X=true->((zm=true->True)/\(zm=false->True)))/\(X=false->True)))/\((d.sig==0)=false->True)))/\((er==0)=false->True)))/\((k==2)=false->(((k==3)=true->(((decide (p<1))=true->True)/\((decide (p<1))=false->(((decide (3<p))=true->True)/\((decide (3<p))=false->((ft=true->True)/\(ft=false->True)))))))/\((k==3)=false->(((k==4)=true->True)/\((k==4)=false->(((k==5)=true->True)/\((k==5)=false->False)))))))))))))/\(U=false->True)))))))) (⟨fun h0=>trivial,fun h0=>⟨fun h1=>trivial,fun h1=>⟨fun h2=>⟨fun h3=>⟨fun h4=>⟨fun h5=>trivial,fun h5=>trivial⟩,fun h4=>⟨fun h5=>⟨fun h6=>⟨fun h7=>⟨fun h8=>⟨fun h9=>trivial,fun h9=>trivial⟩,fun h8=>trivial⟩,fun h7=>trivial⟩,fun h6=>trivial⟩,fun h5=>⟨fun h6=>⟨fun h7=>trivial,fun h7=>⟨fun h8=>trivial,fun h8=>⟨fun h9=>trivial,fun h9=>trivial⟩⟩⟩,fun h6=>⟨fun h7=>⟨fun h8=>⟨fun h9=>trivial,fun h9=>trivial⟩,fun h8=>trivial⟩,fun h7=>⟨fun h8=>⟨fun h9=>⟨fun h10=>trivial,fun h10=>trivial⟩,fun h9=>trivial⟩,fun h8=>(by simp only[aFZ,aAO,aFK,aD5]at *;omega)⟩⟩⟩⟩⟩,fun h3=>⟨fun h4=>⟨fun h5=>trivial,fun h5=>trivial⟩,fun h4=>⟨fun h5=>⟨fun h6=>⟨fun h7=>⟨fun h8=>⟨fun h9=>trivial,fun h9=>trivial⟩,fun h8=>trivial⟩,fun h7=>trivial⟩,fun h6=>trivial⟩,fun h5=>⟨fun h6=>⟨fun h7=>trivial,fun h7=>⟨fun h8=>trivial,fun h8=>⟨fun h9=>trivial,fun h9=>trivial⟩⟩⟩,fun h6=>⟨fun h7=>trivial,fun h7=>⟨fun h8=>trivial,fun h8=>(by simp only[aFZ,aAO,aFK,aD5]at *;omega)⟩⟩⟩⟩⟩⟩,fun h2=>trivial⟩⟩⟩)) (by kernel_rfl)
def aKR:DT:=(.node 0 (qe 0) q8 (.node 0 (qi 5) qz (.node 0 (qi 8) qz (.node 3 (qb 12) (qb 12) (.node 0 (qe 2) q8 (.node 0 (qi 11) qz (.node 3 (qb 13) (qb 13) (.leaf qt) (.leaf qf)) (.leaf qf)) (.leaf qt)) (.leaf qf)) (.leaf qf)) (.leaf qf)) (.node 0 (qe 2) q8 (.node 0 (qi 5) qz (.node 0 (qi 11) qz (.node 3 (qb 13) (qb 13) (.leaf qt) (.leaf qf)) (.leaf qf)) (.leaf qf)) (.leaf qf)))
theorem aFx(l:Value):aKR.ok dQ l [(40,.agg [q8,(qi 6)],.agg [(qe 0),(qi 1)],(qb 12)),(40,.agg [q8,(qi 10)],.agg [(qe 2),(qi 3)],(qb 13))] [(49,[(rK (qe 0) (qi 1) (qe 2) (qi 3))],(qi 5)),(85,[(qi 1),(qu 4)],.aS [rK q8 (qi 6) q8 (qi 7),(qi 8)]),(85,[(qi 3),(qu 4)],.aS [rK q8 (qi 9) q8 (qi 10),(qi 11)])] hp 60 LG 53 [(rK (qe 0) (qi 1) (qe 2) (qi 3)),(qu 4)] []=true:=by kernel_rfl
theorem aQD(a lo b hi p rr x y e x2 y2 e2:Int)(z1 z2:Bool){w0:World}(hst:SS w0)(h1:z1=decide (0=a/\x=lo))(h2:z2=decide (0=b/\y2=hi))(H0:Same w0 49 #[(r4 a lo b hi)] (.int .i64 rr))(H1:Same w0 85 #[(.int .i64 lo),(.int .u8 p)] (.tuple #[(r4 0 x 0 y),(.int .i64 e)]))(H2:Same w0 85 #[(.int .i64 hi),(.int .u8 p)] (.tuple #[(r4 0 x2 0 y2),(.int .i64 e2)])):Same w0 53 #[(r4 a lo b hi),(.int .u8 p)] (cond (a==0) (cond (rr==0) (cond (e==0) (cond z1 (cond (b==0) (cond (e2==0) (cond z2 (.bool true) (.bool false)) (.bool false)) (.bool true)) (.bool false)) (.bool false)) (.bool false)) (cond (b==0) (cond (rr==0) (cond (e2==0) (cond z2 (.bool true) (.bool false)) (.bool false)) (.bool false)) (.bool false))):=
 aG (aFx (.agg #[.int .i8 a,.int .i64 lo,.int .i8 b,.int .i64 hi,.int .u8 p,.int .i64 rr,.int .i64 x,.int .i64 y,.int .i64 e,.int .i64 x2,.int .i64 y2,.int .i64 e2,.bool z1,.bool z2])) (aQ w0) hst (.cons (nI _ _ _ _ _ h1) (fun _ _ _=>⟨by kernel_rfl,by kernel_rfl⟩) (.cons (nI _ _ _ _ _ h2) (fun _ _ _=>⟨by kernel_rfl,by kernel_rfl⟩) .nil)) (.cons H0 (.cons H1 (.cons H2 .nil))) (aJ (by kernel_rfl)) (by kernel_rfl)
end Sk
end
section
open Go.RowKit Go.Lib
namespace Sk
open Un (ba bt ri rb aI)
open Bk (Rw Dt aW hasB aY lW)
def IE(k:Int)(n:Nat)(p a b:Int)(U:Bool)(S R ER sig:Int)(X M FT:Bool):Int:=
 if k<1\/5<k then 18 else if U=false then 5 else if k=1 then(if n=0 then 17 else S)else if k=2 then(if ER≠0 then ER else if sig=0/\X=true/\M=true then 0 else 1)
 else if k=3 then(if p<1\/3<p then 18 else if FT=true then 0 else 1)else if k=4 then(if R=0/\a= -1/\b=0 then 0 else 1)else(if R=0/\a=0/\b=1 then 0 else 1)
structure aK6(k:Int)(bs:Option Addr)(n:Nat)(f:Nat->R4)(d:Dt)(p a lo b hi:Int)(w:World):Prop where
 run:wZ w bs n f
 bd: ∀j,(f j).Bd
 mo:d.mo.size<=1000
 dg:d.dg.size<=1000
 da:d.da.size<=1000
 s0: -9223372036854775808<=d.sig
 s1:d.sig<9223372036854775808
 m0:0<=d.m0
 m1:0<=d.m1
 m2:0<=d.m2
 p0:0<=p
 p1:p<256
 h0: -9223372036854775808<=lo
 h1:lo<9223372036854775808
 h2: -9223372036854775808<=hi
 h3:hi<9223372036854775808
theorem XE(k:Int)(bs:Option Addr)(n cp:Nat)(d:Dt)(p a lo b hi:Int){zd zr:Bool}{w0:World}(hst:SS w0)(hd:OU 37 (aW d) (aW z0) zd)(hr:OU 42 (r4 a lo b hi) (r4 0 0 0 0) zr):
 Same w0 48 #[fam k (.slice bs n cp) d p a lo b hi] (.bool (qI k (decide (n=0)) zd (p==0) zr)):=by
 refine DC (aHl k bs n cp d p a lo b hi zd zr hst hd hr) ?_;have e0:(((n:Nat):Int)==0)=decide (n=0):=by rw[aKX];simp
 rw[e0];generalize decide (n=0)=N;generalize (p==0)=P;unfold qI
 by_cases h1:k=1
 . cases N<;>cases zd<;>cases P<;>cases zr<;>simp[h1]
 by_cases h2:k=2
 . cases N<;>cases zd<;>cases P<;>cases zr<;>simp[h2]
 by_cases h3:k=3<;>cases N<;>cases zd<;>cases P<;>cases zr<;>simp[h1,h2,h3,aG3]
theorem aF3(p a lo b hi:Int){w0:World}(hst:SS w0)(hk:lW w0)(p0:0<=p)(p1:p<256)(h0: -9223372036854775808<=lo)(h1:lo<9223372036854775808)(h2: -9223372036854775808<=hi)(h3:hi<9223372036854775808):
 Same w0 53 #[r4 a lo b hi,.int .u8 p] (.bool (FY p a lo b hi)):=by
 obtain⟨x,y,e,hA⟩: ∃x y e,aI p lo=(x,y,e):=⟨_,_,_,rfl⟩;obtain⟨x',y',e',hB⟩: ∃x y e,aI p hi=(x,y,e):=⟨_,_,_,rfl⟩;have CH1:=fun W (hb:Below w0.heap.size w0 W)=>Un.qP lo p W (hk.below hb).cal h0 h1 p0 p1;have CH2:=fun W (hb:Below w0.heap.size w0 W)=>Un.qP hi p W (hk.below hb).cal h2 h3 p0 p1;rw[hA]at CH1;rw[hB]at CH2;refine DC (aQD a lo b hi p (dM a lo b hi) x y e x' y' e' _ _ hst rfl rfl (fun W _=>lQ a lo b hi W) CH1 CH2) ?_;rw[aDE rfl hA hB]
 by_cases ha:a=0<;>by_cases hb:b=0<;>by_cases g1:dM a lo b hi=0<;>by_cases g2:e=0<;>by_cases g3:e'=0<;>by_cases g4:x=lo<;>by_cases g5:y'=hi<;>simp[ha,hb,g1,g2,g3,g4,g5,aG3,eq_comm (a:=(0:Int))]
theorem QC(k:Int)(bs:Option Addr)(n cp:Nat)(f:Nat->R4)(d:Dt)(p a lo b hi:Int){zd zr M:Bool}{w0:World}(hst:SS w0)(hw:lW w0)(h:aK6 k bs n f d p a lo b hi w0)
 (hd:OU 37 (aW d) (aW z0) zd) (hr:OU 42 (r4 a lo b hi) (r4 0 0 0 0) zr) (hm:OU 26 (.agg #[.int .u8 d.m0,.int .u8 d.m1,.int .u8 d.m2]) (.agg #[.int .u8 0,.int .u8 0,.int .u8 0]) M):
 Same w0 22 #[fam k (.slice bs n cp) d p a lo b hi] (.int .i64 (IE k n p a b (qI k (decide (n=0)) zd (p==0) zr) (mG f n) (dM a lo b hi) d.err d.sig (xX d) M (FY p a lo b hi))):=by
 refine DC (aTt k bs n cp d p a lo b hi (mG f n) d.err (dM a lo b hi) _ (xX d) (FY p a lo b hi) M hst hm (XE k bs n cp d p a lo b hi hst hd hr) (fun W hb=>TW f bs n cp W h.bd (h.run.later hb)) (fun W hb=>Bk.uO d W (hw.below hb) h.mo h.dg h.m0 h.m1 h.m2)
  (fun W _=>Z9 d W h.mo h.dg h.da) (fun W _=>lQ a lo b hi W) (aF3 p a lo b hi hst hw h.p0 h.p1 h.h0 h.h1 h.h2 h.h3)) ?_
 generalize qI k (decide (n=0)) zd (p==0) zr=U;generalize mG f n=S;generalize dM a lo b hi=R;generalize d.err=ER;generalize xX d=X;generalize FY p a lo b hi=FT;generalize d.sig=sg;have e0:(((n:Nat):Int)==0)=decide (n=0):=by rw[aKX];simp
 rw[e0];unfold IE
 by_cases k1:k<1
 . simp[k1]
 by_cases k2:5<k
 . simp[k1,k2]
 have d1:=aCw k1;have d2:=aCw k2;rw[d1,d2,aB9 (by omega)]
 cases U
 . rfl
 have hk5:k=1\/k=2\/k=3\/k=4\/k=5:=by omega
 rcases hk5 with rfl|rfl|rfl|rfl|rfl
 . by_cases hn:n=0<;>by_cases hR:R=0<;>simp[hn,hR,aG3]
 . by_cases hR:R=0<;>by_cases hE:ER=0<;>by_cases hS:sg=0<;>cases X<;>cases M<;>simp[hR,hE,hS,aG3]
 . by_cases hR:R=0<;>by_cases p1:p<1<;>by_cases p3:3<p<;>cases FT<;>simp[hR,p1,p3,aG3]
 . by_cases hR:R=0<;>by_cases ha:a= -1<;>by_cases hb:b=0<;>simp[hR,ha,hb,aG3]
 by_cases hR:R=0<;>by_cases ha:a=0<;>by_cases hb:b=1<;>simp[hR,ha,hb,aG3]
end Sk
end
end Go.Proofs.YtacggmlngekidaaGreatDoor
