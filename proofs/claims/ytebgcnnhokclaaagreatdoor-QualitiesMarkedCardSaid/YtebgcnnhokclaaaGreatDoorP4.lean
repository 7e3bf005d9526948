import Derived.Test.YtebgcnnhokclaaaGreatDoorP1
import Derived.Test.YtebgcnnhokclaaaGreatDoorP2
import Derived.Test.YtebgcnnhokclaaaGreatDoorP3
import Derived.ChangeKeysEq
import Derived.Deep.MidRow
import Derived.Great.BuildSlice
import Derived.Great.Walk
import Derived.Deep.LoopGhost
import Derived.RangeFuncSeq
import Derived.OrdersIn
import Derived.OrdersHeld
import Derived.RangeFuncLeaves
import Derived.Maps.AppendAt
import Derived.KernelRfl
set_option linter.unusedVariables false
set_option linter.unusedSimpArgs false
set_option linter.unusedSectionVars false
set_option maxRecDepth 1000000
set_option maxHeartbeats 8000000
namespace Go.Proofs.YtebgcnnhokclaaaGreatDoor
noncomputable section
open Go.Proofs.Tryz
abbrev aHe:=@Array.map_singleton
abbrev aNq:=@Int.natCast_succ
abbrev aNZ:=@Go.wpIn_cond_false
abbrev aSD:=@Go.Addr.add_mid
abbrev aS2:=@Nat.not_lt_zero
abbrev aT7:=@Decidable.byContradiction
abbrev aUI:=@Go.RowKit.Below.heap_alloc
abbrev aUN:=@Go.run_append_own_at
abbrev aVE:=@ByteArray.size_extract
abbrev aVL:=@cond_true
abbrev aVR:=@Go.Oper.upon_enter
abbrev aWK:=@Go.World.cell?_of_block
abbrev aWM:=@List.count_replicate
abbrev aXT:=@Iff.rfl
abbrev aXY:=@List.all_nil
abbrev aX5:=@List.getElem_inj
abbrev aX7:=@List.mem_zipIdx_iff_getElem?
abbrev aYc:=@List.drop_left'
abbrev aYD:=@Int.tdiv_one
abbrev aYG:=@Array.getElem?_append
section
open Go.RowKit Go.Lib
theorem wr{n:Int}(h0: -9223372036854775808<=n)(h1:n<9223372036854775808):IntKind.i64.wrap n=n:=by rw[aUy];omega
def LJ(y m:Int):Int:=if m<=12 then st y+nC y m else st (y+1)+nC (y+1) (m - 12)
theorem aGM(y:Int):LJ y 13=st y+nC y 13:=by
 unfold LJ;rw[aEg (by omega),show(13:Int) - 12=1 by omega,JE,st_succ,YT];omega
theorem aAN{y m:Int}(h0: -10000000000000000<=y)(h1:y<=10000000000000000)(m0:1<=m)(m1:m<=24): -4000000000000001000<=LJ y m/\LJ y m<=4000000000000001000:=by
 unfold LJ;have a:=JZ (y:=y) (by omega) (by omega);have b:=JZ (y:=y+1) (by omega) (by omega);split
 . have:=@FN y m m0 (by omega);omega
 have:=@FN (y+1) (m - 12) (by omega) (by omega);omega
theorem aJs{w0:World}{y m:Int}(h0: -10000000000000000<=y)(h1:y<=10000000000000000)(m0:1<=m)(m1:m<=24):Same w0 74 #[.int .i64 y,.int .i64 m] (.int .i64 (LJ y m)):=by
 unfold LJ;split
 . exact eS fun w=>CJ y m w (by omega) (by omega) m0 (by omega)
 exact eS fun w=>OE y m w (by omega) (by omega) (by omega) m1
theorem aVO{w0:World}{c:Int}(c0:21<=c)(c1:c<=41):Same w0 73 #[.int .i64 c] (.tuple #[.int .i64 (bU c),.int .i64 (dU c)]):=zS (aMI c w0) (by
 have hz:c=21\/c=22\/c=23\/c=24\/c=25\/c=26\/c=27\/c=28\/c=29\/c=30\/c=31\/c=32\/c=33\/c=34\/c=35\/c=36\/c=37\/c=38\/c=39\/c=40\/c=41:=by omega
 rcases hz with rfl|rfl|rfl|rfl|rfl|rfl|rfl|rfl|rfl|rfl|rfl|rfl|rfl|rfl|rfl|rfl|rfl|rfl|rfl|rfl|rfl<;>rfl)
theorem aOa(y c:Int):st (iE y c)+nC (iE y c) (UW c+1)=LJ y (bU c+dU c):=by
 have hb:=aBR c;by_cases e:bU c+dU c=13
 . rw[e,aGM];unfold iE UW;rw[e,aEo (by omega),aEo (by omega)];rfl
 unfold iE UW LJ;by_cases g:bU c+dU c<=12
 . rw[aEo (by omega),aEo (by omega),aEo g,show bU c+dU c - 1+1=bU c+dU c by omega]
 rw[aEg (by omega),aEg (by omega),aEg g,show bU c+dU c - 13+1=bU c+dU c - 12 by omega]
theorem yr{w0:World}{y:Int}(h0: -10000000000000001<=y)(h1:y<=10000000000000001):Same w0 72 #[.int .i64 y] (.int .i64 (st y)):=eS fun w=>GL y w h0 h1
theorem aAo{w0:World}(hst:SS w0){d:Dt}(h:Sm d)(he:d.err=0)(hx:d.vO=true):Same w0 48 #[dP d] (.tuple #[.int .i64 d.lo,.int .i64 d.hi]):=by
 obtain⟨_,hk,y0,y1,hc⟩:=iF he hx;have hm:=(gB hx).1;have HM:Same w0 71 #[.string d.dg,.int .i64 d.ex] (.tuple #[.int .i64 d.mag,.int .i64 1]):=eS (aB3 h.dg hk hm);have HS:=aVP hst h;have md:=aGR he hx;have dd:=aHW he hx;have mb:0<=d.mag:=oV d.dg d.ex;have yP:d.neg=false->d.yv=d.mag:=fun e=>by unfold Dt.yv yVal;rw[e];rfl
 have yN:d.neg=true->d.yv= -d.mag:=fun e=>by unfold Dt.yv yVal;rw[e];rfl
 have b0:=JZ (y:=d.yv) (by omega) (by omega);have b1:=JZ (y:=d.yv+1) (by omega) (by omega);have hy1:IntKind.i64.wrap (d.yv+1)=d.yv+1:=wr (by omega) (by omega);have HY:=yr (w0:=w0) (y:=d.yv) (by omega) (by omega);have HZ:Same w0 72 #[.int .i64 (IntKind.i64.wrap (d.yv+1))] (.int .i64 (st (d.yv+1))):=by rw[hy1];exact yr (by omega) (by omega)
 unfold Dt.lo Dt.hi zY zZ;rcases hc with⟨a,b,e⟩|⟨a,b,e,e2,c1,c2,sy⟩|⟨a,b,m0,m1,hd⟩
 . rw[aEm a,aEo rfl,aEo rfl];have em:=MS a;have e1:IntKind.i64.wrap (st (d.yv+1) - 1)=st (d.yv+1) - 1:=wr (by omega) (by omega);cases hn:d.neg
   . have ey:=yP hn;rw[ey]at HY HZ e1 ⊢;generalize d.mag=v at *;obtain⟨ng,lg,dg,ex,sig,mo,da,q0,q1,q2⟩:=d;simp only at em hn;subst em;subst hn;exact zS (aER ⟨false,lg,dg,ex,sig,⟨#[]⟩,da,q0,q1,q2⟩ _ _ _ _ _ w0 HM HS HY HZ) (by rw[e1])
   have ey:IntKind.i64.wrap (0 - d.mag)=d.yv:=by have yn:=yN hn;rw[wr (by omega) (by omega),yn];omega
   generalize d.yv=y at *;subst ey;generalize d.mag=v at *;obtain⟨ng,lg,dg,ex,sig,mo,da,q0,q1,q2⟩:=d;simp only at em hn;subst em;subst hn;exact zS (aES ⟨true,lg,dg,ex,sig,⟨#[]⟩,da,q0,q1,q2⟩ _ _ _ _ _ w0 HM HS HY HZ) (by rw[e1])
 . rw[e2,aEg (by omega),aEo (by omega),aEg (by omega),aEo (by omega),aOa];have hb:=aBR d.aH;have H4:=aVO (w0:=w0) c1 c2;have H5:=aJs (w0:=w0) y0 y1 (show 1<=bU d.aH by omega) (by omega);have H6:=aJs (w0:=w0) y0 y1 (show 1<=bU d.aH+dU d.aH by omega) (by omega);have gb:=aAN y0 y1 (show 1<=bU d.aH+dU d.aH by omega) (by omega);have e1:IntKind.i64.wrap (LJ d.yv (bU d.aH+dU d.aH) - 1)=LJ d.yv (bU d.aH+dU d.aH) - 1:=wr (by omega) (by omega);rw[show bU d.aH+dU d.aH=IntKind.i64.wrap (bU d.aH+dU d.aH)from(wr (by omega) (by omega)).symm]at H6;rw[show LJ d.yv (bU d.aH)=st d.yv+nC d.yv (bU d.aH) by unfold LJ;rw[aEo (by omega)]]at H5;rw[wr (n:=bU d.aH+dU d.aH) (by omega) (by omega)]at H6;rw[<-wr (n:=bU d.aH+dU d.aH) (by omega) (by omega)]at H6;have nz:(d.mo.toList==(⟨#[]⟩:ByteArray).toList)=false:=by rw[JC,aBW (by omega)]
   have pz:decide (0<d.aH)=true:=aDx (by omega);generalize bU d.aH=f at *;generalize dU d.aH=n at *;generalize d.aH=sc at *;have e3:IntKind.i64.wrap (f+n)=f+n:=wr (by omega) (by omega);cases hn:d.neg
   . have ey:=yP hn;rw[ey]at HY HZ H5 H6 e1 ⊢;generalize d.mag=v at *;obtain⟨ng,lg,dg,ex,sig,mo,da,q0,q1,q2⟩:=d;simp only at hn nz;subst hn;exact zS (aET ⟨false,lg,dg,ex,sig,mo,da,q0,q1,q2⟩ _ _ _ _ _ _ _ _ _ w0 (by omega) HM HS HY HZ H4 H5 (by rw[e3]at *;exact H6)) (by simp only[nz,pz,aUB,aVL];rw[e1])
   have ey:IntKind.i64.wrap (0 - d.mag)=d.yv:=by have yn:=yN hn;rw[wr (by omega) (by omega),yn];omega
   generalize d.yv=y at *;subst ey;generalize d.mag=v at *;obtain⟨ng,lg,dg,ex,sig,mo,da,q0,q1,q2⟩:=d;simp only at hn nz;subst hn;exact zS (aEU ⟨true,lg,dg,ex,sig,mo,da,q0,q1,q2⟩ _ _ _ _ _ _ _ _ _ w0 (by omega) HM HS HY HZ H4 H5 (by rw[e3]at *;exact H6)) (by simp only[nz,pz,aUB,aVL];rw[e1])
 have H4:Same w0 75 #[.string d.mo] (.int .i64 (bJ d.mo)):=fun w _=>KQ d.mo w a md;have H5:=aJs (w0:=w0) y0 y1 m0 (show bJ d.mo<=24 by omega);have H6:=aJs (w0:=w0) y0 y1 (show 1<=bJ d.mo+1 by omega) (by omega);have gb:=aAN y0 y1 (show 1<=bJ d.mo+1 by omega) (by omega);have gc:=aAN y0 y1 m0 (show bJ d.mo<=24 by omega);have e1:IntKind.i64.wrap (LJ d.yv (bJ d.mo+1) - 1)=LJ d.yv (bJ d.mo+1) - 1:=wr (by omega) (by omega);have f1:st d.yv+nC d.yv (bJ d.mo)=LJ d.yv (bJ d.mo):=by unfold LJ;rw[aEo (by omega)]
 have f2:st d.yv+nC d.yv (bJ d.mo+1)=LJ d.yv (bJ d.mo+1):=by
  by_cases g:bJ d.mo=12
  . rw[g,show(12:Int)+1=13 by omega,aGM]
  unfold LJ;rw[aEo (by omega)]
 have nz:(d.mo.toList==(⟨#[]⟩:ByteArray).toList)=false:=by rw[JC,aBW (by omega)]
 have pz:decide (0<d.aH)=false:=aBW (by omega);have cz:d.aH<=0:=by omega
 have e3:IntKind.i64.wrap (bJ d.mo+1)=bJ d.mo+1:=wr (by omega) (by omega);rw[<-e3]at H6;simp only[aEg (show ¬bJ d.mo=0 by omega),aEg (show ¬ 12<bJ d.mo by omega),f1,f2];rcases hd with e|⟨e,k0,k1⟩
 . rw[aEm e,aEo rfl,aEo rfl];have ed:=MS e;clear f1 f2;generalize bJ d.mo=n at *;generalize d.aH=sc at *;cases hn:d.neg
   . have ey:=yP hn;rw[ey]at HY HZ H5 H6 e1 ⊢;generalize d.mag=v at *;obtain⟨ng,lg,dg,ex,sig,mo,da,q0,q1,q2⟩:=d;simp only at hn nz ed;subst hn;subst ed;exact zS (aEV ⟨false,lg,dg,ex,sig,mo,⟨#[]⟩,q0,q1,q2⟩ _ _ _ _ _ _ _ _ w0 cz HM HS HY HZ H4 H5 H6) (by simp only[nz,pz,aUB,aVL,e3];rw[e1])
   have ey:IntKind.i64.wrap (0 - d.mag)=d.yv:=by have yn:=yN hn;rw[wr (by omega) (by omega),yn];omega
   generalize d.yv=y at *;subst ey;generalize d.mag=v at *;obtain⟨ng,lg,dg,ex,sig,mo,da,q0,q1,q2⟩:=d;simp only at hn nz ed;subst hn;subst ed;exact zS (aEW ⟨true,lg,dg,ex,sig,mo,⟨#[]⟩,q0,q1,q2⟩ _ _ _ _ _ _ _ _ w0 cz HM HS HY HZ H4 H5 H6) (by simp only[nz,pz,aUB,aVL,e3];rw[e1])
 have H7:Same w0 75 #[.string d.da] (.int .i64 (bJ d.da)):=fun w _=>KQ d.da w e dd;rw[aEg (by omega),aEg (by omega)];have lb:=rZ d.yv (bJ d.mo);have dz:(d.da.toList==(⟨#[]⟩:ByteArray).toList)=false:=by rw[JC,aBW (by omega)]
 have k2:bJ d.da<=31:=by omega
 clear f1 f2 k1 lb;generalize bJ d.mo=n at *;generalize bJ d.da=k at *;generalize d.aH=sc at *;have e4:IntKind.i64.wrap (LJ d.yv n+k)=LJ d.yv n+k:=wr (by omega) (by omega);have e5:IntKind.i64.wrap (LJ d.yv n+k - 1)=LJ d.yv n+k - 1:=wr (by omega) (by omega);cases hn:d.neg
 . have ey:=yP hn;rw[ey]at HY HZ H5 H6 e4 e5 ⊢;generalize d.mag=v at *;obtain⟨ng,lg,dg,ex,sig,mo,da,q0,q1,q2⟩:=d;simp only at hn nz dz;subst hn;exact zS (aEX ⟨false,lg,dg,ex,sig,mo,da,q0,q1,q2⟩ _ _ _ _ _ _ _ _ _ w0 cz HM HS HY HZ H4 H5 H6 H7) (by simp only[nz,pz,dz,aUB,aVL,e4,e5])
 have ey:IntKind.i64.wrap (0 - d.mag)=d.yv:=by have yn:=yN hn;rw[wr (by omega) (by omega),yn];omega
 generalize d.yv=y at *;subst ey;generalize d.mag=v at *;obtain⟨ng,lg,dg,ex,sig,mo,da,q0,q1,q2⟩:=d;simp only at hn nz dz;subst hn;exact zS (aEY ⟨true,lg,dg,ex,sig,mo,da,q0,q1,q2⟩ _ _ _ _ _ _ _ _ _ w0 cz HM HS HY HZ H4 H5 H6 H7) (by simp only[nz,pz,dz,aUB,aVL,e4,e5])
end

section
open Go.RowKit Go.Lib
abbrev rE(k:Int)(d:Dt):Value:=.agg #[.int .u8 k,.bool d.neg,.bool d.long,.string d.dg,.int .i64 d.ex,.int .i64 d.sig,.string d.mo,.string d.da,.int .u8 d.m0,.int .u8 d.m1,.int .u8 d.m2]
abbrev UZ(x:Dt)(rg:Bool)(y:Dt):List Value:=[.bool x.neg,.bool x.long,.string x.dg,.int .i64 x.ex,.int .i64 x.sig,.string x.mo,.string x.da,.int .u8 x.m0,.int .u8 x.m1,.int .u8 x.m2,.bool rg,.bool y.neg,.bool y.long,.string y.dg,.int .i64 y.ex,.int .i64 y.sig,.string y.mo,.string y.da,.int .u8 y.m0,.int .u8 y.m1,.int .u8 y.m2]
abbrev itV(x:Dt)(rg:Bool)(y:Dt):Value:=.agg (UZ x rg y).toArray
theorem aKI: ∃i,prog.info? 5=some i:=⟨_,rfl⟩
theorem aD2(k n:Nat)(hk:k=n+1+1)(m0 m1 m2:Int): ∃r:Bool,∀w,(Op.equalIn k 28 (.agg #[.int .u8 m0,.int .u8 m1,.int .u8 m2]) (.agg #[.int .u8 0,.int .u8 0,.int .u8 0])).run prog w=.ok r w:=by
 subst hk;obtain⟨i,hi⟩:=aKI;have hc:prog.cellsOf 5=1:=by kernel_rfl
 by_cases h0:m0=0<;>by_cases h1:m1=0<;>by_cases h2:m2=0
 all_goals
  refine⟨?_,fun w=>?_⟩
  rotate_left
  . rw[run_equalIn_array w (n+1) _ _ underlying28 hi];simp[jW,Op.eqItems,go_sem,hc, *]
    try rfl
theorem aCD(d:Dt): ∃Z:Bool,ZU 30 (dP d) (dP z0) Z:=by
 obtain⟨r,hr⟩:=aD2 9999 9997 rfl d.m0 d.m1 d.m2;unfold dP z0;by_cases h:d.neg=false/\d.long=false/\d.dg.toList=[]/\d.ex=0/\d.sig=0/\d.mo.toList=[]/\d.da.toList=[]
 . obtain⟨h1,h2,h3,h4,h5,h6,h7⟩:=h;refine⟨r,fun w=>?_,fun w=>?_⟩
   . go_simp;cases r<;>rfl
   go_simp;cases r<;>rfl
 refine⟨false,fun w=>?_,fun w=>?_⟩
 . go_simp
   exact fun h1 h2 h3 h4 h5 h6 h7=>absurd ⟨h1,h2,h3,h4,h5,h6,h7⟩ h
 go_simp
 exact fun h1 h2 h3 h4 h5 h6 h7=>absurd ⟨h1,h2,h3,h4,h5,h6,h7⟩ h
def RI(f t:Dt):Bool:=f.UY&&(t.UY&&(decide (f.prec=t.prec)&& !decide (t.lo<f.lo)))
theorem x9{d:Dt}(h:d.UY=true):d.err=0/\d.vO=true/\d.prec≠0:=by
 unfold Dt.UY at h;simpa using h
theorem aRm{w0:World}(hst:SS w0){f t:Dt}(hf:Sm f)(ht:Sm t):Same w0 150 #[dP f,dP t] (.bool (RI f t)):=by
 have A:=sPl hst hf;have B:=sPl hst ht;unfold RI;cases e:f.UY
 . rw[e]at A;exact aPY f t w0 A
 rw [e]at A;cases g:t.UY
 . rw[g]at B;exact aPX f t w0 A B
 rw[g]at B;obtain⟨f1,f2,_⟩:=x9 e;obtain⟨t1,t2,_⟩:=x9 g;refine zS (aU9 f t _ _ _ _ _ _ w0 A B (sPc hst hf) (sPc hst ht) (aBT hst hf f1 f2) (aBT hst ht t1 t2)) ?_;by_cases p:f.prec=t.prec
 . by_cases c:f.lo<t.lo
   . simp[jW,p,c,show ¬t.lo<f.lo by omega]
   by_cases c2:t.lo<f.lo<;>simp[jW,p,c,c2]
 simp[jW,p]
end
section
open Go.RowKit
def dA(w:World)(p:Nat)(el:TypeId)(vs:List Value):Prop:= ∃c fr,w.heap[p]? =some (.cells c el fr)/\(∀i,i<c.size-> ¬(fr.1<=i/\i<fr.2))/\c.toList=vs
end

section
open Go.RowKit Go.Lib

abbrev eK:List AV:=[(qu 0),(qb 1),(qb 2),(qs 3),(qi 4),(qi 5),(qs 6),(qs 7),(qu 8),(qu 9),(qu 10),(qu 11),(qb 12),(qb 13),(qs 14),(qi 15),(qi 16),(qs 17),(qs 18),(qu 19),(qu 20),(qu 21),(qu 22),(qb 23),(qb 24),(qs 25),(qi 26),(qi 27),(qs 28),(qs 29),(qu 30),(qu 31),(qu 32),(EZ 33),(qb 34),(qb 35)]
abbrev dK:List AV:=[qf,qf,(.v (.string ⟨#[]⟩)),qz,qz,(.v (.string ⟨#[]⟩)),(.v (.string ⟨#[]⟩)),(.v (.int .u8 0)),(.v (.int .u8 0)),(.v (.int .u8 0))]
abbrev bK:List AV:=[(.v (.int .u8 0)),qf,qf,(.v (.string ⟨#[]⟩)),qz,qz,(.v (.string ⟨#[]⟩)),(.v (.string ⟨#[]⟩)),(.v (.int .u8 0)),(.v (.int .u8 0)),(.v (.int .u8 0))]
def yi0:AV:=bH 8 .i64 [(EZ 32)]
def yi1:AV:=.eP [qz,(.v (.int .i64 5))]
def yi2:List AV:=[(qb 0),(qb 1),(qs 2),(qi 3),(qi 4),(qs 5),(qs 6),(qu 7),(qu 8),(qu 9)]
def yi3:List AV:=[(qu 10),(qb 11),(qb 12),(qs 13),(qi 14),(qi 15),(qs 16),(qs 17),(qu 18),(qu 19),(qu 20)]
def yi4:List AV:=[(qu 21),(qb 22),(qb 23),(qs 24),(qi 25),(qi 26),(qs 27),(qs 28),(qu 29),(qu 30),(qu 31)]
def yi5:List AV:=[.v (.int .u8 1),(qb 0),(qb 1),(qs 2),(qi 3),(qi 4),(qs 5),(qs 6),(qu 7),(qu 8),(qu 9),(qu 10),(qb 11),(qb 12),(qs 13),(qi 14),(qi 15),(qs 16),(qs 17),(qu 18),(qu 19),(qu 20),(qu 21),(qb 22),(qb 23),(qs 24),(qi 25),(qi 26),(qs 27),(qs 28),(qu 29),(qu 30),(qu 31),(EZ 32),(qb 33),(qb 34)]
def yi6:List AV:=[.v (.int .u8 2),(qb 0),(qb 1),(qs 2),(qi 3),(qi 4),(qs 5),(qs 6),(qu 7),(qu 8),(qu 9),(qu 10),(qb 11),(qb 12),(qs 13),(qi 14),(qi 15),(qs 16),(qs 17),(qu 18),(qu 19),(qu 20),(qu 21),(qb 22),(qb 23),(qs 24),(qi 25),(qi 26),(qs 27),(qs 28),(qu 29),(qu 30),(qu 31),(EZ 32),(qb 33),(qb 34)]
def yi7:List AV:=[.v (.int .u8 3),(qb 0),(qb 1),(qs 2),(qi 3),(qi 4),(qs 5),(qs 6),(qu 7),(qu 8),(qu 9),(qu 10),(qb 11),(qb 12),(qs 13),(qi 14),(qi 15),(qs 16),(qs 17),(qu 18),(qu 19),(qu 20),(qu 21),(qb 22),(qb 23),(qs 24),(qi 25),(qi 26),(qs 27),(qs 28),(qu 29),(qu 30),(qu 31),(EZ 32),(qb 33),(qb 34)]
def yi8:List AV:=[.v (.int .u8 4),(qb 0),(qb 1),(qs 2),(qi 3),(qi 4),(qs 5),(qs 6),(qu 7),(qu 8),(qu 9),(qu 10),(qb 11),(qb 12),(qs 13),(qi 14),(qi 15),(qs 16),(qs 17),(qu 18),(qu 19),(qu 20),(qu 21),(qb 22),(qb 23),(qs 24),(qi 25),(qi 26),(qs 27),(qs 28),(qu 29),(qu 30),(qu 31),(EZ 32),(qb 33),(qb 34)]
theorem xF1(d f t:Dt)(bs:Option Addr)(n cp:Nat)(fk:Int)(tk:Int)(ey:Bool)(lt:Bool)(r:Int)(u:Bool)(w0:World) (H0:Same w0 60 #[(exV 1 d fk f tk t (.slice bs n cp) ey lt)] (.bool u))(H1:Same w0 61 #[(dP d)] (.int .i64 r)):Same w0 38 #[(exV 1 d fk f tk t (.slice bs n cp) ey lt)] (cond u (.tuple #[(.int .i64 0),(.int .i64 5)]) (.tuple #[(.int .i64 0),(.int .i64 r)])):=
 zc (.node 3 (qb 36) (qb 36) (.leaf yi1) (.leaf (.eP [qz,(qi 35)]))) [] [(60,[.agg yi5],(qb 36)),(61,[.agg yi2],(qi 35))] [.agg yi5] (lv (dL d) [.int .u8 fk,.bool f.neg,.bool f.long,.string f.dg,.int .i64 f.ex,.int .i64 f.sig,.string f.mo,.string f.da,.int .u8 f.m0,.int .u8 f.m1,.int .u8 f.m2,.int .u8 tk,.bool t.neg,.bool t.long,.string t.dg,.int .i64 t.ex,.int .i64 t.sig,.string t.mo,.string t.da,.int .u8 t.m0,.int .u8 t.m1,.int .u8 t.m2,(.slice bs n cp),.bool ey,.bool lt,.int .i64 r,.bool u]) .nil (.cons H0 (.cons H1 .nil))
theorem xF2(d f t:Dt)(bs:Option Addr)(n cp:Nat)(fk:Int)(tk:Int)(ey:Bool)(lt:Bool)(r:Int)(u:Bool)(w0:World) (H0:Same w0 60 #[(exV 2 d fk f tk t (.slice bs n cp) ey lt)] (.bool u))(H1:Same w0 62 #[(bV fk f),(bV tk t)] (.int .i64 r)):Same w0 38 #[(exV 2 d fk f tk t (.slice bs n cp) ey lt)] (cond u (.tuple #[(.int .i64 0),(.int .i64 5)]) (.tuple #[(.int .i64 0),(.int .i64 r)])):=
 zc (.node 3 (qb 36) (qb 36) (.leaf yi1) (.leaf (.eP [qz,(qi 35)]))) [] [(60,[.agg yi6],(qb 36)),(62,[.agg yi3,.agg yi4],(qi 35))] [.agg yi6] (lv (dL d) [.int .u8 fk,.bool f.neg,.bool f.long,.string f.dg,.int .i64 f.ex,.int .i64 f.sig,.string f.mo,.string f.da,.int .u8 f.m0,.int .u8 f.m1,.int .u8 f.m2,.int .u8 tk,.bool t.neg,.bool t.long,.string t.dg,.int .i64 t.ex,.int .i64 t.sig,.string t.mo,.string t.da,.int .u8 t.m0,.int .u8 t.m1,.int .u8 t.m2,(.slice bs n cp),.bool ey,.bool lt,.int .i64 r,.bool u]) .nil (.cons H0 (.cons H1 .nil))
theorem xF3(d f t:Dt)(bs:Option Addr)(n cp:Nat)(fk:Int)(tk:Int)(ey:Bool)(lt:Bool)(at_:Int)(r:Int)(u:Bool)(w0:World) (H0:Same w0 60 #[(exV 3 d fk f tk t (.slice bs n cp) ey lt)] (.bool u))(H1:Same w0 63 #[(exV 3 d fk f tk t (.slice bs n cp) ey lt)] (.tuple #[(.int .i64 at_),(.int .i64 r)])):Same w0 38 #[(exV 3 d fk f tk t (.slice bs n cp) ey lt)] (cond u (.tuple #[(.int .i64 0),(.int .i64 5)]) (cond (((n:Nat):Int)==0) (.tuple #[(.int .i64 0),(.int .i64 17)]) (cond (decide (256<((n:Nat):Int))) (.tuple #[(.int .i64 0),(.int .i64 3)]) (.tuple #[(.int .i64 at_),(.int .i64 r)])))):=
 zc (.node 3 (qb 37) (qb 37) (.leaf yi1) (.node 0 yi0 qz (.leaf (.eP [qz,(.v (.int .i64 17))])) (.node 1 (.v (.int .i64 256)) yi0 (.leaf (.eP [qz,(.v (.int .i64 3))])) (.leaf (.eP [(qi 35),(qi 36)]))))) [] [(60,[.agg yi7],(qb 37)),(63,[.agg yi7],.eP [(qi 35),(qi 36)])] [.agg yi7] (lv (dL d) [.int .u8 fk,.bool f.neg,.bool f.long,.string f.dg,.int .i64 f.ex,.int .i64 f.sig,.string f.mo,.string f.da,.int .u8 f.m0,.int .u8 f.m1,.int .u8 f.m2,.int .u8 tk,.bool t.neg,.bool t.long,.string t.dg,.int .i64 t.ex,.int .i64 t.sig,.string t.mo,.string t.da,.int .u8 t.m0,.int .u8 t.m1,.int .u8 t.m2,(.slice bs n cp),.bool ey,.bool lt,.int .i64 at_,.int .i64 r,.bool u]) .nil (.cons H0 (.cons H1 .nil))
theorem xF4(d f t:Dt)(bs:Option Addr)(n cp:Nat)(fk:Int)(tk:Int)(ey:Bool)(lt:Bool)(at_:Int)(r:Int)(u:Bool)(w0:World) (H0:Same w0 60 #[(exV 4 d fk f tk t (.slice bs n cp) ey lt)] (.bool u))(H1:Same w0 63 #[(exV 4 d fk f tk t (.slice bs n cp) ey lt)] (.tuple #[(.int .i64 at_),(.int .i64 r)])):Same w0 38 #[(exV 4 d fk f tk t (.slice bs n cp) ey lt)] (cond u (.tuple #[(.int .i64 0),(.int .i64 5)]) (cond (((n:Nat):Int)==0) (.tuple #[(.int .i64 0),(.int .i64 17)]) (cond (decide (256<((n:Nat):Int))) (.tuple #[(.int .i64 0),(.int .i64 3)]) (.tuple #[(.int .i64 at_),(.int .i64 r)])))):=
 zc (.node 3 (qb 37) (qb 37) (.leaf yi1) (.node 0 yi0 qz (.leaf (.eP [qz,(.v (.int .i64 17))])) (.node 1 (.v (.int .i64 256)) yi0 (.leaf (.eP [qz,(.v (.int .i64 3))])) (.leaf (.eP [(qi 35),(qi 36)]))))) [] [(60,[.agg yi8],(qb 37)),(63,[.agg yi8],.eP [(qi 35),(qi 36)])] [.agg yi8] (lv (dL d) [.int .u8 fk,.bool f.neg,.bool f.long,.string f.dg,.int .i64 f.ex,.int .i64 f.sig,.string f.mo,.string f.da,.int .u8 f.m0,.int .u8 f.m1,.int .u8 f.m2,.int .u8 tk,.bool t.neg,.bool t.long,.string t.dg,.int .i64 t.ex,.int .i64 t.sig,.string t.mo,.string t.da,.int .u8 t.m0,.int .u8 t.m1,.int .u8 t.m2,(.slice bs n cp),.bool ey,.bool lt,.int .i64 at_,.int .i64 r,.bool u]) .nil (.cons H0 (.cons H1 .nil))
theorem xCk(d f t:Dt)(bs:Option Addr)(n cp:Nat)(kd:Int)(fk:Int)(tk:Int)(ey:Bool)(lt:Bool)(at_:Int)(r:Int)(w0:World) (H0:Same w0 38 #[(exV kd d fk f tk t (.slice bs n cp) ey lt)] (.tuple #[(.int .i64 at_),(.int .i64 r)])):Same w0 19 #[(exV kd d fk f tk t (.slice bs n cp) ey lt)] (.int .i64 r):=
 zc (.leaf (qi 37)) [] [(38,[.agg eK],.eP [(qi 36),(qi 37)])] [.agg eK] (lv (oI kd d fk f tk t (.slice bs n cp) ey lt) [.int .i64 at_,.int .i64 r]) .nil (.cons H0 .nil)
theorem aU8(d f t:Dt)(bs:Option Addr)(n cp:Nat)(fk:Int)(tk:Int)(ey:Bool)(lt:Bool)(zf:Bool)(zt:Bool)(w0:World)(hzf:ZU 32 (rE fk f) (rE 0 z0) zf)(hzt:ZU 32 (rE tk t) (rE 0 z0) zt):Same w0 60 #[(exV 1 d fk f tk t (.slice bs n cp) ey lt)] (cond zf (cond zt (cond (((n:Nat):Int)==0) (cond ey (.bool true) (cond lt (.bool true) (.bool false))) (.bool true)) (cond (((n:Nat):Int)==0) (cond ey (.bool true) (cond lt (.bool true) (.bool true))) (.bool true))) (cond (((n:Nat):Int)==0) (cond ey (.bool true) (cond lt (.bool true) (.bool true))) (.bool true))):=
 zc (.node 3 (qb 35) (qb 35) (.node 3 (qb 36) (qb 36) (.node 0 yi0 qz (.node 3 (qb 33) (qb 33) (.leaf qt) (.node 3 (qb 34) (qb 34) (.leaf qt) (.leaf qf))) (.leaf qt)) (.node 0 yi0 qz (.node 3 (qb 33) (qb 33) (.leaf qt) (.node 3 (qb 34) (qb 34) (.leaf qt) (.leaf qt))) (.leaf qt))) (.node 0 yi0 qz (.node 3 (qb 33) (qb 33) (.leaf qt) (.node 3 (qb 34) (qb 34) (.leaf qt) (.leaf qt))) (.leaf qt))) [(32,.agg yi3,.agg bK,(qb 35)),(32,.agg yi4,.agg bK,(qb 36))] [] [.agg yi5] (lv (dL d) [.int .u8 fk,.bool f.neg,.bool f.long,.string f.dg,.int .i64 f.ex,.int .i64 f.sig,.string f.mo,.string f.da,.int .u8 f.m0,.int .u8 f.m1,.int .u8 f.m2,.int .u8 tk,.bool t.neg,.bool t.long,.string t.dg,.int .i64 t.ex,.int .i64 t.sig,.string t.mo,.string t.da,.int .u8 t.m0,.int .u8 t.m1,.int .u8 t.m2,(.slice bs n cp),.bool ey,.bool lt,.bool zf,.bool zt]) (.cons hzf (fun _ _ _=>⟨by kernel_rfl,by kernel_rfl⟩) (.cons hzt (fun _ _ _=>⟨by kernel_rfl,by kernel_rfl⟩) .nil)) .nil
theorem aU7(d f t:Dt)(bs:Option Addr)(n cp:Nat)(fk:Int)(tk:Int)(ey:Bool)(lt:Bool)(zd:Bool)(w0:World)(hzd:ZU 30 (dP d) (dP z0) zd):Same w0 60 #[(exV 2 d fk f tk t (.slice bs n cp) ey lt)] (cond zd (cond (((n:Nat):Int)==0) (cond ey (.bool true) (cond lt (.bool true) (.bool false))) (.bool true)) (cond (((n:Nat):Int)==0) (cond ey (.bool true) (cond lt (.bool true) (.bool true))) (.bool true))):=
 zc (.node 3 (qb 35) (qb 35) (.node 0 yi0 qz (.node 3 (qb 33) (qb 33) (.leaf qt) (.node 3 (qb 34) (qb 34) (.leaf qt) (.leaf qf))) (.leaf qt)) (.node 0 yi0 qz (.node 3 (qb 33) (qb 33) (.leaf qt) (.node 3 (qb 34) (qb 34) (.leaf qt) (.leaf qt))) (.leaf qt))) [(30,.agg yi2,.agg dK,(qb 35))] [] [.agg yi6] (lv (dL d) [.int .u8 fk,.bool f.neg,.bool f.long,.string f.dg,.int .i64 f.ex,.int .i64 f.sig,.string f.mo,.string f.da,.int .u8 f.m0,.int .u8 f.m1,.int .u8 f.m2,.int .u8 tk,.bool t.neg,.bool t.long,.string t.dg,.int .i64 t.ex,.int .i64 t.sig,.string t.mo,.string t.da,.int .u8 t.m0,.int .u8 t.m1,.int .u8 t.m2,(.slice bs n cp),.bool ey,.bool lt,.bool zd]) (.cons hzd (fun _ _ _=>⟨by kernel_rfl,by kernel_rfl⟩) .nil) .nil
theorem aU6(d f t:Dt)(bs:Option Addr)(n cp:Nat)(fk:Int)(tk:Int)(ey:Bool)(lt:Bool)(zd:Bool)(zf:Bool)(zt:Bool)(w0:World)(hzd:ZU 30 (dP d) (dP z0) zd)(hzf:ZU 32 (rE fk f) (rE 0 z0) zf)(hzt:ZU 32 (rE tk t) (rE 0 z0) zt):Same w0 60 #[(exV 3 d fk f tk t (.slice bs n cp) ey lt)] (cond zd (cond zf (cond zt (.bool false) (.bool true)) (.bool true)) (cond zf (cond zt (.bool true) (.bool true)) (.bool true))):=
 zc (.node 3 (qb 35) (qb 35) (.node 3 (qb 36) (qb 36) (.node 3 (qb 37) (qb 37) (.leaf qf) (.leaf qt)) (.leaf qt)) (.node 3 (qb 36) (qb 36) (.node 3 (qb 37) (qb 37) (.leaf qt) (.leaf qt)) (.leaf qt))) [(30,.agg yi2,.agg dK,(qb 35)),(32,.agg yi3,.agg bK,(qb 36)),(32,.agg yi4,.agg bK,(qb 37))] [] [.agg yi7] (lv (dL d) [.int .u8 fk,.bool f.neg,.bool f.long,.string f.dg,.int .i64 f.ex,.int .i64 f.sig,.string f.mo,.string f.da,.int .u8 f.m0,.int .u8 f.m1,.int .u8 f.m2,.int .u8 tk,.bool t.neg,.bool t.long,.string t.dg,.int .i64 t.ex,.int .i64 t.sig,.string t.mo,.string t.da,.int .u8 t.m0,.int .u8 t.m1,.int .u8 t.m2,(.slice bs n cp),.bool ey,.bool lt,.bool zd,.bool zf,.bool zt]) (.cons hzd (fun _ _ _=>⟨by kernel_rfl,by kernel_rfl⟩) (.cons hzf (fun _ _ _=>⟨by kernel_rfl,by kernel_rfl⟩) (.cons hzt (fun _ _ _=>⟨by kernel_rfl,by kernel_rfl⟩) .nil))) .nil
theorem aU5(d f t:Dt)(bs:Option Addr)(n cp:Nat)(fk:Int)(tk:Int)(ey:Bool)(lt:Bool)(zd:Bool)(zf:Bool)(zt:Bool)(w0:World)(hzd:ZU 30 (dP d) (dP z0) zd)(hzf:ZU 32 (rE fk f) (rE 0 z0) zf)(hzt:ZU 32 (rE tk t) (rE 0 z0) zt):Same w0 60 #[(exV 4 d fk f tk t (.slice bs n cp) ey lt)] (cond zd (cond zf (cond zt (.bool false) (.bool true)) (.bool true)) (cond zf (cond zt (.bool true) (.bool true)) (.bool true))):=
 zc (.node 3 (qb 35) (qb 35) (.node 3 (qb 36) (qb 36) (.node 3 (qb 37) (qb 37) (.leaf qf) (.leaf qt)) (.leaf qt)) (.node 3 (qb 36) (qb 36) (.node 3 (qb 37) (qb 37) (.leaf qt) (.leaf qt)) (.leaf qt))) [(30,.agg yi2,.agg dK,(qb 35)),(32,.agg yi3,.agg bK,(qb 36)),(32,.agg yi4,.agg bK,(qb 37))] [] [.agg yi8] (lv (dL d) [.int .u8 fk,.bool f.neg,.bool f.long,.string f.dg,.int .i64 f.ex,.int .i64 f.sig,.string f.mo,.string f.da,.int .u8 f.m0,.int .u8 f.m1,.int .u8 f.m2,.int .u8 tk,.bool t.neg,.bool t.long,.string t.dg,.int .i64 t.ex,.int .i64 t.sig,.string t.mo,.string t.da,.int .u8 t.m0,.int .u8 t.m1,.int .u8 t.m2,(.slice bs n cp),.bool ey,.bool lt,.bool zd,.bool zf,.bool zt]) (.cons hzd (fun _ _ _=>⟨by kernel_rfl,by kernel_rfl⟩) (.cons hzf (fun _ _ _=>⟨by kernel_rfl,by kernel_rfl⟩) (.cons hzt (fun _ _ _=>⟨by kernel_rfl,by kernel_rfl⟩) .nil))) .nil
end


section
open Go.RowKit Go.Lib
section
variable{w w':World}{p q:Nat}{el:TypeId}{vs us:List Value}
theorem aI(h:dA w p el vs){j:Nat}{v:Value}(hv:vs[j]? =some v):w.cell? ⟨p,j,none⟩=some v:=by
 obtain⟨c,fr,h1,_,rfl⟩:=h;have:c[j]? =some v:=by rw[<-aEt];exact hv
 simp[World.cell?,h1,this]
theorem aHi(h:dA w p el vs){j:Nat}(hj:j<vs.length):w.frozen? ⟨p,j,none⟩=false:=by
 obtain⟨c,fr,h1,h2,rfl⟩:=h;have:=h2 j (by simpa using hj);obtain⟨lo,hi⟩:=fr;simp[World.frozen?,h1];simp at this;omega
theorem aO(h:dA w p el vs):w.rangeAt p 0 vs:=fun j v hv=>by rw[aHG];exact aI h hv
theorem aX(h:dA w p el vs):w.there p 0 vs.length:=fun j hj=>by
 rw[aHG];exact⟨by rw[aI h (aE5 hj)];rfl,aHi h hj⟩
theorem aS(h:dA w p el vs):p<w.heap.size:=by
 obtain⟨c,fr,h1,_⟩:=h;by_cases hl:p<w.heap.size
 . exact hl
 rw[aL9 (by omega)]at h1;cases h1
theorem yL(h:dA w p el vs)(hb:Below w.heap.size w w'):dA w' p el vs:=by
 have hp:=aS h;obtain⟨c,fr,h1,h2,h3⟩:=h;exact⟨c,fr,(hb.block p hp).trans h1,h2,h3⟩
theorem jD:dA (w.alloc (.cells vs.toArray el)) w.heap.size el vs:=⟨vs.toArray,(0,0),aT2 w _,fun i _=>by simp,rfl⟩
theorem jC(h:dA w p el vs)(k:Nat)(v:Value):dA (w.setCell ⟨p,k,none⟩ v) p el (vs.set k v):=by
 obtain⟨c,fr,h1,h2,rfl⟩:=h;refine⟨c.setIfInBounds k v,fr,?_,fun i hi=>h2 i (by simpa using hi),by simp⟩;simp[World.setCell,aOc,h1]
theorem jU: ∀(us:List Value) (k:Nat) {w:World} {vs:List Value},dA w p el vs->k+us.length=vs.length->dA (w.setCells p k us) p el (vs.take k++us)
 |[],k,w,vs,h,e=>by
  have:vs.take k++[]=vs:=by rw[aO6,aSY (by simp at e;omega)]
  rw[this];exact h
 | u ::us,k,w,vs,h,e=>by
  have:=jU us (k+1) (jC h k u) (by simp at e ⊢;omega);have e2:(vs.set k u).take (k+1)++us=vs.take k++(u::us):=by
   have hk:k<vs.length:=by simp at e;omega
   apply aRt;intro j;rcases Nat.lt_trichotomy j k with h1|h1|h1
   . rw[aIG (by simp;omega),aIG (by simp;omega),aO2 (by omega),aO2 h1,aT6 (by omega)]
   . subst h1;rw[aIG (by simp;omega),aJk (by simp;omega),aO2 (by omega),aVD hk];simp[Nat.min_eq_left (aPt hk)]
   rw[aJk (by simp;omega),aJk (by simp;omega)];obtain⟨d,rfl⟩: ∃d,j=k+1+d:=⟨j - (k+1),by omega⟩;have e3:k+1+d - (List.take (k+1) (vs.set k u)).length=d:=by simp;omega
   have e4:k+1+d - (List.take k vs).length=d+1:=by simp;omega
   rw[e3,e4];rfl
  rw[e2]at this;exact this
theorem bM(h:dA w p el vs)(hl:us.length=vs.length):dA (w.setCells p 0 us) p el us:=by
 have:=jU us 0 h (by omega);simpa using this
theorem sS: ∀(us:List Value) (k:Nat) (w:World),(w.setCells p k us).heap.size=w.heap.size
 |[],_,_=>rfl
 |u::us,k,w=>(sS us (k+1) _).trans (by simp[World.setCell])
end
theorem dM{B b:Nat}{a:World}(hb:B<=b): ∀(us:List Value) (k:Nat) {w:World},Below B a w->Below B a (w.setCells b k us)
 |[],_,_,h=>h
 |u::us,k,_,h=>dM hb us (k+1) (h.setCell (p:=⟨b,k,none⟩) hb u)
section
variable{P:Program}
theorem V8{o:Oper}{a:Act}{w:World}{e:TypeId}{z:Array Value}(ho:o.op=.alloc e)(hz:(zeroValue e).run P w=.ok (.agg z) w):(execOp a.eval o).run P w=.ok (.value (.pointer (some ⟨w.heap.size,0,none⟩))) (w.alloc (.cells z e)):=by
 unfold execOp;simp[ho,Instr.alloc,hz,newVar,Go.newRow,Value.cells]
theorem VZ{o:Oper}{a:Act}{w:World}{e:TypeId}{x:Operand}{i b off:Nat}{fields:Array Field}{fl:Field}(ho:o.op=.fieldAddr e x i)(hx:a.eval x=.pointer (some ⟨b,off,none⟩))(hu:P.underlying e=some (.struct fields))(hf:fields[i]? =some fl)
 (hz:P.cellsOf fl.type≠0) (hi:(P.underlying fl.type).isSome=true):(execOp a.eval o).run P w=.ok (.value (.pointer (some ⟨b,off+fl.offset,none⟩))) w:=by
 have hsz:=@wL G0 P fl.type _ rfl (@rO G0 P fl.type hi) w;unfold execOp;simp only[ho,Instr.fieldAt,aDt,aEG hu w,aBF,hf,hx,Instr.sureAddr,aD0,fieldPlace,hsz,aEg hz,aSD]
theorem KA{o:Oper}{a:Act}{w:World}{f:FuncId}{fn:Func}{c:Code}{args:Array Operand}{ats:Array TypeId}(hop:o.op=.call ⟨.value (.func f),args,ats⟩)(hf:P.funcs[f]? =some fn)(hname:(fn.name== "runtime.NumGoroutine")=false)(hb:fn.body=some c):
 (execOp a.eval o).run P w=.ok (.enter f (args.map a.eval)) w:=by
 have h1:fn.name≠ "runtime.NumGoroutine" :=by simpa using hname
 have ef:a.eval (.func f)=.func (.func f) #[] #[]:=rfl;unfold execOp;simp[hop,resolve,Deferred.ofValue,invoke,ef,callFunc,hf,h1,hb]
abbrev key(o:Oper):Option (Tmp × Bool) × Option Tmp × Op:=(o.guard,o.dst,o.op)
theorem EX{α β:Type}{f:α->β}: ∀ {l:List α} {x:β} {t:List β},l.map f=x::t-> ∃a l',l=a::l'/\f a=x/\l'.map f=t
 |[],_,_,h=>by simp at h
 |a::l,x,t,h=>⟨a,l,rfl,(List.cons.inj h).1,(List.cons.inj h).2⟩
theorem aGY{α β:Type}{f:α->β}{l:List α}(h:l.map f=[]):l=[]:=by simpa using h
def jV:Code->List Oper
 | .region _ ops _=>ops.toList
 |_=>[]
def jH:Code->Bool
 | .region _ _ b=>b
 |_=>true
theorem aHD{a:Act}{j:Nat}{u:Value}(h:a.tmps[j]? =some u):a.eval (.tmp j)=u:=by
 simp[Act.eval,h]
end
section
variable{P:Program}
theorem J9{o:Oper}{a:Act}{w:World}{x:Operand}(ho:o.op=.move x\/o.op=.assign x){v:Value}(hx:a.eval x=v):(execOp a.eval o).run P w=.ok (.value v) w:=by
 subst hx;unfold execOp;rcases ho with ho|ho<;>simp[ho]
theorem VX{o:Oper}{a:Act}{w:World}{t el:TypeId}{x y:Operand}{g off n cp sz:Nat}{i:Nat}(ho:o.op=.indexAddr t x y)(hx:a.eval x=.slice (some ⟨g,off,none⟩) n cp)(hy:a.eval y=.int .i64 i)(hi:i<n)
 (hu:P.underlying t=some (.slice el)) (hz:(P.info? el).map (·.size)=some sz):(execOp a.eval o).run P w=.ok (.value (.pointer (some ⟨g,off+i * sz,none⟩))) w:=by
 have h1:(0:Int)<=(i:Int)/\(i:Int)<(n:Int):=⟨by omega,by omega⟩;cases hq:P.info? el with
 |none=>simp[hq]at hz
 |some q=>
  have hs:q.size=sz:=by simpa[hq]using hz
  unfold execOp;simp[ho,hx,hy,Instr.indexAt,aEG hu,asIntOf,sizeOf,typeInfo,hq,hs,h1,aSD];intro c;omega
end
section
variable{P:Program}
theorem aAs{o:Oper}{a:Act}{w:World}{e:TypeId}{z:Value}(ho:o.op=.alloc e)(hz:(zeroValue e).run P w=.ok z w)(hc:z.cells= #[z]):(execOp a.eval o).run P w=.ok (.value (.pointer (some ⟨w.heap.size,0,none⟩))) (w.alloc (.cells #[z] e)):=by
 unfold execOp;simp[ho,Instr.alloc,hz,newVar,Go.newRow,hc]
theorem run_storeVar_one(w:World)(b o:Nat)(ty:TypeId)(v:Value)(hc:v.cells= #[v])(ht:w.there b o 1)(hi:(P.info? ty).map (·.size)=some 1)(h1:v.oneCell'=true):
 (storeVar ty ⟨b,o,none⟩ v).run P w=.ok () (w.setCells b o [v]):=by
 have:=run_storeCells_cells (P:=P) b o [v] 0 w (fun j hj=>by simpa using (ht j (by simpa using hj)).1) (fun j hj=>by simpa using (ht j (by simpa using hj)).2)
  (fun u hu=>by rw[aL8.1 hu];exact h1)
 cases hq:P.info? ty with
 |none=>simp[hq]at hi
 |some i=>
  have hs:i.size=1:=by simpa[hq]using hi
  simp only[aN6]at this;simp[storeVar,sizeOf,typeInfo,hq,hc,hs,this]
end
abbrev lK:=Dt × Bool × Dt
abbrev lK.l(x:lK):List Value:=UZ x.1 x.2.1 x.2.2
abbrev lK.v(x:lK):Value:=itV x.1 x.2.1 x.2.2
abbrev bQ:lK:=(z0,false,z0)
def gW(w:World)(bs:Option Addr)(L:List lK):Prop:= ∀i,i<L.length-> ∃g o,bs=some ⟨g,o,none⟩/\g<w.heap.size/\w.rangeAt g (o+i * 21) (L.getD i bQ).l
theorem gW.later{w w':World}{bs:Option Addr}{L:List lK}(h:gW w bs L)(hb:Below w.heap.size w w'):gW w' bs L:=fun i hi=>by
 obtain⟨g,o,e,hg,hr⟩:=h i hi;exact⟨g,o,e,aG0 hg hb.size,fun j v hv=>(hb.cell (p:=⟨g,_,none⟩) hg).trans (hr j v hv)⟩
theorem aAn{w w':World}{f:FuncId}{args:Array Value}{v:Value}(h:Same w f args v)(hb:Below w.heap.size w w'):Same w' f args v:=fun u hu=>h u (aYR hb hu)
end


section
def FR(r:Option Nat):Fence:={ Fence.wide with round:=r }
theorem aHl{r:Option Nat}{p:Prop}(h:(FR r).depth.isSome=true):p:=absurd (show false=true from h) (by decide)
def aYM(W W':World):Prop:=W'.os=W.os/\W'.tape=W.tape/\W'.output=W.output
theorem aYM.refl(W:World):aYM W W:=⟨rfl,rfl,rfl⟩
theorem aYM.trans{W W1 W2:World}(h:aYM W W1)(k:aYM W1 W2):aYM W W2:=⟨k.1.trans h.1,k.2.1.trans h.2.1,k.2.2.trans h.2.2⟩
def Rest(B:Nat->Prop)(W W':World):Prop:=W.heap.size<=W'.heap.size/\(∀b,b<W.heap.size-> ¬B b->W'.heap[b]? =W.heap[b]?)/\aYM W W'
def Grow(B:Nat->Prop)(W:World)(B':Nat->Prop):Prop:= ∀b,B' b->B b\/W.heap.size<=b
structure aYK(I:Nat->(Nat->Prop)->World->Prop):Prop where
 lt: ∀k B W,I k B W-> ∀b,B b->b<W.heap.size
 keep: ∀k B W W',I k B W->W.heap.size<=W'.heap.size->(∀b,B b->W'.heap[b]? =W.heap[b]?)->I k B W'
def Go1(I:Nat->(Nat->Prop)->World->Prop)(k:Nat)(B:Nat->Prop)(W W':World):Prop:= ∃B',I k B' W'/\Rest B W W'/\Grow B W B'
theorem Rest.refl(B:Nat->Prop)(W:World):Rest B W W:=⟨aC4 _,fun _ _ _=>rfl,aYM.refl _⟩
theorem Rest.trans{B B':Nat->Prop}{W W1 W2:World}(h:Rest B W W1)(g:Grow B W B')(k:Rest B' W1 W2):Rest B W W2:=
 ⟨aKM h.1 k.1,fun b h1 h2=>(k.2.1 b (aG0 h1 h.1) (fun h3=>(g b h3).elim h2 (fun h4=>by omega))).trans (h.2.1 b h1 h2),h.2.2.trans k.2.2⟩
theorem Grow.trans{B B' B2:Nat->Prop}{W W1:World}(h:Grow B W B')(hs:W.heap.size<=W1.heap.size)(k:Grow B' W1 B2):Grow B W B2:=
 fun b hb=>(k b hb).elim (h b) (fun h=>.inr (aKM hs h))
theorem Go1.trans{I:Nat->(Nat->Prop)->World->Prop}{k:Nat}{B B':Nat->Prop}{W W1 W2:World}(h:Rest B W W1)(g:Grow B W B')(hk:Go1 I k B' W1 W2):Go1 I k B W W2:=
 let⟨B2,h1,h2,h3⟩:=hk;⟨B2,h1,h.trans g h2,g.trans h.1 h3⟩
def Yd(P:Program)(l:Nat)(enc:Nat->World->Array Value)(J:Nat->(Nat->Prop)->World->Prop)(N:Nat):Prop:=
 ∀k B W,k<N->J k B W->YieldAt (FR none) 0 P l (enc k W) W fun e W'=>e=.returned (.bool true)/\Go1 J (k+1) B W W'
def It(P:Program)(gf:Nat)(lb:Array Value)(enc:Nat->World->Array Value)(N:Nat)(Rd:World->Prop)(B0:Nat->Prop)(w:World):Prop:=
 ∀l J,aYK J->(∀k B W,J k B W->Rd W)->Yd P l enc J N-> ∀B W,J 0 B W->Rest (fun _=>False) w W->(∀b,B b->B0 b\/w.heap.size<=b)->
  CallsIn (FR none) 0 P gf (#[.func (.yield l) #[] #[]]++lb) W fun e W'=>(∃v,e=.returned v)/\Go1 J N B W W'
theorem CO{W:World}{l b:Nat}{o:Obj}(h:b≠l):(W.putObj l o).heap[b]? =W.heap[b]? :=aSE h
theorem WG{P:Program}{g:Operand}{ps:Array Tmp}{assign body:Code}{Q:Exit->Act->World->Prop}{a:Act}{w:World}{gf:Nat}{lb:Array Value}{enc:Nat->World->Array Value}{N:Nat}
 {I:Nat->(Nat->Prop)->World->Prop} {Ax:Nat->Act->(Nat->Prop)->World->Prop} {Rd:World->Prop} {B0:Nat->Prop} (hI:aYK I) (hAx: ∀a',aYK fun k=>Ax k a')
 (hg:a.eval g=.func (.func gf) #[] lb) (eg: ∀args w,(callFunc gf args).run P w=.ok (.enter gf args) w) (hps: ∀k W,(enc k W).size=ps.size) (h0:I 0 B0 w) (hR: ∀k B W,I k B W->Rd W)
 (hit:It P gf lb enc N Rd B0 w)
 (hassign: ∀l k B W,k<N->I k B W->assign.wpIn (FR (some l)) 0 P (Exit.then (fun a' W'=> ∃B',Ax k a' B' W'/\Rest B W W'/\Grow B W B') (fun _ _ _=>False)) { tmps:=(ps.zip (enc k W)).foldl (fun t (p,v)=>t.setIfInBounds p v) a.tmps,defers:=[] } W)
 (hbody: ∀l k a' B W,k<N->Ax k a' B W->body.wpIn (FR (some l)) 0 P (fun e _ W'=>e=.normal/\Go1 I (k+1) B W W') a' W)
 (hdone: ∀D B' W',I N B' W'->Rest B0 w W'->Grow B0 w B'->w.heap.size<=D-> ¬B' D->W'.heap[D]? =some (.deferred (some []))->Q .normal { a with defers:={ target:=.collected D,args:= #[] }::a.defers } W'):
 (Code.rangeFunc g ps assign body).wpIn (FR none) 0 P Q a w:=by
 refine wpIn_rangeFunc (fun fn _=>?_);obtain⟨rec,hrec⟩: ∃rec:LoopState->Loop,rec=fun st=>{ state:=st,pending:=none,fn,tmps:=a.tmps,params:=ps,assign,body,defers:=w.heap.size }:=⟨_,rfl⟩;obtain⟨L,hL⟩: ∃L,L=w.heap.size+1:=⟨_,rfl⟩;obtain⟨W1,hW1⟩: ∃W1,W1=(w.alloc (.deferred (some []))).alloc (.loop (rec .ready)):=⟨_,rfl⟩;have hs1:W1.heap.size=w.heap.size+2:=by rw[hW1];simp
 have l1:W1.heap[L]? =some (.loop (rec .ready)):=by
  rw[hW1,hL];have:=aT2 (w.alloc (.deferred (some []))) (.loop (rec .ready));rwa[World.size_alloc]at this
 have d1:W1.heap[w.heap.size]? =some (.deferred (some [])):=by
  rw[hW1];exact(aUI _ _ _ (by simp)).trans (aT2 w _)
 have r1:Rest (fun _=>False) w W1:=⟨by omega,fun b hb _=>by rw[hW1];exact(aUI _ _ _ (by simp;omega)).trans (aUI _ _ _ hb),by rw[hW1];exact⟨rfl,rfl,rfl⟩⟩;have i1:I 0 B0 W1:=hI.keep _ _ _ _ h0 (by omega) (fun b hb=>r1.2.1 b (hI.lt _ _ _ h0 b hb) (fun h=>h))
 let J:Nat->(Nat->Prop)->World->Prop:=fun k B W=> ∃B1,I k B1 W/\(∀b,B b↔B1 b\/b=w.heap.size\/b=L)/\ ¬B1 w.heap.size/\ ¬B1 L/\W.heap[L]? =some (.loop (rec .ready))/\W.heap[w.heap.size]? =some (.deferred (some []))
 have hJ:aYK J:=by
  refine⟨fun k B W h b hb=>?_,fun k B W W' h hs hk=>?_⟩
  . obtain⟨B1,h1,h2,_,_,h3,h4⟩:=h;rcases(h2 b).1 hb with h|rfl|rfl
    . exact hI.lt _ _ _ h1 b h
    . exact(aEH.1 h4).1
    exact(aEH.1 h3).1
  obtain⟨B1,h1,h2,n1,n2,h3,h4⟩:=h;exact⟨B1,hI.keep _ _ _ _ h1 hs (fun b hb=>hk b ((h2 b).2 (.inl hb))),h2,n1,n2,(hk L ((h2 L).2 (.inr (.inr rfl)))).trans h3,(hk _ ((h2 _).2 (.inr (.inl rfl)))).trans h4⟩
 have hY :Yd P L enc J N:=by
  rintro k B W hk ⟨B1,h1,h2,n1,n2,hl,hd⟩;have hlL:L<W.heap.size:=(aEH.1 hl).1;have hlD:w.heap.size<W.heap.size:=by omega
  have hy:=run_yield (P:=P) (args:=enc k W) hl (by rw[hrec];exact hps k W);rw[hrec]at hy;refine⟨fn,_,assign,body,hy,roundIn_of_wpIn trivial (wpIn_mono (hassign L k B1 W hk h1) ?_)⟩;clear hy;rintro e a' Wa hq;cases e with
  |normal=>
   obtain⟨B2,hax,ra,ga⟩:=hq;have nL: ¬B2 L:=fun h=>(ga L h).elim n2 (fun h=>by omega);have nD: ¬B2 w.heap.size:=fun h=>(ga _ h).elim n1 (fun h=>by omega);have hla:Wa.heap[L]? =some (.loop (rec .ready)):=(ra.2.1 L hlL n2).trans hl;have hda:Wa.heap[w.heap.size]? =some (.deferred (some [])):=(ra.2.1 _ hlD n1).trans hd;have sa:=ra.1;refine⟨_,run_beginRound hla (by rw[hrec]),?_⟩;have hl2:(Wa.putObj L (.loop { rec .ready with state:=.busy })).heap[L]? =some (.loop { rec .ready with state:=.busy }):=aPq (by omega);have o2:aYM Wa (Wa.putObj L (.loop { rec .ready with state:=.busy })):=⟨rfl,rfl,rfl⟩;have k2: ∀b,b≠L->(Wa.putObj L (.loop { rec .ready with state:=.busy })).heap[b]? =Wa.heap[b]? :=fun b hb=>aSE hb;have s2:(Wa.putObj L (.loop { rec .ready with state:=.busy })).heap.size=Wa.heap.size:=by simp
   generalize Wa.putObj L (.loop { rec .ready with state:=.busy })=W2 at hl2 k2 s2 o2 ⊢;have aWD:Ax k a' B2 W2:=(hAx a').keep _ _ _ _ hax (by omega) (fun b hb=>k2 b (fun e=>nL (e ▸ hb)));refine wpIn_mono (hbody L k a' B2 W2 hk aWD) ?_;rintro e a3 W3 ⟨rfl,B3,hi3,r3,g3⟩;have nL3: ¬B3 L:=fun h=>(g3 L h).elim nL (fun h=>by omega);have nD3: ¬B3 w.heap.size:=fun h=>(g3 _ h).elim nD (fun h=>by omega);have hl3:=(r3.2.1 L (by omega) nL).trans hl2;have hd3:=(r3.2.1 w.heap.size (by omega) nD).trans ((k2 _ (by omega)).trans hda);have s3:=r3.1;have hend:=run_endRound (P:=P) none hl3;have e3:({ ({ rec .ready with state:=.busy }:Loop)with state:=if(none:Option Code).isNone then .ready else .done,pending:=none }:Loop)=rec .ready:=by rw[hrec];rfl
   rw[e3]at hend;have k4: ∀b,b≠L->(W3.putObj L (.loop (rec .ready))).heap[b]? =W3.heap[b]? :=fun b hb=>aSE hb;have l4:(W3.putObj L (.loop (rec .ready))).heap[L]? =some (.loop (rec .ready)):=aPq (by omega);have s4:(W3.putObj L (.loop (rec .ready))).heap.size=W3.heap.size:=by simp
   refine⟨_,_,hend,rfl,fun b=>B3 b\/b=w.heap.size\/b=L,⟨B3,hI.keep _ _ _ _ hi3 (by omega) (fun b hb=>k4 b (fun e=>nL3 (e ▸ hb))),fun b=>aXT,nD3,nL3,l4,(k4 _ (by omega)).trans hd3⟩,⟨by omega,fun b hb hn=>?_,ra.2.2.trans (o2.trans (r3.2.2.trans ⟨rfl,rfl,rfl⟩))⟩,fun b hb=>?_⟩
   . have q: ¬B1 b/\b≠w.heap.size/\b≠L:=⟨fun h=>hn ((h2 b).2 (.inl h)),fun h=>hn ((h2 b).2 (.inr (.inl h))),fun h=>hn ((h2 b).2 (.inr (.inr h)))⟩;have q2: ¬B2 b:=fun h=>(ga b h).elim q.1 (fun h=>by omega);exact(k4 b q.2.2).trans ((r3.2.1 b (by omega) q2).trans ((k2 b q.2.2).trans (ra.2.1 b hb q.1)))
   rcases hb with hb|hb
   . rcases g3 b hb with h|h
     . rcases ga b h with h|h
       . exact .inl ((h2 b).2 (.inl h))
       exact .inr h
     exact .inr (by omega)
   exact .inl ((h2 b).2 (.inr hb))
  |_=>exact hq.elim
 refine⟨L,[{ target:=.collected w.heap.size,args:= #[] }],W1,{ target:=.fn (.func gf) lb,args:= #[.func (.yield L) #[] #[]] },W1,gf,#[.func (.yield L) #[] #[]]++lb,W1,?_,?_,fun _ _=>trivial,?_,aHl,?_⟩
 . rw[hW1,hL,hrec];exact run_enterLoop_outer _ _ _ _ _
 . simp only[resolve,hg];simp[go_sem]
 . simp[invoke,go_sem,eg]
 have nB: ∀b,B0 b->b<w.heap.size:=hI.lt _ _ _ h0;refine(hit L J hJ (fun k B W ⟨B1,h,_⟩=>hR k B1 W h) hY (fun b=>B0 b\/b=w.heap.size\/b=L) W1 ⟨B0,i1,fun b=>aXT,fun h=>by have:=nB _ h;omega,fun h=>by have:=nB _ h;omega,l1,d1⟩ r1 (fun b hb=>hb.imp id (fun h=>by omega))).mono ?_;rintro e W2 ⟨⟨v,rfl⟩,B2,⟨B3,hi,hB,n1,n2,hl,hd⟩,r2,g2⟩;have hlL:L<W2.heap.size:=(aEH.1 hl).1;obtain⟨o,ho⟩: ∃o,o=Obj.loop { rec .ready with state:=.exhausted }:=⟨_,rfl⟩;have hend:=run_endLoop (P:=P) hl (by rw[hrec];simp);rw[show (rec .ready).pending=none by rw[hrec]]at hend;have hend:(Instr.endLoop L).run P W2=.ok none (W2.putObj L o):=by rw[ho,hend,hrec]
 have k4: ∀b,b≠L->(W2.putObj L o).heap[b]? =W2.heap[b]? :=fun b hb=>aSE hb;have s4:(W2.putObj L o).heap.size=W2.heap.size:=by simp
 have s2:=r2.1;refine⟨none,_,hend,?_⟩;refine hdone w.heap.size B3 _ (hI.keep _ _ _ _ hi (by omega) (fun b hb=>k4 b (fun e=>n2 (e ▸ hb)))) ⟨by omega,fun b hb hn=>?_,r1.2.2.trans (r2.2.2.trans ⟨rfl,rfl,rfl⟩)⟩ (fun b hb=>?_) (aC4 _) n1 ((k4 _ (by omega)).trans hd)
 . exact(k4 b (by omega)).trans ((r2.2.1 b (by omega) (fun h=>h.elim hn (fun h=>by omega))).trans (r1.2.1 b hb (fun h=>h)))
 rcases g2 b ((hB b).2 (.inl hb))with(h|h)|h
 . exact .inl h
 . exact .inr (by omega)
 exact .inr (by omega)
end
section
open Go.RowKit
section
variable{P:Program}{r:Option Nat}{n:Nat}{ops:Array Oper}{Q:Exit->Act->World->Prop}
def XG(o:Oper):Bool:=match o.op with
 | .defer _=>false
 |_=>true
theorem aKu{o:Oper}(h:XG o=true): ∀c,o.op≠ .defer c:=fun c e=>by unfold XG at h;rw[e]at h;cases h
theorem wS{o:Oper}{a:Act}{w:World}{next:Act->World->Prop}(hd:XG o=true)(h:o.wp P a w next Q):o.wpIn (FR r) n P a w next Q:=IW (.inr (aKu hd)) h
end
structure Sl(N:Nat)(S:List (Nat × Value))(a:Act)(ds:List Deferred:=[]):Prop where
 size:a.tmps.size=N
 defs:a.defers=ds
 val: ∀e ∈ S,a.tmps[e.1]? =some e.2
section
variable{N:Nat}{S:List (Nat × Value)}{a:Act}{ds:List Deferred}
theorem J5(h:Sl N S a ds){k:Nat}{v:Value}(hm:(k,v) ∈ S):a.eval (.tmp k)=v:=aHD (h.val _ hm)
theorem aM3{S':List (Nat × Value)}(h:Sl N S a ds)(hs: ∀e ∈ S',e ∈ S):Sl N S' a ds:=⟨h.size,h.defs,fun e he=>h.val e (hs e he)⟩
theorem qK(h:Sl N S a ds){d:Nat}{v:Value}(hd:d<N):Sl N ((d,v)::S.filter (fun e=>e.1 !=d)) (a.put (some d) v) ds:=by
 refine⟨by simp[Act.put,h.size],h.defs,fun e he=>?_⟩;rcases aLr.1 he with rfl|he
 . simp[Act.put,h.size,hd]
 obtain⟨h1,h2⟩:=aTr.1 he;have hne:d≠e.1:=fun c=>by rw[c]at h2;simp at h2
 simp only[Act.put];rw[aJN hne];exact h.val e h1
theorem aM4(h:Sl N S a ds){k:Nat}{v:Value}(hm:(k,v) ∈ S):a.tmps[k]? =some v:=h.val _ hm
theorem aJn{k:Nat}{v:Value}(h:a.tmps[k]? =some v)(hs:Sl N S a ds):Sl N ((k,v)::S) a ds:=⟨hs.size,hs.defs,fun e he=>(aLr.1 he).elim (fun c=>c ▸ h) (hs.val e)⟩
theorem aAi(h:Sl N S a ds):Sl N [] a ds:=⟨h.size,h.defs,fun e he=>(aSU he).elim⟩
end
def bF:List Nat->Code->Code
 |[],c=>c
 |0::t,.seq a _=>bF t a
 |_::t,.seq _ b=>bF t b
 |0::t,.cond _ a _=>bF t a
 |_::t,.cond _ _ b=>bF t b
 |_::t,.block _ c=>bF t c
 |_::t,.loop c=>bF t c
 |_::t,.scope c=>bF t c
 |0::t,.rangeFunc _ _ a _=>bF t a
 |_::t,.rangeFunc _ _ _ b=>bF t b
 |_,c=>c
def kY:Op->Bool
 | .defer _=>true
 |_=>false
section
variable{P:Program}{r:Option Nat}{n N:Nat}{ops:Array Oper}{Q:Exit->Act->World->Prop}{S:List (Nat × Value)}{a:Act}{ds:List Deferred}{l:List Oper}{p:Op}{ks:List (Option (Tmp × Bool) × Option Tmp × Op)}{W W':World}
theorem aEe:(FR r).depth.isSome=true->1<=n:=fun h=>by cases h
theorem QW{o:Oper}(hw:Region.wanted o (yielded ops a.tmps)=true)(hn:kY o.op=false){x:Value}(hrun:(execOp a.eval o).run P W=.ok (.value x) W'\/x=undef/\(execOp a.eval o).run P W=.ok .skip W')
 {rest:List Oper} (k:wpListIn (FR r) n P ops Q rest (a.put o.dst x) W'):wpListIn (FR r) n P ops Q (o::rest) a W:=by
 unfold wpListIn;rw[aEo hw];refine wS (by unfold XG;cases ho:o.op<;>first|rfl|(rw[ho]at hn;cases hn)) ?_;unfold Oper.wp;rcases hrun with hr|⟨rfl,hr⟩<;>rw[hr]<;>exact k
theorem O5{o:Oper}(h:o.guard=none){y:Nat->Option Bool}:Region.wanted o y=true:=by unfold Region.wanted;rw[h]
section
variable{d:Nat}{v:Value}(hk:l.map key=(none,some d,p)::ks)(h:Sl N S a ds)(hp:kY p=false)(hd:d<N)
include hk h hp hd
theorem sv(hrun: ∀o:Oper,o.op=p->(execOp a.eval o).run P W=.ok (.value v) W')
 (k: ∀l a,l.map key=ks->Sl N ((d,v)::S.filter (fun e=>e.1 !=d)) a ds->wpListIn (FR r) n P ops Q l a W'):wpListIn (FR r) n P ops Q l a W:=by
 obtain⟨o,l',rfl,e,hm⟩:=EX hk;simp only[key,aNS]at e;obtain⟨hg,hd',rfl⟩:=e;refine QW (O5 hg) hp (.inl (hrun o rfl)) ?_;rw[hd'];exact k l' _ hm (qK h hd)
theorem sc{f:FuncId}{args:Array Value}{R:Ending->World->Prop}(hrun: ∀o:Oper,o.op=p->(execOp a.eval o).run P W=.ok (.enter f args) W)(hc:Calls P f args W R)
 (k: ∀e W1,R e W1-> ∃v,e=.returned v/\ ∀l a,l.map key=ks->Sl N ((d,v)::S.filter (fun e=>e.1 !=d)) a ds->wpListIn (FR r) n P ops Q l a W1):wpListIn (FR r) n P ops Q l a W:=by
 obtain⟨o,l',rfl,e,hm⟩:=EX hk;simp only[key,aNS]at e;obtain⟨hg,hd',rfl⟩:=e;unfold wpListIn;rw[aEo (O5 hg)];refine wS (by unfold XG;cases ho:o.op<;>first|rfl|(rw[ho]at hp;cases hp)) ?_;unfold Oper.wp;rw[hrun o rfl,aVR];refine hc.mono fun e W1 hR=>?_;obtain⟨v,rfl,hk'⟩:=k e W1 hR;show wpListIn (FR r) n P ops Q l' (a.put o.dst v) W1;rw[hd'];exact hk' l' _ hm (qK h hd)
end
theorem ss{g:Option Tmp}(hk:l.map key=(none,none,p)::ks)(h:Sl N S a ds)(hp:kY p=false)(hrun: ∀o:Oper,o.op=p->(execOp a.eval o).run P W=.ok .skip W')
 (k: ∀l,l.map key=ks->wpListIn (FR r) n P ops Q l a W'):wpListIn (FR r) n P ops Q l a W:=by
 obtain⟨o,l',rfl,e,hm⟩:=EX hk;simp only[key,aNS]at e;obtain⟨hg,hd',rfl⟩:=e;refine QW (x:=undef) (O5 hg) hp (.inr ⟨rfl,hrun o rfl⟩) ?_;rw[hd'];exact k l' hm
theorem s0(hk:l.map key=[])(k:Q .normal a W):wpListIn (FR r) n P ops Q l a W:=by
 rw[aGY hk];exact k
theorem aBK{o:Oper}{j:Nat}{b:Bool}{d:Nat}{g0:Option (Tmp × Bool)}{p0:Op}{K:List (Option (Tmp × Bool) × Option Tmp × Op)}(hK:ops.toList.map key=K)(hj:K[j]? =some (g0,some d,p0))(hg:o.guard=some (j,b)){b':Bool}(h:Sl N S a ds)(hm:(d,.bool b') ∈ S):
 Region.wanted o (yielded ops a.tmps)=(b'==b):=by
 have h1:(ops[j]?).bind (·.dst)=some d:=by
  rw[<-hK,aEC]at hj;rw[<-aEt];cases ho:ops.toList[j]? with
  |none=>rw[ho]at hj;cases hj
  |some o=>rw[ho]at hj;simp only[aLw,aPb,key,aNS]at hj;simp[hj.2.1]
 have h2:yielded ops a.tmps j=some b':=by unfold yielded;rw[h1,aPi,h.val _ hm]
 unfold Region.wanted;rw[hg];show(yielded ops a.tmps j==some b)=_;rw[h2];cases b<;>cases b'<;>rfl
theorem sg{j:Nat}{b:Bool}{d d0:Nat}{v:Value}{g0:Option (Tmp × Bool)}{p0:Op}{K:List (Option (Tmp × Bool) × Option Tmp × Op)}(hK:ops.toList.map key=K)(hk:l.map key=(some (j,b),some d,p)::ks)(h:Sl N S a ds)(hj:K[j]? =some (g0,some d0,p0))(hm:(d0,.bool b) ∈ S)(hp:kY p=false)(hd:d<N)
 (hrun: ∀o:Oper,o.op=p->(execOp a.eval o).run P W=.ok (.value v) W')
 (k: ∀l a,l.map key=ks->Sl N ((d,v)::S.filter (fun e=>e.1 !=d)) a ds->wpListIn (FR r) n P ops Q l a W'):wpListIn (FR r) n P ops Q l a W:=by
 obtain⟨o,l',rfl,e,hl⟩:=EX hk;simp only[key,aNS]at e;obtain⟨hg,hd',rfl⟩:=e;refine QW ((aBK hK hj hg h hm).trans (by cases b<;>rfl)) hp (.inl (hrun o rfl)) ?_;rw[hd'];exact k l' _ hl (qK h hd)
theorem sx{j:Nat}{b:Bool}{d d0:Nat}{g0:Option (Tmp × Bool)}{p0:Op}{K:List (Option (Tmp × Bool) × Option Tmp × Op)}(hK:ops.toList.map key=K)(hk:l.map key=(some (j,b),some d,p)::ks)(h:Sl N S a ds)(hj:K[j]? =some (g0,some d0,p0))(hm:(d0,.bool (!b)) ∈ S)(hd:d<N)
 (k: ∀l a,l.map key=ks->Sl N ((d,undef)::S.filter (fun e=>e.1 !=d)) a ds->wpListIn (FR r) n P ops Q l a W):wpListIn (FR r) n P ops Q l a W:=by
 obtain⟨o,l',rfl,e,hl⟩:=EX hk;simp only[key,aNS]at e;obtain⟨hg,hd',rfl⟩:=e;unfold wpListIn;rw[aEg (by rw[aBK hK hj hg h hm];cases b<;>decide),hd'];exact⟨fun _ _=>trivial,k l' _ hl (qK h hd)⟩
theorem OC{o:Oper}{c:Operand}{args:Array Operand}{ats:Array TypeId}(ho:o.op=.call ⟨.value c,args,ats⟩){lp:Nat}(hc:a.eval c=.func (.yield lp) #[] #[]):(execOp a.eval o).run P W=(Instr.yield lp (args.map a.eval)).run P W:=by
 unfold execOp;simp[ho,resolve,hc,Deferred.ofValue,invoke]
theorem U8{o:Oper}(hw:Region.wanted o (yielded ops a.tmps)=true){c:Operand}{args:Array Operand}{ats:Array TypeId}(ho:o.op=.call ⟨.value c,args,ats⟩){lp:Nat}(hc:a.eval c=.func (.yield lp) #[] #[]){vs:Array Value}(hv:args.map a.eval=vs)
 {R:Ending->World->Prop} (hy:YieldAt (FR none) 0 P lp vs W R) {rest:List Oper} (k: ∀e W1,R e W1-> ∃v,e=.returned v/\wpListIn (FR r) 0 P ops Q rest (a.put o.dst v) W1):wpListIn (FR r) 0 P ops Q (o::rest) a W:=by
 obtain⟨fn,tmps,assign,body,hyr,hR⟩:=hy;unfold wpListIn;rw[aEo hw];refine⟨fun _ _=>trivial,?_⟩;rw[aYq _ _ _ (fun c e=>by rw[ho]at e;cases e),OC ho hc,hv,hyr,Oper.uponIn_round];refine⟨aEe,?_⟩;exact RoundIn.mono hR fun e W1 h=>by
  obtain⟨v,rfl,hk⟩:=k e W1 h;exact hk
theorem sy{d:Nat}{c:Operand}{args:Array Operand}{ats:Array TypeId}(hk:l.map key=(none,some d,.call ⟨.value c,args,ats⟩)::ks)(h:Sl N S a ds)(hd:d<N){lp:Nat}(hc:a.eval c=.func (.yield lp) #[] #[]){vs:Array Value}(hv:args.map a.eval=vs)
 {X:World->Prop} (hy:YieldAt (FR none) 0 P lp vs W fun e W1=>e=.returned (.bool true)/\X W1) (k: ∀W1,X W1-> ∀l a,l.map key=ks->Sl N ((d,.bool true)::S.filter (fun e=>e.1 !=d)) a ds->wpListIn (FR r) 0 P ops Q l a W1):wpListIn (FR r) 0 P ops Q l a W:=by
 obtain⟨o,l',rfl,e,hm⟩:=EX hk;simp only[key,aNS]at e;obtain⟨hg,hd',ho⟩:=e;refine U8 (O5 hg) ho hc hv hy fun e W1 hx=>⟨_,hx.1,?_⟩;rw[hd'];exact k W1 hx.2 l' _ hm (qK h hd)
theorem syg{j:Nat}{b:Bool}{d d0:Nat}{g0:Option (Tmp × Bool)}{p0:Op}{K:List (Option (Tmp × Bool) × Option Tmp × Op)}{c:Operand}{args:Array Operand}{ats:Array TypeId}(hK:ops.toList.map key=K)(hk:l.map key=(some (j,b),some d,.call ⟨.value c,args,ats⟩)::ks)(h:Sl N S a ds)
 (hj:K[j]? =some (g0,some d0,p0)) (hm:(d0,.bool b) ∈ S) (hd:d<N) {lp:Nat} (hc:a.eval c=.func (.yield lp) #[] #[]) {vs:Array Value} (hv:args.map a.eval=vs)
 {X:World->Prop} (hy:YieldAt (FR none) 0 P lp vs W fun e W1=>e=.returned (.bool true)/\X W1) (k: ∀W1,X W1-> ∀l a,l.map key=ks->Sl N ((d,.bool true)::S.filter (fun e=>e.1 !=d)) a ds->wpListIn (FR r) 0 P ops Q l a W1):wpListIn (FR r) 0 P ops Q l a W:=by
 obtain⟨o,l',rfl,e,hl⟩:=EX hk;simp only[key,aNS]at e;obtain⟨hg,hd',ho⟩:=e;refine U8 ((aBK hK hj hg h hm).trans (by cases b<;>rfl)) ho hc hv hy fun e W1 hx=>⟨_,hx.1,?_⟩;rw[hd'];exact k W1 hx.2 l' _ hl (qK h hd)
structure RK(c:Code)(K:List (Option (Tmp × Bool) × Option Tmp × Op)):Prop where
 e:(jH c,(jV c).map key)=(false,K)
theorem KG{c:Code}{K:List (Option (Tmp × Bool) × Option Tmp × Op)}(hk:RK c K)(h: ∀ops l,ops.toList.map key=K->l.map key=K->wpListIn (FR r) n P ops Q l a W):c.wpIn (FR r) n P Q a W:=by
 obtain⟨hd,hk⟩:=Prod.mk.inj hk.e;cases c with
 |region id ops b=>
  obtain rfl:b=false:=hd;exact wpIn_region_list (h _ _ hk hk)
 |_=>cases hd
theorem aG{c:Code}(K:List (Option (Tmp × Bool) × Option Tmp × Op))(h: ∀ops l,ops.toList.map key=K->l.map key=K->wpListIn (FR r) n P ops Q l a W)(e:(jH c,(jV c).map key)=(false,K):=by kernel_rfl):c.wpIn (FR r) n P Q a W:=KG ⟨e⟩ h
theorem fM{f:FuncId}{fn:Func}{c:Code}{args:List Value}{N:Nat}{R:Ending->World->Prop}(hf:P.funcs[f]? =some fn)(hb:fn.body=some c)(hN:fn.ntmps=N)(hl:args.length<=N)
 (h: ∀a0,Sl N (args.zipIdx.map fun e=>(e.2,e.1)) a0->c.wpIn (FR none) n P (bodyPost P fn R) a0 W):CallsIn (FR none) n P f args.toArray W R:=by
 refine callsIn_of_wp hf hb trivial (h _ ⟨by simp;omega,rfl,fun e he=>?_⟩);obtain⟨⟨v,i⟩,hi,rfl⟩:=aLQ.1 he;have:=aX7.1 hi;have hlt:i<args.length:=(aED.1 this).1;simp only[aYG,List.size_toArray,hlt,aUj,aWo];exact this
theorem PE{f:FuncId}{fn:Func}{c:Code}{args:List Value}{N:Nat}{R:Ending->World->Prop}(hf:P.funcs[f]? =some fn)(hb:fn.body=some c)(hN:fn.ntmps=N)(hl:args.length<=N)
 (h: ∀a0,Sl N (args.zipIdx.map fun e=>(e.2,e.1)) a0->c.wpIn (FR none) n P (bodyPostM (FR none) n P fn R) a0 W):CallsIn (FR none) n P f args.toArray W R:=by
 refine callsIn_of_wp_marks hf hb trivial (h _ ⟨by simp;omega,rfl,fun e he=>?_⟩);obtain⟨⟨v,i⟩,hi,rfl⟩:=aLQ.1 he;have:=aX7.1 hi;have hlt:i<args.length:=(aED.1 this).1;simp only[aYG,List.size_toArray,hlt,aUj,aWo];exact this
theorem aJm{fn:Func}{R:Ending->World->Prop}(h:Sl N S a)(hr:fn.results= #[])(hR:R (.returned (.tuple #[])) W):bodyPost P fn R .normal a W/\bodyPost P fn R .ret a W:=by
 have:=results_none hr a.tmps P W;exact⟨⟨h.defs,_,this,hR⟩,⟨h.defs,_,this,hR⟩⟩
theorem BO(h:Sl N S a ds){i:Nat}{v:Value}(hm:(i,v) ∈ S):a.tmps.getD i undef=v:=by
 have:=h.val _ hm;simp[aTs,this]
theorem fF{fn:Func}{R:Ending->World->Prop}{i:Tmp}{v:Value}(h:Sl N S a)(hr:fn.results= #[.tmp i])(hi:(i,v) ∈ S)(hR:R (.returned v) W):bodyPost P fn R .ret a W:=by
 have h1:=results_tmp hr a.tmps P W;rw[BO h hi]at h1;exact⟨h.defs,_,h1,hR⟩
theorem uM{fn:Func}{R:Ending->World->Prop}{i j:Tmp}{v u:Value}(h:Sl N S a)(hr:fn.results= #[.tmp i,.tmp j])(hi:(i,v) ∈ S)(hj:(j,u) ∈ S)(hR:R (.returned (.tuple #[v,u])) W):bodyPost P fn R .ret a W:=by
 have h1:=results_tmp2 hr a.tmps P W;rw[BO h hi,BO h hj]at h1;exact⟨h.defs,_,h1,hR⟩
section
variable{o:Oper}
theorem eY{x:Operand}(ho:o.op=.move x){v:Value}(hx:a.eval x=v):(execOp a.eval o).run P W=.ok (.value v) W:=J9 (.inl ho) hx
theorem BZ{x:Operand}(ho:o.op=.assign x){v:Value}(hx:a.eval x=v):(execOp a.eval o).run P W=.ok (.value v) W:=J9 (.inr ho) hx
def oZ(P:Program)(t:TypeId)(i:Nat):Option Nat:=
 match P.underlying t with
 |some (.struct fs)=>match fs[i]? with
  |some fl=>if P.cellsOf fl.type≠0/\(P.underlying fl.type).isSome=true then some fl.offset else none
  |none=>none
 |_=>none
theorem aJ{t:TypeId}{x:Operand}{i off b o':Nat}(hf:oZ P t i=some off)(ho:o.op=.fieldAddr t x i)(hx:a.eval x=.pointer (some ⟨b,o',none⟩)):
 (execOp a.eval o).run P W=.ok (.value (.pointer (some ⟨b,o'+off,none⟩))) W:=by
 unfold oZ at hf;split at hf
 . rename_i fs hu;split at hf
   . rename_i fl hi;split at hf
     . rename_i hc;cases hf;exact VZ ho hx hu hi hc.1 hc.2
     cases hf
   cases hf
 cases hf
theorem KL{x:Operand}{ad:Addr}(ho:o.op=.nilCheck x)(hx:a.eval x=.pointer (some ad)):(execOp a.eval o).run P W=.ok (.value (.pointer (some ad))) W:=by
 unfold execOp;simp[ho,hx]
def aYV(P:Program)(t:TypeId):Bool:= !L8 P t&&(P.underlying t).isSome
theorem aAp{t:TypeId}(h:aYV P t=true)(W:World):(isAgg t).run P W=.ok false W:=by
 unfold aYV at h;simp only[aEb,aTL]at h;exact @BP G0 P t false h.1 h.2 W
theorem gK{t:TypeId}{x:Operand}{b off:Nat}{v:Value}(ha:aYV P t=true)(ho:o.op=.load t x)(hx:a.eval x=.pointer (some ⟨b,off,none⟩))(hc:W.cell? ⟨b,off,none⟩=some v):
 (execOp a.eval o).run P W=.ok (.value v) W:=by
 unfold execOp;simp[ho,hx,Instr.loadAt,Instr.sureAddr,loadVar,aAp ha,run_load,hc]
theorem nM{op:BinOp}{t yt:TypeId}{x y:Operand}{v u z:Value}(ho:o.op=.binOp op t x y yt)(hx:a.eval x=v)(hy:a.eval y=u)(hb:(do eqGuard op t x y v u;binOp op t v u).run P W=.ok z W):
 (execOp a.eval o).run P W=.ok (.value z) W:=by
 subst hx hy;unfold execOp;simp only[ho,aDt,aD0]at hb ⊢;rw[hb];rfl
section
variable{op:BinOp}{t yt:TypeId}{x y:Operand}{q:IntKind}{m m':Int}
theorem jE(ho:o.op=.binOp .eql t x y yt)(hx:a.eval x=.int q m)(hy:a.eval y=.int q m'):(execOp a.eval o).run P W=.ok (.value (.bool (decide (m=m')))) W:=
 nM ho hx hy (by simp[eqGuard,binOp,Op.intCmp];exact Bool.beq_eq_decide_eq _ _)
theorem aFz(ho:o.op=.binOp .eql t x y yt)(hx:a.eval x=.int q m)(hy:a.eval y=.int q m')(h:m=m'):(execOp a.eval o).run P W=.ok (.value (.bool true)) W:=by
 rw[<-aDx h];exact jE ho hx hy
theorem aFA(ho:o.op=.binOp .eql t x y yt)(hx:a.eval x=.int q m)(hy:a.eval y=.int q m')(h: ¬m=m'):(execOp a.eval o).run P W=.ok (.value (.bool false)) W:=by
 rw[<-aBW h];exact jE ho hx hy
theorem KN(ho:o.op=.binOp .neq t x y yt)(hx:a.eval x=.int q m)(hy:a.eval y=.int q m'):(execOp a.eval o).run P W=.ok (.value (.bool (!decide (m=m')))) W:=
 nM ho hx hy (by simp[eqGuard,binOp,Op.intCmp];rfl)
theorem mP(ho:o.op=.binOp .lss t x y yt)(hx:a.eval x=.int q m)(hy:a.eval y=.int q m'):(execOp a.eval o).run P W=.ok (.value (.bool (decide (m<m')))) W:=
 nM ho hx hy (by simp[eqGuard,binOp,Op.intCmp])
theorem rM(ho:o.op=.binOp .add t x y yt)(hx:a.eval x=.int q m)(hy:a.eval y=.int q m')(hw:q.wrap (m+m')=m+m'):(execOp a.eval o).run P W=.ok (.value (.int q (m+m'))) W:=
 nM ho hx hy (by simp[eqGuard,binOp,Op.intArith,hw])
theorem aLJ{s s':ByteArray}{b:Bool}(hb:(s.toList==s'.toList)=b)(ho:o.op=.binOp .eql t x y yt)(hx:a.eval x=.string s)(hy:a.eval y=.string s'):(execOp a.eval o).run P W=.ok (.value (.bool b)) W:=
 nM ho hx hy (by simp[eqGuard,binOp,Op.stringOp,<-hb])
theorem KJ{b:Bool}(ho:o.op=.unOp .not t x)(hx:a.eval x=.bool b):(execOp a.eval o).run P W=.ok (.value (.bool !b)) W:=by
 unfold execOp;simp[ho,hx,Op.unary]
theorem dR{c:Operand}{v:Value}(ho:o.op=.pick c x y)(hc:a.eval c=.bool true)(hx:a.eval x=v):(execOp a.eval o).run P W=.ok (.value v) W:=by
 unfold execOp;simp[ho,hc,asBool,hx]
theorem dI{c:Operand}{v:Value}(ho:o.op=.pick c x y)(hc:a.eval c=.bool false)(hy:a.eval y=v):(execOp a.eval o).run P W=.ok (.value v) W:=by
 unfold execOp;simp[ho,hc,asBool,hy]
theorem fP{el:TypeId}{g off n cp sz:Nat}{i:Nat}(hu:P.underlying t=some (.slice el))(hz:(P.info? el).map (·.size)=some sz)(hi:i<n)(ho:o.op=.indexAddr t x y)(hx:a.eval x=.slice (some ⟨g,off,none⟩) n cp)(hy:a.eval y=.int .i64 i):
 (execOp a.eval o).run P W=.ok (.value (.pointer (some ⟨g,off+i * sz,none⟩))) W:=VX ho hx hy hi hu hz
theorem rJ(ho:o.op=.box t x){v:Value}(hx:a.eval x=v){c:Array Value}(hc:v.cells=c):(execOp a.eval o).run P W=.ok (.value (.pointer (some ⟨W.heap.size,0,none⟩))) (W.alloc (.cells c t)):=by
 subst hx hc;unfold execOp;simp only[ho,aDt,Instr.box,newVar,newRow,run_newObj_alloc,aD0,aBF]
theorem CB(ho:o.op=.alloc t){z:Value}(hz:(zeroValue t).run P W=.ok z W)(hc:z.cells= #[z]):(execOp a.eval o).run P W=.ok (.value (.pointer (some ⟨W.heap.size,0,none⟩))) (W.alloc (.cells #[z] t)):=aAs ho hz hc
theorem oO(ho:o.op=.store t x y){b off:Nat}{v:Value}(hx:a.eval x=.pointer (some ⟨b,off,none⟩))(hy:a.eval y=v)(hc:v.cells= #[v])(ht:W.there b off 1)(hi:(P.info? t).map (·.size)=some 1)(h1:v.oneCell'=true):(execOp a.eval o).run P W=.ok .skip (W.setCells b off [v]):=by
 unfold execOp;simp only[ho,hx,hy,Instr.storeAt,Instr.sureAddr,aDt,aD0,aBF,run_storeVar_one W b off t v hc ht hi h1]
theorem lM{s:Option Addr}{m c:Nat}{el:TypeId}(hu:P.underlying t=some (.slice el))(ho:o.op=.call ⟨.builtin .len,#[x],#[t]⟩)(hx:a.eval x=.slice s m c):(execOp a.eval o).run P W=.ok (.value (.int .i64 m)) W:=by
 have hx':(#[x]:Array Operand).map a.eval= #[.slice s m c]:=by simp[hx]
 unfold execOp;simp only[ho,resolve,hx',aDt,aD0,aBF,invoke];simp[builtin,Builtin.len_,aEG hu,goInt]
theorem aFy{f:FuncId}(ho:o.op=.makeFunc (.func f) #[] #[x]){v:Value}(hx:a.eval x=v):(execOp a.eval o).run P W=.ok (.value (.func (.func f) #[] #[v])) W:=by
 subst hx;unfold execOp;simp[ho,go_sem]
end
end
end
abbrev Ky:=Option (Tmp × Bool) × Option Tmp × Op
abbrev km(d j:Nat):Ky:=(none,some d,.move (.tmp j))
abbrev ka(d j:Nat):Ky:=(none,some d,.assign (.tmp j))
abbrev kc(d:Nat)(v:Value):Ky:=(none,some d,.assign (.const v))
abbrev kl(d t j:Nat):Ky:=(none,some d,.load t (.tmp j))
abbrev kf(d t j f:Nat):Ky:=(none,some d,.fieldAddr t (.tmp j) f)
abbrev kx(d j i:Nat):Ky:=(none,some d,.extract (.tmp j) i)
abbrev kn(d j:Nat):Ky:=(none,some d,.nilCheck (.tmp j))
abbrev ks'(t i j:Nat):Ky:=(none,none,.store t (.tmp i) (.tmp j))
abbrev kg(g:Nat)(b:Bool)(x:Ky):Ky:=(some (g,b),x.2)
section
variable{P:Program}{r:Option Nat}{n N:Nat}{ops:Array Oper}{Q:Exit->Act->World->Prop}{S:List (Nat × Value)}{a:Act}{ds:List Deferred}{l:List Oper}{ks:List Ky}{W W':World}
theorem sT(h:Sl N S a ds){k:Nat}{v:Value}(hm:(k,v) ∈ S:=by simp):a.eval (.tmp k)=v:=J5 h hm
theorem aN{S':List (Nat × Value)}(h:Sl N S a ds)(hs: ∀e ∈ S',e ∈ S:=by simp):Sl N S' a ds:=aM3 h hs
theorem fU{a:Act}{o:Oper}{f:FuncId}{fn:Func}{args:Array Operand}{ats:Array TypeId}(ho:o.op=.call ⟨.value (.func f),args,ats⟩)(hf:P.funcs[f]? =some fn)(hb:(fn.body.isSome&& !(fn.name== "runtime.NumGoroutine"))=true:=by kernel_rfl):(execOp a.eval o).run P W=.ok (.enter f (args.map a.eval)) W:=by
 obtain⟨h1,h2⟩:=(aEb _ _).mp hb;obtain⟨c,hc⟩:=aO1.1 h1;exact KA ho hf (by simpa using h2) hc
section
variable{d j:Nat}{v:Value}
theorem sV{p:Op}(hk:l.map key=(none,some d,p)::ks)(h:Sl N S a ds)(hrun: ∀o:Oper,o.op=p->(execOp a.eval o).run P W=.ok (.value v) W')(k: ∀l a,l.map key=ks->Sl N ((d,v)::S.filter (fun e=>e.1 !=d)) a ds->wpListIn (FR r) n P ops Q l a W')(hp:kY p=false:=by rfl)(hd:d<N:=by decide):wpListIn (FR r) n P ops Q l a W:=sv hk h hp hd hrun k
theorem mV(hk:l.map key=(none,some d,.move (.tmp j))::ks)(h:Sl N S a ds)(k: ∀l a,l.map key=ks->Sl N ((d,v)::S.filter (fun e=>e.1 !=d)) a ds->wpListIn (FR r) n P ops Q l a W)(hm:(j,v) ∈ S:=by simp)(hd:d<N:=by decide):wpListIn (FR r) n P ops Q l a W:=sv hk h rfl hd (fun _ ho=>eY ho (J5 h hm)) k
theorem aV(hk:l.map key=(none,some d,.assign (.tmp j))::ks)(h:Sl N S a ds)(k: ∀l a,l.map key=ks->Sl N ((d,v)::S.filter (fun e=>e.1 !=d)) a ds->wpListIn (FR r) n P ops Q l a W)(hm:(j,v) ∈ S:=by simp)(hd:d<N:=by decide):wpListIn (FR r) n P ops Q l a W:=sv hk h rfl hd (fun _ ho=>BZ ho (J5 h hm)) k
theorem aC(hk:l.map key=(none,some d,.assign (.const v))::ks)(h:Sl N S a ds)(k: ∀l a,l.map key=ks->Sl N ((d,v)::S.filter (fun e=>e.1 !=d)) a ds->wpListIn (FR r) n P ops Q l a W)(hd:d<N:=by decide):wpListIn (FR r) n P ops Q l a W:=sv hk h rfl hd (fun _ ho=>BZ ho rfl) k
theorem nV(hk:l.map key=(none,some d,.nilCheck (.tmp j))::ks)(h:Sl N S a ds)(k: ∀l a,l.map key=ks->Sl N ((d,v)::S.filter (fun e=>e.1 !=d)) a ds->wpListIn (FR r) n P ops Q l a W)(hm:(j,v) ∈ S:=by simp)(hv: ∃ad,v=.pointer (some ad):=by exact⟨_,rfl⟩)(hd:d<N:=by decide):wpListIn (FR r) n P ops Q l a W:=by
 obtain⟨ad,rfl⟩:=hv;exact sv hk h rfl hd (fun _ ho=>KL ho (J5 h hm)) k
theorem lV{t b off:Nat}(ha:aYV P t=true)(hk:l.map key=(none,some d,.load t (.tmp j))::ks)(h:Sl N S a ds)(hc:W.cell? ⟨b,off,none⟩=some v)(k: ∀l a,l.map key=ks->Sl N ((d,v)::S.filter (fun e=>e.1 !=d)) a ds->wpListIn (FR r) n P ops Q l a W)(hm:(j,.pointer (some ⟨b,off,none⟩)) ∈ S:=by simp)(hd:d<N:=by decide):wpListIn (FR r) n P ops Q l a W:=sv hk h rfl hd (fun _ ho=>gK ha ho (J5 h hm) hc) k
end
section
variable{jj:Nat}{b:Bool}{d:Nat}{v:Value}{g0:Option (Tmp × Bool)}{p0 p:Op}{K:List Ky}{j:Nat}
theorem sG(hK:ops.toList.map key=K)(hk:l.map key=(some (jj,b),some d,p)::ks)(h:Sl N S a ds)(d0:Nat)(hrun: ∀o:Oper,o.op=p->(execOp a.eval o).run P W=.ok (.value v) W)(k: ∀l a,l.map key=ks->Sl N ((d,v)::S.filter (fun e=>e.1 !=d)) a ds->wpListIn (FR r) n P ops Q l a W)(hj:K[jj]? =some (g0,some d0,p0):=by rfl)(hm:(d0,.bool b) ∈ S:=by simp)(hp:kY p=false:=by rfl)(hd:d<N:=by decide):wpListIn (FR r) n P ops Q l a W:=sg hK hk h hj hm hp hd hrun k
theorem mG(hK:ops.toList.map key=K)(hk:l.map key=(some (jj,b),some d,.move (.tmp j))::ks)(h:Sl N S a ds)(d0:Nat)(k: ∀l a,l.map key=ks->Sl N ((d,v)::S.filter (fun e=>e.1 !=d)) a ds->wpListIn (FR r) n P ops Q l a W)(hj:K[jj]? =some (g0,some d0,p0):=by rfl)(hm:(d0,.bool b) ∈ S:=by simp)(hm2:(j,v) ∈ S:=by simp)(hd:d<N:=by decide):wpListIn (FR r) n P ops Q l a W:=sg hK hk h hj hm rfl hd (fun _ ho=>eY ho (J5 h hm2)) k
theorem sX(hK:ops.toList.map key=K)(hk:l.map key=(some (jj,b),some d,p)::ks)(h:Sl N S a ds)(d0:Nat)(k: ∀l a,l.map key=ks->Sl N ((d,undef)::S.filter (fun e=>e.1 !=d)) a ds->wpListIn (FR r) n P ops Q l a W)(hj:K[jj]? =some (g0,some d0,p0):=by rfl)(hm:(d0,.bool (!b)) ∈ S:=by simp)(hd:d<N:=by decide):wpListIn (FR r) n P ops Q l a W:=sx hK hk h hj hm hd k
end
end
theorem sJ:oZ prog 35 0=some 0:=by kernel_rfl
theorem aHr:oZ prog 35 1=some 1:=by kernel_rfl
theorem ML:oZ prog 35 2=some 11:=by kernel_rfl
theorem TS:oZ prog 35 3=some 22:=by kernel_rfl
theorem pU:oZ prog 35 4=some 33:=by kernel_rfl
theorem FB:oZ prog 32 0=some 0:=by kernel_rfl
theorem TT:oZ prog 32 1=some 1:=by kernel_rfl
theorem aA9:oZ prog 79 0=some 0:=by kernel_rfl
theorem aA8:oZ prog 79 1=some 10:=by kernel_rfl
theorem aHp:oZ prog 79 2=some 11:=by kernel_rfl
theorem zO:aYV prog 84=true:=by kernel_rfl
theorem lY:aYV prog 5=true:=by kernel_rfl
theorem wU:aYV prog 33=true:=by kernel_rfl
theorem OH:aYV prog 4=true:=by kernel_rfl
theorem FY:prog.underlying 33=some (.slice 79):=by kernel_rfl
theorem info79:(prog.info? 79).map (·.size)=some 21:=by kernel_rfl
abbrev aYW(b o:Nat):Value:=.pointer (some ⟨b,o,none⟩)
structure Sh(kd fk tk:Int)(bx pe:Nat)(bs:Option Addr)(cp:Nat)(R:List Bool)(W:World):Prop where
 bx:W.cell? ⟨bx,0,none⟩=some (aYW pe 0)
 kd:W.cell? ⟨pe,0,none⟩=some (.int .u8 kd)
 fk:W.cell? ⟨pe,11,none⟩=some (.int .u8 fk)
 tk:W.cell? ⟨pe,22,none⟩=some (.int .u8 tk)
 its:W.cell? ⟨pe,33,none⟩=some (.slice bs R.length cp)
 rg: ∀i,i<R.length-> ∃g o,bs=some ⟨g,o,none⟩/\W.cell? ⟨g,o+i * 21+10,none⟩=some (.bool (R.getD i false))
def zV(g o:Nat)(R:List Bool):Nat->List (Nat × Nat)
 |0=>[]
 |i+1=>zV g o R i++((g,o+i * 21)::(if R.getD i false then[(g,o+i * 21+11)]else[]))
def aYH(kd fk tk:Int)(pe:Nat)(bs:Option Addr)(R:List Bool):List (Nat × Nat):=
 if kd=1 then[(pe,1)]else if kd=2 then(if fk=1 then[(pe,12)]else[])++(if tk=1 then[(pe,23)]else[])
 else zV (match bs with|some ⟨g,_,_⟩=>g|none=>0) (match bs with|some ⟨_,o,_⟩=>o|none=>0) R R.length
theorem tN(g o:Nat)(R:List Bool)(i:Nat):zV g o R (i+1)=zV g o R i++((g,o+i * 21)::(if R.getD i false then[(g,o+i * 21+11)]else[])):=rfl
theorem aCp(g o:Nat)(R:List Bool)(i:Nat): ∀d,zV g o R i <+: zV g o R (i+d)
 |0=>List.prefix_refl _
 |d+1=>(aCp g o R i d).trans (List.prefix_append _ _)
theorem pre_at{l m:List (Nat × Nat)}(h:l <+: m){k:Nat}{x:Nat × Nat}(hk:l[k]? =some x):m.getD k (0,0)=x/\k<m.length:=by
 obtain⟨t,rfl⟩:=h;have hl:=(aED.1 hk).1;exact⟨by simp[List.getD,aIG hl,hk],by simp;omega⟩
theorem aN1(g o:Nat)(R:List Bool){i n:Nat}(hi:i<n):((zV g o R n).getD (zV g o R i).length (0,0)=(g,o+i * 21)/\(zV g o R i).length<(zV g o R n).length)/\
 (R.getD i false=true->(zV g o R n).getD ((zV g o R i).length+1) (0,0)=(g,o+i * 21+11)/\(zV g o R i).length+1<(zV g o R n).length):=by
 have h:zV g o R (i+1) <+: zV g o R n:=by
  have:=aCp g o R (i+1) (n - (i+1));rwa[show i+1+(n - (i+1))=n by omega]at this
 refine⟨pre_at h ?_,fun hr=>pre_at h ?_⟩
 . rw[tN,aJk (aC4 _),Nat.sub_self];rfl
 rw[tN,aJk (by omega),hr,show(zV g o R i).length+1 - (zV g o R i).length=1 by omega];rfl
noncomputable def ZQ:Code:=match(f76).body with
 |some c=>c
 |none=>.skip
noncomputable def aTj:Code:=bF [0] ZQ
noncomputable def aTe:Code:=bF [1,0,0] ZQ
noncomputable def aTd:Code:=bF [1,0,1,0] ZQ
noncomputable def aTc:Code:=bF [1,0,1,1,0] ZQ
noncomputable def aCB:Code:=bF [1,0,1,1,1,0,0,0] ZQ
theorem aMm:RK aCB [kl 53 84 1,kn 54 53,kf 55 35 54 2,kf 56 32 55 0,kl 57 5 56,(none,some 58,.binOp .eql 5 (.tmp 57) (.const (.int .u8 1)) 5),km 59 58,kg 6 true (km 60 0),kg 6 true (kl 61 84 1),kg 6 true (kn 62 61),kg 6 true (kf 63 35 62 2),kg 6 true (kf 64 32 63 1),(some (6,true),some 65,.call ⟨.value (.tmp 60),#[(.tmp 64)],#[115]⟩),(some (6,true),some 66,.unOp .not 4 (.tmp 65)),(none,some 67,.pick (.tmp 59) (.tmp 66) (.const (.bool false)))]:=⟨by kernel_rfl⟩
noncomputable def aHI:Code:=bF [1,0,1,1,1,0,1,0] ZQ
noncomputable def aHH:Code:=bF [1,0,1,1,1,0,1,1,0] ZQ
noncomputable def aTi:Code:=bF [1,0,1,1,1,1,0] ZQ
noncomputable def aTh:Code:=bF [1,0,1,1,1,1,1,0,0,0] ZQ
noncomputable def aTg:Code:=bF [1,0,1,1,1,1,1,0,0,1,1,0,0,0] ZQ
noncomputable def aTf:Code:=bF [1,0,1,1,1,1,1,0,0,1,1,0,0,1,0] ZQ
noncomputable def aKY:Code:=bF [1,0,1,1,1,1,1,0,0,1,1,0,0,1,1,0] ZQ
theorem aTk:RK aKY [km 23 0,km 24 4,kn 25 24,kf 26 79 25 0,(none,some 27,.call ⟨.value (.tmp 23),#[(.tmp 26)],#[115]⟩),(none,some 28,.unOp .not 4 (.tmp 27)),km 29 28,kg 6 false (km 30 4),kg 6 false (kn 31 30),kg 6 false (kf 32 79 31 1),kg 6 false (kl 33 4 32),kg 6 false (km 34 33),kg 11 true (km 35 0),kg 11 true (km 36 4),kg 11 true (kn 37 36),kg 11 true (kf 38 79 37 2),(some (11,true),some 39,.call ⟨.value (.tmp 35),#[(.tmp 38)],#[115]⟩),(some (11,true),some 40,.unOp .not 4 (.tmp 39)),(some (6,false),some 41,.pick (.tmp 34) (.tmp 40) (.const (.bool false))),(none,some 42,.pick (.tmp 29) (.const (.bool true)) (.tmp 41))]:=⟨by kernel_rfl⟩
noncomputable def aOo:Code:=bF [1,0,1,1,1,1,1,0,0,1,1,1] ZQ
theorem aW0:ZQ=(.seq aTj (.block 0 (.seq aTe (.cond (.tmp 44) aTd (.seq aTc (.cond (.tmp 51) (.seq (.seq aCB (.cond (.tmp 67) .ret .skip)) (.seq aHI (.cond (.tmp 73) aHH .skip))) (.seq aTi (.block 1 (.loop (.seq aTh (.seq (.cond (.tmp 15) .skip (.exit 1)) (.seq (.block 2 (.seq aTg (.seq aTf (.seq aKY (.cond (.tmp 42) .ret .skip))))) aOo)))))))))))):=by kernel_rfl
section
variable{kd fk tk:Int}{bx pe:Nat}{bs:Option Addr}{cp:Nat}{R:List Bool}{W:World}{r:Option Nat}{n ly:Nat}{Q:Exit->Act->World->Prop}{a:Act}
theorem dt0(hS:Sh kd fk tk bx pe bs cp R W)(h:Sl 80 [(0,(.func (.yield ly) #[] #[])),(1,(aYW bx 0))] a)(k: ∀a,Sl 80 [(0,(.func (.yield ly) #[] #[])),(1,(aYW bx 0)),(8,(.int .u8 kd))] a->Q .normal a W):aTj.wpIn (FR r) n prog Q a W:=by
 refine aG [kl 5 84 1,kn 6 5,kf 7 35 6 0,kl 8 5 7] (fun ops l hK hk=>?_);refine lV zO (v:=(aYW pe 0)) hk h (hS.bx) fun l a hk h=>
 nV (v:=(aYW pe 0)) hk h fun l a hk h=>
 sV (v:=(aYW pe 0)) hk h (fun _ ho=>aJ (b:=pe) (o':=0) sJ ho (sT h)) fun l a hk h=>
 lV lY (v:=(.int .u8 kd)) hk h (hS.kd) fun l a hk h=>?_
 exact s0 hk (k _ (aN h))
theorem dt7(hS:Sh kd fk tk bx pe bs cp R W)(h:Sl 80 [(0,(.func (.yield ly) #[] #[])),(1,(aYW bx 0)),(8,(.int .u8 kd))] a)(k: ∀a,Sl 80 [(0,(.func (.yield ly) #[] #[])),(1,(aYW bx 0)),(8,(.int .u8 kd)),(44,(.bool (decide (kd=1))))] a->Q .normal a W):aTe.wpIn (FR r) n prog Q a W:=by
 refine aG [(none,some 45,.binOp .eql 5 (.tmp 8) (.const (.int .u8 1)) 5),ka 44 45] (fun ops l hK hk=>?_);refine sV (v:=(.bool (decide (kd=1)))) hk h (fun _ ho=>jE (q:=.u8) ho (sT h) rfl) fun l a hk h=>
 aV (v:=(.bool (decide (kd=1)))) hk h fun l a hk h=>?_
 exact s0 hk (k _ (aN h))
theorem dt9(hS:Sh kd fk tk bx pe bs cp R W)(h:Sl 80 [(0,(.func (.yield ly) #[] #[])),(1,(aYW bx 0)),(8,(.int .u8 kd))] a)(k: ∀a,Sl 80 [(0,(.func (.yield ly) #[] #[])),(1,(aYW bx 0)),(8,(.int .u8 kd)),(51,(.bool (decide (kd=2))))] a->Q .normal a W):aTc.wpIn (FR r) n prog Q a W:=by
 refine aG [(none,some 52,.binOp .eql 5 (.tmp 8) (.const (.int .u8 2)) 5),ka 51 52] (fun ops l hK hk=>?_);refine sV (v:=(.bool (decide (kd=2)))) hk h (fun _ ho=>jE (q:=.u8) ho (sT h) rfl) fun l a hk h=>
 aV (v:=(.bool (decide (kd=2)))) hk h fun l a hk h=>?_
 exact s0 hk (k _ (aN h))
theorem aW4(hS:Sh kd fk tk bx pe bs cp R W)(h:Sl 80 [(0,(.func (.yield ly) #[] #[])),(1,(aYW bx 0))] a)(k: ∀a,Sl 80 [(0,(.func (.yield ly) #[] #[])),(1,(aYW bx 0)),(73,(.bool (decide (tk=1))))] a->Q .normal a W):aHI.wpIn (FR r) n prog Q a W:=by
 refine aG [kl 68 84 1,kn 69 68,kf 70 35 69 3,kf 71 32 70 0,kl 72 5 71,(none,some 73,.binOp .eql 5 (.tmp 72) (.const (.int .u8 1)) 5)] (fun ops l hK hk=>?_);refine lV zO (v:=(aYW pe 0)) hk h (hS.bx) fun l a hk h=>
 nV (v:=(aYW pe 0)) hk h fun l a hk h=>
 sV (v:=(aYW pe 22)) hk h (fun _ ho=>aJ (b:=pe) (o':=0) TS ho (sT h)) fun l a hk h=>
 sV (v:=(aYW pe 22)) hk h (fun _ ho=>aJ (b:=pe) (o':=22) FB ho (sT h)) fun l a hk h=>
 lV lY (v:=(.int .u8 tk)) hk h (hS.tk) fun l a hk h=>
 sV (v:=(.bool (decide (tk=1)))) hk h (fun _ ho=>jE (q:=.u8) ho (sT h) rfl) fun l a hk h=>?_
 exact s0 hk (k _ (aN h))
theorem dt1(hS:Sh kd fk tk bx pe bs cp R W)(h:Sl 80 [(0,(.func (.yield ly) #[] #[])),(1,(aYW bx 0))] a)(k: ∀a,Sl 80 [(0,(.func (.yield ly) #[] #[])),(1,(aYW bx 0)),(13,(.int .i64 (R.length:Int))),(14,(.int .i64 0))] a->Q .normal a W):aTi.wpIn (FR r) n prog Q a W:=by
 refine aG [kl 9 84 1,kn 10 9,kf 11 35 10 4,kl 12 33 11,(none,some 13,.call ⟨.builtin .len,#[(.tmp 12)],#[33]⟩),(none,some 14,.move (.const (.int .i64 0)))] (fun ops l hK hk=>?_);refine lV zO (v:=(aYW pe 0)) hk h (hS.bx) fun l a hk h=>
 nV (v:=(aYW pe 0)) hk h fun l a hk h=>
 sV (v:=(aYW pe 33)) hk h (fun _ ho=>aJ (b:=pe) (o':=0) pU ho (sT h)) fun l a hk h=>
 lV wU (v:=(.slice bs R.length cp)) hk h (hS.its) fun l a hk h=>
 sV (v:=(.int .i64 (R.length:Int))) hk h (fun _ ho=>lM (s:=bs) (c:=cp) FY ho (sT h)) fun l a hk h=>
 sV (v:=(.int .i64 0)) hk h (fun _ ho=>eY ho rfl) fun l a hk h=>?_
 exact s0 hk (k _ (aN h))
theorem dt2{i:Nat}(h:Sl 80 [(0,(.func (.yield ly) #[] #[])),(1,(aYW bx 0)),(13,(.int .i64 (R.length:Int))),(14,(.int .i64 (i:Int)))] a)(k: ∀a,Sl 80 [(0,(.func (.yield ly) #[] #[])),(1,(aYW bx 0)),(13,(.int .i64 (R.length:Int))),(14,(.int .i64 (i:Int))),(15,(.bool (decide ((i:Int)<(R.length:Int)))))] a->Q .normal a W):aTh.wpIn (FR r) n prog Q a W:=by
 refine aG [(none,some 15,.binOp .lss 3 (.tmp 14) (.tmp 13) 3)] (fun ops l hK hk=>?_);refine sV (v:=(.bool (decide ((i:Int)<(R.length:Int))))) hk h (fun _ ho=>mP (q:=.i64) ho (sT h) (sT h)) fun l a hk h=>?_;exact s0 hk (k _ (aN h))
theorem dt3{i:Nat}(h:Sl 80 [(0,(.func (.yield ly) #[] #[])),(1,(aYW bx 0)),(13,(.int .i64 (R.length:Int))),(14,(.int .i64 (i:Int)))] a)(k: ∀a,Sl 80 [(0,(.func (.yield ly) #[] #[])),(1,(aYW bx 0)),(3,(.int .i64 (i:Int))),(13,(.int .i64 (R.length:Int))),(14,(.int .i64 (i:Int)))] a->Q .normal a W):aTg.wpIn (FR r) n prog Q a W:=by
 refine aG [km 16 14,ka 3 16] (fun ops l hK hk=>?_);refine mV (v:=(.int .i64 (i:Int))) hk h fun l a hk h=>
 aV (v:=(.int .i64 (i:Int))) hk h fun l a hk h=>?_
 exact s0 hk (k _ (aN h))
theorem dt4{i g o:Nat}(hi:i<R.length)(hS:Sh kd fk tk bx pe (some ⟨g,o,none⟩) cp R W)(h:Sl 80 [(0,(.func (.yield ly) #[] #[])),(1,(aYW bx 0)),(3,(.int .i64 (i:Int))),(13,(.int .i64 (R.length:Int))),(14,(.int .i64 (i:Int)))] a)(k: ∀a,Sl 80 [(0,(.func (.yield ly) #[] #[])),(1,(aYW bx 0)),(4,(aYW g (o+i * 21))),(13,(.int .i64 (R.length:Int))),(14,(.int .i64 (i:Int)))] a->Q .normal a W):aTf.wpIn (FR r) n prog Q a W:=by
 refine aG [kl 17 84 1,kn 18 17,kf 19 35 18 4,kl 20 33 19,km 21 3,(none,some 22,.indexAddr 33 (.tmp 20) (.tmp 21)),ka 4 22] (fun ops l hK hk=>?_);refine lV zO (v:=(aYW pe 0)) hk h (hS.bx) fun l a hk h=>
 nV (v:=(aYW pe 0)) hk h fun l a hk h=>
 sV (v:=(aYW pe 33)) hk h (fun _ ho=>aJ (b:=pe) (o':=0) pU ho (sT h)) fun l a hk h=>
 lV wU (v:=(.slice (some ⟨g,o,none⟩) R.length cp)) hk h hS.its fun l a hk h=>
 mV (v:=(.int .i64 (i:Int))) hk h fun l a hk h=>
 sV (v:=(aYW g (o+i * 21))) hk h (fun _ ho=>fP (g:=g) (off:=o) (n:=R.length) (cp:=cp) FY info79 hi ho (sT h) (sT h)) fun l a hk h=>
 aV (v:=(aYW g (o+i * 21))) hk h fun l a hk h=>?_
 exact s0 hk (k _ (aN h))
theorem dt6{i:Nat}(hw:IntKind.i64.wrap ((i:Int)+1)=(i:Int)+1)(h:Sl 80 [(0,(.func (.yield ly) #[] #[])),(1,(aYW bx 0)),(13,(.int .i64 (R.length:Int))),(14,(.int .i64 (i:Int)))] a)(k: ∀a,Sl 80 [(0,(.func (.yield ly) #[] #[])),(1,(aYW bx 0)),(13,(.int .i64 (R.length:Int))),(14,(.int .i64 ((i:Int)+1)))] a->Q .normal a W):aOo.wpIn (FR r) n prog Q a W:=by
 refine aG [(none,some 43,.binOp .add 3 (.tmp 14) (.const (.int .i64 1)) 3),km 14 43] (fun ops l hK hk=>?_);refine sV (v:=(.int .i64 ((i:Int)+1))) hk h (fun _ ho=>rM ho (sT h) rfl hw) fun l a hk h=>
 mV (v:=(.int .i64 ((i:Int)+1))) hk h fun l a hk h=>?_
 exact s0 hk (k _ (aN h))
theorem dt8(hS:Sh kd fk tk bx pe bs cp R W)(h:Sl 80 [(0,(.func (.yield ly) #[] #[])),(1,(aYW bx 0))] a){X:World->Prop}(hy:YieldAt (FR none) 0 prog ly #[(aYW pe 1)] W fun e W1=>e=.returned (.bool true)/\X W1)(k: ∀a W1,X W1->Sl 80 [(0,(.func (.yield ly) #[] #[])),(1,(aYW bx 0))] a->Q .normal a W1):aTd.wpIn (FR r) 0 prog Q a W:=by
 refine aG [km 46 0,kl 47 84 1,kn 48 47,kf 49 35 48 1,(none,some 50,.call ⟨.value (.tmp 46),#[(.tmp 49)],#[115]⟩)] (fun ops l hK hk=>?_);refine mV (v:=(.func (.yield ly) #[] #[])) hk h fun l a hk h=>
 lV zO (v:=(aYW pe 0)) hk h (hS.bx) fun l a hk h=>
 nV (v:=(aYW pe 0)) hk h fun l a hk h=>
 sV (v:=(aYW pe 1)) hk h (fun _ ho=>aJ (b:=pe) (o':=0) aHr ho (sT h)) fun l a hk h=>?_
 refine sy hk h (by decide) (sT h) (vs:= #[(aYW pe 1)]) (by rw[aHe,sT h (v:=(aYW pe 1))]) hy (fun W1 hx l a hk h=>?_);exact s0 hk (k _ _ hx (aN h))
theorem aW3(hS:Sh kd fk tk bx pe bs cp R W)(h:Sl 80 [(0,(.func (.yield ly) #[] #[])),(1,(aYW bx 0))] a){X:World->Prop}(hy:YieldAt (FR none) 0 prog ly #[(aYW pe 23)] W fun e W1=>e=.returned (.bool true)/\X W1)(k: ∀a W1,X W1->Sl 80 [(0,(.func (.yield ly) #[] #[])),(1,(aYW bx 0))] a->Q .normal a W1):aHH.wpIn (FR r) 0 prog Q a W:=by
 refine aG [km 74 0,kl 75 84 1,kn 76 75,kf 77 35 76 3,kf 78 32 77 1,(none,some 79,.call ⟨.value (.tmp 74),#[(.tmp 78)],#[115]⟩)] (fun ops l hK hk=>?_);refine mV (v:=(.func (.yield ly) #[] #[])) hk h fun l a hk h=>
 lV zO (v:=(aYW pe 0)) hk h (hS.bx) fun l a hk h=>
 nV (v:=(aYW pe 0)) hk h fun l a hk h=>
 sV (v:=(aYW pe 22)) hk h (fun _ ho=>aJ (b:=pe) (o':=0) TS ho (sT h)) fun l a hk h=>
 sV (v:=(aYW pe 23)) hk h (fun _ ho=>aJ (b:=pe) (o':=22) TT ho (sT h)) fun l a hk h=>?_
 refine sy hk h (by decide) (sT h) (vs:= #[(aYW pe 23)]) (by rw[aHe,sT h (v:=(aYW pe 23))]) hy (fun W1 hx l a hk h=>?_);exact s0 hk (k _ _ hx (aN h))
theorem aTl(hS:Sh kd fk tk bx pe bs cp R W)(hf:fk=1)(h:Sl 80 [(0,(.func (.yield ly) #[] #[])),(1,(aYW bx 0))] a){X:World->Prop}(hy:YieldAt (FR none) 0 prog ly #[(aYW pe 12)] W fun e W1=>e=.returned (.bool true)/\X W1)(k: ∀a W1,X W1->Sl 80 [(0,(.func (.yield ly) #[] #[])),(1,(aYW bx 0)),(67,.bool false)] a->Q .normal a W1):aCB.wpIn (FR r) 0 prog Q a W:=by
 refine KG aMm (fun ops l hK hk=>?_);refine lV zO (v:=(aYW pe 0)) hk h (hS.bx) fun l a hk h=>
 nV (v:=(aYW pe 0)) hk h fun l a hk h=>
 sV (v:=(aYW pe 11)) hk h (fun _ ho=>aJ (b:=pe) (o':=0) ML ho (sT h)) fun l a hk h=>
 sV (v:=(aYW pe 11)) hk h (fun _ ho=>aJ (b:=pe) (o':=11) FB ho (sT h)) fun l a hk h=>
 lV lY (v:=(.int .u8 fk)) hk h (hS.fk) fun l a hk h=>
 sV (v:=(.bool true)) hk h (fun _ ho=>aFz ho (sT h) rfl hf) fun l a hk h=>
 mV (v:=(.bool true)) hk h fun l a hk h=>?_
 refine mG (v:=(.func (.yield ly) #[] #[])) hK hk h 59 fun l a hk h=>
 sG (v:=(aYW pe 0)) hK hk h 59 (fun _ ho=>gK zO ho (sT h) hS.bx) fun l a hk h=>
 sG (v:=(aYW pe 0)) hK hk h 59 (fun _ ho=>KL ho (sT h)) fun l a hk h=>
 sG (v:=(aYW pe 11)) hK hk h 59 (fun _ ho=>aJ (b:=pe) (o':=0) ML ho (sT h)) fun l a hk h=>
 sG (v:=(aYW pe 12)) hK hk h 59 (fun _ ho=>aJ (b:=pe) (o':=11) TT ho (sT h)) fun l a hk h=>?_
 refine syg hK hk h (d0:=59) rfl (by simp) (by decide) (sT h) (vs:= #[(aYW pe 12)]) (by rw[aHe,sT h (v:=(aYW pe 12))]) hy (fun W1 hx l a hk h=>?_);refine sG (v:=(.bool false)) hK hk h 59 (fun _ ho=>KJ (b:=true) ho (sT h)) fun l a hk h=>
 sV (v:=(.bool false)) hk h (fun _ ho=>dR ho (sT h) (sT h)) fun l a hk h=>?_
 exact s0 hk (k _ _ hx (aN h))
theorem aTm(hS:Sh kd fk tk bx pe bs cp R W)(hf: ¬fk=1)(h:Sl 80 [(0,(.func (.yield ly) #[] #[])),(1,(aYW bx 0))] a)(k: ∀a,Sl 80 [(0,(.func (.yield ly) #[] #[])),(1,(aYW bx 0)),(67,.bool false)] a->Q .normal a W):aCB.wpIn (FR r) n prog Q a W:=by
 refine KG aMm (fun ops l hK hk=>?_);refine lV zO (v:=(aYW pe 0)) hk h (hS.bx) fun l a hk h=>
 nV (v:=(aYW pe 0)) hk h fun l a hk h=>
 sV (v:=(aYW pe 11)) hk h (fun _ ho=>aJ (b:=pe) (o':=0) ML ho (sT h)) fun l a hk h=>
 sV (v:=(aYW pe 11)) hk h (fun _ ho=>aJ (b:=pe) (o':=11) FB ho (sT h)) fun l a hk h=>
 lV lY (v:=(.int .u8 fk)) hk h (hS.fk) fun l a hk h=>
 sV (v:=(.bool false)) hk h (fun _ ho=>aFA ho (sT h) rfl hf) fun l a hk h=>
 mV (v:=(.bool false)) hk h fun l a hk h=>?_
 refine sX hK hk h 59 fun l a hk h=>
 sX hK hk h 59 fun l a hk h=>
 sX hK hk h 59 fun l a hk h=>
 sX hK hk h 59 fun l a hk h=>
 sX hK hk h 59 fun l a hk h=>
 sX hK hk h 59 fun l a hk h=>
 sX hK hk h 59 fun l a hk h=>?_
 refine sV (v:=(.bool false)) hk h (fun _ ho=>dI ho (sT h) rfl) fun l a hk h=>?_;exact s0 hk (k _ (aN h))
theorem aW1{i g o:Nat}(h:Sl 80 [(0,(.func (.yield ly) #[] #[])),(1,(aYW bx 0)),(4,(aYW g (o+i * 21))),(13,(.int .i64 (R.length:Int))),(14,(.int .i64 (i:Int)))] a){X Y:World->Prop}(hy:YieldAt (FR none) 0 prog ly #[(aYW g (o+i * 21))] W fun e W1=>e=.returned (.bool true)/\X W1)(hx: ∀W1,X W1->W1.cell? ⟨g,o+i * 21+10,none⟩=some (.bool true)/\YieldAt (FR none) 0 prog ly #[(aYW g (o+i * 21+11))] W1 fun e W2=>e=.returned (.bool true)/\Y W2)(k: ∀a W1,Y W1->Sl 80 [(0,(.func (.yield ly) #[] #[])),(1,(aYW bx 0)),(13,.int .i64 (R.length:Int)),(14,.int .i64 (i:Int)),(42,.bool false)] a->Q .normal a W1):aKY.wpIn (FR r) 0 prog Q a W:=by
 refine KG aTk (fun ops l hK hk=>?_);refine mV (v:=(.func (.yield ly) #[] #[])) hk h fun l a hk h=>
 mV (v:=(aYW g (o+i * 21))) hk h fun l a hk h=>
 nV (v:=(aYW g (o+i * 21))) hk h fun l a hk h=>
 sV (v:=(aYW g (o+i * 21))) hk h (fun _ ho=>aJ (b:=g) (o':=o+i * 21) aA9 ho (sT h)) fun l a hk h=>?_
 refine sy hk h (by decide) (sT h) (vs:= #[(aYW g (o+i * 21))]) (by rw[aHe,sT h (v:=(aYW g (o+i * 21)))]) hy (fun W1 hX l a hk h=>?_);obtain⟨hc,hy2⟩:=hx W1 hX;refine sV (v:=(.bool false)) hk h (fun _ ho=>KJ (b:=true) ho (sT h)) fun l a hk h=>
 mV (v:=(.bool false)) hk h fun l a hk h=>
 mG (v:=(aYW g (o+i * 21))) hK hk h 29 fun l a hk h=>
 sG (v:=(aYW g (o+i * 21))) hK hk h 29 (fun _ ho=>KL ho (sT h)) fun l a hk h=>
 sG (v:=(aYW g (o+i * 21+10))) hK hk h 29 (fun _ ho=>aJ (b:=g) (o':=o+i * 21) aA8 ho (sT h)) fun l a hk h=>
 sG (v:=(.bool true)) hK hk h 29 (fun _ ho=>gK OH ho (sT h) hc) fun l a hk h=>
 mG (v:=(.bool true)) hK hk h 29 fun l a hk h=>?_
 refine mG (v:=(.func (.yield ly) #[] #[])) hK hk h 34 fun l a hk h=>
 mG (v:=(aYW g (o+i * 21))) hK hk h 34 fun l a hk h=>
 sG (v:=(aYW g (o+i * 21))) hK hk h 34 (fun _ ho=>KL ho (sT h)) fun l a hk h=>
 sG (v:=(aYW g (o+i * 21+11))) hK hk h 34 (fun _ ho=>aJ (b:=g) (o':=o+i * 21) aHp ho (sT h)) fun l a hk h=>?_
 refine syg hK hk h (d0:=34) rfl (by simp) (by decide) (sT h) (vs:= #[(aYW g (o+i * 21+11))]) (by rw[aHe,sT h (v:=(aYW g (o+i * 21+11)))]) hy2 (fun W2 hY l a hk h=>?_);refine sG (v:=(.bool false)) hK hk h 34 (fun _ ho=>KJ (b:=true) ho (sT h)) fun l a hk h=>
 sG (v:=(.bool false)) hK hk h 29 (fun _ ho=>dR ho (sT h) (sT h)) fun l a hk h=>
 sV (v:=(.bool false)) hk h (fun _ ho=>dI ho (sT h) (sT h)) fun l a hk h=>?_
 exact s0 hk (k _ _ hY (aN h))
theorem aW2{i g o:Nat}(h:Sl 80 [(0,(.func (.yield ly) #[] #[])),(1,(aYW bx 0)),(4,(aYW g (o+i * 21))),(13,(.int .i64 (R.length:Int))),(14,(.int .i64 (i:Int)))] a){X:World->Prop}(hy:YieldAt (FR none) 0 prog ly #[(aYW g (o+i * 21))] W fun e W1=>e=.returned (.bool true)/\X W1)(hx: ∀W1,X W1->W1.cell? ⟨g,o+i * 21+10,none⟩=some (.bool false))(k: ∀a W1,X W1->Sl 80 [(0,(.func (.yield ly) #[] #[])),(1,(aYW bx 0)),(13,.int .i64 (R.length:Int)),(14,.int .i64 (i:Int)),(42,.bool false)] a->Q .normal a W1):aKY.wpIn (FR r) 0 prog Q a W:=by
 refine KG aTk (fun ops l hK hk=>?_);refine mV (v:=(.func (.yield ly) #[] #[])) hk h fun l a hk h=>
 mV (v:=(aYW g (o+i * 21))) hk h fun l a hk h=>
 nV (v:=(aYW g (o+i * 21))) hk h fun l a hk h=>
 sV (v:=(aYW g (o+i * 21))) hk h (fun _ ho=>aJ (b:=g) (o':=o+i * 21) aA9 ho (sT h)) fun l a hk h=>?_
 refine sy hk h (by decide) (sT h) (vs:= #[(aYW g (o+i * 21))]) (by rw[aHe,sT h (v:=(aYW g (o+i * 21)))]) hy (fun W1 hX l a hk h=>?_);have hc:=hx W1 hX;refine sV (v:=(.bool false)) hk h (fun _ ho=>KJ (b:=true) ho (sT h)) fun l a hk h=>
 mV (v:=(.bool false)) hk h fun l a hk h=>
 mG (v:=(aYW g (o+i * 21))) hK hk h 29 fun l a hk h=>
 sG (v:=(aYW g (o+i * 21))) hK hk h 29 (fun _ ho=>KL ho (sT h)) fun l a hk h=>
 sG (v:=(aYW g (o+i * 21+10))) hK hk h 29 (fun _ ho=>aJ (b:=g) (o':=o+i * 21) aA8 ho (sT h)) fun l a hk h=>
 sG (v:=(.bool false)) hK hk h 29 (fun _ ho=>gK OH ho (sT h) hc) fun l a hk h=>
 mG (v:=(.bool false)) hK hk h 29 fun l a hk h=>?_
 refine sX hK hk h 34 fun l a hk h=>
 sX hK hk h 34 fun l a hk h=>
 sX hK hk h 34 fun l a hk h=>
 sX hK hk h 34 fun l a hk h=>
 sX hK hk h 34 fun l a hk h=>
 sX hK hk h 34 fun l a hk h=>
 sG (v:=(.bool false)) hK hk h 29 (fun _ ho=>dI ho (sT h) rfl) fun l a hk h=>?_
 refine sV (v:=(.bool false)) hk h (fun _ ho=>dI ho (sT h) (sT h)) fun l a hk h=>?_;exact s0 hk (k _ _ hX (aN h))
end
theorem gQ{P:Program}{r:Option Nat}{n:Nat}{Q:Exit->Act->World->Prop}{c:Code}(I:Nat->Act->World->Prop)(round: ∀m a w,I m a w->c.wpIn (FR r) n P (Exit.then (fun a' w'=> ∃m',m'<m/\I m' a' w') Q) a w)
 {m:Nat} {a:Act} {w:World} (h0:I m a w):(Code.loop c).wpIn (FR r) n P Q a w:=by
 have key: ∀k m a w,m<k->I m a w->Code.roundsIn (FR r) n P c Q k a w:=by
  intro k
  induction k with
  |zero=>intro m a w h;omega
  |succ k ih=>
   intro m a w hm hI;rw[roundsIn_succ];refine wpIn_mono (round m a w hI) fun e a' w' h=>?_;cases e with
   |normal=>obtain⟨m',h1,h2⟩:=h;exact ih m' a' w' (by omega) h2
   |_=>exact h
 exact wpIn_loop_rounds (m+1) (key (m+1) m a w (by omega) h0)
theorem cZ{P:Program}{r:Option Nat}{n N:Nat}{S:List (Nat × Value)}{Q:Exit->Act->World->Prop}{x y:Code}{a:Act}{W:World}{k:Nat}{t:Bool}(h:Sl N S a)(hm:(k,.bool t) ∈ S)(h1:t=true->x.wpIn (FR r) n P Q a W)(h2:t=false->y.wpIn (FR r) n P Q a W):(Code.cond (.tmp k) x y).wpIn (FR r) n P Q a W:=
 wpIn_cond_split (J5 h hm) h1 h2
section
variable{kd fk tk:Int}{bx pe:Nat}{bs:Option Addr}{cp:Nat}{R:List Bool}{W:World}{ly:Nat}
theorem JD{S:List (Nat × Value)}{Y:World->Prop}{a:Act}(h:Sl 80 S a)(hY:Y W):bodyPost prog f76 (fun e W1=>(∃v,e=.returned v)/\Y W1) .normal a W:=(aJm h results76 ⟨⟨_,rfl⟩,hY⟩).1
theorem aBp{X:Nat->World->Prop}(hX: ∀k W,X k W->Sh kd fk tk bx pe bs cp R W)
 (hY: ∀k W,k<(aYH kd fk tk pe bs R).length->X k W->YieldAt (FR none) 0 prog ly #[aYW ((aYH kd fk tk pe bs R).getD k (0,0)).1 ((aYH kd fk tk pe bs R).getD k (0,0)).2] W fun e W1=>e=.returned (.bool true)/\X (k+1) W1)
 (h0:X 0 W) (hn:R.length<=1000000):CallsIn (FR none) 0 prog 76 #[.func (.yield ly) #[] #[],aYW bx 0] W fun e W1=>(∃v,e=.returned v)/\X (aYH kd fk tk pe bs R).length W1:=by
 refine fM (args:=[.func (.yield ly) #[] #[],aYW bx 0]) (N:=80) func76 (show _=some ZQ by kernel_rfl) ntmps76 (by simp) fun a0 h=>?_;rw[aW0];refine aDs (dt0 (hX 0 W h0) h fun a h=>?_);refine aLs (aDs (dt7 (hX 0 W h0) h fun a h=>?_));refine cZ (t:=decide (kd=1)) h (by simp) (fun k1=>?_) (fun k1=>?_)
 . have k1:=aEF k1;have e:aYH kd fk tk pe bs R=[(pe,1)]:=by unfold aYH;rw[aEo k1]
   rw[e]at hY ⊢;exact dt8 (hX 0 W h0) (aN h) (hY 0 W (by simp) h0) fun a W1 hx h=>JD h hx
 have k1:=aIH k1;refine aDs (dt9 (ly:=ly) (hX 0 W h0) (aN h) fun a h=>?_);refine cZ (t:=decide (kd=2)) h (by simp) (fun k2=>?_) (fun k2=>?_)
 . have k2:=aEF k2;have e:aYH kd fk tk pe bs R=(if fk=1 then[(pe,12)]else[])++(if tk=1 then[(pe,23)]else[]):=by unfold aYH;rw[aEg k1,aEo k2]
   rw[e]at hY ⊢;have h:Sl 80 [(0,.func (.yield ly) #[] #[]),(1,aYW bx 0)] a:=aN h;have tl: ∀(k:Nat) (a:Act) (W1:World),X k W1->k=(if fk=1 then[(pe,12)]else([]:List (Nat × Nat))).length->Sl 80 [(0,.func (.yield ly) #[] #[]),(1,aYW bx 0)] a->
    (Code.seq aHI (.cond (.tmp 73) aHH .skip)).wpIn (FR none) 0 prog (Exit.inBlock 0 (bodyPost prog f76 fun e W1=>(∃v,e=.returned v)/\X ((if fk=1 then[(pe,12)]else[])++(if tk=1 then[(pe,23)]else[]):List (Nat × Nat)).length W1)) a W1:=by
    intro k a W1 hx ek h;refine aDs (aW4 (hX k W1 hx) h fun a h=>?_);refine cZ (t:=decide (tk=1)) h (by simp) (fun t1=>?_) (fun t1=>?_)
    . have t1:=aEF t1;have hy:=hY k W1 (by rw[ek,aEo t1];simp) hx;have e2:((if fk=1 then[(pe,12)]else[])++(if tk=1 then[(pe,23)]else[]):List (Nat × Nat)).getD k (0,0)=(pe,23):=by
       rw[ek,aEo t1];by_cases f1:fk=1<;>simp[f1]
      rw[e2]at hy;refine aW3 (hX k W1 hx) (aN h) hy fun a W2 hx2 h=>JD h ?_;rw[aEo t1,aLx,<-ek];exact hx2
    have t1:=aIH t1;refine aJt (JD h ?_);rw[aEg t1,aO6,<-ek];exact hx
   by_cases f1:fk=1
   . have hy:=hY 0 W (by rw[aEo f1];simp) h0;have e2:((if fk=1 then[(pe,12)]else[])++(if tk=1 then[(pe,23)]else[]):List (Nat × Nat)).getD 0 (0,0)=(pe,12):=by rw[aEo f1];rfl
     rw[e2]at hy;refine aDs (aDs (aTl (hX 0 W h0) f1 h hy fun a W1 hx h=>?_));exact aNZ (sT h) (aJt (tl 1 a W1 hx (by rw[aEo f1];rfl) (aN h)))
   refine aDs (aDs (aTm (hX 0 W h0) f1 h fun a h=>?_));exact aNZ (sT h) (aJt (tl 0 a W h0 (by rw[aEg f1];rfl) (aN h)))
 have k2:=aIH k2;obtain⟨g,o,eD,hgo⟩: ∃g o,aYH kd fk tk pe bs R=zV g o R R.length/\ ∀i,i<R.length->bs=some ⟨g,o,none⟩:=by
  have hs:=(hX 0 W h0).rg;unfold aYH;rw[aEg k1,aEg k2];cases bs with
  |none=>exact⟨0,0,rfl,fun i hi=>by obtain⟨g,o,h,_⟩:=hs i hi;cases h⟩
  |some x=>
   obtain⟨g,o,m⟩:=x;exact⟨g,o,rfl,fun i hi=>by obtain⟨g',o',h,_⟩:=hs i hi;cases h;rfl⟩
 rw[eD]at hY ⊢;refine aDs (dt1 (ly:=ly) (hX 0 W h0) (aN h) fun a h=>?_);refine aLs (gQ (fun m a w=> ∃i,m+i=R.length/\X (zV g o R i).length w/\Sl 80 [(0,.func (.yield ly) #[] #[]),(1,aYW bx 0),(13,.int .i64 (R.length:Int)),(14,.int .i64 (i:Int))] a) ?_ (m:=R.length) ⟨0,rfl,h0,h⟩);rintro m a w ⟨i,hm,hx,h⟩;refine aDs (dt2 h fun a h=>?_);refine aDs (cZ (t:=decide ((i:Int)<(R.length:Int))) h (by simp) (fun hi=>aJt ?_) (fun hi=>aRf ?_))
 . have hi:i<R.length:=by have:=aEF hi;omega
   obtain⟨⟨d1,l1⟩,d2⟩:=aN1 g o R hi;have hb:=hgo i hi;subst hb;obtain⟨g',o',eb,hc⟩:=(hX _ w hx).rg i hi;cases eb;refine aDs (aLs (aDs (dt3 (ly:=ly) (bx:=bx) (R:=R) (i:=i) (aN h) fun a h=>?_)));refine aDs (dt4 hi (hX _ w hx) h fun a h=>?_);have hy1:=hY _ w l1 hx;rw[d1]at hy1;have fin: ∀a W2,X (zV g o R (i+1)).length W2->Sl 80 [(0,.func (.yield ly) #[] #[]),(1,aYW bx 0),(13,.int .i64 (R.length:Int)),(14,.int .i64 (i:Int)),(42,.bool false)] a->
    (Code.cond (.tmp 42) .ret .skip).wpIn (FR none) 0 prog (Exit.inBlock 2 (Exit.then (aOo.wpIn (FR none) 0 prog (Exit.then (fun a' w'=> ∃m',m'<m/\ ∃i,m'+i=R.length/\X (zV g o R i).length w'/\Sl 80 [(0,.func (.yield ly) #[] #[]),(1,aYW bx 0),(13,.int .i64 (R.length:Int)),(14,.int .i64 (i:Int))] a')
      (Exit.inBlock 1 (Exit.inBlock 0 (bodyPost prog f76 fun e W1=>(∃v,e=.returned v)/\X (zV g o R R.length).length W1))))) (Exit.then (fun a' w'=> ∃m',m'<m/\ ∃i,m'+i=R.length/\X (zV g o R i).length w'/\Sl 80 [(0,.func (.yield ly) #[] #[]),(1,aYW bx 0),(13,.int .i64 (R.length:Int)),(14,.int .i64 (i:Int))] a')
      (Exit.inBlock 1 (Exit.inBlock 0 (bodyPost prog f76 fun e W1=>(∃v,e=.returned v)/\X (zV g o R R.length).length W1)))))) a W2:=by
    intro a W2 hx2 h;refine aNZ (sT h) (aJt ?_);refine dt6 (ly:=ly) (bx:=bx) (R:=R) (i:=i) (by have hb:IntKind.i64.bits=64:=rfl;unfold IntKind.wrap;simp[IntKind.signed,hb];omega) (aN h) fun a h=>?_;exact⟨m - 1,by omega,i+1,by omega,hx2,by rw[aNq];exact h⟩
   by_cases hr:R.getD i false=true
   . obtain⟨d2,l2⟩:=d2 hr;refine aDs (aW1 (X:=X ((zV g o R i).length+1)) (Y:=X ((zV g o R i).length+1+1)) h hy1 (fun W1 hx1=>?_) fun a W2 hx2 h=>fin a W2 ?_ h)
     . obtain⟨g',o',eb,hc⟩:=(hX _ W1 hx1).rg i hi;cases eb;have hy2:=hY _ W1 l2 hx1;rw[d2]at hy2;exact⟨hr ▸ hc,hy2⟩
     rw[tN,hr,aLx];exact hx2
   have hr:R.getD i false=false:=by simpa using hr
   refine aDs (aW2 (X:=X ((zV g o R i).length+1)) h hy1 (fun W1 hx1=>?_) fun a W2 hx2 h=>fin a W2 ?_ h)
   . obtain⟨g',o',eb,hc⟩:=(hX _ W1 hx1).rg i hi;cases eb;exact hr ▸ hc
   rw[tN,hr,aLx];exact hx2
 have hi:i=R.length:=by have:=aIH hi;omega
 subst hi;exact JD (Y:=fun W1=>X _ W1) h hx
end
def IK(o:Oper):List Nat:=(o.after.toList.filter fun e=>binding e).map (·.on)
section
variable{P:Program}{r:Option Nat}{n N:Nat}{ops:Array Oper}{Q:Exit->Act->World->Prop}{S:List (Nat × Value)}{W:World}
theorem D9(hb:backOk ops.toList 0=true){m:Nat}(hch: ∀i o,ops[i]? =some o->m<i-> ∃e,e ∈ o.after.toList/\binding e=true/\e.on=i - 1):
 ∀(d k fuel:Nat) (listed:Array Bool) (a:Act) (w:World),k+d=ops.size->m<=k->listed.size=ops.size->listed.toList.count false<=fuel->(∀j,Ls listed j↔j<k)->wpListIn (FR r) n P ops Q (ops.toList.drop k) a w->wpAnyIn (FR r) n P .any ops Q fuel listed a w:=by
 intro d
 induction d with
 | zero=>
  intro k fuel listed a w hk hm hsz hc hl h;have hr:Region.ready .any ops listed=[]:=by
   rw[List.eq_nil_iff_forall_not_mem];intro i hi;obtain⟨o,ho,hn,_⟩:=(kW hsz).1 hi;have:=(aEH.1 ho).1;exact hn ((hl i).2 (by omega))
  rw[aYw (by simp;omega)]at h;exact wpAnyIn_done hr h fuel
 | succ d ih=>
  intro k fuel listed a w hk hm hsz hc hl h;have hkl:k<ops.size:=by omega
  have hnk: ¬Ls listed k:=fun c=>by have:=(hl k).1 c;omega
  cases fuel with
  |zero=>exact absurd (kT (by omega) (by omega)) hnk
  | succ fuel=>
   refine⟨fun hr=>absurd (oC hb hsz hr k hkl) hnk,fun i hi=>?_⟩;obtain⟨o,ho,hn,haf⟩:=(kW hsz).1 hi;have hil:=(aEH.1 ho).1;obtain rfl:i=k:=by
    have h1: ¬i<k:=fun c=>hn ((hl i).2 c);rcases aKQ k i with c|c
    . obtain⟨e,he,hbe,heo⟩:=hch i o ho (by omega);have:=(hl _).1 (haf e he hbe);omega
    omega
   have hd:ops.toList.drop i=o::ops.toList.drop (i+1):=by
    rw[List.drop_eq_getElem_cons (by simpa using hkl)]
    congr 1
    have:=aEH.1 ho;obtain⟨_,rfl⟩:=this;simp
   rw[hd]at h;unfold wpListIn at h;have hset: ∀j,Ls (listed.setIfInBounds i true) j↔j<i+1:=fun j=>by
    rw[qN (by omega)];constructor
    . rintro(c|c)
      . have:=(hl j).1 c;omega
      omega
    intro c;rcases aKQ j i with c2|c2
    . exact .inl ((hl j).2 c2)
    exact .inr (by omega)
   have nx: ∀a w,wpListIn (FR r) n P ops Q (ops.toList.drop (i+1)) a w->wpAnyIn (FR r) n P .any ops Q fuel (listed.setIfInBounds i true) a w:=fun a w h=>ih (i+1) fuel _ a w (by omega) (by omega) (by simp;omega) (count_set (by omega) hn hc) hset h;unfold wpOpIn;rw[ho];dsimp only;split at h
   . rename_i hw;rw[aEo hw];exact Oper.wpIn_mono nx h
   rename_i hw;rw[aEg hw];exact⟨h.1,nx _ _ h.2⟩
def Gv(P:Program)(W:World)(a:Act)(o:Oper)(v:Value):Prop:=(execOp a.eval o).run P W=.ok (.value v) W\/ ∃f args,(execOp a.eval o).run P W=.ok (.enter f args) W/\Calls P f args W fun e W1=>e=.returned v/\W1=W
theorem QE (hb:backOk ops.toList 0=true) {m:Nat} {D:Nat->Nat} {V:Nat->Value} (hm:m<=ops.size)
 (hops: ∀i,i<m-> ∃o,ops[i]? =some o/\o.dst=some (D i)/\kY o.op=false/\D i<N/\(∀e ∈ S,e.1≠D i)/\ ∀a,Sl N S a->(∀j ∈ IK o,j<m/\a.tmps[D j]? =some (V j))->(Region.wanted o (yielded ops a.tmps)=true/\Gv P W a o (V i))\/(Region.wanted o (yielded ops a.tmps)=false/\V i=undef))
 (hinj: ∀i j,i<m->j<m->D i=D j->i=j)
 (hcl:m<ops.size-> ∀L:Nat->Prop,(∀i o,i<=m->ops[i]? =some o->L i-> ∀j ∈ IK o,L j)->L m-> ∀i,i<m->L i)
 (hch: ∀i o,ops[i]? =some o->m<i-> ∃e,e ∈ o.after.toList/\binding e=true/\e.on=i - 1)
 (hfin: ∀a,Sl N S a->(∀j,j<m->a.tmps[D j]? =some (V j))->wpListIn (FR r) n P ops Q (ops.toList.drop m) a W):
 ∀(fuel:Nat) (listed:Array Bool) (a:Act),listed.size=ops.size->listed.toList.count false<=fuel->Sl N S a->(∀j,j<m->Ls listed j->a.tmps[D j]? =some (V j))->(∀i o,i<m->ops[i]? =some o->Ls listed i-> ∀j ∈ IK o,Ls listed j)->(∀j,m<=j-> ¬Ls listed j)->
  wpAnyIn (FR r) n P .any ops Q fuel listed a W:=by
 intro fuel
 induction fuel with
 |zero=>
  intro listed a hsz hc hs hv hcd hno;refine D9 hb hch (ops.size - m) m _ listed a W (by omega) (aC4 _) hsz hc (fun j=>⟨fun h=>?_,fun h=>kT (by omega) (by omega)⟩) (hfin a hs fun j hj=>hv j hj (kT (by omega) (by omega)));rcases aKQ j m with c|c
  . exact c
  exact absurd h (hno j c)
 | succ fuel ih=>
  intro listed a hsz hc hs hv hcd hno;by_cases hall: ∀j,j<m->Ls listed j
  . refine D9 hb hch (ops.size - m) m _ listed a W (by omega) (aC4 _) hsz hc (fun j=>⟨fun h=>?_,hall j⟩) (hfin a hs fun j hj=>hv j hj (hall j hj));rcases aKQ j m with c|c
    . exact c
    exact absurd h (hno j c)
  refine ⟨fun hr=>absurd (fun j hj=>oC hb hsz hr j (by omega)) hall,fun i hi=>?_⟩;obtain⟨o,ho,hn,haf⟩:=(kW hsz).1 hi;have hil:=(aEH.1 ho).1;have TD: ∀j ∈ IK o,Ls listed j:=fun j hj=>by
   obtain⟨e,he,rfl⟩:=aLQ.1 hj;obtain⟨h1,h2⟩:=aTr.1 he;exact haf e h1 h2
  rcases aKQ i m with him|him
  . obtain⟨o',ho',hd,hp,hN,hS,hrun⟩:=hops i him;rw[ho]at ho';cases ho';have hrun:=hrun a hs fun j hj=>by
     have hjm:j<m:=by
      rcases aKQ j m with c|c
      . exact c
      exact absurd (TD j hj) (hno j c)
     exact⟨hjm,hv j hjm (TD j hj)⟩
    have nx:wpAnyIn (FR r) n P .any ops Q fuel (listed.setIfInBounds i true) (a.put o.dst (V i)) W->wpOpIn (FR r) n P ops Q i (wpAnyIn (FR r) n P .any ops Q fuel (listed.setIfInBounds i true)) a W:=by
     intro h;unfold wpOpIn;rw[ho];dsimp only;rcases hrun with⟨hw,hrun⟩|⟨hw,hu⟩
     . rw[aEo hw];refine wS (by unfold XG;cases hq:o.op<;>first|rfl|(rw[hq]at hp;cases hp)) ?_;unfold Oper.wp;rcases hrun with hrun|⟨f,args,hrun,hc⟩
       . rw[hrun];exact h
       rw[hrun,aVR];refine hc.mono fun e W1 hR=>?_;obtain⟨rfl,e2⟩:=hR;rw[e2];exact h
     rw[aEg (by rw[hw];decide)];rw[hu]at h;exact⟨fun _ _=>trivial,h⟩
    refine nx ?_;rw[hd];refine ih _ _ (by simp;omega) (count_set (by omega) hn hc) ⟨by simp[Act.put,hs.size],hs.defs,fun e he=>?_⟩ (fun j hj hl=>?_) (fun k ok hk hok hl j hj=>?_) (fun j hj hl=>?_)
    . simp only[Act.put];rw[aJN (aPu (hS e he))];exact hs.val e he
    . rw[qN (by omega)]at hl;simp only[Act.put];by_cases c:D i=D j
      . obtain rfl:=hinj i j him hj c;simp[hs.size,hN]
      rw[aJN c];rcases hl with hl|hl
      . exact hv j hj hl
      exact absurd (by rw[hl]) c
    . rw[qN (by omega)]at hl ⊢;rcases hl with hl|rfl
      . exact .inl (hcd k ok hk hok hl j hj)
      rw[ho]at hok;cases hok;exact .inl (TD j hj)
    rw[qN (by omega)]at hl;rcases hl with hl|rfl
    . exact hno j hj hl
    omega
  exfalso;by_cases aN9:m<i
  . obtain⟨e,he,hbe,heo⟩:=hch i o ho aN9;exact hno e.on (by omega) (haf e he hbe)
  obtain rfl:i=m:=by omega
  refine hall fun j hj=>(hcl hil (fun j=>j=i\/Ls listed j) (fun k ok hk hok hl j hj=>?_) (.inl rfl) j hj).resolve_left (by omega);by_cases c:k=i
  . subst c;rw[ho]at hok;cases hok;exact .inr (TD j hj)
  rcases hl with hl|hl
  . exact absurd hl c
  exact .inr (hcd k ok (by omega) hok hl j hj)
def clB(A:List (List Nat))(m:Nat):Bool:=(List.range m).all fun i=>(List.range (m+1)).any fun k=>Nat.blt i k&&(A.getD k []).contains i
def chB(A:List (List Nat))(m:Nat):Bool:=(List.range A.length).all fun i=>Nat.ble i m||(A.getD i []).contains (i - 1)
theorem RS{a b:Nat}(h:Nat.blt a b=true):a<b:=by rw[Nat.blt_eq]at h;exact h
theorem aH6{A:List (List Nat)}{m:Nat}(h:clB A m=true){L:Nat->Prop}(hL: ∀k,k<=m->L k-> ∀j ∈ A.getD k [],L j)(h0:L m): ∀i,i<m->L i:=by
 have key: ∀d i,i+d=m->L i:=by
  intro d
  induction d using Nat.strongRecOn with
  |ind d ih=>
   intro i hi;rcases aXK d with c|c
   . have:i=m:=by omega
     exact this ▸ h0
   have:=aIJ.1 h i (aMv.2 (by omega));obtain⟨k,hk,h2⟩:=aUx.1 this;obtain⟨h3,h4⟩:=(aEb _ _).mp h2;have hk:=aMv.1 hk;have h3:=RS h3;exact hL k (by omega) (ih (m - k) (by omega) k (by omega)) i (by simpa using h4)
 exact fun i hi=>key (m - i) i (by omega)
theorem aEk {c:Code} {a:Act} {Pz:List (Nat × List Nat × Op × Value)} {T:List (Option (Tmp × Bool) × Option Tmp × Op)} {TA:List (List Nat)} (hm:P.follows .mixedOrders=true)
 (hk:jH c=true/\(jV c).map key=Pz.map (fun x=>(none,some x.1,x.2.2.1))++T) (ha:(jV c).map IK=Pz.map (·.2.1)++TA) (hb:backOk (jV c) 0=true) (hT:T≠[])
 (hdf:Pz.all (fun x=> !kY x.2.2.1&&Nat.blt x.1 N&&x.2.1.all (fun j=>Nat.blt j Pz.length))=true) (hnd:(Pz.map (·.1)).Nodup) (hS: ∀e ∈ S,e.1 ∉ Pz.map (·.1)) (hcl:clB (Pz.map (·.2.1)++TA) Pz.length=true) (hch:chB (Pz.map (·.2.1)++TA) Pz.length=true)
 (h:Sl N S a)
 (hrun: ∀(i:Nat) (x:Nat × List Nat × Op × Value),Pz[i]? =some x-> ∀(o:Oper) a,o.op=x.2.2.1->Sl N (x.2.1.map (fun j=>((Pz.getD j (0,[],.move (.tmp 0),undef)).1,(Pz.getD j (0,[],.move (.tmp 0),undef)).2.2.2))++S) a->(execOp a.eval o).run P W.drew=.ok (.value x.2.2.2) W.drew)
 (hfin: ∀ops l a,ops.toList.map key=Pz.map (fun x=>(none,some x.1,x.2.2.1))++T->l.map key=T->Sl N (Pz.map (fun x=>(x.1,x.2.2.2))++S) a->wpListIn (FR r) n P ops Q l a W.drew):c.wpIn (FR r) n P Q a W:=by
 obtain⟨hd,hk⟩:=hk;cases c with
 | region id ops b=>
  obtain rfl:b=true:=hd;change ops.toList.map key=_ at hk;change ops.toList.map IK=_ at ha;change backOk ops.toList 0=true at hb;have hlen:Pz.length+T.length=ops.size:=by have:=aPa List.length hk;simpa using this.symm
  have hTl:0<T.length:=by cases T with|nil=>exact absurd rfl hT|cons x t=>simp
  have opk: ∀i o,ops[i]? =some o->(Pz.map (fun x=>((none:Option (Tmp × Bool)),some x.1,x.2.2.1))++T)[i]? =some (key o)/\(Pz.map (·.2.1)++TA)[i]? =some (IK o):=fun i o ho=>by
   rw[<-hk,<-ha,aEC,aEC,aEt,ho];exact⟨rfl,rfl⟩
  have ZL: ∀i o,ops[i]? =some o->(Pz.map (·.2.1)++TA).getD i []=IK o:=fun i o ho=>by rw[List.getD,(opk i o ho).2];rfl
  refine aVF hm (QE (S:=S) (N:=N) (m:=Pz.length) (D:=fun i=>(Pz.getD i (0,[],.move (.tmp 0),undef)).1) (V:=fun i=>(Pz.getD i (0,[],.move (.tmp 0),undef)).2.2.2) hb (by omega) (fun i hi=>?_) (fun i j hi hj e=>?_) (fun _ L hL h0=>?_) (fun i o ho hi=>?_) (fun a hs hv=>?_) _ _ _ (by simp) (by simp[aWM]) h (fun j hj hl=>?_) (fun i o hi ho hl=>?_) (fun j hj hl=>?_))
  . have ho:ops[i]? =some ops[i]:=aJT (by omega);obtain⟨k1,k2⟩:=opk i _ ho;have hx:Pz[i]? =some Pz[i]:=aE5 hi;rw[aIG (by simpa using hi),aEC,hx]at k1 k2;simp only[aLw,aPb,key,aNS]at k1 k2;have gx:Pz.getD i (0,[],.move (.tmp 0),undef)=Pz[i]:=by rw[List.getD,hx];rfl
    have hq:=aIJ.1 hdf _ (aLH hx);simp only[aEb,aTL]at hq;have hN:=RS hq.1.2;refine⟨ops[i],ho,by rw[gx];exact k1.2.1.symm,by rw[<-k1.2.2];exact hq.1.1,by rw[gx];exact hN,fun e he c=>hS e he ?_,fun a hs hj=>?_⟩
    . rw[c,gx];exact aLQ.2 ⟨_,aLH hx,rfl⟩
    rw[gx];refine .inl ⟨O5 k1.1.symm,.inl (hrun i _ hx _ a k1.2.2.symm ⟨hs.size,hs.defs,fun e he=>?_⟩)⟩;rcases aIK.1 he with he|he
    . obtain⟨j,hj1,rfl⟩:=aLQ.1 he;rw[k2]at hj1;exact(hj j hj1).2
    exact hs.val e he
  . simp only[List.getD,aE5 hi,aE5 hj,aT8]at e;exact(aX5 (xs:=Pz.map (·.1)) (h₀:=by simpa using hi) (h₁:=by simpa using hj) hnd).1 (by simpa using e)
  . refine aH6 hcl (fun k hk hl j hj=>?_) h0;have ho:ops[k]? =some ops[k]:=aJT (by omega);rw[ZL k _ ho]at hj;exact hL k _ hk ho hl j hj
  . have hil:=(aEH.1 ho).1;have hA:(Pz.map (·.2.1)++TA).length=ops.size:=by have:=aPa List.length ha;simpa using this.symm
    have:=aIJ.1 hch i (aMv.2 (by omega));rw[ZL i o ho]at this;rcases(aMi _ _).mp this with c|c
    . have:=aK8 c;omega
    have c:i - 1 ∈ IK o:=by simpa using c
    obtain⟨e,he,h3⟩:=aLQ.1 c;obtain⟨h1,h2⟩:=aTr.1 he;exact⟨e,h1,h2,h3⟩
  . refine hfin ops _ a hk (by rw[aUf,hk,aYc (by simp)]) ⟨hs.size,hs.defs,fun e he=>?_⟩;rcases aIK.1 he with he|he
    . obtain⟨x,hx,rfl⟩:=aLQ.1 he;obtain⟨j,hj⟩:=aWL hx;have hjl:=(aED.1 hj).1;have:=hv j hjl;rw[List.getD,hj]at this;exact this
    exact hs.val e he
  . exfalso;unfold Ls at hl;simp[Array.getD]at hl
  . exfalso;unfold Ls at hl;simp[Array.getD]at hl
  unfold Ls at hl;simp[Array.getD]at hl
 |_=>
  have:=aPa List.length hk;simp[jV]at this;exact absurd (aO5.1 (by omega)) hT
abbrev PzG:=Option (Tmp × Bool) × Nat × List Nat × Op × Value
abbrev pzd:PzG:=(none,0,[],.move (.tmp 0),undef)
def aC5(Pz:List PzG)(x:PzG):Bool:=match x.1 with
 |none=>true
 |some (j,b)=>match(Pz.getD j pzd).2.2.2.2 with
  | .bool b'=>b'==b
  |_=>false
theorem UA {c:Code} {a:Act} {Pz:List PzG} {T:List (Option (Tmp × Bool) × Option Tmp × Op)} {TA:List (List Nat)} (hm:P.follows .mixedOrders=true)
 (hk:jH c=true/\(jV c).map key=Pz.map (fun x=>(x.1,some x.2.1,x.2.2.2.1))++T) (ha:(jV c).map IK=Pz.map (·.2.2.1)++TA) (hb:backOk (jV c) 0=true) (hne:Pz≠[])
 (hdf:Pz.all (fun x=> !kY x.2.2.2.1&&Nat.blt x.2.1 N&&(match x.1 with|none=>true|some (j,_)=>x.2.2.1.contains j))=true) (hnd:(Pz.map (·.2.1)).Nodup) (hS: ∀e ∈ S,e.1 ∉ Pz.map (·.2.1)) (hcl:T=[]\/clB (Pz.map (·.2.2.1)++TA) Pz.length=true) (hch:chB (Pz.map (·.2.2.1)++TA) Pz.length=true)
 (h:Sl N S a)
 (hrun: ∀(i:Nat) (x:PzG),Pz[i]? =some x->(aC5 Pz x=false/\x.2.2.2.2=undef)\/(aC5 Pz x=true/\ ∀(o:Oper) a,o.op=x.2.2.2.1->Sl N (x.2.2.1.map (fun j=>((Pz.getD j pzd).2.1,(Pz.getD j pzd).2.2.2.2))++S) a->Gv P W.drew a o x.2.2.2.2))
 (hfin: ∀ops l a,ops.toList.map key=Pz.map (fun x=>(x.1,some x.2.1,x.2.2.2.1))++T->l.map key=T->Sl N (Pz.map (fun x=>(x.2.1,x.2.2.2.2))++S) a->wpListIn (FR r) n P ops Q l a W.drew):c.wpIn (FR r) n P Q a W:=by
 obtain⟨hd,hk⟩:=hk;cases c with
 | region id ops b=>
  obtain rfl:b=true:=hd;change ops.toList.map key=_ at hk;change ops.toList.map IK=_ at ha;change backOk ops.toList 0=true at hb;have hlen:Pz.length+T.length=ops.size:=by have:=aPa List.length hk;simpa using this.symm
  have opk: ∀i o,ops[i]? =some o->(Pz.map (fun x=>(x.1,some x.2.1,x.2.2.2.1))++T)[i]? =some (key o)/\(Pz.map (·.2.2.1)++TA)[i]? =some (IK o):=fun i o ho=>by
   rw[<-hk,<-ha,aEC,aEC,aEt,ho];exact⟨rfl,rfl⟩
  have ZL: ∀i o,ops[i]? =some o->(Pz.map (·.2.2.1)++TA).getD i []=IK o:=fun i o ho=>by rw[List.getD,(opk i o ho).2];rfl
  have aW5: ∀i,i<Pz.length->(ops[i]?).bind (·.dst)=some (Pz.getD i pzd).2.1:=fun i hi=>by
   have ho:ops[i]? =some ops[i]:=aJT (by omega);obtain⟨k1,_⟩:=opk i _ ho;have hx:Pz[i]? =some Pz[i]:=aE5 hi;rw[aIG (by simpa using hi),aEC,hx]at k1;simp only[aLw,aPb,key,aNS]at k1;rw[ho,List.getD,hx];exact k1.2.1.symm
  refine aVF hm (QE (S:=S) (N:=N) (m:=Pz.length) (D:=fun i=>(Pz.getD i pzd).2.1) (V:=fun i=>(Pz.getD i pzd).2.2.2.2) hb (by omega) (fun i hi=>?_) (fun i j hi hj e=>?_) (fun hlt L hL h0=>?_) (fun i o ho hi=>?_) (fun a hs hv=>?_) _ _ _ (by simp) (by simp[aWM]) h (fun j hj hl=>?_) (fun i o hi ho hl=>?_) (fun j hj hl=>?_))
  . have ho:ops[i]? =some ops[i]:=aJT (by omega);obtain⟨k1,k2⟩:=opk i _ ho;have hx:Pz[i]? =some Pz[i]:=aE5 hi;rw[aIG (by simpa using hi),aEC,hx]at k1 k2;simp only[aLw,aPb,key,aNS]at k1 k2;have gx:Pz.getD i pzd=Pz[i]:=by rw[List.getD,hx];rfl
    have hq:=aIJ.1 hdf _ (aLH hx);simp only[aEb,aTL]at hq;have hN:=RS hq.1.2;refine⟨ops[i],ho,by rw[gx];exact k1.2.1.symm,by rw[<-k1.2.2];exact hq.1.1,by rw[gx];exact hN,fun e he c=>hS e he ?_,fun a hs hj=>?_⟩
    . rw[c,gx];exact aLQ.2 ⟨_,aLH hx,rfl⟩
    rw [gx];have hw:Region.wanted ops[i] (yielded ops a.tmps)=aC5 Pz Pz[i]:=by
     unfold Region.wanted aC5;rw[<-k1.1];cases hg:(Pz[i]).1 with
     |none=>rfl
     | some p=>
      obtain⟨j,b⟩:=p;have hq2:=hq.2;rw[hg]at hq2;have hja:j ∈ IK ops[i]:=by rw[<-k2];simpa using hq2
      obtain⟨hj1,hj2⟩:=hj j hja;have hy:yielded ops a.tmps j=match(Pz.getD j pzd).2.2.2.2 with
       | .bool b=>some b
       |_=>none:=by
       unfold yielded;rw[aW5 j hj1,aPi,hj2];cases(Pz.getD j pzd).2.2.2.2<;>rfl
      show(yielded ops a.tmps j==some b)=(match(Pz.getD j pzd).2.2.2.2 with
       | .bool b'=>b'==b
       |_=>false)
      rw[hy];generalize (Pz.getD j pzd).2.2.2.2=u;cases u<;>first|rfl|(rename_i b';cases b'<;>cases b<;>rfl)
    rcases hrun i _ hx with⟨h1,h2⟩|⟨h1,h2⟩
    . exact .inr ⟨hw.trans h1,h2⟩
    refine .inl ⟨hw.trans h1,h2 _ a k1.2.2.symm ⟨hs.size,hs.defs,fun e he=>?_⟩⟩;rcases aIK.1 he with he|he
    . obtain⟨j,hj1,rfl⟩:=aLQ.1 he;rw[k2]at hj1;exact(hj j hj1).2
    exact hs.val e he
  . simp only[List.getD,aE5 hi,aE5 hj,aT8]at e;exact(aX5 (xs:=Pz.map (·.2.1)) (h₀:=by simpa using hi) (h₁:=by simpa using hj) hnd).1 (by simpa using e)
  . rcases hcl with hT|hcl
    . rw[hT]at hlen;simp at hlen;omega
    refine aH6 hcl (fun k hk hl j hj=>?_) h0;by_cases hks:k<ops.size
    . have ho:ops[k]? =some ops[k]:=aJT hks;rw[ZL k _ ho]at hj;exact hL k _ hk ho hl j hj
    have hA:(Pz.map (·.2.2.1)++TA).length=ops.size:=by have:=aPa List.length ha;simpa using this.symm
    rw[List.getD,aUs (by omega)]at hj;cases hj
  . have hil:=(aEH.1 ho).1;have hA:(Pz.map (·.2.2.1)++TA).length=ops.size:=by have:=aPa List.length ha;simpa using this.symm
    have:=aIJ.1 hch i (aMv.2 (by omega));rw[ZL i o ho]at this;rcases(aMi _ _).mp this with c|c
    . have:=aK8 c;omega
    have c:i - 1 ∈ IK o:=by simpa using c
    obtain⟨e,he,h3⟩:=aLQ.1 c;obtain⟨h1,h2⟩:=aTr.1 he;exact⟨e,h1,h2,h3⟩
  . refine hfin ops _ a hk (by rw[aUf,hk,aYc (by simp)]) ⟨hs.size,hs.defs,fun e he=>?_⟩;rcases aIK.1 he with he|he
    . obtain⟨x,hx,rfl⟩:=aLQ.1 he;obtain⟨j,hj⟩:=aWL hx;have hjl:=(aED.1 hj).1;have:=hv j hjl;rw[List.getD,hj]at this;exact this
    exact hs.val e he
  . exfalso;unfold Ls at hl;simp[Array.getD]at hl
  . exfalso;unfold Ls at hl;simp[Array.getD]at hl
  unfold Ls at hl;simp[Array.getD]at hl
 |_=>
  have:=aPa List.length hk;simp[jV]at this;exact absurd (aO5.1 (by omega)) hne
theorem aOu{c:Code}{a:Act}{Pz:List PzG}{T:List (Option (Tmp × Bool) × Option Tmp × Op)}{TA:List (List Nat)}(hm:P.follows .mixedOrders=true)
 (hk:jH c=true/\(jV c).map key=Pz.map (fun x=>(x.1,some x.2.1,x.2.2.2.1))++T) (ha:(jV c).map IK=Pz.map (·.2.2.1)++TA) (hb:backOk (jV c) 0=true) (hne:Pz≠[])
 (hdf:Pz.all (fun x=> !kY x.2.2.2.1&&Nat.blt x.2.1 N&&(match x.1 with|none=>true|some (j,_)=>x.2.2.1.contains j))=true) (hnd:(Pz.map (·.2.1)).Nodup) (hS: ∀e ∈ S,e.1 ∉ Pz.map (·.2.1)) (hcl:T=[]\/clB (Pz.map (·.2.2.1)++TA) Pz.length=true) (hch:chB (Pz.map (·.2.2.1)++TA) Pz.length=true)
 (h:Sl N S a)
 (hrun: ∀(i:Nat) (x:PzG),Pz[i]? =some x->(aC5 Pz x=false/\x.2.2.2.2=undef)\/(aC5 Pz x=true/\ ∀(o:Oper) a,o.op=x.2.2.2.1->Sl N (x.2.2.1.map (fun j=>((Pz.getD j pzd).2.1,(Pz.getD j pzd).2.2.2.2))++S) a->(execOp a.eval o).run P W.drew=.ok (.value x.2.2.2.2) W.drew))
 (hfin: ∀ops l a,ops.toList.map key=Pz.map (fun x=>(x.1,some x.2.1,x.2.2.2.1))++T->l.map key=T->Sl N (Pz.map (fun x=>(x.2.1,x.2.2.2.2))++S) a->wpListIn (FR r) n P ops Q l a W.drew):c.wpIn (FR r) n P Q a W:=
 UA hm hk ha hb hne hdf hnd hS hcl hch h (fun i x hx=>(hrun i x hx).imp id fun h=>⟨h.1,fun o a ho hs=>.inl (h.2 o a ho hs)⟩) hfin
end
theorem aHt:oZ prog 30 1=some 5:=by kernel_rfl
theorem aHs:oZ prog 30 2=some 6:=by kernel_rfl
theorem aBa:oZ prog 30 3=some 7:=by kernel_rfl
theorem aJ0:aYV prog 9=true:=by kernel_rfl
theorem aDJ:aYV prog 3=true:=by kernel_rfl
theorem aNx:aYV prog 111=true:=by kernel_rfl
noncomputable def daC:Code:=match(f51).body with
 |some c=>c
 |none=>.skip
theorem aXc:daC=(.seq (bF [0] daC) (.seq (bF [1,0] daC) .ret)):=by kernel_rfl
noncomputable def ptC:Code:=match(f52).body with
 |some c=>c
 |none=>.skip
noncomputable def aRQ:Code:=bF [0] ptC
noncomputable def aRP:Code:=bF [1,0,0,0] ptC
noncomputable def aRO:Code:=bF [1,0,0,1,0,0] ptC
noncomputable def aRN:Code:=bF [1,0,0,1,1,0] ptC
noncomputable def aRM:Code:=bF [1,0,0,1,1,1,0,0] ptC
noncomputable def aRL:Code:=bF [1,1,0] ptC
theorem aV2:ptC=(.seq aRQ (.seq (.block 0 (.seq aRP (.cond (.tmp 3) (.seq aRO .ret) (.seq aRN (.cond (.tmp 9) (.seq aRM .ret) .skip))))) (.seq aRL .ret))):=by kernel_rfl
noncomputable def plC:Code:=match(f50).body with
 |some c=>c
 |none=>.skip
noncomputable def aR3:Code:=bF [0] plC
noncomputable def aR2:Code:=bF [1,0] plC
noncomputable def aR1:Code:=bF [1,1,0] plC
noncomputable def aR0:Code:=bF [1,1,1,0,0] plC
noncomputable def aRZ:Code:=bF [1,1,1,0,1,0,0,0] plC
noncomputable def aRY:Code:=bF [1,1,1,0,1,0,0,1,0,0,0] plC
noncomputable def aRX:Code:=bF [1,1,1,0,1,0,0,1,0,0,1,1,0,0,0] plC
noncomputable def aRW:Code:=bF [1,1,1,0,1,0,0,1,0,0,1,1,0,0,1,0] plC
noncomputable def aRV:Code:=bF [1,1,1,0,1,0,0,1,0,0,1,1,1] plC
noncomputable def aRU:Code:=bF [1,1,1,0,1,0,1] plC
theorem aV6:plC=(.seq aR3 (.seq aR2 (.seq aR1 (.block 0 (.rangeFunc (.tmp 7) #[8] aR0 (.block 1 (.seq (.seq aRZ (.block 2 (.loop (.seq aRY (.seq (.cond (.tmp 12) .skip (.exit 2)) (.seq (.block 3 (.seq aRX (.seq aRW (.cond (.tmp 30) .ret .skip)))) aRV)))))) aRU))))))):=by kernel_rfl
def Al(W W1:World)(s:Nat)(el:TypeId)(vs:List Value):Prop:=W.heap.size=s/\W1.heap.size=s+1/\(∀b,b<s->W1.heap[b]? =W.heap[b]?)/\dA W1 s el vs/\aYM W W1
theorem dN{W:World}{el:TypeId}(vs:List Value):Al W (W.alloc (.cells vs.toArray el)) W.heap.size el vs:=
 ⟨rfl,by simp,fun b hb=>Below.heap_alloc _ _ _ hb,jD,rfl,rfl,rfl⟩
theorem EC{W W1:World}{s:Nat}{el:TypeId}{vs us:List Value}(h:Al W W1 s el vs)(hl:us.length=vs.length):Al W (W1.setCells s 0 us) s el us:=by
 obtain⟨h1,h2,h3,h4,h5⟩:=h;have:=dM (B:=s) (b:=s) (aC4 _) us 0 (aDA s W1);refine⟨h1,(sS us 0 W1).trans h2,fun b hb=>?_,bM h4 hl,h5.trans ⟨this.os,this.tape,this.output⟩⟩;exact(this.block b hb).trans (h3 b hb)
theorem tJ{α β:Type}(f:α->β)(x y:α):(#[x,y]:Array α).map f= #[f x,f y]:=by simp
def prt(mo da:ByteArray):Nat:=if(mo.toList==(⟨#[]⟩:ByteArray).toList)=true then 1 else if(da.toList==(⟨#[]⟩:ByteArray).toList)=true then 2 else 3
theorem RF(mo da:ByteArray):prt mo da<=3:=by unfold prt;split<;>(try split)<;>omega
section
variable{P:Program}{W:World}{a:Act}{o:Oper}{t:TypeId}{x y:Operand}
theorem wP{len:Nat}{el:TypeId}{b off sz i:Nat}(hu:P.underlying t=some (.array len el))(hz:(P.info? el).map (·.size)=some sz)(hi:i<len)(ho:o.op=.indexAddr t x y)(hx:a.eval x=.pointer (some ⟨b,off,none⟩))(hy:a.eval y=.int .i64 i):
 (execOp a.eval o).run P W=.ok (.value (aYW b (off+i * sz))) W:=by
 have h1:(0:Int)<=(i:Int)/\(i:Int)<(len:Int):=⟨by omega,by omega⟩;cases hq:P.info? el with
 |none=>simp[hq]at hz
 |some q=>
  have hs:q.size=sz:=by simpa[hq]using hz
  unfold execOp;simp[ho,hx,hy,Instr.indexAt,aEG hu,asIntOf,sizeOf,typeInfo,hq,hs,h1,aSD,Instr.sureAddr];intro c;omega
end
theorem aTQ(W:World)(n i m:Int):(Instr.build 46 #[(0,.int .i64 n),(1,.int .i64 i),(2,.int .u8 m)]).run prog W=.ok (.agg #[.int .i64 n,.int .i64 i,.int .u8 m]) W:=by kernel_rfl
theorem PO{W:World}{a:Act}{o:Oper}{x y z:Operand}{n i m:Int}(ho:o.op=.build 46 #[(0,x),(1,y),(2,z)])(hx:a.eval x=.int .i64 n)(hy:a.eval y=.int .i64 i)(hz:a.eval z=.int .u8 m):
 (execOp a.eval o).run prog W=.ok (.value (.agg #[.int .i64 n,.int .i64 i,.int .u8 m])) W:=by
 have h:(#[(0,x),(1,y),(2,z)]:Array (Nat × Operand)).map (fun p=>(p.1,a.eval p.2))= #[(0,.int .i64 n),(1,.int .i64 i),(2,.int .u8 m)]:=by simp[hx,hy,hz]
 unfold execOp;simp only[ho,aDt,aD0];rw[h,aTQ];rfl
theorem aEn(pe:Nat)(W:World):Calls prog 51 #[aYW pe 0] W fun e W1=>e=.returned (.func (.func 76) #[] #[aYW W.heap.size 0])/\Al W W1 W.heap.size 84 [aYW pe 0]:=by
 refine(aMd (n:=0)).1 ?_;refine fM (args:=[aYW pe 0]) (N:=4) func51 (show _=some daC by kernel_rfl) ntmps51 (by simp) fun a h=>?_;rw[aXc];refine aDs (aG [(none,some 1,.box 84 (.tmp 0)),kc 2 .nilFunc] fun ops l hK hk=>?_);refine sV (v:=aYW W.heap.size 0) hk h (fun _ ho=>rJ (v:=aYW pe 0) ho (sT h) rfl) fun l a hk h=>
 aC (v:=.nilFunc) hk h fun l a hk h=>?_
 refine s0 hk (aDs (aG [(none,some 3,.makeFunc (.func 76) #[] #[(.tmp 1)]),ka 2 3] fun ops l hK hk=>?_));refine sV (v:=.func (.func 76) #[] #[aYW W.heap.size 0]) hk h (fun _ ho=>aFy ho (sT h)) fun l a hk h=>
 aV (v:=.func (.func 76) #[] #[aYW W.heap.size 0]) hk h fun l a hk h=>?_
 refine s0 hk (aMu ?_);exact fF (i:=2) h results51 (by simp) ⟨rfl,dN [aYW pe 0]⟩
section
variable{bx pe oK bn b off:Nat}{W:World}{r:Option Nat}{n ly:Nat}{Q:Exit->Act->World->Prop}{a:Act}
section
variable{mo da:ByteArray}(hm:W.cell? ⟨b,off+5,none⟩=some (.string mo))(hd:W.cell? ⟨b,off+6,none⟩=some (.string da))
omit hm hd in
theorem pt0 (h:Sl 15 [(0,(aYW b off))] a)(k: ∀a,Sl 15 [(0,(aYW b off))] a->Q .normal a W):aRQ.wpIn (FR r) n prog Q a W:=by
 refine aG [kc 2 (.int .i64 0)] (fun ops l hK hk=>?_);refine aC (v:=(.int .i64 0)) hk h fun l a hk h=>?_;exact s0 hk (k _ (aN h))
include hm in
omit hd in
theorem pt1 (h:Sl 15 [(0,(aYW b off))] a)(k: ∀a,Sl 15 [(0,(aYW b off)),(3,(.bool (mo.toList==(⟨#[]⟩:ByteArray).toList)))] a->Q .normal a W):aRP.wpIn (FR r) n prog Q a W:=by
 refine aG [km 4 0,kn 5 4,kf 6 30 5 1,kl 7 9 6,(none,some 8,.binOp .eql 9 (.tmp 7) (.const (.string ⟨#[]⟩)) 9),ka 3 8] (fun ops l hK hk=>?_);refine mV (v:=(aYW b off)) hk h fun l a hk h=>
 nV (v:=(aYW b off)) hk h fun l a hk h=>
 sV (v:=(aYW b (off+5))) hk h (fun _ ho=>aJ (b:=b) (o':=off) aHt ho (sT h)) fun l a hk h=>
 lV aJ0 (v:=(.string mo)) hk h (hm) fun l a hk h=>
 sV (v:=(.bool (mo.toList==(⟨#[]⟩:ByteArray).toList))) hk h (fun _ ho=>aLJ rfl ho (sT h) rfl) fun l a hk h=>
 aV (v:=(.bool (mo.toList==(⟨#[]⟩:ByteArray).toList))) hk h fun l a hk h=>?_
 exact s0 hk (k _ (aN h))
include hd in
omit hm in
theorem pt3 (h:Sl 15 [(0,(aYW b off))] a)(k: ∀a,Sl 15 [(9,(.bool (da.toList==(⟨#[]⟩:ByteArray).toList)))] a->Q .normal a W):aRN.wpIn (FR r) n prog Q a W:=by
 refine aG [km 10 0,kn 11 10,kf 12 30 11 2,kl 13 9 12,(none,some 14,.binOp .eql 9 (.tmp 13) (.const (.string ⟨#[]⟩)) 9),ka 9 14] (fun ops l hK hk=>?_);refine mV (v:=(aYW b off)) hk h fun l a hk h=>
 nV (v:=(aYW b off)) hk h fun l a hk h=>
 sV (v:=(aYW b (off+6))) hk h (fun _ ho=>aJ (b:=b) (o':=off) aHs ho (sT h)) fun l a hk h=>
 lV aJ0 (v:=(.string da)) hk h (hd) fun l a hk h=>
 sV (v:=(.bool (da.toList==(⟨#[]⟩:ByteArray).toList))) hk h (fun _ ho=>aLJ rfl ho (sT h) rfl) fun l a hk h=>
 aV (v:=(.bool (da.toList==(⟨#[]⟩:ByteArray).toList))) hk h fun l a hk h=>?_
 exact s0 hk (k _ (aN h))
omit hm hd in
theorem pt2 (h:Sl 15 [] a)(k: ∀a,Sl 15 [(2,(.int .i64 1))] a->Q .normal a W):aRO.wpIn (FR r) n prog Q a W:=by
 refine aG [kc 2 (.int .i64 1)] (fun ops l hK hk=>?_);refine aC (v:=(.int .i64 1)) hk h fun l a hk h=>?_;exact s0 hk (k _ (aN h))
omit hm hd in
theorem pt4 (h:Sl 15 [] a)(k: ∀a,Sl 15 [(2,(.int .i64 2))] a->Q .normal a W):aRM.wpIn (FR r) n prog Q a W:=by
 refine aG [kc 2 (.int .i64 2)] (fun ops l hK hk=>?_);refine aC (v:=(.int .i64 2)) hk h fun l a hk h=>?_;exact s0 hk (k _ (aN h))
omit hm hd in
theorem pt5 (h:Sl 15 [] a)(k: ∀a,Sl 15 [(2,(.int .i64 3))] a->Q .normal a W):aRL.wpIn (FR r) n prog Q a W:=by
 refine aG [kc 2 (.int .i64 3)] (fun ops l hK hk=>?_);refine aC (v:=(.int .i64 3)) hk h fun l a hk h=>?_;exact s0 hk (k _ (aN h))
end
end
theorem aDB{b off:Nat}{W:World}{mo da:ByteArray}(hm:W.cell? ⟨b,off+5,none⟩=some (.string mo))(hd:W.cell? ⟨b,off+6,none⟩=some (.string da)):Calls prog 52 #[aYW b off] W fun e W1=>e=.returned (.int .i64 (prt mo da:Int))/\W1=W:=by
 refine(aMd (n:=0)).1 ?_;refine fM (args:=[aYW b off]) (N:=15) func52 (show _=some ptC by kernel_rfl) ntmps52 (by simp) fun a h=>?_;rw[aV2];refine aDs (pt0 h fun a h=>aDs (aLs (aDs (pt1 hm h fun a h=>?_))));refine cZ (t:=mo.toList==(⟨#[]⟩:ByteArray).toList) h (by simp) (fun c=>?_) (fun c=>?_)
 . refine aDs (pt2 (aAi h) fun a h=>aMu ?_);exact fF (R:=fun e W1=>e=.returned (.int .i64 (prt mo da:Int))/\W1=W) (i:=2) (v:=.int .i64 1) h results52 (by simp) ⟨by unfold prt;rw[aEo c];rfl,rfl⟩
 refine aDs (pt3 hd (aN h) fun a h=>?_);refine cZ (t:=da.toList==(⟨#[]⟩:ByteArray).toList) h (by simp) (fun c2=>?_) (fun c2=>?_)
 . refine aDs (pt4 (aAi h) fun a h=>aMu ?_);exact fF (R:=fun e W1=>e=.returned (.int .i64 (prt mo da:Int))/\W1=W) (i:=2) (v:=.int .i64 2) h results52 (by simp) ⟨by unfold prt;rw[aEg (by rw[c];decide),aEo c2];rfl,rfl⟩
 refine aJt (aDs (pt5 (aAi h) fun a h=>aMu ?_));exact fF (R:=fun e W1=>e=.returned (.int .i64 (prt mo da:Int))/\W1=W) (i:=2) (v:=.int .i64 3) h results52 (by simp) ⟨by unfold prt;rw[aEg (by rw[c];decide),aEg (by rw[c2];decide)];rfl,rfl⟩
section
variable{bx pe oK bn b off:Nat}{W:World}{r:Option Nat}{n ly:Nat}{Q:Exit->Act->World->Prop}{a:Act}
theorem pl0(h:Sl 34 [(0,(.func (.yield ly) #[] #[])),(1,(aYW bx 0))] a)(k: ∀a W1,Al W W1 W.heap.size 111 [(.func (.yield ly) #[] #[])]->Sl 34 [(1,(aYW bx 0)),(2,(aYW W.heap.size 0))] a->Q .normal a W1):aR3.wpIn (FR r) n prog Q a W:=by
 refine aG [(none,some 2,.box 111 (.tmp 0))] (fun ops l hK hk=>?_);refine sV (v:=(aYW W.heap.size 0)) hk h (fun _ ho=>rJ (v:=(.func (.yield ly) #[] #[])) ho (sT h) rfl) fun l a hk h=>?_;exact s0 hk (k _ _ (dN [(.func (.yield ly) #[] #[])]) (aN h))
theorem pl1(h:Sl 34 [(1,(aYW bx 0)),(2,(aYW oK 0))] a)(k: ∀a W1,Al W W1 W.heap.size 3 [.int .i64 0]->Sl 34 [(1,(aYW bx 0)),(2,(aYW oK 0)),(3,(aYW W.heap.size 0))] a->Q .normal a W1):aR2.wpIn (FR r) n prog Q a W:=by
 refine aG [(none,some 3,.alloc 3),(none,none,.store 3 (.tmp 3) (.const (.int .i64 0)))] (fun ops l hK hk=>?_);refine sV (v:=(aYW W.heap.size 0)) hk h (fun _ ho=>CB ho (zeroValue3 W) rfl) fun l a hk h=>?_;refine ss (g:=none) hk h rfl (fun _ ho=>oO ho (sT h) rfl rfl (show World.there _ W.heap.size 0 1 from aX (dN [.int .i64 0]).2.2.2.1) (by kernel_rfl) rfl) (fun l hk=>?_);exact s0 hk (k _ _ (EC (dN [.int .i64 0]) rfl) (aN h))
theorem pl2(hc:W.cell? ⟨bx,0,none⟩=some (aYW pe 0))(h:Sl 34 [(1,(aYW bx 0)),(2,(aYW oK 0)),(3,(aYW bn 0))] a)(k: ∀a W1,Al W W1 W.heap.size 84 [aYW pe 0]->Sl 34 [(1,(aYW bx 0)),(2,(aYW oK 0)),(3,(aYW bn 0)),(7,.func (.func 76) #[] #[aYW W.heap.size 0])] a->Q .normal a W1):aR1.wpIn (FR r) n prog Q a W:=by
 refine aG [kl 6 84 1,(none,some 7,.call ⟨.value (.func 51),#[(.tmp 6)],#[84]⟩)] (fun ops l hK hk=>?_);refine lV zO (v:=(aYW pe 0)) hk h (hc) fun l a hk h=>?_;refine sc hk h rfl (by decide) (fun _ ho=>fU ho func51) (R:=fun e W1=>e=.returned (.func (.func 76) #[] #[aYW W.heap.size 0])/\Al W W1 W.heap.size 84 [aYW pe 0]) (by rw[aHe,sT h (v:=aYW pe 0)];exact aEn pe W) (fun e W1 hR=>⟨_,hR.1,fun l a hk h=>?_⟩);exact s0 hk (k _ _ hR.2 (aN h))
theorem pl3 (h:Sl 34 [(1,(aYW bx 0)),(2,(aYW oK 0)),(3,(aYW bn 0)),(8,(aYW b off))] a)(k: ∀a,Sl 34 [(1,(aYW bx 0)),(2,(aYW oK 0)),(3,(aYW bn 0)),(4,(aYW b off))] a->Q .normal a W):aR0.wpIn (FR r) n prog Q a W:=by
 refine aG [ka 4 8] (fun ops l hK hk=>?_);refine aV (v:=(aYW b off)) hk h fun l a hk h=>?_;exact s0 hk (k _ (aN h))
theorem pl4{mo da:ByteArray}(hm:W.cell? ⟨b,off+5,none⟩=some (.string mo))(hd:W.cell? ⟨b,off+6,none⟩=some (.string da))(h:Sl 34 [(1,(aYW bx 0)),(2,(aYW oK 0)),(3,(aYW bn 0)),(4,(aYW b off))] a)(k: ∀a,Sl 34 [(1,(aYW bx 0)),(2,(aYW oK 0)),(3,(aYW bn 0)),(4,(aYW b off)),(10,.int .i64 (prt mo da:Int)),(11,.int .i64 ((0:Nat):Int))] a->Q .normal a W):aRZ.wpIn (FR r) n prog Q a W:=by
 refine aG [km 9 4,(none,some 10,.call ⟨.value (.func 52),#[(.tmp 9)],#[115]⟩),(none,some 11,.move (.const (.int .i64 0)))] (fun ops l hK hk=>?_);refine mV (v:=(aYW b off)) hk h fun l a hk h=>?_;refine sc hk h rfl (by decide) (fun _ ho=>fU ho func52) (R:=fun e W1=>e=.returned (.int .i64 (prt mo da:Int))/\W1=W) (by rw[aHe,sT h (v:=aYW b off)];exact aDB hm hd) (fun e W1 hR=>⟨_,hR.1,fun l a hk h=>?_⟩);obtain⟨_,rfl⟩:=hR;refine sV (v:=.int .i64 ((0:Nat):Int)) hk h (fun _ ho=>eY ho rfl) fun l a hk h=>?_;exact s0 hk (k _ (aN h))
theorem pl5{pt i:Nat}(h:Sl 34 [(1,(aYW bx 0)),(2,(aYW oK 0)),(3,(aYW bn 0)),(4,(aYW b off)),(10,(.int .i64 (pt:Int))),(11,(.int .i64 (i:Int)))] a)(k: ∀a,Sl 34 [(1,(aYW bx 0)),(2,(aYW oK 0)),(3,(aYW bn 0)),(4,(aYW b off)),(10,(.int .i64 (pt:Int))),(11,(.int .i64 (i:Int))),(12,(.bool (decide ((i:Int)<(pt:Int)))))] a->Q .normal a W):aRY.wpIn (FR r) n prog Q a W:=by
 refine aG [(none,some 12,.binOp .lss 3 (.tmp 11) (.tmp 10) 3)] (fun ops l hK hk=>?_);refine sV (v:=(.bool (decide ((i:Int)<(pt:Int))))) hk h (fun _ ho=>mP (q:=.i64) ho (sT h) (sT h)) fun l a hk h=>?_;exact s0 hk (k _ (aN h))
theorem pl6{pt i:Nat}(h:Sl 34 [(1,(aYW bx 0)),(2,(aYW oK 0)),(3,(aYW bn 0)),(4,(aYW b off)),(10,(.int .i64 (pt:Int))),(11,(.int .i64 (i:Int)))] a)(k: ∀a,Sl 34 [(1,(aYW bx 0)),(2,(aYW oK 0)),(3,(aYW bn 0)),(4,(aYW b off)),(5,(.int .i64 (i:Int))),(10,(.int .i64 (pt:Int))),(11,(.int .i64 (i:Int)))] a->Q .normal a W):aRX.wpIn (FR r) n prog Q a W:=by
 refine aG [km 13 11,ka 5 13] (fun ops l hK hk=>?_);refine mV (v:=(.int .i64 (i:Int))) hk h fun l a hk h=>
 aV (v:=(.int .i64 (i:Int))) hk h fun l a hk h=>?_
 exact s0 hk (k _ (aN h))
theorem pl8{pt i:Nat}(hw:IntKind.i64.wrap ((i:Int)+1)=(i:Int)+1)(h:Sl 34 [(1,(aYW bx 0)),(2,(aYW oK 0)),(3,(aYW bn 0)),(4,(aYW b off)),(10,(.int .i64 (pt:Int))),(11,(.int .i64 (i:Int)))] a)(k: ∀a,Sl 34 [(1,(aYW bx 0)),(2,(aYW oK 0)),(3,(aYW bn 0)),(4,(aYW b off)),(10,(.int .i64 (pt:Int))),(11,(.int .i64 ((i:Int)+1)))] a->Q .normal a W):aRV.wpIn (FR r) n prog Q a W:=by
 refine aG [(none,some 31,.binOp .add 3 (.tmp 11) (.const (.int .i64 1)) 3),km 11 31] (fun ops l hK hk=>?_);refine sV (v:=(.int .i64 ((i:Int)+1))) hk h (fun _ ho=>rM ho (sT h) rfl hw) fun l a hk h=>
 mV (v:=(.int .i64 ((i:Int)+1))) hk h fun l a hk h=>?_
 exact s0 hk (k _ (aN h))
theorem pl9{m:Nat}(hn:dA W bn 3 [.int .i64 (m:Int)])(hw:IntKind.i64.wrap ((m:Int)+1)=(m:Int)+1)(h:Sl 34 [(1,(aYW bx 0)),(2,(aYW oK 0)),(3,(aYW bn 0))] a)(k: ∀a,Q .normal a (W.setCells bn 0 [.int .i64 ((m:Int)+1)])):aRU.wpIn (FR r) n prog Q a W:=by
 refine aG [kl 32 3 3,(none,some 33,.binOp .add 3 (.tmp 32) (.const (.int .i64 1)) 3),ks' 3 3 33] (fun ops l hK hk=>?_);refine lV aDJ (v:=(.int .i64 (m:Int))) hk h (aI (j:=0) hn rfl) fun l a hk h=>
 sV (v:=(.int .i64 ((m:Int)+1))) hk h (fun _ ho=>rM ho (sT h) rfl hw) fun l a hk h=>?_
 refine ss (g:=none) hk h rfl (fun _ ho=>oO (b:=bn) (off:=0) (v:=.int .i64 ((m:Int)+1)) ho (sT h) (sT h) rfl (show World.there _ bn 0 1 from aX hn) (by kernel_rfl) rfl) (fun l hk=>?_);exact s0 hk (k _)
abbrev pz7(ly bn_ b off i:Nat)(m:Int)(mk:Int):List (Nat × List Nat × Op × Value):=[(14,[],.load 111 (.tmp 2),(.func (.yield ly) #[] #[])),(15,[],.load 3 (.tmp 3),(.int .i64 m)),(16,[],.move (.tmp 5),(.int .i64 (i:Int))),(17,[],.move (.tmp 4),(aYW b off)),(18,[],.move (.tmp 5),(.int .i64 (i:Int))),(19,[3],.nilCheck (.tmp 17),(aYW b off)),(20,[5],.fieldAddr 30 (.tmp 19) 3,(aYW b (off+7))),(21,[6,4],.indexAddr 28 (.tmp 20) (.tmp 18),(aYW b (off+7+i * 1))),(22,[7],.load 5 (.tmp 21),(.int .u8 mk)),(23,[1,2,8],.build 46 #[(0,(.tmp 15)),(1,(.tmp 16)),(2,(.tmp 22))],(.agg #[.int .i64 m,.int .i64 (i:Int),.int .u8 mk])),(24,[],.move (.tmp 4),(aYW b off)),(25,[],.move (.tmp 5),(.int .i64 (i:Int))),(26,[10],.nilCheck (.tmp 24),(aYW b off)),(27,[12],.fieldAddr 30 (.tmp 26) 3,(aYW b (off+7))),(28,[13,11],.indexAddr 28 (.tmp 27) (.tmp 25),(aYW b (off+7+i * 1)))]
theorem pl7{pt i m:Nat}{mk:Int}(hy:W.cell? ⟨oK,0,none⟩=some (.func (.yield ly) #[] #[]))(hn:W.cell? ⟨bn,0,none⟩=some (.int .i64 (m:Int)))(hi:i<3)(hmk:W.cell? ⟨b,off+7+i,none⟩=some (.int .u8 mk))(h:Sl 34 [(1,(aYW bx 0)),(2,(aYW oK 0)),(3,(aYW bn 0)),(4,(aYW b off)),(5,.int .i64 (i:Int)),(10,.int .i64 (pt:Int)),(11,.int .i64 (i:Int))] a)
 {X:World->Prop} (hyd:YieldAt (FR none) 0 prog ly #[.agg #[.int .i64 (m:Int),.int .i64 (i:Int),.int .u8 mk],aYW b (off+7+i)] W.drew fun e W1=>e=.returned (.bool true)/\X W1) (k: ∀a W1,X W1->Sl 34 [(1,(aYW bx 0)),(2,(aYW oK 0)),(3,(aYW bn 0)),(4,(aYW b off)),(10,.int .i64 (pt:Int)),(11,.int .i64 (i:Int)),(30,.bool false)] a->Q .normal a W1):aRW.wpIn (FR r) 0 prog Q a W:=by
 have hy:W.drew.cell? ⟨oK,0,none⟩=some (.func (.yield ly) #[] #[]):=hy;have hn:W.drew.cell? ⟨bn,0,none⟩=some (.int .i64 (m:Int)):=hn;have hmk:W.drew.cell? ⟨b,off+7+i,none⟩=some (.int .u8 mk):=hmk;refine aEk (Pz:=pz7 ly bn b off i m mk) (T:=[(none,some 29,.call ⟨.value (.tmp 14),#[(.tmp 23),(.tmp 28)],#[46,96]⟩),(none,some 30,.unOp .not 4 (.tmp 29))]) (TA:=[[0,9,14],[15]]) (by kernel_rfl) (And.intro (by kernel_rfl) (by kernel_rfl)) (by kernel_rfl) (by kernel_rfl) (by simp) (by kernel_rfl) (by simp) (by simp) (by kernel_rfl) (by kernel_rfl) h (fun j x hx o a ho h=>?_) (fun ops l a hK hk h=>?_)
 . match j,hx with
   |0,hx=>
    cases hx;change Sl 34 ([]++_) a at h;exact gK aNx ho (sT h) hy
   |1,hx=>
    cases hx;change Sl 34 ([]++_) a at h;exact gK aDJ ho (sT h) hn
   |2,hx=>
    cases hx;change Sl 34 ([]++_) a at h;exact eY ho (sT h)
   |3,hx=>
    cases hx;change Sl 34 ([]++_) a at h;exact eY ho (sT h)
   |4,hx=>
    cases hx;change Sl 34 ([]++_) a at h;exact eY ho (sT h)
   |5,hx=>
    cases hx;change Sl 34 ([(17,(aYW b off))]++_) a at h;exact KL ho (sT h)
   |6,hx=>
    cases hx;change Sl 34 ([(19,(aYW b off))]++_) a at h;exact aJ (b:=b) (o':=off) aBa ho (sT h)
   |7,hx=>
    cases hx;change Sl 34 ([(20,(aYW b (off+7))),(18,(.int .i64 (i:Int)))]++_) a at h;exact wP (len:=3) (el:=5) (sz:=1) (by kernel_rfl) (by kernel_rfl) hi ho (sT h) (sT h)
   |8,hx=>
    cases hx;change Sl 34 ([(21,(aYW b (off+7+i * 1)))]++_) a at h;exact gK (b:=b) (off:=off+7+i * 1) lY ho (sT h) (by rw[aWS];exact hmk)
   |9,hx=>
    cases hx;change Sl 34 ([(15,(.int .i64 (m:Int))),(16,(.int .i64 (i:Int))),(22,(.int .u8 mk))]++_) a at h;exact PO ho (sT h) (sT h) (sT h)
   |10,hx=>
    cases hx;change Sl 34 ([]++_) a at h;exact eY ho (sT h)
   |11,hx=>
    cases hx;change Sl 34 ([]++_) a at h;exact eY ho (sT h)
   |12,hx=>
    cases hx;change Sl 34 ([(24,(aYW b off))]++_) a at h;exact KL ho (sT h)
   |13,hx=>
    cases hx;change Sl 34 ([(26,(aYW b off))]++_) a at h;exact aJ (b:=b) (o':=off) aBa ho (sT h)
   |14,hx=>
    cases hx;change Sl 34 ([(27,(aYW b (off+7))),(25,(.int .i64 (i:Int)))]++_) a at h;exact wP (len:=3) (el:=5) (sz:=1) (by kernel_rfl) (by kernel_rfl) hi ho (sT h) (sT h)
   |j+15,hx=>cases hx
 change Sl 34 ([(14,(.func (.yield ly) #[] #[])),(15,(.int .i64 (m:Int))),(16,(.int .i64 (i:Int))),(17,(aYW b off)),(18,(.int .i64 (i:Int))),(19,(aYW b off)),(20,(aYW b (off+7))),(21,(aYW b (off+7+i * 1))),(22,(.int .u8 mk)),(23,(.agg #[.int .i64 (m:Int),.int .i64 (i:Int),.int .u8 mk])),(24,(aYW b off)),(25,(.int .i64 (i:Int))),(26,(aYW b off)),(27,(aYW b (off+7))),(28,(aYW b (off+7+i * 1)))]++_) a at h;refine sy hk h (by decide) (sT h) (vs:= #[.agg #[.int .i64 (m:Int),.int .i64 (i:Int),.int .u8 mk],aYW b (off+7+i)]) (by rw[tJ,sT h (k:=23) (v:=.agg #[.int .i64 (m:Int),.int .i64 (i:Int),.int .u8 mk]),sT h (k:=28) (v:=aYW b (off+7+i * 1)),aWS]) hyd (fun W1 hx l a hk h=>?_);refine sV (v:=(.bool false)) hk h (fun _ ho=>KJ (b:=true) ho (sT h)) fun l a hk h=>?_;exact s0 hk (k _ _ hx (aN h))
end
theorem aS0(p:Tmp)(v:Value)(T:Array Value):((#[p]:Array Tmp).zip #[v]).foldl (fun t (p,v)=>t.setIfInBounds p v) T=T.setIfInBounds p v:=by simp
theorem aSZ(p q:Tmp)(v u:Value)(T:Array Value):((#[p,q]:Array Tmp).zip #[v,u]).foldl (fun t (p,v)=>t.setIfInBounds p v) T=(T.setIfInBounds p v).setIfInBounds q u:=by simp
def Gg(K:(Nat->Prop)->World->Prop)(B:Nat->Prop)(W W':World):Prop:= ∃B',K B' W'/\Rest B W W'/\Grow B W B'
theorem YC{K:(Nat->Prop)->World->Prop}{B B1:Nat->Prop}{W W1 W2:World}(h:Rest B W W1)(g:Grow B W B1)(hk:Gg K B1 W1 W2):Gg K B W W2:=
 let⟨B2,h1,h2,h3⟩:=hk;⟨B2,h1,h.trans g h2,g.trans h.1 h3⟩
theorem gV{W W1:World}{s:Nat}{el:TypeId}{vs:List Value}(h:Al W W1 s el vs):W.heap.size<=W1.heap.size/\ ∀b,b<W.heap.size->W1.heap[b]? =W.heap[b]? :=by
 obtain⟨h1,h2,h3,_⟩:=h;exact⟨by omega,fun b hb=>h3 b (by omega)⟩
theorem aLj{W W1:World}{s:Nat}{el:TypeId}{vs:List Value}(h:Al W W1 s el vs)(B:Nat->Prop):Rest B W W1:=⟨(gV h).1,fun b hb _=>(gV h).2 b hb,h.2.2.2.2⟩
theorem aT{W W1:World}{b:Nat}{el:TypeId}{vs:List Value}(h:dA W b el vs)(e:W1.heap[b]? =W.heap[b]?):dA W1 b el vs:=by
 obtain⟨c,fr,h1,h2,h3⟩:=h;exact⟨c,fr,e.trans h1,h2,h3⟩
def Mid(J:Nat->(Nat->Prop)->World->Prop)(oK bn b2 pe ly:Nat)(q m:Nat)(B':Nat->Prop)(W:World):Prop:=
 ∃B1,J q B1 W/\(∀b,B' b↔B1 b\/b=oK\/b=bn\/b=b2)/\(¬B1 oK/\ ¬B1 bn/\ ¬B1 b2)/\dA W oK 111 [.func (.yield ly) #[] #[]]/\dA W bn 3 [.int .i64 (m:Int)]/\dA W b2 84 [aYW pe 0]
section
variable{J:Nat->(Nat->Prop)->World->Prop}{oK bn b2 pe ly:Nat}
theorem aCg(hJ:aYK J)(qf mf:Nat->Nat):aYK (fun k=>Mid J oK bn b2 pe ly (qf k) (mf k)):=by
 refine⟨fun k B W h b hb=>?_,fun k B W W' h hs hk=>?_⟩
 . obtain⟨B1,h1,h2,_,f1,f2,f3⟩:=h;rcases(h2 b).1 hb with h|rfl|rfl|rfl
   . exact hJ.lt _ _ _ h1 b h
   . exact aS f1
   . exact aS f2
   exact aS f3
 obtain⟨B1,h1,h2,n1,f1,f2,f3⟩:=h;exact⟨B1,hJ.keep _ _ _ _ h1 hs (fun b hb=>hk b ((h2 b).2 (.inl hb))),h2,n1,aT f1 (hk _ ((h2 _).2 (.inr (.inl rfl)))),aT f2 (hk _ ((h2 _).2 (.inr (.inr (.inl rfl))))),aT f3 (hk _ ((h2 _).2 (.inr (.inr (.inr rfl)))))⟩
theorem mid_step{q m:Nat}{B1 B':Nat->Prop}{W W':World}(h2: ∀b,B' b↔B1 b\/b=oK\/b=bn\/b=b2)(n1: ¬B1 oK/\ ¬B1 bn/\ ¬B1 b2)(f1:dA W oK 111 [.func (.yield ly) #[] #[]])(f2:dA W bn 3 [.int .i64 (m:Int)])(f3:dA W b2 84 [aYW pe 0])
 (hg:Go1 J q B1 W W'):Gg (Mid J oK bn b2 pe ly q m) B' W W':=by
 obtain⟨B3,h3,r3,g3⟩:=hg;have l1:=aS f1;have l2:=aS f2;have l3:=aS f3;refine⟨fun b=>B3 b\/b=oK\/b=bn\/b=b2,⟨B3,h3,fun b=>aXT,⟨fun h=>(g3 _ h).elim n1.1 (fun h=>by omega),fun h=>(g3 _ h).elim n1.2.1 (fun h=>by omega),fun h=>(g3 _ h).elim n1.2.2 (fun h=>by omega)⟩,aT f1 (r3.2.1 _ l1 n1.1),aT f2 (r3.2.1 _ l2 n1.2.1),aT f3 (r3.2.1 _ l3 n1.2.2)⟩,
  ⟨r3.1,fun b hb hn=>r3.2.1 b hb (fun h=>hn ((h2 b).2 (.inl h))),r3.2.2⟩,fun b hb=>?_⟩
 rcases hb with hb|hb
 . exact(g3 b hb).imp (fun h=>(h2 b).2 (.inl h)) id
 exact .inl ((h2 b).2 (.inr hb))
theorem aKA{q m m2:Nat}{B':Nat->Prop}{W:World}(hJ:aYK J)(hne:bn≠oK/\bn≠b2)(h:Mid J oK bn b2 pe ly q m B' W):Gg (Mid J oK bn b2 pe ly q m2) B' W (W.setCells bn 0 [.int .i64 (m2:Int)]):=by
 obtain⟨B1,h1,h2,n1,f1,f2,f3⟩:=h;have hs:=sS (p:=bn) [.int .i64 (m2:Int)] 0 W;have ho: ∀b,b≠bn->(W.setCells bn 0 [.int .i64 (m2:Int)]).heap[b]? =W.heap[b]? :=fun b hb=>by
  show(W.setCell ⟨bn,0,none⟩ _).heap[b]? =_;simp[World.setCell,aOc,aPu hb]
 refine⟨B',⟨B1,hJ.keep _ _ _ _ h1 (by omega) (fun b hb=>ho b (fun e=>n1.2.1 (e ▸ hb))),h2,n1,aT f1 (ho _ (aPu hne.1)),bM f2 rfl,aT f3 (ho _ (aPu hne.2))⟩,⟨by omega,fun b hb hn=>ho b (fun e=>hn ((h2 b).2 (.inr (.inr (.inl e))))),rfl,rfl,rfl⟩,fun b hb=>.inl hb⟩
end
structure Sp(kd fk tk:Int)(bx pe:Nat)(bs:Option Addr)(cp:Nat)(R:List Bool)(PT:Nat->Nat)(W:World):Prop where
 sh:Sh kd fk tk bx pe bs cp R W
 mo: ∀k,k<(aYH kd fk tk pe bs R).length-> ∃mo da,W.cell? ⟨((aYH kd fk tk pe bs R).getD k (0,0)).1,((aYH kd fk tk pe bs R).getD k (0,0)).2+5,none⟩=some (.string mo)/\W.cell? ⟨((aYH kd fk tk pe bs R).getD k (0,0)).1,((aYH kd fk tk pe bs R).getD k (0,0)).2+6,none⟩=some (.string da)/\PT k=prt mo da
 mks: ∀k,k<(aYH kd fk tk pe bs R).length-> ∀i,i<3-> ∃m,W.cell? ⟨((aYH kd fk tk pe bs R).getD k (0,0)).1,((aYH kd fk tk pe bs R).getD k (0,0)).2+7+i,none⟩=some (.int .u8 m)
def vN(PT:Nat->Nat):Nat->List (Nat × Nat)
 |0=>[]
 |k+1=>vN PT k++(List.range (PT k)).map fun i=>(k,i)
theorem KW(PT:Nat->Nat)(k:Nat):vN PT (k+1)=vN PT k++(List.range (PT k)).map fun i=>(k,i):=rfl
theorem CP(PT:Nat->Nat)(k:Nat):(vN PT (k+1)).length=(vN PT k).length+PT k:=by rw[KW];simp
theorem aB4(PT:Nat->Nat)(i:Nat): ∀d,vN PT i <+: vN PT (i+d)
 |0=>List.prefix_refl _
 |d+1=>(aB4 PT i d).trans (List.prefix_append _ _)
theorem aFN(PT:Nat->Nat){k i n:Nat}(hk:k<n)(hi:i<PT k):(vN PT n).getD ((vN PT k).length+i) (0,0)=(k,i)/\(vN PT k).length+i<(vN PT n).length:=by
 have h:vN PT (k+1) <+: vN PT n:=by
  have:=aB4 PT (k+1) (n - (k+1));rwa[show k+1+(n - (k+1))=n by omega]at this
 refine pre_at h ?_;rw[KW,aJk (by omega),show(vN PT k).length+i - (vN PT k).length=i by omega,aEC,aPp hi]
 rfl
def aEi(D pl:List (Nat × Nat))(q:Nat)(W:World):Array Value:=
 #[.agg #[.int .i64 ((pl.getD q (0,0)).1:Int),.int .i64 ((pl.getD q (0,0)).2:Int),(W.cell? ⟨(D.getD (pl.getD q (0,0)).1 (0,0)).1,(D.getD (pl.getD q (0,0)).1 (0,0)).2+7+(pl.getD q (0,0)).2,none⟩).getD undef],
  aYW (D.getD (pl.getD q (0,0)).1 (0,0)).1 ((D.getD (pl.getD q (0,0)).1 (0,0)).2+7+(pl.getD q (0,0)).2)]
theorem aAX{P:Program}{gf:Nat}{lb:Array Value}{enc:Nat->World->Array Value}{N:Nat}{Rd:World->Prop}{B0:Nat->Prop}{w:World}
 (hw: ∀(ly:Nat) (X:Nat->World->Prop) (W:World),(∀k W,X k W->Rd W)->(∀k W,k<N->X k W->YieldAt (FR none) 0 P ly (enc k W) W fun e W1=>e=.returned (.bool true)/\X (k+1) W1)->X 0 W->
   CallsIn (FR none) 0 P gf (#[.func (.yield ly) #[] #[]]++lb) W fun e W1=>(∃v,e=.returned v)/\X N W1):It P gf lb enc N Rd B0 w:=by
 intro l J hJ hR hY B W h0 hr hb;refine(hw l (fun k W'=>Go1 J k B W W') W (fun k W' h=>let⟨B',h1,_⟩:=h;hR k B' W' h1) (fun k W' hk h=>?_) ⟨B,h0,Rest.refl _ _,fun b hb=>.inl hb⟩).mono fun e W' h=>h;obtain⟨B',h1,h2,h3⟩:=h;obtain⟨fn,tmps,assign,body,hy,hR⟩:=hY k B' W' hk h1;exact⟨fn,tmps,assign,body,hy,hR.mono fun e W2 he=>⟨he.1,Go1.trans h2 h3 he.2⟩⟩
section
variable{kd fk tk:Int}{bx pe:Nat}{bs:Option Addr}{cp:Nat}{R:List Bool}{PT:Nat->Nat}{w:World}{B0:Nat->Prop}
theorem aLz{m:Nat}(h:m<1000000000):IntKind.i64.wrap ((m:Int)+1)=(m:Int)+1:=by have hb:IntKind.i64.bits=64:=rfl;unfold IntKind.wrap;simp[IntKind.signed,hb];omega
theorem aBj(hn:R.length<=1000000):(aYH kd fk tk pe bs R).length<=2000002:=by
 unfold aYH;split
 . simp
 split
 . split<;>split<;>simp
 have: ∀n g o,(zV g o R n).length<=2 * n:=fun n g o=>by
  induction n with
  |zero=>simp[zV]
  |succ n ih=>rw[tN,aLx];split<;>simp<;>omega
 exact aKM (this _ _ _) (by omega)
theorem aDy(hn:R.length<=1000000):It prog 50 #[aYW bx 0] (aEi (aYH kd fk tk pe bs R) (vN PT (aYH kd fk tk pe bs R).length)) (vN PT (aYH kd fk tk pe bs R).length).length (Sp kd fk tk bx pe bs cp R PT) B0 w:=by
 intro l J hJ hR hY B W h0 hr hb;obtain⟨D,hD⟩: ∃D,D=aYH kd fk tk pe bs R:=⟨_,rfl⟩;rw[<-hD]at hY ⊢;have hDl:D.length<=2000002:=by rw[hD];exact aBj hn
 refine PE (args:=[.func (.yield l) #[] #[],aYW bx 0]) (N:=34) func50 (show _=some plC by kernel_rfl) ntmps50 (by simp) fun a h=>?_;rw[aV6];refine aDs (pl0 h fun a W1 A1 h=>?_);refine aDs (pl1 h fun a W2 A2 h=>?_);obtain⟨s1,k1⟩:=gV A1;obtain⟨s2,k2⟩:=gV A2;have z1:=A1.2.1;have z2:=A2.2.1;have lt0:=hJ.lt _ _ _ h0;have j2:J 0 B W2:=hJ.keep _ _ _ _ h0 (by omega) (fun b hb=>(k2 b (by have:=lt0 b hb;omega)).trans (k1 b (lt0 b hb)));refine aDs (pl2 (hR 0 B W2 j2).sh.bx h fun a W3 A3 h=>?_);obtain⟨s3,k3⟩:=gV A3;have z3:=A3.2.1;have kk: ∀b,b<W.heap.size->W3.heap[b]? =W.heap[b]? :=fun b hb=>(k3 b (by omega)).trans ((k2 b (by omega)).trans (k1 b hb));have j3:J 0 B W3:=hJ.keep _ _ _ _ h0 (by omega) (fun b hb=>kk b (lt0 b hb));obtain⟨oK,hby⟩: ∃x,x=W.heap.size:=⟨_,rfl⟩;obtain⟨bn,hbn⟩: ∃x,x=W1.heap.size:=⟨_,rfl⟩;obtain⟨b2,hb2⟩: ∃x,x=W2.heap.size:=⟨_,rfl⟩;rw[<-hby]at A1 h;rw[<-hbn]at A2 h;rw[<-hb2]at A3 h;have f1:dA W3 oK 111 [.func (.yield l) #[] #[]]:=aT A1.2.2.2.1 ((k3 _ (by omega)).trans (k2 _ (by omega)));have f2:dA W3 bn 3 [.int .i64 ((0:Nat):Int)]:=aT A2.2.2.2.1 (k3 _ (by omega));have f3:dA W3 b2 84 [aYW pe 0]:=A3.2.2.2.1;refine aLs (WG (I:=fun k=>Mid J oK bn b2 pe l (vN PT k).length k) (Ax:=fun k a' B' W'=>Mid J oK bn b2 pe l (vN PT k).length k B' W'/\Sl 34 [(1,aYW bx 0),(2,aYW oK 0),(3,aYW bn 0),(4,aYW (D.getD k (0,0)).1 (D.getD k (0,0)).2)] a')
  (Rd:=Sh kd fk tk b2 pe bs cp R) (B0:=fun b=>B b\/b=oK\/b=bn\/b=b2) (N:=D.length) (enc:=fun k _=> #[aYW (D.getD k (0,0)).1 (D.getD k (0,0)).2]) (gf:=76) (lb:= #[aYW b2 0])
  (aCg hJ (fun k=>(vN PT k).length) (fun k=>k)) (fun a'=>?_) (sT h) (fun args w=>enters_of func76 (by kernel_rfl) (show _=some ZQ by kernel_rfl) args w) (fun k W=>rfl)
  ⟨B,j3,fun b=>aXT,⟨fun h=>by have:=lt0 _ h;omega,fun h=>by have:=lt0 _ h;omega,fun h=>by have:=lt0 _ h;omega⟩,f1,f2,f3⟩ ?_ ?_ ?_ ?_ ?_)
 . have:=aCg (oK:=oK) (bn:=bn) (b2:=b2) (pe:=pe) (ly:=l) hJ (fun k=>(vN PT k).length) (fun k=>k);exact⟨fun k B W h=>this.lt k B W h.1,fun k B W W' h hs hk=>⟨this.keep k B W W' h.1 hs hk,h.2⟩⟩
 . rintro k B' W' ⟨B1,h1,_,_,_,_,f3⟩;have hs:=(hR _ _ _ h1).sh;exact⟨aI (j:=0) f3 rfl,hs.kd,hs.fk,hs.tk,hs.its,hs.rg⟩
 . rw[hD];exact aAX fun ly X W hX hY h0=>aBp hX hY h0 hn
 . intro l' k B' W' hk hI;refine pl3 (bx:=bx) (oK:=oK) (bn:=bn) (b:=(D.getD k (0,0)).1) (off:=(D.getD k (0,0)).2) ?_ fun a h=>⟨B',⟨hI,h⟩,Rest.refl _ _,fun b hb=>.inl hb⟩;have h2:=qK (v:=aYW (D.getD k (0,0)).1 (D.getD k (0,0)).2) (d:=8) (show Sl 34 _ { tmps:=a.tmps,defers:=[] }from⟨h.size,rfl,h.val⟩) (by decide);rw[aS0];exact(aN h2:Sl 34 [(1,aYW bx 0),(2,aYW oK 0),(3,aYW bn 0),(8,aYW (D.getD k (0,0)).1 (D.getD k (0,0)).2)] (Act.put { tmps:=a.tmps,defers:=[] } (some 8) (aYW (D.getD k (0,0)).1 (D.getD k (0,0)).2)))
 . rintro l' k a' B' W' hk ⟨hI,h⟩;obtain⟨B1,h1,h2,n1,g1,g2,g3⟩:=hI;have hsp:=hR _ _ _ h1;obtain⟨mo,da,cm,cd,ePT⟩:=hsp.mo k (by rw[<-hD];exact hk);rw[<-hD]at cm cd;refine aLs (aDs (aDs (pl4 cm cd h fun a h=>aLs (gQ (fun m a w=> ∃i,m+i=PT k/\Gg (Mid J oK bn b2 pe l ((vN PT k).length+i) k) B' W' w/\
    Sl 34 [(1,aYW bx 0),(2,aYW oK 0),(3,aYW bn 0),(4,aYW (D.getD k (0,0)).1 (D.getD k (0,0)).2),(10,.int .i64 (PT k:Int)),(11,.int .i64 (i:Int))] a) ?_ (m:=PT k) ⟨0,rfl,⟨B',⟨B1,h1,h2,n1,g1,g2,g3⟩,Rest.refl _ _,fun b hb=>.inl hb⟩,by rw[ePT];exact h⟩))))
   rintro m a w ⟨i,hm,⟨B3,hmid,r3,q3⟩,h⟩;refine aDs (pl5 h fun a h=>?_);refine aDs (cZ (t:=decide ((i:Int)<(PT k:Int))) h (by simp) (fun hi=>aJt ?_) (fun hi=>aRf ?_))
   . have hi:i<PT k:=by have:=aEF hi;omega
     obtain⟨B4,h4,h5,n4,p1,p2,p3⟩:=hmid;have hp3:i<3:=by have:=RF mo da;omega
     have h4d:J ((vN PT k).length+i) B4 w.drew:=hJ.keep _ _ _ _ h4 (aC4 _) (fun b _=>rfl);obtain⟨mk,cmk⟩:=(hR _ _ _ h4).mks k (by rw[<-hD];exact hk) i hp3;rw[<-hD]at cmk;obtain⟨ea,la⟩:=aFN PT (n:=D.length) hk hi;have hy:=hY ((vN PT k).length+i) B4 w.drew la h4d;have een:aEi D (vN PT D.length) ((vN PT k).length+i) w.drew= #[.agg #[.int .i64 (k:Int),.int .i64 (i:Int),.int .u8 mk],aYW (D.getD k (0,0)).1 ((D.getD k (0,0)).2+7+i)]:=by
      unfold aEi;rw[ea];have:w.drew.cell? ⟨(D.getD k (0,0)).1,(D.getD k (0,0)).2+7+i,none⟩=some (.int .u8 mk):=cmk;simp only[this];rfl
     rw[een]at hy;refine aDs (aLs (aDs (pl6 (bx:=bx) (oK:=oK) (bn:=bn) (b:=(D.getD k (0,0)).1) (off:=(D.getD k (0,0)).2) (pt:=PT k) (i:=i) (aN h) fun a h=>?_)));refine aDs (pl7 (aI (j:=0) p1 rfl) (aI (j:=0) p2 rfl) hp3 cmk h hy fun a w1 hg h=>?_);refine aNZ (sT h) (aJt ?_);have p1d:dA w.drew oK 111 [.func (.yield l) #[] #[]]:=p1;have p2d:dA w.drew bn 3 [.int .i64 (k:Int)]:=p2;have p3d:dA w.drew b2 84 [aYW pe 0]:=p3;refine pl8 (bx:=bx) (oK:=oK) (bn:=bn) (b:=(D.getD k (0,0)).1) (off:=(D.getD k (0,0)).2) (pt:=PT k) (i:=i) (aLz (by omega)) (aN h) fun a h=>?_;refine⟨m - 1,by omega,i+1,by omega,YC (W1:=w.drew) (B1:=B3) ⟨r3.1,r3.2.1,r3.2.2⟩ q3 (mid_step h5 n4 p1d p2d p3d hg),by rw[aNq];exact h⟩
   have hi:i=PT k:=by have:=aIH hi;omega
   subst hi;obtain⟨_,_,_,_,_,p2,_⟩:=id hmid;refine pl9 (bx:=bx) (oK:=oK) (m:=k) p2 (aLz (by omega)) (aN h) fun a=>⟨rfl,?_⟩;have:=aKA (m2:=k+1) hJ (by omega) hmid;rw[<-CP]at this;have e:((k+1:Nat):Int)=(k:Int)+1:=aNq k;rw[e]at this;exact YC r3 q3 this
 intro Db B' W' hI hrest hgrow hDl hnB hdef;obtain⟨B1,h1,h2,n1,g1,g2,g3⟩:=hI;show LeavesInM _ _ _ _ _ _ ({ target:=.collected Db,args:= #[] }::a.defers) _ _;rw[h.defs];have sr:=hrest.1;refine⟨by simp,.inl ⟨_,_,rfl,aX2 hdef,?_⟩⟩;refine⟨_,results_none results50 _ _ _,⟨_,rfl⟩,B1,hJ.keep _ _ _ _ h1 (by simp) (fun b hb=>CO (fun e=>hnB (e ▸ (h2 b).2 (.inl hb)))),⟨by simp;omega,fun b hb hn=>?_,(A1.2.2.2.2.trans (A2.2.2.2.2.trans A3.2.2.2.2)).trans (hrest.2.2.trans ⟨rfl,rfl,rfl⟩)⟩,fun b hb=>?_⟩
 . refine(CO (by omega)).trans ((hrest.2.1 b (by omega) (fun h=>?_)).trans (kk b hb));rcases h with h|h|h|h
   . exact hn h
   . omega
   . omega
   omega
 rcases hgrow b ((h2 b).2 (.inl hb))with(h|h|h|h)|h
 . exact .inl h
 . exact .inr (by omega)
 . exact .inr (by omega)
 . exact .inr (by omega)
 exact .inr (by omega)
end
structure Xp where
 kd:Int
 d:Dt
 fk:Int
 f:Dt
 tk:Int
 t:Dt
 bs:Option Addr
 cp:Nat
 L:List lK
 ey:Bool
 lt:Bool
abbrev Xp.l(x:Xp):List Value:=oI x.kd x.d x.fk x.f x.tk x.t (.slice x.bs x.L.length x.cp) x.ey x.lt
abbrev Xp.v(x:Xp):Value:=exV x.kd x.d x.fk x.f x.tk x.t (.slice x.bs x.L.length x.cp) x.ey x.lt
def Xp.R(x:Xp):List Bool:=x.L.map (·.2.1)
theorem Xp.NY(x:Xp):x.R.length=x.L.length:=by unfold Xp.R;simp
theorem Xp.aOV(x:Xp)(i:Nat)(h:i<x.L.length):x.R.getD i false=(x.L.getD i bQ).2.1:=by
 unfold Xp.R;simp[List.getD,aEC,aE5 h]
def AX(L:List lK):Nat->List Dt
 |0=>[]
 |i+1=>AX L i++((L.getD i bQ).1::(if(L.getD i bQ).2.1 then[(L.getD i bQ).2.2]else[]))
def Xp.nU(x:Xp):List Dt:=
 if x.kd=1 then[x.d]else if x.kd=2 then(if x.fk=1 then[x.f]else[])++(if x.tk=1 then[x.t]else[])else AX x.L x.L.length
abbrev Xp.D(x:Xp)(pe:Nat):List (Nat × Nat):=aYH x.kd x.fk x.tk pe x.bs x.R
def Xp.dt(x:Xp)(k:Nat):Dt:=x.nU.getD k z0
def Xp.PT(x:Xp)(k:Nat):Nat:=prt (x.dt k).mo (x.dt k).da
def mkv(d:Dt)(i:Nat):Int:=match i with
 |0=>d.m0
 |1=>d.m1
 |_=>d.m2
abbrev nK(d:Dt):List Value:=[.bool d.neg,.bool d.long,.string d.dg,.int .i64 d.ex,.int .i64 d.sig,.string d.mo,.string d.da,.int .u8 d.m0,.int .u8 d.m1,.int .u8 d.m2]
def F2(Z:Nat × Nat->Dt->Prop)(l:List (Nat × Nat))(m:List Dt):Prop:=l.length=m.length/\ ∀k,k<l.length->Z (l.getD k (0,0)) (m.getD k z0)
theorem TU{Z:Nat × Nat->Dt->Prop}:F2 Z [] []:=⟨rfl,fun k h=>absurd h (aS2 _)⟩
theorem JB{Z:Nat × Nat->Dt->Prop}{p:Nat × Nat}{d:Dt}{l:List (Nat × Nat)}{m:List Dt}(h:Z p d)(h2:F2 Z l m):F2 Z (p::l) (d::m):=
 ⟨by simp[h2.1],fun k hk=>match k with
  |0=>h
  |k+1=>h2.2 k (by simpa using hk)⟩
theorem aBf{Z:Nat × Nat->Dt->Prop}: ∀ {l l':List (Nat × Nat)} {m m':List Dt},F2 Z l m->F2 Z l' m'->F2 Z (l++l') (m++m')
 |[],_,[],_,_,h=>h
 |[],_,_::_,_,h,_=>by have:=h.1;simp at this
 |_::_,_,[],_,h,_=>by have:=h.1;simp at this
 |p::l,l',d::m,m',h,h'=>JB (h.2 0 (by simp)) (aBf ⟨by have:=h.1;simpa using this,fun k hk=>h.2 (k+1) (by simpa using hk)⟩ h')
theorem aBe{Z:Nat × Nat->Dt->Prop}{c:Prop}[Decidable c]{p:Nat × Nat}{d:Dt}(h:c->Z p d):F2 Z (if c then[p]else[]) (if c then[d]else[]):=by
 split
 . rename_i hc;exact JB (h hc) TU
 exact TU
theorem Xp.side{x:Xp}{pe:Nat}{Z:Nat × Nat->Dt->Prop}(h1:x.kd=1->Z (pe,1) x.d)(h2:x.kd=2->x.fk=1->Z (pe,12) x.f)(h3:x.kd=2->x.tk=1->Z (pe,23) x.t)
 (h4:x.kd≠1->x.kd≠2-> ∀i,i<x.L.length-> ∃g o,x.bs=some ⟨g,o,none⟩/\Z (g,o+i * 21) (x.L.getD i bQ).1/\((x.L.getD i bQ).2.1=true->Z (g,o+i * 21+11) (x.L.getD i bQ).2.2)):F2 Z (x.D pe) x.nU:=by
 unfold Xp.D aYH Xp.nU;by_cases k1:x.kd=1
 . rw[aEo k1,aEo k1];exact JB (h1 k1) TU
 rw[aEg k1,aEg k1];by_cases k2:x.kd=2
 . rw[aEo k2,aEo k2];exact aBf (aBe (h2 k2)) (aBe (h3 k2))
 rw[aEg k2,aEg k2,x.NY];have key: ∀g o,(∀i,i<x.L.length->x.bs=some ⟨g,o,none⟩)-> ∀n,n<=x.L.length->F2 Z (zV g o x.R n) (AX x.L n):=by
  intro g o hb n
  induction n with
  |zero=>intro _;exact TU
  |succ n ih=>
   intro hn;obtain⟨g',o',e,z1,z2⟩:=h4 k1 k2 n (by omega);rw[hb n (by omega)]at e;cases e;refine aBf (ih (by omega)) (JB z1 ?_);rw[x.aOV n (by omega)];exact aBe z2
 refine key _ _ (fun i hi=>?_) _ (aC4 _);obtain⟨g,o,e,_⟩:=h4 k1 k2 i hi;rw[e]
section
variable{x:Xp}{W:World}{pe bx:Nat}
theorem jF{b o:Nat}{vs us:List Value}(k:Nat)(h:W.rangeAt b o vs)(hs: ∀j u,us[j]? =some u->vs[k+j]? =some u):W.rangeAt b (o+k) us:=fun j u hu=>by
 rw[aMR];exact h (k+j) u (hs j u hu)
theorem pI{vs us:List Value}{k n:Nat}(e:(vs.drop k).take n=us): ∀j u,us[j]? =some u->vs[k+j]? =some u:=by
 intro j u hu;subst e;rw[aPh]at hu;split at hu
 . rw[aUg]at hu;exact hu
 cases hu
theorem Xp.cells(hp:dA W pe 35 x.l)(hI:gW W x.bs x.L):F2 (fun p d=>W.rangeAt p.1 p.2 (nK d)) (x.D pe) x.nU:=by
 have hr:W.rangeAt pe 0 x.l:=fun j v hv=>by rw[aHG];exact aI hp hv
 refine Xp.side (fun _=>?_) (fun _ _=>?_) (fun _ _=>?_) (fun _ _ i hi=>?_)
 . exact(by have:=jF 1 hr (pI (n:=10) (us:=nK x.d) rfl);simpa using this)
 . exact(by have:=jF 12 hr (pI (n:=10) (us:=nK x.f) rfl);simpa using this)
 . exact(by have:=jF 23 hr (pI (n:=10) (us:=nK x.t) rfl);simpa using this)
 obtain⟨g,o,e,hg,hra⟩:=hI i hi;exact⟨g,o,e,by have:=jF 0 hra (pI (n:=10) (us:=nK (x.L.getD i bQ).1) rfl);simpa using this,fun _=>jF 11 hra (pI (n:=10) (us:=nK (x.L.getD i bQ).2.2) rfl)⟩
theorem Xp.mark(hp:dA W pe 35 x.l)(hI:gW W x.bs x.L){k:Nat}(hk:k<(x.D pe).length){i:Nat}(hi:i<3):W.cell? ⟨((x.D pe).getD k (0,0)).1,((x.D pe).getD k (0,0)).2+7+i,none⟩=some (.int .u8 (mkv (x.dt k) i)):=by
 have h:=(Xp.cells hp hI).2 k hk;rw[aMR];refine h (7+i) _ ?_
 match i,hi with
 |0,_=>rfl
 |1,_=>rfl
 |2,_=>rfl
theorem Xp.sp(hp:dA W pe 35 x.l)(hI:gW W x.bs x.L)(hb:W.cell? ⟨bx,0,none⟩=some (aYW pe 0)):Sp x.kd x.fk x.tk bx pe x.bs x.cp x.R x.PT W:=by
 refine⟨⟨hb,aI (j:=0) hp rfl,aI (j:=11) hp rfl,aI (j:=22) hp rfl,by rw[x.NY];exact aI (j:=33) hp rfl,fun i hi=>?_⟩,fun k hk=>?_,fun k hk i hi=>⟨_,Xp.mark hp hI hk hi⟩⟩
 . rw[x.NY]at hi;obtain⟨g,o,e,hg,hra⟩:=hI i hi;rw[x.aOV i hi];exact⟨g,o,e,hra 10 _ rfl⟩
 have h:=(Xp.cells hp hI).2 k hk;exact⟨_,_,h 5 _ rfl,h 6 _ rfl,rfl⟩
end
theorem aB5:aYV prog 37=true:=by kernel_rfl
noncomputable def psC:Code:=match(f29).body with
 |some c=>c
 |none=>.skip
theorem aV3:psC=(.seq (bF [0] psC) (.seq (bF [1,0] psC) .ret)):=by kernel_rfl
noncomputable def whC:Code:=match(f7).body with
 |some c=>c
 |none=>.skip
noncomputable def aP3:Code:=bF [1,1,1,0,1,0,0] whC
noncomputable def aP2:Code:=bF [1,1,1,0,1,0,1,0] whC
theorem aVd:whC=(.seq (bF [0] whC) (.seq (.seq (bF [1,0,0] whC) (.seq (bF [1,0,1,0] whC) (.cond (.tmp 10) (.seq (bF [1,0,1,1,0,0] whC) .ret) .skip))) (.seq (bF [1,1,0] whC) (.seq (.seq (bF [1,1,1,0,0] whC) (.block 0 (.rangeFunc (.tmp 12) #[13,14] aP3 (.block 1 aP2)))) (.seq (bF [1,1,1,1,0] whC) .ret))))):=by kernel_rfl
section
variable{P:Program}{W:World}{a:Act}{o:Oper}{t:TypeId}{x y:Operand}
theorem iG{b off:Nat}{cs:List Value}(ht:W.there b off cs.length)(hi:(P.info? t).map (·.size)=some cs.length)(h1: ∀v ∈ cs,v.oneCell'=true)(ho:o.op=.store t x y)(hx:a.eval x=.pointer (some ⟨b,off,none⟩))(hy:a.eval y=.agg cs.toArray):
 (execOp a.eval o).run P W=.ok .skip (W.setCells b off cs):=by
 have:=run_storeVar_mid (P:=P) W b off t cs.toArray (by simpa using ht) (by simpa using hi) (aWR h1);unfold execOp;simp only[ho,hx,hy,Instr.storeAt,Instr.sureAddr,aDt,aD0,aBF,this]
theorem bC{b off:Nat}{cs:List Value}{d:TypeDesc}(hc:W.rangeAt b off cs)(hu:P.underlying t=some d)(hd:d.isRow=true)(hi:(P.info? t).map (·.size)=some cs.length)(ho:o.op=.load t x)(hx:a.eval x=.pointer (some ⟨b,off,none⟩)):
 (execOp a.eval o).run P W=.ok (.value (.agg cs.toArray)) W:=by
 have:=aRg (P:=P) W b off t cs d hc hu hd hi;unfold execOp;simp only[ho,hx,Instr.loadAt,Instr.sureAddr,aDt,aD0,aBF,this]
theorem oH(ho:o.op=.alloc t){z:Array Value}(hz:(zeroValue t).run P W=.ok (.agg z) W):(execOp a.eval o).run P W=.ok (.value (aYW W.heap.size 0)) (W.alloc (.cells z t)):=V8 ho hz
theorem oP{v v':Value}{ad:Option Addr}{m c:Nat}{W':World}(ho:o.op=.call ⟨.builtin .append,#[x,y],#[t,t]⟩)(hx:a.eval x=v)(hy:a.eval y=.slice ad m c)(h: ∀ty,(Builtin.append_ #[t,t] ty #[v,.slice ad m c]).run P W=.ok v' W'):
 (execOp a.eval o).run P W=.ok (.value v') W':=by
 unfold execOp;simp only[ho,resolve,invoke,builtin,aDt,aD0,aBF,List.map_toArray,aOZ,aYB,hx,hy,h]
theorem aFw{el:TypeId}{s:Option Addr}{k c:Nat}{z:Operand}(hu:P.underlying t=some (.slice el))(hi:(P.info? el).isSome=true)(hk:k<=c)(hs:s.map (·.add 0)=s)(ho:o.op=.slice t x none (some y) (some z))(hx:a.eval x=.slice s k c)(hy:a.eval y=.int .i64 k)(hz:a.eval z=.int .i64 k):
 (execOp a.eval o).run P W=.ok (.value (.slice s k k)) W:=by
 obtain⟨i,hi⟩:=aO1.1 hi;unfold execOp;simp[ho,hx,hy,hz,Instr.sliceAt,Instr.slice,aEG hu,Instr.sliceBounds,Instr.sliceBound,asIntOf,sizeOf,typeInfo,hi,hk];intro _;exact hs
end
theorem aXt(W:World)(n i m:Int):(Instr.buildSlice 37 1 #[(0,.agg #[.int .i64 n,.int .i64 i,.int .u8 m])]).run prog W=.ok (.slice (some ⟨W.heap.size,0,none⟩) 1 1) (W.alloc (.cells #[.int .i64 n,.int .i64 i,.int .u8 m] 46)):=by kernel_rfl
theorem aFB{W:World}{a:Act}{o:Oper}{x:Operand}{n i m:Int}(ho:o.op=.buildSlice 37 1 #[(0,x)])(hx:a.eval x=.agg #[.int .i64 n,.int .i64 i,.int .u8 m]):
 (execOp a.eval o).run prog W=.ok (.value (.slice (some ⟨W.heap.size,0,none⟩) 1 1)) (W.alloc (.cells #[.int .i64 n,.int .i64 i,.int .u8 m] 46)):=by
 have h:(#[(0,x)]:Array (Nat × Operand)).map (fun p=>(p.1,a.eval p.2))= #[(0,.agg #[.int .i64 n,.int .i64 i,.int .u8 m])]:=by simp[hx]
 unfold execOp;simp only[ho,aDt,aD0];rw[h,aXt];rfl
theorem places_any(pe:Nat)(W:World):Calls prog 29 #[aYW pe 0] W fun e W1=>e=.returned (.func (.func 50) #[] #[aYW W.heap.size 0])/\Al W W1 W.heap.size 84 [aYW pe 0]:=by
 refine(aMd (n:=0)).1 ?_;refine fM (args:=[aYW pe 0]) (N:=4) func29 (show _=some psC by kernel_rfl) ntmps29 (by simp) fun a h=>?_;rw[aV3];refine aDs (aG [(none,some 1,.box 84 (.tmp 0)),kc 2 .nilFunc] fun ops l hK hk=>?_);refine sV (v:=aYW W.heap.size 0) hk h (fun _ ho=>rJ (v:=aYW pe 0) ho (sT h) rfl) fun l a hk h=>
 aC (v:=.nilFunc) hk h fun l a hk h=>?_
 refine s0 hk (aDs (aG [(none,some 3,.makeFunc (.func 50) #[] #[(.tmp 1)]),ka 2 3] fun ops l hK hk=>?_));refine sV (v:=.func (.func 50) #[] #[aYW W.heap.size 0]) hk h (fun _ ho=>aFy ho (sT h)) fun l a hk h=>
 aV (v:=.func (.func 50) #[] #[aYW W.heap.size 0]) hk h fun l a hk h=>?_
 refine s0 hk (aMu ?_);exact fF (i:=2) h results29 (by simp) ⟨rfl,dN [aYW pe 0]⟩
def Xp.pl(x:Xp):List (Nat × Nat):=vN x.PT x.nU.length
abbrev Xp.sl(x:Xp)(a:Option Addr):Value:=.slice a x.pl.length x.pl.length
def Xp.cl(x:Xp)(q:Nat):List Value:=[.int .i64 ((x.pl.getD q (0,0)).1:Int),.int .i64 ((x.pl.getD q (0,0)).2:Int),.int .u8 (mkv (x.dt (x.pl.getD q (0,0)).1) (x.pl.getD q (0,0)).2)]
def Xp.cls(x:Xp)(k:Nat):List Value:=(List.range k).flatMap x.cl
theorem Xp.D6(x:Xp)(k:Nat):x.cls (k+1)=x.cls k++x.cl k:=by unfold Xp.cls;rw[aYb,aUC];simp
theorem Xp.JI(x:Xp): ∀k,(x.cls k).length=k * 3
 |0=>rfl
 |k+1=>by rw[x.D6,aLx,x.JI k];show k * 3+3=_;omega
theorem Xp.aH5(x:Xp){n q j:Nat}{v:Value}(hq:q<n)(hv:(x.cl q)[j]? =some v):(x.cls n)[q * 3+j]? =some v:=by
 have hj:j<3:=(aED.1 hv).1
 induction n with
 |zero=>omega
 |succ n ih=>
  rw[x.D6];by_cases c:q<n
  . rw[aIG (by rw[x.JI];omega)];exact ih c
  obtain rfl:q=n:=by omega
  rw[aJk (by rw[x.JI];omega),x.JI,show q * 3+j - q * 3=j by omega];exact hv
def jA(W:World)(ad:Option Addr)(n:Nat)(cl:Nat->List Value):Prop:= ∀q,q<n-> ∃g,ad=some ⟨g,0,none⟩/\g<W.heap.size/\W.rangeAt g (q * 3) (cl q)
theorem jA.later{W W':World}{ad:Option Addr}{n:Nat}{cl:Nat->List Value}(h:jA W ad n cl)(hs:W.heap.size<=W'.heap.size)(hb: ∀b,b<W.heap.size->W'.heap[b]? =W.heap[b]?):jA W' ad n cl:=fun q hq=>by
 obtain⟨g,e,hg,hr⟩:=h q hq;exact⟨g,e,by omega,fun j v hv=>(aWK (hb g hg)).trans (hr j v hv)⟩
def Iw(w:World)(x:Xp)(pe bx bt n1 k:Nat)(B:Nat->Prop)(W:World):Prop:=
 (∀b,b<w.heap.size->W.heap[b]? =w.heap[b]?)/\n1<=W.heap.size/\dA W pe 35 x.l/\dA W bx 84 [aYW pe 0]/\ ∃v,dA W bt 37 [v]/\W.ownsRow n1 46 3 v k (x.cls k)/\(∀b,B b↔b<w.heap.size\/b=pe\/b=bx\/b=bt\/v.ownBlock=some b)
theorem KX{W:World}{n1 k g:Nat}{v:Value}{xs:List Value}(h:W.ownsRow n1 46 3 v k xs)(e:v.ownBlock=some g):n1<=g/\g<W.heap.size:=by
 rcases h.2 with⟨rfl,_⟩|⟨g',cap,cur,rfl,h1,h2,_⟩
 . cases e
 cases e;exact⟨h1,(aEH.1 h2).1⟩
theorem KY{W W':World}{n1 k:Nat}{v:Value}{xs:List Value}(h:W.ownsRow n1 46 3 v k xs)(hk: ∀g,v.ownBlock=some g->W'.heap[g]? =W.heap[g]?):W'.ownsRow n1 46 3 v k xs:=by
 refine⟨h.1,?_⟩;rcases h.2 with h|⟨g',cap,cur,e,h1,h2,h3⟩
 . exact .inl h
 exact .inr ⟨g',cap,cur,e,h1,(hk g' (by rw[e];rfl)).trans h2,h3⟩
section
variable{w:World}{x:Xp}{pe bx bt n1:Nat}(hn:w.heap.size<=n1)
theorem SV(hn:w.heap.size<=n1):aYK (Iw w x pe bx bt n1):=by
 refine⟨fun k B W h b hb=>?_,fun k B W W' h hs hk=>?_⟩
 . obtain⟨h1,h2,h3,h4,v,h5,h6,h7⟩:=h;rcases(h7 b).1 hb with h|rfl|rfl|rfl|h
   . omega
   . exact aS h3
   . exact aS h4
   . exact aS h5
   exact(KX h6 h).2
 obtain⟨h1,h2,h3,h4,v,h5,h6,h7⟩:=h;exact⟨fun b hb=>(hk b ((h7 b).2 (.inl hb))).trans (h1 b hb),by omega,aT h3 (hk _ ((h7 _).2 (.inr (.inl rfl)))),aT h4 (hk _ ((h7 _).2 (.inr (.inr (.inl rfl))))),v,aT h5 (hk _ ((h7 _).2 (.inr (.inr (.inr (.inl rfl)))))),KY h6 (fun g hg=>hk g ((h7 g).2 (.inr (.inr (.inr (.inr hg)))))),h7⟩
theorem info46: ∃i,prog.info? 46=some i/\i.zero=some (.agg #[.int .i64 0,.int .i64 0,.int .u8 0])/\i.size=3/\i.bytes=24:=aYl (by kernel_rfl)
end
def Ax(w:World)(x:Xp)(pe bx bt n1 k:Nat)(a':Act)(B:Nat->Prop)(W:World):Prop:=
 ∃B1 b6,Iw w x pe bx bt n1 k B1 W/\(∀b,B b↔B1 b\/b=b6)/\ ¬B1 b6/\dA W b6 46 (x.cl k)/\Sl 25 [(5,aYW bt 0),(6,aYW b6 0)] a'
theorem aOQ{w:World}{x:Xp}{pe bx bt n1:Nat}(hn:w.heap.size<=n1)(a':Act):aYK fun k=>Ax w x pe bx bt n1 k a':=by
 have hI:=SV (x:=x) (pe:=pe) (bx:=bx) (bt:=bt) hn;refine⟨fun k B W h b hb=>?_,fun k B W W' h hs hk=>?_⟩
 . obtain⟨B1,b6,h1,h2,h3,h4,h5⟩:=h;rcases(h2 b).1 hb with h|rfl
   . exact hI.lt _ _ _ h1 b h
   exact aS h4
 obtain⟨B1,b6,h1,h2,h3,h4,h5⟩:=h;exact⟨B1,b6,hI.keep _ _ _ _ h1 hs (fun b hb=>hk b ((h2 b).2 (.inl hb))),h2,h3,aT h4 (hk _ ((h2 _).2 (.inr rfl))),h5⟩
theorem NI(x:Xp)(k:Nat): ∀v ∈ x.cl k,v.oneCell'=true:=by
 intro v hv;unfold Xp.cl at hv;simp only[aLr,aSU,aXj]at hv;rcases hv with rfl|rfl|rfl<;>rfl
section
variable{w:World}{x:Xp}{pe bx bt n1 k:Nat}{l':Nat}{B:Nat->Prop}{W:World}{a:Act}
theorem wh6(hn:w.heap.size<=n1)(hI:Iw w x pe bx bt n1 k B W)(h:Sl 25 [(5,aYW bt 0),(13,.agg (x.cl k).toArray)] a):
 aP3.wpIn (FR (some l')) 0 prog (Exit.then (fun a' W'=> ∃B',Ax w x pe bx bt n1 k a' B' W'/\Rest B W W'/\Grow B W B') (fun _ _ _=>False)) a W:=by
 have hlt:=(SV (x:=x) (pe:=pe) (bx:=bx) (bt:=bt) hn).lt k B W hI;refine aG [(none,some 6,.alloc 46),ks' 46 6 13] (fun ops l hK hk=>?_);refine sV (v:=aYW W.heap.size 0) hk h (fun _ ho=>oH ho (zeroValue46 W)) fun l a hk h=>?_;have hA:=EC (us:=x.cl k) (dN (W:=W) (el:=46) [.int .i64 0,.int .i64 0,.int .u8 0]) rfl;refine ss (g:=none) hk h rfl (fun _ ho=>iG (b:=W.heap.size) (off:=0) (cs:=x.cl k) (show World.there _ _ 0 3 from aX (dN (W:=W) (el:=46) [.int .i64 0,.int .i64 0,.int .u8 0]).2.2.2.1) (by kernel_rfl) (NI x k) ho (sT h) (sT h)) (fun l hk=>?_);refine s0 hk ?_;obtain⟨e1,k1⟩:=gV hA;refine⟨fun b=>B b\/b=W.heap.size,⟨B,W.heap.size,(SV hn).keep _ _ _ _ hI e1 (fun b hb=>k1 b (hlt b hb)),fun b=>aXT,fun hb=>by have:=hlt _ hb;omega,hA.2.2.2.1,aJn (aM4 h (by simp)) (aN h)⟩,aLj hA B,fun b hb=>hb.imp id (fun e=>by omega)⟩
theorem wh7(hn:w.heap.size<=n1)(hne:pe<n1/\bx<n1/\bt<n1/\pe≠bt/\bx≠bt/\w.heap.size<=bt)(hk6:k<10000000)(hI:Ax w x pe bx bt n1 k a B W):
 (Code.block 1 aP2).wpIn (FR (some l')) 0 prog (fun e _ W'=>e=.normal/\Go1 (Iw w x pe bx bt n1) (k+1) B W W') a W:=by
 obtain⟨B1,b6,⟨h1,h2,h3,h4,v,h5,h6,h7⟩,q2,q3,q4,h⟩:=hI;obtain⟨i,i1,i2,i3,i4⟩:=info46;have hcl:x.cl k=[.int .i64 ((x.pl.getD k (0,0)).1:Int),.int .i64 ((x.pl.getD k (0,0)).2:Int),.int .u8 (mkv (x.dt (x.pl.getD k (0,0)).1) (x.pl.getD k (0,0)).2)]:=rfl;refine aLs (aG [kl 15 37 5,kl 16 46 6,(none,some 17,.buildSlice 37 1 #[(0,(.tmp 16))]),(none,some 18,.call ⟨.builtin .append,#[(.tmp 15),(.tmp 17)],#[37,37]⟩),ks' 37 5 18] (fun ops l hK hk=>?_));refine lV aB5 (v:=v) hk h (aI (j:=0) h5 rfl) fun l a hk h=>
 sV (v:=.agg (x.cl k).toArray) hk h (fun _ ho=>bC (aO q4) underlying46 rfl (by kernel_rfl) ho (sT h)) fun l a hk h=>
 sV (v:=.slice (some ⟨W.heap.size,0,none⟩) 1 1) hk h (fun _ ho=>aFB ho (sT h (v:=.agg (x.cl k).toArray))) fun l a hk h=>?_
 have hA:Al W (W.alloc (.cells (x.cl k).toArray 46)) W.heap.size 46 (x.cl k):=dN (x.cl k);change wpListIn _ _ _ _ _ _ _ (W.alloc (.cells (x.cl k).toArray 46));have hown:=h6.alloc (.cells (x.cl k).toArray 46);generalize W.alloc (.cells (x.cl k).toArray 46)=W1 at hA hown ⊢;obtain⟨e1,k1⟩:=gV hA;have z1:=hA.2.1;obtain⟨v',W2,hrun,r1,r2,r3,r4⟩:=aUN (P:=prog) W1 n1 37 0 46 i _ 3 24 (by kernel_rfl) i1 i2 i3 i4 rfl (by decide) v k (x.cls k) hown ⟨W.heap.size,0,none⟩ 1 1 (x.cl k) rfl
  (fun j u hu=>by have:=aO hA.2.2.2.1 j u hu;rw[aSD];exact this) (NI x k) (by simp only[maxLen];omega) (by omega) (by omega)
 have aV9: ∀g,v.ownBlock=some g->n1<=g/\g<W.heap.size:=fun g hg=>KX h6 hg;have kp2: ∀b,b<W.heap.size->v.ownBlock≠some b->W2.heap[b]? =W.heap[b]? :=fun b hb hne=>(r2.block b (by omega) (fun e=>hne e.symm)).trans (k1 b hb);have ltb:=aS h5;have ltp:=aS h3;have ltx:=aS h4;have no: ∀b,b<n1->v.ownBlock≠some b:=fun b hb e=>by have:=(aV9 b e).1;omega
 have f2:dA W2 bt 37 [v]:=aT h5 (kp2 bt ltb (no bt hne.2.2.1));refine sv hk h rfl (by decide) (v:=v') (fun o ho=>oP (v:=v) (ad:=some ⟨W.heap.size,0,none⟩) (m:=1) (c:=1) ho (sT h) (sT h) (fun ty=>hrun)) (fun l a hk h=>?_);have hv1:v'.cells= #[v']/\v'.oneCell'=true:=by
  rcases r1.2 with⟨rfl,_⟩|⟨g,cap,cur,rfl,_⟩<;>exact⟨rfl,rfl⟩
 refine ss (g:=none) hk h rfl (fun _ ho=>oO (b:=bt) (off:=0) (v:=v') ho (sT h) (sT h) hv1.1 (show World.there _ bt 0 1 from aX f2) (by kernel_rfl) hv1.2) (fun l hk=>?_);refine s0 hk ⟨rfl,?_⟩;have ho: ∀b,b≠bt->(W2.setCells bt 0 [v']).heap[b]? =W2.heap[b]? :=fun b hb=>by
  show(W2.setCell ⟨bt,0,none⟩ _).heap[b]? =_;simp[World.setCell,aOc,aPu hb]
 have hs3:=sS (p:=bt) [v'] 0 W2;have hs2:=r2.size;have f3:=bM f2 (us:=[v']) rfl;have KZ: ∀g,v'.ownBlock=some g->n1<=g/\(v.ownBlock=some g\/W.heap.size<=g):=fun g hg=>⟨(KX r1 hg).1,by
  rcases r4 with e|e
  . exact .inl (e.symm.trans hg)
  rw[e]at hg;cases hg;exact .inr (by omega)⟩
 refine⟨fun b=>b<w.heap.size\/b=pe\/b=bx\/b=bt\/v'.ownBlock=some b,⟨fun b hb=>(ho b (by omega)).trans ((kp2 b (by omega) (no b (by omega))).trans (h1 b hb)),by omega,aT h3 ((ho pe hne.2.2.2.1).trans (kp2 pe ltp (no pe hne.1))),aT h4 ((ho bx hne.2.2.2.2.1).trans (kp2 bx ltx (no bx hne.2.1))),v',f3,?_,fun b=>aXT⟩,⟨by omega,fun b hb hnb=>?_,?_⟩,fun b hb=>?_⟩
 . rw[x.D6];exact KY r1 (fun g hg=>ho g (fun e=>by have:=(KZ g hg).1;omega))
 . have n5: ¬B1 b:=fun h=>hnb ((q2 b).2 (.inl h));exact(ho b (fun e=>n5 ((h7 b).2 (.inr (.inr (.inr (.inl e))))))).trans (kp2 b hb (fun e=>n5 ((h7 b).2 (.inr (.inr (.inr (.inr e)))))))
 . exact hA.2.2.2.2.trans (aYM.trans ⟨r2.os,r2.tape,r2.output⟩ ⟨rfl,rfl,rfl⟩)
 have inl: ∀b,B1 b->B b\/W.heap.size<=b:=fun b h=>.inl ((q2 b).2 (.inl h));rcases hb with h|h|h|h|h
 . exact inl b ((h7 b).2 (.inl h))
 . exact inl b ((h7 b).2 (.inr (.inl h)))
 . exact inl b ((h7 b).2 (.inr (.inr (.inl h))))
 . exact inl b ((h7 b).2 (.inr (.inr (.inr (.inl h)))))
 rcases(KZ b h).2 with e|e
 . exact inl b ((h7 b).2 (.inr (.inr (.inr (.inr e)))))
 exact .inr e
end
theorem Xp.aIE(x:Xp)(pe:Nat):(x.D pe).length=x.nU.length:=by
 by_cases h:x.kd=1\/x.kd=2\/x.L.length=0
 . have:F2 (fun _ _=>True) (x.D pe) x.nU:=by
    refine Xp.side (fun _=>trivial) (fun _ _=>trivial) (fun _ _=>trivial) (fun h1 h2 i hi=>?_);omega
   exact this.1
 have key: ∀g o n,n<=x.L.length->(zV g o x.R n).length=(AX x.L n).length:=by
  intro g o n
  induction n with
  |zero=>intro _;rfl
  |succ n ih=>
   intro hn;rw[tN,aLx,ih (by omega)];show _=(AX x.L n++_).length;rw[aLx,x.aOV n (by omega)];cases(x.L.getD n bQ).2.1<;>rfl
 unfold Xp.D aYH Xp.nU;rw[aEg (by omega),aEg (by omega),aEg (by omega),aEg (by omega),x.NY];exact key _ _ _ (aC4 _)
theorem aFM(PT:Nat->Nat)(h: ∀k,PT k<=3): ∀n,(vN PT n).length<=3 * n
 |0=>aC4 _
 |n+1=>by rw[CP];have:=aFM PT h n;have:=h n;omega
theorem Xp.GN(x:Xp)(hn:x.L.length<=256):x.pl.length<10000000:=by
 have h1:=aFM x.PT (fun k=>RF _ _) x.nU.length;have h2:=aBj (kd:=x.kd) (fk:=x.fk) (tk:=x.tk) (pe:=0) (bs:=x.bs) (R:=x.R) (by rw[x.NY];omega);rw[show (aYH x.kd x.fk x.tk 0 x.bs x.R).length=x.nU.length from x.aIE 0]at h2;unfold Xp.pl;omega
theorem Xp.aLR(x:Xp){q:Nat}(hq:q<x.pl.length):(x.pl.getD q (0,0)).1<x.nU.length/\(x.pl.getD q (0,0)).2<3:=by
 unfold Xp.pl at hq ⊢;have key: ∀n q,q<(vN x.PT n).length->((vN x.PT n).getD q (0,0)).1<n/\((vN x.PT n).getD q (0,0)).2<3:=by
  intro n
  induction n with
  |zero=>intro q h;exact absurd h (aS2 _)
  |succ n ih=>
   intro q h;rw[CP]at h;rw[KW];by_cases c:q<(vN x.PT n).length
   . have:=ih q c;simp only[List.getD,aIG c];exact⟨aUV this.1,this.2⟩
   obtain⟨i,rfl⟩: ∃i,q=(vN x.PT n).length+i:=⟨q - (vN x.PT n).length,by omega⟩;have hi:i<x.PT n:=by omega
   have h3:x.PT n<=3:=RF _ _;simp only[List.getD,aJk (Nat.le_add_right _ _),aUY,aEC,aPp hi];exact⟨aLq _,by show i<3;omega⟩
 exact key _ q hq
theorem qP{w W:World}{x:Xp}(hI:gW w x.bs x.L)(hs:w.heap.size<=W.heap.size)(hb: ∀b,b<w.heap.size->W.heap[b]? =w.heap[b]?):gW W x.bs x.L:=fun i hi=>by
 obtain⟨g,o,e,hg,hr⟩:=hI i hi;exact⟨g,o,e,by omega,fun j v hv=>(aWK (hb g hg)).trans (hr j v hv)⟩
section
variable{w0:World}{x:Xp}
theorem DK(x:Xp): ∀v ∈ x.l,v.oneCell'=true:=by
 intro v hv;simp only[Xp.l,oI,aLr,aSU,aXj]at hv;rcases hv with rfl|rfl|rfl|rfl|rfl|rfl|rfl|rfl|rfl|rfl|rfl|rfl|rfl|rfl|rfl|rfl|rfl|rfl|rfl|rfl|rfl|rfl|rfl|rfl|rfl|rfl|rfl|rfl|rfl|rfl|rfl|rfl|rfl|rfl|rfl|rfl<;>rfl
theorem JQ (hck:Same w0 19 #[x.v] (.int .i64 0)) (hI:gW w0 x.bs x.L) (hn:x.L.length<=256) (w:World) (hw:Below w0.heap.size w0 w):
 Calls prog 7 #[x.v] w fun e w'=> ∃ad,e=.returned (.tuple #[x.sl ad,.int .i64 0])/\jA w' ad x.pl.length x.cl/\Below w.heap.size w w':=by
 refine(aMd (n:=0)).1 ?_;refine PE (args:=[x.v]) (N:=25) func7 (show _=some whC by kernel_rfl) ntmps7 (by simp) fun a h=>?_;rw[aVd];refine aDs (aG [(none,some 1,.box 35 (.tmp 0)),kc 2 (.slice none 0 0),kc 3 (.int .i64 0)] fun ops l hK hk=>?_);refine sV (v:=aYW w.heap.size 0) hk h (fun _ ho=>rJ (v:=x.v) ho (sT h) rfl) fun l a hk h=>?_;have A0:Al w (w.alloc (.cells x.l.toArray 35)) w.heap.size 35 x.l:=dN x.l;change wpListIn _ _ _ _ _ _ _ (w.alloc (.cells x.l.toArray 35));generalize w.alloc (.cells x.l.toArray 35)=W0 at A0 ⊢;obtain⟨pe,hpe⟩: ∃p,p=w.heap.size:=⟨_,rfl⟩;rw[<-hpe]at A0 h;refine aC (v:=.slice none 0 0) hk h fun l a hk h=>
 aC (v:=.int .i64 0) hk h fun l a hk h=>?_
 refine s0 hk (aDs (aDs (aG [kl 7 35 1,(none,some 8,.call ⟨.value (.func 19),#[(.tmp 7)],#[35]⟩),ka 4 8] fun ops l hK hk=>?_)));have fp0:=A0.2.2.2.1;refine sV (v:=x.v) hk h (fun _ ho=>bC (aO fp0) underlying35 rfl (by kernel_rfl) ho (sT h)) fun l a hk h=>?_;have b0:Below w0.heap.size w0 W0:=⟨A0.2.2.2.2.1.trans hw.os,A0.2.2.2.2.2.1.trans hw.tape,A0.2.2.2.2.2.2.trans hw.output,by have:=hw.size;have:=(gV A0).1;omega,fun b hb=>((gV A0).2 b (by have:=hw.size;omega)).trans (hw.block b hb)⟩;refine sc hk h rfl (by decide) (fun _ ho=>fU ho func19) (R:=fun e W1=>e=.returned (.int .i64 0)/\Below W0.heap.size W0 W1) (by rw[aHe,sT h (v:=x.v)];exact hck W0 b0) (fun e W1 hR=>⟨_,hR.1,fun l a hk h=>?_⟩);obtain⟨_,B1⟩:=hR;refine aV (v:=.int .i64 0) hk h fun l a hk h=>?_;refine s0 hk (aDs (aG [km 9 4,(none,some 10,.binOp .neq 38 (.tmp 9) (.const (.int .i64 0)) 38)] fun ops l hK hk=>?_));refine mV (v:=.int .i64 0) hk h fun l a hk h=>
 sV (v:=.bool false) hk h (fun _ ho=>KN (q:=.i64) (m:=0) (m':=0) ho (sT h) rfl) fun l a hk h=>?_
 refine s0 hk (aNZ (sT h) (aJt (aDs (aG [(none,some 5,.alloc 37)] fun ops l hK hk=>?_))));have h:Sl 25 [(1,aYW pe 0)] a:=aN h;refine sV (v:=aYW W1.heap.size 0) hk h (fun _ ho=>CB ho (zeroValue37 W1) rfl) fun l a hk h=>?_;have A1:Al W1 (W1.alloc (.cells #[.slice none 0 0] 37)) W1.heap.size 37 [.slice none 0 0]:=dN [.slice none 0 0];refine s0 hk ?_;generalize W1.alloc (.cells #[.slice none 0 0] 37)=W2 at A1 ⊢;obtain⟨bt,hbt⟩: ∃p,p=W1.heap.size:=⟨_,rfl⟩;rw[<-hbt]at A1 h;refine aDs (aDs (aG [(none,some 12,.call ⟨.value (.func 29),#[(.tmp 1)],#[84]⟩)] fun ops l hK hk=>?_));refine sc hk h rfl (by decide) (fun _ ho=>fU ho func29) (R:=fun e W3=>e=.returned (.func (.func 50) #[] #[aYW W2.heap.size 0])/\Al W2 W3 W2.heap.size 84 [aYW pe 0]) (by rw[aHe,sT h (v:=aYW pe 0)];exact places_any pe W2) (fun e W3 hR=>⟨_,hR.1,fun l a hk h=>?_⟩);obtain⟨_,A2⟩:=hR;refine s0 hk ?_;obtain⟨bx,hbx⟩: ∃p,p=W2.heap.size:=⟨_,rfl⟩;rw[<-hbx]at A2 h;have h:Sl 25 [(5,aYW bt 0),(12,.func (.func 50) #[] #[aYW bx 0])] a:=aN h;obtain⟨e0,k0⟩:=gV A0;obtain⟨e1,k1⟩:=gV A1;obtain⟨e2,k2⟩:=gV A2;have z0':=A0.2.1;have z1:=A1.2.1;have z2:=A2.2.1;have sB:=B1.size;have kk: ∀b,b<W0.heap.size->W3.heap[b]? =W0.heap[b]? :=fun b hb=>(k2 b (by omega)).trans ((k1 b (by omega)).trans (B1.block b hb));have kw: ∀b,b<w.heap.size->W3.heap[b]? =w.heap[b]? :=fun b hb=>(kk b (by omega)).trans (k0 b hb);have os3:aYM w W3:=A0.2.2.2.2.trans (aYM.trans ⟨B1.os,B1.tape,B1.output⟩ (A1.2.2.2.2.trans A2.2.2.2.2));have i0:Iw w x pe bx bt W3.heap.size 0 (fun b=>b<w.heap.size\/b=pe\/b=bx\/b=bt\/(Value.slice none 0 0).ownBlock=some b) W3:=
  ⟨kw,aC4 _,aT fp0 (kk pe (by omega)),A2.2.2.2.1,.slice none 0 0,aT A1.2.2.2.1 (k2 bt (by omega)),aRr _ _ _ _,fun b=>aXT⟩
 have hw3:w.heap.size<=W3.heap.size:=by omega
 have hD:=x.aIE pe;have hpl:x.pl=vN x.PT (x.D pe).length:=by rw[hD];rfl
 have hRd: ∀k B W,Iw w x pe bx bt W3.heap.size k B W->gW W x.bs x.L:=fun k B W ⟨g1,g2,_⟩=>qP (qP hI hw.size hw.block) (by omega) g1;have aWE: ∀k B W,Iw w x pe bx bt W3.heap.size k B W->Sp x.kd x.fk x.tk bx pe x.bs x.cp x.R x.PT W:=fun k B W g=>Xp.sp g.2.2.1 (hRd k B W g) (aI (j:=0) g.2.2.2.1 rfl);have hen: ∀k B W,k<x.pl.length->Iw w x pe bx bt W3.heap.size k B W->aEi (x.D pe) (vN x.PT (x.D pe).length) k W= #[.agg (x.cl k).toArray,aYW ((x.D pe).getD (x.pl.getD k (0,0)).1 (0,0)).1 (((x.D pe).getD (x.pl.getD k (0,0)).1 (0,0)).2+7+(x.pl.getD k (0,0)).2)]:=by
  intro k B W hk g;obtain⟨p1,p2⟩:=x.aLR hk;have:=Xp.mark g.2.2.1 (hRd k B W g) (k:=(x.pl.getD k (0,0)).1) (by rw[hD];exact p1) p2;rw[<-hpl];unfold aEi;rw[this];rfl
 refine aLs (WG (I:=Iw w x pe bx bt W3.heap.size) (Ax:=Ax w x pe bx bt W3.heap.size) (Rd:=Sp x.kd x.fk x.tk bx pe x.bs x.cp x.R x.PT) (N:=x.pl.length) (enc:=aEi (x.D pe) (vN x.PT (x.D pe).length)) (gf:=50) (lb:= #[aYW bx 0])
  (SV hw3) (aOQ hw3) (sT h) (fun args w=>enters_of func50 (by kernel_rfl) (show _=some plC by kernel_rfl) args w) (fun k W=>rfl) i0 aWE ?_ ?_ ?_ ?_)
 . rw[hpl];exact aDy (by rw[x.NY];omega)
 . intro l' k B W hk g;rw[hen k B W hk g,aSZ];refine wh6 hw3 g ?_;have h1:=qK (d:=13) (v:=.agg (x.cl k).toArray) (show Sl 25 _ { tmps:=a.tmps,defers:=[] }from⟨h.size,rfl,h.val⟩) (by decide);have h2:=qK (d:=14) (v:=aYW ((x.D pe).getD (x.pl.getD k (0,0)).1 (0,0)).1 (((x.D pe).getD (x.pl.getD k (0,0)).1 (0,0)).2+7+(x.pl.getD k (0,0)).2)) h1 (by decide);have h3:Sl 25 [(5,aYW bt 0),(13,.agg (x.cl k).toArray)] _:=aN h2;exact h3
 . intro l' k a' B W hk g;exact wh7 hw3 ⟨by omega,by omega,by omega,by omega,by omega,by omega⟩ (by have:=x.GN hn;omega) g
 intro Db B' W' hI' hrest hgrow hDl hnB hdef;obtain⟨g1,g2,g3,g4,v,g5,g6,g7⟩:=hI';refine aDs (aG [kl 19 37 5,kl 20 37 5,(none,some 21,.call ⟨.builtin .len,#[(.tmp 20)],#[37]⟩),kl 22 37 5,(none,some 23,.call ⟨.builtin .len,#[(.tmp 22)],#[37]⟩),(none,some 24,.slice 37 (.tmp 19) none (some (.tmp 21)) (some (.tmp 23))),ka 2 24,kc 3 (.int .i64 0)] fun ops l hK hk=>?_);have h:Sl 25 [(5,aYW bt 0)] { a with defers:={ target:=.collected Db,args:= #[] }::a.defers } [{ target:=.collected Db,args:= #[] }]:=⟨h.size,by show _::a.defers=_;rw[h.defs],fun e he=>by rw[aL8.1 he];exact h.val _ (by simp)⟩;obtain⟨ad,cap,ev,hcap,hadd,hlist⟩: ∃ad cap,v=.slice ad x.pl.length cap/\x.pl.length<=cap/\ad.map (·.add 0)=ad/\ ∀W'',(∀b,b<W'.heap.size->b≠Db->W''.heap[b]? =W'.heap[b]?)->W'.heap.size<=W''.heap.size->jA W'' ad x.pl.length x.cl:=by
  rcases g6.2 with⟨rfl,e0⟩|⟨g,cap,cur,rfl,q1,q2,q3,q4,q5,q6⟩
  . exact⟨none,0,by rw[e0],by omega,rfl,fun W'' _ _ q hq=>by omega⟩
  refine⟨some ⟨g,0,none⟩,cap,rfl,q3,by simp[aSD],fun W'' hb hs q hq=>⟨g,rfl,?_,fun j u hu=>?_⟩⟩
  . have:=(aEH.1 q2).1;omega
  have hu:=x.aH5 hq hu;rw[<-q6]at hu;have hgD:g≠Db:=fun e=>hnB (e ▸ (g7 g).2 (.inr (.inr (.inr (.inr rfl)))));have:=hb g (aEH.1 q2).1 hgD;have hc:cur[q * 3+j]? =some u:=by
   rw[<-aEt];rw[aPh]at hu;split at hu
   . exact hu
   cases hu
  simp[World.cell?,this,q2,hc]
 subst ev;have fb:W'.cell? ⟨bt,0,none⟩=some (.slice ad x.pl.length cap):=aI (j:=0) g5 rfl;refine lV aB5 (v:=.slice ad x.pl.length cap) hk h fb fun l a hk h=>
 lV aB5 (v:=.slice ad x.pl.length cap) hk h fb fun l a hk h=>
 sV (v:=.int .i64 (x.pl.length:Int)) hk h (fun _ ho=>lM (s:=ad) (c:=cap) (el:=46) (by kernel_rfl) ho (sT h)) fun l a hk h=>
 lV aB5 (v:=.slice ad x.pl.length cap) hk h fb fun l a hk h=>
 sV (v:=.int .i64 (x.pl.length:Int)) hk h (fun _ ho=>lM (s:=ad) (c:=cap) (el:=46) (by kernel_rfl) ho (sT h)) fun l a hk h=>
 sV (v:=x.sl ad) hk h (fun _ ho=>aFw (el:=46) (c:=cap) (by kernel_rfl) (by kernel_rfl) hcap hadd ho (sT h) (sT h) (sT h)) fun l a hk h=>
 aV (v:=x.sl ad) hk h fun l a hk h=>?_
 refine aC (v:=.int .i64 0) hk h fun l a hk h=>?_;refine s0 hk (aMu ?_);show LeavesInM _ _ _ _ _ _ a.defers _ _;rw[h.defs];have rr:=results_tmp2 results7 a.tmps prog (W'.putObj Db (.deferred none));rw[BO h (i:=2) (v:=x.sl ad) (by simp),BO h (i:=3) (v:=.int .i64 0) (by simp)]at rr;refine⟨by simp,.inl ⟨_,_,rfl,aX2 hdef,_,rr,ad,rfl,hlist _ (fun b _ hne=>CO hne) (by simp),?_⟩⟩;have sr:=hrest.1;refine⟨hrest.2.2.1.trans os3.1,hrest.2.2.2.1.trans os3.2.1,hrest.2.2.2.2.trans os3.2.2,by simp;omega,fun b hb=>?_⟩;exact(CO (by omega)).trans ((g1 b hb))
end
def itc(L:List lK)(k:Nat):List Value:=(List.range k).flatMap fun i=>(L.getD i bQ).l
theorem LY(L:List lK)(k:Nat):itc L (k+1)=itc L k++(L.getD k bQ).l:=by unfold itc;rw[aYb,aUC];simp
theorem I4(L:List lK): ∀k,(itc L k).length=k * 21
 |0=>rfl
 |k+1=>by rw[LY,aLx,I4 L k];show k * 21+21=_;omega
theorem aNW(L:List lK){n q j:Nat}{v:Value}(hq:q<n)(hv:((L.getD q bQ).l)[j]? =some v):(itc L n)[q * 21+j]? =some v:=by
 have hj:j<21:=(aED.1 hv).1
 induction n with
 |zero=>omega
 |succ n ih=>
  rw[LY];by_cases c:q<n
  . rw[aIG (by rw[I4];omega)];exact ih c
  obtain rfl:q=n:=by omega
  rw[aJk (by rw[I4];omega),I4,show q * 21+j - q * 21=j by omega];exact hv
theorem aKJ: ∃i z,prog.info? 79=some i/\i.zero=some z/\i.size=21/\z.cells.size=21/\i.bytes<=1000:=by
 have h1:(prog.info? 79).map (fun i=>(i.zero,i.size,Nat.ble i.bytes 1000))=some (some (.agg (UZ z0 false z0).toArray),21,true):=by kernel_rfl
 cases hi:prog.info? 79 with
 |none=>rw[hi]at h1;cases h1
 |some i=>
  rw[hi]at h1;simp only[aLw,aPb,aNS]at h1;exact⟨i,_,rfl,h1.1,h1.2.1,rfl,aK8 h1.2.2⟩
section
variable{P:Program}{fn:Func}{N:Nat}{S:List (Nat × Value)}{a:Act}{ds:List Deferred}{W:World}
theorem aNd{i:Tmp}{t:TypeId}{b:Nat}{v:Value}(h:Sl N S a ds)(hr:fn.results= #[.cell i t])(hi:(i,aYW b 0) ∈ S)(hv:(loadVar t ⟨b,0,none⟩).run P W=.ok v W):(results fn a.tmps).run P W=.ok v W:=by
 simp[results,hr,h.val _ hi,asAddr,hv]
end
theorem xA{w:World}{p:Nat}{el:TypeId}{vs:List Value}(h:dA w p el vs)(k:Nat)(v:Value):dA (w.setCells p k [v]) p el (vs.set k v):=jC h k v
theorem qQ{w:World}{p:Nat}{el:TypeId}{vs:List Value}(h:dA w p el vs){k:Nat}(hk:k<vs.length):w.there p k 1:=fun j hj=>by
 obtain rfl:j=0:=by omega
 have:=aX h k hk;rwa[aHG]at this
theorem aJy{P:Program}{W:World}{a:Act}{o:Oper}{c:Operand}{args:Array Operand}{ats:Array TypeId}{f:FuncId}{caps:Array Value}(he: ∀args w',(callFunc f args).run P w'=.ok (.enter f args) w')(ho:o.op=.call ⟨.value c,args,ats⟩)(hc:a.eval c=.func (.func f) #[] caps):
 (execOp a.eval o).run P W=.ok (.enter f (args.map a.eval++caps)) W:=by
 unfold execOp;simp[ho,resolve,hc,Deferred.ofValue,invoke,he]
theorem jP{p:Nat}(us:List Value)(k:Nat)(W:World)(b:Nat)(hb:b≠p):(W.setCells p k us).heap[b]? =W.heap[b]? :=by
 induction us generalizing k W with
 |nil=>rfl
 |cons u us ih=>exact(ih (k+1) _).trans (by simp[World.setCell,aOc,aPu hb])
theorem xG:oZ prog 46 2=some 2:=by kernel_rfl
theorem fQ{P:Program}{W:World}{a:Act}{o:Oper}{x:Operand}{i:Nat}{vs:Array Value}{v:Value}(hv:vs[i]? =some v)(ho:o.op=.extract x i)(hx:a.eval x=.tuple vs):(execOp a.eval o).run P W=.ok (.value v) W:=by
 unfold execOp;simp[ho,hx,Instr.extract,hv]
abbrev zE:List Value:=oI 0 z0 0 z0 0 z0 (.slice none 0 0) false false
noncomputable def mkC:Code:=match(f32).body with
 |some c=>c
 |none=>.skip
noncomputable def aSm:Code:=bF [1,0,1,0,0] mkC
noncomputable def aSl:Code:=bF [1,1,0] mkC
theorem aWh:mkC=(.seq (bF [0] mkC) (.seq (.seq (bF [1,0,0] mkC) (.cond (.tmp 8) (.seq aSm .ret) .skip)) (.seq aSl .ret))):=by kernel_rfl
noncomputable def pnC:Code:=match(f9).body with
 |some c=>c
 |none=>.skip
noncomputable def aRT:Code:=bF [1,1,1,0,1,0,0,1,1,1] pnC
theorem aV5:pnC=(.seq (bF [0] pnC) (.seq (bF [1,0] pnC) (.seq (.seq (bF [1,1,0,0] pnC) (.cond (.tmp 14) (.seq (bF [1,1,0,1,0,0] pnC) .ret) .skip)) (.seq (.seq (bF [1,1,1,0,0] pnC) (.block 0 (.loop (.seq (bF [1,1,1,0,1,0,0,0] pnC) (.seq (.cond (.tmp 19) .skip (.exit 0)) (.seq (.block 1 (.seq (bF [1,1,1,0,1,0,0,1,1,0,0,0] pnC) (.seq (bF [1,1,1,0,1,0,0,1,1,0,0,1,0] pnC) (.cond (.tmp 24) (.seq (bF [1,1,1,0,1,0,0,1,1,0,0,1,1,0,0] pnC) .ret) .skip)))) aRT)))))) (.seq (bF [1,1,1,1,0] pnC) .ret))))):=by kernel_rfl
noncomputable def OL:Code:=match(f11).body with
 |some c=>c
 |none=>.skip
noncomputable def aL5:Code:=bF [1,1,1,1,1,0,1,0,0,1,1,0,0,1,0] OL
noncomputable def aL4:Code:=bF [1,1,1,1,1,0,1,0,0,1,1,0,0,1,1] OL
noncomputable def aL3:Code:=bF [1,1,1,1,1,0,1,0,0,1,1,1] OL
noncomputable def aL2:Code:=bF [1,1,1,1,1,1,1,0] OL
theorem aWj:OL=(.seq (bF [0] OL) (.seq (.seq (bF [1,0,0] OL) (.seq (bF [1,0,1,0] OL) (.cond (.tmp 16) (.seq (bF [1,0,1,1,0,0] OL) .ret) .skip))) (.seq (bF [1,1,0] OL) (.seq (.seq (bF [1,1,1,0,0] OL) (.cond (.tmp 24) (.seq (bF [1,1,1,0,1,0,0] OL) .ret) .skip)) (.seq (bF [1,1,1,1,0] OL) (.seq (.seq (bF [1,1,1,1,1,0,0] OL) (.block 0 (.loop (.seq (bF [1,1,1,1,1,0,1,0,0,0] OL) (.seq (.cond (.tmp 29) .skip (.exit 0)) (.seq (.block 1 (.seq (bF [1,1,1,1,1,0,1,0,0,1,1,0,0,0] OL) (.seq aL5 aL4))) aL3)))))) (.seq (.block 2 (.seq (bF [1,1,1,1,1,1,0,0,0] OL) (.cond (.tmp 50) (.seq (bF [1,1,1,1,1,1,0,0,1,0,0] OL) .ret) (.seq (bF [1,1,1,1,1,1,0,0,1,1,0] OL) (.cond (.tmp 52) (.seq (bF [1,1,1,1,1,1,0,0,1,1,1,0,0] OL) .ret) .skip))))) (.seq aL2 .ret)))))))):=by kernel_rfl
theorem aB0{P:Program}{W:World}{a:Act}{o:Oper}{t yt:TypeId}{x y:Operand}{q:IntKind}{m m':Int}(ho:o.op=.binOp .gtr t x y yt)(hx:a.eval x=.int q m)(hy:a.eval y=.int q m'):(execOp a.eval o).run P W=.ok (.value (.bool (decide (m'<m)))) W:=
 nM ho hx hy (by simp[eqGuard,binOp,Op.intCmp])
theorem aGX(m:Int)(W:World):Calls prog 32 #[.int .u8 m] W fun e W1=>e=.returned (.int .i64 (if 1<=m/\m<=3 then 0 else 9))/\W1=W:=by
 refine(aMd (n:=0)).1 ?_;refine fM (args:=[.int .u8 m]) (N:=9) func32 (show _=some mkC by kernel_rfl) ntmps32 (by simp) fun a h=>?_;rw[aWh];refine aDs (aG [kc 2 (.int .i64 0)] fun ops l hK hk=>?_);refine aC (v:=.int .i64 0) hk h fun l a hk h=>?_;refine s0 hk (aDs (aDs (aG [km 3 0,(none,some 4,.binOp .lss 5 (.tmp 3) (.const (.int .u8 1)) 5),km 5 4,kg 2 false (km 6 0),(some (2,false),some 7,.binOp .gtr 5 (.tmp 6) (.const (.int .u8 3)) 5),(none,some 8,.pick (.tmp 5) (.const (.bool true)) (.tmp 7))] fun ops l hK hk=>?_)));refine mV (v:=.int .u8 m) hk h fun l a hk h=>?_;have fin: ∀(t:Bool) (l:List Oper) (a:Act),t= !decide (1<=m/\m<=3)->l=[]->Sl 9 [(8,.bool t)] a->(Code.cond (.tmp 8) (.seq aSm .ret) .skip).wpIn (FR none) 0 prog (Exit.then ((Code.seq aSl .ret).wpIn (FR none) 0 prog (bodyPost prog f32 fun e W1=>e=.returned (.int .i64 (if 1<=m/\m<=3 then 0 else 9))/\W1=W)) (bodyPost prog f32 fun e W1=>e=.returned (.int .i64 (if 1<=m/\m<=3 then 0 else 9))/\W1=W)) a W:=by
  intro t l a ht _ h;refine cZ (t:=t) h (by simp) (fun c=>?_) (fun c=>?_)
  . refine aDs (aG [kc 2 (.int .i64 9)] fun ops l hK hk=>?_);refine aC (v:=.int .i64 9) hk h fun l a hk h=>?_;refine s0 hk (aMu ?_);exact fF (R:=fun e W1=>e=.returned (.int .i64 (if 1<=m/\m<=3 then 0 else 9))/\W1=W) (i:=2) (v:=.int .i64 9) h results32 (by simp) ⟨by rw[aEg (fun hh=>by rw[c,aDx hh]at ht;cases ht)],rfl⟩
  refine aJt (aDs (aG [kc 2 (.int .i64 0)] fun ops l hK hk=>?_));refine aC (v:=.int .i64 0) hk h fun l a hk h=>?_;refine s0 hk (aMu ?_);exact fF (R:=fun e W1=>e=.returned (.int .i64 (if 1<=m/\m<=3 then 0 else 9))/\W1=W) (i:=2) (v:=.int .i64 0) h results32 (by simp) ⟨by rw[aEo (aT7 fun hh=>by rw[c,aBW hh]at ht;cases ht)],rfl⟩
 by_cases c:m<1
 . refine sV (v:=.bool true) hk h (fun _ ho=>by have:=mP (P:=prog) (W:=W) (q:=.u8) ho (sT h (v:=.int .u8 m)) (m':=1) rfl;rw[aDx c]at this;exact this) fun l a hk h=>?_;refine mV (v:=.bool true) hk h fun l a hk h=>
   sX hK hk h 5 fun l a hk h=>
   sX hK hk h 5 fun l a hk h=>
   sV (v:=.bool true) hk h (fun _ ho=>dR ho (sT h) rfl) fun l a hk h=>?_
   exact s0 hk (fin true [] a (by rw[aBW (by omega)];rfl) rfl (aN h))
 refine sV (v:=.bool false) hk h (fun _ ho=>by have:=mP (P:=prog) (W:=W) (q:=.u8) ho (sT h (v:=.int .u8 m)) (m':=1) rfl;rw[aBW c]at this;exact this) fun l a hk h=>?_;refine mV (v:=.bool false) hk h fun l a hk h=>
 mG (v:=.int .u8 m) hK hk h 5 fun l a hk h=>
 sG (v:=.bool (decide (3<m))) hK hk h 5 (fun _ ho=>aB0 (q:=.u8) ho (sT h) rfl) fun l a hk h=>
 sV (v:=.bool (decide (3<m))) hk h (fun _ ho=>dI ho (sT h) (sT h)) fun l a hk h=>?_
 exact s0 hk (fin (decide (3<m)) [] a (if d:3<m then(by rw[aDx d,aBW (by omega)];rfl)else(by rw[aBW d,aDx (by omega)];rfl)) rfl (aN h))
def mE(m:Int):Int:=if 1<=m/\m<=3 then 0 else 9
theorem aKD(m:Int)(W:World):Calls prog 32 #[.int .u8 m] W fun e W1=>e=.returned (.int .i64 (mE m))/\W1=W:=aGX m W
theorem dZ{W W1:World}{s:Nat}{el:TypeId}{vs:List Value}(h:Al W W1 s el vs):Below W.heap.size W W1:=⟨h.2.2.2.2.1,h.2.2.2.2.2.1,h.2.2.2.2.2.2,(gV h).1,(gV h).2⟩
theorem bD{n:Nat}{w W W':World}(h:Below n w W)(k:Below W.heap.size W W')(hn:n<=w.heap.size):Below n w W':=⟨k.os.trans h.os,k.tape.trans h.tape,k.output.trans h.output,aKM h.size k.size,fun b hb=>(k.block b (by have:=h.size;omega)).trans (h.block b hb)⟩
theorem qM{P:Program}{W:World}{a:Act}{o:Oper}{t yt:TypeId}{x y:Operand}{q:IntKind}{m m':Int}(e:m=m')(ho:o.op=.binOp .neq t x y yt)(hx:a.eval x=.int q m)(hy:a.eval y=.int q m'):(execOp a.eval o).run P W=.ok (.value (.bool false)) W:=by
 have:=KN (P:=P) (W:=W) ho hx hy;rw[aDx e]at this;exact this
def pz(W:World)(cs:List Value):World:=(W.alloc (.cells #[.int .i64 0,.int .i64 0,.int .u8 0] 46)).setCells W.heap.size 0 cs
theorem aMs(x:Xp)(q:Nat)(W:World):Al W (pz W (x.cl q)) W.heap.size 46 (x.cl q):=EC (us:=x.cl q) (dN (W:=W) (el:=46) [.int .i64 0,.int .i64 0,.int .u8 0]) rfl
theorem wrap_succ{q n:Nat}(h:q<n)(hn:n<10000000):IntKind.i64.wrap ((q:Int)+1)=(q:Int)+1:=by
 have hb:IntKind.i64.bits=64:=rfl;unfold IntKind.wrap;simp[IntKind.signed,hb];omega
end

section
open Go.RowKit
theorem scg{P:Program}{r:Option Nat}{n N:Nat}{ops:Array Oper}{Q:Exit->Act->World->Prop}{S:List (Nat × Value)}{a:Act}{ds:List Deferred}{l:List Oper}{p:Op}{ks:List (Option (Tmp × Bool) × Option Tmp × Op)}{W:World}{j:Nat}{b:Bool}{d d0:Nat}{g0:Option (Tmp × Bool)}{p0:Op}{K:List (Option (Tmp × Bool) × Option Tmp × Op)}
 (hK:ops.toList.map key=K) (hk:l.map key=(some (j,b),some d,p)::ks) (h:Sl N S a ds) (hj:K[j]? =some (g0,some d0,p0)) (hm:(d0,.bool b) ∈ S) (hp:kY p=false) (hd:d<N)
 {f:FuncId} {args:Array Value} {R:Ending->World->Prop} (hrun: ∀o:Oper,o.op=p->(execOp a.eval o).run P W=.ok (.enter f args) W) (hc:Calls P f args W R)
 (k: ∀e W1,R e W1-> ∃v,e=.returned v/\ ∀l a,l.map key=ks->Sl N ((d,v)::S.filter (fun e=>e.1 !=d)) a ds->wpListIn (FR r) n P ops Q l a W1):wpListIn (FR r) n P ops Q l a W:=by
 obtain⟨o,l',rfl,e,hl⟩:=EX hk;simp only[key,aNS]at e;obtain⟨hg,hd',rfl⟩:=e;unfold wpListIn;rw[aEo ((aBK hK hj hg h hm).trans (by cases b<;>rfl))];refine wS (by unfold XG;cases ho:o.op<;>first|rfl|(rw[ho]at hp;cases hp)) ?_;unfold Oper.wp;rw[hrun o rfl,aVR];refine hc.mono fun e W1 hR=>?_;obtain⟨v,rfl,hk'⟩:=k e W1 hR;show wpListIn (FR r) n P ops Q l' (a.put o.dst v) W1;rw[hd'];exact hk' l' _ hl (qK h hd)
theorem PL{P:Program}{W:World}{a:Act}{o:Oper}{f:FuncId}{fn:Func}{c:Code}(ho:o.op=.call ⟨.value (.func f),#[],#[]⟩)(hf:P.funcs[f]? =some fn)(hs:(fn.name== "runtime.NumGoroutine")=false)(hb:fn.body=some c):(execOp a.eval o).run P W=.ok (.enter f #[]) W:=by
 have:=KA (w:=W) (a:=a) ho hf hs hb;simpa using this
def ez(W:World)(cs:List Value):World:=(W.alloc (.cells zE.toArray 35)).setCells W.heap.size 0 cs
theorem aTZ{cs:List Value}(hc:cs.length=36)(W:World):Al W (ez W cs) W.heap.size 35 cs:=EC (us:=cs) (dN (W:=W) (el:=35) zE) hc
end
section
open Go.RowKit Go.Lib
def yr0:AV:=bH 2 .i64 [qz,(qi 4)]
def yr1:AV:=bH 4 .i64 [(qi 5),(.v (.int .i64 1))]
def yr2:List AV:=[(qb 0),(qb 1),(qs 2),(qi 3),(qi 4),(qs 5),(qs 6),(qu 7),(qu 8),(qu 9)]
def yr3:List AV:=[(qb 0),(qb 1),(qs 2),(qi 3),(qi 4),(qs 5),.v (.string ⟨#[]⟩),(qu 6),(qu 7),(qu 8)]
theorem aVZ (ng:Bool)(lg:Bool)(dg:ByteArray)(ex:Int)(n:Int)(v:Int)(w0:World) (H0:Same w0 196 #[(.agg #[(.bool ng),(.bool lg),(.string dg),(.int .i64 ex),(.int .i64 0)])] (.int .i64 0))(H1:Same w0 71 #[(.string dg),(.int .i64 ex)] (.tuple #[(.int .i64 v),(.int .i64 1)])):Same w0 158 #[(.agg #[(.bool ng),(.bool lg),(.string dg),(.int .i64 ex),(.int .i64 0)]),(.int .i64 n)] (cond (decide (n<(-10000000000000000))) (.int .i64 0) (cond (decide (10000000000000000<n)) (.int .i64 0) (cond ng (cond (decide ((IntKind.i64.wrap (0 - n))<0)) (.int .i64 0) (cond ((IntKind.i64.wrap (Int.tdiv v 1))==(IntKind.i64.wrap (Int.tdiv (IntKind.i64.wrap (0 - n)) 1))) (.int .i64 1) (.int .i64 0))) (cond (decide (n<0)) (.int .i64 0) (cond ((IntKind.i64.wrap (Int.tdiv v 1))==(IntKind.i64.wrap (Int.tdiv n 1))) (.int .i64 1) (.int .i64 0)))))):=
 zc (.node 1 (qi 4) (.v (.int .i64 (-10000000000000000))) (.leaf qz) (.node 1 (.v (.int .i64 10000000000000000)) (qi 4) (.leaf qz) (.node 3 (qb 0) (qb 0) (.node 1 yr0 qz (.leaf qz) (.node 0 yr1 (bH 4 .i64 [yr0,(.v (.int .i64 1))]) (.leaf (.v (.int .i64 1))) (.leaf qz))) (.node 1 (qi 4) qz (.leaf qz) (.node 0 yr1 (bH 4 .i64 [(qi 4),(.v (.int .i64 1))]) (.leaf (.v (.int .i64 1))) (.leaf qz)))))) [] [(196,[.agg [(qb 0),(qb 1),(qs 2),(qi 3),qz]],qz),(71,[(qs 2),(qi 3)],.eP [(qi 5),.v (.int .i64 1)])] [.agg [(qb 0),(qb 1),(qs 2),(qi 3),qz],(qi 4)] (.agg #[.bool ng,.bool lg,.string dg,.int .i64 ex,.int .i64 n,.int .i64 v]) .nil (.cons H0 (.cons H1 .nil))
theorem aNj (ng:Bool)(lg:Bool)(dg:ByteArray)(ex:Int)(v:Int)(w0:World) (H0:Same w0 196 #[(.agg #[(.bool ng),(.bool lg),(.string dg),(.int .i64 ex),(.int .i64 0)])] (.int .i64 0))(H1:Same w0 71 #[(.string dg),(.int .i64 ex)] (.tuple #[(.int .i64 v),(.int .i64 1)])):Same w0 157 #[(.agg #[(.bool ng),(.bool lg),(.string dg),(.int .i64 ex),(.int .i64 0)])] (cond ng (.tuple #[(.int .i64 (IntKind.i64.wrap (0 - v))),(.int .i64 (IntKind.i64.wrap (0 - v)))]) (.tuple #[(.int .i64 v),(.int .i64 v)])):=
 zc (.node 3 (qb 0) (qb 0) (.leaf (.eP [yr0,yr0])) (.leaf (.eP [(qi 4),(qi 4)]))) [] [(196,[.agg [(qb 0),(qb 1),(qs 2),(qi 3),qz]],qz),(71,[(qs 2),(qi 3)],.eP [(qi 4),.v (.int .i64 1)])] [.agg [(qb 0),(qb 1),(qs 2),(qi 3),qz]] (.agg #[.bool ng,.bool lg,.string dg,.int .i64 ex,.int .i64 v]) .nil (.cons H0 (.cons H1 .nil))
theorem aJD(d:Dt) (w0:World) (H0:Same w0 109 #[(dP d)] (.int .i64 0))(H1:Same w0 110 #[(dP d)] (.int .i64 1)):Same w0 64 #[(dP d)] (cond (d.da.toList==(⟨#[]⟩:ByteArray).toList) (.int .i64 0) (.int .i64 0)):=
 zc (.node 2 (qs 6) (.v (.string ⟨#[]⟩)) (.leaf qz) (.leaf qz)) [] [(109,[.agg yr2],qz),(110,[.agg yr2],.v (.int .i64 1))] [.agg yr2] (lv (dL d) []) .nil (.cons H0 (.cons H1 .nil))
theorem WI(d:Dt)(e:Int)(w0:World) (H0:Same w0 109 #[(.agg #[(.bool d.neg),(.bool d.long),(.string d.dg),(.int .i64 d.ex),(.int .i64 d.sig),(.string d.mo),(.string ⟨#[]⟩),(.int .u8 d.m0),(.int .u8 d.m1),(.int .u8 d.m2)])] (.int .i64 e)):Same w0 64 #[(.agg #[(.bool d.neg),(.bool d.long),(.string d.dg),(.int .i64 d.ex),(.int .i64 d.sig),(.string d.mo),(.string ⟨#[]⟩),(.int .u8 d.m0),(.int .u8 d.m1),(.int .u8 d.m2)])] (cond (e==0) (.int .i64 e) (.int .i64 e)):=
 zc (.node 0 (qi 9) qz (.leaf (qi 9)) (.leaf (qi 9))) [] [(109,[.agg yr3],(qi 9))] [.agg yr3] (.agg #[.bool d.neg,.bool d.long,.string d.dg,.int .i64 d.ex,.int .i64 d.sig,.string d.mo,.int .u8 d.m0,.int .u8 d.m1,.int .u8 d.m2,.int .i64 e]) .nil (.cons H0 .nil)
noncomputable def sqC:Code:=match(f110).body with
 |some c=>c
 |none=>.skip
theorem aVJ:sqC=(.seq (bF [0] sqC) (.seq (bF [1,0] sqC) (.seq (.seq (bF [1,1,0,0] sqC) (.block 0 (.loop (.seq (.seq (bF [1,1,0,1,0,0,0,0] sqC) (.cond (.tmp 15) .skip (.exit 0))) (.seq (.block 1 (.seq (bF [1,1,0,1,0,0,1,0,0,0] sqC) (.cond (.tmp 29) (.seq (bF [1,1,0,1,0,0,1,0,0,1,0,0] sqC) .ret) .skip))) (bF [1,1,0,1,0,0,1,1] sqC)))))) (.seq (bF [1,1,1,0] sqC) .ret)))):=by kernel_rfl
theorem aCu:oZ prog 30 0=some 0:=by kernel_rfl
section
variable{P:Program}{W:World}{a:Act}{o:Oper}{t yt:TypeId}{x y:Operand}{q:IntKind}{m m':Int}
theorem aNf(h:m<=m')(ho:o.op=.binOp .leq t x y yt)(hx:a.eval x=.int q m)(hy:a.eval y=.int q m'):(execOp a.eval o).run P W=.ok (.value (.bool true)) W:=nM ho hx hy (by simp[eqGuard,binOp,Op.intCmp,h])
theorem aRC(h:m'<m)(ho:o.op=.binOp .gtr t x y yt)(hx:a.eval x=.int q m)(hy:a.eval y=.int q m'):(execOp a.eval o).run P W=.ok (.value (.bool true)) W:=nM ho hx hy (by simp[eqGuard,binOp,Op.intCmp,h])
end
section
variable{w0:World}{d:Dt}
abbrev ydV(d:Dt):Value:=.agg #[.bool d.neg,.bool d.long,.string d.dg,.int .i64 d.ex,.int .i64 d.sig]
theorem aAQ(he:d.err=0)(hx:d.vO=true):0<=d.mag/\d.mag<=10000000000000000/\d.yv=(if d.neg=true then -d.mag else d.mag):=by
 obtain⟨_,hk,y0,y1,_⟩:=iF he hx;have e:d.yv=(if d.neg=true then -d.mag else d.mag):=by
  show yVal d.neg d.dg d.ex=_;unfold yVal;cases d.neg<;>rfl
 have h0:0<=d.mag:=oV d.dg d.ex;refine⟨h0,?_,e⟩;rw[e]at y0 y1;cases hn:d.neg
 . rw[hn]at y1;exact y1
 rw[hn]at y0;have: -10000000000000000<= -d.mag:=y0;omega
theorem sMs(hy:d.dg.size<=1000)(hx:d.vO=true):Same w0 196 #[.agg #[.bool d.neg,.bool d.long,.string d.dg,.int .i64 d.ex,.int .i64 0]] (.int .i64 0):=fun w _=>by
 have:=GH d.neg d.long d.dg d.ex 0 w (by unfold maxLen;omega);rw[show hasB 88 d.dg=false from(gB hx).1,aEg (by decide)]at this;exact this
theorem sMg(hy:d.dg.size<=1000)(he:d.err=0)(hx:d.vO=true):Same w0 71 #[.string d.dg,.int .i64 d.ex] (.tuple #[.int .i64 d.mag,.int .i64 1]):=fun w _=>
 (aB3 hy (iF he hx).2.1 (gB hx).1 w).mono fun e w' hr=>⟨hr.1,hr.2 ▸ aDA _ _⟩
theorem aVS(hy:d.dg.size<=1000)(he:d.err=0)(hx:d.vO=true):Same w0 158 #[ydV d,.int .i64 d.yv] (.int .i64 1):=by
 obtain⟨m0,m1,e⟩:=aAQ he hx;unfold ydV;rw[(gB hx).2.2.2.1];refine zS (aVZ d.neg d.long d.dg d.ex d.yv d.mag w0 (sMs hy hx) (sMg hy he hx)) ?_;rw[jW,jW,aYD,aYD,aYD];cases hn:d.neg
 . rw[hn]at e;have e:d.yv=d.mag:=e;rw[e,aBW (show ¬d.mag< -10000000000000000 by omega),aBW (show ¬ 10000000000000000<d.mag by omega),aBW (show ¬d.mag<0 by omega)];simp
 rw[hn]at e;have e:d.yv= -d.mag:=e;rw[e,show(0:Int) - -d.mag=d.mag by omega,show IntKind.i64.wrap d.mag=d.mag from wr (by omega) (by omega),show IntKind.i64.wrap d.mag=d.mag from wr (by omega) (by omega),aBW (show ¬ -d.mag< -10000000000000000 by omega),aBW (show ¬ 10000000000000000< -d.mag by omega),aBW (show ¬d.mag<0 by omega)];simp
theorem aVN(hy:d.dg.size<=1000)(he:d.err=0)(hx:d.vO=true):Same w0 157 #[ydV d] (.tuple #[.int .i64 d.yv,.int .i64 d.yv]):=by
 obtain⟨m0,m1,e⟩:=aAQ he hx;unfold ydV;rw[(gB hx).2.2.2.1];refine zS (aNj d.neg d.long d.dg d.ex d.mag w0 (sMs hy hx) (sMg hy he hx)) ?_;cases hn:d.neg
 . rw[hn]at e;rw[show d.yv=d.mag from e];rfl
 rw[hn]at e;rw[show d.yv= -d.mag from e,wr (by omega) (by omega),show(0:Int) - d.mag= -d.mag by omega];rfl
theorem aM9(hy:d.dg.size<=1000)(he:d.err=0)(hx:d.vO=true)(h3:d.da.size≠0):Same w0 110 #[dP d] (.int .i64 1):=by
 intro w hw;obtain⟨hf,_⟩:=iF he hx;obtain⟨m0,m1,e⟩:=aAQ he hx;have hpos:0<d.wC d.yv d.ms:=by
  have he':=he;unfold Dt.err at he';rw[aEg (by omega)]at he';by_cases c:d.da.size≠0/\ ¬ ∃y m k,d.Fill y m k
  . rw[aEo c]at he';cases he'
  obtain⟨y,m,k,f1,f2,f3⟩:=aOY fun g=>c ⟨h3,g⟩;have:y=d.yv:=by
   unfold Dt.In at f1;rw[aEg (by rw[(gB hx).1];decide)]at f1;rw[f1,e]
  exact aEO.2 ⟨m,k,f2,by rw[<-this];exact f3⟩
 obtain⟨N,hN⟩: ∃N,d.wC d.yv d.ms=N+1:=⟨d.wC d.yv d.ms - 1,by omega⟩;refine(aMd (n:=0)).1 ?_;refine fM (args:=[dP d]) (N:=30) func110 (show _=some sqC by kernel_rfl) ntmps110 (by simp) fun a h=>?_;rw[aVJ];refine aDs (aG [(none,some 1,.box 30 (.tmp 0)),kc 2 (.int .i64 0)] fun ops l hK hk=>?_);refine sV (v:=aYW w.heap.size 0) hk h (fun _ ho=>rJ (v:=dP d) ho (sT h) rfl) fun l a hk h=>?_;have A0:Al w (w.alloc (.cells (nK d).toArray 30)) w.heap.size 30 (nK d):=dN (nK d);change wpListIn _ _ _ _ _ _ _ (w.alloc (.cells (nK d).toArray 30));generalize w.alloc (.cells (nK d).toArray 30)=W0 at A0 ⊢;obtain⟨p,hp⟩: ∃p,p=w.heap.size:=⟨_,rfl⟩;rw[<-hp]at A0 h;have f:=A0.2.2.2.1;have b0:Below w.heap.size w W0:=⟨A0.2.2.2.2.1,A0.2.2.2.2.2.1,A0.2.2.2.2.2.2,(gV A0).1,(gV A0).2⟩;refine aC hk h fun l a hk h=>?_;refine s0 hk (aDs (aG [kf 7 30 1 0,kl 8 27 7,(none,some 9,.call ⟨.value (.func 157),#[(.tmp 8)],#[27]⟩),km 6 9,kx 10 6 0,kx 11 6 1,ka 3 10,ka 4 11] fun ops l hK hk=>?_));have ly: ∀W,dA W p 30 (nK d)->W.rangeAt p (0+0) [.bool d.neg,.bool d.long,.string d.dg,.int .i64 d.ex,.int .i64 d.sig]:=fun W f=>jF 0 (aO f) (pI (n:=5) rfl);refine sV (v:=aYW p (0+0)) hk h (fun _ ho=>aJ (b:=p) (o':=0) aCu ho (sT h)) fun l a hk h=>
 sV (v:=ydV d) hk h (fun _ ho=>bC (ly W0 f) underlying27 rfl (by kernel_rfl) ho (sT h)) fun l a hk h=>?_
 refine sc hk h rfl (by decide) (fun _ ho=>fU ho func157) (R:=fun e w'=>e=.returned (.tuple #[.int .i64 d.yv,.int .i64 d.yv])/\Below W0.heap.size W0 w') (by rw[aHe,sT h (v:=ydV d)];exact aVN (w0:=W0) hy he hx W0 (aDA _ _)) (fun e W1 hR=>⟨_,hR.1,fun l a hk h=>?_⟩);have f:=aT f (hR.2.block p (aS f));have b1:=aYR b0 (hR.2.mono (aC4 _));refine mV (v:=.tuple #[.int .i64 d.yv,.int .i64 d.yv]) hk h fun l a hk h=>
 sV (v:=.int .i64 d.yv) hk h (fun _ ho=>fQ (vs:= #[.int .i64 d.yv,.int .i64 d.yv]) rfl ho (sT h)) fun l a hk h=>
 sV (v:=.int .i64 d.yv) hk h (fun _ ho=>fQ (vs:= #[.int .i64 d.yv,.int .i64 d.yv]) rfl ho (sT h)) fun l a hk h=>
 aV (v:=.int .i64 d.yv) hk h fun l a hk h=>
 aV (v:=.int .i64 d.yv) hk h fun l a hk h=>?_
 refine s0 hk (aDs (aDs (aG [km 12 3,ka 5 12] fun ops l hK hk=>?_)));refine mV (v:=.int .i64 d.yv) hk h fun l a hk h=>
 aV (v:=.int .i64 d.yv) hk h fun l a hk h=>?_
 refine s0 hk (aLs (gQ (fun m a V=>V=W1/\Sl 30 [(1,aYW p 0),(4,.int .i64 d.yv),(5,.int .i64 d.yv)] a) ?_ (m:=0) ⟨rfl,aN h⟩));intro m a V ⟨hV,h⟩;subst hV;refine aDs (aDs (aG [km 13 5,km 14 4,(none,some 15,.binOp .leq 2 (.tmp 13) (.tmp 14) 2)] fun ops l hK hk=>?_));refine mV (v:=.int .i64 d.yv) hk h fun l a hk h=>
 mV (v:=.int .i64 d.yv) hk h fun l a hk h=>
 sV (v:=.bool true) hk h (fun _ ho=>aNf (q:=.i64) (aU2 d.yv) ho (sT h) (sT h)) fun l a hk h=>?_
 refine s0 hk (wpIn_cond_true (sT h) (aJt (aDs (aLs (aDs (aG [kf 18 30 1 0,kl 19 27 18,km 20 5,(none,some 21,.call ⟨.value (.func 158),#[(.tmp 19),(.tmp 20)],#[27,2]⟩),(none,some 22,.binOp .eql 3 (.tmp 21) (.const (.int .i64 1)) 3),km 23 22,kg 5 true (kl 24 30 1),kg 5 true (km 25 5),(some (5,true),some 26,.call ⟨.value (.func 159),#[(.tmp 24),(.tmp 25)],#[30,2]⟩),(some (5,true),some 27,.call ⟨.builtin .len,#[(.tmp 26)],#[232]⟩),(some (5,true),some 28,.binOp .gtr 3 (.tmp 27) (.const (.int .i64 0)) 3),(none,some 29,.pick (.tmp 23) (.tmp 28) (.const (.bool false)))] fun ops l hK hk=>?_))))));refine sV (v:=aYW p (0+0)) hk h (fun _ ho=>aJ (b:=p) (o':=0) aCu ho (sT h)) fun l a hk h=>
 sV (v:=ydV d) hk h (fun _ ho=>bC (ly V f) underlying27 rfl (by kernel_rfl) ho (sT h)) fun l a hk h=>
 mV (v:=.int .i64 d.yv) hk h fun l a hk h=>?_
 refine sc hk h rfl (by decide) (fun _ ho=>fU ho func158) (R:=fun e w'=>e=.returned (.int .i64 1)/\Below V.heap.size V w') (by rw[tJ,sT h (k:=19) (v:=ydV d),sT h (k:=20) (v:=.int .i64 d.yv)];exact aVS (w0:=V) hy he hx V (aDA _ _)) (fun e W2 hR=>⟨_,hR.1,fun l a hk h=>?_⟩);have f:=aT f (hR.2.block p (aS f));have b2:=aYR b1 (hR.2.mono (aC4 _));refine sV (v:=.bool true) hk h (fun _ ho=>aFz (q:=.i64) (m:=1) ho (sT h) rfl rfl) fun l a hk h=>
 mV (v:=.bool true) hk h fun l a hk h=>
 sG (v:=dP d) hK hk h 23 (fun _ ho=>bC (aO f) underlying30 rfl (by kernel_rfl) ho (sT h)) fun l a hk h=>
 mG (v:=.int .i64 d.yv) hK hk h 23 fun l a hk h=>?_
 refine scg hK hk h (d0:=23) rfl (by simp) rfl (by decide) (fun _ ho=>fU ho func159) (R:=fun e w'=> ∃bs cp,e=.returned (.slice bs (N+1) cp)/\Below W2.heap.size W2 w') (by
  rw[tJ,sT h (k:=24) (v:=dP d),sT h (k:=25) (v:=.int .i64 d.yv)];refine(aJC d d.yv W2 hf).mono fun e w' ⟨v,ev,hown,hb⟩=>?_;rw[hN]at hown;obtain⟨bs,cp,rfl⟩:=aDC hown;exact⟨bs,cp,ev,hb⟩) (fun e W3 ⟨bs,cp,ev,hb⟩=>⟨_,ev,fun l a hk h=>?_⟩)
 refine sG (v:=.int .i64 ((N+1:Nat):Int)) hK hk h 23 (fun _ ho=>lM (s:=bs) (c:=cp) (el:=163) (by kernel_rfl) ho (sT h)) fun l a hk h=>
 sG (v:=.bool true) hK hk h 23 (fun _ ho=>aRC (q:=.i64) (m:=((N+1:Nat):Int)) (m':=0) (by omega) ho (sT h) rfl) fun l a hk h=>
 sV (v:=.bool true) hk h (fun _ ho=>dR ho (sT h) (sT h)) fun l a hk h=>?_
 refine s0 hk (wpIn_cond_true (sT h) (aDs (aG [kc 2 (.int .i64 1)] fun ops l hK hk=>?_)));refine aC hk h fun l a hk h=>?_;refine s0 hk (aMu ?_);exact fF (R:=fun e w'=>e=.returned (.int .i64 1)/\Below w.heap.size w w') (i:=2) (v:=.int .i64 1) h results110 (by simp) ⟨rfl,aYR b2 (hb.mono (aC4 _))⟩
theorem aVQ(hy:d.dg.size<=1000)(s0: -9223372036854775808<=d.sig)(s1:d.sig<9223372036854775808)(m0:0<=d.m0)(m1:0<=d.m1)(m2:0<=d.m2)(he:d.err=0)(hx:d.vO=true):Same w0 64 #[dP d] (.int .i64 0):=by
 have HC:Same w0 109 #[dP d] (.int .i64 0):=fun w _=>by
  have:=GK d w hy s0 s1 m0 m1 m2;rw[(iF he hx).1]at this;exact this
 by_cases c:d.da.size=0
 . unfold dP at HC ⊢;rw[MS c]at HC ⊢;exact zS (WI d 0 w0 HC) rfl
 exact zS (aJD d w0 HC (aM9 hy he hx c)) (by cases(d.da.toList==(⟨#[]⟩:ByteArray).toList)<;>rfl)
theorem z0C:Same w0 64 #[dP z0] (.int .i64 z0.form):=zS (WI z0 _ w0 (fun w _=>GK z0 w (by decide) (by decide) (by decide) (by decide) (by decide) (by decide))) (by cases(z0.form==0)<;>rfl)
end
theorem z0D:ZU 30 (dP z0) (dP z0) true:=⟨fun w=>by kernel_rfl,fun w=>by kernel_rfl⟩
theorem z0B:ZU 32 (rE 0 z0) (rE 0 z0) true:=⟨fun w=>by kernel_rfl,fun w=>by kernel_rfl⟩
theorem z0S:Sm z0:=⟨by decide,by decide,by decide,by decide,by decide,by decide,by decide,by decide⟩
section
variable{w0:World}{d f t:Dt}{fk tk:Int}
theorem ck1(hst:SS w0)(h:Sm d)(he:d.err=0):Same w0 19 #[exV 1 d 0 z0 0 z0 (.slice none 0 0) false false] (.int .i64 0):=
 xCk d z0 z0 none 0 0 1 0 0 false false 0 0 w0 (zS (xF1 d z0 z0 none 0 0 0 0 false false 0 false w0 (aU8 d z0 z0 none 0 0 0 0 false false true true w0 z0B z0B) (by have:=sFC hst h;rw[he]at this;exact this)) rfl)
def zB(k:Int)(d:Dt):Prop:=(k=1/\d.err=0/\d.vO=true)\/((k=2\/k=3)/\d=z0)
theorem aRq(hst:SS w0)(h:Sm d){k:Int}(hb:zB k d):Same w0 99 #[rE k d] (.int .i64 0)/\Same w0 47 #[rE k d] (.int .i64 0):=by
 rcases hb with⟨rfl,e,x⟩|⟨hk,rfl⟩
 . obtain⟨Z,hZ⟩:=aCD d;have A:=aBJ d 1 _ _ Z w0 hZ (sFC hst h) (aRo hst h);have B:=VD d 1 _ _ Z w0 hZ (aVQ h.dg h.s0 h.s1 h.m0 h.m1 h.m2 e x) (aRk hst h);exact⟨zS A (by simp[jW,e,x]),zS B (by simp[jW,e,x])⟩
 have A:=aBJ z0 k _ _ true w0 z0D (sFC hst h) (aRo hst h);have B:=VD z0 k _ _ true w0 z0D z0C (aRk hst h);rcases hk with rfl|rfl
 . exact⟨zS A (by simp[jW]),zS B (by simp[jW])⟩
 exact⟨zS A (by simp[jW]),zS B (by simp[jW])⟩
def mQ(fk:Int)(f:Dt)(tk:Int)(t:Dt):Int:=if fk≠1/\tk≠1 then 11 else if fk=1/\tk=1/\t.hi<f.lo then 11 else 0
theorem aFk(hst:SS w0)(hf:Sm f)(ht:Sm t)(bf:zB fk f)(bt':zB tk t):Same w0 62 #[rE fk f,rE tk t] (.int .i64 (mQ fk f tk t))/\Same w0 25 #[rE fk f,rE tk t] (.int .i64 (mQ fk f tk t)):=by
 obtain⟨A,A'⟩:=aRq hst hf bf;obtain⟨B,B'⟩:=aRq hst ht bt';unfold mQ;by_cases k1:fk=1
 . subst k1;by_cases k2:tk=1
   . subst k2;obtain⟨_,fe,fx⟩:=bf.resolve_right (by omega);obtain⟨_,te,tx⟩:=bt'.resolve_right (by omega);have P:=aMM f t _ _ _ _ w0 A B (aBT hst hf fe fx) (aBT hst ht te tx);have P':=aI8 f t _ _ _ _ w0 A' B' (aAo hst hf fe fx) (aAo hst ht te tx);by_cases c:t.hi<f.lo
     . exact⟨zS P (by simp[jW,c,show ¬f.lo<t.hi by omega]),zS P' (by simp[jW,c])⟩
     refine⟨zS P ?_,zS P' (by simp[jW,c])⟩;by_cases c2:f.lo<t.hi<;>simp[jW,c,c2]
   have h2:2<=tk:=by rcases bt' with⟨c,_⟩|⟨c,_⟩<;>omega
   exact⟨zS (aML f t tk w0 h2 A B) (by simp[jW,k2]),zS (aI7 f t tk w0 h2 A' B') (by simp[jW,k2])⟩
 have h2:2<=fk:=by rcases bf with⟨c,_⟩|⟨c,_⟩<;>omega
 have P:=aMK f t fk tk w0 h2 A B;have P':=aI6 f t fk tk w0 h2 A' B';by_cases k2:tk=1
 . exact⟨zS P (by simp[jW,k1,k2]),zS P' (by simp[jW,k1,k2])⟩
 exact⟨zS P (by simp[jW,k1,k2]),zS P' (by simp[jW,k1,k2])⟩
theorem ck2(hst:SS w0)(hf:Sm f)(ht:Sm t)(bf:zB fk f)(bt':zB tk t)(hp:mQ fk f tk t=0):Same w0 19 #[exV 2 z0 fk f tk t (.slice none 0 0) false false] (.int .i64 0):=
 xCk z0 f t none 0 0 2 fk tk false false 0 0 w0 (zS (xF2 z0 f t none 0 0 fk tk false false 0 false w0 (aU7 z0 f t none 0 0 fk tk false false true w0 z0D) (by have:=(aFk hst hf ht bf bt').1;rw[hp]at this;exact this)) rfl)
def aIB(kd:Int)(x:lK):Prop:=x.1.err=0/\((x.2.1=false/\x.2.2=z0/\(kd=4->x.1.vO=true))\/(x.2.1=true/\RI x.1 x.2.2=true))
theorem aAB{f t:Dt}(h:RI f t=true):f.UY=true/\t.UY=true:=by
 unfold RI at h;simp only[aEb]at h;exact⟨h.1,h.2.1⟩
theorem aNa(hst:SS w0){x:lK}(hx:Sm x.1)(hy:Sm x.2.2){kd:Int}(hk:kd=3\/kd=4)(h:aIB kd x):Same w0 103 #[x.v,.int .u8 kd] (.int .i64 0):=by
 obtain⟨x,rg,y⟩:=x;obtain⟨e,h⟩:=h;simp only at e h hx hy;rcases h with⟨rfl,rfl,h4⟩|⟨rfl,ho⟩
 . have A:=aLy x z0 false kd _ _ _ _ true w0 z0D (sFC hst hx) (sFC hst hy) (aRm hst hx hy) (aRn hst hx);refine zS A ?_;rcases hk with rfl|rfl
   . simp[jW,e]
   simp[jW,e,h4 rfl]
 obtain⟨Z,hZ⟩:=aCD y;obtain⟨px,py⟩:=aAB ho;obtain⟨_,x0,_⟩:=x9 px;obtain⟨e2,_,_⟩:=x9 py;have A:=aLy x y true kd _ _ _ _ Z w0 hZ (sFC hst hx) (sFC hst hy) (aRm hst hx hy) (aRn hst hx);refine zS A ?_;rcases hk with rfl|rfl
 . simp[jW,e,e2,ho]
 simp[jW,e,e2,ho,x0]
structure G7(kd:Int)(ey lt:Bool)(L:List lK):Prop where
 n0:0<L.length
 n:L.length<=256
 s: ∀i,i<L.length->Sm (L.getD i bQ).1/\Sm (L.getD i bQ).2.2
 ok: ∀i,i<L.length->aIB kd (L.getD i bQ)
 he:ey=true->(L.getD 0 bQ).2.1=false/\(L.getD 0 bQ).1.UY=true
 hl:lt=true->(L.getD (L.length - 1) bQ).2.1=false/\(L.getD (L.length - 1) bQ).1.UY=true
 both:ey=true->lt=true->L.length≠1
theorem aTC{kd:Int}(h34:kd=3\/kd=4){ey lt:Bool}{L:List lK}(h:G7 kd ey lt L){bs:Option Addr}{cp:Nat}(IT:Same w0 63 #[exV kd z0 0 z0 0 z0 (.slice bs L.length cp) ey lt] (.tuple #[.int .i64 0,.int .i64 0])):
 Same w0 19 #[exV kd z0 0 z0 0 z0 (.slice bs L.length cp) ey lt] (.int .i64 0):=by
 obtain⟨n,hN⟩: ∃n,n=L.length:=⟨_,rfl⟩;have n0:=h.n0;have n1:=h.n;rw[<-hN]at IT n0 n1 ⊢;refine xCk z0 z0 z0 bs n cp kd 0 0 ey lt 0 0 w0 ?_;rcases h34 with rfl|rfl
 . refine zS (xF3 z0 z0 z0 bs n cp 0 0 ey lt 0 0 false w0 (aU6 z0 z0 z0 bs n cp 0 0 ey lt true true true w0 z0D z0B z0B) IT) ?_;simp[jW,show ¬n=0 by omega,show ¬(256:Int)<n by omega]
 refine zS (xF4 z0 z0 z0 bs n cp 0 0 ey lt 0 0 false w0 (aU5 z0 z0 z0 bs n cp 0 0 ey lt true true true w0 z0D z0B z0B) IT) ?_;simp[jW,show ¬n=0 by omega,show ¬(256:Int)<n by omega]
end
end
section
theorem aKL{d:Dt}(h:d.U7=true): ∃y,d.In y:=by
 unfold Dt.In;cases hm:d.mask
 . exact⟨_,rfl⟩
 obtain⟨h4,hx⟩:d.dg.size=4/\aYP dW d.dg=true:=by
  unfold Dt.U7 at h;cases hl:d.long
  . rw[hl]at h;obtain⟨a,b,_⟩:=kH h;exact⟨a,b⟩
  rw[hl]at h;have hd:=(kN h).2.2.1;have:=(lD (tZ hd)).2 hd;unfold Dt.mask at hm;rw[this]at hm;cases hm
 have g:=fun i hi=>NC hx i hi;have g0:=g 0 (by omega);have g1:=g 1 (by omega);have g2:=g 2 (by omega);have g3:=g 3 (by omega);obtain⟨j,hj,hj8⟩:=(wZ 88 d.dg).1 hm;have key: ∀x:Int,x=88\/(48<=x/\x<=57)-> ∃o:Int,0<=o/\o<=9/\(x=88\/x=48+o)/\(x=88->o=9):=fun x hx=>by
  by_cases c:x=88
  . exact⟨9,by omega,by omega,.inl c,fun _=>rfl⟩
  exact⟨x - 48,by omega,by omega,.inr (by omega),fun e=>absurd e c⟩
 obtain⟨a,a0,a1,a2,a3⟩:=key _ g0;obtain⟨b,b0,b1,b2,b3⟩:=key _ g1;obtain⟨c,c0,c1,c2,c3⟩:=key _ g2;obtain⟨e,e0,e1,e2,e3⟩:=key _ g3;have hM:vZ (fE d.dg) (1000 * a+100 * b+10 * c+e):=(pY _ _).2 ⟨a,b,c,e,a0,a1,b0,b1,c0,c1,e0,e1,rfl,a2,b2,c2,e2⟩;cases hn:d.neg
 . exact⟨_,by rw[aEo rfl,aEg (by decide)];exact hM⟩
 refine⟨-(1000 * a+100 * b+10 * c+e),?_⟩;rw[aEo rfl,aEo rfl,Int.neg_neg];refine⟨hM,?_⟩;have:j=0\/j=1\/j=2\/j=3:=by omega
 rcases this with rfl|rfl|rfl|rfl
 . have:=a3 hj8;omega
 . have:=b3 hj8;omega
 . have:=c3 hj8;omega
 have:=e3 hj8;omega
def moX(k:Nat):ByteArray:=if k=0 then⟨#[48,88]⟩else if k=1 then⟨#[49,88]⟩else if k=2 then⟨#[88,50]⟩else if k=3 then⟨#[88,88]⟩else if k=4 then⟨#[88,48]⟩else⟨#[88,57]⟩
def daX(k:Nat):ByteArray:=if k=0 then⟨#[48,88]⟩else if k=1 then⟨#[49,88]⟩else if k=2 then⟨#[50,88]⟩else if k=3 then⟨#[51,88]⟩else if k=4 then⟨#[88,48]⟩else if k=5 then⟨#[88,49]⟩else if k=6 then⟨#[88,88]⟩else⟨#[88,56]⟩
def jI(m:Nat):ByteArray:=if m=0 then⟨#[]⟩else if m<=12 then twoS m else if m<=33 then twoS (m+8)else moX (m - 34)
def aGO(m:Nat):Nat:=if m=2 then 28 else if m=4\/m=6\/m=9\/m=11\/m=39 then 30 else 31
def uF(m k:Nat):ByteArray:=if k=0 then⟨#[]⟩else if k<=31 then twoS (min k (aGO m))else if m=2/\k=35 then daX 2 else daX (k - 32)
def aBP(mo da:ByteArray):Bool:=(List.range 12).any fun n=>kF mo ((n:Int)+1)&&(List.range 31).any fun j=>kF da ((j:Int)+1)&&decide (j+1<=(if n+1=2 then 28 else if n+1=4\/n+1=6\/n+1=9\/n+1=11 then 30 else 31))
def aNM(m:Nat):Bool:=m==0||(decide ((jI m).size=2)&&(decide (dD (jI m)≠0)||fJ (jI m) 12))
def aOA(m k:Nat):Bool:=m==0||(k==0||(decide (dD (jI m)≠0)||(decide ((uF m k).size=2)&&(fJ (uF m k) 31&&aBP (jI m) (uF m k)))))
theorem aKx:((List.range 40).all fun m=>aNM m)=true:=by kernel_rfl
theorem aK7:((List.range 40).all fun m=>(List.range 40).all fun k=>aOA m k)=true:=by kernel_rfl
theorem aNL{m:Nat}(h:m<40):aNM m=true:=by
 have:=aKx;rw[aIJ]at this;exact this m (aMv.2 h)
theorem aOz{m k:Nat}(h:m<40)(hk:k<40):aOA m k=true:=by
 have:=aK7;rw[aIJ]at this;have:=this m (aMv.2 h);rw[aIJ]at this;exact this k (aMv.2 hk)
theorem wV{m:Nat}(h:m<40)(h0:m≠0):(jI m).size=2/\(dD (jI m)≠0\/fJ (jI m) 12=true):=by
 have:=aNL h;unfold aNM at this;simp only[aMi,aEb,aEZ,aI3]at this;rcases this with h|h
 . exact absurd h h0
 exact h
theorem UG{m k:Nat}(h:m<40)(hk:k<40)(h0:m≠0)(k0:k≠0)(hs:dD (jI m)=0):(uF m k).size=2/\fJ (uF m k) 31=true/\aBP (jI m) (uF m k)=true:=by
 have:=aOz h hk;unfold aOA at this;simp only[aMi,aEb,aEZ,aI3]at this;rcases this with h|h|h|h
 . exact absurd h h0
 . exact absurd h k0
 . exact absurd hs h
 exact h
theorem aDd{mo da:ByteArray}(h:aBP mo da=true): ∃n j:Int,1<=n/\n<=12/\kF mo n=true/\1<=j/\j<=31/\kF da j=true/\ ∀y,j<=aYT y n:=by
 unfold aBP at h;simp only[aUx,aMv,aEb,aEZ]at h;obtain⟨n,hn,ha,j,hj,hb,hl⟩:=h;refine⟨(n:Int)+1,(j:Int)+1,by omega,by omega,ha,by omega,by omega,hb,fun y=>?_⟩;unfold aYT lp
 (repeat' split at hl)<;>(repeat' split)<;>omega
def YO(n:Nat):UInt8:=UInt8.ofNat (48+n)
def iM(n:Nat):ByteArray:=⟨#[YO (n / 1000),YO (n / 100 % 10),YO (n / 10 % 10),YO (n % 10)]⟩
theorem UC{n:Nat}(h:n<=9):(YO n).toNat=48+n:=by unfold YO;rw[aPs];omega
def ED(neg long:Bool)(s:ByteArray)(ex sig:Int):Prop:=zH neg long s ex sig=true/\(hasB 88 s=false->jJ s ex≠10000000000000000)/\0<=sig/\sig<=100/\0<=ex/\ex<=16/\s.size<=5
def ZM(neg long:Bool)(s:ByteArray)(ex sig:Int):Prop:=ED neg long s ex sig\/(zH neg long s ex sig=false/\ED false long s ex sig)
theorem aA7(n:Nat):(iM n).size=4:=rfl
theorem tY{n:Nat}(h:n<10000):aYP bY (iM n)=true:=by
 show([YO (n / 1000),YO (n / 100 % 10),YO (n / 10 % 10),YO (n % 10)].all fun b=>bY (b.toNat:Int))=true;have e: ∀k,k<=9->bY ((YO k).toNat:Int)=true:=fun k hk=>by rw[UC hk];unfold bY;exact aDx (by omega)
 simp only[aO7,aXY,aTY,aEb];exact⟨e _ (by omega),e _ (by omega),e _ (by omega),e _ (by omega)⟩
theorem A8{neg:Bool}{s:ByteArray}{sig:Int}(h4:s.size=4)(hx:aYP dW s=true)(hn:neg=true->aYP U0 s=false)(hs:sig≠0->hasB 88 s=false)(s0:0<=sig)(s1:sig<=4):ED neg false s 0 sig:=by
 refine⟨?_,fun h8=>?_,s0,by omega,by omega,by omega,by omega⟩
 . unfold zH iT;rw[aDx h4,hx];have e1:(neg&&aYP U0 s)=false:=by cases neg;rfl;rw[hn rfl];rfl
   have e2:(!decide (sig=0)&&hasB 88 s)=false:=by
    by_cases c:sig=0
    . rw[aDx c];rfl
    rw[hs c,aPe]
   rw[e1,e2,aDx s0,aDx (show sig<=(s.size:Int)+0 by omega)]
   rfl
 have hd:=(lD hx).1 h8;have:=uD hd h4;unfold jJ;unfold p10;simp;omega
theorem LH{n:Nat}(hn:n<10000)(neg:Bool){sig:Int}(s0:0<=sig)(s1:sig<=4):ZM neg false (iM n) 0 sig:=by
 have hd:=tY hn;have hx:=tZ hd;have h8:=(lD hx).2 hd;by_cases c:neg=true/\aYP U0 (iM n)=true
 . refine .inr ⟨?_,A8 rfl hx (fun h=>by cases h) (fun _=>h8) s0 s1⟩;unfold zH iT;rw[c.1,c.2,hx];simp
 exact .inl (A8 rfl hx (fun h=>by cases e:aYP U0 (iM n);rfl;exact absurd ⟨h,e⟩ c) (fun _=>h8) s0 s1)
def xS(s:ByteArray)(a b:Int):Nat->ByteArray
 |0=>⟨#[]⟩
 |i+1=>xS s a b i++(if(i:Int)=a\/(i:Int)=b then⟨#[88]⟩else s.extract i (i+1))
theorem xP(s:ByteArray)(a b:Int)(i:Nat):xS s a b (i+1)=xS s a b i++(if(i:Int)=a\/(i:Int)=b then⟨#[88]⟩else s.extract i (i+1)):=rfl
theorem aEQ{s:ByteArray}(h4:s.size=4)(hd:aYP bY s=true){a b:Int}(a0:0<=a)(a1:a<4):(xS s a b 4).size=4/\aYP dW (xS s a b 4)=true/\hasB 88 (xS s a b 4)=true:=by
 have hl:s.data.toList.length=4:=by simpa using h4
 match e:s.data.toList,hl with
 | [x0,x1,x2,x3],_=>
  have hs:s=⟨#[x0,x1,x2,x3]⟩:=FT e;have hx:=hd;unfold aYP at hx;rw[e]at hx;simp only[aO7,aXY,aTY,aEb]at hx;obtain⟨y0,y1,y2,y3⟩:=hx;have dx: ∀z:Int,bY z=true->dW z=true:=fun z h=>by unfold bY at h;unfold dW;rw[h];rfl
  have t0:s.extract 0 1=⟨#[x0]⟩:=by rw[hs];rfl
  have t1:s.extract 1 2=⟨#[x1]⟩:=by rw[hs];rfl
  have t2:s.extract 2 3=⟨#[x2]⟩:=by rw[hs];rfl
  have t3:s.extract 3 4=⟨#[x3]⟩:=by rw[hs];rfl
  have key: ∀(i:Nat) (t:ByteArray) (x:UInt8),t=⟨#[x]⟩->bY (x.toNat:Int)=true-> ∃z:UInt8,(if(i:Int)=a\/(i:Int)=b then(⟨#[88]⟩:ByteArray)else t)=⟨#[z]⟩/\dW (z.toNat:Int)=true/\((i:Int)=a->z=88):=fun i t x ht hx=>by
   split
   . exact⟨88,rfl,rfl,fun _=>rfl⟩
   rename_i h;exact⟨x,ht,dx _ hx,fun c=>absurd (.inl c) h⟩
  obtain⟨z0,e0,d0,w0⟩:=key 0 _ x0 t0 y0;obtain⟨z1,e1,d1,w1⟩:=key 1 _ x1 t1 y1;obtain⟨z2,e2,d2,w2⟩:=key 2 _ x2 t2 y2;obtain⟨z3,e3,d3,w3⟩:=key 3 _ x3 t3 y3;have hE:xS s a b 4=⟨#[z0,z1,z2,z3]⟩:=by
   rw[xP,xP,xP,xP];rw[e0,e1,e2,e3];exact FT (by simp[xS])
  rw[hE];refine⟨rfl,?_,?_⟩
  . show([z0,z1,z2,z3].all fun b=>dW (b.toNat:Int))=true;simp only[aO7,aXY,aTY,aEb];exact⟨d0,d1,d2,d3⟩
  show([z0,z1,z2,z3].any fun b=>decide ((b.toNat:Int)=88))=true;simp only[aXL,List.any_nil,aUz,aMi,aEZ];have:a=0\/a=1\/a=2\/a=3:=by omega
  rcases this with h|h|h|h
  . exact .inl (by rw[w0 (by omega)];rfl)
  . exact .inr (.inl (by rw[w1 (by omega)];rfl))
  . exact .inr (.inr (.inl (by rw[w2 (by omega)];rfl)))
  exact .inr (.inr (.inr (by rw[w3 (by omega)];rfl)))
theorem aNH{n:Nat}(hn:n<10000)(neg:Bool){a b:Int}(a0:0<=a)(a1:a<4):ZM neg false (xS (iM n) a b 4) 0 0:=by
 obtain⟨h4,hx,h8⟩:=aEQ (s:=iM n) rfl (tY hn) (b:=b) a0 a1;refine .inl (A8 h4 hx (fun _=>?_) (fun h=>absurd rfl h) (by omega) (by omega));cases e:aYP U0 (xS (iM n) a b 4)
 . rfl
 obtain⟨j,hj,hj8⟩:=(wZ 88 _).1 h8;have:=(kU U0 _).1 e j hj;rw[hj8]at this;cases this
def zU(n z:Nat):ByteArray:=⟨#[YO (z % 9+1)]⟩++iM n
theorem aD6{n:Nat}(hn:n<10000)(z:Nat):aYP bY (zU n z)=true:=by
 have h2:=tY hn;have e: ∀k,k<=9->bY ((YO k).toNat:Int)=true:=fun k hk=>by rw[UC hk];unfold bY;exact aDx (by omega)
 unfold aYP at h2 ⊢;unfold zU;rw[aYF,aPc,List.all_append,h2,aTY];show([YO (z % 9+1)].all fun b=>bY (b.toNat:Int))=true;simp only[aO7,aXY,aTY];exact e _ (by omega)
theorem aDW(neg:Bool){s t:ByteArray}{n z k:Nat}{ex sig:Int}(hn:n<10000)(hs:s=zU n z)(ht:t=s.extract 0 k)(k0:1<=k)(k1:k<=5)(e0:0<=ex)(e1:ex<=11)(hk:ex=0->k=5)(s0:0<=sig)(s1:sig<=k+ex):ZM neg true t ex sig:=by
 have hd:=aD6 hn z;have hsz:s.size=5:=by rw[hs];rfl
 have htz:t.size=k:=by rw[ht,aVE,hsz];omega
 have hb: ∀i,i<k->fE t i=fE s i:=fun i hi=>by
  rw[dJ t i (by omega),dJ s i (by omega)];subst ht;rw[ByteArray.getElem_extract];simp
 have hdt:aYP bY t=true:=by
  rw[kU];intro i hi;rw[hb i (by omega)];rw[<-hs]at hd;exact(kU bY s).1 hd i (by omega)
 have hb0:fE t 0≠48:=by
  rw[hb 0 (by omega),hs];show((YO (z % 9+1)).toNat:Int)≠48;rw[UC (by omega)];omega
 have hm1:bJ t<100000:=by
  have:=dec_lt t.data.toList 0 0 (yU hdt) (by decide);rw[aHG]at this;have htl:t.data.toList.length=t.size:=by simp
  have hp:(10:Nat) ^ t.data.toList.length<=10 ^ 5:=aPB (by omega) (by omega);have hp2:(10:Nat) ^ 5=100000:=by decide
  unfold bJ;omega
 have hm0:=DY t;have hp:p10 ex.toNat<=100000000000/\1<=p10 ex.toNat:=by
  have:ex.toNat<=11:=by omega
  refine⟨?_,RH _⟩;unfold p10;have h1:(10:Nat) ^ ex.toNat<=10 ^ 11:=aPB (by omega) this;have h3:(10:Nat) ^ 11=100000000000:=by decide
  have e:((10:Int) ^ ex.toNat)=((10 ^ ex.toNat:Nat):Int):=by simp
  rw[e];omega
 have hm:jJ t ex<10000000000000000:=by
  unfold jJ;have:bJ t * p10 ex.toNat<=99999 * 100000000000:=Int.mul_le_mul (by omega) hp.1 (by omega) (by omega);omega
 refine .inl ⟨?_,fun _=>by omega,s0,by omega,e0,by omega,by omega⟩;unfold zH iO;simp only[aUj,aEb,aEZ,aTL,aUt,aFe];rw[htz];refine⟨⟨by omega,by omega,hdt,hb0,e0,by omega,?_,by omega⟩,s0,by omega⟩;by_cases c:ex=0
 . right;have:=hk c;omega
 exact .inl c
theorem aKE{d:Dt}(hy:ED d.neg d.long d.dg d.ex d.sig)(hsm:0<d.sig->d.mo.size=0){m k:Nat}(hm:m<40)(hk:k<40)(hmo:d.mo=jI m\/d.mo.size=0)(hda:d.da.size=0\/(d.mo=jI m/\m≠0/\k≠0/\d.aH=0/\d.da=uF m k))(hma:jR d.m0 d.m1 d.m2 (comps d.mo d.da)=0):
 d.err=0/\ ∃y m k,d.Fill y m k:=by
 obtain⟨h1,h2,h3,h4,h5,h6,h7⟩:=hy;have hmz:d.mo.size=0\/(d.aH≠0\/fJ d.mo 12=true):=by
  rcases hmo with h|h
  . by_cases c:m=0
    . left;rw[h,c];rfl
    right;have:=(wV hm c).2;unfold Dt.aH;rw[h];exact this
  exact .inl h
 have aOb:d.far=false:=by
  unfold Dt.far;cases e:d.mask
  . have:decide (d.mag=10000000000000000)=false:=aBW (h2 e);rw[this];simp
  simp
 have hyo:d.mF=true:=by
  unfold Dt.mF;have e:(decide (0<d.sig)&& !decide (d.mo.size=0))=false:=by
   by_cases c:0<d.sig
   . rw[aDx (hsm c)];simp
   rw[aBW c];rfl
  rw[aOb,e,show d.U7=true from h1];rfl
 have hf:d.form=0:=by
  unfold Dt.form;rw [hyo,aEg (by decide),aEg (by
   rcases hmz with h|h|h
   . rw[aDx h];simp
   . rw[aBW h];simp
   . rw[h];simp),aEg (by
   rcases hda with h|⟨e1,e2,e3,e4,e5⟩
   . rw[aDx h];simp
   have hs:=(wV hm e2).1;have:dD (jI m)=0:=by rw[<-e1];exact e4
   have hh:=UG hm hk e2 e3 this;rw[e5,e1,aBW (show ¬(jI m).size=0 by omega),aDx e4,hh.2.1];simp)]
  exact hma
 have hfil : ∃y m k,d.Fill y m k:=by
  obtain⟨y,hy⟩:=aKL (d:=d) h1;rcases hda with h|⟨e1,e2,e3,e4,e5⟩
  . have : ∃n,n ∈ d.ms:=by
     unfold Dt.ms;split
     . exact⟨_,aIC ..⟩
     rename_i hz;split
     . exact⟨_,aIC ..⟩
     rename_i hz2;have hz0:d.aH=0:=by omega
     rcases hmz with g|g|g
     . exact absurd g hz2
     . exact absurd hz0 g
     rw[MO]at g;cases e:fO d.mo 12 with
     |nil=>exact absurd e g
     |cons x l=>exact⟨x,aIC ..⟩
    obtain⟨n,hn⟩:=this;refine⟨y,n,0,hy,hn,?_,?_⟩
    . unfold Dt.ds;rw[aEo h];exact aIC ..
    unfold Dt.len;rw[aEo h];omega
  have:dD (jI m)=0:=by rw[<-e1];exact e4
  have hh:=UG hm hk e2 e3 this;have hs:=(wV hm e2).1;obtain⟨n,j,n0,n1,na,j0,j1,ja,hl⟩:=aDd hh.2.2;refine⟨y,n,j,hy,?_,?_,?_⟩
  . unfold Dt.ms;rw[aEg (by omega),aEg (by rw[e1];omega),iY];exact⟨n0,by omega,by rw[e1];exact na⟩
  . unfold Dt.ds;rw[aEg (by rw[e5];omega),iY];exact⟨j0,by omega,by rw[e5];exact ja⟩
  unfold Dt.len;split
  . rename_i hz;rw[e5]at hz;omega
  exact hl y
 refine⟨?_,hfil⟩;unfold Dt.err;rw[hf,aEg (by decide),aEg (fun h=>h.2 hfil)]
end
end
end Go.Proofs.YtebgcnnhokclaaaGreatDoor
