import Derived.Test.YtebgcnnhokclaaaGreatDoorP2
import Derived.Test.YtebgcnnhokclaaaGreatDoorP3
import Derived.Test.YtebgcnnhokclaaaGreatDoorP4
import Derived.ChangeKeysEq
import Derived.Deep.LoopGhost
import Derived.Maps.AppendAt
set_option linter.unusedVariables false
set_option linter.unusedSimpArgs false
set_option linter.unusedSectionVars false
set_option maxRecDepth 1000000
set_option maxHeartbeats 8000000
namespace Go.Proofs.YtebgcnnhokclaaaGreatDoor
abbrev aOx:=@Go.World.cell?_of_block
abbrev aQY:=@Go.Great.wpList_readTo
abbrev aXo:=@Nat.le_add_right
abbrev a0N:=@Go.Great.wpList_allocTo
abbrev a0X:=@Nat.not_lt_zero
abbrev a1h:=@cond_true
abbrev a1Y:=@Classical.axiomOfChoice
section
open Go.RowKit Go.Lib
namespace Sk
open Bk (Dt eP hasB bH QD bF yVal DF DI bQ dW gU allB bM NG jA jH aGa)
open Cal (st oI len)
theorem wr{n:Int}(h0: -9223372036854775808<=n)(h1:n<9223372036854775808):IntKind.i64.wrap n=n:=by rw[aVL];omega
def J4(y m:Int):Int:=if m<=12 then st y+oI y m else st (y+1)+oI (y+1) (m - 12)
theorem aHp(y:Int):J4 y 13=st y+oI y 13:=by
 unfold J4;rw[aFv (by omega),show(13:Int) - 12=1 by omega,Cal.UA,Cal.st_succ,Cal.aIy];omega
theorem aBe{y m:Int}(h0: -10000000000000000<=y)(h1:y<=10000000000000000)(m0:1<=m)(m1:m<=24): -4000000000000001000<=J4 y m/\J4 y m<=4000000000000001000:=by
 unfold J4;have a:=I4 (y:=y) (by omega) (by omega);have b:=I4 (y:=y+1) (by omega) (by omega)
 split
 . have:=@Cal.EI y m m0 (by omega);omega
 have:=@Cal.EI (y+1) (m - 12) (by omega) (by omega);omega
theorem aKp{w0:World}{y m:Int}(h0: -10000000000000000<=y)(h1:y<=10000000000000000)(m0:1<=m)(m1:m<=24):Same w0 74 #[.int .i64 y,.int .i64 m] (.int .i64 (J4 y m)):=by
 unfold J4
 split
 . exact eS fun w=>BD y m w (by omega) (by omega) m0 (by omega)
 exact eS fun w=>NT y m w (by omega) (by omega) (by omega) m1
theorem aXx{w0:World}{c:Int}(c0:21<=c)(c1:c<=41):Same w0 73 #[.int .i64 c] (.tuple #[.int .i64 (bQ c),.int .i64 (dW c)]):=zS (aNw c w0) (by
 have hz:c=21\/c=22\/c=23\/c=24\/c=25\/c=26\/c=27\/c=28\/c=29\/c=30\/c=31\/c=32\/c=33\/c=34\/c=35\/c=36\/c=37\/c=38\/c=39\/c=40\/c=41:=by omega
 rcases hz with rfl|rfl|rfl|rfl|rfl|rfl|rfl|rfl|rfl|rfl|rfl|rfl|rfl|rfl|rfl|rfl|rfl|rfl|rfl|rfl|rfl<;>rfl)
theorem aPD(y c:Int):st (gU y c)+oI (gU y c) (Bk.ZY c+1)=J4 y (bQ c+dW c):=by
 have hb:=aGa c
 by_cases e:bQ c+dW c=13
 . rw[e,aHp];unfold gU Bk.ZY;rw[e,aFw (by omega),aFw (by omega)];rfl
 unfold gU Bk.ZY J4
 by_cases g:bQ c+dW c<=12
 . rw[aFw (by omega),aFw (by omega),aFw g,show bQ c+dW c - 1+1=bQ c+dW c by omega]
 rw[aFv (by omega),aFv (by omega),aFv g,show bQ c+dW c - 13+1=bQ c+dW c - 12 by omega]
theorem yr{w0:World}{y:Int}(h0: -10000000000000001<=y)(h1:y<=10000000000000001):Same w0 72 #[.int .i64 y] (.int .i64 (st y)):=eS fun w=>E8 y w h0 h1
theorem QU{w0:World}(hst:SS w0){d:Dt}(h:Sm d)(he:d.err=0)(hx:d.xG=true):Same w0 48 #[eP d] (.tuple #[.int .i64 d.lo,.int .i64 d.hi]):=by
 obtain⟨_,hk,y0,y1,hc⟩:=jA he hx;have hm:=(jH hx).1;have HM:Same w0 71 #[.string d.dg,.int .i64 d.ex] (.tuple #[.int .i64 d.mag,.int .i64 1]):=eS (Bk.QZ h.dg hk hm);have HS:=aSB hst h;have md:=aHt he hx;have dd:=aIu he hx;have mb:0<=d.mag:=Bk.lK d.dg d.ex;have yP:d.neg=false->d.yv=d.mag:=fun e=>by unfold Dt.yv yVal;rw[e];rfl
 have yN:d.neg=true->d.yv= -d.mag:=fun e=>by unfold Dt.yv yVal;rw[e];rfl
 have b0:=I4 (y:=d.yv) (by omega) (by omega);have b1:=I4 (y:=d.yv+1) (by omega) (by omega);have hy1:IntKind.i64.wrap (d.yv+1)=d.yv+1:=wr (by omega) (by omega);have HY:=yr (w0:=w0) (y:=d.yv) (by omega) (by omega);have HZ:Same w0 72 #[.int .i64 (IntKind.i64.wrap (d.yv+1))] (.int .i64 (st (d.yv+1))):=by rw[hy1];exact yr (by omega) (by omega)
 unfold Dt.lo Dt.hi DF DI;rcases hc with⟨a,b,e⟩|⟨a,b,e,e2,c1,c2,sy⟩|⟨a,b,m0,m1,hd⟩
 . rw[aLD a,aFw rfl,aFw rfl];have em:=aEL a;have e1:IntKind.i64.wrap (st (d.yv+1) - 1)=st (d.yv+1) - 1:=wr (by omega) (by omega)
   cases hn:d.neg
   . have ey:=yP hn;rw[ey]at HY HZ e1 ⊢;generalize d.mag=v at *;obtain⟨ng,lg,dg,ex,sig,mo,da,q0,q1,q2⟩:=d;simp only at em hn;subst em;subst hn;exact zS (aFJ ⟨false,lg,dg,ex,sig,⟨#[]⟩,da,q0,q1,q2⟩ _ _ _ _ _ w0 HM HS HY HZ) (by rw[e1])
   have ey:IntKind.i64.wrap (0 - d.mag)=d.yv:=by have yn:=yN hn;rw[wr (by omega) (by omega),yn];omega
   generalize d.yv=y at *;subst ey;generalize d.mag=v at *;obtain⟨ng,lg,dg,ex,sig,mo,da,q0,q1,q2⟩:=d;simp only at em hn;subst em;subst hn;exact zS (aFK ⟨true,lg,dg,ex,sig,⟨#[]⟩,da,q0,q1,q2⟩ _ _ _ _ _ w0 HM HS HY HZ) (by rw[e1])
 . rw[e2,aFv (by omega),aFw (by omega),aFv (by omega),aFw (by omega),aPD];have hb:=aGa d.aG;have H4:=aXx (w0:=w0) c1 c2;have H5:=aKp (w0:=w0) y0 y1 (show 1<=bQ d.aG by omega) (by omega);have H6:=aKp (w0:=w0) y0 y1 (show 1<=bQ d.aG+dW d.aG by omega) (by omega);have gb:=aBe y0 y1 (show 1<=bQ d.aG+dW d.aG by omega) (by omega);have e1:IntKind.i64.wrap (J4 d.yv (bQ d.aG+dW d.aG) - 1)=J4 d.yv (bQ d.aG+dW d.aG) - 1:=wr (by omega) (by omega);rw[show bQ d.aG+dW d.aG=IntKind.i64.wrap (bQ d.aG+dW d.aG)from(wr (by omega) (by omega)).symm]at H6;rw[show J4 d.yv (bQ d.aG)=st d.yv+oI d.yv (bQ d.aG) by unfold J4;rw[aFw (by omega)]]at H5;rw[wr (n:=bQ d.aG+dW d.aG) (by omega) (by omega)]at H6;rw[<-wr (n:=bQ d.aG+dW d.aG) (by omega) (by omega)]at H6;have nz:(d.mo.toList==(⟨#[]⟩:ByteArray).toList)=false:=by rw[NG,aEm (by omega)]
   have pz:decide (0<d.aG)=true:=aEy (by omega);generalize bQ d.aG=f at *;generalize dW d.aG=n at *;generalize d.aG=sc at *;have e3:IntKind.i64.wrap (f+n)=f+n:=wr (by omega) (by omega)
   cases hn:d.neg
   . have ey:=yP hn;rw[ey]at HY HZ H5 H6 e1 ⊢;generalize d.mag=v at *;obtain⟨ng,lg,dg,ex,sig,mo,da,q0,q1,q2⟩:=d;simp only at hn nz;subst hn;exact zS (aFL ⟨false,lg,dg,ex,sig,mo,da,q0,q1,q2⟩ _ _ _ _ _ _ _ _ _ w0 (by omega) HM HS HY HZ H4 H5 (by rw[e3]at *;exact H6)) (by simp only[nz,pz,aYe,a1h];rw[e1])
   have ey:IntKind.i64.wrap (0 - d.mag)=d.yv:=by have yn:=yN hn;rw[wr (by omega) (by omega),yn];omega
   generalize d.yv=y at *;subst ey;generalize d.mag=v at *;obtain⟨ng,lg,dg,ex,sig,mo,da,q0,q1,q2⟩:=d;simp only at hn nz;subst hn;exact zS (aFM ⟨true,lg,dg,ex,sig,mo,da,q0,q1,q2⟩ _ _ _ _ _ _ _ _ _ w0 (by omega) HM HS HY HZ H4 H5 (by rw[e3]at *;exact H6)) (by simp only[nz,pz,aYe,a1h];rw[e1])
 have H4:Same w0 75 #[.string d.mo] (.int .i64 (bF d.mo)):=fun w _=>JR d.mo w a md;have H5:=aKp (w0:=w0) y0 y1 m0 (show bF d.mo<=24 by omega);have H6:=aKp (w0:=w0) y0 y1 (show 1<=bF d.mo+1 by omega) (by omega);have gb:=aBe y0 y1 (show 1<=bF d.mo+1 by omega) (by omega);have gc:=aBe y0 y1 m0 (show bF d.mo<=24 by omega);have e1:IntKind.i64.wrap (J4 d.yv (bF d.mo+1) - 1)=J4 d.yv (bF d.mo+1) - 1:=wr (by omega) (by omega);have f1:st d.yv+oI d.yv (bF d.mo)=J4 d.yv (bF d.mo):=by unfold J4;rw[aFw (by omega)]
 have f2:st d.yv+oI d.yv (bF d.mo+1)=J4 d.yv (bF d.mo+1):=by
  by_cases g:bF d.mo=12
  . rw[g,show(12:Int)+1=13 by omega,aHp]
  unfold J4;rw[aFw (by omega)]
 have nz:(d.mo.toList==(⟨#[]⟩:ByteArray).toList)=false:=by rw[NG,aEm (by omega)]
 have pz:decide (0<d.aG)=false:=aEm (by omega);have cz:d.aG<=0:=by omega
 have e3:IntKind.i64.wrap (bF d.mo+1)=bF d.mo+1:=wr (by omega) (by omega);rw[<-e3]at H6;simp only[aFv (show ¬bF d.mo=0 by omega),aFv (show ¬ 12<bF d.mo by omega),f1,f2];rcases hd with e|⟨e,k0,k1⟩
 . rw[aLD e,aFw rfl,aFw rfl];have ed:=aEL e;clear f1 f2;generalize bF d.mo=n at *;generalize d.aG=sc at *
   cases hn:d.neg
   . have ey:=yP hn;rw[ey]at HY HZ H5 H6 e1 ⊢;generalize d.mag=v at *;obtain⟨ng,lg,dg,ex,sig,mo,da,q0,q1,q2⟩:=d;simp only at hn nz ed;subst hn;subst ed;exact zS (aFN ⟨false,lg,dg,ex,sig,mo,⟨#[]⟩,q0,q1,q2⟩ _ _ _ _ _ _ _ _ w0 cz HM HS HY HZ H4 H5 H6) (by simp only[nz,pz,aYe,a1h,e3];rw[e1])
   have ey:IntKind.i64.wrap (0 - d.mag)=d.yv:=by have yn:=yN hn;rw[wr (by omega) (by omega),yn];omega
   generalize d.yv=y at *;subst ey;generalize d.mag=v at *;obtain⟨ng,lg,dg,ex,sig,mo,da,q0,q1,q2⟩:=d;simp only at hn nz ed;subst hn;subst ed;exact zS (aFO ⟨true,lg,dg,ex,sig,mo,⟨#[]⟩,q0,q1,q2⟩ _ _ _ _ _ _ _ _ w0 cz HM HS HY HZ H4 H5 H6) (by simp only[nz,pz,aYe,a1h,e3];rw[e1])
 have H7:Same w0 75 #[.string d.da] (.int .i64 (bF d.da)):=fun w _=>JR d.da w e dd;rw[aFv (by omega),aFv (by omega)];have lb:=Cal.vZ d.yv (bF d.mo);have dz:(d.da.toList==(⟨#[]⟩:ByteArray).toList)=false:=by rw[NG,aEm (by omega)]
 have k2:bF d.da<=31:=by omega
 clear f1 f2 k1 lb;generalize bF d.mo=n at *;generalize bF d.da=k at *;generalize d.aG=sc at *;have e4:IntKind.i64.wrap (J4 d.yv n+k)=J4 d.yv n+k:=wr (by omega) (by omega);have e5:IntKind.i64.wrap (J4 d.yv n+k - 1)=J4 d.yv n+k - 1:=wr (by omega) (by omega)
 cases hn:d.neg
 . have ey:=yP hn;rw[ey]at HY HZ H5 H6 e4 e5 ⊢;generalize d.mag=v at *;obtain⟨ng,lg,dg,ex,sig,mo,da,q0,q1,q2⟩:=d;simp only at hn nz dz;subst hn;exact zS (aFP ⟨false,lg,dg,ex,sig,mo,da,q0,q1,q2⟩ _ _ _ _ _ _ _ _ _ w0 cz HM HS HY HZ H4 H5 H6 H7) (by simp only[nz,pz,dz,aYe,a1h,e4,e5])
 have ey:IntKind.i64.wrap (0 - d.mag)=d.yv:=by have yn:=yN hn;rw[wr (by omega) (by omega),yn];omega
 generalize d.yv=y at *;subst ey;generalize d.mag=v at *;obtain⟨ng,lg,dg,ex,sig,mo,da,q0,q1,q2⟩:=d;simp only at hn nz dz;subst hn;exact zS (aFQ ⟨true,lg,dg,ex,sig,mo,da,q0,q1,q2⟩ _ _ _ _ _ _ _ _ _ w0 cz HM HS HY HZ H4 H5 H6 H7) (by simp only[nz,pz,dz,aYe,a1h,e4,e5])
end Sk
end
section
open Go.RowKit Go.Lib
namespace Sk
open Ev (jK DT LG rH fA hp tb0 aN iD aBn KH aBm l_b l_s iI aX AV IC xM dS aJ aS bT zC)
open Bk (Dt eP cvv)
def xG:Value:=.agg #[(.int .u8 0),(.bool false),(.bool false),(.string ⟨#[]⟩),(.int .i64 0),(.int .i64 0),(.string ⟨#[]⟩),(.string ⟨#[]⟩),(.int .u8 0),(.int .u8 0),(.int .u8 0),(.int .u8 0),(.bool false),(.bool false),(.string ⟨#[]⟩),(.int .i64 0),(.int .i64 0),(.string ⟨#[]⟩),(.string ⟨#[]⟩),(.int .u8 0),(.int .u8 0),(.int .u8 0),(.int .u8 0),(.bool false),(.bool false),(.string ⟨#[]⟩),(.int .i64 0),(.int .i64 0),(.string ⟨#[]⟩),(.string ⟨#[]⟩),(.int .u8 0),(.int .u8 0),(.int .u8 0),(.slice none 0 0),(.bool false),(.bool false)]
def yq0:AV:=.dG [(.v (.int .u8 0)),(.v (.int .i64 9))]
def FZ:List AV:=[(qu 0),(qb 1),(qb 2),(qs 3),(qi 4),(qi 5),(qs 6),(qs 7),(qu 8),(qu 9),(qu 10),(qu 11),(qb 12),(qb 13),(qs 14),(qi 15),(qi 16),(qs 17),(qs 18),(qu 19),(qu 20),(qu 21),(qu 22),(qb 23),(qb 24),(qs 25),(qi 26),(qi 27),(qs 28),(qs 29),(qu 30),(qu 31),(qu 32),(iI 33),(qb 34),(qb 35)]
def yq2:List AV:=[.v (.int .u8 0),qf,qf,.v (.string ⟨#[]⟩),qz,qz,.v (.string ⟨#[]⟩),.v (.string ⟨#[]⟩),.v (.int .u8 0),.v (.int .u8 0),.v (.int .u8 0),.v (.int .u8 0),qf,qf,.v (.string ⟨#[]⟩),qz,qz,.v (.string ⟨#[]⟩),.v (.string ⟨#[]⟩),.v (.int .u8 0),.v (.int .u8 0),.v (.int .u8 0),.v (.int .u8 0),qf,qf,.v (.string ⟨#[]⟩),qz,qz,.v (.string ⟨#[]⟩),.v (.string ⟨#[]⟩),.v (.int .u8 0),.v (.int .u8 0),.v (.int .u8 0),.v (.slice none 0 0),qf,qf]
def yq3:List AV:=[(.v (.int .u8 0)),qf,qf,(.v (.string ⟨#[]⟩)),qz,qz,(.v (.string ⟨#[]⟩)),(.v (.string ⟨#[]⟩)),(.v (.int .u8 0)),(.v (.int .u8 0)),(.v (.int .u8 0)),(.v (.int .u8 0)),qf,qf,(.v (.string ⟨#[]⟩)),qz,qz,(.v (.string ⟨#[]⟩)),(.v (.string ⟨#[]⟩)),(.v (.int .u8 0)),(.v (.int .u8 0)),(.v (.int .u8 0)),(.v (.int .u8 0)),qf,qf,(.v (.string ⟨#[]⟩)),qz,qz,(.v (.string ⟨#[]⟩)),(.v (.string ⟨#[]⟩)),(.v (.int .u8 0)),(.v (.int .u8 0)),(.v (.int .u8 0)),(.v (.slice none 0 0)),qf,qf]
def yq4:AV:=.dG [(.agg yq3),(.v (.int .i64 9))]
def aFr:DT:=(.node 0 (qi 36) qz DT.no (.leaf (.dG [(.v (.slice none 0 0)),(qi 36)])))
theorem aA7(l:Value):aFr.ok tb0 l [] [(19,[.agg FZ],(qi 36))] .nil 60 LG 7 [.agg FZ] []=true:=by kernel_rfl
theorem aKy(d f t:Dt)(bs:Option Addr)(n cp:Nat)(kd:Int)(fk:Int)(tk:Int)(ey:Bool)(lt:Bool)(e:Int)(w0:World)(he:1<=e)(H0:Same w0 19 #[(exV kd d fk f tk t (.slice bs n cp) ey lt)] (.int .i64 e)):Same w0 7 #[(exV kd d fk f tk t (.slice bs n cp) ey lt)] (cond (e==0) (.bool false) (.tuple #[(.slice none 0 0),(.int .i64 e)])):=
 aJ (aA7 (lv [.int .u8 kd] (List.append (dL d) (List.append [.int .u8 fk] (List.append (dL f) (List.append [.int .u8 tk] (List.append (dL t) [(.slice bs n cp),.bool ey,.bool lt,.int .i64 e]))))))) (aN w0) (iD w0) .nil (.cons H0 .nil) (bT (by kernel_rfl:_=((((e==0)=true->False)/\((e==0)=false->True)))) (⟨fun h0=>(by simp only[aFy,aB1,aEv,aCk]at *;omega),fun h0=>trivial⟩)) (by kernel_rfl)
def aCi:DT:=(.node 1 (qu 36) (.v (.int .u8 1)) (.leaf yq0) (.node 1 (.v (.int .u8 3)) (qu 36) (.leaf yq0) (.node 0 (qi 37) qz DT.no (.leaf (.dG [(.v (.int .u8 0)),(qi 37)])))))
theorem XH(l:Value):aCi.ok tb0 l [] [(7,[.agg FZ],.dG [.v (.slice none 0 0),(qi 37)])] .nil 60 LG 11 [.agg FZ,(qu 36)] []=true:=by kernel_rfl
theorem aGu(d f t:Dt)(bs:Option Addr)(n cp:Nat)(kd:Int)(fk:Int)(tk:Int)(ey:Bool)(lt:Bool)(m:Int)(e:Int)(w0:World)(he:1<=e)(H0:Same w0 7 #[(exV kd d fk f tk t (.slice bs n cp) ey lt)] (.tuple #[(.slice none 0 0),(.int .i64 e)])):Same w0 11 #[(exV kd d fk f tk t (.slice bs n cp) ey lt),(.int .u8 m)] (cond (decide (m<1)) (.tuple #[(.int .u8 0),(.int .i64 9)]) (cond (decide (3<m)) (.tuple #[(.int .u8 0),(.int .i64 9)]) (cond (e==0) (.bool false) (.tuple #[(.int .u8 0),(.int .i64 e)])))):=
 aJ (XH (lv [.int .u8 kd] (List.append (dL d) (List.append [.int .u8 fk] (List.append (dL f) (List.append [.int .u8 tk] (List.append (dL t) [(.slice bs n cp),.bool ey,.bool lt,.int .u8 m,.int .i64 e]))))))) (aN w0) (iD w0) .nil (.cons H0 .nil) (bT (by kernel_rfl:_=((((decide (m<1))=true->True)/\((decide (m<1))=false->(((decide (3<m))=true->True)/\((decide (3<m))=false->(((e==0)=true->False)/\((e==0)=false->True)))))))) (⟨fun h0=>trivial,fun h0=>⟨fun h1=>trivial,fun h1=>⟨fun h2=>(by simp only[aFy,aB1,aEv,aCk]at *;omega),fun h2=>trivial⟩⟩⟩)) (by kernel_rfl)
def aJd:DT:=(.node 1 (qu 36) (.v (.int .u8 1)) (.leaf yq4) (.node 1 (.v (.int .u8 3)) (qu 36) (.leaf yq4) (.node 0 (qi 37) qz DT.no (.leaf (.dG [(.agg yq3),(qi 37)])))))
theorem aEf(l:Value):aJd.ok tb0 l [] [(19,[.agg FZ],(qi 37))] .nil 60 LG 21 [.agg FZ,(qu 36)] []=true:=by kernel_rfl
theorem aOf(d f t:Dt)(bs:Option Addr)(n cp:Nat)(kd:Int)(fk:Int)(tk:Int)(ey:Bool)(lt:Bool)(m:Int)(e:Int)(w0:World)(he:1<=e)(H0:Same w0 19 #[(exV kd d fk f tk t (.slice bs n cp) ey lt)] (.int .i64 e)):Same w0 21 #[(exV kd d fk f tk t (.slice bs n cp) ey lt),(.int .u8 m)] (cond (decide (m<1)) (.tuple #[xG,(.int .i64 9)]) (cond (decide (3<m)) (.tuple #[xG,(.int .i64 9)]) (cond (e==0) (.bool false) (.tuple #[xG,(.int .i64 e)])))):=
 aJ (aEf (lv [.int .u8 kd] (List.append (dL d) (List.append [.int .u8 fk] (List.append (dL f) (List.append [.int .u8 tk] (List.append (dL t) [(.slice bs n cp),.bool ey,.bool lt,.int .u8 m,.int .i64 e]))))))) (aN w0) (iD w0) .nil (.cons H0 .nil) (bT (by kernel_rfl:_=((((decide (m<1))=true->True)/\((decide (m<1))=false->(((decide (3<m))=true->True)/\((decide (3<m))=false->(((e==0)=true->False)/\((e==0)=false->True)))))))) (⟨fun h0=>trivial,fun h0=>⟨fun h1=>trivial,fun h1=>⟨fun h2=>(by simp only[aFy,aB1,aEv,aCk]at *;omega),fun h2=>trivial⟩⟩⟩)) (by kernel_rfl)
def aFs:DT:=(.node 0 (qi 36) qz DT.no (.leaf (.dG [(.agg yq3),(qi 36)])))
theorem aA8(l:Value):aFs.ok tb0 l [] [(19,[.agg FZ],(qi 36))] .nil 60 LG 22 [.agg FZ] []=true:=by kernel_rfl
theorem aKz(d f t:Dt)(bs:Option Addr)(n cp:Nat)(kd:Int)(fk:Int)(tk:Int)(ey:Bool)(lt:Bool)(e:Int)(w0:World)(he:1<=e)(H0:Same w0 19 #[(exV kd d fk f tk t (.slice bs n cp) ey lt)] (.int .i64 e)):Same w0 22 #[(exV kd d fk f tk t (.slice bs n cp) ey lt)] (cond (e==0) (.bool false) (.tuple #[xG,(.int .i64 e)])):=
 aJ (aA8 (lv [.int .u8 kd] (List.append (dL d) (List.append [.int .u8 fk] (List.append (dL f) (List.append [.int .u8 tk] (List.append (dL t) [(.slice bs n cp),.bool ey,.bool lt,.int .i64 e]))))))) (aN w0) (iD w0) .nil (.cons H0 .nil) (bT (by kernel_rfl:_=((((e==0)=true->False)/\((e==0)=false->True)))) (⟨fun h0=>(by simp only[aFy,aB1,aEv,aCk]at *;omega),fun h0=>trivial⟩)) (by kernel_rfl)
def aFt:DT:=(.node 0 (qi 36) qz DT.no (.leaf (.dG [qf,(qi 36)])))
theorem aA9(l:Value):aFt.ok tb0 l [] [(7,[.agg FZ],.dG [.v (.slice none 0 0),(qi 36)])] .nil 60 LG 9 [.agg FZ] []=true:=by kernel_rfl
theorem aKA(d f t:Dt)(bs:Option Addr)(n cp:Nat)(kd:Int)(fk:Int)(tk:Int)(ey:Bool)(lt:Bool)(e:Int)(w0:World)(he:1<=e)(H0:Same w0 7 #[(exV kd d fk f tk t (.slice bs n cp) ey lt)] (.tuple #[(.slice none 0 0),(.int .i64 e)])):Same w0 9 #[(exV kd d fk f tk t (.slice bs n cp) ey lt)] (cond (e==0) (.bool false) (.tuple #[(.bool false),(.int .i64 e)])):=
 aJ (aA9 (lv [.int .u8 kd] (List.append (dL d) (List.append [.int .u8 fk] (List.append (dL f) (List.append [.int .u8 tk] (List.append (dL t) [(.slice bs n cp),.bool ey,.bool lt,.int .i64 e]))))))) (aN w0) (iD w0) .nil (.cons H0 .nil) (bT (by kernel_rfl:_=((((e==0)=true->False)/\((e==0)=false->True)))) (⟨fun h0=>(by simp only[aFy,aB1,aEv,aCk]at *;omega),fun h0=>trivial⟩)) (by kernel_rfl)
def aMg:DT:=(.node 0 (qi 36) qz DT.no (.leaf (.dG [(.agg yq3),(qi 36)])))
theorem aG1(l:Value):aMg.ok tb0 l [] [(7,[.agg FZ],.dG [.v (.slice none 0 0),(qi 36)])] .nil 60 LG 15 [.agg FZ,.v (.slice none 0 0)] []=true:=by kernel_rfl
theorem aSI(d f t:Dt)(bs:Option Addr)(n cp:Nat)(kd:Int)(fk:Int)(tk:Int)(ey:Bool)(lt:Bool)(e:Int)(w0:World)(he:1<=e)(H0:Same w0 7 #[(exV kd d fk f tk t (.slice bs n cp) ey lt)] (.tuple #[(.slice none 0 0),(.int .i64 e)])):Same w0 15 #[(exV kd d fk f tk t (.slice bs n cp) ey lt),(.slice none 0 0)] (cond (e==0) (.bool false) (.tuple #[xG,(.int .i64 e)])):=
 aJ (aG1 (lv [.int .u8 kd] (List.append (dL d) (List.append [.int .u8 fk] (List.append (dL f) (List.append [.int .u8 tk] (List.append (dL t) [(.slice bs n cp),.bool ey,.bool lt,.int .i64 e]))))))) (aN w0) (iD w0) .nil (.cons H0 .nil) (bT (by kernel_rfl:_=((((e==0)=true->False)/\((e==0)=false->True)))) (⟨fun h0=>(by simp only[aFy,aB1,aEv,aCk]at *;omega),fun h0=>trivial⟩)) (by kernel_rfl)
def aMi:DT:=(.leaf qt)
theorem aG3(l:Value):aMi.ok tb0 l [] [(18,[.agg FZ],qt),(12,[],qt)] .nil 60 LG 5 [.agg FZ,(qu 36)] []=true:=by kernel_rfl
theorem aSK(d f t:Dt)(bs:Option Addr)(n cp:Nat)(kd:Int)(fk:Int)(tk:Int)(ey:Bool)(lt:Bool)(m:Int)(w0:World) (H0:Same w0 18 #[(exV kd d fk f tk t (.slice bs n cp) ey lt)] (.bool true))(H1:Same w0 12 #[] (.bool true)):Same w0 5 #[(exV kd d fk f tk t (.slice bs n cp) ey lt),(.int .u8 m)] (.bool true):=
 aJ (aG3 (lv [.int .u8 kd] (List.append (dL d) (List.append [.int .u8 fk] (List.append (dL f) (List.append [.int .u8 tk] (List.append (dL t) [(.slice bs n cp),.bool ey,.bool lt,.int .u8 m]))))))) (aN w0) (iD w0) .nil (.cons H0 (.cons H1 .nil)) (aS (by kernel_rfl)) (by kernel_rfl)
def aMh:DT:=(.node 0 (qi 37) (qi 37) (.node 1 (qu 36) (.v (.int .u8 1)) (.node 0 (qi 38) (.v (.int .i64 9)) (.node 0 (qi 39) (.v (.int .i64 9)) (.node 0 (qi 37) qz DT.no (.leaf qt)) (.leaf qf)) (.leaf qf)) (.node 1 (.v (.int .u8 3)) (qu 36) (.node 0 (qi 38) (.v (.int .i64 9)) (.node 0 (qi 39) (.v (.int .i64 9)) (.node 0 (qi 37) qz DT.no (.leaf qt)) (.leaf qf)) (.leaf qf)) (.node 0 (qi 38) (qi 37) (.node 0 (qi 39) (qi 37) (.node 0 (qi 37) qz DT.no (.leaf qt)) (.leaf qf)) (.leaf qf)))) DT.no)
theorem aG2(l:Value):aMh.ok tb0 l [] [(18,[.agg FZ],qf),(12,[],qt),(19,[.agg FZ],(qi 37)),(20,[.agg FZ],(qi 37)),(11,[.agg FZ,(qu 36)],.dG [.v (.int .u8 0),(qi 38)]),(21,[.agg FZ,(qu 36)],.dG [.agg yq2,(qi 39)]),(7,[.agg FZ],.dG [.v (.slice none 0 0),(qi 37)]),(22,[.agg FZ],.dG [.agg yq2,(qi 37)]),(9,[.agg FZ],.dG [qf,(qi 37)]),(15,[.agg FZ,.v (.slice none 0 0)],.dG [.agg yq2,(qi 37)])] .nil 60 LG 5 [.agg FZ,(qu 36)] []=true:=by kernel_rfl
theorem aSJ(d f t:Dt)(bs:Option Addr)(n cp:Nat)(kd:Int)(fk:Int)(tk:Int)(ey:Bool)(lt:Bool)(m:Int)(e:Int)(a:Int)(b:Int)(w0:World)(he:1<=e)(H0:Same w0 18 #[(exV kd d fk f tk t (.slice bs n cp) ey lt)] (.bool false))(H1:Same w0 12 #[] (.bool true))(H2:Same w0 19 #[(exV kd d fk f tk t (.slice bs n cp) ey lt)] (.int .i64 e))(H3:Same w0 20 #[(exV kd d fk f tk t (.slice bs n cp) ey lt)] (.int .i64 e))(H4:Same w0 11 #[(exV kd d fk f tk t (.slice bs n cp) ey lt),(.int .u8 m)] (.tuple #[(.int .u8 0),(.int .i64 a)]))(H5:Same w0 21 #[(exV kd d fk f tk t (.slice bs n cp) ey lt),(.int .u8 m)] (.tuple #[xG,(.int .i64 b)]))(H6:Same w0 7 #[(exV kd d fk f tk t (.slice bs n cp) ey lt)] (.tuple #[(.slice none 0 0),(.int .i64 e)]))(H7:Same w0 22 #[(exV kd d fk f tk t (.slice bs n cp) ey lt)] (.tuple #[xG,(.int .i64 e)]))(H8:Same w0 9 #[(exV kd d fk f tk t (.slice bs n cp) ey lt)] (.tuple #[(.bool false),(.int .i64 e)]))(H9:Same w0 15 #[(exV kd d fk f tk t (.slice bs n cp) ey lt),(.slice none 0 0)] (.tuple #[xG,(.int .i64 e)])):Same w0 5 #[(exV kd d fk f tk t (.slice bs n cp) ey lt),(.int .u8 m)] (cond (e==e) (cond (decide (m<1)) (cond (a==9) (cond (b==9) (cond (e==0) (.bool false) (.bool true)) (.bool false)) (.bool false)) (cond (decide (3<m)) (cond (a==9) (cond (b==9) (cond (e==0) (.bool false) (.bool true)) (.bool false)) (.bool false)) (cond (a==e) (cond (b==e) (cond (e==0) (.bool false) (.bool true)) (.bool false)) (.bool false)))) (.bool false)):=
 aJ (aG2 (lv [.int .u8 kd] (List.append (dL d) (List.append [.int .u8 fk] (List.append (dL f) (List.append [.int .u8 tk] (List.append (dL t) [(.slice bs n cp),.bool ey,.bool lt,.int .u8 m,.int .i64 e,.int .i64 a,.int .i64 b]))))))) (aN w0) (iD w0) .nil (.cons H0 (.cons H1 (.cons H2 (.cons H3 (.cons H4 (.cons H5 (.cons H6 (.cons H7 (.cons H8 (.cons H9 .nil)))))))))) (bT (by kernel_rfl:_=((((e==e)=true->(((decide (m<1))=true->(((a==9)=true->(((b==9)=true->(((e==0)=true->False)/\((e==0)=false->True)))/\((b==9)=false->True)))/\((a==9)=false->True)))/\((decide (m<1))=false->(((decide (3<m))=true->(((a==9)=true->(((b==9)=true->(((e==0)=true->False)/\((e==0)=false->True)))/\((b==9)=false->True)))/\((a==9)=false->True)))/\((decide (3<m))=false->(((a==e)=true->(((b==e)=true->(((e==0)=true->False)/\((e==0)=false->True)))/\((b==e)=false->True)))/\((a==e)=false->True)))))))/\((e==e)=false->False)))) (⟨fun h0=>⟨fun h1=>⟨fun h2=>⟨fun h3=>⟨fun h4=>(by simp only[aFy,aB1,aEv,aCk]at *;omega),fun h4=>trivial⟩,fun h3=>trivial⟩,fun h2=>trivial⟩,fun h1=>⟨fun h2=>⟨fun h3=>⟨fun h4=>⟨fun h5=>(by simp only[aFy,aB1,aEv,aCk]at *;omega),fun h5=>trivial⟩,fun h4=>trivial⟩,fun h3=>trivial⟩,fun h2=>⟨fun h3=>⟨fun h4=>⟨fun h5=>(by simp only[aFy,aB1,aEv,aCk]at *;omega),fun h5=>trivial⟩,fun h4=>trivial⟩,fun h3=>trivial⟩⟩⟩,fun h0=>(by simp only[aFy,aB1,aEv,aCk]at *;omega)⟩)) (by kernel_rfl)
end Sk
end
section
open Go.RowKit Go.Lib
namespace Sk
open Bk (Dt eP jA jH)
abbrev xY(k:Int)(d:Dt):Value:=.agg #[.int .u8 k,.bool d.neg,.bool d.long,.string d.dg,.int .i64 d.ex,.int .i64 d.sig,.string d.mo,.string d.da,.int .u8 d.m0,.int .u8 d.m1,.int .u8 d.m2]
abbrev yS(x:Dt)(rg:Bool)(y:Dt):List Value:=[.bool x.neg,.bool x.long,.string x.dg,.int .i64 x.ex,.int .i64 x.sig,.string x.mo,.string x.da,.int .u8 x.m0,.int .u8 x.m1,.int .u8 x.m2,.bool rg,.bool y.neg,.bool y.long,.string y.dg,.int .i64 y.ex,.int .i64 y.sig,.string y.mo,.string y.da,.int .u8 y.m0,.int .u8 y.m1,.int .u8 y.m2]
abbrev itV(x:Dt)(rg:Bool)(y:Dt):Value:=.agg (yS x rg y).toArray
theorem aLg: ∃i,Tryz.prog.info? 5=some i:=⟨_,rfl⟩
theorem O6(k n:Nat)(hk:k=n+1+1)(m0 m1 m2:Int): ∃r:Bool,∀w,(Op.equalIn k 28 (.agg #[.int .u8 m0,.int .u8 m1,.int .u8 m2]) (.agg #[.int .u8 0,.int .u8 0,.int .u8 0])).run Tryz.prog w=.ok r w:=by
 subst hk;obtain⟨i,hi⟩:=aLg;have hc:Tryz.prog.cellsOf 5=1:=by kernel_rfl
 by_cases h0:m0=0<;>by_cases h1:m1=0<;>by_cases h2:m2=0
 all_goals
  refine⟨?_,fun w=>?_⟩
  rotate_left
  . rw[run_equalIn_array w (n+1) _ _ Tryz.underlying28 hi];simp[dJ,Op.eqItems,go_sem,hc, *]
    try rfl
theorem G5(d:Dt): ∃Z:Bool,IE 30 (eP d) (eP z0) Z:=by
 obtain⟨r,hr⟩:=O6 9999 9997 rfl d.m0 d.m1 d.m2;unfold eP z0
 by_cases h:d.neg=false/\d.long=false/\d.dg.toList=[]/\d.ex=0/\d.sig=0/\d.mo.toList=[]/\d.da.toList=[]
 . obtain⟨h1,h2,h3,h4,h5,h6,h7⟩:=h;refine⟨r,fun w=>?_,fun w=>?_⟩
   . go_simp;cases r<;>rfl
   go_simp;cases r<;>rfl
 refine⟨false,fun w=>?_,fun w=>?_⟩
 . go_simp
   exact fun h1 h2 h3 h4 h5 h6 h7=>absurd ⟨h1,h2,h3,h4,h5,h6,h7⟩ h
 go_simp
 exact fun h1 h2 h3 h4 h5 h6 h7=>absurd ⟨h1,h2,h3,h4,h5,h6,h7⟩ h
theorem CW(k:Int)(d:Dt): ∃Z:Bool,IE 32 (xY k d) (xY 0 z0) Z:=by
 obtain⟨r,hr⟩:=O6 9998 9996 rfl d.m0 d.m1 d.m2;unfold xY z0
 by_cases h:k=0/\d.neg=false/\d.long=false/\d.dg.toList=[]/\d.ex=0/\d.sig=0/\d.mo.toList=[]/\d.da.toList=[]
 . obtain⟨h0,h1,h2,h3,h4,h5,h6,h7⟩:=h;refine⟨r,fun w=>?_,fun w=>?_⟩
   . go_simp;cases r<;>rfl
   go_simp;cases r<;>rfl
 refine⟨false,fun w=>?_,fun w=>?_⟩
 . go_simp
   exact fun h0 h1 h2 h3 h4 h5 h6 h7=>absurd ⟨h0,h1,h2,h3,h4,h5,h6,h7⟩ h
 go_simp
 exact fun h0 h1 h2 h3 h4 h5 h6 h7=>absurd ⟨h0,h1,h2,h3,h4,h5,h6,h7⟩ h
theorem TQ(d:Dt):0<=d.err:=by
 unfold Dt.err;have:=d.aEI
 (repeat' split)<;>omega
theorem sBC{w0:World}(hst:SS w0){d:Dt}(h:Sm d)(k:Int): ∃x:Int,0<=x/\Same w0 99 #[xY k d] (.int .i64 x)/\Same w0 47 #[xY k d] (.int .i64 x)/\(x=0->(k=1/\d.err=0/\d.xG=true)\/k=2\/k=3):=by
 obtain⟨Z,hZ⟩:=G5 d;have A:=aJ1 d k _ _ Z w0 hZ (sFC hst h) (aXB hst h);have B:=aFR d k _ _ Z w0 hZ (sRC hst h) (aGj hst h);have en:=TQ d
 by_cases k1:k=1
 . by_cases e:d.err=0
   . cases hx:d.xG
     . exact⟨11,by omega,zS A (by simp[dJ,k1,e,hx]),zS B (by simp[dJ,k1,e,hx]),fun c=>by cases c⟩
     exact⟨0,by omega,zS A (by simp[dJ,k1,e,hx]),zS B (by simp[dJ,k1,e,hx]),fun _=>.inl ⟨k1,e,rfl⟩⟩
   exact⟨d.err,en,zS A (by simp[dJ,k1,e]),zS B (by simp[dJ,k1,e]),fun c=>absurd c e⟩
 by_cases k2:k=2
 . cases Z
   . exact⟨5,by omega,zS A (by simp[dJ,k2]),zS B (by simp[dJ,k2]),fun c=>by cases c⟩
   exact⟨0,by omega,zS A (by simp[dJ,k2]),zS B (by simp[dJ,k2]),fun _=>.inr (.inl k2)⟩
 by_cases k3:k=3
 . cases Z
   . exact⟨5,by omega,zS A (by simp[dJ,k3]),zS B (by simp[dJ,k3]),fun c=>by cases c⟩
   exact⟨0,by omega,zS A (by simp[dJ,k3]),zS B (by simp[dJ,k3]),fun _=>.inr (.inr k3)⟩
 exact⟨18,by omega,zS A (by simp[dJ,k1,k2,k3]),zS B (by simp[dJ,k1,k2,k3]),fun c=>by cases c⟩
theorem aSD{w0:World}(hst:SS w0){f t:Dt}(hf:Sm f)(ht:Sm t)(fk tk:Int): ∃x:Int,0<=x/\Same w0 62 #[xY fk f,xY tk t] (.int .i64 x)/\Same w0 25 #[xY fk f,xY tk t] (.int .i64 x)/\
 (x=0->((fk=1/\f.err=0)\/fk=2\/fk=3)/\((tk=1/\t.err=0)\/tk=2\/tk=3)):=by
 obtain⟨x,x0,A,A',hx⟩:=sBC hst hf fk;obtain⟨y,y0,B,B',hy⟩:=sBC hst ht tk
 by_cases ex:x=0
 . subst ex
   by_cases ey:y=0
   . subst ey;have fx:(fk=1/\f.err=0)\/fk=2\/fk=3:=(hx rfl).imp (fun c=>⟨c.1,c.2.1⟩) id;have fy:(tk=1/\t.err=0)\/tk=2\/tk=3:=(hy rfl).imp (fun c=>⟨c.1,c.2.1⟩) id
     by_cases k1:fk=1
     . subst k1
       by_cases k2:tk=1
       . subst k2;obtain⟨_,fe,fx'⟩:=(hx rfl).resolve_right (by omega);obtain⟨_,te,tx⟩:=(hy rfl).resolve_right (by omega);have P:=aNA f t _ _ _ _ w0 A B (aCv hst hf fe fx') (aCv hst ht te tx);have P':=aJS f t _ _ _ _ w0 A' B' (QU hst hf fe fx') (QU hst ht te tx)
         by_cases c:t.hi<f.lo
         . exact⟨11,by omega,zS P (by simp[dJ,c,show ¬f.lo<t.hi by omega]),zS P' (by simp[dJ,c]),fun e=>by cases e⟩
         refine⟨0,by omega,zS P ?_,zS P' (by simp[dJ,c]),fun _=>⟨fx,fy⟩⟩
         by_cases c2:f.lo<t.hi<;>simp[dJ,c,c2]
       have P:=aNz f t tk w0 (by omega) A B;have P':=aJR f t tk w0 (by omega) A' B';exact⟨0,by omega,zS P (by simp[dJ,k2]),zS P' (by simp[dJ,k2]),fun _=>⟨fx,fy⟩⟩
     have P:=aNy f t fk tk w0 (by omega) A B;have P':=aJQ f t fk tk w0 (by omega) A' B'
     by_cases k2:tk=1
     . exact⟨0,by omega,zS P (by simp[dJ,k1,k2]),zS P' (by simp[dJ,k1,k2]),fun _=>⟨fx,fy⟩⟩
     exact⟨11,by omega,zS P (by simp[dJ,k1,k2]),zS P' (by simp[dJ,k1,k2]),fun e=>by cases e⟩
   have P:=aNB f t fk tk y w0 (by omega) A B;have P':=aJT f t fk tk y w0 (by omega) A' B';exact⟨y,y0,zS P (by simp[dJ,ey]),zS P' (by simp[dJ,ey]),fun e=>absurd e ey⟩
 have P:=aNC f t fk tk x w0 (by omega) A;have P':=aJU f t fk tk x w0 (by omega) A';exact⟨x,x0,zS P (by simp[dJ,ex]),zS P' (by simp[dJ,ex]),fun e=>absurd e ex⟩
noncomputable def aAF(f t:Dt):Bool:=f.pln&&(t.pln&&(decide (f.prec=t.prec)&& !decide (t.lo<f.lo)))
theorem wX{d:Dt}(h:d.pln=true):d.err=0/\d.xG=true/\d.prec≠0:=by
 unfold Dt.pln at h;simpa using h
theorem aXz{w0:World}(hst:SS w0){f t:Dt}(hf:Sm f)(ht:Sm t):Same w0 150 #[eP f,eP t] (.bool (aAF f t)):=by
 have A:=sPl hst hf;have B:=sPl hst ht;unfold aAF
 cases e:f.pln
 . rw[e]at A;exact aRh f t w0 A
 rw [e]at A
 cases g:t.pln
 . rw[g]at B;exact aRg f t w0 A B
 rw[g]at B;obtain⟨f1,f2,_⟩:=wX e;obtain⟨t1,t2,_⟩:=wX g;refine zS (aWE f t _ _ _ _ _ _ w0 A B (sPc hst hf) (sPc hst ht) (aCv hst hf f1 f2) (aCv hst ht t1 t2)) ?_
 by_cases p:f.prec=t.prec
 . by_cases c:f.lo<t.lo
   . simp[dJ,p,c,show ¬t.lo<f.lo by omega]
   by_cases c2:t.lo<f.lo<;>simp[dJ,p,c,c2]
 simp[dJ,p]
theorem aMA {w0:World} (hst:SS w0) {x y:Dt} (hx:Sm x) (hy:Sm y) (rg:Bool) (kd:Int) (hk:kd=3\/kd=4): ∃e:Int,0<=e/\Same w0 103 #[itV x rg y,.int .u8 kd] (.int .i64 e)/\Same w0 65 #[itV x rg y,.bool (decide (kd=4))] (.int .i64 e)/\
 (e=0->x.err=0/\(rg=true->y.err=0)):=by
 obtain⟨Z,hZ⟩:=G5 y;have A:=aRi x y rg kd _ _ _ _ Z w0 hZ (sFC hst hx) (sFC hst hy) (aXz hst hx hy) (aXA hst hx);have en:=TQ x;have em:=TQ y;have hk':(kd==3)= !decide (kd=4):=by rcases hk with rfl|rfl<;>rfl
 have hk2:(kd==4)=decide (kd=4):=by by_cases c:kd=4<;>simp[dJ,c]
 rw[hk',hk2]at A;generalize decide (kd=4)=al at *
 by_cases e:x.err=0
 . cases rg
   . have B:=aCn x y al Z _ _ w0 hZ (sRC hst hx) (aGj hst hx)
     cases Z
     . refine⟨5,by omega,zS A ?_,zS B (by simp[dJ,e]),fun c=>by cases c⟩
       cases al<;>simp[dJ,e]
     cases al
     . exact⟨0,by omega,zS A (by simp[dJ,e]),zS B (by simp[dJ,e]),fun _=>⟨e,fun c=>by cases c⟩⟩
     cases g:x.xG
     . exact⟨10,by omega,zS A (by simp[dJ,e,g]),zS B (by simp[dJ,e,g]),fun c=>by cases c⟩
     exact⟨0,by omega,zS A (by simp[dJ,e,g]),zS B (by simp[dJ,e,g]),fun _=>⟨e,fun c=>by cases c⟩⟩
   by_cases e2:y.err=0
   . have RA :=sRC hst hx;rw[e]at RA;have RB:=sRC hst hy;rw[e2]at RB;have PX:=aN9 hst hx;have PY:=aN9 hst hy;have fin: ∀(o:Bool),aAF x y=o->(o=false->Same w0 65 #[itV x true y,.bool al] (.int .i64 10))->(o=true->Same w0 65 #[itV x true y,.bool al] (.int .i64 (if al=true then(if x.xG=true then 0 else 10)else 0)))->
      ∃e:Int,0<=e/\Same w0 103 #[itV x true y,.int .u8 kd] (.int .i64 e)/\Same w0 65 #[itV x true y,.bool al] (.int .i64 e)/\(e=0->x.err=0/\(true=true->y.err=0)):=by
      intro o ho h0 h1
      cases o
      . refine⟨10,by omega,zS A ?_,h0 rfl,fun c=>by cases c⟩
        cases al<;>simp[dJ,e,e2,ho]
      refine⟨_,?_,zS A ?_,h1 rfl,fun _=>⟨e,fun _=>e2⟩⟩
      . (repeat' split)<;>omega
      cases al<;>cases g:x.xG<;>simp[dJ,e,e2,ho]
     cases px:x.pln
     . rw[px]at PX;refine fin false (by unfold aAF;rw[px];rfl) (fun _=>?_) (fun c=>by cases c)
       cases py:y.pln
       . rw[py]at PY;exact aFI x y al w0 RA RB PX PY
       rw[py]at PY;exact aFH x y al w0 RA RB PX PY
     rw [px]at PX
     cases py:y.pln
     . rw[py]at PY;exact fin false (by unfold aAF;rw[px,py];rfl) (fun _=>aJW x y al w0 RA RB PX PY) (fun c=>by cases c)
     rw [py]at PY;obtain⟨f1,f2,f3⟩:=wX px;obtain⟨t1,t2,t3⟩:=wX py;have B:=aJV x y al _ _ _ _ _ _ _ w0 RA RB PX PY (aSC hst hx) (aSC hst hy) (QU hst hx f1 f2) (QU hst hy t1 t2) (aGj hst hx);rw[Bk.MF f1 f2 f3,Bk.MF t1 t2 t3]at B;refine fin _ rfl (fun c=>zS B ?_) (fun c=>zS B ?_)
     . unfold aAF at c;rw[px,py]at c
       by_cases p:x.prec=y.prec
       . by_cases l:y.lo<x.lo
         . simp[dJ,p,l]
         simp[dJ,p,l]at c
       simp[dJ,p]
     unfold aAF at c;rw[px,py]at c;simp at c
     cases al<;>simp[dJ,c.1,f2,show ¬y.lo<x.lo by omega]
   have B:=aJX x y al _ _ w0 (by omega) (sRC hst hx) (sRC hst hy);refine⟨y.err,em,zS A ?_,zS B (by simp[dJ,e,e2]),fun c=>absurd c e2⟩
   cases al<;>simp[dJ,e,e2]
 cases rg
 . have B:=aCn x y al Z _ _ w0 hZ (sRC hst hx) (aGj hst hx);refine⟨x.err,en,zS A ?_,zS B (by simp[dJ,e]),fun c=>absurd c e⟩
   cases al<;>simp[dJ,e]
 have B:=aJY x y al _ w0 (by omega) (sRC hst hx);refine⟨x.err,en,zS A ?_,zS B (by simp[dJ,e]),fun c=>absurd c e⟩
 cases al<;>simp[dJ,e]
end Sk
end
section
open Go.RowKit
namespace Ev
mutual
def dP(L:Nat)(P:List Nat)(l:Value):AV->Value
 | .v x=>x
 | .fn f a c=>tY f (dPL L P l a) (dPL L P l c)
 | .zL t x=>.iface t (dP L P l x)
 | .agg m=>.agg (dPL L P l m).toArray
 | .dG m=>.tuple (dPL L P l m).toArray
 | .mp _=>.iface 0 l
 | .ptr b o=>.pointer (some ⟨P.getD (b - L) 0,o,none⟩)
 | .sl b o n c=>.slice (some ⟨P.getD (b - L) 0,o,none⟩) n c
 | .uV _ _ _ _=>.bool false
def dPL(L:Nat)(P:List Nat)(l:Value):List AV->List Value
 |[]=>[]
 |x::m=>dP L P l x::dPL L P l m
end
theorem aIw(L:Nat)(P:List Nat)(l:Value)(m:List AV):dPL L P l m=m.map (dP L P l):=by
 induction m with
 |nil=>rfl
 |cons x m ih=>simp only[dPL,ih,aO6]
noncomputable def inB(L m b:Nat):Bool:=band (Nat.ble L b) (Nat.ble (b+1) (L+m))
theorem aBu{L m b:Nat}(h:inB L m b=true):L<=b/\b<L+m:=by
 obtain⟨h1,h2⟩:=aI (show band (Nat.ble L b) (Nat.ble (b+1) (L+m))=true from h);exact⟨aIl h1,aIl h2⟩
noncomputable def RD(g L m:Nat)(x:AV):Bool:=
 AV.rec (motive_1:=fun _=>Bool) (motive_2:=fun _=>Bool) (fun _=>true) (fun b _=>inB L m b) (fun b _ _ _=>inB L m b) (fun _ _ _ _=>false) (fun _ _ _ a b=>band a b) (fun _ _ x=>x) (fun _ l=>l) (fun _ l=>l) (fun b=>Nat.beq b g) true (fun _ _ x l=>band x l) x
noncomputable def pK(g L m:Nat)(l:List AV):Bool:=
 AV.rec_1 (motive_1:=fun _=>Bool) (motive_2:=fun _=>Bool) (fun _=>true) (fun b _=>inB L m b) (fun b _ _ _=>inB L m b) (fun _ _ _ _=>false) (fun _ _ _ a b=>band a b) (fun _ _ x=>x) (fun _ l=>l) (fun _ l=>l) (fun b=>Nat.beq b g) true (fun _ _ x l=>band x l) l
def ZX(ρ:Env)(L m:Nat)(P:List Nat):Prop:= ∀j,j<m->ρ.blk (L+j)=P.getD j 0/\ρ.off (L+j)=0
theorem ZX.at{ρ:Env}{L m:Nat}{P:List Nat}(h:ZX ρ L m P){b:Nat}(hb:inB L m b=true):ρ.blk b=P.getD (b - L) 0/\ρ.off b=0:=by
 obtain⟨h1,h2⟩:=aBu hb;have:=h (b - L) (by omega);rw[show L+(b - L)=b by omega]at this;exact this
mutual
theorem Q9{g L m:Nat}{P:List Nat}{ρ:Env}{l:Value}(hρ:ρ.cp g=⟨0,0,l⟩)(hP:ZX ρ L m P):(x:AV)->RD g L m x=true->den ρ x=dP L P l x
 | .v _,_=>rfl
 | .ptr b o,h=>by
  obtain⟨h1,h2⟩:=hP.at (show inB L m b=true from h);simp only[den,dP,h1,h2,aHv]
 | .sl b _ _ _,h=>by
  obtain⟨h1,h2⟩:=hP.at (show inB L m b=true from h);simp only[den,dP,h1,h2,aHv]
 | .uV _ _ _ _,h=>by cases h
 | .fn f a c,h=>by
  obtain⟨h1,h2⟩:=aI (show band (pK g L m a) (pK g L m c)=true from h);simp only[den,dP,tX hρ hP a h1,tX hρ hP c h2]
 | .zL t x,h=>by simp only[den,dP,Q9 hρ hP x h]
 | .agg k,h=>by simp only[den,dP,tX hρ hP k h]
 | .dG k,h=>by simp only[den,dP,tX hρ hP k h]
 | .mp b,h=>by
  obtain rfl:=aEU (show Nat.beq b g=true from h);simp only[den,dP,hρ]
theorem tX{g L m:Nat}{P:List Nat}{ρ:Env}{l:Value}(hρ:ρ.cp g=⟨0,0,l⟩)(hP:ZX ρ L m P):(k:List AV)->pK g L m k=true->iT ρ k=dPL L P l k
 |[],_=>rfl
 |x::k,h=>by
  obtain⟨h1,h2⟩:=aI (show band (RD g L m x) (pK g L m k)=true from h);simp only[iT,dPL,Q9 hρ hP x h1,tX hρ hP k h2]
end
mutual
theorem aGB{g L m n:Nat}(hg:g<n)(hm:L+m<=n):(x:AV)->RD g L m x=true->@Sc G0 n x
 | .v _,_=>trivial
 | .ptr b _,h=>⟨aFz (aBu (show inB L m b=true from h)).2 hm,fun q=>q⟩
 | .sl b _ _ _,h=>⟨aFz (aBu (show inB L m b=true from h)).2 hm,fun q=>q⟩
 | .uV _ _ _ _,h=>by cases h
 | .fn f a c,h=>by
  obtain⟨h1,h2⟩:=aI (show band (pK g L m a) (pK g L m c)=true from h);exact⟨DV hg hm a h1,DV hg hm c h2⟩
 | .zL t x,h=>aGB hg hm x h
 | .agg k,h=>DV hg hm k h
 | .dG k,h=>DV hg hm k h
 | .mp b,h=>by
  obtain rfl:=aEU (show Nat.beq b g=true from h);exact⟨hg,fun q=>q⟩
theorem DV{g L m n:Nat}(hg:g<n)(hm:L+m<=n):(k:List AV)->pK g L m k=true->@iE G0 n k
 |[],_=>trivial
 |x::k,h=>by
  obtain⟨h1,h2⟩:=aI (show band (RD g L m x) (pK g L m k)=true from h);exact⟨aGB hg hm x h1,DV hg hm k h2⟩
end
def CO(L:Nat)(P:List Nat)(l:Value)(F:AF):List (TypeId × List Value):=F.map fun e=>(e.1,e.2.map (dP L P l))
def YT(L:Nat)(P:List Nat)(l:Value)(S:List (Nat × AV)):List (Nat × Value):=S.map fun e=>(e.1,dP L P l e.2)
noncomputable def QC:List (Nat × AV)->TE
 |[]=>nilA
 |e::t=>NK (QC t) e.1 e.2
theorem aGg{w0 w:World}{ρ:Env}{cx:Cx}{s:Hs}(h:@aQ G0 w0 ρ cx s w)(hid:cx.hid=[])(p:Nat):@aQ G0 w0 (ρ.add s.n p 0) cx ⟨s.h,s.n+1⟩ w:=by
 letI:Gh:=G0
 obtain⟨gl,KX,good,gn,ln,xW,pW,below,lt,obj,new,old,inj⟩:=h;have lk: ∀(s:Hs) b,s.look cx.hid b=s.h.get b:=fun s b=>by rw[hid];rfl
 simp only[lk]at lt obj new old inj;have ext:Ext s.n ρ (ρ.add s.n p 0):=Env.qU _ _ _ _;have jZ: ∀b x,s.h.get b=some x->(ρ.add s.n p 0).blk b=ρ.blk b:=fun b x hb=>(ext b (lt b x hb)).1;have hlt:cx.l<=s.n:=aJi ln xW;refine⟨fun g hg=>?_,KX,fun b hb=>good b (by have:s.n+1<=b:=hb;omega),gn,ln,a0f xW,fun b hb=>pW b (by have:s.n+1<=b:=hb;omega),below,fun b x hb=>?_,fun b x hb=>?_,fun b x hb hl=>?_,fun b x hb hl=>?_,fun b b' x x' hb hb' hl hl' e=>?_⟩
 . have:=ext g (aFz hg (aJi gn hlt));rw[this.1,this.2.1,this.2.2];exact gl g hg
 . rw[lk]at hb;have:=lt b x hb;show b<s.n+1;omega
 . rw[lk]at hb;exact(obj b x hb).keep ext (lt b x hb) (aQH _) rfl
 . rw[lk]at hb;rw[jZ b x hb];exact new b x hb hl
 . rw[lk]at hb;rw[jZ b x hb];exact old b x hb hl
 rw[lk]at hb hb';rw[jZ b x hb,jZ b' x' hb']at e;exact inj b b' x x' hb hb' hl hl' e
theorem VH{w0 w:World}{cx:Cx}(hid:cx.hid=[]): ∀(P:List Nat) (ρ:Env) (s:Hs),@aQ G0 w0 ρ cx s w->
 ∃ ρ',@aQ G0 w0 ρ' cx ⟨s.h,s.n+P.length⟩ w/\Ext s.n ρ ρ'/\ ∀j,j<P.length->ρ'.blk (s.n+j)=P.getD j 0/\ρ'.off (s.n+j)=0:=by
 intro P
 induction P with
 |nil=>intro ρ s h;exact⟨ρ,h,Ext.refl _ _,fun j hj=>absurd hj (a0X j)⟩
 |cons p P ih=>
  intro ρ s h;obtain⟨ρ',q1,q2,q3⟩:=ih _ _ (aGg h hid p);have ext:Ext s.n ρ (ρ.add s.n p 0):=Env.qU _ _ _ _;refine⟨ρ',by rw[show s.n+(p::P).length=s.n+1+P.length by simp;omega];exact q1,fun b hb=>?_,fun j hj=>?_⟩
  . have a:=q2 b (by show b<s.n+1;omega);have c:=ext b hb;exact⟨a.1.trans c.1,a.2.1.trans c.2.1,a.2.2.trans c.2.2⟩
  cases j with
  |zero=>
   have a:=q2 s.n (by show s.n<s.n+1;omega);rw[aNa];exact⟨by rw[a.1,Env.bY];rfl,by rw[a.2.1,Env.fG]⟩
  |succ j=>
   have:=q3 j (by simpa using hj);rw[show s.n+(j+1)=s.n+1+j by omega];exact this
theorem aGh{w0 w:World}{ρ:Env}{cx:Cx}{h:Tr HO}{n b:Nat}(H:@aQ G0 w0 ρ cx ⟨h,n⟩ w)(hid:cx.hid=[]){p:Nat}{el:TypeId}{cells:List AV}(hl:cx.l<=b)(hb:b<n)(hp:ρ.blk b=p)(ho:ρ.off b=0)(h0:w0.heap.size<=p)
 (hne: ∀b' o,h.get b'=some o->cx.l<=b'->b'≠b->ρ.blk b'≠p) (hB:fF w p el (cells.map (den ρ))) (hs:@iE G0 n cells):
 @aQ G0 w0 ρ cx ⟨h.set b (.row cells el),n⟩ w:=by
 letI:Gh:=G0
 obtain⟨gl,KX,good,gn,ln,xW,pW,below,lt,obj,new,old,inj⟩:=H;have lk: ∀(s:Hs) b,s.look cx.hid b=s.h.get b:=fun s b=>by rw[hid];rfl
 simp only[lk]at lt obj new old inj;have look: ∀b' x,(h.set b (.row cells el)).get b'=some x->(b'=b/\x=.row cells el)\/(b'≠b/\h.get b'=some x):=by
  intro b' x hb'
  by_cases e:b'=b
  . subst e;rw[Tr.oN]at hb';exact .inl ⟨rfl,(aOa hb').symm⟩
  rw[Tr.eF _ _ (aQK e)]at hb';exact .inr ⟨e,hb'⟩
 refine⟨gl,KX,good,gn,ln,xW,pW,below,fun b' x hb'=>?_,fun b' x hb'=>?_,fun b' x hb' hl'=>?_,fun b' x hb' hl'=>?_,fun b1 b2 x x' h1 h2 hl1 hl2 e=>?_⟩
 . rw[lk]at hb';rcases look b' x hb' with⟨e,_⟩|⟨_,hb'⟩
   . subst e;exact hb
   exact lt b' x hb'
 . rw[lk]at hb';rcases look b' x hb' with⟨e,e'⟩|⟨_,hb'⟩
   . subst e;subst e';obtain⟨c,fr,q1,q2,q3⟩:=hB;exact⟨ho,c,fr,by rw[hp];exact q1,q2,q3,hs⟩
   exact obj b' x hb'
 . rw[lk]at hb';rcases look b' x hb' with⟨e,_⟩|⟨_,hb'⟩
   . subst e;rw[hp];exact h0
   exact new b' x hb' hl'
 . rw[lk]at hb';rcases look b' x hb' with⟨e,_⟩|⟨_,hb'⟩
   . omega
   exact old b' x hb' hl'
 rw[lk]at h1 h2;rcases look b1 x h1 with⟨e1,_⟩|⟨n1,k1⟩<;>rcases look b2 x' h2 with⟨e2,_⟩|⟨n2,k2⟩
 . omega
 . subst e1;rw[hp]at e;exact absurd e.symm (hne b2 x' k2 hl2 n2)
 . subst e2;rw[hp]at e;exact absurd e (hne b1 x k1 hl1 n1)
 exact inj b1 b2 x x' k1 k2 hl1 hl2 e
theorem VI {w0 w:World} {cx:Cx} {g n L:Nat} {l:Value} {ρ:Env} {P:List Nat} {m:Nat} (hid:cx.hid=[]) (hL:cx.l=L) (hg:g<L) (hρ:ρ.cp g=⟨0,0,l⟩) (hm:P.length=m) (hn:L+m<=n) (hP:ZX ρ L m P) (hnd:P.Nodup) (hnew: ∀p ∈ P,w0.heap.size<=p):
 ∀(F:AF) (j:Nat) (h:Tr HO),j+F.length=m->@aQ G0 w0 ρ cx ⟨h,n⟩ w->(∀b o,h.get b=some o->b<L+j)->F.all (fun e=>pK g L m e.2)=true->
  (∀(i p:Nat) (e:TypeId × List AV),P[j+i]? =some p->F[i]? =some e->fF w p e.1 (e.2.map (dP L P l)))->@aQ G0 w0 ρ cx ⟨aL5 (L+j) F h,n⟩ w:=by
 intro F
 induction F with
 |nil=>intro j h _ H _ _ _;exact H
 | cons e F ih=>
  intro j h hj H hlt hs hF;rw[aQN,aEx]at hs;have hjm:j<m:=by simp at hj;omega
  have hp:P[j]? =some (P.getD j 0):=by rw[aPH,aEH (by omega)];rfl
  obtain⟨q1,q2⟩:=hP j hjm;have hB:=hF 0 _ e hp rfl;rw[<-aIw,<-tX hρ hP e.2 hs.1,dQ]at hB;have H2:=aGh (b:=L+j) (el:=e.1) (cells:=e.2) H hid (by omega) (by omega) q1 q2 (hnew _ (aLE hp)) (fun b' o hb' hl' hne=>?_) hB (DV (by omega) hn e.2 hs.1)
  . have:=ih (j+1) _ (by simp at hj;omega) H2 (fun b o hb=>?_) hs.2 (fun i p e' a b=>hF (i+1) p e' (by rw[show j+(i+1)=j+1+i by omega];exact a) (by simpa using b))
    . show @aQ G0 w0 ρ cx ⟨aL5 (L+j+1) F (setH h (L+j) (.row e.2 e.1)),n⟩ w;exact this
    by_cases q:b=L+j
    . omega
    rw[Tr.eF _ _ (aQK q)]at hb;have:=hlt b o hb;omega
  have hb:=hlt b' o hb';obtain⟨i,rfl⟩: ∃i,b'=L+i:=⟨b' - L,by omega⟩;rw[(hP i (by omega)).1];intro e;have h1:P[i]? =some (P.getD i 0):=by rw[aPH,aEH (by omega)];rfl
  rw[e]at h1;obtain⟨a1,a2⟩:=aEX.1 h1;obtain⟨b1,b2⟩:=aEX.1 hp;have:=(a0P hnd (h₀:=a1) (h₁:=b1)).1 (a2.trans b2.symm);omega
theorem aE3{N L m n g:Nat}{l:Value}{ρ:Env}{a:Act}{P:List Nat}(hg:g<n)(hρ:ρ.cp g=⟨0,0,l⟩)(hm:L+m<=n)(hP:ZX ρ L m P)(hsz:a.tmps.size=N):
 ∀S:List (Nat × AV),S.all (fun e=>RD g L m e.2)=true->(∀e ∈ YT L P l S,a.tmps[e.1]? =some e.2)->@iY G0 N ρ n a (QC S):=by
 intro S
 induction S with
 |nil=>intro _ _;exact @iY.mk G0 _ _ _ _ _ hsz (fun i v h=>absurd h (by rw[show QC []=nilA from rfl,YD];intro h;cases h))
 |cons e S ih=>
  intro hs hv;rw[aQN,aEx]at hs;have h1:=ih hs.2 (fun e' he'=>hv e' (aJj _ he'));have h2:a.tmps[e.1]? =some (dP L P l e.2):=hv (e.1,dP L P l e.2) (by show _ ∈ (e::S).map _;exact aHS);refine @iY.mk G0 _ _ _ _ _ hsz (fun i v h=>?_);have h:nS (NK (QC S) e.1 e.2) i=some v:=h
  by_cases q:e.1=i
  . subst q;rw[wF]at h;obtain rfl:=aOa h;have hlt:e.1<N:=by
     rw[<-hsz]
     by_cases c:e.1<a.tmps.size
     . exact c
     rw[aLF (by omega)]at h2;cases h2
    exact⟨aGB hg hm e.2 hs.1,hlt,by rw[h2,Q9 hρ hP e.2 hs.1]⟩
  rw[nR _ _ q]at h;exact @iY.val G0 _ _ _ _ _ h1 i v h
inductive NH where
 |leaf (e:Ex) (S:List (Nat × AV)) (F:AF)
 |no
 |node (c:Nat) (x y:AV) (t f:NH)
def NH.post(l:Value)(K:Ex->List (Nat × AV)->AF->Prop):NH->Prop
 | .leaf e S F=>K e S F
 | .no=>False
 | .node c x y t f=>(iU c (dS l x) (dS l y)=true->t.post l K)/\(iU c (dS l x) (dS l y)=false->f.post l K)
noncomputable def aSy(g L m:Nat)(t:TE)(e:Nat × AV):Bool:=band (RD g L m e.2) (Option.rec (motive:=fun _=>Bool) false (fun v=>eqS v e.2) (nS t e.1))
noncomputable def aGm(g L m:Nat)(e:TypeId × List AV):HO->Bool
 | .row c el=>band (Nat.beq el e.1) (band (TR c e.2) (pK g L m e.2))
 |_=>false
noncomputable def YE(g L m:Nat):Nat->AF->Tr HO->Bool
 |_,[],_=>true
 |b,e::t,h=>band (Option.rec (motive:=fun _=>Bool) false (fun o=>aGm g L m e o) (YC h b)) (YE g L m (b+1) t h)
noncomputable def aHL(g L m:Nat)(e:Ex)(S:List (Nat × AV))(F:AF)(x:Option (Ex × St)):Bool:=
 Option.rec (motive:=fun _=>Bool) false (fun p=>band (aPT p.1 e) (band (isNil p.2.d) (band (S.all (aSy g L F.length p.2.t)) (band (YE g L F.length L F p.2.s.h) (Nat.ble m F.length))))) x
theorem aH2{g L m:Nat}{h:Tr HO}: ∀ {F:AF} {b:Nat},YE g L m b F h=true-> ∀j e,F[j]? =some e->h.get (b+j)=some (.row e.2 e.1)/\pK g L m e.2=true:=by
 intro F
 induction F with
 |nil=>intro b _ j e he;simp at he
 | cons q F ih=>
  intro b hb j e he;obtain⟨h1,h2⟩:=aI (show band (Option.rec (motive:=fun _=>Bool) false (fun o=>aGm g L m q o) (YC h b)) (YE g L m (b+1) F h)=true from hb)
  cases j with
  | zero=>
   have:q=e:=by simpa using he
   subst this
   cases ho:YC h b with
   |none=>rw[ho]at h1;cases h1
   | some o=>
    rw[ho]at h1;have h1:aGm g L m q o=true:=h1
    match o,ho,h1 with
    | .row c el,ho,h1=>
     obtain⟨g1,g2⟩:=aI (show band (Nat.beq el q.1) (band (TR c q.2) (pK g L m q.2))=true from h1);obtain⟨g3,g4⟩:=aI g2;refine⟨?_,g4⟩;rw[aNa,<-aEU g1,<-uM _ _ g3];exact ho
  |succ j=>
   have:=ih h2 j e (by simpa using he);rw[show b+(j+1)=b+1+j by omega];exact this
section
variable(B:Tab)(l:Value)(ps:List IC)(os:List xM)(h0:Tr HO)(d g N fuel n:Nat)(c:Code)(S0:List (Nat × AV))(F0:AF)
noncomputable def aGx(fs:List QF):Option (Ex × St):=runN (code (tbL B l fs ps os) (sF (tbL B l fs ps os) d) ⟨⟨B.g.n,fun _=>⟨0,0,l⟩⟩,B.l,B.l,[]⟩ N none fuel) n c ⟨QC S0,⟨aL5 B.l F0 h0,B.l+F0.length⟩,[]⟩
noncomputable def NH.ok(T:NH):List QF->Bool:=
 NH.rec (motive:=fun _=>List QF->Bool) (fun e S F fs=>aHL g B.l F0.length e S F (aGx B l ps os h0 d N fuel n c S0 F0 fs)) (fun _=>true)
  (fun c x y _ _ iht ihf fs=>band (band (iC g x) (iC g y)) (band (iht ((c,x,y,true)::fs)) (ihf ((c,x,y,false)::fs)))) T
end
def Lg(w0:World)(N:Nat)(P:List Nat)(F:List Nat->List (TypeId × List Value))(S:List Nat->List (Nat × Value))(K:Act->World->Prop):Prop:=
 ∀P' a' w',(∀(j p:Nat),P[j]? =some p->P'[j]? =some p)->fK w0 N P' (F P') (S P') a' w'->K a' w'
theorem aGw{B:Tab}{w0 w:World}{l:Value}{ps:List IC}{os:List xM}{g d N fuel n:Nat}{h0:Tr HO}{c:Code}{S0:List (Nat × AV)}{F0:AF}{P:List Nat}{a:Act}{Q:Exit->Act->World->Prop}(hB:gX B w0)(hst:jK B.g.n B.l w0 h0)(hg:Nat.ble (g+1) B.g.n=true)
 (hp: ∀e ∈ ps,WG g e=true/\EP B.p l e) (ho: ∀e ∈ os,FT B g e=true/\wP B.p w0 l e) (hS:S0.all (fun e=>RD g B.l F0.length e.2)=true) (hF:F0.all (fun e=>pK g B.l F0.length e.2)=true)
 (hw:fK w0 N P (CO B.l P l F0) (YT B.l P l S0) a w) (T:NH):
 ∀fs,(∀e ∈ fs,aDg g l e)->T.ok B l ps os h0 d g N fuel n c S0 F0 fs=true->
  T.post l (fun e S F=>Lg w0 N P (fun P'=>CO B.l P' l F) (fun P'=>YT B.l P' l S) (RG B.p Q n c (LV e)))->c.wp B.p Q a w:=by
 induction T with
 | leaf e S F=>
  intro fs hf h hq;have h:aHL g B.l F0.length e S F (aGx B l ps os h0 d N fuel n c S0 F0 fs)=true:=h
  cases hr:aGx B l ps os h0 d N fuel n c S0 F0 fs with
  |none=>rw[hr]at h;cases h
  | some p=>
   rw[hr]at h;obtain⟨e',st'⟩:=p;obtain⟨h1,h2⟩:=aI (show band (aPT e' e) (band (isNil st'.d) (band (S.all (aSy g B.l F.length st'.t)) (band (YE g B.l F.length B.l F st'.s.h) (Nat.ble F0.length F.length))))=true from h);obtain⟨h3,h4⟩:=aI h2;obtain⟨h5,h6⟩:=aI h4;obtain⟨h7,h8⟩:=aI h6;have h1:=aLs h1;subst h1;obtain⟨ρ,hs⟩:=hst (fun _=>⟨0,0,l⟩) w hw.below;have hg':g<B.g.n:=by have:=aIl hg;omega
   have hlen:P.length=F0.length:=by have:=hw.fr.1;simpa[CO]using this
   have hgl:g<B.l:=aFz hg' (@aQ.gn G0 _ _ _ _ _ hs);obtain⟨ρ1,hs0,ext,hP⟩:=VH (w:=w) rfl P ρ _ hs;have hs0:@aQ G0 w0 ρ1 ⟨⟨B.g.n,fun _=>⟨0,0,l⟩⟩,B.l,B.l,[]⟩ ⟨h0,B.l+P.length⟩ w:=hs0;have hP1:ZX ρ1 B.l F0.length P:=fun j hj=>hP j (by omega);have OC:ρ1.cp g=⟨0,0,l⟩:=(@aQ.gl G0 _ _ _ _ _ hs0 g hg').2.2;rw[hlen]at hs0;have hs1:=VI (g:=g) (l:=l) (P:=P) (m:=F0.length) rfl rfl hgl OC hlen (aDT _) hP1 hw.nd hw.new F0 0 h0 (by omega) hs0 (fun b o hb=>@aQ.lt G0 _ _ _ _ _ hs b o hb) hF (fun i p e a b=>by
    rw[aHv]at a;exact hw.fr.2 i p (e.1,e.2.map (dP B.l P l)) a (by rw[CO,aFx,b];rfl))
   rw[aNa]at hs1;have hT:=aAh hB hg hf hp ho;have ht:@iY G0 N ρ1 (B.l+F0.length) a (QC S0):=aE3 (g:=g) (aFz hgl (aXo _ _)) OC (aDT _) hP1 hw.size S0 hS hw.val;refine aAw (Q:=Q) hT (MO hT d) (MP d) rfl rfl n c _ _ _ hr ρ1 w a hs1 ht (by rw[hw.defs];trivial) (fun ρ2 w2 a2 S2 T2 D2=>?_);have aDA:=@Stp.sat G0 _ _ _ _ _ _ _ _ S2;have aZr:=@Stp.ext G0 _ _ _ _ _ _ _ _ S2;have hρ2:ρ2.cp g=⟨0,0,l⟩:=(@aQ.gl G0 _ _ _ _ _ aDA g hg').2.2;have hmF:F0.length<=F.length:=aIl h8;have hrow: ∀j,j<F.length-> ∃q,F[j]? =some q/\st'.s.h.get (B.l+j)=some (.row q.2 q.1)/\pK g B.l F.length q.2=true:=fun j hj=>by
    obtain⟨hc,hsy⟩:=aH2 h7 j _ (aEH hj);exact⟨_,aEH hj,hc,hsy⟩
   obtain⟨P',hP'⟩: ∃P',P'=(List.range F.length).map fun j=>ρ2.blk (B.l+j):=⟨_,rfl⟩;have hat: ∀j,j<F.length->P'[j]? =some (ρ2.blk (B.l+j)):=fun j hj=>by rw[hP',aFx,aQB hj];rfl
   have hin: ∀j p,P'[j]? =some p->j<F.length/\p=ρ2.blk (B.l+j):=fun j p hp=>by
    by_cases c:j<F.length
    . rw[hat j c]at hp;exact⟨c,(aOa hp).symm⟩
    rw[hP',aTZ (by simp;omega)]at hp;cases hp
   have hB2:ZX ρ2 B.l F.length P':=fun j hj=>by
    obtain⟨q,_,hq2,_⟩:=hrow j hj;obtain⟨ho',_⟩:=@aQ.obj G0 _ _ _ _ _ aDA (B.l+j) _ hq2;exact⟨by rw[aPH,hat j hj];rfl,ho'⟩
   refine hq P' a2 w2 (fun j p hp=>?_) ?_
   . have hj:j<F0.length:=by
      rw[<-hlen]
      by_cases c:j<P.length
      . exact c
      rw[aTZ (by omega)]at hp;cases hp
     have e2:=aZr (B.l+j) (by show B.l+j<B.l+F0.length;omega);rw[hat j (by omega),e2.1,(hP1 j hj).1,aPH,hp];rfl
   refine⟨@aQ.below G0 _ _ _ _ _ aDA,fun p hp=>?_,?_,⟨?_,fun j p e hp he=>?_⟩,@iY.size G0 _ _ _ _ _ T2,?_,fun e he=>?_⟩
   . obtain⟨j,hj⟩:=aUh hp;obtain⟨k1,rfl⟩:=hin j p hj;obtain⟨q,_,hq2,_⟩:=hrow j k1;exact @aQ.new G0 _ _ _ _ _ aDA (B.l+j) _ hq2 (aXo _ _)
   . rw[hP',List.Nodup,List.pairwise_map,a1J];intro i j hi hj hij e;simp only[List.getElem_range,List.length_range]at hi hj e;obtain⟨q,_,hq2,_⟩:=hrow i hi;obtain⟨q',_,aYZ,_⟩:=hrow j hj;have:=@aQ.inj G0 _ _ _ _ _ aDA _ _ _ _ hq2 aYZ (aXo _ _) (aXo _ _) e;omega
   . rw[hP'];simp[CO]
   . obtain⟨k1,rfl⟩:=hin j p hp;obtain⟨q,hq1,hq2,hsy⟩:=hrow j k1;have he':e=(q.1,q.2.map (dP B.l P' l)):=by
      have he:(CO B.l P' l F)[j]? =some e:=he;rw[CO,aFx,hq1]at he;exact(aOa he).symm
     subst he';obtain⟨_,cc,fr,o1,o2,o3,_⟩:=@aQ.obj G0 _ _ _ _ _ aDA (B.l+j) _ hq2;refine⟨cc,fr,o1,o2,?_⟩;rw[o3,<-dQ,tX hρ2 hB2 _ hsy,aIw]
   . cases hd:st'.d with
     |nil=>
      rw[hd]at D2
      cases hy:a2.defers with
      |nil=>rfl
      |cons x l=>rw[hy]at D2;exact D2.elim
     |cons x l=>rw[hd]at h3;cases h3
   obtain⟨⟨i,sv⟩,hm,rfl⟩:=aMm.1 he;have hb:=aJr.1 h5 _ hm;obtain⟨b1,b2⟩:=aI (show band (RD g B.l F.length sv) (Option.rec (motive:=fun _=>Bool) false (fun v=>eqS v sv) (nS st'.t i))=true from hb)
   cases hv:nS st'.t i with
   |none=>rw[hv]at b2;cases b2
   |some v=>
    rw[hv]at b2;have b2:=uK _ _ (show eqS v sv=true from b2);obtain⟨_,_,k3⟩:=@iY.val G0 _ _ _ _ _ T2 i v hv;show a2.tmps[i]? =some (dP B.l P' l sv);rw[k3,b2,Q9 hρ2 hB2 sv b1]
 |no=>intro fs _ _ h;exact h.elim
 | node c x y t u iht ihu=>
  intro fs hf h hl;obtain⟨h1,h2⟩:=aI (show band (band (iC g x) (iC g y)) (band (t.ok B l ps os h0 d g N fuel n _ S0 F0 ((c,x,y,true)::fs)) (u.ok B l ps os h0 d g N fuel n _ S0 F0 ((c,x,y,false)::fs)))=true from h);obtain⟨h3,h4⟩:=aI h1;obtain⟨h5,h6⟩:=aI h2
  cases hb:iU c (dS l x) (dS l y)with
  | true=>
   exact iht _ (fun e he=>by
    rcases aGv.1 he with rfl|he
    . exact⟨h3,h4,hb⟩
    exact hf e he) h5 (hl.1 hb)
  | false=>
   exact ihu _ (fun e he=>by
    rcases aGv.1 he with rfl|he
    . exact⟨h3,h4,hb⟩
    exact hf e he) h6 (hl.2 hb)
noncomputable def ppB(B:Tab)(ps:List IC)(os:List xM)(g:Nat)(S0:List (Nat × AV))(F0:AF):Bool:=band (Nat.ble (g+1) B.g.n) (band (ps.all (WG g)) (band (os.all (FT B g)) (band (S0.all fun e=>RD g B.l F0.length e.2) (F0.all fun e=>pK g B.l F0.length e.2))))
theorem lI{B:Tab}{w0 w:World}{l:Value}{ps:List IC}{os:List xM}{g d N fuel n:Nat}{h0:Tr HO}{c:Code}{S0:List (Nat × AV)}{F0:AF}{P:List Nat}{a:Act}{Q:Exit->Act->World->Prop}{T:NH}{LP:List (TypeId × Value × Value × Value)}{LO:List (FuncId × Array Value × Value)}{FV:List (TypeId × List Value)}{SVs:List (Nat × Value)}{PP:Prop}
 (h:T.ok B l ps os h0 d g N fuel n c S0 F0 []=true) (hB:gX B w0) (hst:jK B.g.n B.l w0 h0) (hp:OpS B.p LP) (ho:OrS B.p w0 LO) (hw:fK w0 N P FV SVs a w) (hl:PP)
 (hc:(ppB B ps os g S0 F0,ps.map (fun e=>(e.1,dS l e.2.1,dS l e.2.2.1,dS l e.2.2.2)),os.map (fun e=>(e.1,(e.2.1.map (dS l)).toArray,dS l e.2.2)),CO B.l P l F0,YT B.l P l S0,T.post l (fun e S F=>Lg w0 N P (fun P'=>CO B.l P' l F) (fun P'=>YT B.l P' l S) (RG B.p Q n c (LV e))))=(true,LP,LO,FV,SVs,PP)):c.wp B.p Q a w:=by
 simp only[aNl]at hc;obtain⟨hc,e3,e4,e1,e2,e5⟩:=hc;obtain⟨c1,c⟩:=aI hc;obtain⟨c2,c⟩:=aI c;obtain⟨c3,c⟩:=aI c;obtain⟨c4,c5⟩:=aI c;subst e1 e2 e3 e4;rw[<-e5]at hl;refine aGw hB hst c1 (fun e he=>⟨aJr.1 c2 e he,?_⟩) (fun e he=>⟨aJr.1 c3 e he,ho.all _ (aYQ he)⟩) c4 c5 hw T [] (fun e he=>by cases he) h hl;obtain⟨z,hz,q,g⟩:=hp.all _ (aYQ he);exact zC (fun ox oy w=>(g ox oy w).1) (fun ox oy w=>(g ox oy w).2) z hz q.1 q.2
end Ev
end
section
open Go.RowKit Go.Lib
namespace Sk
open Ev (jK DT LG rH fA hp tb0 aN iD aBn KH aBm l_b l_s iI aX AV IC xM dS aJ aS bT zC fK RG fH qZ)
open Bk (Dt eP)
open Ev (NH Lg lI)
noncomputable def ER:Code:=match(Tryz.f63).body with
 |some c=>c
 |none=>.skip
noncomputable def qM:Code:=match(Tryz.f39).body with
 |some c=>c
 |none=>.skip
abbrev zdL:List Value:=[(.bool false),(.bool false),(.string ⟨#[]⟩),(.int .i64 0),(.int .i64 0),(.string ⟨#[]⟩),(.string ⟨#[]⟩),(.int .u8 0),(.int .u8 0),(.int .u8 0)]
abbrev zbL:List Value:=[(.int .u8 0),(.bool false),(.bool false),(.string ⟨#[]⟩),(.int .i64 0),(.int .i64 0),(.string ⟨#[]⟩),(.string ⟨#[]⟩),(.int .u8 0),(.int .u8 0),(.int .u8 0)]
abbrev pb(P:List Nat)(j:Nat):Value:=.pointer (some ⟨P.getD j 0,0,none⟩)
abbrev FX(kd:Int)(d:Dt)(fk:Int)(f:Dt)(tk:Int)(t:Dt)(bs:Option Addr)(n:Nat)(cp:Nat)(ey:Bool)(lt:Bool)(last:Int)(i:Int)(x:Dt)(rg:Bool)(y:Dt):List Nat->List (Nat × List Value):=fun P=>[(35,(jI kd d fk f tk t (.slice bs n cp) ey lt)),(3,[(.int .i64 last)]),(3,[(.int .i64 i)]),(79,(yS x rg y))]
abbrev LK(kd:Int)(d:Dt)(fk:Int)(f:Dt)(tk:Int)(t:Dt)(bs:Option Addr)(n:Nat)(cp:Nat)(ey:Bool)(lt:Bool)(x:Dt)(rg:Bool)(y:Dt):List Nat->List (Nat × List Value):=fun P=>[(35,(jI kd d fk f tk t (.slice bs n cp) ey lt)),(30,zdL),(32,zbL),(79,(yS x rg y))]
abbrev zN(kd:Int)(d:Dt)(fk:Int)(f:Dt)(tk:Int)(t:Dt)(bs:Option Addr)(n:Nat)(cp:Nat)(ey:Bool)(lt:Bool):List Nat->List (Nat × List Value):=fun P=>[(35,(jI kd d fk f tk t (.slice bs n cp) ey lt)),(30,zdL),(32,zbL)]
abbrev LJ(bs:Option Addr)(n:Nat)(cp:Nat)(i:Int):List Nat->List (Nat × Value):=fun P=>[(1,(pb P 0)),(2,(.int .i64 0)),(3,(.int .i64 0)),(4,(pb P 1)),(13,(.slice bs n cp)),(14,(.int .i64 ((n:Nat):Int))),(15,(.int .i64 i))]
abbrev fr4(i:Int)(bs:Option Addr)(n:Nat)(cp:Nat):List Nat->List (Nat × Value):=fun P=>[(1,(pb P 0)),(2,(.int .i64 i)),(3,(.int .i64 10)),(4,(pb P 1)),(13,(.slice bs n cp)),(14,(.int .i64 ((n:Nat):Int))),(15,(.int .i64 i))]
abbrev fr5(i:Int):List Nat->List (Nat × Value):=fun P=>[(1,(pb P 0)),(2,(.int .i64 i)),(3,(.int .i64 10)),(7,(.int .i64 i))]
abbrev fr6(i:Int):List Nat->List (Nat × Value):=fun P=>[(1,(pb P 0)),(2,(.int .i64 0)),(3,(.int .i64 0)),(7,(.int .i64 i))]
abbrev fr7(kd:Int)(d:Dt)(fk:Int)(f:Dt)(tk:Int)(t:Dt)(bs:Option Addr)(n:Nat)(cp:Nat)(ey:Bool)(lt:Bool)(last:Int):List Nat->List (Nat × List Value):=fun P=>[(35,(jI kd d fk f tk t (.slice bs n cp) ey lt)),(3,[(.int .i64 last)])]
abbrev fr8:List Nat->List (Nat × Value):=fun P=>[(1,(pb P 0)),(2,(.int .i64 0)),(3,(.int .i64 5))]
abbrev eK:List AV:=[(qu 0),(qb 1),(qb 2),(qs 3),(qi 4),(qi 5),(qs 6),(qs 7),(qu 8),(qu 9),(qu 10),(qu 11),(qb 12),(qb 13),(qs 14),(qi 15),(qi 16),(qs 17),(qs 18),(qu 19),(qu 20),(qu 21),(qu 22),(qb 23),(qb 24),(qs 25),(qi 26),(qi 27),(qs 28),(qs 29),(qu 30),(qu 31),(qu 32),(iI 33),(qb 34),(qb 35)]
abbrev iK:List AV:=[(qb 36),(qb 37),(qs 38),(qi 39),(qi 40),(qs 41),(qs 42),(qu 43),(qu 44),(qu 45),(qb 46),(qb 47),(qb 48),(qs 49),(qi 50),(qi 51),(qs 52),(qs 53),(qu 54),(qu 55),(qu 56)]
abbrev dK:List AV:=[qf,qf,(.v (.string ⟨#[]⟩)),qz,qz,(.v (.string ⟨#[]⟩)),(.v (.string ⟨#[]⟩)),(.v (.int .u8 0)),(.v (.int .u8 0)),(.v (.int .u8 0))]
abbrev bK:List AV:=[(.v (.int .u8 0)),qf,qf,(.v (.string ⟨#[]⟩)),qz,qz,(.v (.string ⟨#[]⟩)),(.v (.string ⟨#[]⟩)),(.v (.int .u8 0)),(.v (.int .u8 0)),(.v (.int .u8 0))]
def yi0:AV:=aX 8 .i64 [(iI 33)]
def yi1:AV:=aX 8 .i64 [(iI 32)]
def yi2:AV:=.dG [qz,(.v (.int .i64 5))]
def yi3:AV:=.dG [qz,(.v (.int .i64 18))]
def yi4:AV:=aX 2 .i64 [yi0,(.v (.int .i64 1))]
def yi5:List AV:=[(qb 0),(qb 1),(qs 2),(qi 3),(qi 4),(qs 5),(qs 6),(qu 7),(qu 8),(qu 9)]
def yi6:List AV:=[(qu 10),(qb 11),(qb 12),(qs 13),(qi 14),(qi 15),(qs 16),(qs 17),(qu 18),(qu 19),(qu 20)]
def yi7:List AV:=[(qu 21),(qb 22),(qb 23),(qs 24),(qi 25),(qi 26),(qs 27),(qs 28),(qu 29),(qu 30),(qu 31)]
def yi8:List AV:=[.v (.int .u8 0),(qb 0),(qb 1),(qs 2),(qi 3),(qi 4),(qs 5),(qs 6),(qu 7),(qu 8),(qu 9),(qu 10),(qb 11),(qb 12),(qs 13),(qi 14),(qi 15),(qs 16),(qs 17),(qu 18),(qu 19),(qu 20),(qu 21),(qb 22),(qb 23),(qs 24),(qi 25),(qi 26),(qs 27),(qs 28),(qu 29),(qu 30),(qu 31),(iI 32),(qb 33),(qb 34)]
def yi9:List AV:=[.v (.int .u8 1),(qb 0),(qb 1),(qs 2),(qi 3),(qi 4),(qs 5),(qs 6),(qu 7),(qu 8),(qu 9),(qu 10),(qb 11),(qb 12),(qs 13),(qi 14),(qi 15),(qs 16),(qs 17),(qu 18),(qu 19),(qu 20),(qu 21),(qb 22),(qb 23),(qs 24),(qi 25),(qi 26),(qs 27),(qs 28),(qu 29),(qu 30),(qu 31),(iI 32),(qb 33),(qb 34)]
def aJL:List AV:=[.v (.int .u8 2),(qb 0),(qb 1),(qs 2),(qi 3),(qi 4),(qs 5),(qs 6),(qu 7),(qu 8),(qu 9),(qu 10),(qb 11),(qb 12),(qs 13),(qi 14),(qi 15),(qs 16),(qs 17),(qu 18),(qu 19),(qu 20),(qu 21),(qb 22),(qb 23),(qs 24),(qi 25),(qi 26),(qs 27),(qs 28),(qu 29),(qu 30),(qu 31),(iI 32),(qb 33),(qb 34)]
def aJK:List AV:=[.v (.int .u8 3),(qb 0),(qb 1),(qs 2),(qi 3),(qi 4),(qs 5),(qs 6),(qu 7),(qu 8),(qu 9),(qu 10),(qb 11),(qb 12),(qs 13),(qi 14),(qi 15),(qs 16),(qs 17),(qu 18),(qu 19),(qu 20),(qu 21),(qb 22),(qb 23),(qs 24),(qi 25),(qi 26),(qs 27),(qs 28),(qu 29),(qu 30),(qu 31),(iI 32),(qb 33),(qb 34)]
def aJJ:List AV:=[.v (.int .u8 4),(qb 0),(qb 1),(qs 2),(qi 3),(qi 4),(qs 5),(qs 6),(qu 7),(qu 8),(qu 9),(qu 10),(qb 11),(qb 12),(qs 13),(qi 14),(qi 15),(qs 16),(qs 17),(qu 18),(qu 19),(qu 20),(qu 21),(qb 22),(qb 23),(qs 24),(qi 25),(qi 26),(qs 27),(qs 28),(qu 29),(qu 30),(qu 31),(iI 32),(qb 33),(qb 34)]
def aVl:NH:=(.leaf .normal [(1,(.ptr 15 0)),(2,qz),(3,qz),(4,(.ptr 16 0))] [(35,eK),(3,[yi4])])
theorem aOK(l:Value):aVl.ok rH l [] [] hp 60 LG 39 60 2 (ER) [(0,.agg eK)] [] []=true:=by kernel_rfl
theorem xiA(d f t:Dt)(bs:Option Addr)(n cp:Nat)(kd:Int)(fk:Int)(tk:Int)(ey:Bool)(lt:Bool){w0 w:World}{P:List Nat}{a0:Act}{Q:Exit->Act->World->Prop}(hst:SS w0) (hw:fK w0 39 P [] [(0,(exV kd d fk f tk t (.slice bs n cp) ey lt))] a0 w)(HP:Lg w0 39 P (fun P=>[(35,(jI kd d fk f tk t (.slice bs n cp) ey lt)),(3,[(.int .i64 (IntKind.i64.wrap (((n:Nat):Int) - 1)))])]) (fun P=>[(1,(pb P 0)),(2,(.int .i64 0)),(3,(.int .i64 0)),(4,(pb P 1))]) (RG Tryz.prog Q 2 (ER) .normal)):(ER).wp Tryz.prog Q a0 w:=
 lI (aOK (lv (jI kd d fk f tk t (.slice bs n cp) ey lt) [])) (fA w0) hst .nil .nil hw HP (by kernel_rfl)
def aVk:NH:=(.leaf .normal [(1,(.ptr 15 0)),(2,qz),(3,qz),(4,(.ptr 16 0)),(13,(iI 33)),(14,yi0),(15,qz)] [(35,eK),(3,[(qi 36)])])
theorem aOJ(l:Value):aVk.ok rH l [] [] hp 60 LG 39 60 0 (fH [1,1,0,0] ER) [(1,.ptr 15 0),(2,qz),(3,qz),(4,.ptr 16 0)] [(35,eK),(3,[(qi 36)])] []=true:=by kernel_rfl
theorem xiB(d f t:Dt)(bs:Option Addr)(n cp:Nat)(kd:Int)(fk:Int)(tk:Int)(ey:Bool)(lt:Bool)(last:Int){w0 w:World}{P:List Nat}{a0:Act}{Q:Exit->Act->World->Prop}(hst:SS w0) (hw:fK w0 39 P [(35,(jI kd d fk f tk t (.slice bs n cp) ey lt)),(3,[(.int .i64 last)])] [(1,(pb P 0)),(2,(.int .i64 0)),(3,(.int .i64 0)),(4,(pb P 1))] a0 w)(HP:Lg w0 39 P (fr7 kd d fk f tk t bs n cp ey lt last) (fun P=>[(1,(pb P 0)),(2,(.int .i64 0)),(3,(.int .i64 0)),(4,(pb P 1)),(13,(.slice bs n cp)),(14,(.int .i64 ((n:Nat):Int))),(15,(.int .i64 0))]) (Q .normal)):(fH [1,1,0,0] ER).wp Tryz.prog Q a0 w:=
 lI (aOJ (lv (jI kd d fk f tk t (.slice bs n cp) ey lt) [.int .i64 last])) (fA w0) hst .nil .nil hw HP (by kernel_rfl)
def aVi:NH:=(.node 1 (qi 38) (qi 37) (.leaf .normal [(1,(.ptr 15 0)),(2,qz),(3,qz),(4,(.ptr 16 0)),(13,(iI 33)),(14,(qi 37)),(15,(qi 38)),(16,qt)] [(35,eK),(3,[(qi 36)])]) (.leaf .normal [(1,(.ptr 15 0)),(2,qz),(3,qz),(4,(.ptr 16 0)),(13,(iI 33)),(14,(qi 37)),(15,(qi 38)),(16,qf)] [(35,eK),(3,[(qi 36)])]))
theorem aOH(l:Value):aVi.ok rH l [] [] hp 60 LG 39 60 0 (fH [1,1,0,1,0,0,0] ER) [(1,.ptr 15 0),(2,qz),(3,qz),(4,.ptr 16 0),(13,(iI 33)),(14,(qi 37)),(15,(qi 38))] [(35,eK),(3,[(qi 36)])] []=true:=by kernel_rfl
theorem xiH(d f t:Dt)(bs:Option Addr)(n cp:Nat)(kd:Int)(fk:Int)(tk:Int)(ey:Bool)(lt:Bool)(last:Int)(i:Int){w0 w:World}{P:List Nat}{a0:Act}{Q:Exit->Act->World->Prop}(hst:SS w0) (hw:fK w0 39 P [(35,(jI kd d fk f tk t (.slice bs n cp) ey lt)),(3,[(.int .i64 last)])] [(1,(pb P 0)),(2,(.int .i64 0)),(3,(.int .i64 0)),(4,(pb P 1)),(13,(.slice bs n cp)),(14,(.int .i64 ((n:Nat):Int))),(15,(.int .i64 i))] a0 w)(HP:(((decide (i<((n:Nat):Int)))=true->Lg w0 39 P (fr7 kd d fk f tk t bs n cp ey lt last) (fun P=>[(1,(pb P 0)),(2,(.int .i64 0)),(3,(.int .i64 0)),(4,(pb P 1)),(13,(.slice bs n cp)),(14,(.int .i64 ((n:Nat):Int))),(15,(.int .i64 i)),(16,(.bool true))]) (Q .normal))/\((decide (i<((n:Nat):Int)))=false->Lg w0 39 P (fr7 kd d fk f tk t bs n cp ey lt last) (fun P=>[(1,(pb P 0)),(2,(.int .i64 0)),(3,(.int .i64 0)),(4,(pb P 1)),(13,(.slice bs n cp)),(14,(.int .i64 ((n:Nat):Int))),(15,(.int .i64 i)),(16,(.bool false))]) (Q .normal)))):(fH [1,1,0,1,0,0,0] ER).wp Tryz.prog Q a0 w:=
 lI (aOH (lv (jI kd d fk f tk t (.slice bs n cp) ey lt) [.int .i64 last,.int .i64 ((n:Nat):Int),.int .i64 i])) (fA w0) hst .nil .nil hw HP (by kernel_rfl)
def aVh:NH:=(.node 0 (qi 60) qz (.node 3 (qb 34) (qb 34) (.node 0 (qi 59) qz (.node 3 (qb 61) (qb 61) (.node 3 (qb 35) (qb 35) (.node 0 (qi 59) (qi 57) (.node 0 (qi 57) qz (.leaf .ret [(1,(.ptr 15 0)),(2,(qi 59)),(3,(.v (.int .i64 10))),(4,(.ptr 16 0)),(13,(iI 33)),(14,(qi 58)),(15,(qi 59))] [(35,eK),(3,[(qi 57)]),(3,[(qi 59)]),(79,iK)]) (.leaf .normal [(1,(.ptr 15 0)),(2,qz),(3,qz),(4,(.ptr 16 0)),(13,(iI 33)),(14,(qi 58)),(15,(qi 59))] [(35,eK),(3,[(qi 57)]),(3,[(qi 59)]),(79,iK)])) (.node 0 (qi 57) qz (.leaf .ret [(1,(.ptr 15 0)),(2,(qi 59)),(3,(.v (.int .i64 10))),(4,(.ptr 16 0)),(13,(iI 33)),(14,(qi 58)),(15,(qi 59))] [(35,eK),(3,[(qi 57)]),(3,[(qi 59)]),(79,iK)]) (.leaf .normal [(1,(.ptr 15 0)),(2,qz),(3,qz),(4,(.ptr 16 0)),(13,(iI 33)),(14,(qi 58)),(15,(qi 59))] [(35,eK),(3,[(qi 57)]),(3,[(qi 59)]),(79,iK)]))) (.leaf .normal [(1,(.ptr 15 0)),(2,qz),(3,qz),(4,(.ptr 16 0)),(13,(iI 33)),(14,(qi 58)),(15,(qi 59))] [(35,eK),(3,[(qi 57)]),(3,[(qi 59)]),(79,iK)])) (.leaf .ret [(1,(.ptr 15 0)),(2,(qi 59)),(3,(.v (.int .i64 10))),(4,(.ptr 16 0)),(13,(iI 33)),(14,(qi 58)),(15,(qi 59))] [(35,eK),(3,[(qi 57)]),(3,[(qi 59)]),(79,iK)])) (.node 3 (qb 35) (qb 35) (.node 0 (qi 59) (qi 57) (.node 3 (qb 61) (qb 61) (.node 0 (qi 57) qz (.leaf .ret [(1,(.ptr 15 0)),(2,(qi 59)),(3,(.v (.int .i64 10))),(4,(.ptr 16 0)),(13,(iI 33)),(14,(qi 58)),(15,(qi 59))] [(35,eK),(3,[(qi 57)]),(3,[(qi 59)]),(79,iK)]) (.leaf .normal [(1,(.ptr 15 0)),(2,qz),(3,qz),(4,(.ptr 16 0)),(13,(iI 33)),(14,(qi 58)),(15,(qi 59))] [(35,eK),(3,[(qi 57)]),(3,[(qi 59)]),(79,iK)])) (.leaf .ret [(1,(.ptr 15 0)),(2,(qi 59)),(3,(.v (.int .i64 10))),(4,(.ptr 16 0)),(13,(iI 33)),(14,(qi 58)),(15,(qi 59))] [(35,eK),(3,[(qi 57)]),(3,[(qi 59)]),(79,iK)])) (.node 0 (qi 57) qz (.leaf .ret [(1,(.ptr 15 0)),(2,(qi 59)),(3,(.v (.int .i64 10))),(4,(.ptr 16 0)),(13,(iI 33)),(14,(qi 58)),(15,(qi 59))] [(35,eK),(3,[(qi 57)]),(3,[(qi 59)]),(79,iK)]) (.leaf .normal [(1,(.ptr 15 0)),(2,qz),(3,qz),(4,(.ptr 16 0)),(13,(iI 33)),(14,(qi 58)),(15,(qi 59))] [(35,eK),(3,[(qi 57)]),(3,[(qi 59)]),(79,iK)]))) (.leaf .normal [(1,(.ptr 15 0)),(2,qz),(3,qz),(4,(.ptr 16 0)),(13,(iI 33)),(14,(qi 58)),(15,(qi 59))] [(35,eK),(3,[(qi 57)]),(3,[(qi 59)]),(79,iK)]))) (.node 3 (qb 35) (qb 35) (.node 0 (qi 59) (qi 57) (.node 3 (qb 61) (qb 61) (.leaf .normal [(1,(.ptr 15 0)),(2,qz),(3,qz),(4,(.ptr 16 0)),(13,(iI 33)),(14,(qi 58)),(15,(qi 59))] [(35,eK),(3,[(qi 57)]),(3,[(qi 59)]),(79,iK)]) (.leaf .ret [(1,(.ptr 15 0)),(2,(qi 59)),(3,(.v (.int .i64 10))),(4,(.ptr 16 0)),(13,(iI 33)),(14,(qi 58)),(15,(qi 59))] [(35,eK),(3,[(qi 57)]),(3,[(qi 59)]),(79,iK)])) (.leaf .normal [(1,(.ptr 15 0)),(2,qz),(3,qz),(4,(.ptr 16 0)),(13,(iI 33)),(14,(qi 58)),(15,(qi 59))] [(35,eK),(3,[(qi 57)]),(3,[(qi 59)]),(79,iK)])) (.leaf .normal [(1,(.ptr 15 0)),(2,qz),(3,qz),(4,(.ptr 16 0)),(13,(iI 33)),(14,(qi 58)),(15,(qi 59))] [(35,eK),(3,[(qi 57)]),(3,[(qi 59)]),(79,iK)]))) (.leaf .ret [(1,(.ptr 15 0)),(2,(qi 59)),(3,(qi 60)),(4,(.ptr 16 0)),(13,(iI 33)),(14,(qi 58)),(15,(qi 59))] [(35,eK),(3,[(qi 57)]),(3,[(qi 59)]),(79,iK)]))
theorem aOG(l:Value):aVh.ok rH l [] [(103,[.agg iK,(qu 0)],(qi 60)),(106,[.agg iK],(qb 61))] hp 60 LG 39 60 0 (fH [1,1,0,1,0,0,1,1,0,0,1] ER) [(1,.ptr 15 0),(2,qz),(3,qz),(4,.ptr 16 0),(13,(iI 33)),(14,(qi 58)),(15,(qi 59)),(5,.ptr 17 0),(6,.ptr 18 0)] [(35,eK),(3,[(qi 57)]),(3,[(qi 59)]),(79,iK)] []=true:=by kernel_rfl
theorem xiR(d f t x y:Dt)(bs:Option Addr)(n cp:Nat)(kd:Int)(fk:Int)(tk:Int)(ey:Bool)(lt:Bool)(rg:Bool)(last:Int)(i:Int)(e:Int)(pl:Bool){w0 w:World}{P:List Nat}{a0:Act}{Q:Exit->Act->World->Prop}(hst:SS w0) (H0:Same w0 103 #[(itV x rg y),(.int .u8 kd)] (.int .i64 e))(H1:Same w0 106 #[(itV x rg y)] (.bool pl))(hw:fK w0 39 P [(35,(jI kd d fk f tk t (.slice bs n cp) ey lt)),(3,[(.int .i64 last)]),(3,[(.int .i64 i)]),(79,(yS x rg y))] [(1,(pb P 0)),(2,(.int .i64 0)),(3,(.int .i64 0)),(4,(pb P 1)),(13,(.slice bs n cp)),(14,(.int .i64 ((n:Nat):Int))),(15,(.int .i64 i)),(5,(pb P 2)),(6,(pb P 3))] a0 w)(HP:(((e==0)=true->((ey=true->(((i==0)=true->((pl=true->((lt=true->(((i==last)=true->(((last==0)=true->Lg w0 39 P (FX kd d fk f tk t bs n cp ey lt last i x rg y) (fr4 i bs n cp) (Q .ret))/\((last==0)=false->Lg w0 39 P (FX kd d fk f tk t bs n cp ey lt last i x rg y) (LJ bs n cp i) (Q .normal))))/\((i==last)=false->(((last==0)=true->Lg w0 39 P (FX kd d fk f tk t bs n cp ey lt last i x rg y) (fr4 i bs n cp) (Q .ret))/\((last==0)=false->Lg w0 39 P (FX kd d fk f tk t bs n cp ey lt last i x rg y) (LJ bs n cp i) (Q .normal))))))/\(lt=false->Lg w0 39 P (FX kd d fk f tk t bs n cp ey lt last i x rg y) (LJ bs n cp i) (Q .normal))))/\(pl=false->Lg w0 39 P (FX kd d fk f tk t bs n cp ey lt last i x rg y) (fr4 i bs n cp) (Q .ret))))/\((i==0)=false->((lt=true->(((i==last)=true->((pl=true->(((last==0)=true->Lg w0 39 P (FX kd d fk f tk t bs n cp ey lt last i x rg y) (fr4 i bs n cp) (Q .ret))/\((last==0)=false->Lg w0 39 P (FX kd d fk f tk t bs n cp ey lt last i x rg y) (LJ bs n cp i) (Q .normal))))/\(pl=false->Lg w0 39 P (FX kd d fk f tk t bs n cp ey lt last i x rg y) (fr4 i bs n cp) (Q .ret))))/\((i==last)=false->(((last==0)=true->Lg w0 39 P (FX kd d fk f tk t bs n cp ey lt last i x rg y) (fr4 i bs n cp) (Q .ret))/\((last==0)=false->Lg w0 39 P (FX kd d fk f tk t bs n cp ey lt last i x rg y) (LJ bs n cp i) (Q .normal))))))/\(lt=false->Lg w0 39 P (FX kd d fk f tk t bs n cp ey lt last i x rg y) (LJ bs n cp i) (Q .normal))))))/\(ey=false->((lt=true->(((i==last)=true->((pl=true->Lg w0 39 P (FX kd d fk f tk t bs n cp ey lt last i x rg y) (LJ bs n cp i) (Q .normal))/\(pl=false->Lg w0 39 P (FX kd d fk f tk t bs n cp ey lt last i x rg y) (fr4 i bs n cp) (Q .ret))))/\((i==last)=false->Lg w0 39 P (FX kd d fk f tk t bs n cp ey lt last i x rg y) (LJ bs n cp i) (Q .normal))))/\(lt=false->Lg w0 39 P (FX kd d fk f tk t bs n cp ey lt last i x rg y) (LJ bs n cp i) (Q .normal))))))/\((e==0)=false->Lg w0 39 P (FX kd d fk f tk t bs n cp ey lt last i x rg y) (fun P=>[(1,(pb P 0)),(2,(.int .i64 i)),(3,(.int .i64 e)),(4,(pb P 1)),(13,(.slice bs n cp)),(14,(.int .i64 ((n:Nat):Int))),(15,(.int .i64 i))]) (Q .ret)))):(fH [1,1,0,1,0,0,1,1,0,0,1] ER).wp Tryz.prog Q a0 w:=
 lI (aOG (lv (jI kd d fk f tk t (.slice bs n cp) ey lt++yS x rg y) [.int .i64 last,.int .i64 ((n:Nat):Int),.int .i64 i,.int .i64 e,.bool pl])) (fA w0) hst .nil (.cons H0 (.cons H1 .nil)) hw HP (by kernel_rfl)
def aVg:NH:=(.leaf .normal [(1,(.ptr 15 0)),(2,qz),(3,qz),(4,(.ptr 16 0)),(13,(iI 33)),(14,(qi 37)),(15,(aX 1 .i64 [(qi 38),(.v (.int .i64 1))]))] [(35,eK),(3,[(qi 36)])])
theorem aOF(l:Value):aVg.ok rH l [] [] hp 60 LG 39 60 0 (fH [1,1,0,1,0,0,1,1,1] ER) [(1,.ptr 15 0),(2,qz),(3,qz),(4,.ptr 16 0),(13,(iI 33)),(14,(qi 37)),(15,(qi 38))] [(35,eK),(3,[(qi 36)])] []=true:=by kernel_rfl
theorem xiT(d f t:Dt)(bs:Option Addr)(n cp:Nat)(kd:Int)(fk:Int)(tk:Int)(ey:Bool)(lt:Bool)(last:Int)(i:Int){w0 w:World}{P:List Nat}{a0:Act}{Q:Exit->Act->World->Prop}(hst:SS w0) (hw:fK w0 39 P [(35,(jI kd d fk f tk t (.slice bs n cp) ey lt)),(3,[(.int .i64 last)])] [(1,(pb P 0)),(2,(.int .i64 0)),(3,(.int .i64 0)),(4,(pb P 1)),(13,(.slice bs n cp)),(14,(.int .i64 ((n:Nat):Int))),(15,(.int .i64 i))] a0 w)(HP:Lg w0 39 P (fr7 kd d fk f tk t bs n cp ey lt last) (fun P=>[(1,(pb P 0)),(2,(.int .i64 0)),(3,(.int .i64 0)),(4,(pb P 1)),(13,(.slice bs n cp)),(14,(.int .i64 ((n:Nat):Int))),(15,(.int .i64 (IntKind.i64.wrap (i+1))))]) (Q .normal)):(fH [1,1,0,1,0,0,1,1,1] ER).wp Tryz.prog Q a0 w:=
 lI (aOF (lv (jI kd d fk f tk t (.slice bs n cp) ey lt) [.int .i64 last,.int .i64 ((n:Nat):Int),.int .i64 i])) (fA w0) hst .nil .nil hw HP (by kernel_rfl)
def aVj:NH:=(.leaf .ret [(2,qz),(3,qz)] [(35,eK),(3,[(qi 36)])])
theorem aOI(l:Value):aVj.ok rH l [] [] hp 60 LG 39 60 0 (fH [1,1,1] ER) [(1,.ptr 15 0),(2,qz),(3,qz),(4,.ptr 16 0)] [(35,eK),(3,[(qi 36)])] []=true:=by kernel_rfl
theorem xiE(d f t:Dt)(bs:Option Addr)(n cp:Nat)(kd:Int)(fk:Int)(tk:Int)(ey:Bool)(lt:Bool)(last:Int){w0 w:World}{P:List Nat}{a0:Act}{Q:Exit->Act->World->Prop}(hst:SS w0) (hw:fK w0 39 P [(35,(jI kd d fk f tk t (.slice bs n cp) ey lt)),(3,[(.int .i64 last)])] [(1,(pb P 0)),(2,(.int .i64 0)),(3,(.int .i64 0)),(4,(pb P 1))] a0 w)(HP:Lg w0 39 P (fr7 kd d fk f tk t bs n cp ey lt last) (fun P=>[(2,(.int .i64 0)),(3,(.int .i64 0))]) (Q .ret)):(fH [1,1,1] ER).wp Tryz.prog Q a0 w:=
 lI (aOI (lv (jI kd d fk f tk t (.slice bs n cp) ey lt) [.int .i64 last])) (fA w0) hst .nil .nil hw HP (by kernel_rfl)
def aVm:DT:=(.node 1 (qu 0) (.v (.int .u8 1)) DT.no (.node 1 (.v (.int .u8 4)) (qu 0) (.leaf yi3) DT.no))
theorem aOL(l:Value):aVm.ok tb0 l [] [] .nil 60 LG 38 [.agg eK] []=true:=by kernel_rfl
theorem xF5(d f t:Dt)(bs:Option Addr)(n cp:Nat)(kd:Int)(fk:Int)(tk:Int)(ey:Bool)(lt:Bool)(w0:World)(hk:5<=kd):Same w0 38 #[(exV kd d fk f tk t (.slice bs n cp) ey lt)] (cond (decide (kd<1)) (.bool false) (cond (decide (4<kd)) (.tuple #[(.int .i64 0),(.int .i64 18)]) (.bool false))):=
 aJ (aOL (lv (jI kd d fk f tk t (.slice bs n cp) ey lt) [])) (aN w0) (iD w0) .nil .nil (bT (by kernel_rfl:_=((((decide (kd<1))=true->False)/\((decide (kd<1))=false->(((decide (4<kd))=true->True)/\((decide (4<kd))=false->False)))))) (⟨fun h0=>(by simp only[aFy,aB1,aEv,aCk]at *;omega),fun h0=>⟨fun h1=>trivial,fun h1=>(by simp only[aFy,aB1,aEv,aCk]at *;omega)⟩⟩)) (by kernel_rfl)
def aVr:DT:=(.leaf yi3)
theorem aOQ(l:Value):aVr.ok tb0 l [] [] .nil 60 LG 38 [.agg yi8] []=true:=by kernel_rfl
theorem xF0(d f t:Dt)(bs:Option Addr)(n cp:Nat)(fk:Int)(tk:Int)(ey:Bool)(lt:Bool)(w0:World)  :Same w0 38 #[(exV 0 d fk f tk t (.slice bs n cp) ey lt)] (.tuple #[(.int .i64 0),(.int .i64 18)]):=
 aJ (aOQ (lv (dL d) [.int .u8 fk,.bool f.neg,.bool f.long,.string f.dg,.int .i64 f.ex,.int .i64 f.sig,.string f.mo,.string f.da,.int .u8 f.m0,.int .u8 f.m1,.int .u8 f.m2,.int .u8 tk,.bool t.neg,.bool t.long,.string t.dg,.int .i64 t.ex,.int .i64 t.sig,.string t.mo,.string t.da,.int .u8 t.m0,.int .u8 t.m1,.int .u8 t.m2,(.slice bs n cp),.bool ey,.bool lt])) (aN w0) (iD w0) .nil .nil (aS (by kernel_rfl)) (by kernel_rfl)
def aVq:DT:=(.node 3 (qb 36) (qb 36) (.leaf yi2) (.leaf (.dG [qz,(qi 35)])))
theorem aOP(l:Value):aVq.ok tb0 l [] [(60,[.agg yi9],(qb 36)),(61,[.agg yi5],(qi 35))] .nil 60 LG 38 [.agg yi9] []=true:=by kernel_rfl
theorem xF1(d f t:Dt)(bs:Option Addr)(n cp:Nat)(fk:Int)(tk:Int)(ey:Bool)(lt:Bool)(r:Int)(u:Bool)(w0:World) (H0:Same w0 60 #[(exV 1 d fk f tk t (.slice bs n cp) ey lt)] (.bool u))(H1:Same w0 61 #[(eP d)] (.int .i64 r)):Same w0 38 #[(exV 1 d fk f tk t (.slice bs n cp) ey lt)] (cond u (.tuple #[(.int .i64 0),(.int .i64 5)]) (.tuple #[(.int .i64 0),(.int .i64 r)])):=
 aJ (aOP (lv (dL d) [.int .u8 fk,.bool f.neg,.bool f.long,.string f.dg,.int .i64 f.ex,.int .i64 f.sig,.string f.mo,.string f.da,.int .u8 f.m0,.int .u8 f.m1,.int .u8 f.m2,.int .u8 tk,.bool t.neg,.bool t.long,.string t.dg,.int .i64 t.ex,.int .i64 t.sig,.string t.mo,.string t.da,.int .u8 t.m0,.int .u8 t.m1,.int .u8 t.m2,(.slice bs n cp),.bool ey,.bool lt,.int .i64 r,.bool u])) (aN w0) (iD w0) .nil (.cons H0 (.cons H1 .nil)) (aS (by kernel_rfl)) (by kernel_rfl)
def aVp:DT:=(.node 3 (qb 36) (qb 36) (.leaf yi2) (.leaf (.dG [qz,(qi 35)])))
theorem aOO(l:Value):aVp.ok tb0 l [] [(60,[.agg aJL],(qb 36)),(62,[.agg yi6,.agg yi7],(qi 35))] .nil 60 LG 38 [.agg aJL] []=true:=by kernel_rfl
theorem xF2(d f t:Dt)(bs:Option Addr)(n cp:Nat)(fk:Int)(tk:Int)(ey:Bool)(lt:Bool)(r:Int)(u:Bool)(w0:World) (H0:Same w0 60 #[(exV 2 d fk f tk t (.slice bs n cp) ey lt)] (.bool u))(H1:Same w0 62 #[(bV fk f),(bV tk t)] (.int .i64 r)):Same w0 38 #[(exV 2 d fk f tk t (.slice bs n cp) ey lt)] (cond u (.tuple #[(.int .i64 0),(.int .i64 5)]) (.tuple #[(.int .i64 0),(.int .i64 r)])):=
 aJ (aOO (lv (dL d) [.int .u8 fk,.bool f.neg,.bool f.long,.string f.dg,.int .i64 f.ex,.int .i64 f.sig,.string f.mo,.string f.da,.int .u8 f.m0,.int .u8 f.m1,.int .u8 f.m2,.int .u8 tk,.bool t.neg,.bool t.long,.string t.dg,.int .i64 t.ex,.int .i64 t.sig,.string t.mo,.string t.da,.int .u8 t.m0,.int .u8 t.m1,.int .u8 t.m2,(.slice bs n cp),.bool ey,.bool lt,.int .i64 r,.bool u])) (aN w0) (iD w0) .nil (.cons H0 (.cons H1 .nil)) (aS (by kernel_rfl)) (by kernel_rfl)
def aVo:DT:=(.node 3 (qb 37) (qb 37) (.leaf yi2) (.node 0 yi1 qz (.leaf (.dG [qz,(.v (.int .i64 17))])) (.node 1 (.v (.int .i64 256)) yi1 (.leaf (.dG [qz,(.v (.int .i64 3))])) (.leaf (.dG [(qi 35),(qi 36)])))))
theorem aON(l:Value):aVo.ok tb0 l [] [(60,[.agg aJK],(qb 37)),(63,[.agg aJK],.dG [(qi 35),(qi 36)])] .nil 60 LG 38 [.agg aJK] []=true:=by kernel_rfl
theorem xF3(d f t:Dt)(bs:Option Addr)(n cp:Nat)(fk:Int)(tk:Int)(ey:Bool)(lt:Bool)(at_:Int)(r:Int)(u:Bool)(w0:World) (H0:Same w0 60 #[(exV 3 d fk f tk t (.slice bs n cp) ey lt)] (.bool u))(H1:Same w0 63 #[(exV 3 d fk f tk t (.slice bs n cp) ey lt)] (.tuple #[(.int .i64 at_),(.int .i64 r)])):Same w0 38 #[(exV 3 d fk f tk t (.slice bs n cp) ey lt)] (cond u (.tuple #[(.int .i64 0),(.int .i64 5)]) (cond (((n:Nat):Int)==0) (.tuple #[(.int .i64 0),(.int .i64 17)]) (cond (decide (256<((n:Nat):Int))) (.tuple #[(.int .i64 0),(.int .i64 3)]) (.tuple #[(.int .i64 at_),(.int .i64 r)])))):=
 aJ (aON (lv (dL d) [.int .u8 fk,.bool f.neg,.bool f.long,.string f.dg,.int .i64 f.ex,.int .i64 f.sig,.string f.mo,.string f.da,.int .u8 f.m0,.int .u8 f.m1,.int .u8 f.m2,.int .u8 tk,.bool t.neg,.bool t.long,.string t.dg,.int .i64 t.ex,.int .i64 t.sig,.string t.mo,.string t.da,.int .u8 t.m0,.int .u8 t.m1,.int .u8 t.m2,(.slice bs n cp),.bool ey,.bool lt,.int .i64 at_,.int .i64 r,.bool u])) (aN w0) (iD w0) .nil (.cons H0 (.cons H1 .nil)) (aS (by kernel_rfl)) (by kernel_rfl)
def aVn:DT:=(.node 3 (qb 37) (qb 37) (.leaf yi2) (.node 0 yi1 qz (.leaf (.dG [qz,(.v (.int .i64 17))])) (.node 1 (.v (.int .i64 256)) yi1 (.leaf (.dG [qz,(.v (.int .i64 3))])) (.leaf (.dG [(qi 35),(qi 36)])))))
theorem aOM(l:Value):aVn.ok tb0 l [] [(60,[.agg aJJ],(qb 37)),(63,[.agg aJJ],.dG [(qi 35),(qi 36)])] .nil 60 LG 38 [.agg aJJ] []=true:=by kernel_rfl
theorem xF4(d f t:Dt)(bs:Option Addr)(n cp:Nat)(fk:Int)(tk:Int)(ey:Bool)(lt:Bool)(at_:Int)(r:Int)(u:Bool)(w0:World) (H0:Same w0 60 #[(exV 4 d fk f tk t (.slice bs n cp) ey lt)] (.bool u))(H1:Same w0 63 #[(exV 4 d fk f tk t (.slice bs n cp) ey lt)] (.tuple #[(.int .i64 at_),(.int .i64 r)])):Same w0 38 #[(exV 4 d fk f tk t (.slice bs n cp) ey lt)] (cond u (.tuple #[(.int .i64 0),(.int .i64 5)]) (cond (((n:Nat):Int)==0) (.tuple #[(.int .i64 0),(.int .i64 17)]) (cond (decide (256<((n:Nat):Int))) (.tuple #[(.int .i64 0),(.int .i64 3)]) (.tuple #[(.int .i64 at_),(.int .i64 r)])))):=
 aJ (aOM (lv (dL d) [.int .u8 fk,.bool f.neg,.bool f.long,.string f.dg,.int .i64 f.ex,.int .i64 f.sig,.string f.mo,.string f.da,.int .u8 f.m0,.int .u8 f.m1,.int .u8 f.m2,.int .u8 tk,.bool t.neg,.bool t.long,.string t.dg,.int .i64 t.ex,.int .i64 t.sig,.string t.mo,.string t.da,.int .u8 t.m0,.int .u8 t.m1,.int .u8 t.m2,(.slice bs n cp),.bool ey,.bool lt,.int .i64 at_,.int .i64 r,.bool u])) (aN w0) (iD w0) .nil (.cons H0 (.cons H1 .nil)) (aS (by kernel_rfl)) (by kernel_rfl)
def aVs:DT:=(.leaf (qi 37))
theorem aOR(l:Value):aVs.ok tb0 l [] [(38,[.agg eK],.dG [(qi 36),(qi 37)])] .nil 60 LG 19 [.agg eK] []=true:=by kernel_rfl
theorem xCk(d f t:Dt)(bs:Option Addr)(n cp:Nat)(kd:Int)(fk:Int)(tk:Int)(ey:Bool)(lt:Bool)(at_:Int)(r:Int)(w0:World) (H0:Same w0 38 #[(exV kd d fk f tk t (.slice bs n cp) ey lt)] (.tuple #[(.int .i64 at_),(.int .i64 r)])):Same w0 19 #[(exV kd d fk f tk t (.slice bs n cp) ey lt)] (.int .i64 r):=
 aJ (aOR (lv (jI kd d fk f tk t (.slice bs n cp) ey lt) [.int .i64 at_,.int .i64 r])) (aN w0) (iD w0) .nil (.cons H0 .nil) (aS (by kernel_rfl)) (by kernel_rfl)
def aVD:DT:=(.leaf (qi 37))
theorem aO2(l:Value):aVD.ok tb0 l [] [(39,[.agg eK],.dG [(qi 36),(qi 37)])] .nil 60 LG 20 [.agg eK] []=true:=by kernel_rfl
theorem rCk(d f t:Dt)(bs:Option Addr)(n cp:Nat)(kd:Int)(fk:Int)(tk:Int)(ey:Bool)(lt:Bool)(at_:Int)(r:Int)(w0:World) (H0:Same w0 39 #[(exV kd d fk f tk t (.slice bs n cp) ey lt)] (.tuple #[(.int .i64 at_),(.int .i64 r)])):Same w0 20 #[(exV kd d fk f tk t (.slice bs n cp) ey lt)] (.int .i64 r):=
 aJ (aO2 (lv (jI kd d fk f tk t (.slice bs n cp) ey lt) [.int .i64 at_,.int .i64 r])) (aN w0) (iD w0) .nil (.cons H0 .nil) (aS (by kernel_rfl)) (by kernel_rfl)
def aQu:DT:=(.node 3 (qb 35) (qb 35) (.node 3 (qb 36) (qb 36) (.node 0 yi1 qz (.node 3 (qb 33) (qb 33) (.leaf qt) (.node 3 (qb 34) (qb 34) (.leaf qt) (.leaf qf))) (.leaf qt)) (.node 0 yi1 qz (.node 3 (qb 33) (qb 33) (.leaf qt) (.node 3 (qb 34) (qb 34) (.leaf qt) (.leaf qt))) (.leaf qt))) (.node 0 yi1 qz (.node 3 (qb 33) (qb 33) (.leaf qt) (.node 3 (qb 34) (qb 34) (.leaf qt) (.leaf qt))) (.leaf qt)))
theorem aKN(l:Value):aQu.ok tb0 l [(32,.agg yi6,.agg bK,(qb 35)),(32,.agg yi7,.agg bK,(qb 36))] [] .nil 60 LG 60 [.agg yi9] []=true:=by kernel_rfl
theorem aWD(d f t:Dt)(bs:Option Addr)(n cp:Nat)(fk:Int)(tk:Int)(ey:Bool)(lt:Bool)(zf:Bool)(zt:Bool)(w0:World)(UN:IE 32 (xY fk f) (xY 0 z0) zf)(UM:IE 32 (xY tk t) (xY 0 z0) zt):Same w0 60 #[(exV 1 d fk f tk t (.slice bs n cp) ey lt)] (cond zf (cond zt (cond (((n:Nat):Int)==0) (cond ey (.bool true) (cond lt (.bool true) (.bool false))) (.bool true)) (cond (((n:Nat):Int)==0) (cond ey (.bool true) (cond lt (.bool true) (.bool true))) (.bool true))) (cond (((n:Nat):Int)==0) (cond ey (.bool true) (cond lt (.bool true) (.bool true))) (.bool true))):=
 aJ (aKN (lv (dL d) [.int .u8 fk,.bool f.neg,.bool f.long,.string f.dg,.int .i64 f.ex,.int .i64 f.sig,.string f.mo,.string f.da,.int .u8 f.m0,.int .u8 f.m1,.int .u8 f.m2,.int .u8 tk,.bool t.neg,.bool t.long,.string t.dg,.int .i64 t.ex,.int .i64 t.sig,.string t.mo,.string t.da,.int .u8 t.m0,.int .u8 t.m1,.int .u8 t.m2,(.slice bs n cp),.bool ey,.bool lt,.bool zf,.bool zt])) (aN w0) (iD w0) (.cons UN (fun _ _ _=>⟨by kernel_rfl,by kernel_rfl⟩) (.cons UM (fun _ _ _=>⟨by kernel_rfl,by kernel_rfl⟩) .nil)) .nil (aS (by kernel_rfl)) (by kernel_rfl)
def aQt:DT:=(.node 3 (qb 35) (qb 35) (.node 0 yi1 qz (.node 3 (qb 33) (qb 33) (.leaf qt) (.node 3 (qb 34) (qb 34) (.leaf qt) (.leaf qf))) (.leaf qt)) (.node 0 yi1 qz (.node 3 (qb 33) (qb 33) (.leaf qt) (.node 3 (qb 34) (qb 34) (.leaf qt) (.leaf qt))) (.leaf qt)))
theorem aKM(l:Value):aQt.ok tb0 l [(30,.agg yi5,.agg dK,(qb 35))] [] .nil 60 LG 60 [.agg aJL] []=true:=by kernel_rfl
theorem aWC(d f t:Dt)(bs:Option Addr)(n cp:Nat)(fk:Int)(tk:Int)(ey:Bool)(lt:Bool)(zd:Bool)(w0:World)(hzd:IE 30 (eP d) (eP z0) zd):Same w0 60 #[(exV 2 d fk f tk t (.slice bs n cp) ey lt)] (cond zd (cond (((n:Nat):Int)==0) (cond ey (.bool true) (cond lt (.bool true) (.bool false))) (.bool true)) (cond (((n:Nat):Int)==0) (cond ey (.bool true) (cond lt (.bool true) (.bool true))) (.bool true))):=
 aJ (aKM (lv (dL d) [.int .u8 fk,.bool f.neg,.bool f.long,.string f.dg,.int .i64 f.ex,.int .i64 f.sig,.string f.mo,.string f.da,.int .u8 f.m0,.int .u8 f.m1,.int .u8 f.m2,.int .u8 tk,.bool t.neg,.bool t.long,.string t.dg,.int .i64 t.ex,.int .i64 t.sig,.string t.mo,.string t.da,.int .u8 t.m0,.int .u8 t.m1,.int .u8 t.m2,(.slice bs n cp),.bool ey,.bool lt,.bool zd])) (aN w0) (iD w0) (.cons hzd (fun _ _ _=>⟨by kernel_rfl,by kernel_rfl⟩) .nil) .nil (aS (by kernel_rfl)) (by kernel_rfl)
def aQs:DT:=(.node 3 (qb 35) (qb 35) (.node 3 (qb 36) (qb 36) (.node 3 (qb 37) (qb 37) (.leaf qf) (.leaf qt)) (.leaf qt)) (.node 3 (qb 36) (qb 36) (.node 3 (qb 37) (qb 37) (.leaf qt) (.leaf qt)) (.leaf qt)))
theorem aKL(l:Value):aQs.ok tb0 l [(30,.agg yi5,.agg dK,(qb 35)),(32,.agg yi6,.agg bK,(qb 36)),(32,.agg yi7,.agg bK,(qb 37))] [] .nil 60 LG 60 [.agg aJK] []=true:=by kernel_rfl
theorem aWB(d f t:Dt)(bs:Option Addr)(n cp:Nat)(fk:Int)(tk:Int)(ey:Bool)(lt:Bool)(zd:Bool)(zf:Bool)(zt:Bool)(w0:World)(hzd:IE 30 (eP d) (eP z0) zd)(UN:IE 32 (xY fk f) (xY 0 z0) zf)(UM:IE 32 (xY tk t) (xY 0 z0) zt):Same w0 60 #[(exV 3 d fk f tk t (.slice bs n cp) ey lt)] (cond zd (cond zf (cond zt (.bool false) (.bool true)) (.bool true)) (cond zf (cond zt (.bool true) (.bool true)) (.bool true))):=
 aJ (aKL (lv (dL d) [.int .u8 fk,.bool f.neg,.bool f.long,.string f.dg,.int .i64 f.ex,.int .i64 f.sig,.string f.mo,.string f.da,.int .u8 f.m0,.int .u8 f.m1,.int .u8 f.m2,.int .u8 tk,.bool t.neg,.bool t.long,.string t.dg,.int .i64 t.ex,.int .i64 t.sig,.string t.mo,.string t.da,.int .u8 t.m0,.int .u8 t.m1,.int .u8 t.m2,(.slice bs n cp),.bool ey,.bool lt,.bool zd,.bool zf,.bool zt])) (aN w0) (iD w0) (.cons hzd (fun _ _ _=>⟨by kernel_rfl,by kernel_rfl⟩) (.cons UN (fun _ _ _=>⟨by kernel_rfl,by kernel_rfl⟩) (.cons UM (fun _ _ _=>⟨by kernel_rfl,by kernel_rfl⟩) .nil))) .nil (aS (by kernel_rfl)) (by kernel_rfl)
def aQr:DT:=(.node 3 (qb 35) (qb 35) (.node 3 (qb 36) (qb 36) (.node 3 (qb 37) (qb 37) (.leaf qf) (.leaf qt)) (.leaf qt)) (.node 3 (qb 36) (qb 36) (.node 3 (qb 37) (qb 37) (.leaf qt) (.leaf qt)) (.leaf qt)))
theorem aKK(l:Value):aQr.ok tb0 l [(30,.agg yi5,.agg dK,(qb 35)),(32,.agg yi6,.agg bK,(qb 36)),(32,.agg yi7,.agg bK,(qb 37))] [] .nil 60 LG 60 [.agg aJJ] []=true:=by kernel_rfl
theorem aWA(d f t:Dt)(bs:Option Addr)(n cp:Nat)(fk:Int)(tk:Int)(ey:Bool)(lt:Bool)(zd:Bool)(zf:Bool)(zt:Bool)(w0:World)(hzd:IE 30 (eP d) (eP z0) zd)(UN:IE 32 (xY fk f) (xY 0 z0) zf)(UM:IE 32 (xY tk t) (xY 0 z0) zt):Same w0 60 #[(exV 4 d fk f tk t (.slice bs n cp) ey lt)] (cond zd (cond zf (cond zt (.bool false) (.bool true)) (.bool true)) (cond zf (cond zt (.bool true) (.bool true)) (.bool true))):=
 aJ (aKK (lv (dL d) [.int .u8 fk,.bool f.neg,.bool f.long,.string f.dg,.int .i64 f.ex,.int .i64 f.sig,.string f.mo,.string f.da,.int .u8 f.m0,.int .u8 f.m1,.int .u8 f.m2,.int .u8 tk,.bool t.neg,.bool t.long,.string t.dg,.int .i64 t.ex,.int .i64 t.sig,.string t.mo,.string t.da,.int .u8 t.m0,.int .u8 t.m1,.int .u8 t.m2,(.slice bs n cp),.bool ey,.bool lt,.bool zd,.bool zf,.bool zt])) (aN w0) (iD w0) (.cons hzd (fun _ _ _=>⟨by kernel_rfl,by kernel_rfl⟩) (.cons UN (fun _ _ _=>⟨by kernel_rfl,by kernel_rfl⟩) (.cons UM (fun _ _ _=>⟨by kernel_rfl,by kernel_rfl⟩) .nil))) .nil (aS (by kernel_rfl)) (by kernel_rfl)
def aVz:DT:=(.node 0 (qu 0) (.v (.int .u8 3)) DT.no (.node 0 (qu 0) (.v (.int .u8 4)) DT.no (.node 0 (qu 0) (.v (.int .u8 1)) DT.no (.node 0 (qu 0) (.v (.int .u8 2)) DT.no (.leaf yi3)))))
theorem aOY(l:Value):aVz.ok tb0 l [] [] .nil 60 LG 39 [.agg eK] []=true:=by kernel_rfl
theorem rF5(d f t:Dt)(bs:Option Addr)(n cp:Nat)(kd:Int)(fk:Int)(tk:Int)(ey:Bool)(lt:Bool)(w0:World)(hk:5<=kd):Same w0 39 #[(exV kd d fk f tk t (.slice bs n cp) ey lt)] (cond (kd==3) (.bool false) (cond (kd==4) (.bool false) (cond (kd==1) (.bool false) (cond (kd==2) (.bool false) (.tuple #[(.int .i64 0),(.int .i64 18)]))))):=
 aJ (aOY (lv (jI kd d fk f tk t (.slice bs n cp) ey lt) [])) (aN w0) (iD w0) .nil .nil (bT (by kernel_rfl:_=((((kd==3)=true->False)/\((kd==3)=false->(((kd==4)=true->False)/\((kd==4)=false->(((kd==1)=true->False)/\((kd==1)=false->(((kd==2)=true->False)/\((kd==2)=false->True)))))))))) (⟨fun h0=>(by simp only[aFy,aB1,aEv,aCk]at *;omega),fun h0=>⟨fun h1=>(by simp only[aFy,aB1,aEv,aCk]at *;omega),fun h1=>⟨fun h2=>(by simp only[aFy,aB1,aEv,aCk]at *;omega),fun h2=>⟨fun h3=>(by simp only[aFy,aB1,aEv,aCk]at *;omega),fun h3=>trivial⟩⟩⟩⟩)) (by kernel_rfl)
def aVC:DT:=(.leaf yi3)
theorem aO1(l:Value):aVC.ok tb0 l [] [] .nil 60 LG 39 [.agg yi8] []=true:=by kernel_rfl
theorem rF0(d f t:Dt)(bs:Option Addr)(n cp:Nat)(fk:Int)(tk:Int)(ey:Bool)(lt:Bool)(w0:World)  :Same w0 39 #[(exV 0 d fk f tk t (.slice bs n cp) ey lt)] (.tuple #[(.int .i64 0),(.int .i64 18)]):=
 aJ (aO1 (lv (dL d) [.int .u8 fk,.bool f.neg,.bool f.long,.string f.dg,.int .i64 f.ex,.int .i64 f.sig,.string f.mo,.string f.da,.int .u8 f.m0,.int .u8 f.m1,.int .u8 f.m2,.int .u8 tk,.bool t.neg,.bool t.long,.string t.dg,.int .i64 t.ex,.int .i64 t.sig,.string t.mo,.string t.da,.int .u8 t.m0,.int .u8 t.m1,.int .u8 t.m2,(.slice bs n cp),.bool ey,.bool lt])) (aN w0) (iD w0) .nil .nil (aS (by kernel_rfl)) (by kernel_rfl)
def aVB:DT:=(.node 3 (qb 36) (qb 36) (.node 3 (qb 37) (qb 37) (.node 1 qz yi1 (.leaf yi2) (.node 3 (qb 33) (qb 33) (.leaf yi2) (.node 3 (qb 34) (qb 34) (.leaf yi2) (.leaf (.dG [qz,(qi 35)]))))) (.leaf yi2)) (.leaf yi2))
theorem aO0(l:Value):aVB.ok tb0 l [(32,.agg yi6,.agg bK,(qb 36)),(32,.agg yi7,.agg bK,(qb 37))] [(64,[.agg yi5],(qi 35))] .nil 60 LG 39 [.agg yi9] []=true:=by kernel_rfl
theorem rF1(d f t:Dt)(bs:Option Addr)(n cp:Nat)(fk:Int)(tk:Int)(ey:Bool)(lt:Bool)(r:Int)(zf:Bool)(zt:Bool)(w0:World)(UN:IE 32 (xY fk f) (xY 0 z0) zf)(UM:IE 32 (xY tk t) (xY 0 z0) zt)(H0:Same w0 64 #[(eP d)] (.int .i64 r)):Same w0 39 #[(exV 1 d fk f tk t (.slice bs n cp) ey lt)] (cond zf (cond zt (cond (decide (0<((n:Nat):Int))) (.tuple #[(.int .i64 0),(.int .i64 5)]) (cond ey (.tuple #[(.int .i64 0),(.int .i64 5)]) (cond lt (.tuple #[(.int .i64 0),(.int .i64 5)]) (.tuple #[(.int .i64 0),(.int .i64 r)])))) (.tuple #[(.int .i64 0),(.int .i64 5)])) (.tuple #[(.int .i64 0),(.int .i64 5)])):=
 aJ (aO0 (lv (dL d) [.int .u8 fk,.bool f.neg,.bool f.long,.string f.dg,.int .i64 f.ex,.int .i64 f.sig,.string f.mo,.string f.da,.int .u8 f.m0,.int .u8 f.m1,.int .u8 f.m2,.int .u8 tk,.bool t.neg,.bool t.long,.string t.dg,.int .i64 t.ex,.int .i64 t.sig,.string t.mo,.string t.da,.int .u8 t.m0,.int .u8 t.m1,.int .u8 t.m2,(.slice bs n cp),.bool ey,.bool lt,.int .i64 r,.bool zf,.bool zt])) (aN w0) (iD w0) (.cons UN (fun _ _ _=>⟨by kernel_rfl,by kernel_rfl⟩) (.cons UM (fun _ _ _=>⟨by kernel_rfl,by kernel_rfl⟩) .nil)) (.cons H0 .nil) (aS (by kernel_rfl)) (by kernel_rfl)
def aVA:DT:=(.node 3 (qb 36) (qb 36) (.node 1 qz yi1 (.leaf yi2) (.node 3 (qb 33) (qb 33) (.leaf yi2) (.node 3 (qb 34) (qb 34) (.leaf yi2) (.leaf (.dG [qz,(qi 35)]))))) (.leaf yi2))
theorem aOZ(l:Value):aVA.ok tb0 l [(30,.agg yi5,.agg dK,(qb 36))] [(25,[.agg yi6,.agg yi7],(qi 35))] .nil 60 LG 39 [.agg aJL] []=true:=by kernel_rfl
theorem rF2(d f t:Dt)(bs:Option Addr)(n cp:Nat)(fk:Int)(tk:Int)(ey:Bool)(lt:Bool)(r:Int)(zd:Bool)(w0:World)(hzd:IE 30 (eP d) (eP z0) zd)(H0:Same w0 25 #[(bV fk f),(bV tk t)] (.int .i64 r)):Same w0 39 #[(exV 2 d fk f tk t (.slice bs n cp) ey lt)] (cond zd (cond (decide (0<((n:Nat):Int))) (.tuple #[(.int .i64 0),(.int .i64 5)]) (cond ey (.tuple #[(.int .i64 0),(.int .i64 5)]) (cond lt (.tuple #[(.int .i64 0),(.int .i64 5)]) (.tuple #[(.int .i64 0),(.int .i64 r)])))) (.tuple #[(.int .i64 0),(.int .i64 5)])):=
 aJ (aOZ (lv (dL d) [.int .u8 fk,.bool f.neg,.bool f.long,.string f.dg,.int .i64 f.ex,.int .i64 f.sig,.string f.mo,.string f.da,.int .u8 f.m0,.int .u8 f.m1,.int .u8 f.m2,.int .u8 tk,.bool t.neg,.bool t.long,.string t.dg,.int .i64 t.ex,.int .i64 t.sig,.string t.mo,.string t.da,.int .u8 t.m0,.int .u8 t.m1,.int .u8 t.m2,(.slice bs n cp),.bool ey,.bool lt,.int .i64 r,.bool zd])) (aN w0) (iD w0) (.cons hzd (fun _ _ _=>⟨by kernel_rfl,by kernel_rfl⟩) .nil) (.cons H0 .nil) (aS (by kernel_rfl)) (by kernel_rfl)
def aVy:NH:=(.node 0 (qu 0) (.v (.int .u8 3)) (.node 0 (qu 0) (.v (.int .u8 1)) .no (.node 0 (qu 0) (.v (.int .u8 2)) .no (.node 3 (qb 36) (qb 36) (.node 3 (qb 37) (qb 37) (.node 3 (qb 38) (qb 38) (.node 0 yi0 qz (.leaf .ret [(1,(.ptr 15 0)),(2,qz),(3,(.v (.int .i64 17)))] [(35,eK),(30,dK),(32,bK)]) (.node 1 (.v (.int .i64 256)) yi0 (.leaf .ret [(1,(.ptr 15 0)),(2,qz),(3,(.v (.int .i64 3)))] [(35,eK),(30,dK),(32,bK)]) (.leaf .normal [(1,(.ptr 15 0)),(2,qz),(3,qz)] [(35,eK),(30,dK),(32,bK)]))) (.leaf .ret [(1,(.ptr 15 0)),(2,qz),(3,(.v (.int .i64 5)))] [(35,eK),(30,dK),(32,bK)])) (.leaf .ret [(1,(.ptr 15 0)),(2,qz),(3,(.v (.int .i64 5)))] [(35,eK),(30,dK),(32,bK)])) (.leaf .ret [(1,(.ptr 15 0)),(2,qz),(3,(.v (.int .i64 5)))] [(35,eK),(30,dK),(32,bK)])))) (.node 0 (qu 0) (.v (.int .u8 4)) (.node 0 (qu 0) (.v (.int .u8 1)) .no (.node 0 (qu 0) (.v (.int .u8 2)) .no (.node 3 (qb 36) (qb 36) (.node 3 (qb 37) (qb 37) (.node 3 (qb 38) (qb 38) (.node 0 yi0 qz (.leaf .ret [(1,(.ptr 15 0)),(2,qz),(3,(.v (.int .i64 17)))] [(35,eK),(30,dK),(32,bK)]) (.node 1 (.v (.int .i64 256)) yi0 (.leaf .ret [(1,(.ptr 15 0)),(2,qz),(3,(.v (.int .i64 3)))] [(35,eK),(30,dK),(32,bK)]) (.leaf .normal [(1,(.ptr 15 0)),(2,qz),(3,qz)] [(35,eK),(30,dK),(32,bK)]))) (.leaf .ret [(1,(.ptr 15 0)),(2,qz),(3,(.v (.int .i64 5)))] [(35,eK),(30,dK),(32,bK)])) (.leaf .ret [(1,(.ptr 15 0)),(2,qz),(3,(.v (.int .i64 5)))] [(35,eK),(30,dK),(32,bK)])) (.leaf .ret [(1,(.ptr 15 0)),(2,qz),(3,(.v (.int .i64 5)))] [(35,eK),(30,dK),(32,bK)])))) .no))
theorem aOX(l:Value):aVy.ok rH l [(30,.agg [(qb 1),(qb 2),(qs 3),(qi 4),(qi 5),(qs 6),(qs 7),(qu 8),(qu 9),(qu 10)],.agg dK,(qb 36)),(32,.agg [(qu 11),(qb 12),(qb 13),(qs 14),(qi 15),(qi 16),(qs 17),(qs 18),(qu 19),(qu 20),(qu 21)],.agg bK,(qb 37)),(32,.agg [(qu 22),(qb 23),(qb 24),(qs 25),(qi 26),(qi 27),(qs 28),(qs 29),(qu 30),(qu 31),(qu 32)],.agg bK,(qb 38))] [] hp 60 LG 156 60 10 (qM) [(0,.agg eK)] [] []=true:=by kernel_rfl
theorem rfA(d f t:Dt)(bs:Option Addr)(n cp:Nat)(kd:Int)(fk:Int)(tk:Int)(ey:Bool)(lt:Bool)(zd:Bool)(zf:Bool)(zt:Bool){w0 w:World}{P:List Nat}{a0:Act}{Q:Exit->Act->World->Prop}(hst:SS w0)(hk0:3<=kd)(hk1:kd<=4)(hzd:IE 30 (eP d) (eP z0) zd)(UN:IE 32 (xY fk f) (xY 0 z0) zf)(UM:IE 32 (xY tk t) (xY 0 z0) zt)(hw:fK w0 156 P [] [(0,(exV kd d fk f tk t (.slice bs n cp) ey lt))] a0 w)(HP:(((kd==3)=true->(((kd==1)=true->False)/\((kd==1)=false->(((kd==2)=true->False)/\((kd==2)=false->((zd=true->((zf=true->((zt=true->(((((n:Nat):Int)==0)=true->Lg w0 156 P (zN kd d fk f tk t bs n cp ey lt) (fun P=>[(1,(pb P 0)),(2,(.int .i64 0)),(3,(.int .i64 17))]) (RG Tryz.prog Q 10 (qM) .ret))/\((((n:Nat):Int)==0)=false->(((decide (256<((n:Nat):Int)))=true->Lg w0 156 P (zN kd d fk f tk t bs n cp ey lt) (fun P=>[(1,(pb P 0)),(2,(.int .i64 0)),(3,(.int .i64 3))]) (RG Tryz.prog Q 10 (qM) .ret))/\((decide (256<((n:Nat):Int)))=false->Lg w0 156 P (zN kd d fk f tk t bs n cp ey lt) (fun P=>[(1,(pb P 0)),(2,(.int .i64 0)),(3,(.int .i64 0))]) (RG Tryz.prog Q 10 (qM) .normal))))))/\(zt=false->Lg w0 156 P (zN kd d fk f tk t bs n cp ey lt) (fr8 ) (RG Tryz.prog Q 10 (qM) .ret))))/\(zf=false->Lg w0 156 P (zN kd d fk f tk t bs n cp ey lt) (fr8 ) (RG Tryz.prog Q 10 (qM) .ret))))/\(zd=false->Lg w0 156 P (zN kd d fk f tk t bs n cp ey lt) (fr8 ) (RG Tryz.prog Q 10 (qM) .ret))))))))/\((kd==3)=false->(((kd==4)=true->(((kd==1)=true->False)/\((kd==1)=false->(((kd==2)=true->False)/\((kd==2)=false->((zd=true->((zf=true->((zt=true->(((((n:Nat):Int)==0)=true->Lg w0 156 P (zN kd d fk f tk t bs n cp ey lt) (fun P=>[(1,(pb P 0)),(2,(.int .i64 0)),(3,(.int .i64 17))]) (RG Tryz.prog Q 10 (qM) .ret))/\((((n:Nat):Int)==0)=false->(((decide (256<((n:Nat):Int)))=true->Lg w0 156 P (zN kd d fk f tk t bs n cp ey lt) (fun P=>[(1,(pb P 0)),(2,(.int .i64 0)),(3,(.int .i64 3))]) (RG Tryz.prog Q 10 (qM) .ret))/\((decide (256<((n:Nat):Int)))=false->Lg w0 156 P (zN kd d fk f tk t bs n cp ey lt) (fun P=>[(1,(pb P 0)),(2,(.int .i64 0)),(3,(.int .i64 0))]) (RG Tryz.prog Q 10 (qM) .normal))))))/\(zt=false->Lg w0 156 P (zN kd d fk f tk t bs n cp ey lt) (fr8 ) (RG Tryz.prog Q 10 (qM) .ret))))/\(zf=false->Lg w0 156 P (zN kd d fk f tk t bs n cp ey lt) (fr8 ) (RG Tryz.prog Q 10 (qM) .ret))))/\(zd=false->Lg w0 156 P (zN kd d fk f tk t bs n cp ey lt) (fr8 ) (RG Tryz.prog Q 10 (qM) .ret))))))))/\((kd==4)=false->False))))):(qM).wp Tryz.prog Q a0 w:=
 lI (aOX (lv (jI kd d fk f tk t (.slice bs n cp) ey lt) [.bool zd,.bool zf,.bool zt])) (fA w0) hst (.cons hzd (fun _ _ _=>⟨by kernel_rfl,by kernel_rfl⟩) (.cons UN (fun _ _ _=>⟨by kernel_rfl,by kernel_rfl⟩) (.cons UM (fun _ _ _=>⟨by kernel_rfl,by kernel_rfl⟩) .nil))) .nil hw HP (by kernel_rfl)
def aVx:NH:=(.leaf .normal [(1,(.ptr 15 0)),(2,qz),(3,qz),(7,qz)] [(35,eK),(30,dK),(32,bK)])
theorem aOW(l:Value):aVx.ok rH l [] [] hp 60 LG 156 60 0 (fH [1,1,1,1,1,1,1,1,1,1,0,0] qM) [(1,.ptr 15 0),(2,qz),(3,qz)] [(35,eK),(30,  dK),(32,  bK)] []=true:=by kernel_rfl
theorem rfB(d f t:Dt)(bs:Option Addr)(n cp:Nat)(kd:Int)(fk:Int)(tk:Int)(ey:Bool)(lt:Bool){w0 w:World}{P:List Nat}{a0:Act}{Q:Exit->Act->World->Prop}(hst:SS w0) (hw:fK w0 156 P [(35,(jI kd d fk f tk t (.slice bs n cp) ey lt)),(30,zdL),(32,zbL)] [(1,(pb P 0)),(2,(.int .i64 0)),(3,(.int .i64 0))] a0 w)(HP:Lg w0 156 P (zN kd d fk f tk t bs n cp ey lt) (fun P=>[(1,(pb P 0)),(2,(.int .i64 0)),(3,(.int .i64 0)),(7,(.int .i64 0))]) (Q .normal)):(fH [1,1,1,1,1,1,1,1,1,1,0,0] qM).wp Tryz.prog Q a0 w:=
 lI (aOW (lv (jI kd d fk f tk t (.slice bs n cp) ey lt) [])) (fA w0) hst .nil .nil hw HP (by kernel_rfl)
def aVv:NH:=(.node 1 (qi 36) yi0 (.leaf .normal [(1,(.ptr 15 0)),(2,qz),(3,qz),(7,(qi 36)),(102,qt)] [(35,eK),(30,dK),(32,bK)]) (.leaf .normal [(1,(.ptr 15 0)),(2,qz),(3,qz),(7,(qi 36)),(102,qf)] [(35,eK),(30,dK),(32,bK)]))
theorem aOU(l:Value):aVv.ok rH l [] [] hp 60 LG 156 60 0 (fH [1,1,1,1,1,1,1,1,1,1,0,1,0,0,0,0] qM) [(1,.ptr 15 0),(2,qz),(3,qz),(7,(qi 36))] [(35,eK),(30,  dK),(32,  bK)] []=true:=by kernel_rfl
theorem rfH(d f t:Dt)(bs:Option Addr)(n cp:Nat)(kd:Int)(fk:Int)(tk:Int)(ey:Bool)(lt:Bool)(i:Int){w0 w:World}{P:List Nat}{a0:Act}{Q:Exit->Act->World->Prop}(hst:SS w0) (hw:fK w0 156 P [(35,(jI kd d fk f tk t (.slice bs n cp) ey lt)),(30,zdL),(32,zbL)] [(1,(pb P 0)),(2,(.int .i64 0)),(3,(.int .i64 0)),(7,(.int .i64 i))] a0 w)(HP:(((decide (i<((n:Nat):Int)))=true->Lg w0 156 P (zN kd d fk f tk t bs n cp ey lt) (fun P=>[(1,(pb P 0)),(2,(.int .i64 0)),(3,(.int .i64 0)),(7,(.int .i64 i)),(102,(.bool true))]) (Q .normal))/\((decide (i<((n:Nat):Int)))=false->Lg w0 156 P (zN kd d fk f tk t bs n cp ey lt) (fun P=>[(1,(pb P 0)),(2,(.int .i64 0)),(3,(.int .i64 0)),(7,(.int .i64 i)),(102,(.bool false))]) (Q .normal)))):(fH [1,1,1,1,1,1,1,1,1,1,0,1,0,0,0,0] qM).wp Tryz.prog Q a0 w:=
 lI (aOU (lv (jI kd d fk f tk t (.slice bs n cp) ey lt) [.int .i64 i])) (fA w0) hst .nil .nil hw HP (by kernel_rfl)
def aQx:NH:=(.node 0 (qu 0) (.v (.int .u8 4)) (.leaf .normal [(1,(.ptr 15 0)),(2,qz),(3,qz),(7,(qi 57)),(8,(.ptr 18 0)),(9,(qi 58))] [(35,eK),(30,dK),(32,bK),(79,iK)]) (.leaf .normal [(1,(.ptr 15 0)),(2,qz),(3,qz),(7,(qi 57)),(8,(.ptr 18 0)),(9,(qi 59))] [(35,eK),(30,dK),(32,bK),(79,iK)]))
theorem aKQ(l:Value):aQx.ok rH l [] [(65,[.agg iK,qt],(qi 58)),(65,[.agg iK,qf],(qi 59))] hp 60 LG 156 60 0 (fH [1,1,1,1,1,1,1,1,1,1,0,1,0,0,1,0,0,1,0] qM) [(1,.ptr 15 0),(2,qz),(3,qz),(7,(qi 57)),(8,.ptr 18 0)] [(35,eK),(30,  dK),(32,  bK),(79,iK)] []=true:=by kernel_rfl
theorem aXE(d f t x y:Dt)(bs:Option Addr)(n cp:Nat)(kd:Int)(fk:Int)(tk:Int)(ey:Bool)(lt:Bool)(rg:Bool)(i:Int)(e1:Int)(e2:Int){w0 w:World}{P:List Nat}{a0:Act}{Q:Exit->Act->World->Prop}(hst:SS w0)(hk0:3<=kd)(hk1:kd<=4) (H0:Same w0 65 #[(itV x rg y),(.bool true)] (.int .i64 e1))(H1:Same w0 65 #[(itV x rg y),(.bool false)] (.int .i64 e2))(hw:fK w0 156 P [(35,(jI kd d fk f tk t (.slice bs n cp) ey lt)),(30,zdL),(32,zbL),(79,(yS x rg y))] [(1,(pb P 0)),(2,(.int .i64 0)),(3,(.int .i64 0)),(7,(.int .i64 i)),(8,(pb P 3))] a0 w)(HP:(((kd==4)=true->Lg w0 156 P (LK kd d fk f tk t bs n cp ey lt x rg y) (fun P=>[(1,(pb P 0)),(2,(.int .i64 0)),(3,(.int .i64 0)),(7,(.int .i64 i)),(8,(pb P 3)),(9,(.int .i64 e1))]) (Q .normal))/\((kd==4)=false->Lg w0 156 P (LK kd d fk f tk t bs n cp ey lt x rg y) (fun P=>[(1,(pb P 0)),(2,(.int .i64 0)),(3,(.int .i64 0)),(7,(.int .i64 i)),(8,(pb P 3)),(9,(.int .i64 e2))]) (Q .normal)))):(fH [1,1,1,1,1,1,1,1,1,1,0,1,0,0,1,0,0,1,0] qM).wp Tryz.prog Q a0 w:=
 lI (aKQ (lv (jI kd d fk f tk t (.slice bs n cp) ey lt++yS x rg y) [.int .i64 i,.int .i64 e1,.int .i64 e2])) (fA w0) hst .nil (.cons H0 (.cons H1 .nil)) hw HP (by kernel_rfl)
def aVu:NH:=(.node 0 (qi 58) qz (.node 3 (qb 34) (qb 34) (.node 0 (qi 57) qz (.node 3 (qb 35) (qb 35) (.node 0 (qi 57) yi4 (.leaf .ret [(1,(.ptr 15 0)),(2,(qi 57)),(3,(.v (.int .i64 10))),(7,(qi 57))] [(35,eK),(30,dK),(32,bK),(79,iK)]) (.node 3 (qb 46) (qb 46) (.leaf .ret [(1,(.ptr 15 0)),(2,(qi 57)),(3,(.v (.int .i64 10))),(7,(qi 57))] [(35,eK),(30,dK),(32,bK),(79,iK)]) (.node 0 (qi 59) qz (.leaf .ret [(1,(.ptr 15 0)),(2,(qi 57)),(3,(.v (.int .i64 10))),(7,(qi 57))] [(35,eK),(30,dK),(32,bK),(79,iK)]) (.leaf .normal [(1,(.ptr 15 0)),(2,qz),(3,qz),(7,(qi 57))] [(35,eK),(30,dK),(32,bK),(79,iK)])))) (.node 3 (qb 46) (qb 46) (.leaf .ret [(1,(.ptr 15 0)),(2,(qi 57)),(3,(.v (.int .i64 10))),(7,(qi 57))] [(35,eK),(30,dK),(32,bK),(79,iK)]) (.node 0 (qi 59) qz (.leaf .ret [(1,(.ptr 15 0)),(2,(qi 57)),(3,(.v (.int .i64 10))),(7,(qi 57))] [(35,eK),(30,dK),(32,bK),(79,iK)]) (.leaf .normal [(1,(.ptr 15 0)),(2,qz),(3,qz),(7,(qi 57))] [(35,eK),(30,dK),(32,bK),(79,iK)])))) (.node 3 (qb 35) (qb 35) (.node 0 (qi 57) yi4 (.node 3 (qb 46) (qb 46) (.leaf .ret [(1,(.ptr 15 0)),(2,(qi 57)),(3,(.v (.int .i64 10))),(7,(qi 57))] [(35,eK),(30,dK),(32,bK),(79,iK)]) (.node 0 (qi 59) qz (.leaf .ret [(1,(.ptr 15 0)),(2,(qi 57)),(3,(.v (.int .i64 10))),(7,(qi 57))] [(35,eK),(30,dK),(32,bK),(79,iK)]) (.leaf .normal [(1,(.ptr 15 0)),(2,qz),(3,qz),(7,(qi 57))] [(35,eK),(30,dK),(32,bK),(79,iK)]))) (.leaf .normal [(1,(.ptr 15 0)),(2,qz),(3,qz),(7,(qi 57))] [(35,eK),(30,dK),(32,bK),(79,iK)])) (.leaf .normal [(1,(.ptr 15 0)),(2,qz),(3,qz),(7,(qi 57))] [(35,eK),(30,dK),(32,bK),(79,iK)]))) (.node 3 (qb 35) (qb 35) (.node 0 (qi 57) yi4 (.node 3 (qb 46) (qb 46) (.leaf .ret [(1,(.ptr 15 0)),(2,(qi 57)),(3,(.v (.int .i64 10))),(7,(qi 57))] [(35,eK),(30,dK),(32,bK),(79,iK)]) (.node 0 (qi 59) qz (.leaf .ret [(1,(.ptr 15 0)),(2,(qi 57)),(3,(.v (.int .i64 10))),(7,(qi 57))] [(35,eK),(30,dK),(32,bK),(79,iK)]) (.leaf .normal [(1,(.ptr 15 0)),(2,qz),(3,qz),(7,(qi 57))] [(35,eK),(30,dK),(32,bK),(79,iK)]))) (.leaf .normal [(1,(.ptr 15 0)),(2,qz),(3,qz),(7,(qi 57))] [(35,eK),(30,dK),(32,bK),(79,iK)])) (.leaf .normal [(1,(.ptr 15 0)),(2,qz),(3,qz),(7,(qi 57))] [(35,eK),(30,dK),(32,bK),(79,iK)]))) (.leaf .ret [(1,(.ptr 15 0)),(2,(qi 57)),(3,(qi 58)),(7,(qi 57))] [(35,eK),(30,dK),(32,bK),(79,iK)]))
theorem aOT(l:Value):aVu.ok rH l [] [(66,[.agg [(qb 36),(qb 37),(qs 38),(qi 39),(qi 40),(qs 41),(qs 42),(qu 43),(qu 44),(qu 45)]],(qi 59))] hp 60 LG 156 60 0 (fH [1,1,1,1,1,1,1,1,1,1,0,1,0,0,1,0,0,1,1] qM) [(1,.ptr 15 0),(2,qz),(3,qz),(7,(qi 57)),(8,.ptr 18 0),(9,(qi 58))] [(35,eK),(30,  dK),(32,  bK),(79,iK)] []=true:=by kernel_rfl
theorem rfR(d f t x y:Dt)(bs:Option Addr)(n cp:Nat)(kd:Int)(fk:Int)(tk:Int)(ey:Bool)(lt:Bool)(rg:Bool)(i:Int)(e:Int)(pn:Int){w0 w:World}{P:List Nat}{a0:Act}{Q:Exit->Act->World->Prop}(hst:SS w0) (H0:Same w0 66 #[(dV x)] (.int .i64 pn))(hw:fK w0 156 P [(35,(jI kd d fk f tk t (.slice bs n cp) ey lt)),(30,zdL),(32,zbL),(79,(yS x rg y))] [(1,(pb P 0)),(2,(.int .i64 0)),(3,(.int .i64 0)),(7,(.int .i64 i)),(8,(pb P 3)),(9,(.int .i64 e))] a0 w)(HP:(((e==0)=true->((ey=true->(((i==0)=true->((lt=true->(((i==(IntKind.i64.wrap (((n:Nat):Int) - 1)))=true->Lg w0 156 P (LK kd d fk f tk t bs n cp ey lt x rg y) (fr5 i) (Q .ret))/\((i==(IntKind.i64.wrap (((n:Nat):Int) - 1)))=false->((rg=true->Lg w0 156 P (LK kd d fk f tk t bs n cp ey lt x rg y) (fr5 i) (Q .ret))/\(rg=false->(((pn==0)=true->Lg w0 156 P (LK kd d fk f tk t bs n cp ey lt x rg y) (fr5 i) (Q .ret))/\((pn==0)=false->Lg w0 156 P (LK kd d fk f tk t bs n cp ey lt x rg y) (fr6 i) (Q .normal))))))))/\(lt=false->((rg=true->Lg w0 156 P (LK kd d fk f tk t bs n cp ey lt x rg y) (fr5 i) (Q .ret))/\(rg=false->(((pn==0)=true->Lg w0 156 P (LK kd d fk f tk t bs n cp ey lt x rg y) (fr5 i) (Q .ret))/\((pn==0)=false->Lg w0 156 P (LK kd d fk f tk t bs n cp ey lt x rg y) (fr6 i) (Q .normal))))))))/\((i==0)=false->((lt=true->(((i==(IntKind.i64.wrap (((n:Nat):Int) - 1)))=true->((rg=true->Lg w0 156 P (LK kd d fk f tk t bs n cp ey lt x rg y) (fr5 i) (Q .ret))/\(rg=false->(((pn==0)=true->Lg w0 156 P (LK kd d fk f tk t bs n cp ey lt x rg y) (fr5 i) (Q .ret))/\((pn==0)=false->Lg w0 156 P (LK kd d fk f tk t bs n cp ey lt x rg y) (fr6 i) (Q .normal))))))/\((i==(IntKind.i64.wrap (((n:Nat):Int) - 1)))=false->Lg w0 156 P (LK kd d fk f tk t bs n cp ey lt x rg y) (fr6 i) (Q .normal))))/\(lt=false->Lg w0 156 P (LK kd d fk f tk t bs n cp ey lt x rg y) (fr6 i) (Q .normal))))))/\(ey=false->((lt=true->(((i==(IntKind.i64.wrap (((n:Nat):Int) - 1)))=true->((rg=true->Lg w0 156 P (LK kd d fk f tk t bs n cp ey lt x rg y) (fr5 i) (Q .ret))/\(rg=false->(((pn==0)=true->Lg w0 156 P (LK kd d fk f tk t bs n cp ey lt x rg y) (fr5 i) (Q .ret))/\((pn==0)=false->Lg w0 156 P (LK kd d fk f tk t bs n cp ey lt x rg y) (fr6 i) (Q .normal))))))/\((i==(IntKind.i64.wrap (((n:Nat):Int) - 1)))=false->Lg w0 156 P (LK kd d fk f tk t bs n cp ey lt x rg y) (fr6 i) (Q .normal))))/\(lt=false->Lg w0 156 P (LK kd d fk f tk t bs n cp ey lt x rg y) (fr6 i) (Q .normal))))))/\((e==0)=false->Lg w0 156 P (LK kd d fk f tk t bs n cp ey lt x rg y) (fun P=>[(1,(pb P 0)),(2,(.int .i64 i)),(3,(.int .i64 e)),(7,(.int .i64 i))]) (Q .ret)))):(fH [1,1,1,1,1,1,1,1,1,1,0,1,0,0,1,0,0,1,1] qM).wp Tryz.prog Q a0 w:=
 lI (aOT (lv (jI kd d fk f tk t (.slice bs n cp) ey lt++yS x rg y) [.int .i64 i,.int .i64 e,.int .i64 pn])) (fA w0) hst .nil (.cons H0 .nil) hw HP (by kernel_rfl)
def aVt:NH:=(.leaf .normal [(1,(.ptr 15 0)),(2,qz),(3,qz),(7,(aX 1 .i64 [(qi 36),(.v (.int .i64 1))]))] [(35,eK),(30,dK),(32,bK)])
theorem aOS(l:Value):aVt.ok rH l [] [] hp 60 LG 156 60 0 (fH [1,1,1,1,1,1,1,1,1,1,0,1,0,0,1,1] qM) [(1,.ptr 15 0),(2,qz),(3,qz),(7,(qi 36))] [(35,eK),(30,  dK),(32,  bK)] []=true:=by kernel_rfl
theorem rfT(d f t:Dt)(bs:Option Addr)(n cp:Nat)(kd:Int)(fk:Int)(tk:Int)(ey:Bool)(lt:Bool)(i:Int){w0 w:World}{P:List Nat}{a0:Act}{Q:Exit->Act->World->Prop}(hst:SS w0) (hw:fK w0 156 P [(35,(jI kd d fk f tk t (.slice bs n cp) ey lt)),(30,zdL),(32,zbL)] [(1,(pb P 0)),(2,(.int .i64 0)),(3,(.int .i64 0)),(7,(.int .i64 i))] a0 w)(HP:Lg w0 156 P (zN kd d fk f tk t bs n cp ey lt) (fun P=>[(1,(pb P 0)),(2,(.int .i64 0)),(3,(.int .i64 0)),(7,(.int .i64 (IntKind.i64.wrap (i+1))))]) (Q .normal)):(fH [1,1,1,1,1,1,1,1,1,1,0,1,0,0,1,1] qM).wp Tryz.prog Q a0 w:=
 lI (aOS (lv (jI kd d fk f tk t (.slice bs n cp) ey lt) [.int .i64 i])) (fA w0) hst .nil .nil hw HP (by kernel_rfl)
def aVw:NH:=(.leaf .ret [(2,qz),(3,qz)] [(35,eK),(30,dK),(32,bK)])
theorem aOV(l:Value):aVw.ok rH l [] [] hp 60 LG 156 60 0 (fH [1,1,1,1,1,1,1,1,1,1,1] qM) [(1,.ptr 15 0),(2,qz),(3,qz)] [(35,eK),(30,  dK),(32,  bK)] []=true:=by kernel_rfl
theorem rfE(d f t:Dt)(bs:Option Addr)(n cp:Nat)(kd:Int)(fk:Int)(tk:Int)(ey:Bool)(lt:Bool){w0 w:World}{P:List Nat}{a0:Act}{Q:Exit->Act->World->Prop}(hst:SS w0) (hw:fK w0 156 P [(35,(jI kd d fk f tk t (.slice bs n cp) ey lt)),(30,zdL),(32,zbL)] [(1,(pb P 0)),(2,(.int .i64 0)),(3,(.int .i64 0))] a0 w)(HP:Lg w0 156 P (zN kd d fk f tk t bs n cp ey lt) (fun P=>[(2,(.int .i64 0)),(3,(.int .i64 0))]) (Q .ret)):(fH [1,1,1,1,1,1,1,1,1,1,1] qM).wp Tryz.prog Q a0 w:=
 lI (aOV (lv (jI kd d fk f tk t (.slice bs n cp) ey lt) [])) (fA w0) hst .nil .nil hw HP (by kernel_rfl)
end Sk
end
section
namespace Sk
def rF(ey lt pl:Bool)(i last:Int):Bool:=(ey&&(i==0)&& !pl)||(lt&&(i==last)&& !pl)||(ey&&lt&&(last==0))
def badR(ey lt rg:Bool)(pn i n:Int):Bool:=((ey&&(i==0))&&(lt&&(i==IntKind.i64.wrap (n - 1))))||(((ey&&(i==0))||(lt&&(i==IntKind.i64.wrap (n - 1))))&&(rg||(pn==0)))
theorem aJN(e last i:Int)(ey lt pl:Bool){A B C:Prop}(hE:e≠0->A)(hB:e=0->rF ey lt pl i last=true->B)(hN:e=0->rF ey lt pl i last=false->C):
 (((e==0)=true->((ey=true->(((i==0)=true->((pl=true->((lt=true->(((i==last)=true->(((last==0)=true->B)/\((last==0)=false->C)))/\((i==last)=false->(((last==0)=true->B)/\((last==0)=false->C)))))/\(lt=false->C)))/\(pl=false->B)))/\((i==0)=false->((lt=true->(((i==last)=true->((pl=true->(((last==0)=true->B)/\((last==0)=false->C)))/\(pl=false->B)))/\((i==last)=false->(((last==0)=true->B)/\((last==0)=false->C)))))/\(lt=false->C)))))/\(ey=false->((lt=true->(((i==last)=true->((pl=true->C)/\(pl=false->B)))/\((i==last)=false->C)))/\(lt=false->C)))))/\((e==0)=false->A)):=
 ⟨fun c0=>⟨fun c1=>⟨fun c2=>⟨fun c3=>⟨fun c4=>⟨fun c5=>⟨fun c6=>hB (by simpa using c0) (by simp[rF,c1,c2,c3,c4,c5,c6]),fun c6=>hN (by simpa using c0) (by simp[rF,c1,c2,c3,c4,c5,c6])⟩,fun c5=>⟨fun c6=>hB (by simpa using c0) (by simp[rF,c1,c2,c3,c4,c5,c6]),fun c6=>hN (by simpa using c0) (by simp[rF,c1,c2,c3,c4,c5,c6])⟩⟩,fun c4=>hN (by simpa using c0) (by simp[rF,c1,c2,c3,c4])⟩,fun c3=>hB (by simpa using c0) (by simp[rF,c1,c2,c3])⟩,fun c2=>⟨fun c3=>⟨fun c4=>⟨fun c5=>⟨fun c6=>hB (by simpa using c0) (by simp[rF,c1,c2,c3,c4,c5,c6]),fun c6=>hN (by simpa using c0) (by simp[rF,c1,c2,c3,c4,c5,c6])⟩,fun c5=>hB (by simpa using c0) (by simp[rF,c1,c2,c3,c4,c5])⟩,fun c4=>⟨fun c5=>hB (by simpa using c0) (by simp[rF,c1,c2,c3,c4,c5]),fun c5=>hN (by simpa using c0) (by simp[rF,c1,c2,c3,c4,c5])⟩⟩,fun c3=>hN (by simpa using c0) (by simp[rF,c1,c2,c3])⟩⟩,fun c1=>⟨fun c2=>⟨fun c3=>⟨fun c4=>hN (by simpa using c0) (by simp[rF,c1,c2,c3,c4]),fun c4=>hB (by simpa using c0) (by simp[rF,c1,c2,c3,c4])⟩,fun c3=>hN (by simpa using c0) (by simp[rF,c1,c2,c3])⟩,fun c2=>hN (by simpa using c0) (by simp[rF,c1,c2])⟩⟩,fun c0=>hE (by simpa using c0)⟩
theorem aKr(e i pn:Int)(n:Nat)(ey lt rg:Bool){A B C:Prop}(hE:e≠0->A)(hB:e=0->badR ey lt rg pn i n=true->B)(hN:e=0->badR ey lt rg pn i n=false->C):
 (((e==0)=true->((ey=true->(((i==0)=true->((lt=true->(((i==(IntKind.i64.wrap (((n:Nat):Int) - 1)))=true->B)/\((i==(IntKind.i64.wrap (((n:Nat):Int) - 1)))=false->((rg=true->B)/\(rg=false->(((pn==0)=true->B)/\((pn==0)=false->C)))))))/\(lt=false->((rg=true->B)/\(rg=false->(((pn==0)=true->B)/\((pn==0)=false->C)))))))/\((i==0)=false->((lt=true->(((i==(IntKind.i64.wrap (((n:Nat):Int) - 1)))=true->((rg=true->B)/\(rg=false->(((pn==0)=true->B)/\((pn==0)=false->C)))))/\((i==(IntKind.i64.wrap (((n:Nat):Int) - 1)))=false->C)))/\(lt=false->C)))))/\(ey=false->((lt=true->(((i==(IntKind.i64.wrap (((n:Nat):Int) - 1)))=true->((rg=true->B)/\(rg=false->(((pn==0)=true->B)/\((pn==0)=false->C)))))/\((i==(IntKind.i64.wrap (((n:Nat):Int) - 1)))=false->C)))/\(lt=false->C)))))/\((e==0)=false->A)):=
 ⟨fun c0=>⟨fun c1=>⟨fun c2=>⟨fun c3=>⟨fun c4=>hB (by simpa using c0) (by simp[badR,c1,c2,c3,c4]),fun c4=>⟨fun c5=>hB (by simpa using c0) (by simp[badR,c1,c2,c3,c4,c5]),fun c5=>⟨fun c6=>hB (by simpa using c0) (by simp[badR,c1,c2,c3,c4,c5,c6]),fun c6=>hN (by simpa using c0) (by simp[badR,c1,c2,c3,c4,c5,c6])⟩⟩⟩,fun c3=>⟨fun c4=>hB (by simpa using c0) (by simp[badR,c1,c2,c3,c4]),fun c4=>⟨fun c5=>hB (by simpa using c0) (by simp[badR,c1,c2,c3,c4,c5]),fun c5=>hN (by simpa using c0) (by simp[badR,c1,c2,c3,c4,c5])⟩⟩⟩,fun c2=>⟨fun c3=>⟨fun c4=>⟨fun c5=>hB (by simpa using c0) (by simp[badR,c1,c2,c3,c4,c5]),fun c5=>⟨fun c6=>hB (by simpa using c0) (by simp[badR,c1,c2,c3,c4,c5,c6]),fun c6=>hN (by simpa using c0) (by simp[badR,c1,c2,c3,c4,c5,c6])⟩⟩,fun c4=>hN (by simpa using c0) (by simp[badR,c1,c2,c3,c4])⟩,fun c3=>hN (by simpa using c0) (by simp[badR,c1,c2,c3])⟩⟩,fun c1=>⟨fun c2=>⟨fun c3=>⟨fun c4=>hB (by simpa using c0) (by simp[badR,c1,c2,c3,c4]),fun c4=>⟨fun c5=>hB (by simpa using c0) (by simp[badR,c1,c2,c3,c4,c5]),fun c5=>hN (by simpa using c0) (by simp[badR,c1,c2,c3,c4,c5])⟩⟩,fun c3=>hN (by simpa using c0) (by simp[badR,c1,c2,c3])⟩,fun c2=>hN (by simpa using c0) (by simp[badR,c1,c2])⟩⟩,fun c0=>hE (by simpa using c0)⟩
def mD(zd zf zt:Bool)(n:Int):Int:=if(zd&&(zf&&zt))=false then 5 else if n=0 then 17 else if 256<n then 3 else 0
theorem aGo(kd:Int)(hk0:3<=kd)(hk1:kd<=4)(n:Nat)(zd zf zt:Bool){A B C D:Prop}(h5:mD zd zf zt n=5->A)(h17:mD zd zf zt n=17->B)(h3:mD zd zf zt n=3->D)(h0:mD zd zf zt n=0->C):
 (((kd==3)=true->(((kd==1)=true->False)/\((kd==1)=false->(((kd==2)=true->False)/\((kd==2)=false->((zd=true->((zf=true->((zt=true->(((((n:Nat):Int)==0)=true->B)/\((((n:Nat):Int)==0)=false->(((decide (256<((n:Nat):Int)))=true->D)/\((decide (256<((n:Nat):Int)))=false->C)))))/\(zt=false->A)))/\(zf=false->A)))/\(zd=false->A)))))))/\((kd==3)=false->(((kd==4)=true->(((kd==1)=true->False)/\((kd==1)=false->(((kd==2)=true->False)/\((kd==2)=false->((zd=true->((zf=true->((zt=true->(((((n:Nat):Int)==0)=true->B)/\((((n:Nat):Int)==0)=false->(((decide (256<((n:Nat):Int)))=true->D)/\((decide (256<((n:Nat):Int)))=false->C)))))/\(zt=false->A)))/\(zf=false->A)))/\(zd=false->A)))))))/\((kd==4)=false->False)))):=
 ⟨fun c0=>⟨fun c1=>(by simp only[aFy,aB1]at *;omega),fun c1=>⟨fun c2=>(by simp only[aFy,aB1]at *;omega),fun c2=>⟨fun c3=>⟨fun c4=>⟨fun c5=>⟨fun c6=>h17 (by simp only[aFy,aB1,aEv,aCk]at *;simp[mD, *];try omega),fun c6=>⟨fun c7=>h3 (by simp only[aFy,aB1,aEv,aCk]at *;simp[mD, *];try omega),fun c7=>h0 (by simp only[aFy,aB1,aEv,aCk]at *;simp[mD, *];try omega)⟩⟩,fun c5=>h5 (by simp only[aFy,aB1,aEv,aCk]at *;simp[mD, *];try omega)⟩,fun c4=>h5 (by simp only[aFy,aB1,aEv,aCk]at *;simp[mD, *];try omega)⟩,fun c3=>h5 (by simp only[aFy,aB1,aEv,aCk]at *;simp[mD, *];try omega)⟩⟩⟩,fun c0=>⟨fun c1=>⟨fun c2=>(by simp only[aFy,aB1]at *;omega),fun c2=>⟨fun c3=>(by simp only[aFy,aB1]at *;omega),fun c3=>⟨fun c4=>⟨fun c5=>⟨fun c6=>⟨fun c7=>h17 (by simp only[aFy,aB1,aEv,aCk]at *;simp[mD, *];try omega),fun c7=>⟨fun c8=>h3 (by simp only[aFy,aB1,aEv,aCk]at *;simp[mD, *];try omega),fun c8=>h0 (by simp only[aFy,aB1,aEv,aCk]at *;simp[mD, *];try omega)⟩⟩,fun c6=>h5 (by simp only[aFy,aB1,aEv,aCk]at *;simp[mD, *];try omega)⟩,fun c5=>h5 (by simp only[aFy,aB1,aEv,aCk]at *;simp[mD, *];try omega)⟩,fun c4=>h5 (by simp only[aFy,aB1,aEv,aCk]at *;simp[mD, *];try omega)⟩⟩⟩,fun c1=>(by simp only[aFy,aB1]at *;omega)⟩⟩
end Sk
end
section
open Go.RowKit Go.Lib
namespace Sk
open Un (ba bt)
open Bk (Dt eP)
open Ev (fF aMn fK Lg RG fH qZ)
abbrev kU:TypeId:=79
abbrev kT:=Dt × Bool × Dt
abbrev kT.l(x:kT):List Value:=yS x.1 x.2.1 x.2.2
abbrev kT.v(x:kT):Value:=itV x.1 x.2.1 x.2.2
abbrev cZ:kT:=(z0,false,z0)
def bP(w:World)(bs:Option Addr)(L:List kT):Prop:= ∀i,i<L.length-> ∃g o,bs=some ⟨g,o,none⟩/\g<w.heap.size/\w.rangeAt g (o+i * 21) (L.getD i cZ).l
theorem bP.later{w w':World}{bs:Option Addr}{L:List kT}(h:bP w bs L)(hb:Below w.heap.size w w'):bP w' bs L:=fun i hi=>by
 obtain⟨g,o,e,hg,hr⟩:=h i hi;exact⟨g,o,e,aFz hg hb.size,fun j v hv=>(hb.cell (p:=⟨g,_,none⟩) hg).trans (hr j v hv)⟩
theorem pG{w w':World}{f:FuncId}{args:Array Value}{v:Value}(h:Same w f args v)(hb:Below w.heap.size w w'):Same w' f args v:=fun u hu=>h u (bt hb hu)
def FE(R:Nat->Int)(n:Nat)(at_ r:Int):Prop:=(∃i:Nat,i<n/\at_=i/\R i=r/\r≠0/\ ∀j,j<i->R j=0)\/(at_=0/\r=0/\ ∀j,j<n->R j=0)
theorem aJk{R:Nat->Int}{n:Nat}{a r:Int}(h:FE R n a r){i:Nat}(hi:i<n)(hn:R i≠0)(h0: ∀j,j<i->R j=0):a=i/\r=R i:=by
 rcases h with⟨j,hj,rfl,rfl,h1,h2⟩|⟨_,_,h1⟩
 . rcases a1p i j with c|c|c
   . exact absurd (h2 i c) hn
   . subst c;exact⟨rfl,rfl⟩
   exact absurd (h0 j c) h1
 exact absurd (h1 i hi) hn
theorem aNo{R:Nat->Int}{n:Nat}{a r:Int}(h:FE R n a r)(h0: ∀j,j<n->R j=0):a=0/\r=0:=by
 rcases h with⟨j,hj,rfl,rfl,h1,h2⟩|⟨h1,h2,_⟩
 . exact absurd (h0 j hj) h1
 exact⟨h1,h2⟩
theorem aNp(R:Nat->Int): ∀n,∃a r,FE R n a r
 |0=>⟨0,0,.inr ⟨rfl,rfl,fun j h=>by omega⟩⟩
 | n + 1=>by
  obtain⟨a,r,h⟩:=aNp R n;rcases h with⟨j,hj,h1,h2⟩|⟨h1,h2,h3⟩
  . exact⟨a,r,.inl ⟨j,by omega,h1,h2⟩⟩
  by_cases c:R n=0
  . exact⟨0,0,.inr ⟨rfl,rfl,fun j hj=>by
     by_cases e:j=n
     . subst e;exact c
     exact h3 j (by omega)⟩⟩
  exact⟨n,R n,.inl ⟨n,by omega,rfl,rfl,c,h3⟩⟩
theorem oV:(Tryz.prog.info? kU).map (·.size)=some 21:=by kernel_rfl
theorem BO:(Tryz.prog.info? 3).map (·.size)=some 1:=by kernel_rfl
theorem SK(x:kT):x.l.toArray.all (·.oneCell')=true:=by
 obtain⟨x,rg,y⟩:=x;simp[yS,Value.oneCell']
theorem aJO{w0 w:World}{P:List Nat}{E:List Value}{last:Int}{bs:Option Addr}{n cp i:Nat}{a:Act}{Q:Exit->Act->World->Prop}(x:kT)
 (hw:fK w0 39 P [(35,E),(3,[.int .i64 last])] [(1,pb P 0),(2,.int .i64 0),(3,.int .i64 0),(4,pb P 1),(13,.slice bs n cp),(14,.int .i64 (n:Int)),(15,.int .i64 (i:Int)),(16,.bool true)] a w) (hi:i<n)
 {g o:Nat} (hb:bs=some ⟨g,o,none⟩) (hg:g<w0.heap.size) (hr:w0.rangeAt g (o+i * 21) x.l)
 (hQ: ∀P' a' w',(∀(j p:Nat),P[j]? =some p->P'[j]? =some p)->P'.take 2=P->fK w0 39 P' [(35,E),(3,[.int .i64 last]),(3,[.int .i64 (i:Int)]),(79,x.l)] [(1,pb P' 0),(2,.int .i64 0),(3,.int .i64 0),(4,pb P' 1),(13,.slice bs n cp),(14,.int .i64 (n:Int)),(15,.int .i64 (i:Int)),(5,pb P' 2),(6,pb P' 3)] a' w'->Q .normal a' w'):
 (fH [1,1,0,1,0,0,1,1,0,0,0] ER).wp Tryz.prog Q a w:=by
 subst hb;have hk:(lH (fH [1,1,0,1,0,0,1,1,0,0,0] ER),(oD (fH [1,1,0,1,0,0,1,1,0,0,0] ER)).map key)=(false,[(none,some 17,.move (.tmp 15)),(none,some 18,.indexAddr 33 (.tmp 13) (.tmp 15)),(none,some 19,.load kU (.tmp 18)),(none,some 5,.alloc 3),(none,some 6,.alloc kU),(none,none,.store 3 (.tmp 5) (.tmp 17)),(none,none,.store kU (.tmp 6) (.tmp 19))]):=by kernel_rfl
 obtain⟨hd,hm⟩:=Prod.mk.inj hk;obtain⟨o1,l1,e1,k1,hm⟩:=pO hm;obtain⟨o2,l2,e2,k2,hm⟩:=pO hm;obtain⟨o3,l3,e3,k3,hm⟩:=pO hm;obtain⟨o4,l4,e4,k4,hm⟩:=pO hm;obtain⟨o5,l5,e5,k5,hm⟩:=pO hm;obtain⟨o6,l6,e6,k6,hm⟩:=pO hm;obtain⟨o7,l7,e7,k7,hm⟩:=pO hm;have e8:=aK3 hm;subst e8 e7 e6 e5 e4 e3 e2;simp only[key,aNl]at k1 k2 k3 k4 k5 k6 k7;obtain⟨g1,d1,p1⟩:=k1;obtain⟨g2,d2,p2⟩:=k2;obtain⟨g3,d3,p3⟩:=k3;obtain⟨g4,d4,p4⟩:=k4;obtain⟨g5,d5,p5⟩:=k5;obtain⟨g6,d6,p6⟩:=k6;obtain⟨g7,d7,p7⟩:=k7;refine aCo hd fun ops=>?_;rw[e1];refine aQY g1 _ d1 _ (tJ (v:=.int .i64 (i:Int)) (.inl p1) (fV hw (by simp))) ?_;have h1:=kY hw (d:=17) (v:=.int .i64 (i:Int)) (by decide);generalize a.put (some 17) (.int .i64 (i:Int))=a1 at h1 ⊢;refine aQY g2 _ d2 _ (vS (g:=g) (off:=o) (n:=n) (cp:=cp) (i:=i) p2 (fV h1 (by simp)) (fV h1 (by simp)) hi Tryz.underlying33 oV) ?_;have h2:=kY h1 (d:=18) (v:=.pointer (some ⟨g,o+i * 21,none⟩)) (by decide);generalize a1.put (some 18) (.pointer (some ⟨g,o+i * 21,none⟩))=a2 at h2 ⊢;have hr2:w.rangeAt g (o+i * 21) x.l:=fun j v hv=>(hw.below.cell (p:=⟨g,_,none⟩) hg).trans (hr j v hv);refine aNI g3 _ (.tmp 18) p3 g (o+i * 21) (fV h2 (by simp)) x.l _ hr2 Tryz.underlying79 rfl (by rw[oV];rfl) ?_;rw[d3];have h3:=kY h2 (d:=19) (v:=x.v) (by decide);change wpList _ _ _ _ (a2.put (some 19) x.v) _;generalize a2.put (some 19) x.v=a3 at h3 ⊢;obtain⟨vl,hvl⟩: ∃v,v=x.v:=⟨_,rfl⟩;rw[<-hvl]at h3;refine a0N g4 _ d4 _ _ (JC p4 (Tryz.zeroValue3 w) rfl) ?_;have h4:=yZ h3 (d:=5) (by decide) 3 [.int .i64 0];have hP:P.length=2:=hw.fr.1;obtain⟨p0,p1',rfl⟩: ∃a b,P=[a,b]:=by
  match P,hP with
  |[a,b],_=>exact⟨a,b,rfl⟩
 change fK w0 39 [p0,p1',w.heap.size] [(35,E),(3,[.int .i64 last]),(3,[.int .i64 0])] _ _ (w.alloc (.cells #[.int .i64 0] 3))at h4;generalize w.alloc (.cells #[.int .i64 0] 3)=w4 at h4 ⊢;generalize w.heap.size=q at h4 ⊢;generalize a3.put (some 5) (.pointer (some ⟨q,0,none⟩))=a4 at h4 ⊢;refine a0N g5 _ d5 _ _ (vU p5 (Tryz.zeroValue79 _)) ?_;have h5:=yZ h4 (d:=6) (by decide) kU (yS z0 false z0);change fK w0 39 [p0,p1',q,w4.heap.size] [(35,E),(3,[.int .i64 last]),(3,[.int .i64 0]),(kU,yS z0 false z0)] _ _ (w4.alloc (.cells (yS z0 false z0).toArray kU))at h5;change wpList _ _ _ _ _ (w4.alloc (.cells (yS z0 false z0).toArray kU));generalize w4.alloc (.cells (yS z0 false z0).toArray kU)=w5 at h5 ⊢;generalize w4.heap.size=r at h5 ⊢;generalize a4.put (some 6) (.pointer (some ⟨r,0,none⟩))=a5 at h5 ⊢;have h5':=(AP h5 (j:=2) rfl).1;have h5s:=kX h5 (S':=[(1,pb [p0,p1',q,r] 0),(2,.int .i64 0),(3,.int .i64 0),(4,pb [p0,p1',q,r] 1),(13,.slice (some ⟨g,o,none⟩) n cp),(14,.int .i64 (n:Int)),(15,.int .i64 (i:Int)),(5,pb [p0,p1',q,r] 2),(6,pb [p0,p1',q,r] 3),(17,.int .i64 (i:Int)),(19,vl)]) (by
  intro e he;simp only[aGv,aMt,aV2]at he;rcases he with rfl|rfl|rfl|rfl|rfl|rfl|rfl|rfl|rfl|rfl|rfl<;>simp)
 clear h1 h2 h3 h4 h5;refine NJ g6 3 (.tmp 5) (.tmp 17) p6 q 0 (.int .i64 (i:Int)) (fV h5s (by simp)) (fV h5s (by simp)) rfl (bD h5') BO rfl ?_;rw[d6];have h6:=yY h5s (j:=2) (us:=[.int .i64 (i:Int)]) rfl rfl;change fK w0 39 [p0,p1',q,r] [(35,E),(3,[.int .i64 last]),(3,[.int .i64 (i:Int)]),(kU,yS z0 false z0)] _ _ (w5.setCells q 0 [.int .i64 (i:Int)])at h6;change wpList _ _ _ _ a5 _;generalize w5.setCells q 0 [.int .i64 (i:Int)]=w6 at h6 ⊢;have h6':=(AP h6 (j:=3) rfl).1;subst hvl;refine aQQ g7 kU (.tmp 6) (.tmp 19) p7 r 0 x.l.toArray (fV h6 (by simp)) (fV h6 (by simp)) (show World.there _ _ 0 21 from bD h6') (by rw[oV];rfl) (SK x) ?_;rw[d7];have h7:=yY h6 (j:=3) (us:=x.l) rfl rfl;change fK w0 39 [p0,p1',q,r] [(35,E),(3,[.int .i64 last]),(3,[.int .i64 (i:Int)]),(79,x.l)] _ _ (w6.setCells r 0 x.l)at h7;change Q .normal a5 (w6.setCells r 0 x.l);generalize w6.setCells r 0 x.l=w7 at h7 ⊢;refine hQ [p0,p1',q,r] a5 w7 (fun j p hp=>?_) rfl (kX h7 ?_)
 . match j,hp with
   |0,hp=>exact hp
   |1,hp=>exact hp
 intro e he;simp only[aGv,aMt,aV2]at he;rcases he with rfl|rfl|rfl|rfl|rfl|rfl|rfl|rfl|rfl<;>simp
def rdE(ey lt pl:Bool)(e i last:Int):Int:=if e≠0 then e else if rF ey lt pl i last=true then 10 else 0
abbrev xiF(E:List Value)(last:Int):List (TypeId × List Value):=[(35,E),(3,[.int .i64 last])]
abbrev xiS(bs:Option Addr)(n cp:Nat)(i:Int)(P:List Nat):List (Nat × Value):=[(1,pb P 0),(2,.int .i64 0),(3,.int .i64 0),(4,pb P 1),(13,.slice bs n cp),(14,.int .i64 (n:Int)),(15,.int .i64 i)]
theorem aNO{P P':List Nat}(h:P.length=2)(hP: ∀(j p:Nat),P[j]? =some p->P'[j]? =some p):P'.take 2=P/\P'=P++P'.drop 2:=by
 have e:P'.take 2=P:=by
  match P,h with
  |[a,b],_=>
   have h0:=hP 0 a rfl;have h1:=hP 1 b rfl
   match P',h0,h1 with
   |[],h0,_=>simp at h0
   |[c],_,h1=>simp at h1
   |c::d::l,h0,h1=>simp at h0 h1;subst h0 h1;rfl
 exact⟨e,by rw[<-e,aWv]⟩
section
variable{w0:World}{kd fk tk:Int}{d f t:Dt}{bs:Option Addr}{cp:Nat}{ey lt:Bool}
theorem aBq(hst:SS w0){L:List kT}(hn:L.length<=1000000)(hI:bP w0 bs L){E:Nat->Int}{PL:Nat->Bool}(hE: ∀i,i<L.length->Same w0 103 #[(L.getD i cZ).v,.int .u8 kd] (.int .i64 (E i)))
 (hPL: ∀i,i<L.length->Same w0 106 #[(L.getD i cZ).v] (.bool (PL i))) {at_ r:Int} (hr:FE (fun i=>rdE ey lt (PL i) (E i) i (IntKind.i64.wrap (L.length - 1))) L.length at_ r):
 Calls Tryz.prog 63 #[exV kd d fk f tk t (.slice bs L.length cp) ey lt] w0 fun e w'=>e=.returned (.tuple #[.int .i64 at_,.int .i64 r])/\Below w0.heap.size w0 w':=by
 obtain⟨n,hN⟩: ∃n,n=L.length:=⟨_,rfl⟩;rw[<-hN]at hr hE hPL hn ⊢;obtain⟨last,hl⟩: ∃l,l=IntKind.i64.wrap ((n:Int) - 1):=⟨_,rfl⟩;rw[<-hl]at hr;refine IY (args:=[exV kd d fk f tk t (.slice bs n cp) ey lt]) (N:=39) (w0:=w0) Tryz.func63 (show _=some ER by kernel_rfl) Tryz.ntmps63 (by simp) (aDl _ _) fun a0 h0=>?_;refine xiA d f t bs n cp kd fk tk ey lt hst h0 (fun P a w hP hs=>?_);rw[<-hl]at hs;have e2:qZ 2 ER=.seq (.seq (fH [1,1,0,0] ER) (.block 0 (.loop (.seq (fH [1,1,0,1,0,0,0] ER) (.seq (.cond (.tmp 16) .skip (.exit 0)) (.seq (.block 1 (.seq (fH [1,1,0,1,0,0,1,1,0,0,0] ER) (fH [1,1,0,1,0,0,1,1,0,0,1] ER))) (fH [1,1,0,1,0,0,1,1,1] ER))))))) (fH [1,1,1] ER):=by kernel_rfl
 show(qZ 2 ER).wp _ _ _ _;rw[e2];refine aZs (aZs (xiB d f t bs n cp kd fk tk ey lt last hst hs (fun P a w _ hs=>?_)));refine wp_block (wp_loop_ghost (fun m a w=> ∃(i:Nat) (P:List Nat),m+i=n/\(∀j,j<i->rdE ey lt (PL j) (E j) j last=0)/\fK w0 39 P (xiF (jI kd d fk f tk t (.slice bs n cp) ey lt) last) (xiS bs n cp i P) a w) n ⟨0,P,rfl,fun j hj=>by omega,hs⟩ ?_);rintro m a w ⟨i,P,hm,hz,hs⟩;refine aZs (xiH d f t bs n cp kd fk tk ey lt last i hst hs ⟨fun hlt P1 a1 w1 hP1 hs1=>?_,fun hge P1 a1 w1 hP1 hs1=>?_⟩)
 . have hin:i<n:=by have:=aHY hlt;omega
   obtain⟨g,o,hb,hg,hrg⟩:=hI i (by omega);refine aZs (wp_cond_true (fV hs1 (by simp)) (wp_skip (aZs (wp_block (aZs (aJO (L.getD i cZ) hs1 hin hb hg hrg fun P2 a2 w2 hP2 hT2 hs2=>?_))))));have hp2:P1.length=2:=hs1.fr.1;have X9: ∀(v:Int),rdE ey lt (PL i) (E i) i last=v->v≠0-> ∀P3 a3 w3,(∀(j p:Nat),P2[j]? =some p->P3[j]? =some p)->fK w0 39 P3 [(35,jI kd d fk f tk t (.slice bs n cp) ey lt),(3,[.int .i64 last]),(3,[.int .i64 (i:Int)]),(79,(L.getD i cZ).l)] [(1,pb P3 0),(2,.int .i64 (i:Int)),(3,.int .i64 v),(4,pb P3 1),(13,.slice bs n cp),(14,.int .i64 (n:Int)),(15,.int .i64 (i:Int))] a3 w3->
    bodyPost Tryz.prog Tryz.f63 (fun e w'=>e=.returned (.tuple #[.int .i64 at_,.int .i64 r])/\Below w0.heap.size w0 w') .ret a3 w3:=by
    intro v hv hne P3 a3 w3 _ hs3;obtain⟨ea,er⟩:=aJk hr hin (by rw[hv];exact hne) hz;refine rM (i:=2) (j:=3) (v:=.int .i64 (i:Int)) (u:=.int .i64 v) hs3 Tryz.results63 (by simp) (by simp) ⟨?_,hs3.below⟩;rw[ea,er,hv]
   refine xiR d f t (L.getD i cZ).1 (L.getD i cZ).2.2 bs n cp kd fk tk ey lt (L.getD i cZ).2.1 last i (E i) (PL i) hst (hE i (by omega)) (hPL i (by omega)) hs2 (aJN (E i) last i ey lt (PL i) (fun he P3 a3 w3 hP3 hs3=>?_) (fun he hb P3 a3 w3 hP3 hs3=>?_) (fun he hb P3 a3 w3 hP3 hs3=>?_))
   . exact X9 (E i) (by unfold rdE;rw[aFw he]) he P3 a3 w3 hP3 hs3
   . exact X9 10 (by unfold rdE;rw[aFv (by omega),aFw hb]) (by decide) P3 a3 w3 hP3 hs3
   have hr0:rdE ey lt (PL i) (E i) i last=0:=by unfold rdE;rw[aFv (by omega),aFv (by rw[hb];decide)]
   obtain⟨t3,p3⟩:=aNO hp2 (fun j p h=>hP3 j p (hP2 j p h));have hs4:fK w0 39 P1 (xiF (jI kd d fk f tk t (.slice bs n cp) ey lt) last) (xiS bs n cp i P1) a3 w3:=by
    have q: ∀j,j<2->P3.getD j 0=P1.getD j 0:=fun j hj=>by
     have h1:P1[j]? =some (P1.getD j 0):=by simp[List.getD,aEH (show j<P1.length by omega)]
     have:=hP3 j _ (hP2 j _ h1);simp[List.getD,this]
    have h5:=hs3;rw[p3]at h5;have h6:=ET (F1:=xiF (jI kd d fk f tk t (.slice bs n cp) ey lt) last) (F2:=[(3,[.int .i64 (i:Int)]),(79,(L.getD i cZ).l)]) h5 hp2;refine kX h6 ?_;intro e he;simp only[aGv,aMt,aV2]at he;have q0:=q 0 (by omega);have q1:=q 1 (by omega);rw[p3]at q0 q1;rcases he with rfl|rfl|rfl|rfl|rfl|rfl|rfl<;>(try simp only[FX,LK,zN,LJ,fr4,fr5,fr6,fr7,fr8])<;>(try simp only[pb,<-q0,<-q1])<;>simp
   refine xiT d f t bs n cp kd fk tk ey lt last i hst hs4 (fun P5 a5 w5 _ hs5=>?_);have hw1:IntKind.i64.wrap ((i:Int)+1)=((i+1:Nat):Int):=by rw[aVL];omega
   rw[hw1]at hs5;refine⟨m - 1,by omega,i+1,P5,by omega,fun j hj=>?_,hs5⟩
   by_cases c:j=i
   . subst c;exact hr0
   exact hz j (by omega)
 have hin:i=n:=by have:=aOC hge;omega
 subst hin;refine aZs (wp_cond_false (fV hs1 (by simp)) (wp_exit ?_));obtain⟨ea,er⟩:=aNo hr hz;subst ea er;have hs2:=kX hs1 (S':=[(1,pb P1 0),(2,.int .i64 0),(3,.int .i64 0),(4,pb P1 1)]) (by
  intro e he;simp only[aGv,aMt,aV2]at he;rcases he with rfl|rfl|rfl|rfl<;>simp)
 show(fH [1,1,1] ER).wp _ _ _ _;refine xiE d f t bs i cp kd fk tk ey lt last hst hs2 (fun P3 a3 w3 _ hs3=>?_);exact rM (i:=2) (j:=3) (v:=.int .i64 0) (u:=.int .i64 0) hs3 Tryz.results63 (by simp) (by simp) ⟨rfl,hs3.below⟩
end
end Sk
end
section
open Go.RowKit Go.Lib
namespace Sk
open Un (ba bt)
open Bk (Dt eP)
open Ev (fF aMn fK Lg RG fH qZ)
abbrev dz:List Value:=[.bool false,.bool false,.string ⟨#[]⟩,.int .i64 0,.int .i64 0,.string ⟨#[]⟩,.string ⟨#[]⟩,.int .u8 0,.int .u8 0,.int .u8 0]
abbrev rfF(E:List Value):List (TypeId × List Value):=[(35,E),(30,dz),(32,.int .u8 0::dz)]
abbrev rfS(i:Int)(P:List Nat):List (Nat × Value):=[(1,pb P 0),(2,.int .i64 0),(3,.int .i64 0),(7,.int .i64 i)]
abbrev aKq:List Nat:=[1,1,1,1,1,1,1,1,1,1,0,1,0,0,1,0,0,0]
theorem aEV:Tryz.prog.cellsOf 33=1:=by kernel_rfl
theorem aKs{w0 w:World}{P:List Nat}{E:List Value}{bs:Option Addr}{n cp i:Nat}{a:Act}{Q:Exit->Act->World->Prop}(x:kT)(hE:E[33]? =some (.slice bs n cp))
 (hw:fK w0 156 P (rfF E) (rfS i P) a w) (hi:i<n)
 {g o:Nat} (hb:bs=some ⟨g,o,none⟩) (hg:g<w0.heap.size) (hr:w0.rangeAt g (o+i * 21) x.l)
 (hQ: ∀P' a' w',(∀(j p:Nat),P[j]? =some p->P'[j]? =some p)->fK w0 156 P' [(35,E),(30,dz),(32,.int .u8 0::dz),(79,x.l)] [(1,pb P' 0),(2,.int .i64 0),(3,.int .i64 0),(7,.int .i64 (i:Int)),(8,pb P' 3)] a' w'->Q .normal a' w'):
 (fH aKq qM).wp Tryz.prog Q a w:=by
 subst hb;have hk:(lH (fH aKq qM),(oD (fH aKq qM)).map key)=(false,[(none,some 105,.fieldAddr 35 (.tmp 1) 4),(none,some 106,.load 33 (.tmp 105)),(none,some 107,.move (.tmp 7)),(none,some 108,.indexAddr 33 (.tmp 106) (.tmp 107)),(none,some 109,.load kU (.tmp 108)),(none,some 8,.alloc kU),(none,none,.store kU (.tmp 8) (.tmp 109))]):=by kernel_rfl
 obtain⟨hd,hm⟩:=Prod.mk.inj hk;obtain⟨o1,l1,e1,k1,hm⟩:=pO hm;obtain⟨o2,l2,e2,k2,hm⟩:=pO hm;obtain⟨o3,l3,e3,k3,hm⟩:=pO hm;obtain⟨o4,l4,e4,k4,hm⟩:=pO hm;obtain⟨o5,l5,e5,k5,hm⟩:=pO hm;obtain⟨o6,l6,e6,k6,hm⟩:=pO hm;obtain⟨o7,l7,e7,k7,hm⟩:=pO hm;have e8:=aK3 hm;subst e8 e7 e6 e5 e4 e3 e2;simp only[key,aNl]at k1 k2 k3 k4 k5 k6 k7;obtain⟨g1,d1,p1⟩:=k1;obtain⟨g2,d2,p2⟩:=k2;obtain⟨g3,d3,p3⟩:=k3;obtain⟨g4,d4,p4⟩:=k4;obtain⟨g5,d5,p5⟩:=k5;obtain⟨g6,d6,p6⟩:=k6;obtain⟨g7,d7,p7⟩:=k7;have fb:=(AP hw (j:=0) rfl).1;refine aCo hd fun ops=>?_;rw[e1];refine aQY g1 _ d1 (.pointer (some ⟨P.getD 0 0,33,none⟩)) (EZ (b:=P.getD 0 0) (off:=0) p1 (fV hw (by simp)) Tryz.underlying35 rfl (by show Tryz.prog.cellsOf 33≠0;rw[aEV];decide) (by kernel_rfl)) ?_;have h1:=kY hw (d:=105) (v:=.pointer (some ⟨P.getD 0 0,33,none⟩)) (by decide);generalize a.put (some 105) (.pointer (some ⟨P.getD 0 0,33,none⟩))=a1 at h1 ⊢;refine aQY g2 _ d2 (.slice (some ⟨g,o,none⟩) n cp) (aDC p2 (fV h1 (by simp)) Tryz.underlying33 (aY fb hE)) ?_;have h2:=kY h1 (d:=106) (v:=.slice (some ⟨g,o,none⟩) n cp) (by decide);generalize a1.put (some 106) (.slice (some ⟨g,o,none⟩) n cp)=a2 at h2 ⊢;refine aQY g3 _ d3 _ (tJ (v:=.int .i64 (i:Int)) (.inl p3) (fV h2 (by simp))) ?_;have h3:=kY h2 (d:=107) (v:=.int .i64 (i:Int)) (by decide);generalize a2.put (some 107) (.int .i64 (i:Int))=a3 at h3 ⊢;refine aQY g4 _ d4 _ (vS (g:=g) (off:=o) (n:=n) (cp:=cp) (i:=i) p4 (fV h3 (by simp)) (fV h3 (by simp)) hi Tryz.underlying33 oV) ?_;have h4:=kY h3 (d:=108) (v:=.pointer (some ⟨g,o+i * 21,none⟩)) (by decide);generalize a3.put (some 108) (.pointer (some ⟨g,o+i * 21,none⟩))=a4 at h4 ⊢;have hr2:w.rangeAt g (o+i * 21) x.l:=fun j v hv=>(hw.below.cell (p:=⟨g,_,none⟩) hg).trans (hr j v hv);refine aNI g5 _ (.tmp 108) p5 g (o+i * 21) (fV h4 (by simp)) x.l _ hr2 Tryz.underlying79 rfl (by rw[oV];rfl) ?_;rw[d5];have h5:=kY h4 (d:=109) (v:=x.v) (by decide);change wpList _ _ _ _ (a4.put (some 109) x.v) _;generalize a4.put (some 109) x.v=a5 at h5 ⊢;obtain⟨vl,hvl⟩: ∃v,v=x.v:=⟨_,rfl⟩;rw[<-hvl]at h5;refine a0N g6 _ d6 _ _ (vU p6 (Tryz.zeroValue79 _)) ?_;have h6:=yZ h5 (d:=8) (by decide) kU (yS z0 false z0);have hP:P.length=3:=hw.fr.1;obtain⟨p0,p1',p2',rfl⟩: ∃a b c,P=[a,b,c]:=by
  match P,hP with
  |[a,b,c],_=>exact⟨a,b,c,rfl⟩
 change fK w0 156 [p0,p1',p2',w.heap.size] [(35,E),(30,dz),(32,.int .u8 0::dz),(kU,yS z0 false z0)] _ _ (w.alloc (.cells (yS z0 false z0).toArray kU))at h6;change wpList _ _ _ _ _ (w.alloc (.cells (yS z0 false z0).toArray kU));generalize w.alloc (.cells (yS z0 false z0).toArray kU)=w6 at h6 ⊢;generalize w.heap.size=r at h6 ⊢;generalize a5.put (some 8) (.pointer (some ⟨r,0,none⟩))=a6 at h6 ⊢;have h6s:=kX h6 (S':=[(1,pb [p0,p1',p2',r] 0),(2,.int .i64 0),(3,.int .i64 0),(7,.int .i64 (i:Int)),(8,pb [p0,p1',p2',r] 3),(109,vl)]) (by
  intro e he;simp only[aGv,aMt,aV2]at he;rcases he with rfl|rfl|rfl|rfl|rfl|rfl<;>simp)
 clear h1 h2 h3 h4 h5 h6;have h6':=(AP h6s (j:=3) rfl).1;subst hvl;refine aQQ g7 kU (.tmp 8) (.tmp 109) p7 r 0 x.l.toArray (fV h6s (by simp)) (fV h6s (by simp)) (show World.there _ _ 0 21 from bD h6') (by rw[oV];rfl) (SK x) ?_;rw[d7];have h7:=yY h6s (j:=3) (us:=x.l) rfl rfl;change fK w0 156 [p0,p1',p2',r] [(35,E),(30,dz),(32,.int .u8 0::dz),(79,x.l)] _ _ (w6.setCells r 0 x.l)at h7;change Q .normal a6 (w6.setCells r 0 x.l);generalize w6.setCells r 0 x.l=w7 at h7 ⊢;refine hQ [p0,p1',p2',r] a6 w7 (fun j p hp=>?_) (kX h7 ?_)
 . match j,hp with
   |0,hp=>exact hp
   |1,hp=>exact hp
   |2,hp=>exact hp
 intro e he;simp only[aGv,aMt,aV2]at he;rcases he with rfl|rfl|rfl|rfl|rfl<;>simp
def rdR(ey lt rg:Bool)(pn e i n:Int):Int:=if e≠0 then e else if badR ey lt rg pn i n=true then 10 else 0
theorem aF0{P P':List Nat}(h:P.length=3)(hP: ∀(j p:Nat),P[j]? =some p->P'[j]? =some p):P'=P++P'.drop 3:=by
 have e:P'.take 3=P:=by
  match P,h with
  |[a,b,c],_=>
   have h0:=hP 0 a rfl;have h1:=hP 1 b rfl;have h2:=hP 2 c rfl
   match P',h0,h1,h2 with
   |[],h0,_,_=>simp at h0
   |[d],_,h1,_=>simp at h1
   |[d,d2],_,_,h2=>simp at h2
   |d::d2::d3::l,h0,h1,h2=>simp at h0 h1 h2;subst h0 h1 h2;rfl
 exact(aWv 3 P').symm.trans (by rw[e])
section
variable{w0:World}{kd fk tk:Int}{d f t:Dt}{bs:Option Addr}{cp:Nat}{ey lt:Bool}{zd zf zt:Bool}
theorem VQ(hst:SS w0)(hk0:3<=kd)(hk1:kd<=4)(hzd:IE 30 (eP d) (eP z0) zd)(UN:IE 32 (xY fk f) (xY 0 z0) zf)(UM:IE 32 (xY tk t) (xY 0 z0) zt)
 {L:List kT} (hn:L.length<=1000000) (hI:bP w0 bs L) {E E':Nat->Int} {pn:Nat->Int} (hE: ∀i,i<L.length->Same w0 65 #[(L.getD i cZ).v,.bool (decide (kd=4))] (.int .i64 (E i)))
 (hE': ∀i,i<L.length->Same w0 65 #[(L.getD i cZ).v,.bool (!decide (kd=4))] (.int .i64 (E' i)))
 (hPn: ∀i,i<L.length->Same w0 66 #[eP (L.getD i cZ).1] (.int .i64 (pn i))) {at_ r:Int}
 (hr:if mD zd zf zt L.length≠0 then at_=0/\r=mD zd zf zt L.length else FE (fun i=>rdR ey lt (L.getD i cZ).2.1 (pn i) (E i) i L.length) L.length at_ r):
 Calls Tryz.prog 39 #[exV kd d fk f tk t (.slice bs L.length cp) ey lt] w0 fun e w'=>e=.returned (.tuple #[.int .i64 at_,.int .i64 r])/\Below w0.heap.size w0 w':=by
 obtain⟨n,hN⟩: ∃n,n=L.length:=⟨_,rfl⟩;rw[<-hN]at hr hE hE' hPn hn ⊢;refine IY (args:=[exV kd d fk f tk t (.slice bs n cp) ey lt]) (N:=156) (w0:=w0) Tryz.func39 (show _=some qM by kernel_rfl) Tryz.ntmps39 (by simp) (aDl _ _) fun a0 h0=>?_;have e2:qZ 10 qM=.seq (.seq (fH [1,1,1,1,1,1,1,1,1,1,0,0] qM) (.block 0 (.loop (.seq (.seq (fH [1,1,1,1,1,1,1,1,1,1,0,1,0,0,0,0] qM) (.cond (.tmp 102) .skip (.exit 0))) (.seq (.block 1 (.seq (fH aKq qM) (.seq (fH [1,1,1,1,1,1,1,1,1,1,0,1,0,0,1,0,0,1,0] qM) (fH [1,1,1,1,1,1,1,1,1,1,0,1,0,0,1,0,0,1,1] qM)))) (fH [1,1,1,1,1,1,1,1,1,1,0,1,0,0,1,1] qM)))))) (fH [1,1,1,1,1,1,1,1,1,1,1] qM):=by kernel_rfl
 have pre: ∀(v:Int),mD zd zf zt n=v->v≠0-> ∀ {P:List Nat} {F:List (TypeId × List Value)} {a:Act} {w:World},fK w0 156 P F [(1,pb P 0),(2,.int .i64 0),(3,.int .i64 v)] a w->
  bodyPost Tryz.prog Tryz.f39 (fun e w'=>e=.returned (.tuple #[.int .i64 at_,.int .i64 r])/\Below w0.heap.size w0 w') .ret a w:=by
  intro v hv hne P F a w hs;rw[hv,aFw hne]at hr;obtain⟨ea,er⟩:=hr;subst ea er;exact rM (i:=2) (j:=3) (v:=.int .i64 0) (u:=.int .i64 r) hs Tryz.results39 (by simp) (by simp) ⟨rfl,hs.below⟩
 refine rfA d f t bs n cp kd fk tk ey lt zd zf zt hst hk0 hk1 hzd UN UM h0 (aGo kd hk0 hk1 n zd zf zt (fun hv P a w _ hs=>pre 5 hv (by decide) hs) (fun hv P a w _ hs=>pre 17 hv (by decide) hs) (fun hv P a w _ hs=>pre 3 hv (by decide) hs) (fun hv P a w _ hs=>?_));rw[aFv (by omega)]at hr;clear pre;show(qZ 10 qM).wp _ _ _ _;rw[e2];refine aZs (aZs (rfB d f t bs n cp kd fk tk ey lt hst hs (fun P a w _ hs=>?_)));refine wp_block (wp_loop_ghost (fun m a w=> ∃(i:Nat) (P:List Nat),m+i=n/\(∀j,j<i->rdR ey lt (L.getD j cZ).2.1 (pn j) (E j) j n=0)/\fK w0 156 P (rfF (jI kd d fk f tk t (.slice bs n cp) ey lt)) (rfS i P) a w) n ⟨0,P,rfl,fun j hj=>by omega,hs⟩ ?_);rintro m a w ⟨i,P,hm,hz,hs⟩;refine aZs (aZs (rfH d f t bs n cp kd fk tk ey lt i hst hs ⟨fun hlt P1 a1 w1 hP1 hs1=>?_,fun hge P1 a1 w1 hP1 hs1=>?_⟩))
 . have hin:i<n:=by have:=aHY hlt;omega
   obtain⟨g,o,hb,hg,hrg⟩:=hI i (by omega);have hs1':=kX hs1 (S':=rfS i P1) (by
    intro e he;simp only[aGv,aMt,aV2]at he;rcases he with rfl|rfl|rfl|rfl<;>simp)
   refine wp_cond_true (fV hs1 (by simp)) (wp_skip (aZs (wp_block (aZs (aKs (L.getD i cZ) rfl hs1' hin hb hg hrg fun P2 a2 w2 hP2 hs2=>?_)))));have hp1:P1.length=3:=hs1.fr.1;obtain⟨e1,c1,e2,c2,hsel⟩: ∃e1,Same w0 65 #[(L.getD i cZ).v,.bool true] (.int .i64 e1)/\ ∃e2,Same w0 65 #[(L.getD i cZ).v,.bool false] (.int .i64 e2)/\(if kd=4 then e1=E i else e2=E i):=by
    have h1:=hE i (by omega);have h2:=hE' i (by omega)
    by_cases c:kd=4
    . rw[aEy c]at h1 h2;exact⟨_,h1,_,h2,by rw[aFw c]⟩
    rw[aEm c]at h1 h2;exact⟨_,h2,_,h1,by rw[aFv c]⟩
   have main: ∀P3 a3 w3,(∀(j p:Nat),P2[j]? =some p->P3[j]? =some p)->fK w0 156 P3 [(35,jI kd d fk f tk t (.slice bs n cp) ey lt),(30,dz),(32,.int .u8 0::dz),(79,(L.getD i cZ).l)] [(1,pb P3 0),(2,.int .i64 0),(3,.int .i64 0),(7,.int .i64 (i:Int)),(8,pb P3 3),(9,.int .i64 (E i))] a3 w3->
    (fH [1,1,1,1,1,1,1,1,1,1,0,1,0,0,1,0,0,1,1] qM).wp Tryz.prog (Exit.inBlock 1 (Exit.then ((fH [1,1,1,1,1,1,1,1,1,1,0,1,0,0,1,1] qM).wp Tryz.prog (Exit.then (fun a' w'=> ∃n',n'<m/\ ∃(i:Nat) (P:List Nat),n'+i=n/\(∀j,j<i->rdR ey lt (L.getD j cZ).2.1 (pn j) (E j) j n=0)/\fK w0 156 P (rfF (jI kd d fk f tk t (.slice bs n cp) ey lt)) (rfS i P) a' w') (Exit.inBlock 0 (Exit.then ((fH [1,1,1,1,1,1,1,1,1,1,1] qM).wp Tryz.prog (bodyPost Tryz.prog Tryz.f39 fun e w'=>e=.returned (.tuple #[.int .i64 at_,.int .i64 r])/\Below w0.heap.size w0 w')) (bodyPost Tryz.prog Tryz.f39 fun e w'=>e=.returned (.tuple #[.int .i64 at_,.int .i64 r])/\Below w0.heap.size w0 w'))))) (Exit.then (fun a' w'=> ∃n',n'<m/\ ∃(i:Nat) (P:List Nat),n'+i=n/\(∀j,j<i->rdR ey lt (L.getD j cZ).2.1 (pn j) (E j) j n=0)/\fK w0 156 P (rfF (jI kd d fk f tk t (.slice bs n cp) ey lt)) (rfS i P) a' w') (Exit.inBlock 0 (Exit.then ((fH [1,1,1,1,1,1,1,1,1,1,1] qM).wp Tryz.prog (bodyPost Tryz.prog Tryz.f39 fun e w'=>e=.returned (.tuple #[.int .i64 at_,.int .i64 r])/\Below w0.heap.size w0 w')) (bodyPost Tryz.prog Tryz.f39 fun e w'=>e=.returned (.tuple #[.int .i64 at_,.int .i64 r])/\Below w0.heap.size w0 w')))))) a3 w3:=by
    intro P3 a3 w3 hP3 hs3;have X9: ∀(v:Int),rdR ey lt (L.getD i cZ).2.1 (pn i) (E i) i n=v->v≠0-> ∀ {P4:List Nat} {F4:List (TypeId × List Value)} {a4:Act} {w4:World},fK w0 156 P4 F4 [(1,pb P4 0),(2,.int .i64 (i:Int)),(3,.int .i64 v),(7,.int .i64 (i:Int))] a4 w4->
     bodyPost Tryz.prog Tryz.f39 (fun e w'=>e=.returned (.tuple #[.int .i64 at_,.int .i64 r])/\Below w0.heap.size w0 w') .ret a4 w4:=by
     intro v hv hne P4 F4 a4 w4 hs4;obtain⟨ea,er⟩:=aJk hr hin (by rw[hv];exact hne) hz;refine rM (i:=2) (j:=3) (v:=.int .i64 (i:Int)) (u:=.int .i64 v) hs4 Tryz.results39 (by simp) (by simp) ⟨?_,hs4.below⟩;rw[ea,er,hv]
    refine rfR d f t (L.getD i cZ).1 (L.getD i cZ).2.2 bs n cp kd fk tk ey lt (L.getD i cZ).2.1 i (E i) (pn i) hst (hPn i (by omega)) hs3 (aKr (E i) i (pn i) n ey lt (L.getD i cZ).2.1 (fun he P4 a4 w4 hP4 hs4=>X9 (E i) (by unfold rdR;rw[aFw he]) he hs4) (fun he hb P4 a4 w4 hP4 hs4=>X9 10 (by unfold rdR;rw[aFv (by omega),aFw hb]) (by decide) hs4) (fun he hb P4 a4 w4 hP4 hs4=>?_));have hr0:rdR ey lt (L.getD i cZ).2.1 (pn i) (E i) i n=0:=by unfold rdR;rw[aFv (by omega),aFv (by rw[hb];decide)]
    have p4:=aF0 hp1 (fun j p h=>hP4 j p (hP3 j p (hP2 j p h)));have hs5:fK w0 156 P1 (rfF (jI kd d fk f tk t (.slice bs n cp) ey lt)) (rfS i P1) a4 w4:=by
     have q0:P4.getD 0 0=P1.getD 0 0:=by
      have h1:P1[0]? =some (P1.getD 0 0):=by simp[List.getD,aEH (show 0<P1.length by omega)]
      have:=hP4 0 _ (hP3 0 _ (hP2 0 _ h1));simp[List.getD,this]
     have h5:=hs4;rw[p4]at h5 q0;have h6:=ET (F1:=rfF (jI kd d fk f tk t (.slice bs n cp) ey lt)) (F2:=[(79,(L.getD i cZ).l)]) h5 hp1;refine kX h6 ?_;intro e he;simp only[aGv,aMt,aV2]at he;rcases he with rfl|rfl|rfl|rfl<;>(try simp only[FX,LK,zN,LJ,fr4,fr5,fr6,fr7,fr8])<;>(try simp only[pb,<-q0])<;>simp
    refine rfT d f t bs n cp kd fk tk ey lt i hst hs5 (fun P5 a5 w5 _ hs6=>?_);have hw1:IntKind.i64.wrap ((i:Int)+1)=((i+1:Nat):Int):=by rw[aVL];omega
    rw[hw1]at hs6;refine⟨m - 1,by omega,i+1,P5,by omega,fun j hj=>?_,hs6⟩
    by_cases c:j=i
    . subst c;exact hr0
    exact hz j (by omega)
   refine aZs (aXE d f t (L.getD i cZ).1 (L.getD i cZ).2.2 bs n cp kd fk tk ey lt (L.getD i cZ).2.1 i e1 e2 hst hk0 hk1 c1 c2 hs2 ⟨fun h4 P3 a3 w3 hP3 hs3=>?_,fun h4 P3 a3 w3 hP3 hs3=>?_⟩)
   . rw[aFw (by simpa using h4)]at hsel;rw[hsel]at hs3;exact main P3 a3 w3 hP3 hs3
   rw[aFv (by simpa using h4)]at hsel;rw[hsel]at hs3;exact main P3 a3 w3 hP3 hs3
 have hin:i=n:=by have:=aOC hge;omega
 subst hin;refine wp_cond_false (fV hs1 (by simp)) (wp_exit ?_);obtain⟨ea,er⟩:=aNo hr hz;subst ea er;have hs2:=kX hs1 (S':=[(1,pb P1 0),(2,.int .i64 0),(3,.int .i64 0)]) (by
  intro e he;simp only[aGv,aMt,aV2]at he;rcases he with rfl|rfl|rfl<;>simp)
 show(fH [1,1,1,1,1,1,1,1,1,1,1] qM).wp _ _ _ _;refine rfE d f t bs i cp kd fk tk ey lt hst hs2 (fun P3 a3 w3 _ hs3=>?_);exact rM (i:=2) (j:=3) (v:=.int .i64 0) (u:=.int .i64 0) hs3 Tryz.results39 (by simp) (by simp) ⟨rfl,hs3.below⟩
end
end Sk
end
section
open Go.RowKit Go.Lib
namespace Sk
open Un (ba bt)
open Bk (Dt eP)
theorem aJl{R R':Nat->Int}{n:Nat}{a r:Int}(h:FE R n a r)(e: ∀i,i<n->R i=R' i):FE R' n a r:=by
 rcases h with⟨i,hi,h1,h2,h3,h4⟩|⟨h1,h2,h3⟩
 . exact .inl ⟨i,hi,h1,by rw[<-e i hi];exact h2,h3,fun j hj=>by rw[<-e j (by omega)];exact h4 j hj⟩
 exact .inr ⟨h1,h2,fun j hj=>by rw[<-e j hj];exact h3 j hj⟩
theorem bad_eq{ey lt rg p:Bool}{i n:Nat}(hi:i<n)(hn:n<=1000000):rF ey lt (!rg&&p) i (IntKind.i64.wrap ((n:Int) - 1))=badR ey lt rg (if p=true then 1 else 0) i n:=by
 have hw:IntKind.i64.wrap ((n:Int) - 1)=(n:Int) - 1:=wr (by omega) (by omega);unfold rF badR;rw[hw];simp only[dJ]
 by_cases h0:i=0
 . by_cases h1:(i:Int)=(n:Int) - 1
   . have h2:(n:Int) - 1=0:=by omega
     rw[aEy (show(i:Int)=0 by omega),aEy h1,aEy h2]
     cases ey<;>cases lt<;>cases rg<;>cases p<;>rfl
   have h2: ¬(n:Int) - 1=0:=by omega
   rw[aEy (show(i:Int)=0 by omega),aEm h1,aEm h2]
   cases ey<;>cases lt<;>cases rg<;>cases p<;>rfl
 have h2: ¬(n:Int) - 1=0:=by omega
 rw[aEm (show ¬(i:Int)=0 by omega),aEm h2]
 cases decide ((i:Int)=(n:Int) - 1)<;>cases ey<;>cases lt<;>cases rg<;>cases p<;>rfl
def Rt(kd:Int)(d:Dt)(fk:Int)(f:Dt)(tk:Int)(t:Dt)(L:List kT):Prop:=
 (kd=1/\d.err=0)\/(kd=2/\((fk=1/\f.err=0)\/fk=2\/fk=3)/\((tk=1/\t.err=0)\/tk=2\/tk=3))\/((kd=3\/kd=4)/\ ∀i,i<L.length->(L.getD i cZ).1.err=0/\((L.getD i cZ).2.1=true->(L.getD i cZ).2.2.err=0))
section
variable{w0:World}{kd fk tk:Int}{d f t:Dt}{bs:Option Addr}{cp:Nat}{ey lt:Bool}
theorem aET(hst:SS w0)(h34:kd=3\/kd=4)(hd:Sm d)(hf:Sm f)(ht:Sm t){L:List kT}(hL: ∀i,i<L.length->Sm (L.getD i cZ).1/\Sm (L.getD i cZ).2.2)(hn:L.length<=256)(hI:bP w0 bs L):
 ∃r:Int,0<=r/\Same w0 19 #[exV kd d fk f tk t (.slice bs L.length cp) ey lt] (.int .i64 r)/\Same w0 20 #[exV kd d fk f tk t (.slice bs L.length cp) ey lt] (.int .i64 r)/\(r=0->Rt kd d fk f tk t L):=by
 obtain⟨n,hN⟩: ∃n,n=L.length:=⟨_,rfl⟩;have fin: ∀ {a a' r:Int},0<=r->Same w0 38 #[exV kd d fk f tk t (.slice bs n cp) ey lt] (.tuple #[.int .i64 a,.int .i64 r])->Same w0 39 #[exV kd d fk f tk t (.slice bs n cp) ey lt] (.tuple #[.int .i64 a',.int .i64 r])->(r=0->Rt kd d fk f tk t L)->
  ∃r:Int,0<=r/\Same w0 19 #[exV kd d fk f tk t (.slice bs n cp) ey lt] (.int .i64 r)/\Same w0 20 #[exV kd d fk f tk t (.slice bs n cp) ey lt] (.int .i64 r)/\(r=0->Rt kd d fk f tk t L):=
  fun h A B hr=>⟨_,h,xCk d f t bs n cp kd fk tk ey lt _ _ w0 A,rCk d f t bs n cp kd fk tk ey lt _ _ w0 B,hr⟩
 obtain⟨zd,hzd⟩:=G5 d;obtain⟨zf,UN⟩:=CW fk f;obtain⟨zt,UM⟩:=CW tk t;rw[<-hN];have hit: ∀i:Nat,∃e e':Int,i<L.length->0<=e/\Same w0 103 #[(L.getD i cZ).v,.int .u8 kd] (.int .i64 e)/\Same w0 65 #[(L.getD i cZ).v,.bool (decide (kd=4))] (.int .i64 e)/\Same w0 65 #[(L.getD i cZ).v,.bool (!decide (kd=4))] (.int .i64 e')/\(e=0->(L.getD i cZ).1.err=0/\((L.getD i cZ).2.1=true->(L.getD i cZ).2.2.err=0)):=by
  intro i
  by_cases hi:i<L.length
  . obtain⟨e,e0,A,B,hr⟩:=aMA hst (hL i hi).1 (hL i hi).2 (L.getD i cZ).2.1 kd h34;obtain⟨e',_,_,B',_⟩:=aMA hst (hL i hi).1 (hL i hi).2 (L.getD i cZ).2.1 (7 - kd) (by omega);refine⟨e,e',fun _=>⟨e0,A,B,?_,hr⟩⟩;rw[show (!decide (kd=4))=decide (7 - kd=4) by rcases h34 with rfl|rfl<;>rfl];exact B'
  exact⟨0,0,fun c=>absurd c hi⟩
 obtain⟨E,hE⟩:=a1Y hit;obtain⟨E',hE⟩:=a1Y hE;obtain⟨a,r,hr⟩:=aNp (fun i=>rdE ey lt (!(L.getD i cZ).2.1&&(L.getD i cZ).1.pln) (E i) i (IntKind.i64.wrap ((L.length:Int) - 1))) L.length;have hr':FE (fun i=>rdR ey lt (L.getD i cZ).2.1 (if(L.getD i cZ).1.pln=true then 1 else 0) (E i) i L.length) L.length a r:=aJl hr fun i hi=>by
  unfold rdE rdR;rw[bad_eq hi (by omega)]
 have IT:Same w0 63 #[exV kd d fk f tk t (.slice bs L.length cp) ey lt] (.tuple #[.int .i64 a,.int .i64 r]):=fun w hb=>
  aBq (U9 hst hb) (by omega) (hI.later hb) (fun i hi=>pG (hE i hi).2.1 hb) (fun i hi=>pG (zS (aWF (L.getD i cZ).1 (L.getD i cZ).2.2 (L.getD i cZ).2.1 _ w0 (sPl hst (hL i hi).1)) (by cases(L.getD i cZ).2.1<;>simp)) hb) hr
 have RF: ∀ {a' r':Int},(if mD zd zf zt L.length≠0 then a'=0/\r'=mD zd zf zt L.length else a'=a/\r'=r)->Same w0 39 #[exV kd d fk f tk t (.slice bs L.length cp) ey lt] (.tuple #[.int .i64 a',.int .i64 r']):=fun{a' r'} hp w hb=>
  VQ (U9 hst hb) (by omega) (by omega) hzd UN UM (by omega) (hI.later hb) (fun i hi=>pG (hE i hi).2.2.1 hb) (fun i hi=>pG (hE i hi).2.2.2.1 hb) (fun i hi=>pG (aN9 hst (hL i hi).1) hb) (by
   split at hp
   . rename_i c;rw[aFw c];exact hp
   rename_i c;rw[aFv c];obtain⟨rfl,rfl⟩:=hp;exact hr')
 have rnn:0<=r:=by
  rcases hr with⟨i,hi,_,rfl,_⟩|⟨_,rfl,_⟩
  . have:=(hE i hi).1;show 0<=rdE _ _ _ _ _ _;unfold rdE;(repeat' split)<;>omega
  omega
 have right:r=0->Rt kd d fk f tk t L:=fun c=>.inr (.inr ⟨h34,fun i hi=>by
  rcases hr with⟨j,_,_,h1,h2,_⟩|⟨_,_,h3⟩
  . exact absurd c h2
  have:=h3 i hi;refine(hE i hi).2.2.2.2 ?_;simp only[rdE]at this
  split at this
  . exact this
  omega⟩)
 rw[<-hN]at IT RF;have U:Same w0 60 #[exV kd d fk f tk t (.slice bs n cp) ey lt] (.bool (!(zd&&(zf&&zt)))):=by
  rcases h34 with rfl|rfl
  . refine zS (aWB d f t bs n cp fk tk ey lt zd zf zt w0 hzd UN UM) ?_
    cases zd<;>cases zf<;>cases zt<;>rfl
  refine zS (aWA d f t bs n cp fk tk ey lt zd zf zt w0 hzd UN UM) ?_
  cases zd<;>cases zf<;>cases zt<;>rfl
 have F:Same w0 38 #[exV kd d fk f tk t (.slice bs n cp) ey lt] (cond (!(zd&&(zf&&zt))) (.tuple #[.int .i64 0,.int .i64 5]) (cond ((n:Int)==0) (.tuple #[.int .i64 0,.int .i64 17]) (cond (decide (256<(n:Int))) (.tuple #[.int .i64 0,.int .i64 3]) (.tuple #[.int .i64 a,.int .i64 r])))):=by
  rcases h34 with rfl|rfl
  . exact xF3 d f t bs n cp fk tk ey lt a r _ w0 U IT
  exact xF4 d f t bs n cp fk tk ey lt a r _ w0 U IT
 clear IT U hE hit
 by_cases c5:(zd&&(zf&&zt))=false
 . have e5:mD zd zf zt n=5:=by unfold mD;rw[aFw c5]
   refine fin (a:=0) (a':=0) (show 0<=5 by omega) (zS F (by rw[c5];rfl)) (RF (a':=0) (r':=5) (by rw[e5,aFw (by decide)];exact⟨rfl,rfl⟩)) (fun c=>by cases c)
 have c5':(zd&&(zf&&zt))=true:=by simpa using c5
 by_cases c17:n=0
 . have e5:mD zd zf zt n=17:=by unfold mD;rw[aFv c5,aFw (by omega)]
   refine fin (a:=0) (a':=0) (show 0<=17 by omega) (zS F (by rw[c5'];simp[dJ,c17])) (RF (a':=0) (r':=17) (by rw[e5,aFw (by decide)];exact⟨rfl,rfl⟩)) (fun c=>by cases c)
 have e5:mD zd zf zt n=0:=by unfold mD;rw[aFv c5,aFv (by omega),aFv (by omega)]
 refine fin (a:=a) (a':=a) rnn (zS F (by rw[c5',aEm (show ¬(256:Int)<n by omega)];simp[dJ,c17])) (RF (a':=a) (r':=r) (by rw[e5,aFv (by decide)];exact⟨rfl,rfl⟩)) right
theorem aBU(hst:SS w0)(h0:0<=kd)(hd:Sm d)(hf:Sm f)(ht:Sm t){L:List kT}(hL: ∀i,i<L.length->Sm (L.getD i cZ).1/\Sm (L.getD i cZ).2.2)(hn:L.length<=256)(hI:bP w0 bs L):
 ∃r:Int,0<=r/\Same w0 19 #[exV kd d fk f tk t (.slice bs L.length cp) ey lt] (.int .i64 r)/\Same w0 20 #[exV kd d fk f tk t (.slice bs L.length cp) ey lt] (.int .i64 r)/\(r=0->Rt kd d fk f tk t L):=by
 obtain⟨n,hN⟩: ∃n,n=L.length:=⟨_,rfl⟩;have fin: ∀ {a a' r:Int},0<=r->Same w0 38 #[exV kd d fk f tk t (.slice bs n cp) ey lt] (.tuple #[.int .i64 a,.int .i64 r])->Same w0 39 #[exV kd d fk f tk t (.slice bs n cp) ey lt] (.tuple #[.int .i64 a',.int .i64 r])->(r=0->Rt kd d fk f tk t L)->
  ∃r:Int,0<=r/\Same w0 19 #[exV kd d fk f tk t (.slice bs n cp) ey lt] (.int .i64 r)/\Same w0 20 #[exV kd d fk f tk t (.slice bs n cp) ey lt] (.int .i64 r)/\(r=0->Rt kd d fk f tk t L):=
  fun h A B hr=>⟨_,h,xCk d f t bs n cp kd fk tk ey lt _ _ w0 A,rCk d f t bs n cp kd fk tk ey lt _ _ w0 B,hr⟩
 obtain⟨zd,hzd⟩:=G5 d;obtain⟨zf,UN⟩:=CW fk f;obtain⟨zt,UM⟩:=CW tk t;rw[<-hN];have hk:kd=0\/kd=1\/kd=2\/(kd=3\/kd=4)\/5<=kd:=by omega
 rcases hk with rfl|rfl|rfl|hk|hk
 . exact fin (a:=0) (a':=0) (show 0<=18 by omega) (zS (xF0 d f t bs n cp fk tk ey lt w0) rfl) (zS (rF0 d f t bs n cp fk tk ey lt w0) rfl) (fun c=>by cases c)
 . have U:=aWD d f t bs n cp fk tk ey lt zf zt w0 UN UM;have B:=rF1 d f t bs n cp fk tk ey lt _ zf zt w0 UN UM (sRC hst hd);have go5:Same w0 60 #[exV 1 d fk f tk t (.slice bs n cp) ey lt] (.bool true)->Same w0 39 #[exV 1 d fk f tk t (.slice bs n cp) ey lt] (.tuple #[.int .i64 0,.int .i64 5])->_:=fun u b=>fin (a:=0) (a':=0) (show 0<=5 by omega) (xF1 d f t bs n cp fk tk ey lt _ true w0 u (sFC hst hd)) b (fun c=>by cases c)
   cases zf
   . exact go5 (zS U (by by_cases c:n=0<;>cases ey<;>cases lt<;>simp[dJ,c])) B
   cases zt
   . exact go5 (zS U (by by_cases c:n=0<;>cases ey<;>cases lt<;>simp[dJ,c])) B
   by_cases c:n=0
   . cases ey
     . cases lt
       . exact fin (a:=0) (a':=0) (TQ d) (xF1 d f t bs n cp fk tk false false _ false w0 (zS U (by simp[dJ,c])) (sFC hst hd)) (zS B (by simp[c])) (fun c=>.inl ⟨rfl,c⟩)
       exact go5 (zS U (by simp[dJ,c])) (zS B (by simp[c]))
     exact go5 (zS U (by simp[dJ,c])) (zS B (by simp[c]))
   exact go5 (zS U (by simp[dJ,c])) (zS B (by simp[show 0<n by omega]))
 . obtain⟨x,x0,P,P',hx⟩:=aSD hst hf ht fk tk;have U:=aWC d f t bs n cp fk tk ey lt zd w0 hzd;have B:=rF2 d f t bs n cp fk tk ey lt _ zd w0 hzd P';have go5:Same w0 60 #[exV 2 d fk f tk t (.slice bs n cp) ey lt] (.bool true)->Same w0 39 #[exV 2 d fk f tk t (.slice bs n cp) ey lt] (.tuple #[.int .i64 0,.int .i64 5])->_:=fun u b=>fin (a:=0) (a':=0) (show 0<=5 by omega) (xF2 d f t bs n cp fk tk ey lt _ true w0 u P) b (fun c=>by cases c)
   cases zd
   . exact go5 (zS U (by by_cases c:n=0<;>cases ey<;>cases lt<;>simp[dJ,c])) B
   by_cases c:n=0
   . cases ey
     . cases lt
       . exact fin (a:=0) (a':=0) x0 (xF2 d f t bs n cp fk tk false false _ false w0 (zS U (by simp[dJ,c])) P) (zS B (by simp[c])) (fun c=>.inr (.inl ⟨rfl,hx c⟩))
       exact go5 (zS U (by simp[dJ,c])) (zS B (by simp[c]))
     exact go5 (zS U (by simp[dJ,c])) (zS B (by simp[c]))
   exact go5 (zS U (by simp[dJ,c])) (zS B (by simp[show 0<n by omega]))
 . rw[hN];exact aET hst hk hd hf ht hL hn hI
 exact fin (a:=0) (a':=0) (show 0<=18 by omega) (zS (xF5 d f t bs n cp kd fk tk ey lt w0 hk) (by rw[aEm (show ¬kd<1 by omega),aEy (show 4<kd by omega)];rfl)) (zS (rF5 d f t bs n cp kd fk tk ey lt w0 hk) (by simp only[dJ,aEm (show ¬kd=3 by omega),aEm (show ¬kd=4 by omega),aEm (show ¬kd=1 by omega),aEm (show ¬kd=2 by omega),aYe])) (fun c=>by cases c)
end
end Sk
end
section
open Go.RowKit
namespace Rf
open Sk (aY PI dH jI exV kT cZ bP yS z0 Rt)
open Bk (Dt)
open Ev (fF)
structure Xp where
 kd:Int
 d:Dt
 fk:Int
 f:Dt
 tk:Int
 t:Dt
 bs:Option Addr
 cp:Nat
 L:List kT
 ey:Bool
 lt:Bool
abbrev Xp.l(x:Xp):List Value:=jI x.kd x.d x.fk x.f x.tk x.t (.slice x.bs x.L.length x.cp) x.ey x.lt
abbrev Xp.v(x:Xp):Value:=exV x.kd x.d x.fk x.f x.tk x.t (.slice x.bs x.L.length x.cp) x.ey x.lt
def Xp.R(x:Xp):List Bool:=x.L.map (·.2.1)
theorem Xp.yU(x:Xp):x.R.length=x.L.length:=by unfold Xp.R;simp
theorem Xp.aQy(x:Xp)(i:Nat)(h:i<x.L.length):x.R.getD i false=(x.L.getD i cZ).2.1:=by
 unfold Xp.R;simp[List.getD,aFx,aEH h]
def itd(L:List kT):Nat->List Dt
 |0=>[]
 |i+1=>itd L i++((L.getD i cZ).1::(if(L.getD i cZ).2.1 then[(L.getD i cZ).2.2]else[]))
def Xp.Z5(x:Xp):List Dt:=
 if x.kd=1 then[x.d]else if x.kd=2 then(if x.fk=1 then[x.f]else[])++(if x.tk=1 then[x.t]else[])else itd x.L x.L.length
abbrev Xp.D(x:Xp)(pe:Nat):List (Nat × Nat):=DL x.kd x.fk x.tk pe x.bs x.R
def Xp.dt(x:Xp)(k:Nat):Dt:=x.Z5.getD k z0
def Xp.PT(x:Xp)(k:Nat):Nat:=prt (x.dt k).mo (x.dt k).da
def mkv(d:Dt)(i:Nat):Int:=match i with
 |0=>d.m0
 |1=>d.m1
 |_=>d.m2
abbrev dtL(d:Dt):List Value:=[.bool d.neg,.bool d.long,.string d.dg,.int .i64 d.ex,.int .i64 d.sig,.string d.mo,.string d.da,.int .u8 d.m0,.int .u8 d.m1,.int .u8 d.m2]
def F2(Z:Nat × Nat->Dt->Prop)(l:List (Nat × Nat))(m:List Dt):Prop:=l.length=m.length/\ ∀k,k<l.length->Z (l.getD k (0,0)) (m.getD k z0)
theorem TM{Z:Nat × Nat->Dt->Prop}:F2 Z [] []:=⟨rfl,fun k h=>absurd h (a0X _)⟩
theorem GY{Z:Nat × Nat->Dt->Prop}{p:Nat × Nat}{d:Dt}{l:List (Nat × Nat)}{m:List Dt}(h:Z p d)(h2:F2 Z l m):F2 Z (p::l) (d::m):=
 ⟨by simp[h2.1],fun k hk=>match k with
  |0=>h
  |k+1=>h2.2 k (by simpa using hk)⟩
theorem aBJ{Z:Nat × Nat->Dt->Prop}: ∀ {l l':List (Nat × Nat)} {m m':List Dt},F2 Z l m->F2 Z l' m'->F2 Z (l++l') (m++m')
 |[],_,[],_,_,h=>h
 |[],_,_::_,_,h,_=>by have:=h.1;simp at this
 |_::_,_,[],_,h,_=>by have:=h.1;simp at this
 |p::l,l',d::m,m',h,h'=>GY (h.2 0 (by simp)) (aBJ ⟨by have:=h.1;simpa using this,fun k hk=>h.2 (k+1) (by simpa using hk)⟩ h')
theorem aBI{Z:Nat × Nat->Dt->Prop}{c:Prop}[Decidable c]{p:Nat × Nat}{d:Dt}(h:c->Z p d):F2 Z (if c then[p]else[]) (if c then[d]else[]):=by
 split
 . rename_i hc;exact GY (h hc) TM
 exact TM
theorem Xp.side{x:Xp}{pe:Nat}{Z:Nat × Nat->Dt->Prop}(h1:x.kd=1->Z (pe,1) x.d)(h2:x.kd=2->x.fk=1->Z (pe,12) x.f)(h3:x.kd=2->x.tk=1->Z (pe,23) x.t)
 (h4:x.kd≠1->x.kd≠2-> ∀i,i<x.L.length-> ∃g o,x.bs=some ⟨g,o,none⟩/\Z (g,o+i * 21) (x.L.getD i cZ).1/\((x.L.getD i cZ).2.1=true->Z (g,o+i * 21+11) (x.L.getD i cZ).2.2)):F2 Z (x.D pe) x.Z5:=by
 unfold Xp.D DL Xp.Z5
 by_cases k1:x.kd=1
 . rw[aFw k1,aFw k1];exact GY (h1 k1) TM
 rw[aFv k1,aFv k1]
 by_cases k2:x.kd=2
 . rw[aFw k2,aFw k2];exact aBJ (aBI (h2 k2)) (aBI (h3 k2))
 rw[aFv k2,aFv k2,x.yU];have key: ∀g o,(∀i,i<x.L.length->x.bs=some ⟨g,o,none⟩)-> ∀n,n<=x.L.length->F2 Z (xU g o x.R n) (itd x.L n):=by
  intro g o hb n
  induction n with
  |zero=>intro _;exact TM
  |succ n ih=>
   intro hn;obtain⟨g',o',e,z1,z2⟩:=h4 k1 k2 n (by omega);rw[hb n (by omega)]at e
   cases e
   refine aBJ (ih (by omega)) (GY z1 ?_);rw[x.aQy n (by omega)];exact aBI z2
 refine key _ _ (fun i hi=>?_) _ (aDT _);obtain⟨g,o,e,_⟩:=h4 k1 k2 i hi;rw[e]
section
variable{x:Xp}{W:World}{pe bx:Nat}
theorem rP{b o:Nat}{vs us:List Value}(k:Nat)(h:W.rangeAt b o vs)(hs: ∀j u,us[j]? =some u->vs[k+j]? =some u):W.rangeAt b (o+k) us:=fun j u hu=>by
 rw[aMC];exact h (k+j) u (hs j u hu)
theorem IX{vs us:List Value}{k n:Nat}(e:(vs.drop k).take n=us): ∀j u,us[j]? =some u->vs[k+j]? =some u:=by
 intro j u hu;subst e;rw[aVT]at hu
 split at hu
 . rw[aWd]at hu;exact hu
 cases hu
theorem Xp.cells(hp:fF W pe 35 x.l)(hI:bP W x.bs x.L):F2 (fun p d=>W.rangeAt p.1 p.2 (dtL d)) (x.D pe) x.Z5:=by
 have hr:W.rangeAt pe 0 x.l:=fun j v hv=>by rw[aHv];exact aY hp hv
 refine Xp.side (fun _=>?_) (fun _ _=>?_) (fun _ _=>?_) (fun _ _ i hi=>?_)
 . exact(by have:=rP 1 hr (IX (n:=10) (us:=dtL x.d) rfl);simpa using this)
 . exact(by have:=rP 12 hr (IX (n:=10) (us:=dtL x.f) rfl);simpa using this)
 . exact(by have:=rP 23 hr (IX (n:=10) (us:=dtL x.t) rfl);simpa using this)
 obtain⟨g,o,e,hg,hra⟩:=hI i hi;exact⟨g,o,e,by have:=rP 0 hra (IX (n:=10) (us:=dtL (x.L.getD i cZ).1) rfl);simpa using this,fun _=>rP 11 hra (IX (n:=10) (us:=dtL (x.L.getD i cZ).2.2) rfl)⟩
theorem Xp.mark(hp:fF W pe 35 x.l)(hI:bP W x.bs x.L){k:Nat}(hk:k<(x.D pe).length){i:Nat}(hi:i<3):W.cell? ⟨((x.D pe).getD k (0,0)).1,((x.D pe).getD k (0,0)).2+7+i,none⟩=some (.int .u8 (mkv (x.dt k) i)):=by
 have h:=(Xp.cells hp hI).2 k hk;rw[aMC];refine h (7+i) _ ?_
 match i,hi with
 |0,_=>rfl
 |1,_=>rfl
 |2,_=>rfl
theorem Xp.sp(hp:fF W pe 35 x.l)(hI:bP W x.bs x.L)(hb:W.cell? ⟨bx,0,none⟩=some (pa pe 0)):Sp x.kd x.fk x.tk bx pe x.bs x.cp x.R x.PT W:=by
 refine⟨⟨hb,aY (j:=0) hp rfl,aY (j:=11) hp rfl,aY (j:=22) hp rfl,by rw[x.yU];exact aY (j:=33) hp rfl,fun i hi=>?_⟩,fun k hk=>?_,fun k hk i hi=>⟨_,Xp.mark hp hI hk hi⟩⟩
 . rw[x.yU]at hi;obtain⟨g,o,e,hg,hra⟩:=hI i hi;rw[x.aQy i hi];exact⟨g,o,e,hra 10 _ rfl⟩
 have h:=(Xp.cells hp hI).2 k hk;exact⟨_,_,h 5 _ rfl,h 6 _ rfl,rfl⟩
end
theorem Xp.right{x:Xp}(h:Rt x.kd x.d x.fk x.f x.tk x.t x.L): ∀d ∈ x.Z5,d.err=0:=by
 intro d hd;unfold Xp.Z5 at hd;rcases h with⟨k1,h⟩|⟨k2,h1,h2⟩|⟨k3,h3⟩
 . rw[aFw k1]at hd;rw[aJo.1 hd];exact h
 . rw [aFv (by omega),aFw k2]at hd;rcases aJh.1 hd with hd|hd
   . split at hd
     . rename_i c
       rw[aJo.1 hd];rcases h1 with h|h
       . exact h.2
       omega
     cases hd
   split at hd
   . rename_i c
     rw[aJo.1 hd];rcases h2 with h|h
     . exact h.2
     omega
   cases hd
 rw [aFv (by omega),aFv (by omega)]at hd;have key: ∀n,n<=x.L.length->d ∈ itd x.L n->d.err=0:=by
  intro n
  induction n with
  |zero=>intro _ h;cases h
  | succ n ih=>
   intro hn h;obtain⟨q1,q2⟩:=h3 n (by omega);rcases aJh.1 h with h|h
   . exact ih (by omega) h
   rcases aGv.1 h with rfl|h
   . exact q1
   split at h
   . rename_i c
     rw[aJo.1 h];exact q2 c
   cases h
 exact key _ (aDT _) hd
end Rf
end
section
open Go.RowKit
namespace Rf
open Sk (oD lH key aY nH eH dH bD aW jI exV kT cZ bP yS z0 Rt SS Same)
open Bk (Dt)
open Ev (fF)
theorem JX:one Tryz.prog 37=true:=by kernel_rfl
noncomputable def psC:Code:=match(Tryz.f29).body with
 |some c=>c
 |none=>.skip
noncomputable def aSN:Code:=dZ [0] psC
theorem aXN:RK aSN [(none,some 1,.box 84 (.tmp 0)),kc 2 .nilFunc]:=⟨by kernel_rfl,by kernel_rfl⟩
noncomputable def aSM:Code:=dZ [1,0] psC
theorem aXM:RK aSM [(none,some 3,.makeFunc (.func 50) #[] #[(.tmp 1)]),ka 2 3]:=⟨by kernel_rfl,by kernel_rfl⟩
theorem aXO:psC=(.seq aSN (.seq aSM .ret)):=by kernel_rfl
noncomputable def whC:Code:=match(Tryz.f7).body with
 |some c=>c
 |none=>.skip
noncomputable def aRv:Code:=dZ [0] whC
theorem aWV:RK aRv [(none,some 1,.box 35 (.tmp 0)),kc 2 (.slice none 0 0),kc 3 (.int .i64 0)]:=⟨by kernel_rfl,by kernel_rfl⟩
noncomputable def aRu:Code:=dZ [1,0,0] whC
theorem aWU:RK aRu [kl 7 35 1,(none,some 8,.call ⟨.value (.func 19),#[(.tmp 7)],#[35]⟩),ka 4 8]:=⟨by kernel_rfl,by kernel_rfl⟩
noncomputable def aRt:Code:=dZ [1,0,1,0] whC
theorem aWT:RK aRt [km 9 4,(none,some 10,.binOp .neq 38 (.tmp 9) (.const (.int .i64 0)) 38)]:=⟨by kernel_rfl,by kernel_rfl⟩
noncomputable def aWN:Code:=dZ [1,0,1,1,0,0] whC
noncomputable def aRs:Code:=dZ [1,1,0] whC
theorem aWS:RK aRs [(none,some 5,.alloc 37)]:=⟨by kernel_rfl,by kernel_rfl⟩
noncomputable def aRr:Code:=dZ [1,1,1,0,0] whC
theorem aWR:RK aRr [(none,some 12,.call ⟨.value (.func 29),#[(.tmp 1)],#[84]⟩)]:=⟨by kernel_rfl,by kernel_rfl⟩
noncomputable def aNK:Code:=dZ [1,1,1,0,1,0,0] whC
theorem aWQ:RK aNK [(none,some 6,.alloc 46),ks' 46 6 13]:=⟨by kernel_rfl,by kernel_rfl⟩
noncomputable def aNJ:Code:=dZ [1,1,1,0,1,0,1,0] whC
theorem aWP:RK aNJ [kl 15 37 5,kl 16 46 6,(none,some 17,.buildSlice 37 1 #[(0,(.tmp 16))]),(none,some 18,.call ⟨.builtin .append,#[(.tmp 15),(.tmp 17)],#[37,37]⟩),ks' 37 5 18]:=⟨by kernel_rfl,by kernel_rfl⟩
noncomputable def aRq:Code:=dZ [1,1,1,1,0] whC
theorem aWO:RK aRq [kl 19 37 5,kl 20 37 5,(none,some 21,.call ⟨.builtin .len,#[(.tmp 20)],#[37]⟩),kl 22 37 5,(none,some 23,.call ⟨.builtin .len,#[(.tmp 22)],#[37]⟩),(none,some 24,.slice 37 (.tmp 19) none (some (.tmp 21)) (some (.tmp 23))),ka 2 24,kc 3 (.int .i64 0)]:=⟨by kernel_rfl,by kernel_rfl⟩
theorem aWW:whC=(.seq aRv (.seq (.seq aRu (.seq aRt (.cond (.tmp 10) (.seq aWN .ret) .skip))) (.seq aRs (.seq (.seq aRr (.block 0 (.rangeFunc (.tmp 12) #[13,14] aNK (.block 1 aNJ)))) (.seq aRq .ret))))):=by kernel_rfl
section
variable{P:Program}{W:World}{a:Act}{o:Oper}{t:TypeId}{x y:Operand}
theorem iG{b off:Nat}{cs:List Value}(ht:W.there b off cs.length)(hi:(P.info? t).map (·.size)=some cs.length)(h1: ∀v ∈ cs,v.oneCell'=true)(ho:o.op=.store t x y)(hx:a.eval x=.pointer (some ⟨b,off,none⟩))(hy:a.eval y=.agg cs.toArray):
 (execOp a.eval o).run P W=.ok .skip (W.setCells b off cs):=by
 have:=run_storeVar_mid (P:=P) W b off t cs.toArray (by simpa using ht) (by simpa using hi) (a05 h1);unfold execOp;simp only[ho,hx,hy,Instr.storeAt,Instr.sureAddr,aCA,aEz,aAB,this]
theorem fE{b off:Nat}{cs:List Value}{d:TypeDesc}(hc:W.rangeAt b off cs)(hu:P.underlying t=some d)(hd:d.isRow=true)(hi:(P.info? t).map (·.size)=some cs.length)(ho:o.op=.load t x)(hx:a.eval x=.pointer (some ⟨b,off,none⟩)):
 (execOp a.eval o).run P W=.ok (.value (.agg cs.toArray)) W:=by
 have:=aQO (P:=P) W b off t cs d hc hu hd hi;unfold execOp;simp only[ho,hx,Instr.loadAt,Instr.sureAddr,aCA,aEz,aAB,this]
theorem jV(ho:o.op=.alloc t){z:Array Value}(hz:(zeroValue t).run P W=.ok (.agg z) W):(execOp a.eval o).run P W=.ok (.value (pa W.heap.size 0)) (W.alloc (.cells z t)):=Sk.vU ho hz
theorem VZ{v v':Value}{ad:Option Addr}{m c:Nat}{W':World}(ho:o.op=.call ⟨.builtin .append,#[x,y],#[t,t]⟩)(hx:a.eval x=v)(hy:a.eval y=.slice ad m c)(h: ∀ty,(Builtin.append_ #[t,t] ty #[v,.slice ad m c]).run P W=.ok v' W'):
 (execOp a.eval o).run P W=.ok (.value v') W':=by
 unfold execOp;simp only[ho,resolve,invoke,builtin,aCA,aEz,aAB,List.map_toArray,aO6,a1w,hx,hy,h]
theorem VW{el:TypeId}{s:Option Addr}{k c:Nat}{z:Operand}(hu:P.underlying t=some (.slice el))(hi:(P.info? el).isSome=true)(hk:k<=c)(hs:s.map (·.add 0)=s)(ho:o.op=.slice t x none (some y) (some z))(hx:a.eval x=.slice s k c)(hy:a.eval y=.int .i64 k)(hz:a.eval z=.int .i64 k):
 (execOp a.eval o).run P W=.ok (.value (.slice s k k)) W:=by
 obtain⟨i,hi⟩:=aUm.1 hi;unfold execOp;simp[ho,hx,hy,hz,Instr.sliceAt,Instr.slice,aFF hu,Instr.sliceBounds,Instr.sliceBound,asIntOf,sizeOf,typeInfo,hi,hk];intro _;exact hs
end
theorem a0o(W:World)(n i m:Int):(Instr.buildSlice 37 1 #[(0,.agg #[.int .i64 n,.int .i64 i,.int .u8 m])]).run Tryz.prog W=.ok (.slice (some ⟨W.heap.size,0,none⟩) 1 1) (W.alloc (.cells #[.int .i64 n,.int .i64 i,.int .u8 m] 46)):=by kernel_rfl
theorem aOe{W:World}{a:Act}{o:Oper}{x:Operand}{n i m:Int}(ho:o.op=.buildSlice 37 1 #[(0,x)])(hx:a.eval x=.agg #[.int .i64 n,.int .i64 i,.int .u8 m]):
 (execOp a.eval o).run Tryz.prog W=.ok (.value (.slice (some ⟨W.heap.size,0,none⟩) 1 1)) (W.alloc (.cells #[.int .i64 n,.int .i64 i,.int .u8 m] 46)):=by
 have h:(#[(0,x)]:Array (Nat × Operand)).map (fun p=>(p.1,a.eval p.2))= #[(0,.agg #[.int .i64 n,.int .i64 i,.int .u8 m])]:=by simp[hx]
 unfold execOp;simp only[ho,aCA,aEz];rw[h,a0o];rfl
theorem places_any(pe:Nat)(W:World):Calls Tryz.prog 29 #[pa pe 0] W fun e W1=>e=.returned (.func (.func 50) #[] #[pa W.heap.size 0])/\Al W W1 W.heap.size 84 [pa pe 0]:=by
 refine(aM8 (n:=0)).1 ?_;refine fO (args:=[pa pe 0]) (N:=4) Tryz.func29 (show _=some psC by kernel_rfl) Tryz.ntmps29 (by simp) fun a h=>?_;rw[aXO];refine aEK (aH aXN fun ops l hK hk=>?_);refine sV (v:=pa W.heap.size 0) hk h (fun _ ho=>pJ (v:=pa pe 0) ho (sT h) rfl) fun l a hk h=>?_;refine aC (v:=.nilFunc) hk h fun l a hk h=>?_;refine s0 hk (aEK (aH aXM fun ops l hK hk=>?_));refine sV (v:=.func (.func 50) #[] #[pa W.heap.size 0]) hk h (fun _ ho=>QY ho (sT h)) fun l a hk h=>?_;refine aV (v:=.func (.func 50) #[] #[pa W.heap.size 0]) hk h fun l a hk h=>?_;refine s0 hk (aQE ?_);exact kZ (i:=2) h Tryz.results29 (by simp) ⟨rfl,dY [pa pe 0]⟩
def Xp.pl(x:Xp):List (Nat × Nat):=tV x.PT x.Z5.length
abbrev Xp.sl(x:Xp)(a:Option Addr):Value:=.slice a x.pl.length x.pl.length
def Xp.cl(x:Xp)(q:Nat):List Value:=[.int .i64 ((x.pl.getD q (0,0)).1:Int),.int .i64 ((x.pl.getD q (0,0)).2:Int),.int .u8 (mkv (x.dt (x.pl.getD q (0,0)).1) (x.pl.getD q (0,0)).2)]
def Xp.cls(x:Xp)(k:Nat):List Value:=(List.range k).flatMap x.cl
theorem Xp.MH(x:Xp)(k:Nat):x.cls (k+1)=x.cls k++x.cl k:=by unfold Xp.cls;rw[a0Y,aYR];simp
theorem Xp.G7(x:Xp): ∀k,(x.cls k).length=k * 3
 |0=>rfl
 |k+1=>by rw[x.MH,aM5,x.G7 k];show k * 3+3=_;omega
theorem Xp.aQa(x:Xp){n q j:Nat}{v:Value}(hq:q<n)(hv:(x.cl q)[j]? =some v):(x.cls n)[q * 3+j]? =some v:=by
 have hj:j<3:=(aEX.1 hv).1
 induction n with
 |zero=>omega
 |succ n ih=>
  rw[x.MH]
  by_cases c:q<n
  . rw[aFT (by rw[x.G7];omega)];exact ih c
  obtain rfl:q=n:=by omega
  rw[aGq (by rw[x.G7];omega),x.G7,show q * 3+j - q * 3=j by omega];exact hv
def iW(W:World)(ad:Option Addr)(n:Nat)(cl:Nat->List Value):Prop:= ∀q,q<n-> ∃g,ad=some ⟨g,0,none⟩/\g<W.heap.size/\W.rangeAt g (q * 3) (cl q)
theorem iW.later{W W':World}{ad:Option Addr}{n:Nat}{cl:Nat->List Value}(h:iW W ad n cl)(hs:W.heap.size<=W'.heap.size)(hb: ∀b,b<W.heap.size->W'.heap[b]? =W.heap[b]?):iW W' ad n cl:=fun q hq=>by
 obtain⟨g,e,hg,hr⟩:=h q hq;exact⟨g,e,by omega,fun j v hv=>(aOx (hb g hg)).trans (hr j v hv)⟩
def Iw(w:World)(x:Xp)(pe bx bt n1 k:Nat)(B:Nat->Prop)(W:World):Prop:=
 (∀b,b<w.heap.size->W.heap[b]? =w.heap[b]?)/\n1<=W.heap.size/\fF W pe 35 x.l/\fF W bx 84 [pa pe 0]/\ ∃v,fF W bt 37 [v]/\W.ownsRow n1 46 3 v k (x.cls k)/\(∀b,B b↔b<w.heap.size\/b=pe\/b=bx\/b=bt\/v.ownBlock=some b)
theorem aAD{W:World}{n1 k g:Nat}{v:Value}{xs:List Value}(h:W.ownsRow n1 46 3 v k xs)(e:v.ownBlock=some g):n1<=g/\g<W.heap.size:=by
 rcases h.2 with⟨rfl,_⟩|⟨g',cap,cur,rfl,h1,h2,_⟩
 . cases e
 cases e
 exact⟨h1,(aFU.1 h2).1⟩
theorem WC{W W':World}{n1 k:Nat}{v:Value}{xs:List Value}(h:W.ownsRow n1 46 3 v k xs)(hk: ∀g,v.ownBlock=some g->W'.heap[g]? =W.heap[g]?):W'.ownsRow n1 46 3 v k xs:=by
 refine⟨h.1,?_⟩;rcases h.2 with h|⟨g',cap,cur,e,h1,h2,h3⟩
 . exact .inl h
 exact .inr ⟨g',cap,cur,e,h1,(hk g' (by rw[e];rfl)).trans h2,h3⟩
section
variable{w:World}{x:Xp}{pe bx bt n1:Nat}(hn:w.heap.size<=n1)
theorem SI(hn:w.heap.size<=n1):Inv (Iw w x pe bx bt n1):=by
 refine⟨fun k B W h b hb=>?_,fun k B W W' h hs hk=>?_⟩
 . obtain⟨h1,h2,h3,h4,v,h5,h6,h7⟩:=h;rcases(h7 b).1 hb with h|rfl|rfl|rfl|h
   . omega
   . exact dH h3
   . exact dH h4
   . exact dH h5
   exact(aAD h6 h).2
 obtain⟨h1,h2,h3,h4,v,h5,h6,h7⟩:=h;exact⟨fun b hb=>(hk b ((h7 b).2 (.inl hb))).trans (h1 b hb),by omega,aT h3 (hk _ ((h7 _).2 (.inr (.inl rfl)))),aT h4 (hk _ ((h7 _).2 (.inr (.inr (.inl rfl))))),v,aT h5 (hk _ ((h7 _).2 (.inr (.inr (.inr (.inl rfl)))))),WC h6 (fun g hg=>hk g ((h7 g).2 (.inr (.inr (.inr (.inr hg)))))),h7⟩
theorem info46: ∃i,Tryz.prog.info? 46=some i/\i.zero=some (.agg #[.int .i64 0,.int .i64 0,.int .u8 0])/\i.size=3/\i.bytes=24:=a1O (by kernel_rfl)
end
def Ax(w:World)(x:Xp)(pe bx bt n1 k:Nat)(a':Act)(B:Nat->Prop)(W:World):Prop:=
 ∃B1 b6,Iw w x pe bx bt n1 k B1 W/\(∀b,B b↔B1 b\/b=b6)/\ ¬B1 b6/\fF W b6 46 (x.cl k)/\Sl 25 [(5,pa bt 0),(6,pa b6 0)] a'
theorem aQo{w:World}{x:Xp}{pe bx bt n1:Nat}(hn:w.heap.size<=n1)(a':Act):Inv fun k=>Ax w x pe bx bt n1 k a':=by
 have hI:=SI (x:=x) (pe:=pe) (bx:=bx) (bt:=bt) hn;refine⟨fun k B W h b hb=>?_,fun k B W W' h hs hk=>?_⟩
 . obtain⟨B1,b6,h1,h2,h3,h4,h5⟩:=h;rcases(h2 b).1 hb with h|rfl
   . exact hI.lt _ _ _ h1 b h
   exact dH h4
 obtain⟨B1,b6,h1,h2,h3,h4,h5⟩:=h;exact⟨B1,b6,hI.keep _ _ _ _ h1 hs (fun b hb=>hk b ((h2 b).2 (.inl hb))),h2,h3,aT h4 (hk _ ((h2 _).2 (.inr rfl))),h5⟩
theorem MI(x:Xp)(k:Nat): ∀v ∈ x.cl k,v.oneCell'=true:=by
 intro v hv;unfold Xp.cl at hv;simp only[aGv,aMt,aV2]at hv;rcases hv with rfl|rfl|rfl<;>rfl
section
variable{w:World}{x:Xp}{pe bx bt n1 k:Nat}{l':Nat}{B:Nat->Prop}{W:World}{a:Act}
theorem wh6(hn:w.heap.size<=n1)(hI:Iw w x pe bx bt n1 k B W)(h:Sl 25 [(5,pa bt 0),(13,.agg (x.cl k).toArray)] a):
 aNK.wpIn (FR (some l')) 0 Tryz.prog (Exit.then (fun a' W'=> ∃B',Ax w x pe bx bt n1 k a' B' W'/\Rest B W W'/\Grow B W B') (fun _ _ _=>False)) a W:=by
 have hlt:=(SI (x:=x) (pe:=pe) (bx:=bx) (bt:=bt) hn).lt k B W hI;refine aH aWQ (fun ops l hK hk=>?_);refine sV (v:=pa W.heap.size 0) hk h (fun _ ho=>jV ho (Tryz.zeroValue46 W)) fun l a hk h=>?_;have hA:=sJ (us:=x.cl k) (dY (W:=W) (el:=46) [.int .i64 0,.int .i64 0,.int .u8 0]) rfl;refine ss (g:=none) hk h rfl (fun _ ho=>iG (b:=W.heap.size) (off:=0) (cs:=x.cl k) (show World.there _ _ 0 3 from bD (dY (W:=W) (el:=46) [.int .i64 0,.int .i64 0,.int .u8 0]).2.2.2.1) (by kernel_rfl) (MI x k) ho (sT h) (sT h)) (fun l hk=>?_);refine s0 hk ?_;obtain⟨e1,k1⟩:=dF hA;refine⟨fun b=>B b\/b=W.heap.size,⟨B,W.heap.size,(SI hn).keep _ _ _ _ hI e1 (fun b hb=>k1 b (hlt b hb)),fun b=>a1s,fun hb=>by have:=hlt _ hb;omega,hA.2.2.2.1,aKc (aNX h (by simp)) (cO h)⟩,aL4 hA B,fun b hb=>hb.imp id (fun e=>by omega)⟩
theorem wh7(hn:w.heap.size<=n1)(hne:pe<n1/\bx<n1/\bt<n1/\pe≠bt/\bx≠bt/\w.heap.size<=bt)(hk6:k<10000000)(hI:Ax w x pe bx bt n1 k a B W):
 (Code.block 1 aNJ).wpIn (FR (some l')) 0 Tryz.prog (fun e _ W'=>e=.normal/\Go1 (Iw w x pe bx bt n1) (k+1) B W W') a W:=by
 obtain⟨B1,b6,⟨h1,h2,h3,h4,v,h5,h6,h7⟩,q2,q3,q4,h⟩:=hI;obtain⟨i,i1,i2,i3,i4⟩:=info46;have hcl:x.cl k=[.int .i64 ((x.pl.getD k (0,0)).1:Int),.int .i64 ((x.pl.getD k (0,0)).2:Int),.int .u8 (mkv (x.dt (x.pl.getD k (0,0)).1) (x.pl.getD k (0,0)).2)]:=rfl;refine aP7 (aH aWP (fun ops l hK hk=>?_));refine lV JX (v:=v) hk h (aY (j:=0) h5 rfl) fun l a hk h=>?_;refine sV (v:=.agg (x.cl k).toArray) hk h (fun _ ho=>fE (aW q4) Tryz.underlying46 rfl (by kernel_rfl) ho (sT h)) fun l a hk h=>?_;refine sV (v:=.slice (some ⟨W.heap.size,0,none⟩) 1 1) hk h (fun _ ho=>aOe ho (sT h (v:=.agg (x.cl k).toArray))) fun l a hk h=>?_;have hA:Al W (W.alloc (.cells (x.cl k).toArray 46)) W.heap.size 46 (x.cl k):=dY (x.cl k);change wpListIn _ _ _ _ _ _ _ (W.alloc (.cells (x.cl k).toArray 46));have hown:=h6.alloc (.cells (x.cl k).toArray 46);generalize W.alloc (.cells (x.cl k).toArray 46)=W1 at hA hown ⊢;obtain⟨e1,k1⟩:=dF hA;have z1:=hA.2.1;obtain⟨v',W2,hrun,r1,r2,r3,r4⟩:=run_append_own_at (P:=Tryz.prog) W1 n1 37 0 46 i _ 3 24 (by kernel_rfl) i1 i2 i3 i4 rfl (by decide) v k (x.cls k) hown ⟨W.heap.size,0,none⟩ 1 1 (x.cl k) rfl
  (fun j u hu=>by have:=aW hA.2.2.2.1 j u hu;rw[aV9];exact this) (MI x k) (by simp only[maxLen];omega) (by omega) (by omega)
 have aYb: ∀g,v.ownBlock=some g->n1<=g/\g<W.heap.size:=fun g hg=>aAD h6 hg;have kp2: ∀b,b<W.heap.size->v.ownBlock≠some b->W2.heap[b]? =W.heap[b]? :=fun b hb hne=>(r2.block b (by omega) (fun e=>hne e.symm)).trans (k1 b hb);have ltb:=dH h5;have ltp:=dH h3;have ltx:=dH h4;have no: ∀b,b<n1->v.ownBlock≠some b:=fun b hb e=>by have:=(aYb b e).1;omega
 have f2:fF W2 bt 37 [v]:=aT h5 (kp2 bt ltb (no bt hne.2.2.1));refine sv hk h rfl (by decide) (v:=v') (fun o ho=>VZ (v:=v) (ad:=some ⟨W.heap.size,0,none⟩) (m:=1) (c:=1) ho (sT h) (sT h) (fun ty=>hrun)) (fun l a hk h=>?_);have hv1:v'.cells= #[v']/\v'.oneCell'=true:=by
  rcases r1.2 with⟨rfl,_⟩|⟨g,cap,cur,rfl,_⟩<;>exact⟨rfl,rfl⟩
 refine ss (g:=none) hk h rfl (fun _ ho=>lG (b:=bt) (off:=0) (v:=v') ho (sT h) (sT h) hv1.1 (show World.there _ bt 0 1 from bD f2) (by kernel_rfl) hv1.2) (fun l hk=>?_);refine s0 hk ⟨rfl,?_⟩;have ho: ∀b,b≠bt->(W2.setCells bt 0 [v']).heap[b]? =W2.heap[b]? :=fun b hb=>by
  show(W2.setCell ⟨bt,0,none⟩ _).heap[b]? =_;simp[World.setCell,aMr,aQK hb]
 have hs3:=Sk.jU (p:=bt) [v'] 0 W2;have hs2:=r2.size;have f3:=eH f2 (us:=[v']) rfl;have aSY: ∀g,v'.ownBlock=some g->n1<=g/\(v.ownBlock=some g\/W.heap.size<=g):=fun g hg=>⟨(aAD r1 hg).1,by
  rcases r4 with e|e
  . exact .inl (e.symm.trans hg)
  rw[e]at hg;cases hg;exact .inr (by omega)⟩
 refine⟨fun b=>b<w.heap.size\/b=pe\/b=bx\/b=bt\/v'.ownBlock=some b,⟨fun b hb=>(ho b (by omega)).trans ((kp2 b (by omega) (no b (by omega))).trans (h1 b hb)),by omega,aT h3 ((ho pe hne.2.2.2.1).trans (kp2 pe ltp (no pe hne.1))),aT h4 ((ho bx hne.2.2.2.2.1).trans (kp2 bx ltx (no bx hne.2.1))),v',f3,?_,fun b=>a1s⟩,⟨by omega,fun b hb hnb=>?_,?_⟩,fun b hb=>?_⟩
 . rw[x.MH];exact WC r1 (fun g hg=>ho g (fun e=>by have:=(aSY g hg).1;omega))
 . have n5: ¬B1 b:=fun h=>hnb ((q2 b).2 (.inl h));exact(ho b (fun e=>n5 ((h7 b).2 (.inr (.inr (.inr (.inl e))))))).trans (kp2 b hb (fun e=>n5 ((h7 b).2 (.inr (.inr (.inr (.inr e)))))))
 . exact hA.2.2.2.2.trans (Os.trans ⟨r2.os,r2.tape,r2.output⟩ ⟨rfl,rfl,rfl⟩)
 have inl: ∀b,B1 b->B b\/W.heap.size<=b:=fun b h=>.inl ((q2 b).2 (.inl h));rcases hb with h|h|h|h|h
 . exact inl b ((h7 b).2 (.inl h))
 . exact inl b ((h7 b).2 (.inr (.inl h)))
 . exact inl b ((h7 b).2 (.inr (.inr (.inl h))))
 . exact inl b ((h7 b).2 (.inr (.inr (.inr (.inl h)))))
 rcases(aSY b h).2 with e|e
 . exact inl b ((h7 b).2 (.inr (.inr (.inr (.inr e)))))
 exact .inr e
end
theorem Xp.aDh(x:Xp)(pe:Nat):(x.D pe).length=x.Z5.length:=by
 by_cases h:x.kd=1\/x.kd=2\/x.L.length=0
 . have:F2 (fun _ _=>True) (x.D pe) x.Z5:=by
    refine Xp.side (fun _=>trivial) (fun _ _=>trivial) (fun _ _=>trivial) (fun h1 h2 i hi=>?_);omega
   exact this.1
 have key: ∀g o n,n<=x.L.length->(xU g o x.R n).length=(itd x.L n).length:=by
  intro g o n
  induction n with
  |zero=>intro _;rfl
  |succ n ih=>
   intro hn;rw[rY,aM5,ih (by omega)];show _=(itd x.L n++_).length;rw[aM5,x.aQy n (by omega)]
   cases(x.L.getD n cZ).2.1<;>rfl
 unfold Xp.D DL Xp.Z5;rw[aFv (by omega),aFv (by omega),aFv (by omega),aFv (by omega),x.yU];exact key _ _ _ (aDT _)
theorem aGy(PT:Nat->Nat)(h: ∀k,PT k<=3): ∀n,(tV PT n).length<=3 * n
 |0=>aDT _
 |n+1=>by rw[Q8];have:=aGy PT h n;have:=h n;omega
theorem Xp.V9(x:Xp)(hn:x.L.length<=256):x.pl.length<10000000:=by
 have h1:=aGy x.PT (fun k=>aAA _ _) x.Z5.length;have h2:=aIp (kd:=x.kd) (fk:=x.fk) (tk:=x.tk) (pe:=0) (bs:=x.bs) (R:=x.R) (by rw[x.yU];omega);rw[show (DL x.kd x.fk x.tk 0 x.bs x.R).length=x.Z5.length from x.aDh 0]at h2;unfold Xp.pl;omega
theorem Xp.aGA(x:Xp){q:Nat}(hq:q<x.pl.length):(x.pl.getD q (0,0)).1<x.Z5.length/\(x.pl.getD q (0,0)).2<3:=by
 unfold Xp.pl at hq ⊢;have key: ∀n q,q<(tV x.PT n).length->((tV x.PT n).getD q (0,0)).1<n/\((tV x.PT n).getD q (0,0)).2<3:=by
  intro n
  induction n with
  |zero=>intro q h;exact absurd h (a0X _)
  |succ n ih=>
   intro q h;rw[Q8]at h;rw[JV]
   by_cases c:q<(tV x.PT n).length
   . have:=ih q c;simp only[List.getD,aFT c];exact⟨aZW this.1,this.2⟩
   obtain⟨i,rfl⟩: ∃i,q=(tV x.PT n).length+i:=⟨q - (tV x.PT n).length,by omega⟩;have hi:i<x.PT n:=by omega
   have h3:x.PT n<=3:=aAA _ _;simp only[List.getD,aGq (aXo _ _),a0K,aFx,aQB hi];exact⟨aJq _,by show i<3;omega⟩
 exact key _ q hq
theorem KJ{w W:World}{x:Xp}(hI:bP w x.bs x.L)(hs:w.heap.size<=W.heap.size)(hb: ∀b,b<w.heap.size->W.heap[b]? =w.heap[b]?):bP W x.bs x.L:=fun i hi=>by
 obtain⟨g,o,e,hg,hr⟩:=hI i hi;exact⟨g,o,e,by omega,fun j v hv=>(aOx (hb g hg)).trans (hr j v hv)⟩
section
variable{w0:World}{x:Xp}
theorem TP(x:Xp): ∀v ∈ x.l,v.oneCell'=true:=by
 intro v hv;simp only[Xp.l,jI,aGv,aMt,aV2]at hv;rcases hv with rfl|rfl|rfl|rfl|rfl|rfl|rfl|rfl|rfl|rfl|rfl|rfl|rfl|rfl|rfl|rfl|rfl|rfl|rfl|rfl|rfl|rfl|rfl|rfl|rfl|rfl|rfl|rfl|rfl|rfl|rfl|rfl|rfl|rfl|rfl|rfl<;>rfl
theorem AB (hck:Same w0 19 #[x.v] (.int .i64 0)) (hI:bP w0 x.bs x.L) (hn:x.L.length<=256) (w:World) (hw:Below w0.heap.size w0 w):
 Calls Tryz.prog 7 #[x.v] w fun e w'=> ∃ad,e=.returned (.tuple #[x.sl ad,.int .i64 0])/\iW w' ad x.pl.length x.cl/\Below w.heap.size w w':=by
 refine(aM8 (n:=0)).1 ?_;refine DR (args:=[x.v]) (N:=25) Tryz.func7 (show _=some whC by kernel_rfl) Tryz.ntmps7 (by simp) fun a h=>?_;rw[aWW];refine aEK (aH aWV fun ops l hK hk=>?_);refine sV (v:=pa w.heap.size 0) hk h (fun _ ho=>pJ (v:=x.v) ho (sT h) rfl) fun l a hk h=>?_;have A0:Al w (w.alloc (.cells x.l.toArray 35)) w.heap.size 35 x.l:=dY x.l;change wpListIn _ _ _ _ _ _ _ (w.alloc (.cells x.l.toArray 35));generalize w.alloc (.cells x.l.toArray 35)=W0 at A0 ⊢;obtain⟨pe,hpe⟩: ∃p,p=w.heap.size:=⟨_,rfl⟩;rw[<-hpe]at A0 h;refine aC (v:=.slice none 0 0) hk h fun l a hk h=>?_;refine aC (v:=.int .i64 0) hk h fun l a hk h=>?_;refine s0 hk (aEK (aEK (aH aWU fun ops l hK hk=>?_)));have fp0:=A0.2.2.2.1;refine sV (v:=x.v) hk h (fun _ ho=>fE (aW fp0) Tryz.underlying35 rfl (by kernel_rfl) ho (sT h)) fun l a hk h=>?_;have b0:Below w0.heap.size w0 W0:=⟨A0.2.2.2.2.1.trans hw.os,A0.2.2.2.2.2.1.trans hw.tape,A0.2.2.2.2.2.2.trans hw.output,by have:=hw.size;have:=(dF A0).1;omega,fun b hb=>((dF A0).2 b (by have:=hw.size;omega)).trans (hw.block b hb)⟩;refine sc hk h rfl (by decide) (fun _ ho=>jB ho Tryz.func19) (R:=fun e W1=>e=.returned (.int .i64 0)/\Below W0.heap.size W0 W1) (by rw[aFZ,sT h (v:=x.v)];exact hck W0 b0) (fun e W1 hR=>⟨_,hR.1,fun l a hk h=>?_⟩);obtain⟨_,B1⟩:=hR;refine aV (v:=.int .i64 0) hk h fun l a hk h=>?_;refine s0 hk (aEK (aH aWT fun ops l hK hk=>?_));refine mV (v:=.int .i64 0) hk h fun l a hk h=>?_;refine sV (v:=.bool false) hk h (fun _ ho=>JK (q:=.i64) (m:=0) (m':=0) ho (sT h) rfl) fun l a hk h=>?_;refine s0 hk (aPo (sT h) (aNH (aEK (aH aWS fun ops l hK hk=>?_))));have h:Sl 25 [(1,pa pe 0)] a:=cO h;refine sV (v:=pa W1.heap.size 0) hk h (fun _ ho=>JL ho (Tryz.zeroValue37 W1) rfl) fun l a hk h=>?_;have A1:Al W1 (W1.alloc (.cells #[.slice none 0 0] 37)) W1.heap.size 37 [.slice none 0 0]:=dY [.slice none 0 0];refine s0 hk ?_;generalize W1.alloc (.cells #[.slice none 0 0] 37)=W2 at A1 ⊢;obtain⟨bt,hbt⟩: ∃p,p=W1.heap.size:=⟨_,rfl⟩;rw[<-hbt]at A1 h;refine aEK (aEK (aH aWR fun ops l hK hk=>?_));refine sc hk h rfl (by decide) (fun _ ho=>jB ho Tryz.func29) (R:=fun e W3=>e=.returned (.func (.func 50) #[] #[pa W2.heap.size 0])/\Al W2 W3 W2.heap.size 84 [pa pe 0]) (by rw[aFZ,sT h (v:=pa pe 0)];exact places_any pe W2) (fun e W3 hR=>⟨_,hR.1,fun l a hk h=>?_⟩);obtain⟨_,A2⟩:=hR;refine s0 hk ?_;obtain⟨bx,hbx⟩: ∃p,p=W2.heap.size:=⟨_,rfl⟩;rw[<-hbx]at A2 h;have h:Sl 25 [(5,pa bt 0),(12,.func (.func 50) #[] #[pa bx 0])] a:=cO h;obtain⟨e0,k0⟩:=dF A0;obtain⟨e1,k1⟩:=dF A1;obtain⟨e2,k2⟩:=dF A2;have z0':=A0.2.1;have z1:=A1.2.1;have z2:=A2.2.1;have sB:=B1.size;have kk: ∀b,b<W0.heap.size->W3.heap[b]? =W0.heap[b]? :=fun b hb=>(k2 b (by omega)).trans ((k1 b (by omega)).trans (B1.block b hb));have kw: ∀b,b<w.heap.size->W3.heap[b]? =w.heap[b]? :=fun b hb=>(kk b (by omega)).trans (k0 b hb);have os3:Os w W3:=A0.2.2.2.2.trans (Os.trans ⟨B1.os,B1.tape,B1.output⟩ (A1.2.2.2.2.trans A2.2.2.2.2));have i0:Iw w x pe bx bt W3.heap.size 0 (fun b=>b<w.heap.size\/b=pe\/b=bx\/b=bt\/(Value.slice none 0 0).ownBlock=some b) W3:=
  ⟨kw,aDT _,aT fp0 (kk pe (by omega)),A2.2.2.2.1,.slice none 0 0,aT A1.2.2.2.1 (k2 bt (by omega)),aWh _ _ _ _,fun b=>a1s⟩
 have hw3:w.heap.size<=W3.heap.size:=by omega
 have hD:=x.aDh pe;have hpl:x.pl=tV x.PT (x.D pe).length:=by rw[hD];rfl
 have hRd: ∀k B W,Iw w x pe bx bt W3.heap.size k B W->bP W x.bs x.L:=fun k B W ⟨g1,g2,_⟩=>KJ (KJ hI hw.size hw.block) (by omega) g1;have aZe: ∀k B W,Iw w x pe bx bt W3.heap.size k B W->Sp x.kd x.fk x.tk bx pe x.bs x.cp x.R x.PT W:=fun k B W g=>Xp.sp g.2.2.1 (hRd k B W g) (aY (j:=0) g.2.2.2.1 rfl);have hen: ∀k B W,k<x.pl.length->Iw w x pe bx bt W3.heap.size k B W->YP (x.D pe) (tV x.PT (x.D pe).length) k W= #[.agg (x.cl k).toArray,pa ((x.D pe).getD (x.pl.getD k (0,0)).1 (0,0)).1 (((x.D pe).getD (x.pl.getD k (0,0)).1 (0,0)).2+7+(x.pl.getD k (0,0)).2)]:=by
  intro k B W hk g;obtain⟨p1,p2⟩:=x.aGA hk;have:=Xp.mark g.2.2.1 (hRd k B W g) (k:=(x.pl.getD k (0,0)).1) (by rw[hD];exact p1) p2;rw[<-hpl];unfold YP;rw[this];rfl
 refine aP7 (JJ (I:=Iw w x pe bx bt W3.heap.size) (Ax:=Ax w x pe bx bt W3.heap.size) (Rd:=Sp x.kd x.fk x.tk bx pe x.bs x.cp x.R x.PT) (N:=x.pl.length) (enc:=YP (x.D pe) (tV x.PT (x.D pe).length)) (gf:=50) (lb:= #[pa bx 0])
  (SI hw3) (aQo hw3) (sT h) (fun args w=>a0U Tryz.func50 (by kernel_rfl) (show _=some plC by kernel_rfl) args w) (fun k W=>rfl) i0 aZe ?_ ?_ ?_ ?_)
 . rw[hpl];exact O5 (by rw[x.yU];omega)
 . intro l' k B W hk g;rw[hen k B W hk g,aM9];refine wh6 hw3 g ?_;have h1:=nZ (d:=13) (v:=.agg (x.cl k).toArray) (show Sl 25 _ { tmps:=a.tmps,defers:=[] }from⟨h.size,rfl,h.val⟩) (by decide);have h2:=nZ (d:=14) (v:=pa ((x.D pe).getD (x.pl.getD k (0,0)).1 (0,0)).1 (((x.D pe).getD (x.pl.getD k (0,0)).1 (0,0)).2+7+(x.pl.getD k (0,0)).2)) h1 (by decide);have h3:Sl 25 [(5,pa bt 0),(13,.agg (x.cl k).toArray)] _:=cO h2;exact h3
 . intro l' k a' B W hk g;exact wh7 hw3 ⟨by omega,by omega,by omega,by omega,by omega,by omega⟩ (by have:=x.V9 hn;omega) g
 intro Db B' W' hI' hrest hgrow hDl hnB hdef;obtain⟨g1,g2,g3,g4,v,g5,g6,g7⟩:=hI';refine aEK (aH aWO fun ops l hK hk=>?_);have h:Sl 25 [(5,pa bt 0)] { a with defers:={ target:=.collected Db,args:= #[] }::a.defers } [{ target:=.collected Db,args:= #[] }]:=⟨h.size,by show _::a.defers=_;rw[h.defs],fun e he=>by rw[aJo.1 he];exact h.val _ (by simp)⟩;obtain⟨ad,cap,ev,hcap,hadd,hlist⟩: ∃ad cap,v=.slice ad x.pl.length cap/\x.pl.length<=cap/\ad.map (·.add 0)=ad/\ ∀W'',(∀b,b<W'.heap.size->b≠Db->W''.heap[b]? =W'.heap[b]?)->W'.heap.size<=W''.heap.size->iW W'' ad x.pl.length x.cl:=by
  rcases g6.2 with⟨rfl,e0⟩|⟨g,cap,cur,rfl,q1,q2,q3,q4,q5,q6⟩
  . exact⟨none,0,by rw[e0],by omega,rfl,fun W'' _ _ q hq=>by omega⟩
  refine⟨some ⟨g,0,none⟩,cap,rfl,q3,by simp[aV9],fun W'' hb hs q hq=>⟨g,rfl,?_,fun j u hu=>?_⟩⟩
  . have:=(aFU.1 q2).1;omega
  have hu:=x.aQa hq hu;rw[<-q6]at hu;have hgD:g≠Db:=fun e=>hnB (e ▸ (g7 g).2 (.inr (.inr (.inr (.inr rfl)))));have:=hb g (aFU.1 q2).1 hgD;have hc:cur[q * 3+j]? =some u:=by
   rw[<-aEP];rw[aVT]at hu
   split at hu
   . exact hu
   cases hu
  simp[World.cell?,this,q2,hc]
 subst ev;have fb:W'.cell? ⟨bt,0,none⟩=some (.slice ad x.pl.length cap):=aY (j:=0) g5 rfl;refine lV JX (v:=.slice ad x.pl.length cap) hk h fb fun l a hk h=>?_;refine lV JX (v:=.slice ad x.pl.length cap) hk h fb fun l a hk h=>?_;refine sV (v:=.int .i64 (x.pl.length:Int)) hk h (fun _ ho=>yJ (s:=ad) (c:=cap) (el:=46) (by kernel_rfl) ho (sT h)) fun l a hk h=>?_;refine lV JX (v:=.slice ad x.pl.length cap) hk h fb fun l a hk h=>?_;refine sV (v:=.int .i64 (x.pl.length:Int)) hk h (fun _ ho=>yJ (s:=ad) (c:=cap) (el:=46) (by kernel_rfl) ho (sT h)) fun l a hk h=>?_;refine sV (v:=x.sl ad) hk h (fun _ ho=>VW (el:=46) (c:=cap) (by kernel_rfl) (by kernel_rfl) hcap hadd ho (sT h) (sT h) (sT h)) fun l a hk h=>?_;refine aV (v:=x.sl ad) hk h fun l a hk h=>?_;refine aC (v:=.int .i64 0) hk h fun l a hk h=>?_;refine s0 hk (aQE ?_);show LeavesInM _ _ _ _ _ _ a.defers _ _;rw[h.defs];have rr:=a18 Tryz.results7 a.tmps Tryz.prog (W'.putObj Db (.deferred none));rw[AQ h (i:=2) (v:=x.sl ad) (by simp),AQ h (i:=3) (v:=.int .i64 0) (by simp)]at rr;refine⟨by simp,.inl ⟨_,_,rfl,a0O hdef,_,rr,ad,rfl,hlist _ (fun b _ hne=>rQ hne) (by simp),?_⟩⟩;have sr:=hrest.1;refine⟨hrest.2.2.1.trans os3.1,hrest.2.2.2.1.trans os3.2.1,hrest.2.2.2.2.trans os3.2.2,by simp;omega,fun b hb=>?_⟩;exact(rQ (by omega)).trans ((g1 b hb))
end
end Rf
end
section
open Go.RowKit
namespace Rf
open Sk (oD lH key aY nH eH dH bD aW qQ nT jI exV kT cZ bP yS z0 Rt SS Same)
open Bk (Dt)
open Ev (fF)
noncomputable def clC:Code:=match(Tryz.f87).body with
 |some c=>c
 |none=>.skip
noncomputable def aUQ:Code:=dZ [0] clC
theorem aZU:RK aUQ [kc 2 (.slice none 0 0)]:=⟨by kernel_rfl,by kernel_rfl⟩
noncomputable def aUP:Code:=dZ [1,0,0] clC
theorem aZT:RK aUP [km 3 0,(none,some 4,.binOp .eql 33 (.tmp 3) (.const (.slice none 0 0)) 33)]:=⟨by kernel_rfl,by kernel_rfl⟩
noncomputable def aUO:Code:=dZ [1,0,1,0,0] clC
theorem aZS:RK aUO [kc 2 (.slice none 0 0)]:=⟨by kernel_rfl,by kernel_rfl⟩
noncomputable def aUN:Code:=dZ [1,1,0] clC
theorem aZR:RK aUN [(none,some 5,.buildSlice 33 0 #[]),km 6 0,(none,some 7,.call ⟨.builtin .append,#[(.tmp 5),(.tmp 6)],#[33,33]⟩),ka 2 7]:=⟨by kernel_rfl,by kernel_rfl⟩
theorem aZV:clC=(.seq aUQ (.seq (.seq aUP (.cond (.tmp 4) (.seq aUO .ret) .skip)) (.seq aUN .ret))):=by kernel_rfl
noncomputable def ciC:Code:=match(Tryz.f86).body with
 |some c=>c
 |none=>.skip
noncomputable def aUT:Code:=dZ [0] ciC
theorem aZY:RK aUT [kc 2 (.slice none 0 0)]:=⟨by kernel_rfl,by kernel_rfl⟩
noncomputable def aUS:Code:=dZ [1,0] ciC
theorem aZX:RK aUS [km 3 0,km 4 0,(none,some 5,.call ⟨.builtin .len,#[(.tmp 4)],#[33]⟩),km 6 0,(none,some 7,.call ⟨.builtin .len,#[(.tmp 6)],#[33]⟩),(none,some 8,.slice 33 (.tmp 3) none (some (.tmp 5)) (some (.tmp 7))),ka 2 8]:=⟨by kernel_rfl,by kernel_rfl⟩
theorem aZZ:ciC=(.seq aUT (.seq aUS .ret)):=by kernel_rfl
noncomputable def cpC:Code:=match(Tryz.f55).body with
 |some c=>c
 |none=>.skip
noncomputable def aUG:Code:=dZ [0] cpC
theorem aZO:RK aUG [(none,some 1,.box 35 (.tmp 0)),(none,some 2,.alloc 35)]:=⟨by kernel_rfl,by kernel_rfl⟩
noncomputable def aUF:Code:=dZ [1,0] cpC
theorem aZN:RK aUF [kf 3 35 1 4,kl 4 33 3,(none,some 5,.call ⟨.value (.func 87),#[(.tmp 4)],#[33]⟩),(none,some 6,.call ⟨.value (.func 86),#[(.tmp 5)],#[33]⟩),kf 7 35 1 4,ks' 33 7 6]:=⟨by kernel_rfl,by kernel_rfl⟩
noncomputable def aUE:Code:=dZ [1,1,0] cpC
theorem aZM:RK aUE [kl 8 35 1,ks' 35 2 8]:=⟨by kernel_rfl,by kernel_rfl⟩
theorem aZP:cpC=(.seq aUG (.seq aUF (.seq aUE .ret))):=by kernel_rfl
def itc(L:List kT)(k:Nat):List Value:=(List.range k).flatMap fun i=>(L.getD i cZ).l
theorem KL(L:List kT)(k:Nat):itc L (k+1)=itc L k++(L.getD k cZ).l:=by unfold itc;rw[a0Y,aYR];simp
theorem qO(L:List kT): ∀k,(itc L k).length=k * 21
 |0=>rfl
 |k+1=>by rw[KL,aM5,qO L k];show k * 21+21=_;omega
theorem aPq(L:List kT){n q j:Nat}{v:Value}(hq:q<n)(hv:((L.getD q cZ).l)[j]? =some v):(itc L n)[q * 21+j]? =some v:=by
 have hj:j<21:=(aEX.1 hv).1
 induction n with
 |zero=>omega
 |succ n ih=>
  rw[KL]
  by_cases c:q<n
  . rw[aFT (by rw[qO];omega)];exact ih c
  obtain rfl:q=n:=by omega
  rw[aGq (by rw[qO];omega),qO,show q * 21+j - q * 21=j by omega];exact hv
theorem aHR(L:List kT){n j:Nat}{v:Value}(hv:(itc L n)[j]? =some v): ∃q i,q<n/\j=q * 21+i/\((L.getD q cZ).l)[i]? =some v:=by
 induction n with
 |zero=>cases hv
 |succ n ih=>
  rw[KL]at hv
  by_cases c:j<n * 21
  . rw[aFT (by rw[qO];omega)]at hv;obtain⟨q,i,h1,h2,h3⟩:=ih hv;exact⟨q,i,by omega,h2,h3⟩
  rw[aGq (by rw[qO];omega),qO]at hv;exact⟨n,j - n * 21,by omega,by omega,hv⟩
theorem aLf(L:List kT)(n:Nat): ∀v ∈ itc L n,v.oneCell'=true:=by
 intro v hv;obtain⟨j,hj⟩:=aUh hv;obtain⟨q,i,_,_,h⟩:=aHR L hj;exact(Array.all_eq_true_iff_forall_mem.1 (Sk.SK (L.getD q cZ))) v (by simpa using aLE h)
theorem aLh: ∃i z,Tryz.prog.info? 79=some i/\i.zero=some z/\i.size=21/\z.cells.size=21/\i.bytes<=1000:=by
 have h1:(Tryz.prog.info? 79).map (fun i=>(i.zero,i.size,Nat.ble i.bytes 1000))=some (some (.agg (yS z0 false z0).toArray),21,true):=by kernel_rfl
 cases hi:Tryz.prog.info? 79 with
 |none=>rw[hi]at h1;cases h1
 |some i=>
  rw[hi]at h1;simp only[aMl,aUl,aNl]at h1;exact⟨i,_,rfl,h1.1,h1.2.1,rfl,aIl h1.2.2⟩
theorem aKu{P:Program}{W:World}{a:Act}{o:Oper}{t u el:TypeId}{x y:Operand}{s:Option Addr}{n c n' c':Nat}(hu:P.underlying t=some (.slice el))(ho:o.op=.binOp .eql t x y u)(hx:a.eval x=.slice s n c)(hy:a.eval y=.slice none n' c'):
 (execOp a.eval o).run P W=.ok (.value (.bool s.isNone)) W:=yK ho hx hy (by
 have:(binOp .eql t (.slice s n c) (.slice none n' c')).run P W=.ok (.bool s.isNone) W:=by
  simp only[binOp];simp[Op.equal,Op.maxDepth,Lib.run_equalIn_slice_nil W 9999 t el s n c n' c' hu]
 simp[eqGuard,this])
theorem a0p(W:World):(Instr.buildSlice 33 0 #[]).run Tryz.prog W=.ok (.slice (some ⟨W.heap.size,0,none⟩) 0 0) (W.alloc (.cells #[] 79)):=by kernel_rfl
theorem aIE{L:List kT}{bs:Option Addr}{cp:Nat}{W:World}(hI:bP W bs L)(hn:L.length<=256)(h0:bs=none->L.length=0):
 Calls Tryz.prog 87 #[.slice bs L.length cp] W fun e W1=> ∃v,e=.returned v/\W1.ownsRow W.heap.size 79 21 v L.length (itc L L.length)/\Below W.heap.size W W1:=by
 refine(aM8 (n:=0)).1 ?_;refine fO (args:=[.slice bs L.length cp]) (N:=8) Tryz.func87 (show _=some clC by kernel_rfl) Tryz.ntmps87 (by simp) fun a h=>?_;rw[aZV];refine aEK (aH aZU fun ops l hK hk=>?_);refine aC (v:=.slice none 0 0) hk h fun l a hk h=>?_;refine s0 hk (aEK (aEK (aH aZT fun ops l hK hk=>?_)));refine mV (v:=.slice bs L.length cp) hk h fun l a hk h=>?_;refine sV (v:=.bool bs.isNone) hk h (fun _ ho=>aKu (s:=bs) (n:=L.length) (c:=cp) (n':=0) (c':=0) (el:=79) IL ho (sT h) rfl) fun l a hk h=>?_;refine s0 hk (jJ (t:=bs.isNone) h (by simp) (fun c=>?_) (fun c=>?_))
 . refine aEK (aH aZS fun ops l hK hk=>?_);refine aC (v:=.slice none 0 0) hk h fun l a hk h=>?_;refine s0 hk (aQE ?_);refine kZ (R:=fun e W1=> ∃v,e=.returned v/\W1.ownsRow W.heap.size 79 21 v L.length (itc L L.length)/\Below W.heap.size W W1) (i:=2) (v:=.slice none 0 0) h Tryz.results87 (by simp) ⟨_,rfl,?_,aDl _ _⟩;have:=h0 (by simpa using c);rw[this];exact aWh _ _ _ _
 obtain⟨ad,rfl⟩: ∃ad,bs=some ad:=by cases bs with|none=>cases c|some ad=>exact⟨ad,rfl⟩
 refine aNH (aEK (aH aZR fun ops l hK hk=>?_));refine sv hk h rfl (by decide) (v:=.slice (some ⟨W.heap.size,0,none⟩) 0 0) (W':=W.alloc (.cells #[] 79)) (fun _ ho=>?_) (fun l a hk h=>?_)
 . unfold execOp;simp only[ho,aCA,aEz,aYY];rw[a0p];rfl
 refine mV (v:=.slice (some ad) L.length cp) hk h fun l a hk h=>?_;obtain⟨i,z,i1,i2,i3,i4,i5⟩:=aLh;have hown:(W.alloc (.cells #[] 79)).ownsRow W.heap.size 79 21 (.slice (some ⟨W.heap.size,0,none⟩) 0 0) 0 []:=
  ⟨rfl,.inr ⟨W.heap.size,0,#[],rfl,aDT _,aUf _ _,aDT _,by simp only[maxLen];omega,rfl,rfl⟩⟩
 have hA:Below W.heap.size W (W.alloc (.cells #[] 79)):=(aDl _ _).alloc (aDT _) _;have hs:=a1x W (.cells #[] 79);generalize W.alloc (.cells #[] 79)=W1 at hown hA hs ⊢;obtain⟨v',W2,hrun,r1,r2,r3,r4⟩:=run_append_own_at (P:=Tryz.prog) W1 W.heap.size 33 0 79 i z 21 i.bytes IL i1 i2 i3 rfl i4 (by decide) _ 0 [] hown ad L.length cp (itc L L.length) (qO L _)
  (fun j u hu=>by
    obtain⟨q,k,h1,h2,h3⟩:=aHR L hu;obtain⟨g',o',e,hg,hr⟩:=hI q h1
    cases e
    rw[aV9,h2,<-aMC];exact(hA.cell (p:=⟨g',_,none⟩) hg).trans (hr k u h3)) (aLf L _) (by simp only[maxLen];omega) (by
     have:(0+L.length) * i.bytes<=256 * 1000:=Nat.mul_le_mul (by omega) i5;omega) (by omega)
 refine sv hk h rfl (by decide) (v:=v') (fun o ho=>VZ (v:=.slice (some ⟨W.heap.size,0,none⟩) 0 0) (ad:=some ad) (m:=L.length) (c:=cp) ho (sT h) (sT h) (fun ty=>hrun)) (fun l a hk h=>?_);refine sv hk h rfl (by decide) (v:=v') (fun o ho=>aGs ho (sT h)) (fun l a hk h=>?_);refine s0 hk (aQE ?_);refine kZ (R:=fun e W1=> ∃v,e=.returned v/\W1.ownsRow W.heap.size 79 21 v L.length (itc L L.length)/\Below W.heap.size W W1) (i:=2) (v:=v') h Tryz.results87 (by simp) ⟨_,rfl,?_,?_⟩
 . rw[aHv,aWb]at r1;exact r1
 exact⟨r2.os.trans hA.os,r2.tape.trans hA.tape,r2.output.trans hA.output,by have:=r2.size;omega,fun b hb=>(r2.block b (by omega) (fun e=>by cases e;exact absurd hb (Nat.lt_irrefl _))).trans (hA.block b hb)⟩
theorem aLH{ad:Option Addr}{n c:Nat}{W:World}(hc:n<=c)(ha:ad.map (·.add 0)=ad):Calls Tryz.prog 86 #[.slice ad n c] W fun e W1=>e=.returned (.slice ad n n)/\W1=W:=by
 refine(aM8 (n:=0)).1 ?_;refine fO (args:=[.slice ad n c]) (N:=9) Tryz.func86 (show _=some ciC by kernel_rfl) Tryz.ntmps86 (by simp) fun a h=>?_;rw[aZZ];refine aEK (aH aZY fun ops l hK hk=>?_);refine aC (v:=.slice none 0 0) hk h fun l a hk h=>?_;refine s0 hk (aEK (aH aZX fun ops l hK hk=>?_));refine mV (v:=.slice ad n c) hk h fun l a hk h=>?_;refine mV (v:=.slice ad n c) hk h fun l a hk h=>?_;refine sV (v:=.int .i64 (n:Int)) hk h (fun _ ho=>yJ (s:=ad) (c:=c) IL ho (sT h)) fun l a hk h=>?_;refine mV (v:=.slice ad n c) hk h fun l a hk h=>?_;refine sV (v:=.int .i64 (n:Int)) hk h (fun _ ho=>yJ (s:=ad) (c:=c) IL ho (sT h)) fun l a hk h=>?_;refine sV (v:=.slice ad n n) hk h (fun _ ho=>VW (el:=79) (c:=c) IL (by kernel_rfl) hc ha ho (sT h) (sT h) (sT h)) fun l a hk h=>?_;refine aV (v:=.slice ad n n) hk h fun l a hk h=>?_;refine s0 hk (aQE ?_);exact kZ (R:=fun e W1=>e=.returned (.slice ad n n)/\W1=W) (i:=2) h Tryz.results86 (by simp) ⟨rfl,rfl⟩
def uS(w W:World)(ad:Option Addr)(L:List kT):Prop:=bP W ad L/\(0<L.length-> ∃g cs,ad=some ⟨g,0,none⟩/\w.heap.size<=g/\fF W g 79 cs/\L.length * 21<=cs.length)
theorem aEj{w W:World}{v:Value}{L:List kT}(h:W.ownsRow w.heap.size 79 21 v L.length (itc L L.length)): ∃ad c,v=.slice ad L.length c/\L.length<=c/\ad.map (·.add 0)=ad/\uS w W ad L:=by
 rcases h.2 with⟨rfl,e⟩|⟨g,cap,cur,rfl,h1,h2,h3,h4,h5,h6⟩
 . exact⟨none,0,by rw[e],by omega,rfl,fun i hi=>by omega,fun hi=>by omega⟩
 have hlen:L.length * 21<=cur.size:=by rw[h5];exact Nat.mul_le_mul_right _ h3
 refine⟨some ⟨g,0,none⟩,cap,rfl,h3,by simp[aV9],fun i hi=>⟨g,0,rfl,(aFU.1 h2).1,fun j u hu=>?_⟩,fun _=>⟨g,cur.toList,rfl,h1,⟨cur,(0,0),h2,fun i hi=>by simp,rfl⟩,by simpa using hlen⟩⟩;have hu:=aPq L hi hu;rw[<-h6,aVT]at hu
 split at hu
 . rw[aEP]at hu;rw[aHv];simp[World.cell?,h2,hu]
 cases hu
section
variable{P:Program}{fn:Func}{N:Nat}{S:List (Nat × Value)}{a:Act}{ds:List Deferred}{W:World}
theorem aOc{i:Tmp}{t:TypeId}{b:Nat}{v:Value}(h:Sl N S a ds)(hr:fn.results= #[.cell i t])(hi:(i,pa b 0) ∈ S)(hv:(loadVar t ⟨b,0,none⟩).run P W=.ok v W):(results fn a.tmps).run P W=.ok v W:=by
 simp[results,hr,h.val _ hi,asAddr,hv]
theorem JF{i j:Tmp}{t:TypeId}{b:Nat}{v u:Value}(h:Sl N S a ds)(hr:fn.results= #[.cell i t,.tmp j])(hi:(i,pa b 0) ∈ S)(hj:(j,u) ∈ S)(hv:(loadVar t ⟨b,0,none⟩).run P W=.ok v W):(results fn a.tmps).run P W=.ok (.tuple #[v,u]) W:=by
 simp[results,hr,h.val _ hi,h.val _ hj,asAddr,hv]
end
theorem YH{w:World}{p:Nat}{el:TypeId}{vs:List Value}(h:fF w p el vs)(k:Nat)(v:Value):fF (w.setCells p k [v]) p el (vs.set k v):=qQ h k v
theorem set_set{w:World}{p k:Nat}{v:Value}: ∀b,b≠p->(w.setCells p k [v]).heap[b]? =w.heap[b]? :=fun b hb=>by
 show(w.setCell ⟨p,k,none⟩ _).heap[b]? =_;simp[World.setCell,aMr,aQK hb]
theorem JZ{w W:World}{ad:Option Addr}{L:List kT}(h:uS w W ad L){p k:Nat}{us:List Value}(hp:p<w.heap.size):uS w (W.setCells p k us) ad L:=by
 have ho: ∀b,w.heap.size<=b->(W.setCells p k us).heap[b]? =W.heap[b]? :=fun b hb=>by
  have key: ∀(us:List Value) (k:Nat) (W:World),(W.setCells p k us).heap[b]? =W.heap[b]? :=by
   intro us
   induction us with
   |nil=>intro k W;rfl
   |cons u us ih=>intro k W;exact(ih (k+1) _).trans (by simp[World.setCell,aMr,show p≠b by omega])
  exact key us k W
 have hs:=Sk.jU (p:=p) us k W;refine⟨fun i hi=>?_,fun hl=>?_⟩
 . obtain⟨g,cs,e,h1,h2,h3⟩:=h.2 (by omega);obtain⟨g',o',e',h4,h5⟩:=h.1 i hi;rw[e]at e';cases e';exact⟨g,0,e,by omega,fun j u hu=>(aOx (ho g h1)).trans (h5 j u hu)⟩
 obtain⟨g,cs,e,h1,h2,h3⟩:=h.2 hl;exact⟨g,cs,e,h1,aT h2 (ho g h1),h3⟩
theorem XK{w w1 W:World}{ad:Option Addr}{L:List kT}(h:uS w1 W ad L)(hs:w.heap.size<=w1.heap.size):uS w W ad L:=
 ⟨h.1,fun hl=>let⟨g,cs,e,h1,h2⟩:=h.2 hl;⟨g,cs,e,by omega,h2⟩⟩
theorem KY{w:World}{p:Nat}{el:TypeId}{vs:List Value}(h:fF w p el vs){k:Nat}(hk:k<vs.length):w.there p k 1:=fun j hj=>by
 obtain rfl:j=0:=by omega
 have:=bD h k hk;rwa[aHv]at this
theorem aLG{x:Xp}{W:World}(hI:bP W x.bs x.L)(hn:x.L.length<=256)(h0:x.bs=none->x.L.length=0):
 Calls Tryz.prog 55 #[x.v] W fun e W1=> ∃ad,e=.returned ({ x with bs:=ad,cp:=x.L.length }:Xp).v/\uS W W1 ad x.L/\Below W.heap.size W W1:=by
 refine(aM8 (n:=0)).1 ?_;refine fO (args:=[x.v]) (N:=9) Tryz.func55 (show _=some cpC by kernel_rfl) Tryz.ntmps55 (by simp) fun a h=>?_;rw[aZP];refine aEK (aH aZO fun ops l hK hk=>?_);refine sV (v:=pa W.heap.size 0) hk h (fun _ ho=>pJ (v:=x.v) ho (sT h) rfl) fun l a hk h=>?_;have A0:Al W (W.alloc (.cells x.l.toArray 35)) W.heap.size 35 x.l:=dY x.l;change wpListIn _ _ _ _ _ _ _ (W.alloc (.cells x.l.toArray 35));generalize W.alloc (.cells x.l.toArray 35)=W0 at A0 ⊢;obtain⟨pe,hpe⟩: ∃p,p=W.heap.size:=⟨_,rfl⟩;rw[<-hpe]at A0 h;refine sV (v:=pa W0.heap.size 0) hk h (fun _ ho=>jV ho (Tryz.zeroValue35 W0)) fun l a hk h=>?_;have A1:Al W0 (W0.alloc (.cells (jI 0 z0 0 z0 0 z0 (.slice none 0 0) false false).toArray 35)) W0.heap.size 35 (jI 0 z0 0 z0 0 z0 (.slice none 0 0) false false):=dY _;change wpListIn _ _ _ _ _ _ _ (W0.alloc (.cells (jI 0 z0 0 z0 0 z0 (.slice none 0 0) false false).toArray 35));generalize W0.alloc (.cells (jI 0 z0 0 z0 0 z0 (.slice none 0 0) false false).toArray 35)=W1 at A1 ⊢;obtain⟨pr,hpr⟩: ∃p,p=W0.heap.size:=⟨_,rfl⟩;rw[<-hpr]at A1 h;obtain⟨s0',k0⟩:=dF A0;obtain⟨s1,k1⟩:=dF A1;have z0':=A0.2.1;have z1:=A1.2.1;have b1:Below W.heap.size W W1:=by
  have o:=A0.2.2.2.2.trans A1.2.2.2.2;exact⟨o.1,o.2.1,o.2.2,by omega,fun b hb=>(k1 b (by omega)).trans (k0 b hb)⟩
 have fp:fF W1 pe 35 x.l:=aT A0.2.2.2.1 (k1 pe (by omega));refine s0 hk (aEK (aH aZN fun ops l hK hk=>?_));refine sV (v:=pa pe 33) hk h (fun _ ho=>dA (b:=pe) (o':=0) TL ho (sT h)) fun l a hk h=>?_;refine lV aGQ (v:=.slice x.bs x.L.length x.cp) hk h (aY (j:=33) fp rfl) fun l a hk h=>?_;refine sc hk h rfl (by decide) (fun _ ho=>jB ho Tryz.func87) (R:=fun e W2=> ∃v,e=.returned v/\W2.ownsRow W1.heap.size 79 21 v x.L.length (itc x.L x.L.length)/\Below W1.heap.size W1 W2)
  (by rw[aFZ,sT h (v:=.slice x.bs x.L.length x.cp)];exact aIE (hI.later b1) hn h0) (fun e W2 ⟨v,ev,hv,hB⟩=>⟨v,ev,fun l a hk h=>?_⟩)
 obtain⟨ad,c,rfl,hc,ha,hN⟩:=aEj hv;refine sc hk h rfl (by decide) (fun _ ho=>jB ho Tryz.func86) (R:=fun e W3=>e=.returned (.slice ad x.L.length x.L.length)/\W3=W2)
  (by rw[aFZ,sT h (v:=.slice ad x.L.length c)];exact aLH hc ha) (fun e W3 hR=>⟨_,hR.1,fun l a hk h=>?_⟩)
 obtain⟨_,rfl⟩:=hR;refine sV (v:=pa pe 33) hk h (fun _ ho=>dA (b:=pe) (o':=0) TL ho (sT h)) fun l a hk h=>?_;have sB:=hB.size;have fp2:fF W3 pe 35 x.l:=aT fp (hB.block pe (by omega));have zN:fF W3 pr 35 (jI 0 z0 0 z0 0 z0 (.slice none 0 0) false false):=aT A1.2.2.2.1 (hB.block pr (by omega));refine ss (g:=none) hk h rfl (fun _ ho=>lG (b:=pe) (off:=33) (v:=.slice ad x.L.length x.L.length) ho (sT h) (sT h) rfl (KY fp2 (show 33<36 by decide)) (by kernel_rfl) rfl) (fun l hk=>?_);obtain⟨y,hy⟩: ∃y:Xp,y={ x with bs:=ad,cp:=x.L.length }:=⟨_,rfl⟩;have fp3:fF (W3.setCells pe 33 [.slice ad x.L.length x.L.length]) pe 35 y.l:=by rw[hy];exact YH fp2 33 _
 have LJ:fF (W3.setCells pe 33 [.slice ad x.L.length x.L.length]) pr 35 (jI 0 z0 0 z0 0 z0 (.slice none 0 0) false false):=aT zN (set_set pr (by omega));have b4:Below W.heap.size W (W3.setCells pe 33 [.slice ad x.L.length x.L.length]):=Sk.iL (by omega) _ _ (⟨hB.os.trans b1.os,hB.tape.trans b1.tape,hB.output.trans b1.output,by have:=b1.size;omega,fun b hb=>(hB.block b (by have:=b1.size;omega)).trans (b1.block b hb)⟩);have s4:=Sk.jU (p:=pe) [.slice ad x.L.length x.L.length] 33 W3;have hN4:uS W1 (W3.setCells pe 33 [.slice ad x.L.length x.L.length]) ad x.L:=JZ hN (by omega);generalize W3.setCells pe 33 [.slice ad x.L.length x.L.length]=W4 at fp3 LJ b4 s4 hN4 ⊢;refine s0 hk (aEK (aH aZM fun ops l hK hk=>?_));refine sV (v:=y.v) hk h (fun _ ho=>fE (aW fp3) Tryz.underlying35 rfl (by kernel_rfl) ho (sT h)) fun l a hk h=>?_;refine ss (g:=none) hk h rfl (fun _ ho=>iG (b:=pr) (off:=0) (cs:=y.l) (show World.there _ _ 0 36 from bD LJ) (by kernel_rfl) (TP y) ho (sT h) (sT h)) (fun l hk=>?_);have fr5:=eH LJ (us:=y.l) rfl;refine s0 hk (aQE ?_);have rr:=aOc (P:=Tryz.prog) (W:=W4.setCells pr 0 y.l) (fn:=Tryz.f55) h (i:=2) (t:=35) (b:=pr) (v:=y.v) rfl (by simp) (aQO _ _ _ _ y.l _ (aW fr5) Tryz.underlying35 rfl (by kernel_rfl));refine(⟨h.defs,_,rr,ad,by rw[hy],?_,Sk.iL (by omega) _ _ b4⟩:bodyPost Tryz.prog Tryz.f55 (fun e W1=> ∃ad,e=.returned ({ x with bs:=ad,cp:=x.L.length }:Xp).v/\uS W W1 ad x.L/\Below W.heap.size W W1) .ret a _);exact XK (JZ hN4 (by omega)) (by omega)
end Rf
end
end Go.Proofs.YtebgcnnhokclaaaGreatDoor
