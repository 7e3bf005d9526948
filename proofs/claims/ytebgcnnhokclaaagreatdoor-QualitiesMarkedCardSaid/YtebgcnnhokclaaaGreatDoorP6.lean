/- The law: its walk,its plain law,the card. -/
import Derived.Test.YtebgcnnhokclaaaGreatDoorRows
import Derived.Test.YtebgcnnhokclaaaGreatDoorCards
import Derived.Test.YtebgcnnhokclaaaGreatDoorTie
import Derived.Test.YtebgcnnhokclaaaGreatDoorP3
import Derived.Test.YtebgcnnhokclaaaGreatDoorP4
import Derived.Test.YtebgcnnhokclaaaGreatDoorP5
import Derived.OpenShut
import Derived.Deep.Slices
import Derived.Deep.Strs
import Derived.Lib.SmallJoins
import Derived.Laws.IdiomArrays
import Derived.ProofKit
import Derived.WalkKit
import Derived.Deep.DeepHandedRow
import Derived.Lib.LaidTab
import Derived.ChangeAlike
import Derived.LaidMore
import Derived.LaidHandle
import Derived.SevenTiedAt
import Derived.MakeChecks
import Derived.Deep.DeepWitnessRef
import Derived.RowKit
set_option linter.unusedVariables false
set_option linter.unusedSimpArgs false
set_option linter.unusedSectionVars false
set_option maxRecDepth 1000000
set_option maxHeartbeats 8000000
namespace Go.Proofs.YtebgcnnhokclaaaGreatDoor
noncomputable section
open Go.Proofs.Tryz
abbrev aWn:=@List.length_set
abbrev aWt:=@Go.Joins.trod_struct4
section
open Go.RowKit
noncomputable def KR:Code:=match(Tryz.f3).body with
 |some c=>c
 |none=>.skip
noncomputable def aRJ:Code:=bF [1,1,0] KR
noncomputable def aRI:Code:=bF [1,1,1,0] KR
noncomputable def aRH:Code:=bF [1,1,1,1,0] KR
noncomputable def aRG:Code:=bF [1,1,1,1,1,0,0] KR
noncomputable def aRF:Code:=bF [1,1,1,1,1,1,1,0,0] KR
noncomputable def aRE:Code:=bF [1,1,1,1,1,1,1,0,1,0,0,0,0] KR
noncomputable def aLP:Code:=bF [1,1,1,1,1,1,1,0,1,0,0,1,0,0] KR
noncomputable def aFL:Code:=bF [1,1,1,1,1,1,1,0,1,0,0,1,1] KR
noncomputable def aLO:Code:=bF [1,1,1,1,1,1,1,1,0] KR
noncomputable def aLN:Code:=bF [1,1,1,1,1,1,1,1,1,0,0] KR
noncomputable def aLM:Code:=bF [1,1,1,1,1,1,1,1,1,0,1,0,0] KR
noncomputable def aFK:Code:=bF [1,1,1,1,1,1,1,1,1,1,0,0] KR
noncomputable def aLL:Code:=bF [1,1,1,1,1,1,1,1,1,1,0,1,0,0] KR
noncomputable def aFJ:Code:=bF [1,1,1,1,1,1,1,1,1,1,1,0] KR
noncomputable def aFI:Code:=bF [1,1,1,1,1,1,1,1,1,1,1,1,0] KR
noncomputable def aFH:Code:=bF [1,1,1,1,1,1,1,1,1,1,1,1,1,0] KR
noncomputable def aFG:Code:=bF [1,1,1,1,1,1,1,1,1,1,1,1,1,1,0] KR
theorem aV1:KR=(.seq (bF [0] KR) (.seq (bF [1,0] KR) (.seq aRJ (.seq aRI (.seq aRH (.seq (.seq aRG (.cond (.tmp 53) (.seq (bF [1,1,1,1,1,0,1,0,0] KR) .ret) .skip)) (.seq (bF [1,1,1,1,1,1,0] KR) (.seq (.seq aRF (.block 0 (.loop (.seq (.seq aRE (.cond (.tmp 57) .skip (.exit 0))) (.seq (.block 1 aLP) aFL))))) (.seq aLO (.seq (.seq aLN (.cond (.tmp 80) (.seq aLM .ret) .skip)) (.seq (.seq aFK (.cond (.tmp 116) (.seq aLL .ret) .skip)) (.seq aFJ (.seq aFI (.seq aFH (.seq aFG .ret))))))))))))))):=by kernel_rfl
section
variable{P:Program}{W:World}{a:Act}{o:Oper}{t yt:TypeId}{x y:Operand}
theorem aLK{W:World}{b c:Bool}(ho:o.op=.binOp .eql 4 x y yt)(hx:a.eval x=.bool b)(hy:a.eval y=.bool c):(execOp a.eval o).run prog W=.ok (.value (.bool (b==c))) W:=by
 have h: ∀b c:Bool,(binOp .eql 4 (.bool b) (.bool c)).run prog W=.ok (.bool (b==c)) W:=by intro b c;cases b<;>cases c<;>kernel_rfl
 exact nM ho hx hy (by simp[eqGuard,h])
theorem aRA{W:World}{b:Bool}(ho:o.op=.binOp .neq 4 x y yt)(hx:a.eval x=.bool b)(hy:a.eval y=.bool b):(execOp a.eval o).run prog W=.ok (.value (.bool false)) W:=by
 have h: ∀b:Bool,(binOp .neq 4 (.bool b) (.bool b)).run prog W=.ok (.bool false) W:=by intro b;cases b<;>kernel_rfl
 exact nM ho hx hy (by simp[eqGuard,h])
theorem BU{b:Bool}{q:IntKind}{m k:Int}(hb:decide (m=k)=b)(ho:o.op=.binOp .eql t x (.const (.int q k)) yt)(hx:a.eval x=.int q m):(execOp a.eval o).run P W=.ok (.value (.bool b)) W:=by
 rw[<-hb];exact jE (q:=q) ho hx rfl
theorem aRD{s:Option Addr}{m c:Nat}{el:TypeId}(hu:P.underlying t=some (.slice el))(ho:o.op=.call ⟨.builtin .cap,#[x],#[t]⟩)(hx:a.eval x=.slice s m c):(execOp a.eval o).run P W=.ok (.value (.int .i64 c)) W:=by
 have hx':(#[x]:Array Operand).map a.eval= #[.slice s m c]:=by simp[hx]
 unfold execOp;simp only[ho,resolve,hx',aDt,aD0,aBF,invoke];simp[builtin,Builtin.cap_,aEG hu,goInt]
end
theorem aBt(W:World):(convert 47 3 (.int .u8 1)).run prog W=.ok (.int .i64 1) W/\(convert 47 3 (.int .u8 2)).run prog W=.ok (.int .i64 2) W/\(convert 47 3 (.int .u8 3)).run prog W=.ok (.int .i64 3) W:=⟨by kernel_rfl,by kernel_rfl,by kernel_rfl⟩
theorem aNg{W:World}{a:Act}{o:Oper}{x:Operand}{v:Int}(hv:v=1\/v=2\/v=3)(ho:o.op=.convert 47 3 x)(hx:a.eval x=.int .u8 v):(execOp a.eval o).run prog W=.ok (.value (.int .i64 v)) W:=by
 unfold execOp;simp only[ho,hx,aDt];rcases hv with rfl|rfl|rfl
 . rw[(aBt W).1];rfl
 . rw[(aBt W).2.1];rfl
 rw[(aBt W).2.2];rfl
structure Rx(x:Xp)(w:World):Prop where
 ck:Same w 19 #[x.v] (.int .i64 0)
 its:gW w x.bs x.L
 n:x.L.length<=256
 kd:x.kd=1\/x.kd=2\/x.kd=3\/x.kd=4
 pt: ∀k,k<x.nU.length->BQ (x.dt k)=x.PT k
 mks: ∀q,q<x.pl.length->0<=x.mq q/\x.mq q<=3
 pos:0<x.pl.length
abbrev eA(k:Int)(ls:Value)(e0 e1 b:Int):List Value:=[.int .u8 k,ls,.int .u8 e0,.int .u8 e1,.int .u8 b]
section
variable{w0:World}{x:Xp}{r:Option Nat}{Q:Exit->Act->World->Prop}{a:Act}{W:World}{p5:Nat}{m:Int}
theorem aNo(R:Rx x w0)(hw:Below w0.heap.size w0 W)(f:dA W p5 35 x.l)(h:Sl 156 [(1,.int .u8 m),(5,aYW p5 0)] a)(k: ∀a W1 ad,Below W.heap.size W W1->jA W1 ad x.pl.length x.cl->Sl 156 [(1,.int .u8 m),(5,aYW p5 0),(6,x.sl ad),(7,.int .i64 0)] a->Q .normal a W1):aRJ.wpIn (FR r) 0 prog Q a W:=by
 refine aG [kl 24 35 5,(none,some 25,.call ⟨.value (.func 7),#[(.tmp 24)],#[35]⟩),km 23 25,kx 26 23 0,kx 27 23 1,ka 6 26,ka 7 27] fun ops l hK hk=>?_;refine sV (v:=x.v) hk h (fun _ ho=>bC (aO f) underlying35 rfl (by kernel_rfl) ho (sT h)) fun l a hk h=>?_;refine sc hk h rfl (by decide) (fun _ ho=>fU ho func7) (R:=fun e w'=> ∃ad,e=.returned (.tuple #[x.sl ad,.int .i64 0])/\jA w' ad x.pl.length x.cl/\Below W.heap.size W w') (by rw[aHe,sT h (v:=x.v)];exact JQ R.ck R.its R.n W hw) (fun e W1 ⟨ad,ev,hL,B⟩=>⟨_,ev,fun l a hk h=>?_⟩);refine mV (v:=.tuple #[x.sl ad,.int .i64 0]) hk h fun l a hk h=>
 sV (v:=x.sl ad) hk h (fun _ ho=>fQ (vs:= #[x.sl ad,.int .i64 0]) rfl ho (sT h)) fun l a hk h=>
 sV (v:=.int .i64 0) hk h (fun _ ho=>fQ (vs:= #[x.sl ad,.int .i64 0]) rfl ho (sT h)) fun l a hk h=>
 aV (v:=x.sl ad) hk h fun l a hk h=>
 aV (v:=.int .i64 0) hk h fun l a hk h=>?_
 exact s0 hk (k _ _ ad B hL (aN h))
theorem aNn(R:Rx x w0)(hw:Below w0.heap.size w0 W)(f:dA W p5 35 x.l){ad:Option Addr}(h:Sl 156 [(1,.int .u8 m),(5,aYW p5 0),(6,x.sl ad),(7,.int .i64 0)] a)(k: ∀a W1 bd cp,Below W.heap.size W W1->jA W1 bd x.pl.length x.cl->Sl 156 [(1,.int .u8 m),(5,aYW p5 0),(6,x.sl ad),(7,.int .i64 0),(8,.slice bd x.pl.length cp)] a->Q .normal a W1):aRI.wpIn (FR r) 0 prog Q a W:=by
 refine aG [kl 28 35 5,(none,some 29,.call ⟨.value (.func 8),#[(.tmp 28)],#[35]⟩),ka 8 29] fun ops l hK hk=>?_;refine sV (v:=x.v) hk h (fun _ ho=>bC (aO f) underlying35 rfl (by kernel_rfl) ho (sT h)) fun l a hk h=>?_;refine sc hk h rfl (by decide) (fun _ ho=>fU ho func8) (R:=WrR x W) (by rw[aHe,sT h (v:=x.v)];exact PI R.kd R.n R.pt W (qP R.its hw.size hw.block)) (fun e W1 ⟨bd,cp,ev,hL,B⟩=>⟨_,ev,fun l a hk h=>?_⟩);refine aV (v:=.slice bd x.pl.length cp) hk h fun l a hk h=>?_;exact s0 hk (k _ _ bd cp B hL (aN h))
theorem aNm(R:Rx x w0)(hw:Below w0.heap.size w0 W)(f:dA W p5 35 x.l){ad bd:Option Addr}{cp:Nat}(h:Sl 156 [(1,.int .u8 m),(5,aYW p5 0),(6,x.sl ad),(7,.int .i64 0),(8,.slice bd x.pl.length cp)] a)(k: ∀a W1,Below W.heap.size W W1->Sl 156 [(1,.int .u8 m),(5,aYW p5 0),(6,x.sl ad),(7,.int .i64 0),(8,.slice bd x.pl.length cp),(9,.bool x.pz),(10,.int .i64 0)] a->Q .normal a W1):aRH.wpIn (FR r) 0 prog Q a W:=by
 refine aG [kl 31 35 5,(none,some 32,.call ⟨.value (.func 9),#[(.tmp 31)],#[35]⟩),km 30 32,kx 33 30 0,kx 34 30 1,ka 9 33,ka 10 34] fun ops l hK hk=>?_;refine sV (v:=x.v) hk h (fun _ ho=>bC (aO f) underlying35 rfl (by kernel_rfl) ho (sT h)) fun l a hk h=>?_;refine sc hk h rfl (by decide) (fun _ ho=>fU ho func9) (R:=PlR x W) (by rw[aHe,sT h (v:=x.v)];exact aFO R.ck R.its R.n W hw) (fun e W1 ⟨ev,B⟩=>⟨_,ev,fun l a hk h=>?_⟩);refine mV (v:=.tuple #[.bool x.pz,.int .i64 0]) hk h fun l a hk h=>
 sV (v:=.bool x.pz) hk h (fun _ ho=>fQ (vs:= #[.bool x.pz,.int .i64 0]) rfl ho (sT h)) fun l a hk h=>
 sV (v:=.int .i64 0) hk h (fun _ ho=>fQ (vs:= #[.bool x.pz,.int .i64 0]) rfl ho (sT h)) fun l a hk h=>
 aV (v:=.bool x.pz) hk h fun l a hk h=>
 aV (v:=.int .i64 0) hk h fun l a hk h=>?_
 exact s0 hk (k _ _ B (aN h))
theorem aNl(R:Rx x w0)(hw:Below w0.heap.size w0 W)(f:dA W p5 35 x.l){ad bd:Option Addr}{cp:Nat}(hA:jA W ad x.pl.length x.cl)(hB:jA W bd x.pl.length x.cl)(h:Sl 156 [(1,.int .u8 m),(5,aYW p5 0),(6,x.sl ad),(7,.int .i64 0),(8,.slice bd x.pl.length cp),(9,.bool x.pz),(10,.int .i64 0)] a)(k: ∀a W1,Below W.heap.size W W1->Sl 156 [(53,.bool false),(1,.int .u8 m),(5,aYW p5 0),(6,x.sl ad),(7,.int .i64 0),(8,.slice bd x.pl.length cp),(9,.bool x.pz),(10,.int .i64 0)] a->Q .normal a W1):aRG.wpIn (FR r) 0 prog Q a W:=by
 refine aG [km 35 7,(none,some 36,.binOp .neq 38 (.tmp 35) (.const (.int .i64 0)) 38),km 37 36,kg 2 false (km 38 10),(some (2,false),some 39,.binOp .neq 38 (.tmp 38) (.const (.int .i64 0)) 38),(none,some 40,.pick (.tmp 37) (.const (.bool true)) (.tmp 39)),km 41 40,kg 6 false (km 42 6),kg 6 false (km 43 8),(some (6,false),some 44,.call ⟨.value (.func 10),#[(.tmp 42),(.tmp 43)],#[37,37]⟩),(some (6,false),some 45,.binOp .eql 3 (.tmp 44) (.const (.int .i64 0)) 3),(none,some 46,.pick (.tmp 41) (.const (.bool true)) (.tmp 45)),km 47 46,kg 12 false (km 48 6),(some (12,false),some 49,.call ⟨.builtin .cap,#[(.tmp 48)],#[37]⟩),kg 12 false (km 50 6),(some (12,false),some 51,.call ⟨.builtin .len,#[(.tmp 50)],#[37]⟩),(some (12,false),some 52,.binOp .neq 3 (.tmp 49) (.tmp 51) 3),(none,some 53,.pick (.tmp 47) (.const (.bool true)) (.tmp 52))] fun ops l hK hk=>?_;refine mV (v:=.int .i64 0) hk h fun l a hk h=>
 sV (v:=.bool false) hk h (fun _ ho=>qM (q:=.i64) (m:=0) (m':=0) rfl ho (sT h) rfl) fun l a hk h=>
 mV (v:=.bool false) hk h fun l a hk h=>
 mG (v:=.int .i64 0) hK hk h 37 fun l a hk h=>
 sG (v:=.bool false) hK hk h 37 (fun _ ho=>qM (q:=.i64) (m:=0) (m':=0) rfl ho (sT h) rfl) fun l a hk h=>
 sV (v:=.bool false) hk h (fun _ ho=>dI ho (sT h) (sT h)) fun l a hk h=>
 mV (v:=.bool false) hk h fun l a hk h=>?_
 refine mG (v:=x.sl ad) hK hk h 41 fun l a hk h=>
 mG (v:=.slice bd x.pl.length cp) hK hk h 41 fun l a hk h=>?_
 refine scg hK hk h (d0:=41) rfl (by simp) rfl (by decide) (fun _ ho=>fU ho func10) (R:=fun e w'=>e=.returned (.int .i64 1)/\Below W.heap.size W w') (by rw[tJ,sT h (k:=42) (v:=x.sl ad),sT h (k:=43) (v:=.slice bd x.pl.length cp)];exact aFp W hA hB (fun q _=>⟨_,_,_,rfl⟩) (x.GN R.n)) (fun e W1 hR=>⟨_,hR.1,fun l a hk h=>?_⟩);refine sG (v:=.bool false) hK hk h 41 (fun _ ho=>BU (q:=.i64) (m:=1) rfl ho (sT h)) fun l a hk h=>
 sV (v:=.bool false) hk h (fun _ ho=>dI ho (sT h) (sT h)) fun l a hk h=>
 mV (v:=.bool false) hk h fun l a hk h=>
 mG (v:=x.sl ad) hK hk h 47 fun l a hk h=>
 sG (v:=.int .i64 (x.pl.length:Int)) hK hk h 47 (fun _ ho=>aRD (s:=ad) (m:=x.pl.length) (el:=46) (by kernel_rfl) ho (sT h)) fun l a hk h=>
 mG (v:=x.sl ad) hK hk h 47 fun l a hk h=>
 sG (v:=.int .i64 (x.pl.length:Int)) hK hk h 47 (fun _ ho=>lM (s:=ad) (c:=x.pl.length) (el:=46) (by kernel_rfl) ho (sT h)) fun l a hk h=>?_
 refine sG (v:=.bool false) hK hk h 47 (fun _ ho=>qM (q:=.i64) (m:=(x.pl.length:Int)) (m':=(x.pl.length:Int)) rfl ho (sT h) (sT h)) fun l a hk h=>
 sV (v:=.bool false) hk h (fun _ ho=>dI ho (sT h) (sT h)) fun l a hk h=>?_
 exact s0 hk (k _ _ hR.2 (aN h))
theorem aNk{ad bd:Option Addr}{cp:Nat}(R:Rx x w0)(hB:jA W bd x.pl.length x.cl)(h:Sl 156 [(1,.int .u8 m),(5,aYW p5 0),(6,x.sl ad),(7,.int .i64 0),(8,.slice bd x.pl.length cp),(9,.bool x.pz),(10,.int .i64 0),(11,.bool true)] a)(k: ∀a,Sl 156 [(1,.int .u8 m),(5,aYW p5 0),(6,x.sl ad),(7,.int .i64 0),(8,.slice bd x.pl.length cp),(9,.bool x.pz),(10,.int .i64 0),(11,.bool x.pz)] a->Q .normal a W):(Code.seq aRF (.block 0 (.loop (.seq (.seq aRE (.cond (.tmp 57) .skip (.exit 0))) (.seq (.block 1 aLP) aFL))))).wpIn (FR r) 0 prog Q a W:=by
 refine aDs (aG [kc 12 (.int .i64 0)] fun ops l hK hk=>?_);refine sV (v:=.int .i64 ((0:Nat):Int)) hk h (fun _ ho=>BZ ho rfl) fun l a hk h=>?_;refine s0 hk (aLs (gQ (fun j a W2=> ∃q,j+q=x.pl.length/\W2=W/\Sl 156 [(1,.int .u8 m),(5,aYW p5 0),(6,x.sl ad),(7,.int .i64 0),(8,.slice bd x.pl.length cp),(9,.bool x.pz),(10,.int .i64 0),(11,.bool (allT (fun q=>decide (x.mq q=0)) q)),(12,.int .i64 (q:Int))] a) ?_ (m:=x.pl.length) ⟨0,rfl,rfl,(show Sl 156 [(1,.int .u8 m),(5,aYW p5 0),(6,x.sl ad),(7,.int .i64 0),(8,.slice bd x.pl.length cp),(9,.bool x.pz),(10,.int .i64 0),(11,.bool true),(12,.int .i64 ((0:Nat):Int))] a from aN h)⟩));intro j a W2 ⟨q,hj,e2,h⟩;subst e2;refine aDs (aDs (aG [km 54 12,km 55 8,(none,some 56,.call ⟨.builtin .len,#[(.tmp 55)],#[37]⟩),(none,some 57,.binOp .lss 3 (.tmp 54) (.tmp 56) 3)] fun ops l hK hk=>?_));refine mV (v:=.int .i64 (q:Int)) hk h fun l a hk h=>
 mV (v:=.slice bd x.pl.length cp) hk h fun l a hk h=>
 sV (v:=.int .i64 (x.pl.length:Int)) hk h (fun _ ho=>lM (s:=bd) (c:=cp) (el:=46) (by kernel_rfl) ho (sT h)) fun l a hk h=>
 sV (v:=.bool (decide ((q:Int)<(x.pl.length:Int)))) hk h (fun _ ho=>mP (q:=.i64) ho (sT h) (sT h)) fun l a hk h=>?_
 refine s0 hk (cZ (t:=decide ((q:Int)<(x.pl.length:Int))) h (by simp) (fun c=>aJt ?_) (fun c=>aRf ?_))
 . have hq:q<x.pl.length:=by have:=aEF c;omega
   obtain⟨g,rfl,hg,hr⟩:=hB q hq;have hc:W2.cell? ⟨g,0+q * 3+2,none⟩=some (.int .u8 (x.mq q)):=by rw[aHG];exact hr 2 _ rfl
   have nx: ∀a,Sl 156 [(1,.int .u8 m),(5,aYW p5 0),(6,x.sl ad),(7,.int .i64 0),(8,.slice (some ⟨g,0,none⟩) x.pl.length cp),(9,.bool x.pz),(10,.int .i64 0),(11,.bool (allT (fun q=>decide (x.mq q=0)) (q+1))),(12,.int .i64 (q:Int))] a->aFL.wpIn (FR r) 0 prog (Exit.then (fun a' w'=> ∃m',m'<j/\ ∃q,m'+q=x.pl.length/\w'=W2/\Sl 156 [(1,.int .u8 m),(5,aYW p5 0),(6,x.sl ad),(7,.int .i64 0),(8,.slice (some ⟨g,0,none⟩) x.pl.length cp),(9,.bool x.pz),(10,.int .i64 0),(11,.bool (allT (fun q=>decide (x.mq q=0)) q)),(12,.int .i64 (q:Int))] a') (Exit.inBlock 0 Q)) a W2:=by
    intro a h;refine aG [km 58 12,(none,some 59,.binOp .add 3 (.tmp 58) (.const (.int .i64 1)) 3),ka 12 59] fun ops l hK hk=>?_;refine mV (v:=.int .i64 (q:Int)) hk h fun l a hk h=>
    sV (v:=.int .i64 ((q:Int)+1)) hk h (fun _ ho=>rM ho (sT h) rfl (wrap_succ hq (x.GN R.n))) fun l a hk h=>
    aV (v:=.int .i64 ((q:Int)+1)) hk h fun l a hk h=>?_
    exact s0 hk ⟨j - 1,by omega,q+1,by omega,rfl,by rw[aNq];exact aN h⟩
   have eN:allT (fun q=>decide (x.mq q=0)) (q+1)=(allT (fun q=>decide (x.mq q=0)) q&&decide (x.mq q=0)):=rfl;refine aDs (aLs (aG [km 60 11,km 61 60,kg 1 true (km 62 8),kg 1 true (km 63 12),(some (1,true),some 64,.indexAddr 37 (.tmp 62) (.tmp 63)),kg 1 true (kf 65 46 64 2),kg 1 true (kl 66 5 65),(some (1,true),some 67,.binOp .eql 5 (.tmp 66) (.const (.int .u8 0)) 5),(none,some 68,.pick (.tmp 61) (.tmp 67) (.const (.bool false))),ka 11 68] fun ops l hK hk=>?_));refine mV (v:=.bool (allT (fun q=>decide (x.mq q=0)) q)) hk h fun l a hk h=>
   mV (v:=.bool (allT (fun q=>decide (x.mq q=0)) q)) hk h fun l a hk h=>?_
   cases hz:allT (fun q=>decide (x.mq q=0)) q with
   |true=>
    rw[hz]at h eN;refine mG (v:=.slice (some ⟨g,0,none⟩) x.pl.length cp) hK hk h 61 fun l a hk h=>
    mG (v:=.int .i64 (q:Int)) hK hk h 61 fun l a hk h=>
    sG (v:=aYW g (0+q * 3)) hK hk h 61 (fun _ ho=>fP (g:=g) (off:=0) (n:=x.pl.length) (cp:=cp) (el:=46) (sz:=3) (by kernel_rfl) (by kernel_rfl) hq ho (sT h) (sT h)) fun l a hk h=>
    sG (v:=aYW g (0+q * 3+2)) hK hk h 61 (fun _ ho=>aJ (b:=g) (o':=0+q * 3) xG ho (sT h)) fun l a hk h=>
    sG (v:=.int .u8 (x.mq q)) hK hk h 61 (fun _ ho=>gK (b:=g) (off:=0+q * 3+2) lY ho (sT h) hc) fun l a hk h=>
    sG (v:=.bool (decide (x.mq q=0))) hK hk h 61 (fun _ ho=>jE (q:=.u8) ho (sT h) rfl) fun l a hk h=>
    sV (v:=.bool (decide (x.mq q=0))) hk h (fun _ ho=>dR ho (sT h) (sT h)) fun l a hk h=>?_
    refine aV (v:=.bool (decide (x.mq q=0))) hk h fun l a hk h=>?_;exact s0 hk (nx a (by rw[eN,aO8];exact aN h))
   |false=>
    rw[hz]at h eN;refine sX hK hk h 61 fun l a hk h=>
    sX hK hk h 61 fun l a hk h=>
    sX hK hk h 61 fun l a hk h=>
    sX hK hk h 61 fun l a hk h=>
    sX hK hk h 61 fun l a hk h=>
    sX hK hk h 61 fun l a hk h=>
    sV (v:=.bool false) hk h (fun _ ho=>dI ho (sT h) rfl) fun l a hk h=>?_
    refine aV (v:=.bool false) hk h fun l a hk h=>?_;exact s0 hk (nx a (by rw[eN,aPd];exact aN h))
 have hq:q=x.pl.length:=by have:=aIH c;omega
 rw[hq]at h;have h2:Sl 156 [(1,.int .u8 m),(5,aYW p5 0),(6,x.sl ad),(7,.int .i64 0),(8,.slice bd x.pl.length cp),(9,.bool x.pz),(10,.int .i64 0),(11,.bool (allT (fun q=>decide (x.mq q=0)) x.pl.length))] a:=aN h;exact k a h2
theorem aJL(R:Rx x w0)(hw:Below w0.heap.size w0 W)(f:dA W p5 35 x.l){ad bd:Option Addr}{cp:Nat}(h:Sl 156 [(1,.int .u8 m),(5,aYW p5 0),(6,x.sl ad),(7,.int .i64 0),(8,.slice bd x.pl.length cp),(9,.bool x.pz),(10,.int .i64 0),(11,.bool x.pz)] a)(k: ∀a W1,Below W.heap.size W W1->Sl 156 [(1,.int .u8 m),(5,aYW p5 0),(6,x.sl ad),(7,.int .i64 0),(8,.slice bd x.pl.length cp),(9,.bool x.pz),(10,.int .i64 0),(11,.bool x.pz),(13,.int .u8 (if mE m=0 then x.tr m else 0)),(14,.int .i64 (mE m))] a->Q .normal a W1):aLO.wpIn (FR r) 0 prog Q a W:=by
 refine aG [kl 70 35 5,km 71 1,(none,some 72,.call ⟨.value (.func 11),#[(.tmp 70),(.tmp 71)],#[35,5]⟩),km 69 72,kx 73 69 0,kx 74 69 1,ka 13 73,ka 14 74] fun ops l hK hk=>?_;refine sV (v:=x.v) hk h (fun _ ho=>bC (aO f) underlying35 rfl (by kernel_rfl) ho (sT h)) fun l a hk h=>
 mV (v:=.int .u8 m) hk h fun l a hk h=>?_
 refine sc hk h rfl (by decide) (fun _ ho=>fU ho func11) (R:=MkR x m W) (by rw[tJ,sT h (k:=70) (v:=x.v),sT h (k:=71) (v:=.int .u8 m)];exact yH R.ck R.its R.n m W hw) (fun e W1 ⟨ev,B⟩=>⟨_,ev,fun l a hk h=>?_⟩);refine mV (v:=.tuple #[.int .u8 (if mE m=0 then x.tr m else 0),.int .i64 (mE m)]) hk h fun l a hk h=>
 sV (v:=.int .u8 (if mE m=0 then x.tr m else 0)) hk h (fun _ ho=>fQ (vs:= #[.int .u8 (if mE m=0 then x.tr m else 0),.int .i64 (mE m)]) rfl ho (sT h)) fun l a hk h=>
 sV (v:=.int .i64 (mE m)) hk h (fun _ ho=>fQ (vs:= #[.int .u8 (if mE m=0 then x.tr m else 0),.int .i64 (mE m)]) rfl ho (sT h)) fun l a hk h=>
 aV (v:=.int .u8 (if mE m=0 then x.tr m else 0)) hk h fun l a hk h=>
 aV (v:=.int .i64 (mE m)) hk h fun l a hk h=>?_
 exact s0 hk (k _ _ B (aN h))
theorem aJK{ad bd:Option Addr}{cp:Nat}(h:Sl 156 [(1,.int .u8 m),(5,aYW p5 0),(6,x.sl ad),(7,.int .i64 0),(8,.slice bd x.pl.length cp),(9,.bool x.pz),(10,.int .i64 0),(11,.bool x.pz),(13,.int .u8 (if mE m=0 then x.tr m else 0)),(14,.int .i64 (mE m))] a)(k: ∀a,Sl 156 [(80,.bool (!decide (1<=m/\m<=3))),(1,.int .u8 m),(5,aYW p5 0),(6,x.sl ad),(7,.int .i64 0),(8,.slice bd x.pl.length cp),(9,.bool x.pz),(10,.int .i64 0),(11,.bool x.pz),(13,.int .u8 (if mE m=0 then x.tr m else 0)),(14,.int .i64 (mE m))] a->Q .normal a W):aLN.wpIn (FR r) 0 prog Q a W:=by
 refine aG [km 75 1,(none,some 76,.binOp .lss 5 (.tmp 75) (.const (.int .u8 1)) 5),km 77 76,kg 2 false (km 78 1),(some (2,false),some 79,.binOp .gtr 5 (.tmp 78) (.const (.int .u8 3)) 5),(none,some 80,.pick (.tmp 77) (.const (.bool true)) (.tmp 79))] fun ops l hK hk=>?_;refine mV (v:=.int .u8 m) hk h fun l a hk h=>?_;by_cases c:m<1
 . refine sV (v:=.bool true) hk h (fun _ ho=>by have:=mP (P:=prog) (W:=W) (q:=.u8) ho (sT h (v:=.int .u8 m)) (m':=1) rfl;rw[aDx c]at this;exact this) fun l a hk h=>?_;refine mV (v:=.bool true) hk h fun l a hk h=>
   sX hK hk h 77 fun l a hk h=>
   sX hK hk h 77 fun l a hk h=>
   sV (v:=.bool true) hk h (fun _ ho=>dR ho (sT h) rfl) fun l a hk h=>?_
   exact s0 hk (k a (by rw[aBW (show ¬(1<=m/\m<=3) by omega)];exact aN h))
 refine sV (v:=.bool false) hk h (fun _ ho=>by have:=mP (P:=prog) (W:=W) (q:=.u8) ho (sT h (v:=.int .u8 m)) (m':=1) rfl;rw[aBW c]at this;exact this) fun l a hk h=>?_;refine mV (v:=.bool false) hk h fun l a hk h=>
 mG (v:=.int .u8 m) hK hk h 77 fun l a hk h=>
 sG (v:=.bool (decide (3<m))) hK hk h 77 (fun _ ho=>aB0 (q:=.u8) ho (sT h) rfl) fun l a hk h=>
 sV (v:=.bool (decide (3<m))) hk h (fun _ ho=>dI ho (sT h) (sT h)) fun l a hk h=>?_
 exact s0 hk (k a (by rw[show (!decide (1<=m/\m<=3))=decide (3<m)from if d:3<m then(by rw[aDx d,aBW (by omega)];rfl)else(by rw[aBW d,aDx (by omega)];rfl)];exact aN h))
theorem aJJ(hl:Same w0 12 #[] (.bool true))(hw:Below w0.heap.size w0 W)(h:Sl 156 [(14,.int .i64 9),(13,.int .u8 0),(9,.bool x.pz),(11,.bool x.pz)] a)(k: ∀a W1,Below W.heap.size W W1->Sl 156 [(4,.bool true)] a->Q .normal a W1):aLM.wpIn (FR r) 0 prog Q a W:=by
 refine aG [km 81 14,(none,some 82,.binOp .eql 38 (.tmp 81) (.const (.int .i64 9)) 38),km 83 82,kg 2 true (km 84 13),(some (2,true),some 85,.binOp .eql 47 (.tmp 84) (.const (.int .u8 0)) 47),(none,some 86,.pick (.tmp 83) (.tmp 85) (.const (.bool false))),km 87 86,kg 6 true (km 88 9),kg 6 true (km 89 11),(some (6,true),some 90,.binOp .eql 4 (.tmp 88) (.tmp 89) 4),(none,some 91,.pick (.tmp 87) (.tmp 90) (.const (.bool false))),km 92 91,(some (11,true),some 93,.call ⟨.value (.func 12),#[],#[]⟩),(none,some 94,.pick (.tmp 92) (.tmp 93) (.const (.bool false))),ka 4 94] fun ops l hK hk=>?_;refine mV (v:=.int .i64 9) hk h fun l a hk h=>
 sV (v:=.bool true) hk h (fun _ ho=>BU (q:=.i64) (m:=9) rfl ho (sT h)) fun l a hk h=>
 mV (v:=.bool true) hk h fun l a hk h=>
 mG (v:=.int .u8 0) hK hk h 83 fun l a hk h=>
 sG (v:=.bool true) hK hk h 83 (fun _ ho=>BU (q:=.u8) (m:=0) rfl ho (sT h)) fun l a hk h=>
 sV (v:=.bool true) hk h (fun _ ho=>dR ho (sT h) (sT h)) fun l a hk h=>
 mV (v:=.bool true) hk h fun l a hk h=>?_
 refine mG (v:=.bool x.pz) hK hk h 87 fun l a hk h=>
 mG (v:=.bool x.pz) hK hk h 87 fun l a hk h=>
 sG (v:=.bool true) hK hk h 87 (fun _ ho=>by have:=aLK (W:=W) ho (sT h (v:=.bool x.pz)) (sT h (v:=.bool x.pz));rw[aVe]at this;exact this) fun l a hk h=>
 sV (v:=.bool true) hk h (fun _ ho=>dR ho (sT h) (sT h)) fun l a hk h=>
 mV (v:=.bool true) hk h fun l a hk h=>?_
 refine scg hK hk h (d0:=92) rfl (by simp) rfl (by decide) (fun _ ho=>PL ho func12 (by kernel_rfl) (show _=some ((f12).body.getD .skip) by kernel_rfl)) (hl _ hw) (fun e W1 hR=>⟨_,hR.1,fun l a hk h=>?_⟩);refine sV (v:=.bool true) hk h (fun _ ho=>dR ho (sT h) (sT h)) fun l a hk h=>
 aV (v:=.bool true) hk h fun l a hk h=>?_
 exact s0 hk (k _ _ hR.2 (aN h))
theorem aJI(R:Rx x w0)(hw:Below w0.heap.size w0 W)(f:dA W p5 35 x.l)(m1:1<=m)(m3:m<=3)(h:Sl 156 [(1,.int .u8 m),(5,aYW p5 0),(9,.bool x.pz),(11,.bool x.pz),(13,.int .u8 (x.tr m)),(14,.int .i64 0)] a)(k: ∀a W1,Below W.heap.size W W1->Sl 156 [(116,.bool false),(1,.int .u8 m),(5,aYW p5 0)] a->Q .normal a W1):aFK.wpIn (FR r) 0 prog Q a W:=by
 refine aG [km 95 14,(none,some 96,.binOp .neq 38 (.tmp 95) (.const (.int .i64 0)) 38),km 97 96,kg 2 false (km 98 13),(some (2,false),some 99,.convert 47 3 (.tmp 98)),kg 2 false (kl 100 35 5),kg 2 false (km 101 1),(some (2,false),some 102,.call ⟨.value (.func 13),#[(.tmp 100),(.tmp 101)],#[35,5]⟩),(some (2,false),some 103,.binOp .neq 3 (.tmp 99) (.tmp 102) 3),(none,some 104,.pick (.tmp 97) (.const (.bool true)) (.tmp 103)),km 105 104,kg 10 false (km 106 9),kg 10 false (km 107 11),(some (10,false),some 108,.binOp .neq 4 (.tmp 106) (.tmp 107) 4),(none,some 109,.pick (.tmp 105) (.const (.bool true)) (.tmp 108)),km 110 109,kg 15 false (km 111 11),kg 15 false (km 112 111),kg 17 true (km 113 13),(some (17,true),some 114,.binOp .neq 47 (.tmp 113) (.const (.int .u8 1)) 47),(some (15,false),some 115,.pick (.tmp 112) (.tmp 114) (.const (.bool false))),(none,some 116,.pick (.tmp 110) (.const (.bool true)) (.tmp 115))] fun ops l hK hk=>?_;refine mV (v:=.int .i64 0) hk h fun l a hk h=>
 sV (v:=.bool false) hk h (fun _ ho=>qM (q:=.i64) (m:=0) (m':=0) rfl ho (sT h) rfl) fun l a hk h=>
 mV (v:=.bool false) hk h fun l a hk h=>
 mG (v:=.int .u8 (x.tr m)) hK hk h 97 fun l a hk h=>
 sG (v:=.int .i64 (x.tr m)) hK hk h 97 (fun _ ho=>aNg (QV R.mks m).1 ho (sT h)) fun l a hk h=>
 sG (v:=x.v) hK hk h 97 (fun _ ho=>bC (aO f) underlying35 rfl (by kernel_rfl) ho (sT h)) fun l a hk h=>
 mG (v:=.int .u8 m) hK hk h 97 fun l a hk h=>?_
 refine scg hK hk h (d0:=97) rfl (by simp) rfl (by decide) (fun _ ho=>fU ho func13) (R:=RmR x m W) (by rw[tJ,sT h (k:=100) (v:=x.v),sT h (k:=101) (v:=.int .u8 m)];exact aAt R.kd R.n R.pt m W (qP R.its hw.size hw.block)) (fun e W1 ⟨ev,B⟩=>⟨_,ev,fun l a hk h=>?_⟩);rw[<-aRe R.mks m1 m3]at h;refine sG (v:=.bool false) hK hk h 97 (fun _ ho=>qM (q:=.i64) (m:=x.tr m) (m':=x.tr m) rfl ho (sT h) (sT h)) fun l a hk h=>
 sV (v:=.bool false) hk h (fun _ ho=>dI ho (sT h) (sT h)) fun l a hk h=>
 mV (v:=.bool false) hk h fun l a hk h=>
 mG (v:=.bool x.pz) hK hk h 105 fun l a hk h=>
 mG (v:=.bool x.pz) hK hk h 105 fun l a hk h=>
 sG (v:=.bool false) hK hk h 105 (fun _ ho=>aRA ho (sT h) (sT h (v:=.bool x.pz))) fun l a hk h=>
 sV (v:=.bool false) hk h (fun _ ho=>dI ho (sT h) (sT h)) fun l a hk h=>?_
 refine mV (v:=.bool false) hk h fun l a hk h=>
 mG (v:=.bool x.pz) hK hk h 110 fun l a hk h=>
 mG (v:=.bool x.pz) hK hk h 110 fun l a hk h=>?_
 cases hz:x.pz with
 |true=>
  rw[hz]at h;refine mG (v:=.int .u8 (x.tr m)) hK hk h 112 fun l a hk h=>
  sG (v:=.bool false) hK hk h 112 (fun _ ho=>qM (q:=.u8) (m:=x.tr m) (m':=1) (aE4 R.mks m1 m3 R.pos hz) ho (sT h) rfl) fun l a hk h=>
  sG (v:=.bool false) hK hk h 110 (fun _ ho=>dR ho (sT h) (sT h)) fun l a hk h=>
  sV (v:=.bool false) hk h (fun _ ho=>dI ho (sT h) (sT h)) fun l a hk h=>?_
  exact s0 hk (k _ _ B (aN h))
 |false=>
  rw[hz]at h;refine sX hK hk h 112 fun l a hk h=>
  sX hK hk h 112 fun l a hk h=>
  sG (v:=.bool false) hK hk h 110 (fun _ ho=>dI ho (sT h) rfl) fun l a hk h=>
  sV (v:=.bool false) hk h (fun _ ho=>dI ho (sT h) (sT h)) fun l a hk h=>?_
  exact s0 hk (k _ _ B (aN h))
theorem aJH(R:Rx x w0)(hw:Below w0.heap.size w0 W)(f:dA W p5 35 x.l)(h:Sl 156 [(5,aYW p5 0)] a)(k: ∀a W1,Below W.heap.size W W1->Sl 156 [(5,aYW p5 0),(15,.int .u8 (x.tr 1)),(16,.int .i64 0)] a->Q .normal a W1):aFJ.wpIn (FR r) 0 prog Q a W:=by
 refine aG [kl 118 35 5,(none,some 119,.call ⟨.value (.func 11),#[(.tmp 118),(.const (.int .u8 1))],#[35,5]⟩),km 117 119,kx 120 117 0,kx 121 117 1,ka 15 120,ka 16 121] fun ops l hK hk=>?_;refine sV (v:=x.v) hk h (fun _ ho=>bC (aO f) underlying35 rfl (by kernel_rfl) ho (sT h)) fun l a hk h=>?_;refine sc hk h rfl (by decide) (fun _ ho=>fU ho func11) (R:=fun e w'=>e=.returned (.tuple #[.int .u8 (x.tr 1),.int .i64 0])/\Below W.heap.size W w') (by rw[tJ,sT h (k:=118) (v:=x.v)];exact yH R.ck R.its R.n 1 W hw) (fun e W1 ⟨ev,B⟩=>⟨_,ev,fun l a hk h=>?_⟩);refine mV (v:=.tuple #[.int .u8 (x.tr 1),.int .i64 0]) hk h fun l a hk h=>
 sV (v:=.int .u8 (x.tr 1)) hk h (fun _ ho=>fQ (vs:= #[.int .u8 (x.tr 1),.int .i64 0]) rfl ho (sT h)) fun l a hk h=>
 sV (v:=.int .i64 0) hk h (fun _ ho=>fQ (vs:= #[.int .u8 (x.tr 1),.int .i64 0]) rfl ho (sT h)) fun l a hk h=>
 aV (v:=.int .u8 (x.tr 1)) hk h fun l a hk h=>
 aV (v:=.int .i64 0) hk h fun l a hk h=>?_
 exact s0 hk (k _ _ B (aN h))
theorem aJG(R:Rx x w0)(hw:Below w0.heap.size w0 W)(f:dA W p5 35 x.l)(h:Sl 156 [(5,aYW p5 0),(15,.int .u8 (x.tr 1)),(16,.int .i64 0)] a)(k: ∀a W1,Below W.heap.size W W1->Sl 156 [(5,aYW p5 0),(15,.int .u8 (x.tr 1)),(16,.int .i64 0),(17,.int .u8 (x.tr 2)),(18,.int .i64 0)] a->Q .normal a W1):aFI.wpIn (FR r) 0 prog Q a W:=by
 refine aG [kl 123 35 5,(none,some 124,.call ⟨.value (.func 11),#[(.tmp 123),(.const (.int .u8 2))],#[35,5]⟩),km 122 124,kx 125 122 0,kx 126 122 1,ka 17 125,ka 18 126] fun ops l hK hk=>?_;refine sV (v:=x.v) hk h (fun _ ho=>bC (aO f) underlying35 rfl (by kernel_rfl) ho (sT h)) fun l a hk h=>?_;refine sc hk h rfl (by decide) (fun _ ho=>fU ho func11) (R:=fun e w'=>e=.returned (.tuple #[.int .u8 (x.tr 2),.int .i64 0])/\Below W.heap.size W w') (by rw[tJ,sT h (k:=123) (v:=x.v)];exact yH R.ck R.its R.n 2 W hw) (fun e W1 ⟨ev,B⟩=>⟨_,ev,fun l a hk h=>?_⟩);refine mV (v:=.tuple #[.int .u8 (x.tr 2),.int .i64 0]) hk h fun l a hk h=>
 sV (v:=.int .u8 (x.tr 2)) hk h (fun _ ho=>fQ (vs:= #[.int .u8 (x.tr 2),.int .i64 0]) rfl ho (sT h)) fun l a hk h=>
 sV (v:=.int .i64 0) hk h (fun _ ho=>fQ (vs:= #[.int .u8 (x.tr 2),.int .i64 0]) rfl ho (sT h)) fun l a hk h=>
 aV (v:=.int .u8 (x.tr 2)) hk h fun l a hk h=>
 aV (v:=.int .i64 0) hk h fun l a hk h=>?_
 exact s0 hk (k _ _ B (aN h))
theorem aJF(R:Rx x w0)(hw:Below w0.heap.size w0 W)(f:dA W p5 35 x.l)(h:Sl 156 [(5,aYW p5 0),(15,.int .u8 (x.tr 1)),(16,.int .i64 0),(17,.int .u8 (x.tr 2)),(18,.int .i64 0)] a)(k: ∀a W1,Below W.heap.size W W1->Sl 156 [(5,aYW p5 0),(15,.int .u8 (x.tr 1)),(16,.int .i64 0),(17,.int .u8 (x.tr 2)),(18,.int .i64 0),(19,.int .u8 (x.tr 3)),(20,.int .i64 0)] a->Q .normal a W1):aFH.wpIn (FR r) 0 prog Q a W:=by
 refine aG [kl 128 35 5,(none,some 129,.call ⟨.value (.func 11),#[(.tmp 128),(.const (.int .u8 3))],#[35,5]⟩),km 127 129,kx 130 127 0,kx 131 127 1,ka 19 130,ka 20 131] fun ops l hK hk=>?_;refine sV (v:=x.v) hk h (fun _ ho=>bC (aO f) underlying35 rfl (by kernel_rfl) ho (sT h)) fun l a hk h=>?_;refine sc hk h rfl (by decide) (fun _ ho=>fU ho func11) (R:=fun e w'=>e=.returned (.tuple #[.int .u8 (x.tr 3),.int .i64 0])/\Below W.heap.size W w') (by rw[tJ,sT h (k:=128) (v:=x.v)];exact yH R.ck R.its R.n 3 W hw) (fun e W1 ⟨ev,B⟩=>⟨_,ev,fun l a hk h=>?_⟩);refine mV (v:=.tuple #[.int .u8 (x.tr 3),.int .i64 0]) hk h fun l a hk h=>
 sV (v:=.int .u8 (x.tr 3)) hk h (fun _ ho=>fQ (vs:= #[.int .u8 (x.tr 3),.int .i64 0]) rfl ho (sT h)) fun l a hk h=>
 sV (v:=.int .i64 0) hk h (fun _ ho=>fQ (vs:= #[.int .u8 (x.tr 3),.int .i64 0]) rfl ho (sT h)) fun l a hk h=>
 aV (v:=.int .u8 (x.tr 3)) hk h fun l a hk h=>
 aV (v:=.int .i64 0) hk h fun l a hk h=>?_
 exact s0 hk (k _ _ B (aN h))
theorem aJE(R:Rx x w0)(hl:Same w0 12 #[] (.bool true))(hw:Below w0.heap.size w0 W)(h:Sl 156 [(5,aYW p5 0),(15,.int .u8 (x.tr 1)),(16,.int .i64 0),(17,.int .u8 (x.tr 2)),(18,.int .i64 0),(19,.int .u8 (x.tr 3)),(20,.int .i64 0)] a)(k: ∀a W1,Below W.heap.size W W1->Sl 156 [(4,.bool true)] a->Q .normal a W1):aFG.wpIn (FR r) 0 prog Q a W:=by
 refine aG [km 132 16,(none,some 133,.binOp .eql 38 (.tmp 132) (.const (.int .i64 0)) 38),km 134 133,kg 2 true (km 135 18),(some (2,true),some 136,.binOp .eql 38 (.tmp 135) (.const (.int .i64 0)) 38),(none,some 137,.pick (.tmp 134) (.tmp 136) (.const (.bool false))),km 138 137,kg 6 true (km 139 20),(some (6,true),some 140,.binOp .eql 38 (.tmp 139) (.const (.int .i64 0)) 38),(none,some 141,.pick (.tmp 138) (.tmp 140) (.const (.bool false))),km 142 141,kg 10 true (km 143 19),(some (10,true),some 144,.binOp .eql 47 (.tmp 143) (.const (.int .u8 3)) 47),kg 10 true (km 145 15),(some (10,true),some 146,.binOp .eql 47 (.tmp 145) (.const (.int .u8 3)) 47),kg 10 true (km 147 146),kg 15 true (km 148 17),(some (15,true),some 149,.binOp .eql 47 (.tmp 148) (.const (.int .u8 3)) 47),(some (10,true),some 150,.pick (.tmp 147) (.tmp 149) (.const (.bool false))),(some (10,true),some 151,.binOp .eql 4 (.tmp 144) (.tmp 150) 4),(none,some 152,.pick (.tmp 142) (.tmp 151) (.const (.bool false))),km 153 152,(some (21,true),some 154,.call ⟨.value (.func 12),#[],#[]⟩),(none,some 155,.pick (.tmp 153) (.tmp 154) (.const (.bool false))),ka 4 155] fun ops l hK hk=>?_;refine mV (v:=.int .i64 0) hk h fun l a hk h=>
 sV (v:=.bool true) hk h (fun _ ho=>BU (q:=.i64) (m:=0) rfl ho (sT h)) fun l a hk h=>
 mV (v:=.bool true) hk h fun l a hk h=>
 mG (v:=.int .i64 0) hK hk h 134 fun l a hk h=>
 sG (v:=.bool true) hK hk h 134 (fun _ ho=>BU (q:=.i64) (m:=0) rfl ho (sT h)) fun l a hk h=>
 sV (v:=.bool true) hk h (fun _ ho=>dR ho (sT h) (sT h)) fun l a hk h=>
 mV (v:=.bool true) hk h fun l a hk h=>?_
 refine mG (v:=.int .i64 0) hK hk h 138 fun l a hk h=>
 sG (v:=.bool true) hK hk h 138 (fun _ ho=>BU (q:=.i64) (m:=0) rfl ho (sT h)) fun l a hk h=>
 sV (v:=.bool true) hk h (fun _ ho=>dR ho (sT h) (sT h)) fun l a hk h=>
 mV (v:=.bool true) hk h fun l a hk h=>?_
 obtain⟨b3,e3⟩: ∃b,decide (x.tr 3=3)=b:=⟨_,rfl⟩;obtain⟨b1,e1⟩: ∃b,decide (x.tr 1=3)=b:=⟨_,rfl⟩;obtain⟨b2,e2⟩: ∃b,decide (x.tr 2=3)=b:=⟨_,rfl⟩;have eb:b3=(b1&&b2):=by rw[<-e3,<-e1,<-e2];exact aJj R.mks
 refine mG (v:=.int .u8 (x.tr 3)) hK hk h 142 fun l a hk h=>
 sG (v:=.bool b3) hK hk h 142 (fun _ ho=>BU (q:=.u8) e3 ho (sT h)) fun l a hk h=>
 mG (v:=.int .u8 (x.tr 1)) hK hk h 142 fun l a hk h=>
 sG (v:=.bool b1) hK hk h 142 (fun _ ho=>BU (q:=.u8) e1 ho (sT h)) fun l a hk h=>
 mG (v:=.bool b1) hK hk h 142 fun l a hk h=>?_
 have fin: ∀(l:List Oper) a,l.map key=[(some (10,true),some 151,.binOp .eql 4 (.tmp 144) (.tmp 150) 4),(none,some 152,.pick (.tmp 142) (.tmp 151) (.const (.bool false))),km 153 152,(some (21,true),some 154,.call ⟨.value (.func 12),#[],#[]⟩),(none,some 155,.pick (.tmp 153) (.tmp 154) (.const (.bool false))),ka 4 155]->Sl 156 [(142,.bool true),(144,.bool b3),(150,.bool (b1&&b2))] a->wpListIn (FR r) 0 prog ops Q l a W:=by
  intro l a hk h;refine sG (v:=.bool true) hK hk h 142 (fun _ ho=>by have:=aLK (W:=W) ho (sT h (v:=.bool b3)) (sT h (v:=.bool (b1&&b2)));rw[eb,aVe]at this;exact this) fun l a hk h=>
  sV (v:=.bool true) hk h (fun _ ho=>dR ho (sT h) (sT h)) fun l a hk h=>
  mV (v:=.bool true) hk h fun l a hk h=>?_
  refine scg hK hk h (d0:=153) rfl (by simp) rfl (by decide) (fun _ ho=>PL ho func12 (by kernel_rfl) (show _=some ((f12).body.getD .skip) by kernel_rfl)) (hl _ hw) (fun e W1 hR=>⟨_,hR.1,fun l a hk h=>?_⟩);refine sV (v:=.bool true) hk h (fun _ ho=>dR ho (sT h) (sT h)) fun l a hk h=>
  aV (v:=.bool true) hk h fun l a hk h=>?_
  exact s0 hk (k _ _ hR.2 (aN h))
 cases b1 with
 |true=>
  refine mG (v:=.int .u8 (x.tr 2)) hK hk h 147 fun l a hk h=>
  sG (v:=.bool b2) hK hk h 147 (fun _ ho=>BU (q:=.u8) e2 ho (sT h)) fun l a hk h=>
  sG (v:=.bool b2) hK hk h 142 (fun _ ho=>dR ho (sT h) (sT h)) fun l a hk h=>?_
  exact fin _ a hk (by rw[aO8];exact aN h)
 |false=>
  refine sX hK hk h 147 fun l a hk h=>
  sX hK hk h 147 fun l a hk h=>
  sG (v:=.bool false) hK hk h 142 (fun _ ho=>dI ho (sT h) rfl) fun l a hk h=>?_
  exact fin _ a hk (by rw[aPd];exact aN h)
end
theorem aKy{w0:World}{k0 e0 e1 bi:Int}{ls:Value}(h1:ls.oneCell'=true)(hO: ∀W,Below w0.heap.size w0 W->Calls prog 6 #[.agg (eA k0 ls e0 e1 bi).toArray] W fun e W1=> ∃x:Xp,e=.returned x.v/\Rx x W1/\Below W.heap.size W W1)
 (hl: ∀W,Below w0.heap.size w0 W->Same W 12 #[] (.bool true)) (m:Int):Same w0 3 #[.agg (eA k0 ls e0 e1 bi).toArray,.int .u8 m] (.bool true):=by
 intro w hw;refine(aMd (n:=0)).1 ?_;refine fM (args:=[.agg (eA k0 ls e0 e1 bi).toArray,.int .u8 m]) (N:=156) func3 (show _=some KR by kernel_rfl) ntmps3 (by simp) fun a h=>?_;rw[aV1];refine aDs (aG [(none,some 2,.box 25 (.tmp 0)),kc 4 (.bool false)] fun ops l hK hk=>?_);refine sV (v:=aYW w.heap.size 0) hk h (fun _ ho=>rJ (v:=.agg (eA k0 ls e0 e1 bi).toArray) ho (sT h) rfl) fun l a hk h=>?_;have A0:Al w (w.alloc (.cells (eA k0 ls e0 e1 bi).toArray 25)) w.heap.size 25 (eA k0 ls e0 e1 bi):=dN _;change wpListIn _ _ _ _ _ _ _ (w.alloc (.cells (eA k0 ls e0 e1 bi).toArray 25));generalize w.alloc (.cells (eA k0 ls e0 e1 bi).toArray 25)=W0 at A0 ⊢;obtain⟨p0,hp0⟩: ∃p,p=w.heap.size:=⟨_,rfl⟩;rw[<-hp0]at A0 h;have f0:=A0.2.2.2.1;have b0:Below w.heap.size w W0:=dZ A0;have c0:Below w0.heap.size w0 W0:=bD hw b0 (aC4 _);refine aC hk h fun l a hk h=>?_;refine s0 hk (aDs (aG [kl 21 25 2,(none,some 22,.call ⟨.value (.func 6),#[(.tmp 21)],#[25]⟩),(none,some 5,.alloc 35),ks' 35 5 22] fun ops l hK hk=>?_));refine sV (v:=.agg (eA k0 ls e0 e1 bi).toArray) hk h (fun _ ho=>bC (cs:=eA k0 ls e0 e1 bi) (aO f0) underlying25 rfl (by kernel_rfl) ho (sT h)) fun l a hk h=>?_;refine sc hk h rfl (by decide) (fun _ ho=>fU ho func6) (R:=fun e W1=> ∃x:Xp,e=.returned x.v/\Rx x W1/\Below W0.heap.size W0 W1) (by rw[aHe,sT h (v:=.agg (eA k0 ls e0 e1 bi).toArray)];exact hO W0 c0) (fun e W1 ⟨x,ev,R,B1⟩=>⟨_,ev,fun l a hk h=>?_⟩);have b1:Below w.heap.size w W1:=bD b0 B1 (aC4 _);have c1:Below w0.heap.size w0 W1:=bD hw b1 (aC4 _);have hl:=hl W1 c1;refine sV (v:=aYW W1.heap.size 0) hk h (fun _ ho=>oH ho (zeroValue35 W1)) fun l a hk h=>?_;refine ss (g:=none) hk h rfl (fun _ ho=>iG (b:=W1.heap.size) (off:=0) (cs:=x.l) (show World.there _ _ 0 36 from aX (dN (W:=W1) (el:=35) zE).2.2.2.1) (by kernel_rfl) (DK x) ho (sT h) (sT h)) (fun l hk=>?_);have AZ:=aTZ (cs:=x.l) rfl W1;change wpListIn _ _ _ _ _ _ _ (ez W1 x.l);generalize ez W1 x.l=W2 at AZ ⊢;obtain⟨p5,hp5⟩: ∃p,p=W1.heap.size:=⟨_,rfl⟩;rw[<-hp5]at AZ h;have f:=AZ.2.2.2.1;have r2:Below W1.heap.size W1 W2:=dZ AZ;have b2:Below w.heap.size w W2:=bD b1 r2 (aC4 _);refine s0 hk ?_;refine aDs (aNo (m:=m) R r2 f (aN h) fun a W3 ad B hA h=>?_);have f:dA W3 p5 35 x.l:=aT f (B.block p5 (aS f));have r3:Below W1.heap.size W1 W3:=bD r2 B (aC4 _);have b3:Below w.heap.size w W3:=bD b2 B (aC4 _);refine aDs (aNn R r3 f h fun a W4 bd cp B hB h=>?_);have f:dA W4 p5 35 x.l:=aT f (B.block p5 (aS f));have r4:Below W1.heap.size W1 W4:=bD r3 B (aC4 _);have b4:Below w.heap.size w W4:=bD b3 B (aC4 _);have hA:=hA.later B.size B.block;refine aDs (aNm R r4 f h fun a W5 B h=>?_);have f:dA W5 p5 35 x.l:=aT f (B.block p5 (aS f));have r5:Below W1.heap.size W1 W5:=bD r4 B (aC4 _);have b5:Below w.heap.size w W5:=bD b4 B (aC4 _);have hA:=hA.later B.size B.block;have hB:=hB.later B.size B.block;refine aDs (aDs (aNl R r5 f hA hB h fun a W6 B h=>?_));have f:dA W6 p5 35 x.l:=aT f (B.block p5 (aS f));have r6:Below W1.heap.size W1 W6:=bD r5 B (aC4 _);have b6:Below w.heap.size w W6:=bD b5 B (aC4 _);have hB:=hB.later B.size B.block;refine aNZ (sT h) (aJt (aDs (aG [kc 11 (.bool true)] fun ops l hK hk=>?_)));refine aC hk h fun l a hk h=>?_;refine s0 hk (aDs (aNk (m:=m) (p5:=p5) (ad:=ad) (cp:=cp) R hB (aN h) fun a h=>?_));refine aDs (aJL R r6 f h fun a W7 B h=>?_);have f:dA W7 p5 35 x.l:=aT f (B.block p5 (aS f));have r7:Below W1.heap.size W1 W7:=bD r6 B (aC4 _);have b7:Below w.heap.size w W7:=bD b6 B (aC4 _);refine aDs (aDs (aJK h fun a h=>?_));refine cZ (t:= !decide (1<=m/\m<=3)) h (by simp) (fun c=>?_) (fun c=>aJt ?_)
 . have e9:mE m=9:=by unfold mE;rw[aEg (fun hh=>by rw[aDx hh]at c;cases c)]
   rw[e9,aEg (by decide)]at h;refine aDs (aJJ (x:=x) hl r7 (aN h) fun a W8 B h=>?_);refine aMu ?_;exact fF (R:=fun r w'=>r=.returned (.bool true)/\Below w.heap.size w w') (i:=4) (v:=.bool true) h results3 (by simp) ⟨rfl,bD b7 B (aC4 _)⟩
 have hm:1<=m/\m<=3:=aT7 fun hh=>by rw[aBW hh]at c;cases c
 have e0:mE m=0:=by unfold mE;rw[aEo hm]
 rw[e0,aEo rfl]at h;show(Code.seq (.seq aFK (.cond (.tmp 116) (.seq aLL .ret) .skip)) (.seq aFJ (.seq aFI (.seq aFH (.seq aFG .ret))))).wpIn _ _ _ _ _ _;refine aDs (aDs (aJI R r7 f hm.1 hm.2 (aN h) fun a W8 B h=>?_));have f:dA W8 p5 35 x.l:=aT f (B.block p5 (aS f));have r8:Below W1.heap.size W1 W8:=bD r7 B (aC4 _);have b8:Below w.heap.size w W8:=bD b7 B (aC4 _);refine aNZ (sT h) (aJt ?_);refine aDs (aJH (p5:=p5) R r8 f (aN h) fun a W9 B h=>?_);have f:dA W9 p5 35 x.l:=aT f (B.block p5 (aS f));have r9:Below W1.heap.size W1 W9:=bD r8 B (aC4 _);have b9:Below w.heap.size w W9:=bD b8 B (aC4 _);refine aDs (aJG R r9 f h fun a W10 B h=>?_);have f:dA W10 p5 35 x.l:=aT f (B.block p5 (aS f));have r10:Below W1.heap.size W1 W10:=bD r9 B (aC4 _);have b10:Below w.heap.size w W10:=bD b9 B (aC4 _);refine aDs (aJF R r10 f h fun a W11 B h=>?_);have f:dA W11 p5 35 x.l:=aT f (B.block p5 (aS f));have r11:Below W1.heap.size W1 W11:=bD r10 B (aC4 _);have b11:Below w.heap.size w W11:=bD b10 B (aC4 _);refine aDs (aJE (p5:=p5) R hl r11 h fun a W12 B h=>?_);refine aMu ?_;exact fF (R:=fun r w'=>r=.returned (.bool true)/\Below w.heap.size w w') (i:=4) (v:=.bool true) h results3 (by simp) ⟨rfl,bD b11 B (aC4 _)⟩
end
section
open Go.RowKit Go.Lib
theorem aHw:oZ prog 25 0=some 0:=by kernel_rfl
theorem aOh:oZ prog 25 1=some 1:=by kernel_rfl
theorem aHv:oZ prog 25 2=some 2:=by kernel_rfl
theorem aHu:oZ prog 25 3=some 4:=by kernel_rfl
theorem TR:oZ prog 71 0=some 0:=by kernel_rfl
theorem aHq:oZ prog 71 2=some 11:=by kernel_rfl
theorem aR7:aYV prog 22=true:=by kernel_rfl
theorem vJ:prog.underlying 22=some (.slice 71):=by kernel_rfl
theorem LZ:(prog.info? 71).map (·.size)=some 21:=by kernel_rfl
theorem aG7:(prog.info? 79).map (·.size)=some 21:=by kernel_rfl
theorem aSy:(prog.info? 5).map (·.size)=some 1:=by kernel_rfl
abbrev Dd0:Dd:=⟨0,false,0,0,0,0,0,0,0,0⟩
abbrev gX:Iz:=⟨Dd0,0,Dd0⟩
section
variable{P:Program}{W:World}{a:Act}{o:Oper}{t yt:TypeId}{x y:Operand}
theorem aRB{m m':Int}(ho:o.op=.call ⟨.builtin .min,#[x,y],#[3,3]⟩)(hx:a.eval x=.int .i64 m)(hy:a.eval y=.int .i64 m'):(execOp a.eval o).run P W=.ok (.value (.int .i64 (min m m'))) W:=by
 have hx':(#[x,y]:Array Operand).map a.eval= #[.int .i64 m,.int .i64 m']:=by simp[hx,hy]
 unfold execOp;simp only[ho,resolve,hx',aDt,aD0,aBF,invoke];simp[builtin,run_min_ints]
theorem aFv{el:TypeId}{s:Option Addr}{n k c:Nat}(hu:P.underlying t=some (.slice el))(hi:(P.info? el).isSome=true)(hk:k<=c)(hs:s.map (·.add 0)=s)(ho:o.op=.slice t x none (some y) none)(hx:a.eval x=.slice s n c)(hy:a.eval y=.int .i64 k):
 (execOp a.eval o).run P W=.ok (.value (.slice s k c)) W:=by
 obtain⟨i,hi⟩:=aO1.1 hi;unfold execOp;simp[ho,hx,hy,Instr.sliceAt,Instr.slice,aEG hu,Instr.sliceBounds,Instr.sliceBound,asIntOf,sizeOf,typeInfo,hi,hk];intro _;exact hs
theorem aBY(k:Nat){m:Nat}(hk:k≠0)(ho:o.op=.binOp .rem t x (.const (.int .u8 k)) yt)(hx:a.eval x=.int .u8 (m:Int)):(execOp a.eval o).run P W=.ok (.value (.int .u8 ((m % k:Nat):Int))) W:=by
 refine nM ho hx rfl ?_;simp[eqGuard,binOp,go_sem,hk];exact Int.tmod_eq_emod_of_nonneg (by omega)
end
theorem aTP(W:World):(Instr.build 71 #[]).run prog W=.ok (.agg gX.l.toArray) W:=by kernel_rfl
theorem aJA{W:World}{a:Act}{o:Oper}(ho:o.op=.build 71 #[]):(execOp a.eval o).run prog W=.ok (.value (.agg gX.l.toArray)) W:=by
 have h:(#[]:Array (Nat × Operand)).map (fun p=>(p.1,a.eval p.2))= #[]:=by simp
 unfold execOp;simp only[ho,aDt,aD0];rw[h,aTP];rfl
theorem aXu(W:World):(Instr.buildSlice 22 1 #[(0,.agg gX.l.toArray)]).run prog W=.ok (.slice (some ⟨W.heap.size,0,none⟩) 1 1) (W.alloc (.cells gX.l.toArray 71)):=by kernel_rfl
theorem aNi{W:World}{a:Act}{o:Oper}{x:Operand}(ho:o.op=.buildSlice 22 1 #[(0,x)])(hx:a.eval x=.agg gX.l.toArray):
 (execOp a.eval o).run prog W=.ok (.value (.slice (some ⟨W.heap.size,0,none⟩) 1 1)) (W.alloc (.cells gX.l.toArray 71)):=by
 have h:(#[(0,x)]:Array (Nat × Operand)).map (fun p=>(p.1,a.eval p.2))= #[(0,.agg gX.l.toArray)]:=by simp[hx]
 unfold execOp;simp only[ho,aDt,aD0];rw[h,aXu];rfl
theorem aTM(W:World)(i:lK):(Instr.buildSlice 33 1 #[(0,.agg i.l.toArray)]).run prog W=.ok (.slice (some ⟨W.heap.size,0,none⟩) 1 1) (W.alloc (.cells i.l.toArray 79)):=by kernel_rfl
theorem aNh{W:World}{a:Act}{o:Oper}{x:Operand}{i:lK}(ho:o.op=.buildSlice 33 1 #[(0,x)])(hx:a.eval x=.agg i.l.toArray):
 (execOp a.eval o).run prog W=.ok (.value (.slice (some ⟨W.heap.size,0,none⟩) 1 1)) (W.alloc (.cells i.l.toArray 79)):=by
 have h:(#[(0,x)]:Array (Nat × Operand)).map (fun p=>(p.1,a.eval p.2))= #[(0,.agg i.l.toArray)]:=by simp[hx]
 unfold execOp;simp only[ho,aDt,aD0];rw[h,aTM];rfl
theorem evC(a:Act)(v:Value):a.eval (.const v)=v:=rfl
theorem aOL(W:World)(d:Dt):(Instr.build 35 #[(0,.int .u8 1),(1,dP d)]).run prog W=.ok (exV 1 d 0 z0 0 z0 (.slice none 0 0) false false) W:=by kernel_rfl
theorem aFD{W:World}{a:Act}{o:Oper}{x:Operand}{d:Dt}(ho:o.op=.build 35 #[(0,(.const (.int .u8 1))),(1,x)])(hx:a.eval x=dP d):(execOp a.eval o).run prog W=.ok (.value (exV 1 d 0 z0 0 z0 (.slice none 0 0) false false)) W:=by
 have h:(#[(0,(.const (.int .u8 1))),(1,x)]:Array (Nat × Operand)).map (fun p=>(p.1,a.eval p.2))= #[(0,.int .u8 1),(1,dP d)]:=by simp[hx,evC]
 unfold execOp;simp only[ho,aDt,aD0];rw[h,aOL];rfl
theorem aOM(W:World)(fk tk:Int)(f t:Dt):(Instr.build 35 #[(0,.int .u8 2),(2,rE fk f),(3,rE tk t)]).run prog W=.ok (exV 2 z0 fk f tk t (.slice none 0 0) false false) W:=by kernel_rfl
theorem aFE{W:World}{a:Act}{o:Oper}{x y:Operand}{fk tk:Int}{f t:Dt}(ho:o.op=.build 35 #[(0,(.const (.int .u8 2))),(2,x),(3,y)])(hx:a.eval x=rE fk f)(hy:a.eval y=rE tk t):(execOp a.eval o).run prog W=.ok (.value (exV 2 z0 fk f tk t (.slice none 0 0) false false)) W:=by
 have h:(#[(0,(.const (.int .u8 2))),(2,x),(3,y)]:Array (Nat × Operand)).map (fun p=>(p.1,a.eval p.2))= #[(0,.int .u8 2),(2,rE fk f),(3,rE tk t)]:=by simp[hx,hy,evC]
 unfold execOp;simp only[ho,aDt,aD0];rw[h,aOM];rfl
theorem aOK(W:World)(ey lt:Bool):(Instr.build 35 #[(0,.int .u8 3),(5,.bool ey),(6,.bool lt)]).run prog W=.ok (exV 3 z0 0 z0 0 z0 (.slice none 0 0) ey lt) W:=by kernel_rfl
theorem aFC{W:World}{a:Act}{o:Oper}{x y:Operand}{ey lt:Bool}(ho:o.op=.build 35 #[(0,(.const (.int .u8 3))),(5,x),(6,y)])(hx:a.eval x=.bool ey)(hy:a.eval y=.bool lt):(execOp a.eval o).run prog W=.ok (.value (exV 3 z0 0 z0 0 z0 (.slice none 0 0) ey lt)) W:=by
 have h:(#[(0,(.const (.int .u8 3))),(5,x),(6,y)]:Array (Nat × Operand)).map (fun p=>(p.1,a.eval p.2))= #[(0,.int .u8 3),(5,.bool ey),(6,.bool lt)]:=by simp[hx,hy,evC]
 unfold execOp;simp only[ho,aDt,aD0];rw[h,aOK];rfl
theorem aTR(W:World)(d:Dt):(Instr.build 32 #[(0,.int .u8 1),(1,dP d)]).run prog W=.ok (rE 1 d) W:=by kernel_rfl
theorem aJB{W:World}{a:Act}{o:Oper}{x:Operand}{d:Dt}(ho:o.op=.build 32 #[(0,(.const (.int .u8 1))),(1,x)])(hx:a.eval x=dP d):(execOp a.eval o).run prog W=.ok (.value (rE 1 d)) W:=by
 have h:(#[(0,(.const (.int .u8 1))),(1,x)]:Array (Nat × Operand)).map (fun p=>(p.1,a.eval p.2))= #[(0,.int .u8 1),(1,dP d)]:=by simp[hx,evC]
 unfold execOp;simp only[ho,aDt,aD0];rw[h,aTR];rfl
theorem aTN(W:World)(d:Dt):(Instr.build 79 #[(0,dP d)]).run prog W=.ok (lK.v (d,false,z0)) W:=by kernel_rfl
theorem aB1{W:World}{a:Act}{o:Oper}{x:Operand}{d:Dt}(ho:o.op=.build 79 #[(0,x)])(hx:a.eval x=dP d):(execOp a.eval o).run prog W=.ok (.value (lK.v (d,false,z0))) W:=by
 have h:(#[(0,x)]:Array (Nat × Operand)).map (fun p=>(p.1,a.eval p.2))= #[(0,dP d)]:=by simp[hx]
 unfold execOp;simp only[ho,aDt,aD0];rw[h,aTN];rfl
theorem aTO(W:World)(k:Int)(D:Dd):(Instr.build 74 #[(0,.int .u8 k),(1,D.v)]).run prog W=.ok (.agg (.int .u8 k::D.l).toArray) W:=by kernel_rfl
theorem aB2{W:World}{a:Act}{o:Oper}{x y:Operand}{k:Int}{D:Dd}(ho:o.op=.build 74 #[(0,x),(1,y)])(hx:a.eval x=.int .u8 k)(hy:a.eval y=D.v):(execOp a.eval o).run prog W=.ok (.value (.agg (.int .u8 k::D.l).toArray)) W:=by
 have h:(#[(0,x),(1,y)]:Array (Nat × Operand)).map (fun p=>(p.1,a.eval p.2))= #[(0,.int .u8 k),(1,D.v)]:=by simp[hx,hy]
 unfold execOp;simp only[ho,aDt,aD0];rw[h,aTO];rfl
def N8(vs:List Value)(k:Nat):List Value->List Value
 |[]=>vs
 |u::us=>N8 (vs.set k u) (k+1) us
theorem VO: ∀(us vs:List Value) (k:Nat),(N8 vs k us).length=vs.length
 |[],_,_=>rfl
 |u::us,vs,k=>by rw[N8,VO us,aWn]
theorem J6: ∀(us vs:List Value) (k j:Nat),(j<k\/k+us.length<=j)->(N8 vs k us)[j]? =vs[j]?
 |[],_,_,_,_=>rfl
 |u::us,vs,k,j,h=>by
  have hl:(u::us).length=us.length+1:=rfl;rw[N8,J6 us _ _ j (by omega),aT6 (by omega)]
theorem aBS: ∀(us vs:List Value) (k i:Nat) (u:Value),us[i]? =some u->k+us.length<=vs.length->(N8 vs k us)[k+i]? =some u
 |[],_,_,_,_,h,_=>by simp at h
 |v::us,vs,k,i,u,h,hl=>by
  have hn:(v::us).length=us.length+1:=rfl;rw[N8];cases i with
  |zero=>show(N8 (vs.set k v) (k+1) us)[k]? =some u;rw[J6 us (vs.set k v) (k+1) k (.inl (by omega)),aVD (by omega)];simpa using h
  |succ i=>rw[show k+(i+1)=(k+1)+i by omega];exact aBS us _ _ i u (by simpa using h) (by rw[aWn];omega)
theorem YD{p:Nat}{el:TypeId}: ∀(us vs:List Value) (k:Nat) {w:World},dA w p el vs->dA (w.setCells p k us) p el (N8 vs k us)
 |[],_,_,_,h=>h
 |u::us,vs,k,w,h=>YD us (vs.set k u) (k+1) (jC h k u)
theorem MH{w:World}{p:Nat}{el:TypeId}{vs:List Value}(h:dA w p el vs){k n:Nat}(hk:k+n<=vs.length):w.there p k n:=fun j hj=>by
 have:=aX h (k+j) (by omega);rwa[aHG]at this
theorem IZ(i:lK): ∀v ∈ i.l,v.oneCell'=true:=by
 intro v hv;simp only[lK.l,UZ,aLr,aSU,aXj]at hv;rcases hv with rfl|rfl|rfl|rfl|rfl|rfl|rfl|rfl|rfl|rfl|rfl|rfl|rfl|rfl|rfl|rfl|rfl|rfl|rfl|rfl|rfl<;>rfl
def Row(W:World)(g:Nat)(L:List lK):Prop:= ∃cs,dA W g 79 cs/\L.length * 21<=cs.length/\ ∀i,i<L.length-> ∀j v,(L.getD i bQ).l[j]? =some v->cs[i * 21+j]? =some v
theorem aJv{W:World}{g:Nat}{L:List lK}(h:Row W g L):gW W (some ⟨g,0,none⟩) L:=fun i hi=>by
 obtain⟨cs,f,hl,hc⟩:=h;exact⟨g,0,rfl,aS f,fun j v hv=>by rw[aHG];exact aI f (hc i hi j v hv)⟩
theorem aBV{W:World}{g:Nat}{L:List lK}(h:Row W g L){k:Nat}(hk:k<L.length)(x:lK):Row (W.setCells g (k * 21) x.l) g (L.set k x):=by
 obtain⟨cs,f,hl,hc⟩:=h;have h21:x.l.length=21:=rfl;refine⟨N8 cs (k * 21) x.l,YD _ _ _ f,by rw[aWn,VO];exact hl,fun i hi j v hv=>?_⟩;rw[aWn]at hi;by_cases e:i=k
 . subst e;rw[show (L.set i x).getD i bQ=x by simp[List.getD,hk]]at hv;exact aBS _ _ _ _ _ hv (by rw[h21];omega)
 rw[show (L.set k x).getD i bQ=L.getD i bQ by simp[List.getD,aT6 (aPu e)]]at hv;have hj:j<21:=(aED.1 hv).1;rw[J6 _ _ _ _ (by rw[h21];omega)];exact hc i hi j v hv
theorem BR{W W1:World}{g:Nat}{L:List lK}(h:Row W g L)(e:W1.heap[g]? =W.heap[g]?):Row W1 g L:=by
 obtain⟨cs,f,r⟩:=h;exact⟨cs,aT f e,r⟩
theorem aYY{W:World}{n1:Nat}{v:Value}{L:List lK}(h:W.ownsRow n1 79 21 v L.length (itc L L.length))(hn:0<L.length): ∃g c,v=.slice (some ⟨g,0,none⟩) L.length c/\n1<=g/\Row W g L:=by
 rcases h.2 with⟨rfl,e⟩|⟨g,cap,cur,rfl,h1,h2,h3,h4,h5,h6⟩
 . omega
 have hlen:L.length * 21<=cur.size:=by rw[h5];exact Nat.mul_le_mul_right _ h3
 refine⟨g,cap,rfl,h1,cur.toList,⟨cur,(0,0),h2,fun i hi=>by simp,rfl⟩,by simpa using hlen,fun i hi j u hu=>?_⟩;have hu:=aNW L hi hu;rw[<-h6,aPh]at hu;split at hu
 . exact hu
 cases hu
def rF(w:World)(bs:Option Addr)(L:List Iz):Prop:= ∀i,i<L.length-> ∃g o,bs=some ⟨g,o,none⟩/\g<w.heap.size/\w.rangeAt g (o+i * 21) (L.getD i gX).l
theorem rF.keep{w W:World}{bs:Option Addr}{L:List Iz}(h:rF w bs L)(hb:Below w.heap.size w W):rF W bs L:=fun i hi=>by
 obtain⟨g,o,e,hg,hr⟩:=h i hi;exact⟨g,o,e,by have:=hb.size;omega,fun j v hv=>(hb.cell (p:=⟨g,_,none⟩) hg).trans (hr j v hv)⟩
theorem rF.take{w:World}{bs:Option Addr}{L:List Iz}(h:rF w bs L)(k:Nat):rF w bs (L.take k):=fun i hi=>by
 have h2:i<L.length/\i<k:=by rw[aUv]at hi;omega
 obtain⟨g,o,e,hg,hr⟩:=h i h2.1;refine⟨g,o,e,hg,?_⟩;rw[show (L.take k).getD i gX=L.getD i gX by simp[List.getD,h2.2]];exact hr
noncomputable def eiC:Code:=match(f63).body with
 |some c=>c
 |none=>.skip
theorem aWT:eiC=(.seq (bF [0] eiC) (.seq (bF [1,0] eiC) (.seq (.seq (bF [1,1,0,0] eiC) (.block 0 (.loop (.seq (bF [1,1,0,1,0,0,0] eiC) (.seq (.cond (.tmp 16) .skip (.exit 0)) (.seq (.block 1 (.seq (bF [1,1,0,1,0,0,1,1,0,0,0] eiC) (.seq (bF [1,1,0,1,0,0,1,1,0,0,1,0] eiC) (.seq (bF [1,1,0,1,0,0,1,1,0,0,1,1,0] eiC) (.cond (.tmp 35) (.seq (bF [1,1,0,1,0,0,1,1,0,0,1,1,1,0,0] eiC) .ret) .skip))))) (bF [1,1,0,1,0,0,1,1,1] eiC))))))) (.seq (bF [1,1,1,0] eiC) .ret)))):=by kernel_rfl
noncomputable def efC:Code:=match(f102).body with
 |some c=>c
 |none=>.skip
theorem aWU:efC=(.seq (bF [0] efC) (.seq (.seq (bF [1,0,0] efC) (.block 0 (.loop (.seq (bF [1,0,1,0,0,0] efC) (.seq (.cond (.tmp 8) .skip (.exit 0)) (.seq (.block 1 (.seq (bF [1,0,1,0,0,1,1,0,0,0] efC) (.seq (bF [1,0,1,0,0,1,1,0,0,1,0] efC) (.cond (.tmp 13) (.seq (bF [1,0,1,0,0,1,1,0,0,1,1,0,0] efC) .ret) .skip)))) (bF [1,0,1,0,0,1,1,1] efC))))))) (.seq (bF [1,1,0] efC) .ret))):=by kernel_rfl
noncomputable def eaC:Code:=match(f104).body with
 |some c=>c
 |none=>.skip
theorem aWZ:eaC=(.seq (bF [0] eaC) (.seq (bF [1,0] eaC) .ret)):=by kernel_rfl
noncomputable def ebC:Code:=match(f105).body with
 |some c=>c
 |none=>.skip
theorem aWY:ebC=(.seq (bF [0] ebC) (.seq (bF [1,0] ebC) .ret)):=by kernel_rfl
noncomputable def ecC:Code:=match(f107).body with
 |some c=>c
 |none=>.skip
theorem aWX:ecC=(.seq (bF [0] ecC) (.seq (bF [1,0] ecC) .ret)):=by kernel_rfl
noncomputable def edC:Code:=match(f108).body with
 |some c=>c
 |none=>.skip
theorem aWV:edC=(.seq (bF [0] edC) (.seq (bF [1,0] edC) .ret)):=by kernel_rfl
theorem fE5:oZ prog 35 5=some 34:=by kernel_rfl
theorem fE6:oZ prog 35 6=some 35:=by kernel_rfl
theorem aKT:oZ prog 183 1=some 1:=by kernel_rfl
theorem aR6:aYV prog 50=true:=by kernel_rfl
abbrev z183:List Value:=[.int .i64 0,.nilFunc]
theorem zero183(W:World):(zeroValue 183).run prog W=.ok (.agg z183.toArray) W:=by kernel_rfl
theorem zero3(W:World):(zeroValue 3).run prog W=.ok (.int .i64 0) W:=by kernel_rfl
theorem zero79(W:World):(zeroValue 79).run prog W=.ok (.agg bQ.l.toArray) W:=by kernel_rfl
section
variable{P:Program}{W:World}{a:Act}{o:Oper}
theorem aCL{P:Program}{f:FuncId}{fn:Func}(hf:P.funcs[f]? =some fn)(hb:(fn.body.isSome&& !(fn.name== "runtime.NumGoroutine"))=true:=by kernel_rfl)(args:Array Value)(w':World):(callFunc f args).run P w'=.ok (.enter f args) w':=by
 obtain⟨h1,h2⟩:=(aEb _ _).mp hb;obtain⟨c,hc⟩:=aO1.1 h1;have h3:fn.name≠ "runtime.NumGoroutine" :=by simpa using h2
 simp[callFunc,hf,h3,hc]
theorem IV{f:FuncId}{xs:Array Operand}{vs:Array Value}(ho:o.op=.makeFunc (.func f) #[] xs)(hx:xs.map a.eval=vs):(execOp a.eval o).run P W=.ok (.value (.func (.func f) #[] vs)) W:=by
 subst hx;unfold execOp;simp[ho,go_sem]
theorem BX{x y:Operand}{e:Int}{f:FuncId}{c:Array Value}(ho:o.op=.build 183 #[(0,x),(1,y)])(hx:a.eval x=.int .i64 e)(hy:a.eval y=.func (.func f) #[] c):(execOp a.eval o).run prog W=.ok (.value (.agg #[.int .i64 e,.func (.func f) #[] c])) W:=by
 have h:(#[(0,x),(1,y)]:Array (Nat × Operand)).map (fun p=>(p.1,a.eval p.2))= #[(0,.int .i64 e),(1,.func (.func f) #[] c)]:=by simp[hx,hy]
 have b: ∀(e:Int) (f:FuncId) (c:Array Value),(Instr.build 183 #[(0,.int .i64 e),(1,.func (.func f) #[] c)]).run prog W=.ok (.agg #[.int .i64 e,.func (.func f) #[] c]) W:=fun e f c=>by kernel_rfl
 unfold execOp;simp only[ho,aDt,aD0];rw[h,b];rfl
theorem aJz{x y z u:Operand}{e0 e1 e2 e3:Int}{f0 f1 f2 f3:FuncId}{c0 c1 c2 c3:Array Value}(ho:o.op=.buildSlice 226 4 #[(0,x),(1,y),(2,z),(3,u)])(hx:a.eval x=.agg #[.int .i64 e0,.func (.func f0) #[] c0])(hy:a.eval y=.agg #[.int .i64 e1,.func (.func f1) #[] c1])(hz:a.eval z=.agg #[.int .i64 e2,.func (.func f2) #[] c2])(hu:a.eval u=.agg #[.int .i64 e3,.func (.func f3) #[] c3]):
 (execOp a.eval o).run prog W=.ok (.value (.slice (some ⟨W.heap.size,0,none⟩) 4 4)) (W.alloc (.cells #[.int .i64 e0,.func (.func f0) #[] c0,.int .i64 e1,.func (.func f1) #[] c1,.int .i64 e2,.func (.func f2) #[] c2,.int .i64 e3,.func (.func f3) #[] c3] 183)):=by
 have h:(#[(0,x),(1,y),(2,z),(3,u)]:Array (Nat × Operand)).map (fun p=>(p.1,a.eval p.2))= #[(0,.agg #[.int .i64 e0,.func (.func f0) #[] c0]),(1,.agg #[.int .i64 e1,.func (.func f1) #[] c1]),(2,.agg #[.int .i64 e2,.func (.func f2) #[] c2]),(3,.agg #[.int .i64 e3,.func (.func f3) #[] c3])]:=by simp[hx,hy,hz,hu]
 have b:(Instr.buildSlice 226 4 #[(0,.agg #[.int .i64 e0,.func (.func f0) #[] c0]),(1,.agg #[.int .i64 e1,.func (.func f1) #[] c1]),(2,.agg #[.int .i64 e2,.func (.func f2) #[] c2]),(3,.agg #[.int .i64 e3,.func (.func f3) #[] c3])]).run prog W=.ok (.slice (some ⟨W.heap.size,0,none⟩) 4 4) (W.alloc (.cells #[.int .i64 e0,.func (.func f0) #[] c0,.int .i64 e1,.func (.func f1) #[] c1,.int .i64 e2,.func (.func f2) #[] c2,.int .i64 e3,.func (.func f3) #[] c3] 183)):=by kernel_rfl
 unfold execOp;simp only[ho,aDt,aD0];rw[h,b];rfl
end
abbrev fv(f:FuncId)(c:Array Value):Value:=.func (.func f) #[] c
abbrev eCL(pe pl pi px:Nat):List Value:=[.int .i64 0,fv 104 #[aYW px 0,aYW pe 0],.int .i64 10,fv 105 #[aYW pe 0,aYW pi 0,aYW px 0],.int .i64 10,fv 107 #[aYW pe 0,aYW pi 0,aYW pl 0,aYW px 0],.int .i64 10,fv 108 #[aYW pe 0,aYW pl 0]]
section
variable{x:Xp}{it:lK}{W:World}{pe pl pi px:Nat}{i last:Int}
theorem aTb(fx:dA W px 79 it.l)(fe:dA W pe 35 x.l)(H:Same W 103 #[it.v,.int .u8 x.kd] (.int .i64 0)):Calls prog 104 #[aYW px 0,aYW pe 0] W fun e W1=>e=.returned (.bool false)/\Below W.heap.size W W1:=by
 refine(aMd (n:=0)).1 ?_;refine fM (args:=[aYW px 0,aYW pe 0]) (N:=8) func104 (show _=some eaC by kernel_rfl) ntmps104 (by simp) fun a h=>?_;rw[aWZ];refine aDs (aG [kc 2 (.bool false)] fun ops l hK hk=>?_);refine aC hk h fun l a hk h=>?_;refine s0 hk (aDs (aG [kl 3 79 0,kf 4 35 1 0,kl 5 5 4,(none,some 6,.call ⟨.value (.func 103),#[(.tmp 3),(.tmp 5)],#[79,5]⟩),(none,some 7,.binOp .neq 38 (.tmp 6) (.const (.int .i64 0)) 38),ka 2 7] fun ops l hK hk=>?_));refine sV (v:=it.v) hk h (fun _ ho=>bC (aO fx) underlying79 rfl (by kernel_rfl) ho (sT h)) fun l a hk h=>
 sV (v:=aYW pe (0+0)) hk h (fun _ ho=>aJ (b:=pe) (o':=0) sJ ho (sT h)) fun l a hk h=>
 lV lY (v:=.int .u8 x.kd) hk h (aI (j:=0+0) fe rfl) fun l a hk h=>?_
 refine sc hk h rfl (by decide) (fun _ ho=>fU ho func103) (R:=fun e w'=>e=.returned (.int .i64 0)/\Below W.heap.size W w') (by rw[tJ,sT h (k:=3) (v:=it.v),sT h (k:=5) (v:=.int .u8 x.kd)];exact H W (aDA _ _)) (fun e W1 hR=>⟨_,hR.1,fun l a hk h=>?_⟩);refine sV (v:=.bool false) hk h (fun _ ho=>qM (q:=.i64) (m:=0) (m':=0) rfl ho (sT h) rfl) fun l a hk h=>
 aV (v:=.bool false) hk h fun l a hk h=>?_
 refine s0 hk (aMu ?_);exact fF (R:=fun e W1=>e=.returned (.bool false)/\Below W.heap.size W W1) (i:=2) (v:=.bool false) h results104 (by simp) ⟨rfl,hR.2⟩
theorem aTa (fx:dA W px 79 it.l)(fe:dA W pe 35 x.l)(fi:dA W pi 3 [.int .i64 i])(H:x.ey=true->i=0->Same W 106 #[it.v] (.bool true)):Calls prog 105 #[aYW pe 0,aYW pi 0,aYW px 0] W fun e W1=>e=.returned (.bool false)/\Below W.heap.size W W1:=by
 refine(aMd (n:=0)).1 ?_;refine fM (args:=[aYW pe 0,aYW pi 0,aYW px 0]) (N:=15) func105 (show _=some ebC by kernel_rfl) ntmps105 (by simp) fun a h=>?_;rw[aWY];refine aDs (aG [kc 3 (.bool false)] fun ops l hK hk=>?_);refine aC hk h fun l a hk h=>?_;refine s0 hk (aDs (aG [kf 4 35 0 5,kl 5 4 4,km 6 5,kg 2 true (kl 7 3 1),(some (2,true),some 8,.binOp .eql 3 (.tmp 7) (.const (.int .i64 0)) 3),(none,some 9,.pick (.tmp 6) (.tmp 8) (.const (.bool false))),km 10 9,kg 6 true (kl 11 79 2),(some (6,true),some 12,.call ⟨.value (.func 106),#[(.tmp 11)],#[79]⟩),(some (6,true),some 13,.unOp .not 4 (.tmp 12)),(none,some 14,.pick (.tmp 10) (.tmp 13) (.const (.bool false))),ka 3 14] fun ops l hK hk=>?_));refine sV (v:=aYW pe (0+34)) hk h (fun _ ho=>aJ (b:=pe) (o':=0) fE5 ho (sT h)) fun l a hk h=>
 lV OH (v:=.bool x.ey) hk h (aI (j:=0+34) fe rfl) fun l a hk h=>
 mV (v:=.bool x.ey) hk h fun l a hk h=>?_
 cases hf:x.ey
 . rw[hf]at h;refine sX hK hk h 6 fun l a hk h=>
   sX hK hk h 6 fun l a hk h=>
   sV (v:=.bool false) hk h (fun _ ho=>dI ho (sT h) rfl) fun l a hk h=>
   mV (v:=.bool false) hk h fun l a hk h=>
   sX hK hk h 10 fun l a hk h=>
   sX hK hk h 10 fun l a hk h=>
   sX hK hk h 10 fun l a hk h=>?_
   refine sV (v:=.bool false) hk h (fun _ ho=>dI ho (sT h) rfl) fun l a hk h=>
   aV (v:=.bool false) hk h fun l a hk h=>?_
   refine s0 hk (aMu ?_);exact fF (R:=fun e W1=>e=.returned (.bool false)/\Below W.heap.size W W1) (i:=3) (v:=.bool false) h results105 (by simp) ⟨rfl,aDA _ _⟩
 rw[hf]at h;refine sG (v:=.int .i64 i) hK hk h 6 (fun _ ho=>gK (b:=pi) (off:=0) aDJ ho (sT h) (aI (j:=0) fi rfl)) fun l a hk h=>
 sG (v:=.bool (decide (i=0))) hK hk h 6 (fun _ ho=>jE (q:=.i64) ho (sT h) rfl) fun l a hk h=>
 sV (v:=.bool (decide (i=0))) hk h (fun _ ho=>dR ho (sT h) (sT h)) fun l a hk h=>
 mV (v:=.bool (decide (i=0))) hk h fun l a hk h=>?_
 by_cases hc:i=0
 . rw[aDx hc]at h;refine sG (v:=it.v) hK hk h 10 (fun _ ho=>bC (aO fx) underlying79 rfl (by kernel_rfl) ho (sT h)) fun l a hk h=>?_;refine scg hK hk h (d0:=10) rfl (by simp) rfl (by decide) (fun _ ho=>fU ho func106) (R:=fun e w'=>e=.returned (.bool true)/\Below W.heap.size W w') (by rw[aHe,sT h (v:=it.v)];exact H hf hc W (aDA _ _)) (fun e W1 hR=>⟨_,hR.1,fun l a hk h=>?_⟩);refine sG (v:=.bool false) hK hk h 10 (fun _ ho=>KJ ho (sT h (v:=.bool true))) fun l a hk h=>
   sV (v:=.bool false) hk h (fun _ ho=>dR ho (sT h) (sT h)) fun l a hk h=>
   aV (v:=.bool false) hk h fun l a hk h=>?_
   refine s0 hk (aMu ?_);exact fF (R:=fun e W1=>e=.returned (.bool false)/\Below W.heap.size W W1) (i:=3) (v:=.bool false) h results105 (by simp) ⟨rfl,hR.2⟩
 rw[aBW hc]at h;refine sX hK hk h 10 fun l a hk h=>
 sX hK hk h 10 fun l a hk h=>
 sX hK hk h 10 fun l a hk h=>
 sV (v:=.bool false) hk h (fun _ ho=>dI ho (sT h) rfl) fun l a hk h=>
 aV (v:=.bool false) hk h fun l a hk h=>?_
 refine s0 hk (aMu ?_);exact fF (R:=fun e W1=>e=.returned (.bool false)/\Below W.heap.size W W1) (i:=3) (v:=.bool false) h results105 (by simp) ⟨rfl,aDA _ _⟩
theorem aS9(fl:dA W pl 3 [.int .i64 last])(fx:dA W px 79 it.l)(fe:dA W pe 35 x.l)(fi:dA W pi 3 [.int .i64 i])(H:x.lt=true->i=last->Same W 106 #[it.v] (.bool true)):Calls prog 107 #[aYW pe 0,aYW pi 0,aYW pl 0,aYW px 0] W fun e W1=>e=.returned (.bool false)/\Below W.heap.size W W1:=by
 refine(aMd (n:=0)).1 ?_;refine fM (args:=[aYW pe 0,aYW pi 0,aYW pl 0,aYW px 0]) (N:=17) func107 (show _=some ecC by kernel_rfl) ntmps107 (by simp) fun a h=>?_;rw[aWX];refine aDs (aG [kc 4 (.bool false)] fun ops l hK hk=>?_);refine aC hk h fun l a hk h=>?_;refine s0 hk (aDs (aG [kf 5 35 0 6,kl 6 4 5,km 7 6,kg 2 true (kl 8 3 1),kg 2 true (kl 9 3 2),(some (2,true),some 10,.binOp .eql 3 (.tmp 8) (.tmp 9) 3),(none,some 11,.pick (.tmp 7) (.tmp 10) (.const (.bool false))),km 12 11,kg 7 true (kl 13 79 3),(some (7,true),some 14,.call ⟨.value (.func 106),#[(.tmp 13)],#[79]⟩),(some (7,true),some 15,.unOp .not 4 (.tmp 14)),(none,some 16,.pick (.tmp 12) (.tmp 15) (.const (.bool false))),ka 4 16] fun ops l hK hk=>?_));refine sV (v:=aYW pe (0+35)) hk h (fun _ ho=>aJ (b:=pe) (o':=0) fE6 ho (sT h)) fun l a hk h=>
 lV OH (v:=.bool x.lt) hk h (aI (j:=0+35) fe rfl) fun l a hk h=>
 mV (v:=.bool x.lt) hk h fun l a hk h=>?_
 cases hf:x.lt
 . rw[hf]at h;refine sX hK hk h 7 fun l a hk h=>
   sX hK hk h 7 fun l a hk h=>
   sX hK hk h 7 fun l a hk h=>
   sV (v:=.bool false) hk h (fun _ ho=>dI ho (sT h) rfl) fun l a hk h=>
   mV (v:=.bool false) hk h fun l a hk h=>
   sX hK hk h 12 fun l a hk h=>
   sX hK hk h 12 fun l a hk h=>?_
   refine sX hK hk h 12 fun l a hk h=>
   sV (v:=.bool false) hk h (fun _ ho=>dI ho (sT h) rfl) fun l a hk h=>
   aV (v:=.bool false) hk h fun l a hk h=>?_
   refine s0 hk (aMu ?_);exact fF (R:=fun e W1=>e=.returned (.bool false)/\Below W.heap.size W W1) (i:=4) (v:=.bool false) h results107 (by simp) ⟨rfl,aDA _ _⟩
 rw[hf]at h;refine sG (v:=.int .i64 i) hK hk h 7 (fun _ ho=>gK (b:=pi) (off:=0) aDJ ho (sT h) (aI (j:=0) fi rfl)) fun l a hk h=>
 sG (v:=.int .i64 last) hK hk h 7 (fun _ ho=>gK (b:=pl) (off:=0) aDJ ho (sT h) (aI (j:=0) fl rfl)) fun l a hk h=>
 sG (v:=.bool (decide (i=last))) hK hk h 7 (fun _ ho=>jE (q:=.i64) ho (sT h) (sT h)) fun l a hk h=>
 sV (v:=.bool (decide (i=last))) hk h (fun _ ho=>dR ho (sT h) (sT h)) fun l a hk h=>
 mV (v:=.bool (decide (i=last))) hk h fun l a hk h=>?_
 by_cases hc:i=last
 . rw[aDx hc]at h;refine sG (v:=it.v) hK hk h 12 (fun _ ho=>bC (aO fx) underlying79 rfl (by kernel_rfl) ho (sT h)) fun l a hk h=>?_;refine scg hK hk h (d0:=12) rfl (by simp) rfl (by decide) (fun _ ho=>fU ho func106) (R:=fun e w'=>e=.returned (.bool true)/\Below W.heap.size W w') (by rw[aHe,sT h (v:=it.v)];exact H hf hc W (aDA _ _)) (fun e W1 hR=>⟨_,hR.1,fun l a hk h=>?_⟩);refine sG (v:=.bool false) hK hk h 12 (fun _ ho=>KJ ho (sT h (v:=.bool true))) fun l a hk h=>
   sV (v:=.bool false) hk h (fun _ ho=>dR ho (sT h) (sT h)) fun l a hk h=>
   aV (v:=.bool false) hk h fun l a hk h=>?_
   refine s0 hk (aMu ?_);exact fF (R:=fun e W1=>e=.returned (.bool false)/\Below W.heap.size W W1) (i:=4) (v:=.bool false) h results107 (by simp) ⟨rfl,hR.2⟩
 rw[aBW hc]at h;refine sX hK hk h 12 fun l a hk h=>
 sX hK hk h 12 fun l a hk h=>
 sX hK hk h 12 fun l a hk h=>
 sV (v:=.bool false) hk h (fun _ ho=>dI ho (sT h) rfl) fun l a hk h=>
 aV (v:=.bool false) hk h fun l a hk h=>?_
 refine s0 hk (aMu ?_);exact fF (R:=fun e W1=>e=.returned (.bool false)/\Below W.heap.size W W1) (i:=4) (v:=.bool false) h results107 (by simp) ⟨rfl,aDA _ _⟩
theorem aS8(fl:dA W pl 3 [.int .i64 last])(fe:dA W pe 35 x.l)(H:x.ey=true->x.lt=true->last≠0):Calls prog 108 #[aYW pe 0,aYW pl 0] W fun e W1=>e=.returned (.bool false)/\Below W.heap.size W W1:=by
 refine(aMd (n:=0)).1 ?_;refine fM (args:=[aYW pe 0,aYW pl 0]) (N:=13) func108 (show _=some edC by kernel_rfl) ntmps108 (by simp) fun a h=>?_;rw[aWV];refine aDs (aG [kc 2 (.bool false)] fun ops l hK hk=>?_);refine aC hk h fun l a hk h=>?_;refine s0 hk (aDs (aG [kf 3 35 0 5,kl 4 4 3,km 5 4,kg 2 true (kf 6 35 0 6),kg 2 true (kl 7 4 6),(none,some 8,.pick (.tmp 5) (.tmp 7) (.const (.bool false))),km 9 8,kg 6 true (kl 10 3 1),(some (6,true),some 11,.binOp .eql 3 (.tmp 10) (.const (.int .i64 0)) 3),(none,some 12,.pick (.tmp 9) (.tmp 11) (.const (.bool false))),ka 2 12] fun ops l hK hk=>?_));refine sV (v:=aYW pe (0+34)) hk h (fun _ ho=>aJ (b:=pe) (o':=0) fE5 ho (sT h)) fun l a hk h=>
 lV OH (v:=.bool x.ey) hk h (aI (j:=0+34) fe rfl) fun l a hk h=>
 mV (v:=.bool x.ey) hk h fun l a hk h=>?_
 have fin: ∀(b:Bool) l a,(b=true->last≠0)->l.map key=[km 9 8,kg 6 true (kl 10 3 1),(some (6,true),some 11,.binOp .eql 3 (.tmp 10) (.const (.int .i64 0)) 3),(none,some 12,.pick (.tmp 9) (.tmp 11) (.const (.bool false))),ka 2 12]->Sl 13 [(8,.bool b),(0,aYW pe 0),(1,aYW pl 0)] a->wpListIn (FR none) 0 prog ops (Exit.then (fun a' w'=>Code.ret.wpIn (FR none) 0 prog (bodyPost prog f108 fun e W1=>e=.returned (.bool false)/\Below W.heap.size W W1) a' w') (bodyPost prog f108 fun e W1=>e=.returned (.bool false)/\Below W.heap.size W W1)) l a W:=by
  intro b l a hb hk h;refine mV (v:=.bool b) hk h fun l a hk h=>?_;cases b
  . skip
    refine sX hK hk h 9 fun l a hk h=>
    sX hK hk h 9 fun l a hk h=>
    sV (v:=.bool false) hk h (fun _ ho=>dI ho (sT h) rfl) fun l a hk h=>
    aV (v:=.bool false) hk h fun l a hk h=>?_
    refine s0 hk (aMu ?_);exact fF (R:=fun e W1=>e=.returned (.bool false)/\Below W.heap.size W W1) (i:=2) (v:=.bool false) h results108 (by simp) ⟨rfl,aDA _ _⟩
  skip
  refine sG (v:=.int .i64 last) hK hk h 9 (fun _ ho=>gK (b:=pl) (off:=0) aDJ ho (sT h) (aI (j:=0) fl rfl)) fun l a hk h=>
  sG (v:=.bool false) hK hk h 9 (fun _ ho=>aFA (q:=.i64) ho (sT h) rfl (hb rfl)) fun l a hk h=>
  sV (v:=.bool false) hk h (fun _ ho=>dR ho (sT h) (sT h)) fun l a hk h=>
  aV (v:=.bool false) hk h fun l a hk h=>?_
  refine s0 hk (aMu ?_);exact fF (R:=fun e W1=>e=.returned (.bool false)/\Below W.heap.size W W1) (i:=2) (v:=.bool false) h results108 (by simp) ⟨rfl,aDA _ _⟩
 cases hf:x.ey
 . rw[hf]at h;refine sX hK hk h 5 fun l a hk h=>
   sX hK hk h 5 fun l a hk h=>
   sV (v:=.bool false) hk h (fun _ ho=>dI ho (sT h) rfl) fun l a hk h=>?_
   exact fin false l a (fun c=>by cases c) hk (aN h)
 rw[hf]at h;refine sG (v:=aYW pe (0+35)) hK hk h 5 (fun _ ho=>aJ (b:=pe) (o':=0) fE6 ho (sT h)) fun l a hk h=>
 sG (v:=.bool x.lt) hK hk h 5 (fun _ ho=>gK (b:=pe) (off:=0+35) OH ho (sT h) (aI (j:=0+35) fe rfl)) fun l a hk h=>
 sV (v:=.bool x.lt) hk h (fun _ ho=>dR ho (sT h) (sT h)) fun l a hk h=>?_
 exact fin x.lt l a (H hf) hk (aN h)
def NoF(W:World)(f:FuncId)(c:Array Value):Prop:=(∀args w',(callFunc f args).run prog w'=.ok (.enter f args) w')/\ ∀W',Below W.heap.size W W'->Calls prog f c W' fun e W1=>e=.returned (.bool false)/\Below W'.heap.size W' W1
theorem aHz{g:Nat}{cs:List Value}{E:Nat->Int}{F:Nat->FuncId}{C:Nat->Array Value}(f:dA W g 183 cs)(hc: ∀k,k<4->cs[k * 2]? =some (.int .i64 (E k))/\cs[k * 2+1]? =some (fv (F k) (C k)))(hn: ∀k,k<4->NoF W (F k) (C k)):
 Calls prog 102 #[.slice (some ⟨g,0,none⟩) 4 4] W fun e W1=>e=.returned (.int .i64 0)/\Below W.heap.size W W1:=by
 refine(aMd (n:=0)).1 ?_;refine fM (args:=[.slice (some ⟨g,0,none⟩) 4 4]) (N:=17) func102 (show _=some efC by kernel_rfl) ntmps102 (by simp) fun a h=>?_;rw[aWU];refine aDs (aG [kc 2 (.int .i64 0)] fun ops l hK hk=>?_);refine aC hk h fun l a hk h=>?_;refine s0 hk (aDs (aDs (aG [km 5 0,(none,some 6,.call ⟨.builtin .len,#[(.tmp 5)],#[226]⟩),(none,some 7,.move (.const (.int .i64 0)))] fun ops l hK hk=>?_)));refine mV (v:=.slice (some ⟨g,0,none⟩) 4 4) hk h fun l a hk h=>
 sV (v:=.int .i64 ((4:Nat):Int)) hk h (fun _ ho=>lM (s:=some ⟨g,0,none⟩) (c:=4) (el:=183) (by kernel_rfl) ho (sT h)) fun l a hk h=>
 sV (v:=.int .i64 ((0:Nat):Int)) hk h (fun _ ho=>eY ho rfl) fun l a hk h=>?_
 refine s0 hk (aLs (gQ (fun m a V=> ∃k:Nat,m+k=4/\Below W.heap.size W V/\Sl 17 [(5,.slice (some ⟨g,0,none⟩) 4 4),(6,.int .i64 ((4:Nat):Int)),(7,.int .i64 (k:Int))] a) ?_ (m:=4) ⟨0,rfl,aDA _ _,aN h⟩));intro m a V ⟨k,hm,B,h⟩;refine aDs (aG [(none,some 8,.binOp .lss 3 (.tmp 7) (.tmp 6) 3)] fun ops l hK hk=>?_);refine sV (v:=.bool (decide ((k:Int)<((4:Nat):Int)))) hk h (fun _ ho=>mP (q:=.i64) ho (sT h) (sT h)) fun l a hk h=>?_;refine s0 hk (aDs (cZ (t:=decide ((k:Int)<((4:Nat):Int))) h (by simp) (fun cc=>aJt ?_) (fun cc=>aRf ?_)))
 . have hk4:k<4:=by have:=aEF cc;omega
   obtain⟨c0,c1⟩:=hc k hk4;have fV:=aT f (B.block g (aS f));refine aDs (aLs (aDs (aG [(none,some 9,.indexAddr 226 (.tmp 5) (.tmp 7)),kl 10 183 9,(none,some 4,.alloc 183),ks' 183 4 10] fun ops l hK hk=>?_)));refine sV (v:=aYW g (0+k * 2)) hk h (fun _ ho=>fP (g:=g) (off:=0) (n:=4) (cp:=4) (el:=183) (sz:=2) (i:=k) (by kernel_rfl) (by kernel_rfl) hk4 ho (sT h) (sT h)) fun l a hk h=>
   sV (v:=.agg #[.int .i64 (E k),fv (F k) (C k)]) hk h (fun _ ho=>bC (b:=g) (off:=0+k * 2) (cs:=[.int .i64 (E k),fv (F k) (C k)]) (fun j v hv=>by rw[aHG];exact aI fV (match j,hv with|0,hv=>by cases hv;exact c0|1,hv=>by cases hv;exact c1)) underlying183 rfl (by kernel_rfl) ho (sT h)) fun l a hk h=>
   sV (v:=aYW V.heap.size 0) hk h (fun _ ho=>oH ho (zero183 V)) fun l a hk h=>?_
   have A:Al V (V.alloc (.cells z183.toArray 183)) V.heap.size 183 z183:=dN _;change wpListIn _ _ _ _ _ _ _ (V.alloc (.cells z183.toArray 183));generalize V.alloc (.cells z183.toArray 183)=V1 at A ⊢;obtain⟨p,hp⟩: ∃p,p=V.heap.size:=⟨_,rfl⟩;rw[<-hp]at A h;have fp:=A.2.2.2.1;refine ss (g:=none) hk h rfl (fun _ ho=>iG (b:=p) (off:=0) (cs:=[.int .i64 (E k),fv (F k) (C k)]) (show World.there _ _ 0 2 from aX fp) (by kernel_rfl) (fun v hv=>by rcases aLr.1 hv with rfl|hv;rfl;rw[aL8.1 hv];rfl) ho (sT h) (sT h)) (fun l hk=>?_);have f2:=bM fp (us:=[.int .i64 (E k),fv (F k) (C k)]) rfl;have B2:Below W.heap.size W (V1.setCells p 0 [.int .i64 (E k),fv (F k) (C k)]):=dM (by have:=B.size;omega) _ _ (bD B (dZ A) (aC4 _));generalize V1.setCells p 0 [.int .i64 (E k),fv (F k) (C k)]=V2 at f2 B2 ⊢;refine s0 hk (aDs (aG [kf 11 183 4 1,kl 12 50 11,(none,some 13,.call ⟨.value (.tmp 12),#[],#[]⟩)] fun ops l hK hk=>?_));refine sV (v:=aYW p (0+1)) hk h (fun _ ho=>aJ (b:=p) (o':=0) aKT ho (sT h)) fun l a hk h=>
   lV aR6 (v:=fv (F k) (C k)) hk h (aI (j:=0+1) f2 rfl) fun l a hk h=>?_
   refine sc hk h rfl (by decide) (fun _ ho=>aJy (hn k hk4).1 ho (sT h (v:=fv (F k) (C k)))) (R:=fun e w'=>e=.returned (.bool false)/\Below V2.heap.size V2 w') (by rw[aUG,aXO];exact(hn k hk4).2 V2 B2) (fun e V3 hR=>⟨_,hR.1,fun l a hk h=>?_⟩);refine s0 hk (aNZ (sT h) (aJt (aG [(none,some 16,.binOp .add 3 (.tmp 7) (.const (.int .i64 1)) 3),km 7 16] fun ops l hK hk=>?_)));refine sV (v:=.int .i64 ((k:Int)+1)) hk h (fun _ ho=>rM ho (sT h) rfl (wrap_succ hk4 (by omega))) fun l a hk h=>
   mV (v:=.int .i64 ((k:Int)+1)) hk h fun l a hk h=>?_
   exact s0 hk ⟨m - 1,by omega,k+1,by omega,bD B2 hR.2 (aC4 _),by rw[aNq];exact aN h⟩
 refine aDs (aG [kc 2 (.int .i64 0)] fun ops l hK hk=>?_);refine aC hk h fun l a hk h=>?_;refine s0 hk (aMu ?_);exact fF (R:=fun e W1=>e=.returned (.int .i64 0)/\Below W.heap.size W W1) (i:=2) (v:=.int .i64 0) h results102 (by simp) ⟨rfl,B⟩
end
section
variable{w0:World}{x:Xp}
theorem aNV(hst:SS w0)(hkd:x.kd=3\/x.kd=4)(hset:G7 x.kd x.ey x.lt x.L)(hI:gW w0 x.bs x.L):Same w0 63 #[x.v] (.tuple #[.int .i64 0,.int .i64 0]):=by
 intro w hw;have hn:=hset.n;have hn0:=hset.n0;have hI:=hI.later hw;have hst:=iQ hst hw;obtain⟨last,hla⟩: ∃k:Nat,x.L.length=k+1:=⟨x.L.length - 1,by omega⟩;refine(aMd (n:=0)).1 ?_;refine fM (args:=[x.v]) (N:=39) func63 (show _=some eiC by kernel_rfl) ntmps63 (by simp) fun a h=>?_;rw[aWT];refine aDs (aG [(none,some 1,.box 35 (.tmp 0)),kc 2 (.int .i64 0),kc 3 (.int .i64 0)] fun ops l hK hk=>?_);refine sV (v:=aYW w.heap.size 0) hk h (fun _ ho=>rJ (v:=x.v) ho (sT h) rfl) fun l a hk h=>?_;have A0:Al w (w.alloc (.cells x.l.toArray 35)) w.heap.size 35 x.l:=dN x.l;change wpListIn _ _ _ _ _ _ _ (w.alloc (.cells x.l.toArray 35));generalize w.alloc (.cells x.l.toArray 35)=W0 at A0 ⊢;obtain⟨pe,hpe⟩: ∃p,p=w.heap.size:=⟨_,rfl⟩;rw[<-hpe]at A0 h;have f0:=A0.2.2.2.1;have b0:Below w.heap.size w W0:=dZ A0;refine aC hk h fun l a hk h=>
 aC hk h fun l a hk h=>?_
 refine s0 hk (aDs (aG [kf 8 35 1 4,kl 9 33 8,(none,some 10,.call ⟨.builtin .len,#[(.tmp 9)],#[33]⟩),(none,some 11,.binOp .sub 3 (.tmp 10) (.const (.int .i64 1)) 3),(none,some 4,.alloc 3),ks' 3 4 11] fun ops l hK hk=>?_));refine sV (v:=aYW pe (0+33)) hk h (fun _ ho=>aJ (b:=pe) (o':=0) pU ho (sT h)) fun l a hk h=>
 lV wU (v:=.slice x.bs x.L.length x.cp) hk h (aI (j:=0+33) f0 rfl) fun l a hk h=>
 sV (v:=.int .i64 (x.L.length:Int)) hk h (fun _ ho=>lM (s:=x.bs) (c:=x.cp) FY ho (sT h)) fun l a hk h=>
 sV (v:=.int .i64 (last:Int)) hk h (fun _ ho=>by have:=aFu (P:=prog) (W:=W0) (q:=.i64) (m:=(x.L.length:Int)) (m':=1) ho (sT h) rfl (wr (by omega) (by omega));rwa[show (x.L.length:Int) - 1=(last:Int) by omega]at this) fun l a hk h=>
 sV (v:=aYW W0.heap.size 0) hk h (fun _ ho=>CB ho (zero3 W0) rfl) fun l a hk h=>?_
 have A1:Al W0 (W0.alloc (.cells [.int .i64 0].toArray 3)) W0.heap.size 3 [.int .i64 0]:=dN _;change wpListIn _ _ _ _ _ _ _ (W0.alloc (.cells [.int .i64 0].toArray 3));generalize W0.alloc (.cells [.int .i64 0].toArray 3)=W1 at A1 ⊢;obtain⟨pl,hpl⟩: ∃p,p=W0.heap.size:=⟨_,rfl⟩;rw[<-hpl]at A1 h;have b1:Below w.heap.size w W1:=bD b0 (dZ A1) (aC4 _);have f0:=aT f0 ((gV A1).2 pe (aS f0));have f1:=A1.2.2.2.1;have hs0:=b0.size;refine ss (g:=none) hk h rfl (fun _ ho=>oO (b:=pl) (off:=0) (v:=.int .i64 (last:Int)) ho (sT h) (sT h) rfl (qQ f1 (show 0<1 by decide)) (by kernel_rfl) rfl) (fun l hk=>?_);have f1:=xA f1 0 (.int .i64 (last:Int));have b2:Below w.heap.size w (W1.setCells pl 0 [.int .i64 (last:Int)]):=dM (by omega) _ _ b1;have f0:=aT f0 (jP (p:=pl) [.int .i64 (last:Int)] 0 W1 pe (by have:=aS A0.2.2.2.1;omega));change dA _ pl 3 [.int .i64 (last:Int)]at f1;generalize W1.setCells pl 0 [.int .i64 (last:Int)]=W2 at f0 f1 b2 ⊢;refine s0 hk (aDs (aDs (aG [kf 12 35 1 4,kl 13 33 12,(none,some 14,.call ⟨.builtin .len,#[(.tmp 13)],#[33]⟩),(none,some 15,.move (.const (.int .i64 0)))] fun ops l hK hk=>?_)));refine sV (v:=aYW pe (0+33)) hk h (fun _ ho=>aJ (b:=pe) (o':=0) pU ho (sT h)) fun l a hk h=>
 lV wU (v:=.slice x.bs x.L.length x.cp) hk h (aI (j:=0+33) f0 rfl) fun l a hk h=>
 sV (v:=.int .i64 (x.L.length:Int)) hk h (fun _ ho=>lM (s:=x.bs) (c:=x.cp) FY ho (sT h)) fun l a hk h=>
 sV (v:=.int .i64 ((0:Nat):Int)) hk h (fun _ ho=>eY ho rfl) fun l a hk h=>?_
 refine s0 hk (aLs (gQ (fun m a V=> ∃i:Nat,m+i=x.L.length/\Below W2.heap.size W2 V/\Sl 39 [(1,aYW pe 0),(4,aYW pl 0),(13,.slice x.bs x.L.length x.cp),(14,.int .i64 (x.L.length:Int)),(15,.int .i64 (i:Int))] a) ?_ (m:=x.L.length) ⟨0,by omega,aDA _ _,aN h⟩));intro m a V ⟨i,hm,B,h⟩;have BV:Below w.heap.size w V:=bD b2 B (aC4 _);have f0:=aT f0 (B.block pe (aS f0));have f1:=aT f1 (B.block pl (aS f1));refine aDs (aG [(none,some 16,.binOp .lss 3 (.tmp 15) (.tmp 14) 3)] fun ops l hK hk=>?_);refine sV (v:=.bool (decide ((i:Int)<(x.L.length:Int)))) hk h (fun _ ho=>mP (q:=.i64) ho (sT h) (sT h)) fun l a hk h=>?_;refine s0 hk (aDs (cZ (t:=decide ((i:Int)<(x.L.length:Int))) h (by simp) (fun cc=>aJt ?_) (fun cc=>aRf ?_)))
 . have hi:i<x.L.length:=by have:=aEF cc;omega
   obtain⟨g,o,eb,hg,hr⟩:=(hI.later BV) i hi;obtain⟨it,hit⟩: ∃it,it=x.L.getD i bQ:=⟨_,rfl⟩;rw[<-hit]at hr;refine aDs (aLs (aDs (aG [km 17 15,(none,some 18,.indexAddr 33 (.tmp 13) (.tmp 15)),kl 19 79 18,(none,some 5,.alloc 3),(none,some 6,.alloc 79),ks' 3 5 17,ks' 79 6 19] fun ops l hK hk=>?_)));refine mV (v:=.int .i64 (i:Int)) hk h fun l a hk h=>
   sV (v:=aYW g (o+i * 21)) hk h (fun _ ho=>fP (g:=g) (off:=o) (n:=x.L.length) (cp:=x.cp) (el:=79) (sz:=21) (i:=i) FY aG7 hi ho (by rw[<-eb];exact sT h) (sT h)) fun l a hk h=>
   sV (v:=it.v) hk h (fun _ ho=>bC (b:=g) (off:=o+i * 21) (cs:=it.l) hr underlying79 rfl (by kernel_rfl) ho (sT h)) fun l a hk h=>
   sV (v:=aYW V.heap.size 0) hk h (fun _ ho=>CB ho (zero3 V) rfl) fun l a hk h=>?_
   have A2:Al V (V.alloc (.cells [.int .i64 0].toArray 3)) V.heap.size 3 [.int .i64 0]:=dN _;change wpListIn _ _ _ _ _ _ _ (V.alloc (.cells [.int .i64 0].toArray 3));generalize V.alloc (.cells [.int .i64 0].toArray 3)=V1 at A2 ⊢;obtain⟨pi,hpi⟩: ∃p,p=V.heap.size:=⟨_,rfl⟩;rw[<-hpi]at A2 h;refine sV (v:=aYW V1.heap.size 0) hk h (fun _ ho=>oH ho (zero79 V1)) fun l a hk h=>?_;have A3:Al V1 (V1.alloc (.cells bQ.l.toArray 79)) V1.heap.size 79 bQ.l:=dN _;change wpListIn _ _ _ _ _ _ _ (V1.alloc (.cells bQ.l.toArray 79));generalize V1.alloc (.cells bQ.l.toArray 79)=V2 at A3 ⊢;obtain⟨px,hpx⟩: ∃p,p=V1.heap.size:=⟨_,rfl⟩;rw[<-hpx]at A3 h;have z2:=A2.2.1;have B2:Below V.heap.size V V2:=bD (dZ A2) (dZ A3) (aC4 _);have fi:=aT A2.2.2.2.1 ((gV A3).2 pi (aS A2.2.2.2.1));have fx:=A3.2.2.2.1;refine ss (g:=none) hk h rfl (fun _ ho=>oO (b:=pi) (off:=0) (v:=.int .i64 (i:Int)) ho (sT h) (sT h) rfl (qQ fi (show 0<1 by decide)) (by kernel_rfl) rfl) (fun l hk=>?_);have fi:=xA fi 0 (.int .i64 (i:Int));change dA _ pi 3 [.int .i64 (i:Int)]at fi;have hne:pi≠px:=by have:=aS A2.2.2.2.1;omega
   have fx:=aT fx (jP (p:=pi) [.int .i64 (i:Int)] 0 V2 px (aPu hne));refine ss (g:=none) hk h rfl (fun _ ho=>iG (b:=px) (off:=0) (cs:=it.l) (show World.there _ _ 0 21 from aX fx) (by kernel_rfl) (IZ it) ho (sT h) (sT h)) (fun l hk=>?_);have fi:=aT fi (jP (p:=px) it.l 0 _ pi hne);have fx:=bM fx (us:=it.l) rfl;have B3:Below V.heap.size V ((V2.setCells pi 0 [.int .i64 (i:Int)]).setCells px 0 it.l):=dM (by have:=(dZ A2).size;omega) _ _ (dM (by omega) _ _ B2);generalize (V2.setCells pi 0 [.int .i64 (i:Int)]).setCells px 0 it.l=V3 at fi fx B3 ⊢;have f0:=aT f0 (B3.block pe (aS f0));have f1:=aT f1 (B3.block pl (aS f1));have BV3:Below w.heap.size w V3:=bD BV B3 (aC4 _);have s3:=iQ hst BV3;have hIt:Same V3 103 #[it.v,.int .u8 x.kd] (.int .i64 0):=by rw[hit];exact aNa s3 (hset.s i hi).1 (hset.s i hi).2 hkd (hset.ok i hi)
   have hEn: ∀V4,Below V3.heap.size V3 V4->it.2.1=false/\it.1.UY=true->Same V4 106 #[it.v] (.bool true):=fun V4 B4 hh=>zS (aVa it.1 it.2.2 it.2.1 _ V4 (sPl (iQ s3 B4) (by rw[hit];exact(hset.s i hi).1))) (by rw[hh.1,hh.2];rfl);refine s0 hk (aDs (aG [kl 20 79 6,kf 21 35 1 0,kl 22 5 21,(none,some 23,.call ⟨.value (.func 103),#[(.tmp 20),(.tmp 22)],#[79,5]⟩),(none,some 24,.makeFunc (.func 104) #[] #[(.tmp 6),(.tmp 1)]),(none,some 25,.build 183 #[(0,(.tmp 23)),(1,(.tmp 24))]),(none,some 26,.makeFunc (.func 105) #[] #[(.tmp 1),(.tmp 5),(.tmp 6)]),(none,some 27,.build 183 #[(0,(.const (.int .i64 10))),(1,(.tmp 26))]),(none,some 28,.makeFunc (.func 107) #[] #[(.tmp 1),(.tmp 5),(.tmp 4),(.tmp 6)]),(none,some 29,.build 183 #[(0,(.const (.int .i64 10))),(1,(.tmp 28))]),(none,some 30,.makeFunc (.func 108) #[] #[(.tmp 1),(.tmp 4)]),(none,some 31,.build 183 #[(0,(.const (.int .i64 10))),(1,(.tmp 30))]),(none,some 32,.buildSlice 226 4 #[(0,(.tmp 25)),(1,(.tmp 27)),(2,(.tmp 29)),(3,(.tmp 31))]),(none,some 33,.call ⟨.value (.func 102),#[(.tmp 32)],#[226]⟩),ka 7 33] fun ops l hK hk=>?_));refine sV (v:=it.v) hk h (fun _ ho=>bC (aO fx) underlying79 rfl (by kernel_rfl) ho (sT h)) fun l a hk h=>
   sV (v:=aYW pe (0+0)) hk h (fun _ ho=>aJ (b:=pe) (o':=0) sJ ho (sT h)) fun l a hk h=>
   lV lY (v:=.int .u8 x.kd) hk h (aI (j:=0+0) f0 rfl) fun l a hk h=>?_
   refine sc hk h rfl (by decide) (fun _ ho=>fU ho func103) (R:=fun e w'=>e=.returned (.int .i64 0)/\Below V3.heap.size V3 w') (by rw[tJ,sT h (k:=20) (v:=it.v),sT h (k:=22) (v:=.int .u8 x.kd)];exact hIt V3 (aDA _ _)) (fun e V4 hR=>⟨_,hR.1,fun l a hk h=>?_⟩);have B4:=hR.2;refine sV (v:=fv 104 #[aYW px 0,aYW pe 0]) hk h (fun _ ho=>IV ho (by simp[sT h (k:=6) (v:=aYW px 0),sT h (k:=1) (v:=aYW pe 0)])) fun l a hk h=>
   sV (v:=.agg #[.int .i64 0,fv 104 #[aYW px 0,aYW pe 0]]) hk h (fun _ ho=>BX ho (sT h) (sT h)) fun l a hk h=>
   sV (v:=fv 105 #[aYW pe 0,aYW pi 0,aYW px 0]) hk h (fun _ ho=>IV ho (by simp[sT h (k:=1) (v:=aYW pe 0),sT h (k:=5) (v:=aYW pi 0),sT h (k:=6) (v:=aYW px 0)])) fun l a hk h=>
   sV (v:=.agg #[.int .i64 10,fv 105 #[aYW pe 0,aYW pi 0,aYW px 0]]) hk h (fun _ ho=>BX ho rfl (sT h)) fun l a hk h=>
   sV (v:=fv 107 #[aYW pe 0,aYW pi 0,aYW pl 0,aYW px 0]) hk h (fun _ ho=>IV ho (by simp[sT h (k:=1) (v:=aYW pe 0),sT h (k:=5) (v:=aYW pi 0),sT h (k:=4) (v:=aYW pl 0),sT h (k:=6) (v:=aYW px 0)])) fun l a hk h=>
   sV (v:=.agg #[.int .i64 10,fv 107 #[aYW pe 0,aYW pi 0,aYW pl 0,aYW px 0]]) hk h (fun _ ho=>BX ho rfl (sT h)) fun l a hk h=>
   sV (v:=fv 108 #[aYW pe 0,aYW pl 0]) hk h (fun _ ho=>IV ho (by simp[sT h (k:=1) (v:=aYW pe 0),sT h (k:=4) (v:=aYW pl 0)])) fun l a hk h=>?_
   refine sV (v:=.agg #[.int .i64 10,fv 108 #[aYW pe 0,aYW pl 0]]) hk h (fun _ ho=>BX ho rfl (sT h)) fun l a hk h=>
   sV (v:=.slice (some ⟨V4.heap.size,0,none⟩) 4 4) hk h (fun _ ho=>aJz ho (sT h (k:=25) (v:=.agg #[.int .i64 0,fv 104 #[aYW px 0,aYW pe 0]])) (sT h (k:=27) (v:=.agg #[.int .i64 10,fv 105 #[aYW pe 0,aYW pi 0,aYW px 0]])) (sT h (k:=29) (v:=.agg #[.int .i64 10,fv 107 #[aYW pe 0,aYW pi 0,aYW pl 0,aYW px 0]])) (sT h (k:=31) (v:=.agg #[.int .i64 10,fv 108 #[aYW pe 0,aYW pl 0]]))) fun l a hk h=>?_
   have A5:Al V4 (V4.alloc (.cells (eCL pe pl pi px).toArray 183)) V4.heap.size 183 (eCL pe pl pi px):=dN _;change wpListIn _ _ _ _ _ _ _ (V4.alloc (.cells (eCL pe pl pi px).toArray 183));generalize V4.alloc (.cells (eCL pe pl pi px).toArray 183)=V5 at A5 ⊢;have B5:Below V3.heap.size V3 V5:=bD B4 (dZ A5) (aC4 _);have k5: ∀V6,Below V5.heap.size V5 V6->Below V3.heap.size V3 V6/\dA V6 pe 35 x.l/\dA V6 pl 3 [.int .i64 (last:Int)]/\dA V6 pi 3 [.int .i64 (i:Int)]/\dA V6 px 79 it.l:=fun V6 B6=>by
    have B:=bD B5 B6 (aC4 _);exact⟨B,aT f0 (B.block pe (aS f0)),aT f1 (B.block pl (aS f1)),aT fi (B.block pi (aS fi)),aT fx (B.block px (aS fx))⟩
   refine sc hk h rfl (by decide) (fun _ ho=>fU ho func102) (R:=fun e w'=>e=.returned (.int .i64 0)/\Below V5.heap.size V5 w') (by
    rw[aHe,sT h (v:=.slice (some ⟨V4.heap.size,0,none⟩) 4 4)];refine aHz (E:=fun k=>if k=0 then 0 else 10) (F:=fun k=>match k with|0=>104|1=>105|2=>107|_=>108) (C:=fun k=>match k with|0=> #[aYW px 0,aYW pe 0]|1=> #[aYW pe 0,aYW pi 0,aYW px 0]|2=> #[aYW pe 0,aYW pi 0,aYW pl 0,aYW px 0]|_=> #[aYW pe 0,aYW pl 0]) A5.2.2.2.1 (fun k hk=>match k,hk with|0,_=>⟨rfl,rfl⟩|1,_=>⟨rfl,rfl⟩|2,_=>⟨rfl,rfl⟩|3,_=>⟨rfl,rfl⟩) (fun k hk=>?_)
    match k,hk with
    |0,_=>exact⟨aCL func104,fun V6 B6=>let⟨B,e,_,_,x'⟩:=k5 V6 B6;aTb x' e (aAn hIt B)⟩
    |1,_=>exact⟨aCL func105,fun V6 B6=>let⟨B,e,_,i',x'⟩:=k5 V6 B6;aTa x' e i' (fun c d=>hEn V6 B (by rw[hit,show i=0 by omega];exact hset.he c))⟩
    |2,_=>exact⟨aCL func107,fun V6 B6=>let⟨B,e,l',i',x'⟩:=k5 V6 B6;aS9 l' x' e i' (fun c d=>hEn V6 B (by rw[hit,show i=x.L.length - 1 by omega];exact hset.hl c))⟩
    |3,_=>exact⟨aCL func108,fun V6 B6=>let⟨B,e,l',_,_⟩:=k5 V6 B6;aS8 l' e (fun c d hz=>hset.both c d (by omega))⟩) (fun e V6 hR=>⟨_,hR.1,fun l a hk h=>?_⟩)
   refine aV (v:=.int .i64 0) hk h fun l a hk h=>?_;refine s0 hk (aDs (aG [km 34 7,(none,some 35,.binOp .neq 38 (.tmp 34) (.const (.int .i64 0)) 38)] fun ops l hK hk=>?_));refine mV (v:=.int .i64 0) hk h fun l a hk h=>
   sV (v:=.bool false) hk h (fun _ ho=>qM (q:=.i64) (m:=0) (m':=0) rfl ho (sT h) rfl) fun l a hk h=>?_
   refine s0 hk (aNZ (sT h) (aJt (aG [(none,some 38,.binOp .add 3 (.tmp 15) (.const (.int .i64 1)) 3),km 15 38] fun ops l hK hk=>?_)));refine sV (v:=.int .i64 ((i:Int)+1)) hk h (fun _ ho=>rM ho (sT h) rfl (wrap_succ hi (by omega))) fun l a hk h=>
   mV (v:=.int .i64 ((i:Int)+1)) hk h fun l a hk h=>?_
   exact s0 hk ⟨m - 1,by omega,i+1,by omega,bD (bD B B3 (aC4 _)) (k5 V6 hR.2).1 (aC4 _),by rw[aNq];exact aN h⟩
 refine aDs (aG [kc 2 (.int .i64 0),kc 3 (.int .i64 0)] fun ops l hK hk=>?_);refine aC hk h fun l a hk h=>
 aC hk h fun l a hk h=>?_
 refine s0 hk (aMu ?_);exact uM (R:=fun e w'=>e=.returned (.tuple #[.int .i64 0,.int .i64 0])/\Below w.heap.size w w') (i:=2) (j:=3) (v:=.int .i64 0) (u:=.int .i64 0) h results63 (by simp) (by simp) ⟨rfl,BV⟩
end
theorem JF{y a b:Int}(h1:1<=a)(h:a<b)(h2:b<=13):nC y a<nC y b:=by
 have:=@aHZ y a b h1 h h2;have:=rZ y a;omega
theorem aK9{y a b:Int}(h1:1<=a)(h:a<=b)(h2:b<=13):nC y a<=nC y b:=by
 by_cases c:a=b
 . subst c;omega
 have:=@JF y a b h1 (by omega) h2;omega
theorem aM7(y c:Int):st y+nC y (bU c)<=st (iE y c)+nC (iE y c) (UW c+1) - 1:=by
 have f:=aBR c;unfold iE UW;by_cases h:bU c+dU c - 1<=12
 . rw[aEo h,aEo h];have:=@JF y (bU c) (bU c+dU c - 1+1) (by omega) (by omega) (by omega);omega
 rw[aEg h,aEg h];have e1:=st_succ y;have c1:=@aK9 y (bU c) 13 (by omega) (by omega) (by omega);rw[YT]at c1;have c2:=@JF (y+1) 1 (bU c+dU c - 13+1) (by omega) (by omega) (by omega);have c3:=JE (y+1);omega
theorem aL7{d:Dt}(he:d.err=0)(hx:d.vO=true):d.lo<=d.hi:=by
 obtain⟨_,hk,y0,y1,hc⟩:=iF he hx;have e1:=st_succ d.yv;have l1:=aCj d.yv;unfold Dt.lo Dt.hi zY zZ;rcases hc with⟨a,b,e⟩|⟨a,b,e,e2,c1,c2,sy⟩|⟨a,b,m0,m1,hd⟩
 . rw[aEm a,aEo rfl,aEo rfl];omega
 . have q0: ¬d.aH=0:=by omega
   have q1:12<d.aH:=by omega
   rw[e2,aEg q0,aEo q1,aEg q0,aEo q1];exact aM7 _ _
 have q0: ¬bJ d.mo=0:=by omega
 have q1: ¬ 12<bJ d.mo:=by omega
 rw[aEg q0,aEg q1,aEg q0,aEg q1];by_cases c:bJ d.da=0
 . rw[aEo c,aEo c];have:=@JF d.yv (bJ d.mo) (bJ d.mo+1) (by omega) (by omega) (by omega);omega
 rw[aEg c,aEg c];omega
structure aYI(d:Dt):Prop where
 md:d.da.size≠0->d.mo.size≠0
 m0:0<=d.m0/\d.m0<=3
 m1:0<=d.m1/\d.m1<=3
 m2:0<=d.m2/\d.m2<=3
theorem LM{m k:Nat}{d:Dt}(h:aYL m k d):aYI d:=⟨fun c=>by
 rcases h.da with e|⟨e1,e2,_⟩
 . exact absurd e c
 have b:=(wV h.hm e2).1;rw[e1];omega,h.m0,h.m1,h.m2⟩
theorem U5:aYI z0:=⟨fun h=>absurd rfl h,by decide,by decide,by decide⟩
theorem aOe{d:Dt}(h:aYI d):BQ d=prt d.mo d.da:=by
 have:=h.md;unfold BQ prt;rw[JC,JC];by_cases c1:d.da.size=0
 . rw[aEg (by omega),aDx c1];by_cases c2:d.mo.size=0
   . rw[aEg (by omega),aDx c2];rfl
   rw[aEo (by omega),aBW c2];rfl
 rw[aEo (by omega),aBW c1,aBW (this c1)];rfl
def Good(x:Xp)(W:World):Prop:=
 (∃d,x=⟨1,d,0,z0,0,z0,none,0,[],false,false⟩/\Sm d/\d.err=0/\aYI d)\/
 (∃fk f tk t,x=⟨2,z0,fk,f,tk,t,none,0,[],false,false⟩/\zB fk f/\zB tk t/\Sm f/\Sm t/\mQ fk f tk t=0/\aYI f/\aYI t)\/
 (∃kd bs cp L ey lt,x=⟨kd,z0,0,z0,0,z0,bs,cp,L,ey,lt⟩/\(kd=3\/kd=4)/\G7 kd ey lt L/\gW W bs L/\ ∀i,i<L.length->aYI (L.getD i bQ).1/\aYI (L.getD i bQ).2.2)
theorem aCk{L:List lK}{G:Dt->Prop}(h: ∀i,i<L.length->G (L.getD i bQ).1/\G (L.getD i bQ).2.2): ∀n,n<=L.length-> ∀e ∈ AX L n,G e
 |0,_,e,he=>by cases he
 |n+1,hn,e,he=>by
  rw[show AX L (n+1)=AX L n++((L.getD n bQ).1::(if(L.getD n bQ).2.1 then[(L.getD n bQ).2.2]else[]))from rfl]at he;rcases aIK.1 he with he|he
  . exact aCk h n (by omega) e he
  rcases aLr.1 he with rfl|he
  . exact(h n (by omega)).1
  split at he
  . rw[aL8.1 he];exact(h n (by omega)).2
  cases he
theorem aNN{d:Dt}(h:aYI d)(i:Nat):0<=mkv d i/\mkv d i<=3:=by
 unfold mkv;split
 . exact h.m0
 . exact h.m1
 exact h.m2
theorem aJM(mo da:ByteArray):0<prt mo da:=by unfold prt;(repeat' split)<;>omega
theorem J8{x:Xp}(h: ∀e ∈ x.nU,aYI e)(hp:0<x.nU.length):(∀k,k<x.nU.length->BQ (x.dt k)=x.PT k)/\(∀q,q<x.pl.length->0<=x.mq q/\x.mq q<=3)/\0<x.pl.length:=by
 have g: ∀k,k<x.nU.length->aYI (x.dt k):=fun k hk=>h _ (by unfold Xp.dt;rw[List.getD,aE5 hk];exact aUw hk);refine⟨fun k hk=>aOe (g k hk),fun q hq=>aNN (g _ (x.aLR hq).1) _,?_⟩;unfold Xp.pl;obtain⟨n,hn⟩: ∃n,x.nU.length=n+1:=⟨x.nU.length - 1,by omega⟩;rw[hn,CP];have:=aJM (x.dt n).mo (x.dt n).da;unfold Xp.PT;omega
theorem aRs{x:Xp}{W:World}(hst:SS W)(g:Good x W):Rx x W:=by
 rcases g with⟨d,rfl,s,e,gd⟩|⟨fk,f,tk,t,rfl,bf,bt,sf,st,pe,gf,gt⟩|⟨kd,bs,cp,L,ey,lt,rfl,k34,so,it,gd⟩
 . obtain⟨a,b,c⟩:=J8 (x:=⟨1,d,0,z0,0,z0,none,0,[],false,false⟩) (fun e he=>by rw[aL8.1 he];exact gd) (by show 0<1;omega);exact⟨ck1 hst s e,fun i hi=>absurd hi (aS2 _),by show 0<=256;omega,.inl rfl,a,b,c⟩
 . have hd:(⟨2,z0,fk,f,tk,t,none,0,[],false,false⟩:Xp).nU=(if fk=1 then[f]else[])++(if tk=1 then[t]else[]):=rfl;obtain⟨a,b,c⟩:=J8 (x:=⟨2,z0,fk,f,tk,t,none,0,[],false,false⟩) (fun e he=>by
    rw[hd]at he;rcases aIK.1 he with he|he
    . split at he
      . rw[aL8.1 he];exact gf
      cases he
    . split at he
      . rw[aL8.1 he];exact gt
      cases he) (by
    rw[hd];unfold mQ at pe;by_cases c1:fk=1
    . rw[aEo c1];simp
    by_cases c2:tk=1
    . rw[aEo c2];simp
    rw[aEo ⟨c1,c2⟩]at pe;cases pe)
   exact⟨ck2 hst sf st bf bt pe,fun i hi=>absurd hi (aS2 _),by show 0<=256;omega,.inr (.inl rfl),a,b,c⟩
 have hd:(⟨kd,z0,0,z0,0,z0,bs,cp,L,ey,lt⟩:Xp).nU=AX L L.length:=by
  unfold Xp.nU;rw[aEg (show ¬kd=1 by omega),aEg (show ¬kd=2 by omega)]
 have n0:=so.n0;obtain⟨a,b,c⟩:=J8 (x:=⟨kd,z0,0,z0,0,z0,bs,cp,L,ey,lt⟩) (fun e he=>by rw[hd]at he;exact aCk gd _ (aC4 _) e he) (by
  rw[hd];obtain⟨n,hn⟩: ∃n,L.length=n+1:=⟨L.length - 1,by omega⟩;rw[hn];show 0<(AX L n++_::_).length;simp;omega)
 exact⟨aTC k34 so (aNV (x:=⟨kd,z0,0,z0,0,z0,bs,cp,L,ey,lt⟩) hst k34 so it),it,so.n,.inr (.inr k34),a,b,c⟩
end
section
open Go.RowKit
def Gw(P:Program)(W:World)(a:Act)(o:Oper)(g:Value->World->Prop):Prop:=(∃v W',(execOp a.eval o).run P W=.ok (.value v) W'/\Below W.heap.size W W'/\g v W')\/ ∃f args,(execOp a.eval o).run P W=.ok (.enter f args) W/\Calls P f args W fun e W1=> ∃v,e=.returned v/\Below W.heap.size W W1/\g v W1
section
variable{P:Program}{r:Option Nat}{n N:Nat}{ops:Array Oper}{Q:Exit->Act->World->Prop}{S:List (Nat × Value)}
theorem aIj (hb:backOk ops.toList 0=true) {m:Nat} {D:Nat->Nat} {G:Nat->Value->World->Prop} {W0:World} (hm:m<=ops.size)
 (hG: ∀i,i<m-> ∀v W W',G i v W->Below W.heap.size W W'->G i v W')
 (hops: ∀i,i<m-> ∃o,ops[i]? =some o/\o.guard=none/\o.dst=some (D i)/\kY o.op=false/\D i<N/\(∀e ∈ S,e.1≠D i)/\ ∀a W,Below W0.heap.size W0 W->Sl N S a->(∀j ∈ IK o,j<m/\ ∃v,a.tmps[D j]? =some v/\G j v W)->Gw P W a o (G i))
 (hinj: ∀i j,i<m->j<m->D i=D j->i=j)
 (hcl:m<ops.size-> ∀L:Nat->Prop,(∀i o,i<=m->ops[i]? =some o->L i-> ∀j ∈ IK o,L j)->L m-> ∀i,i<m->L i)
 (hch: ∀i o,ops[i]? =some o->m<i-> ∃e,e ∈ o.after.toList/\binding e=true/\e.on=i - 1)
 (hfin: ∀a W,Below W0.heap.size W0 W->Sl N S a->(∀j,j<m-> ∃v,a.tmps[D j]? =some v/\G j v W)->wpListIn (FR r) n P ops Q (ops.toList.drop m) a W):
 ∀(fuel:Nat) (listed:Array Bool) (a:Act) (W:World),Below W0.heap.size W0 W->listed.size=ops.size->listed.toList.count false<=fuel->Sl N S a->(∀j,j<m->Ls listed j-> ∃v,a.tmps[D j]? =some v/\G j v W)->(∀i o,i<m->ops[i]? =some o->Ls listed i-> ∀j ∈ IK o,Ls listed j)->(∀j,m<=j-> ¬Ls listed j)->
  wpAnyIn (FR r) n P .any ops Q fuel listed a W:=by
 intro fuel
 induction fuel with
 |zero=>
  intro listed a W hB hsz hc hs hv hcd hno;refine D9 hb hch (ops.size - m) m _ listed a W (by omega) (aC4 _) hsz hc (fun j=>⟨fun h=>?_,fun h=>kT (by omega) (by omega)⟩) (hfin a W hB hs fun j hj=>hv j hj (kT (by omega) (by omega)));rcases aKQ j m with c|c
  . exact c
  exact absurd h (hno j c)
 | succ fuel ih=>
  intro listed a W hB hsz hc hs hv hcd hno;by_cases hall: ∀j,j<m->Ls listed j
  . refine D9 hb hch (ops.size - m) m _ listed a W (by omega) (aC4 _) hsz hc (fun j=>⟨fun h=>?_,hall j⟩) (hfin a W hB hs fun j hj=>hv j hj (hall j hj));rcases aKQ j m with c|c
    . exact c
    exact absurd h (hno j c)
  refine ⟨fun hr=>absurd (fun j hj=>oC hb hsz hr j (by omega)) hall,fun i hi=>?_⟩;obtain⟨o,ho,hn,haf⟩:=(kW hsz).1 hi;have hil:=(aEH.1 ho).1;have TD: ∀j ∈ IK o,Ls listed j:=fun j hj=>by
   obtain⟨e,he,rfl⟩:=aLQ.1 hj;obtain⟨h1,h2⟩:=aTr.1 he;exact haf e h1 h2
  rcases aKQ i m with him|him
  . obtain ⟨o',ho',hg,hd,hp,hN,hS,hrun⟩:=hops i him;rw[ho]at ho';cases ho';have hrun:=hrun a W hB hs fun j hj=>by
     have hjm:j<m:=by
      rcases aKQ j m with c|c
      . exact c
      exact absurd (TD j hj) (hno j c)
     exact⟨hjm,hv j hjm (TD j hj)⟩
    have nx: ∀v W',Below W.heap.size W W'->G i v W'->wpAnyIn (FR r) n P .any ops Q fuel (listed.setIfInBounds i true) (a.put o.dst v) W':=by
     intro v W' hB' hg';rw[hd];refine ih _ _ W' (aYR hB hB') (by simp;omega) (count_set (by omega) hn hc) ⟨by simp[Act.put,hs.size],hs.defs,fun e he=>?_⟩ (fun j hj hl=>?_) (fun k ok hk hok hl j hj=>?_) (fun j hj hl=>?_)
     . simp only[Act.put];rw[aJN (aPu (hS e he))];exact hs.val e he
     . rw [qN (by omega)]at hl;simp only[Act.put];by_cases c:D i=D j
       . obtain rfl:=hinj i j him hj c;exact⟨v,by simp[hs.size,hN],hg'⟩
       rw[aJN c];rcases hl with hl|hl
       . obtain⟨u,h1,h2⟩:=hv j hj hl;exact⟨u,h1,hG j hj u W W' h2 hB'⟩
       exact absurd (by rw[hl]) c
     . rw[qN (by omega)]at hl ⊢;rcases hl with hl|rfl
       . exact .inl (hcd k ok hk hok hl j hj)
       rw[ho]at hok;cases hok;exact .inl (TD j hj)
     rw[qN (by omega)]at hl;rcases hl with hl|rfl
     . exact hno j hj hl
     omega
    unfold wpOpIn;rw[ho];dsimp only;rw[aEo (O5 hg)];refine wS (by unfold XG;cases hq:o.op<;>first|rfl|(rw[hq]at hp;cases hp)) ?_;unfold Oper.wp;rcases hrun with⟨v,W',hrun,h1,h2⟩|⟨f,args,hrun,hc⟩
    . rw[hrun];exact nx v W' h1 h2
    rw[hrun,aVR];refine hc.mono fun e W1 hR=>?_;obtain⟨v,rfl,h1,h2⟩:=hR;exact nx v W1 h1 h2
  exfalso;by_cases aN9:m<i
  . obtain⟨e,he,hbe,heo⟩:=hch i o ho aN9;exact hno e.on (by omega) (haf e he hbe)
  obtain rfl:i=m:=by omega
  refine hall fun j hj=>(hcl hil (fun j=>j=i\/Ls listed j) (fun k ok hk hok hl j hj=>?_) (.inl rfl) j hj).resolve_left (by omega);by_cases c:k=i
  . subst c;rw[ho]at hok;cases hok;exact .inr (TD j hj)
  rcases hl with hl|hl
  . exact absurd hl c
  exact .inr (hcd k ok (by omega) hok hl j hj)
theorem gtD{a:Array Value}{k:Nat}{v:Value}(h:a[k]? =some v):a.getD k undef=v:=by simp[aTs,h]
structure Pzi where
 d:Nat
 af:List Nat
 op:Op
 v:Value
 st:Bool
 g:Value->World->Prop
 hst:st=true-> ∀u W,g u W->u=v
 mono: ∀v W W',g v W->Below W.heap.size W W'->g v W'
abbrev pv(d:Nat)(af:List Nat)(op:Op)(v:Value):Pzi:=⟨d,af,op,v,true,fun u _=>u=v,fun _ _ _ h=>h,fun _ _ _ h _=>h⟩
abbrev pn(d:Nat)(af:List Nat)(op:Op)(g:Value->World->Prop)(mono: ∀v W W',g v W->Below W.heap.size W W'->g v W'):Pzi:=⟨d,af,op,undef,false,g,(fun h=>by cases h),mono⟩
abbrev pz0:Pzi:=pv 0 [] (.move (.tmp 0)) undef
theorem MX {c:Code} {a:Act} {W:World} {Pz:List Pzi} {T:List (Option (Tmp × Bool) × Option Tmp × Op)} {TA:List (List Nat)} (hm:P.follows .mixedOrders=true)
 (hk:jH c=true/\(jV c).map key=Pz.map (fun x=>(none,some x.d,x.op))++T) (ha:(jV c).map IK=Pz.map (·.af)++TA) (hb:backOk (jV c) 0=true) (hT:T≠[])
 (hdf:Pz.all (fun x=> !kY x.op&&Nat.blt x.d N&&x.af.all (fun j=>Nat.blt j Pz.length&&(Pz.getD j pz0).st))=true) (hnd:(Pz.map (·.d)).Nodup) (hS: ∀e ∈ S,e.1 ∉ Pz.map (·.d)) (hcl:clB (Pz.map (·.af)++TA) Pz.length=true) (hch:chB (Pz.map (·.af)++TA) Pz.length=true)
 (h:Sl N S a)
 (hrun: ∀(i:Nat) (x:Pzi),Pz[i]? =some x-> ∀(o:Oper) a W1,Below W.heap.size W W1->o.op=x.op->Sl N (x.af.map (fun j=>((Pz.getD j pz0).d,(Pz.getD j pz0).v))++S) a->Gw P W1 a o x.g)
 (hfin: ∀ops l a W1 (V:Nat->Value),Below W.heap.size W W1->(∀j,j<Pz.length->(Pz.getD j pz0).g (V j) W1)->ops.toList.map key=Pz.map (fun x=>(none,some x.d,x.op))++T->l.map key=T->Sl N ((List.range Pz.length).map (fun j=>((Pz.getD j pz0).d,V j))++S) a->wpListIn (FR r) n P ops Q l a W1):c.wpIn (FR r) n P Q a W:=by
 obtain⟨hd,hk⟩:=hk;cases c with
 | region id ops b=>
  obtain rfl:b=true:=hd;change ops.toList.map key=_ at hk;change ops.toList.map IK=_ at ha;change backOk ops.toList 0=true at hb;have hlen:Pz.length+T.length=ops.size:=by have:=aPa List.length hk;simpa using this.symm
  have hTl:0<T.length:=by cases T with|nil=>exact absurd rfl hT|cons x t=>simp
  have opk: ∀i o,ops[i]? =some o->(Pz.map (fun x=>((none:Option (Tmp × Bool)),some x.d,x.op))++T)[i]? =some (key o)/\(Pz.map (·.af)++TA)[i]? =some (IK o):=fun i o ho=>by
   rw[<-hk,<-ha,aEC,aEC,aEt,ho];exact⟨rfl,rfl⟩
  have ZL: ∀i o,ops[i]? =some o->(Pz.map (·.af)++TA).getD i []=IK o:=fun i o ho=>by rw[List.getD,(opk i o ho).2];rfl
  have gD: ∀i (hi:i<Pz.length),Pz.getD i pz0=Pz[i]:=fun i hi=>by rw[List.getD,aE5 hi];rfl
  have d0:Below W.heap.size W W.drew:=⟨rfl,rfl,rfl,aC4 _,fun _ _=>rfl⟩;refine aVF hm (aIj (S:=S) (N:=N) (W0:=W) (m:=Pz.length) (D:=fun i=>(Pz.getD i pz0).d) (G:=fun i=>(Pz.getD i pz0).g) hb (by omega) (fun i hi=>(Pz.getD i pz0).mono) (fun i hi=>?_) (fun i j hi hj e=>?_) (fun _ L hL h0=>?_) (fun i o ho hi=>?_) (fun a W1 hB hs hv=>?_) _ _ _ _ d0 (by simp) (by simp[aWM]) h (fun j hj hl=>?_) (fun i o hi ho hl=>?_) (fun j hj hl=>?_))
  . have ho:ops[i]? =some ops[i]:=aJT (by omega);obtain⟨k1,k2⟩:=opk i _ ho;have hx:Pz[i]? =some Pz[i]:=aE5 hi;rw[aIG (by simpa using hi),aEC,hx]at k1 k2;simp only[aLw,aPb,key,aNS]at k1 k2;have hq:=aIJ.1 hdf _ (aLH hx);simp only[aEb,aTL]at hq;have hN:=RS hq.1.2;refine⟨ops[i],ho,k1.1.symm,by rw[gD i hi];exact k1.2.1.symm,by rw[<-k1.2.2];exact hq.1.1,by rw[gD i hi];exact hN,fun e he c=>hS e he ?_,fun a W1 hB hs hj=>?_⟩
    . rw[c,gD i hi];exact aLQ.2 ⟨_,aLH hx,rfl⟩
    rw[gD i hi];rw[<-k2]at hj;refine hrun i _ hx _ a W1 hB k1.2.2.symm ⟨hs.size,hs.defs,fun e he=>?_⟩;rcases aIK.1 he with he|he
    . obtain⟨j,hj1,rfl⟩:=aLQ.1 he;obtain⟨_,v,e1,e2⟩:=hj j hj1;have:=((aEb _ _).mp (aIJ.1 hq.2 j hj1)).2;rw[(Pz.getD j pz0).hst this v W1 e2]at e1;exact e1
    exact hs.val e he
  . simp only[gD i hi,gD j hj]at e;exact(aX5 (xs:=Pz.map (·.d)) (h₀:=by simpa using hi) (h₁:=by simpa using hj) hnd).1 (by simpa using e)
  . refine aH6 hcl (fun k hk hl j hj=>?_) h0;have ho:ops[k]? =some ops[k]:=aJT (by omega);rw[ZL k _ ho]at hj;exact hL k _ hk ho hl j hj
  . have hil:=(aEH.1 ho).1;have hA:(Pz.map (·.af)++TA).length=ops.size:=by have:=aPa List.length ha;simpa using this.symm
    have:=aIJ.1 hch i (aMv.2 (by omega));rw[ZL i o ho]at this;rcases(aMi _ _).mp this with c|c
    . have:=aK8 c;omega
    have c:i - 1 ∈ IK o:=by simpa using c
    obtain⟨e,he,h3⟩:=aLQ.1 c;obtain⟨h1,h2⟩:=aTr.1 he;exact⟨e,h1,h2,h3⟩
  . have hV: ∃V:Nat->Value,∀j,j<Pz.length->a.tmps[(Pz.getD j pz0).d]? =some (V j)/\(Pz.getD j pz0).g (V j) W1:=
     ⟨fun j=>a.tmps.getD (Pz.getD j pz0).d undef,fun j hjm=>by
      obtain⟨v,e1,e2⟩:=hv j hjm;have e:=gtD e1;dsimp only;rw[e];exact⟨e1,e2⟩⟩
    obtain⟨V,hV⟩:=hV;refine hfin ops _ a W1 V hB (fun j hj=>(hV j hj).2) hk (by rw[aUf,hk,aYc (by simp)]) ⟨hs.size,hs.defs,fun e he=>?_⟩;rcases aIK.1 he with he|he
    . obtain⟨j,hj,rfl⟩:=aLQ.1 he;exact(hV j (aMv.1 hj)).1
    exact hs.val e he
  . exfalso;unfold Ls at hl;simp[Array.getD]at hl
  . exfalso;unfold Ls at hl;simp[Array.getD]at hl
  unfold Ls at hl;simp[Array.getD]at hl
 |_=>
  have:=aPa List.length hk;simp[jV]at this;exact absurd (aO5.1 (by omega)) hT
theorem jT{W:World}{a:Act}{o:Oper}{v:Value}(h:(execOp a.eval o).run P W=.ok (.value v) W):Gw P W a o fun u _=>u=v:=.inl ⟨v,W,h,aDA _ _,rfl⟩
end
end
section
open Go.RowKit Go.Lib
noncomputable def wB:Code:=match(Tryz.f6).body with
 |some c=>c
 |none=>.skip
noncomputable def aR9:Code:=bF [1,1,1,0] wB
noncomputable def aNy:Code:=bF [1,1,1,1,0,0] wB
noncomputable def aJ6:Code:=bF [1,1,1,1,0,1,0,0,0] wB
noncomputable def aJ5:Code:=bF [1,1,1,1,0,1,0,0,1,1,0] wB
noncomputable def aJ4:Code:=bF [1,1,1,1,0,1,0,0,1,1,1,1] wB
noncomputable def aJ3:Code:=bF [1,1,1,1,0,1,0,1,0,0] wB
noncomputable def aB9:Code:=bF [1,1,1,1,0,1,0,1,1,0,0] wB
noncomputable def aB8:Code:=bF [1,1,1,1,0,1,0,1,1,0,1,1] wB
noncomputable def aGq:Code:=bF [1,1,1,1,0,1,0,1,1,1,0,0] wB
noncomputable def aGp:Code:=bF [1,1,1,1,0,1,0,1,1,1,0,1,0] wB
noncomputable def aGo:Code:=bF [1,1,1,1,0,1,0,1,1,1,0,1,1,0,0] wB
noncomputable def aGn:Code:=bF [1,1,1,1,0,1,0,1,1,1,0,1,1,0,1,0,0] wB
noncomputable def aGm:Code:=bF [1,1,1,1,0,1,0,1,1,1,0,1,1,0,1,0,1,0] wB
noncomputable def aGl:Code:=bF [1,1,1,1,0,1,0,1,1,1,0,1,1,0,1,0,1,1] wB
noncomputable def aB7:Code:=bF [1,1,1,1,0,1,0,1,1,1,0,1,1,1,0] wB
noncomputable def aGk:Code:=bF [1,1,1,1,1,0] wB
noncomputable def aGj:Code:=bF [1,1,1,1,1,1,0,0] wB
noncomputable def aGi:Code:=bF [1,1,1,1,1,1,0,1,0] wB
noncomputable def aLU:Code:=bF [1,1,1,1,1,1,1,0,0] wB
noncomputable def aGh:Code:=bF [1,1,1,1,1,1,1,0,1,0,0,0,0] wB
noncomputable def aGf:Code:=bF [1,1,1,1,1,1,1,0,1,0,0,1,0,0] wB
noncomputable def aGg:Code:=bF [1,1,1,1,1,1,1,0,1,0,0,1,1] wB
noncomputable def aGe:Code:=bF [1,1,1,1,1,1,1,1,0] wB
noncomputable def aGd:Code:=bF [1,1,1,1,1,1,1,1,1,0,0] wB
noncomputable def aGc:Code:=bF [1,1,1,1,1,1,1,1,1,0,1,0] wB
noncomputable def aGb:Code:=bF [1,1,1,1,1,1,1,1,1,1,0,0] wB
noncomputable def aGa:Code:=bF [1,1,1,1,1,1,1,1,1,1,0,1,0] wB
noncomputable def aF9:Code:=bF [1,1,1,1,1,1,1,1,1,1,1,0,0] wB
noncomputable def aF8:Code:=bF [1,1,1,1,1,1,1,1,1,1,1,0,1,0] wB
noncomputable def aB6:Code:=bF [1,1,1,1,1,1,1,1,1,1,1,1,0] wB
theorem aWd:wB=(.seq (bF [0] wB) (.seq (bF [1,0] wB) (.seq (.seq (bF [1,1,0,0] wB) (.cond (.tmp 13) (bF [1,1,0,1,0] wB) .skip)) (.seq aR9 (.seq (.seq aNy (.block 0 (.seq (.seq aJ6 (.cond (.tmp 24) .skip (.seq aJ5 (.cond (.tmp 24) .skip aJ4)))) (.cond (.tmp 24) (.seq aJ3 .ret) (.seq (.seq aB9 (.cond (.tmp 34) .skip aB8)) (.cond (.tmp 34) (.seq aGq (.seq aGp (.seq (.seq aGo (.cond (.tmp 58) (.seq aGn (.cond (.tmp 61) aGm aGl)) .skip)) (.seq aB7 .ret)))) .skip)))))) (.seq aGk (.seq (.seq aGj (.cond (.tmp 86) aGi .skip)) (.seq (.seq aLU (.block 1 (.loop (.seq (.seq aGh (.cond (.tmp 91) .skip (.exit 1))) (.seq (.block 2 aGf) aGg))))) (.seq aGe (.seq (.seq aGd (.cond (.tmp 111) aGc .skip)) (.seq (.seq aGb (.cond (.tmp 122) aGa .skip)) (.seq (.seq aF9 (.cond (.tmp 139) aF8 .skip)) (.seq aB6 .ret))))))))))))):=by kernel_rfl
abbrev vY(k:Int)(d:Dt):List Value:=.int .u8 k::nK d
theorem D8(k:Int)(d:Dt): ∀v ∈ vY k d,v.oneCell'=true:=fun v hv=>(aLr.1 hv).elim (fun e=>by rw[e];rfl) (aCC d v)
theorem zero32(W:World):(zeroValue 32).run prog W=.ok (.agg (vY 0 z0).toArray) W:=by kernel_rfl
theorem wq{n:Nat}(h:n<256):IntKind.u8.wrap ((n:Int).tdiv 2)=((n / 2:Nat):Int):=by
 rw[show Int.tdiv (n:Int) 2=((n / 2:Nat):Int)from rfl,aUE];omega
theorem aNr{w w':World}{B e size n:Nat}{v:Value}{xs:List Value}(h:w.ownsRow B e size v n xs)(hb:Below w.heap.size w w'):w'.ownsRow B e size v n xs:=by
 refine⟨h.1,?_⟩;rcases h.2 with hn|⟨g,cap,cur,rfl,hg,hgg,rest⟩
 . exact .inl hn
 exact .inr ⟨g,cap,cur,rfl,hg,by rw[hb.block g (aEH.1 hgg).1];exact hgg,rest⟩
theorem aJR{w:World}{B e size n p k:Nat}{v:Value}{xs us:List Value}(h:w.ownsRow B e size v n xs)(hp:p<B):(w.setCells p k us).ownsRow B e size v n xs:=by
 refine⟨h.1,?_⟩;rcases h.2 with hn|⟨g,cap,cur,rfl,hg,hgg,rest⟩
 . exact .inl hn
 exact .inr ⟨g,cap,cur,rfl,hg,by rw[jP us k w g (by omega)];exact hgg,rest⟩
theorem aFR{w:World}{B e size n:Nat}{v:Value}{xs:List Value}(h:w.ownsRow B e size v n xs): ∃ad c,v=.slice ad n c:=by
 rcases h.2 with⟨rfl,rfl⟩|⟨g,cap,cur,rfl,_⟩
 . exact⟨_,_,rfl⟩
 exact⟨_,_,rfl⟩
section
variable{r:Option Nat}{Q:Exit->Act->World->Prop}{a:Act}{W:World}{pe pr p4 p5 p6 c:Nat}{bs:Option Addr}{L:List Iz}{k0 e0 e1 bi:Nat}{ls:Value}
theorem aNA{n0:Nat}(hI:rF W bs L)(h0:0<L.length)(hok:(L.getD 0 gX).Ok)(fr:dA W pr 35 zE)(hn:n0<=pr)(hn2:n0<=W.heap.size)(h:Sl 142 [(2,aYW pr 0),(3,.slice bs L.length c)] a)(k: ∀a W2,Below n0 W W2->dA W2 pr 35 (oI 1 (L.getD 0 gX).a.dt 0 z0 0 z0 (.slice none 0 0) false false)->Sl 142 [(2,aYW pr 0)] a->Q .normal a W2):aJ3.wpIn (FR r) 0 prog Q a W:=by
 obtain⟨g,o,eb,hg,hr⟩:=hI 0 h0;refine aG [km 28 3,(none,some 29,.indexAddr 22 (.tmp 28) (.const (.int .i64 0))),kf 30 71 29 0,kl 31 69 30,(none,some 32,.call ⟨.value (.func 23),#[(.tmp 31)],#[69]⟩),(none,some 33,.build 35 #[(0,(.const (.int .u8 1))),(1,(.tmp 32))]),ks' 35 2 33] fun ops l hK hk=>?_;refine mV (v:=.slice bs L.length c) hk h fun l a hk h=>
 sV (v:=aYW g (o+0 * 21)) hk h (fun _ ho=>fP (g:=g) (off:=o) (n:=L.length) (cp:=c) (el:=71) (sz:=21) (i:=0) vJ LZ h0 ho (by rw[<-eb];exact sT h) rfl) fun l a hk h=>
 sV (v:=aYW g (o+0 * 21+0)) hk h (fun _ ho=>aJ (b:=g) (o':=o+0 * 21) TR ho (sT h)) fun l a hk h=>
 sV (v:=(L.getD 0 gX).a.v) hk h (fun _ ho=>bC (b:=g) (off:=o+0 * 21+0) (cs:=(L.getD 0 gX).a.l) (jF 0 hr (pI (n:=10) rfl)) underlying69 rfl (by kernel_rfl) ho (sT h)) fun l a hk h=>?_
 refine sc hk h rfl (by decide) (fun _ ho=>fU ho func23) (R:=fun e w'=>e=.returned (dP (L.getD 0 gX).a.dt)/\Below W.heap.size W w') (by rw[aHe,sT h (v:=(L.getD 0 gX).a.v)];exact sOf hok.a W (aDA _ _)) (fun e W1 hR=>⟨_,hR.1,fun l a hk h=>?_⟩);have B:=hR.2;have f1:=aT fr (B.block pr (aS fr));refine sV (v:=exV 1 (L.getD 0 gX).a.dt 0 z0 0 z0 (.slice none 0 0) false false) hk h (fun _ ho=>aFD ho (sT h)) fun l a hk h=>?_;refine ss (g:=none) hk h rfl (fun _ ho=>iG (b:=pr) (off:=0) (cs:=oI 1 (L.getD 0 gX).a.dt 0 z0 0 z0 (.slice none 0 0) false false) (show World.there _ _ 0 36 from aX f1) (by kernel_rfl) (DK ⟨1,(L.getD 0 gX).a.dt,0,z0,0,z0,none,0,[],false,false⟩) ho (sT h) (sT h)) (fun l hk=>?_);exact s0 hk (k _ _ (dM hn _ _ (B.mono hn2)) (bM f1 rfl) (aN h))
theorem aKr(hI:rF W bs L)(h0:0<L.length)(hok:(L.getD 0 gX).Ok)(fe:dA W pe 25 (eA k0 ls e0 e1 bi))(he:e0<256)(h:Sl 142 [(1,aYW pe 0),(2,aYW pr 0),(3,.slice bs L.length c)] a)(k: ∀a W2 p,Below W.heap.size W W2->W.heap.size<=p->dA W2 p 32 (vY (ZR e0) (UO e0 (L.getD 0 gX).a))->Sl 142 [(4,aYW p 0),(1,aYW pe 0),(2,aYW pr 0),(3,.slice bs L.length c)] a->Q .normal a W2):aGq.wpIn (FR r) 0 prog Q a W:=by
 obtain⟨g,o,eb,hg,hr⟩:=hI 0 h0;have fW: ∀W1,Below W.heap.size W W1->dA W1 pe 25 (eA k0 ls e0 e1 bi)/\W1.rangeAt g (o+0 * 21) (L.getD 0 gX).l:=fun W1 B=>⟨aT fe (B.block pe (aS fe)),fun j v hv=>(B.cell (p:=⟨g,_,none⟩) hg).trans (hr j v hv)⟩;refine MX (W:=W) (S:=[(1,aYW pe 0),(2,aYW pr 0),(3,.slice bs L.length c)]) (N:=142) (Pz:=[pv 37 [] (.fieldAddr 25 (.tmp 1) 2) (aYW pe (0+2)),pv 38 [0] (.indexAddr 23 (.tmp 37) (.const (.int .i64 0))) (aYW pe (0+2+0 * 1)),pv 39 [1] (.load 5 (.tmp 38)) (.int .u8 (e0:Int)),pv 40 [] (.move (.tmp 3)) (.slice bs L.length c),pv 41 [3] (.indexAddr 22 (.tmp 40) (.const (.int .i64 0))) (aYW g (o+0 * 21)),pv 42 [4] (.fieldAddr 71 (.tmp 41) 0) (aYW g (o+0 * 21+0)),pv 43 [5] (.load 69 (.tmp 42)) ((L.getD 0 gX).a.v),pv 44 [2,6] (.build 74 #[(0,(.tmp 39)),(1,(.tmp 43))]) (.agg (.int .u8 (e0:Int)::(L.getD 0 gX).a.l).toArray),pv 45 [7] (.call ⟨.value (.func 24),#[(.tmp 44)],#[74]⟩) (rE (ZR e0) (UO e0 (L.getD 0 gX).a)),pn 4 [] (.alloc 32) (fun v W2=> ∃p,v=aYW p 0/\W.heap.size<=p/\dA W2 p 32 (vY 0 z0)) (fun _ _ _ ⟨p,e,h1,h2⟩ hb=>⟨p,e,h1,yL h2 hb⟩)]) (T:=[(none,none,.store 32 (.tmp 4) (.tmp 45))]) (TA:=[[9,8,8,0,1,2,3,4,5,6,7,8,9]]) (by kernel_rfl) (And.intro (by kernel_rfl) (by kernel_rfl)) (by kernel_rfl) (by kernel_rfl) (by simp) (by kernel_rfl) (by simp) (by simp) (by kernel_rfl) (by kernel_rfl) h (fun j y hy=>?_) (fun ops l a W1 V B hV hK hk h=>?_)
 . match j,hy with
   |0,hy=>cases hy;exact fun oo a W1 B ho h=>jT (aJ (b:=pe) (o':=0) aHv ho (sT h))
   |1,hy=>cases hy;exact fun oo a W1 B ho h=>jT (wP (b:=pe) (off:=0+2) (i:=0) (len:=2) (el:=5) (sz:=1) (by kernel_rfl) aSy (by decide) ho (sT h) rfl)
   |2,hy=>cases hy;exact fun oo a W1 B ho h=>jT (gK (b:=pe) (off:=0+2+0 * 1) lY ho (sT h) (aI (j:=0+2+0 * 1) (fW W1 B).1 rfl))
   |3,hy=>cases hy;exact fun oo a W1 B ho h=>jT (eY ho (sT h))
   |4,hy=>cases hy;exact fun oo a W1 B ho h=>jT (fP (g:=g) (off:=o) (n:=L.length) (cp:=c) (el:=71) (sz:=21) (i:=0) vJ LZ h0 ho (by rw[<-eb];exact sT h) rfl)
   |5,hy=>cases hy;exact fun oo a W1 B ho h=>jT (aJ (b:=g) (o':=o+0 * 21) TR ho (sT h))
   |6,hy=>cases hy;exact fun oo a W1 B ho h=>jT (bC (b:=g) (off:=o+0 * 21+0) (cs:=(L.getD 0 gX).a.l) (jF 0 (fW W1 B).2 (pI (n:=10) rfl)) underlying69 rfl (by kernel_rfl) ho (sT h))
   |7,hy=>cases hy;exact fun oo a W1 B ho h=>jT (aB2 ho (sT h) (sT h))
   |8,hy=>cases hy;exact fun oo a W1 B ho h=>.inr ⟨_,_,fU ho func24,by rw[aHe,sT h (v:=.agg (.int .u8 (e0:Int)::(L.getD 0 gX).a.l).toArray)];exact(sBo hok.a he W1 (aDA _ _)).mono fun e W2 hR=>⟨_,hR.1,hR.2,rfl⟩⟩
   |9,hy=>cases hy;exact fun oo a W1 B ho h=>.inl ⟨_,_,oH ho (zero32 W1),dZ (dN (vY 0 z0)),W1.heap.size,rfl,B.size,(dN (vY 0 z0)).2.2.2.1⟩
 have q0:V 0=aYW pe (0+2):=hV 0 (show 0<10 by decide);have q1:V 1=aYW pe (0+2+0 * 1):=hV 1 (show 1<10 by decide);have q2:V 2=.int .u8 (e0:Int):=hV 2 (show 2<10 by decide);have q3:V 3=.slice bs L.length c:=hV 3 (show 3<10 by decide);have q4:V 4=aYW g (o+0 * 21):=hV 4 (show 4<10 by decide);have q5:V 5=aYW g (o+0 * 21+0):=hV 5 (show 5<10 by decide);have q6:V 6=(L.getD 0 gX).a.v:=hV 6 (show 6<10 by decide);have q7:V 7=.agg (.int .u8 (e0:Int)::(L.getD 0 gX).a.l).toArray:=hV 7 (show 7<10 by decide);have q8:V 8=rE (ZR e0) (UO e0 (L.getD 0 gX).a):=hV 8 (show 8<10 by decide);have q9: ∃p,V 9=aYW p 0/\W.heap.size<=p/\dA W1 p 32 (vY 0 z0):=hV 9 (show 9<10 by decide);change Sl 142 ([(37,V 0),(38,V 1),(39,V 2),(40,V 3),(41,V 4),(42,V 5),(43,V 6),(44,V 7),(45,V 8),(4,V 9)]++[(1,aYW pe 0),(2,aYW pr 0),(3,.slice bs L.length c)]) a at h;obtain⟨p,q9,hp,fp⟩:=q9;rw[q8,q9]at h;refine ss (g:=none) hk h rfl (fun _ ho=>iG (b:=p) (off:=0) (cs:=vY (ZR e0) (UO e0 (L.getD 0 gX).a)) (show World.there _ _ 0 11 from aX fp) (by kernel_rfl) (D8 _ _) ho (sT h) (sT h)) (fun l hk=>?_);exact s0 hk (k _ _ p (dM hp _ _ B) hp (bM fp rfl) (aN h))
theorem aKq(hI:rF W bs L)(h0:0<L.length)(hok:(L.getD 0 gX).Ok)(fe:dA W pe 25 (eA k0 ls e0 e1 bi))(he:e1<256)(h:Sl 142 [(1,aYW pe 0),(2,aYW pr 0),(3,.slice bs L.length c),(4,aYW p4 0)] a)(k: ∀a W2 p,Below W.heap.size W W2->W.heap.size<=p->dA W2 p 32 (vY (ZR e1) (UO e1 (L.getD 0 gX).b))->Sl 142 [(5,aYW p 0),(1,aYW pe 0),(2,aYW pr 0),(3,.slice bs L.length c),(4,aYW p4 0)] a->Q .normal a W2):aGp.wpIn (FR r) 0 prog Q a W:=by
 obtain⟨g,o,eb,hg,hr⟩:=hI 0 h0;have fW: ∀W1,Below W.heap.size W W1->dA W1 pe 25 (eA k0 ls e0 e1 bi)/\W1.rangeAt g (o+0 * 21) (L.getD 0 gX).l:=fun W1 B=>⟨aT fe (B.block pe (aS fe)),fun j v hv=>(B.cell (p:=⟨g,_,none⟩) hg).trans (hr j v hv)⟩;refine MX (W:=W) (S:=[(1,aYW pe 0),(2,aYW pr 0),(3,.slice bs L.length c),(4,aYW p4 0)]) (N:=142) (Pz:=[pv 46 [] (.fieldAddr 25 (.tmp 1) 2) (aYW pe (0+2)),pv 47 [0] (.indexAddr 23 (.tmp 46) (.const (.int .i64 1))) (aYW pe (0+2+1 * 1)),pv 48 [1] (.load 5 (.tmp 47)) (.int .u8 (e1:Int)),pv 49 [] (.move (.tmp 3)) (.slice bs L.length c),pv 50 [3] (.indexAddr 22 (.tmp 49) (.const (.int .i64 0))) (aYW g (o+0 * 21)),pv 51 [4] (.fieldAddr 71 (.tmp 50) 2) (aYW g (o+0 * 21+11)),pv 52 [5] (.load 69 (.tmp 51)) ((L.getD 0 gX).b.v),pv 53 [2,6] (.build 74 #[(0,(.tmp 48)),(1,(.tmp 52))]) (.agg (.int .u8 (e1:Int)::(L.getD 0 gX).b.l).toArray),pv 54 [7] (.call ⟨.value (.func 24),#[(.tmp 53)],#[74]⟩) (rE (ZR e1) (UO e1 (L.getD 0 gX).b)),pn 5 [] (.alloc 32) (fun v W2=> ∃p,v=aYW p 0/\W.heap.size<=p/\dA W2 p 32 (vY 0 z0)) (fun _ _ _ ⟨p,e,h1,h2⟩ hb=>⟨p,e,h1,yL h2 hb⟩)]) (T:=[(none,none,.store 32 (.tmp 5) (.tmp 54))]) (TA:=[[9,8,8,0,1,2,3,4,5,6,7,8,9]]) (by kernel_rfl) (And.intro (by kernel_rfl) (by kernel_rfl)) (by kernel_rfl) (by kernel_rfl) (by simp) (by kernel_rfl) (by simp) (by simp) (by kernel_rfl) (by kernel_rfl) h (fun j y hy=>?_) (fun ops l a W1 V B hV hK hk h=>?_)
 . match j,hy with
   |0,hy=>cases hy;exact fun oo a W1 B ho h=>jT (aJ (b:=pe) (o':=0) aHv ho (sT h))
   |1,hy=>cases hy;exact fun oo a W1 B ho h=>jT (wP (b:=pe) (off:=0+2) (i:=1) (len:=2) (el:=5) (sz:=1) (by kernel_rfl) aSy (by decide) ho (sT h) rfl)
   |2,hy=>cases hy;exact fun oo a W1 B ho h=>jT (gK (b:=pe) (off:=0+2+1 * 1) lY ho (sT h) (aI (j:=0+2+1 * 1) (fW W1 B).1 rfl))
   |3,hy=>cases hy;exact fun oo a W1 B ho h=>jT (eY ho (sT h))
   |4,hy=>cases hy;exact fun oo a W1 B ho h=>jT (fP (g:=g) (off:=o) (n:=L.length) (cp:=c) (el:=71) (sz:=21) (i:=0) vJ LZ h0 ho (by rw[<-eb];exact sT h) rfl)
   |5,hy=>cases hy;exact fun oo a W1 B ho h=>jT (aJ (b:=g) (o':=o+0 * 21) aHq ho (sT h))
   |6,hy=>cases hy;exact fun oo a W1 B ho h=>jT (bC (b:=g) (off:=o+0 * 21+11) (cs:=(L.getD 0 gX).b.l) (jF 11 (fW W1 B).2 (pI (n:=10) rfl)) underlying69 rfl (by kernel_rfl) ho (sT h))
   |7,hy=>cases hy;exact fun oo a W1 B ho h=>jT (aB2 ho (sT h) (sT h))
   |8,hy=>cases hy;exact fun oo a W1 B ho h=>.inr ⟨_,_,fU ho func24,by rw[aHe,sT h (v:=.agg (.int .u8 (e1:Int)::(L.getD 0 gX).b.l).toArray)];exact(sBo hok.b he W1 (aDA _ _)).mono fun e W2 hR=>⟨_,hR.1,hR.2,rfl⟩⟩
   |9,hy=>cases hy;exact fun oo a W1 B ho h=>.inl ⟨_,_,oH ho (zero32 W1),dZ (dN (vY 0 z0)),W1.heap.size,rfl,B.size,(dN (vY 0 z0)).2.2.2.1⟩
 have q0:V 0=aYW pe (0+2):=hV 0 (show 0<10 by decide);have q1:V 1=aYW pe (0+2+1 * 1):=hV 1 (show 1<10 by decide);have q2:V 2=.int .u8 (e1:Int):=hV 2 (show 2<10 by decide);have q3:V 3=.slice bs L.length c:=hV 3 (show 3<10 by decide);have q4:V 4=aYW g (o+0 * 21):=hV 4 (show 4<10 by decide);have q5:V 5=aYW g (o+0 * 21+11):=hV 5 (show 5<10 by decide);have q6:V 6=(L.getD 0 gX).b.v:=hV 6 (show 6<10 by decide);have q7:V 7=.agg (.int .u8 (e1:Int)::(L.getD 0 gX).b.l).toArray:=hV 7 (show 7<10 by decide);have q8:V 8=rE (ZR e1) (UO e1 (L.getD 0 gX).b):=hV 8 (show 8<10 by decide);have q9: ∃p,V 9=aYW p 0/\W.heap.size<=p/\dA W1 p 32 (vY 0 z0):=hV 9 (show 9<10 by decide);change Sl 142 ([(46,V 0),(47,V 1),(48,V 2),(49,V 3),(50,V 4),(51,V 5),(52,V 6),(53,V 7),(54,V 8),(5,V 9)]++[(1,aYW pe 0),(2,aYW pr 0),(3,.slice bs L.length c),(4,aYW p4 0)]) a at h;obtain⟨p,q9,hp,fp⟩:=q9;rw[q8,q9]at h;refine ss (g:=none) hk h rfl (fun _ ho=>iG (b:=p) (off:=0) (cs:=vY (ZR e1) (UO e1 (L.getD 0 gX).b)) (show World.there _ _ 0 11 from aX fp) (by kernel_rfl) (D8 _ _) ho (sT h) (sT h)) (fun l hk=>?_);exact s0 hk (k _ _ p (dM hp _ _ B) hp (bM fp rfl) (aN h))
variable{fk tk:Int}{f t:Dt}
theorem aKp(hst:SS W)(sf:Sm f)(st:Sm t)(bf:zB fk f)(bt:zB tk t)(f4:dA W p4 32 (vY fk f))(f5:dA W p5 32 (vY tk t))(h:Sl 142 [(2,aYW pr 0),(3,.slice bs L.length c),(4,aYW p4 0),(5,aYW p5 0)] a)(k: ∀a W2,Below W.heap.size W W2->Sl 142 ((58,.bool (!decide (mQ fk f tk t=0)))::[(2,aYW pr 0),(3,.slice bs L.length c),(4,aYW p4 0),(5,aYW p5 0)]) a->Q .normal a W2):aGo.wpIn (FR r) 0 prog Q a W:=by
 refine aG [kl 55 32 4,kl 56 32 5,(none,some 57,.call ⟨.value (.func 25),#[(.tmp 55),(.tmp 56)],#[32,32]⟩),(none,some 58,.binOp .neq 3 (.tmp 57) (.const (.int .i64 0)) 3)] fun ops l hK hk=>?_;refine sV (v:=rE fk f) hk h (fun _ ho=>bC (b:=p4) (off:=0) (cs:=vY fk f) (aO f4) underlying32 rfl (by kernel_rfl) ho (sT h)) fun l a hk h=>
 sV (v:=rE tk t) hk h (fun _ ho=>bC (b:=p5) (off:=0) (cs:=vY tk t) (aO f5) underlying32 rfl (by kernel_rfl) ho (sT h)) fun l a hk h=>?_
 refine sc hk h rfl (by decide) (fun _ ho=>fU ho func25) (R:=fun e w'=>e=.returned (.int .i64 (mQ fk f tk t))/\Below W.heap.size W w') (by rw[tJ,sT h (k:=55) (v:=rE fk f),sT h (k:=56) (v:=rE tk t)];exact(aFk hst sf st bf bt).2 W (aDA _ _)) (fun e W1 hR=>⟨_,hR.1,fun l a hk h=>?_⟩);refine sV (v:=.bool (!decide (mQ fk f tk t=0))) hk h (fun _ ho=>KN (q:=.i64) ho (sT h) rfl) fun l a hk h=>?_;exact s0 hk (k _ _ hR.2 (aN h))
theorem aKo(f4:dA W p4 32 (vY fk f))(h:Sl 142 [(2,aYW pr 0),(3,.slice bs L.length c),(4,aYW p4 0),(5,aYW p5 0)] a)(k: ∀a,Sl 142 ((61,.bool (!decide (fk=1)))::[(2,aYW pr 0),(3,.slice bs L.length c),(4,aYW p4 0),(5,aYW p5 0)]) a->Q .normal a W):aGn.wpIn (FR r) 0 prog Q a W:=by
 refine aG [kf 59 32 4 0,kl 60 5 59,(none,some 61,.binOp .neq 5 (.tmp 60) (.const (.int .u8 1)) 5)] fun ops l hK hk=>?_;refine sV (v:=aYW p4 (0+0)) hk h (fun _ ho=>aJ (b:=p4) (o':=0) FB ho (sT h)) fun l a hk h=>
 lV lY (v:=.int .u8 fk) hk h (aI (j:=0+0) f4 rfl) fun l a hk h=>
 sV (v:=.bool (!decide (fk=1))) hk h (fun _ ho=>KN (q:=.u8) ho (sT h) rfl) fun l a hk h=>?_
 exact s0 hk (k _ (aN h))
theorem aKn{n0:Nat}(hI:rF W bs L)(h0:0<L.length)(hok:(L.getD 0 gX).Ok)(f5:dA W p5 32 (vY tk t))(hn:n0<=p5)(hn2:n0<=W.heap.size)(h45:p4≠p5)(h4:p4<W.heap.size)(h2:pr≠p5)(h2':pr<W.heap.size)(h:Sl 142 [(2,aYW pr 0),(3,.slice bs L.length c),(4,aYW p4 0),(5,aYW p5 0)] a)(k: ∀a W2,Below n0 W W2->(∀b,b<W.heap.size->b≠p5->W2.heap[b]? =W.heap[b]?)->dA W2 p5 32 (vY 1 (L.getD 0 gX).b.ex)->Sl 142 [(2,aYW pr 0),(3,.slice bs L.length c),(4,aYW p4 0),(5,aYW p5 0)] a->Q .normal a W2):aGm.wpIn (FR r) 0 prog Q a W:=by
 obtain⟨g,o,eb,hg,hr⟩:=hI 0 h0;refine aG [km 62 3,(none,some 63,.indexAddr 22 (.tmp 62) (.const (.int .i64 0))),kf 64 71 63 2,kl 65 69 64,(none,some 66,.call ⟨.value (.func 26),#[(.tmp 65)],#[69]⟩),(none,some 67,.build 32 #[(0,(.const (.int .u8 1))),(1,(.tmp 66))]),ks' 32 5 67] fun ops l hK hk=>?_;refine mV (v:=.slice bs L.length c) hk h fun l a hk h=>
 sV (v:=aYW g (o+0 * 21)) hk h (fun _ ho=>fP (g:=g) (off:=o) (n:=L.length) (cp:=c) (el:=71) (sz:=21) (i:=0) vJ LZ h0 ho (by rw[<-eb];exact sT h) rfl) fun l a hk h=>
 sV (v:=aYW g (o+0 * 21+11)) hk h (fun _ ho=>aJ (b:=g) (o':=o+0 * 21) aHq ho (sT h)) fun l a hk h=>
 sV (v:=(L.getD 0 gX).b.v) hk h (fun _ ho=>bC (b:=g) (off:=o+0 * 21+11) (cs:=(L.getD 0 gX).b.l) (jF 11 hr (pI (n:=10) rfl)) underlying69 rfl (by kernel_rfl) ho (sT h)) fun l a hk h=>?_
 refine sc hk h rfl (by decide) (fun _ ho=>fU ho func26) (R:=fun e w'=>e=.returned (dP (L.getD 0 gX).b.ex)/\Below W.heap.size W w') (by rw[aHe,sT h (v:=(L.getD 0 gX).b.v)];exact sEx hok.b W (aDA _ _)) (fun e W1 hR=>⟨_,hR.1,fun l a hk h=>?_⟩);have B:=hR.2;have f1:=aT f5 (B.block p5 (aS f5));refine sV (v:=rE 1 (L.getD 0 gX).b.ex) hk h (fun _ ho=>aJB ho (sT h)) fun l a hk h=>?_;refine ss (g:=none) hk h rfl (fun _ ho=>iG (b:=p5) (off:=0) (cs:=vY 1 (L.getD 0 gX).b.ex) (show World.there _ _ 0 11 from aX f1) (by kernel_rfl) (D8 _ _) ho (sT h) (sT h)) (fun l hk=>?_);exact s0 hk (k _ _ (dM hn _ _ (B.mono hn2)) (fun b hb hne=>(jP _ _ _ b hne).trans (B.block b hb)) (bM f1 rfl) (aN h))
theorem aKm{n0:Nat}(f4:dA W p4 32 (vY fk f))(f5:dA W p5 32 (vY tk t))(hn:n0<=p4)(hn2:n0<=p5)(h45:p4≠p5)(h:Sl 142 [(2,aYW pr 0),(3,.slice bs L.length c),(4,aYW p4 0),(5,aYW p5 0)] a)(k: ∀a W2,Below n0 W W2->(∀b,b≠p4->b≠p5->W2.heap[b]? =W.heap[b]?)->dA W2 p4 32 (vY tk t)->dA W2 p5 32 (vY fk f)->Sl 142 [(2,aYW pr 0),(3,.slice bs L.length c),(4,aYW p4 0),(5,aYW p5 0)] a->Q .normal a W2):aGl.wpIn (FR r) 0 prog Q a W:=by
 refine aG [kl 68 32 5,kl 69 32 4,ks' 32 4 68,ks' 32 5 69] fun ops l hK hk=>?_;refine sV (v:=rE tk t) hk h (fun _ ho=>bC (b:=p5) (off:=0) (cs:=vY tk t) (aO f5) underlying32 rfl (by kernel_rfl) ho (sT h)) fun l a hk h=>
 sV (v:=rE fk f) hk h (fun _ ho=>bC (b:=p4) (off:=0) (cs:=vY fk f) (aO f4) underlying32 rfl (by kernel_rfl) ho (sT h)) fun l a hk h=>?_
 refine ss (g:=none) hk h rfl (fun _ ho=>iG (b:=p4) (off:=0) (cs:=vY tk t) (show World.there _ _ 0 11 from aX f4) (by kernel_rfl) (D8 _ _) ho (sT h) (sT h)) (fun l hk=>?_);have g5:=aT f5 (jP (p:=p4) (vY tk t) 0 W p5 (aPu h45));refine ss (g:=none) hk h rfl (fun _ ho=>iG (b:=p5) (off:=0) (cs:=vY fk f) (show World.there _ _ 0 11 from aX g5) (by kernel_rfl) (D8 _ _) ho (sT h) (sT h)) (fun l hk=>?_);exact s0 hk (k _ _ (dM hn2 _ _ (dM hn _ _ (aDA _ _))) (fun b h4 h5=>(jP _ _ _ b h5).trans (jP _ _ _ b h4)) (aT (bM f4 rfl) (jP _ _ _ p4 h45)) (bM g5 rfl) (aN h))
theorem aKl{n0:Nat}(f4:dA W p4 32 (vY fk f))(f5:dA W p5 32 (vY tk t))(fr:dA W pr 35 zE)(hn:n0<=pr)(h:Sl 142 [(2,aYW pr 0),(3,.slice bs L.length c),(4,aYW p4 0),(5,aYW p5 0)] a)(k: ∀a W2,Below n0 W W2->dA W2 pr 35 (oI 2 z0 fk f tk t (.slice none 0 0) false false)->Sl 142 [(2,aYW pr 0)] a->Q .normal a W2):aB7.wpIn (FR r) 0 prog Q a W:=by
 refine aG [kl 70 32 4,kl 71 32 5,(none,some 72,.build 35 #[(0,(.const (.int .u8 2))),(2,(.tmp 70)),(3,(.tmp 71))]),ks' 35 2 72] fun ops l hK hk=>?_;refine sV (v:=rE fk f) hk h (fun _ ho=>bC (b:=p4) (off:=0) (cs:=vY fk f) (aO f4) underlying32 rfl (by kernel_rfl) ho (sT h)) fun l a hk h=>
 sV (v:=rE tk t) hk h (fun _ ho=>bC (b:=p5) (off:=0) (cs:=vY tk t) (aO f5) underlying32 rfl (by kernel_rfl) ho (sT h)) fun l a hk h=>
 sV (v:=exV 2 z0 fk f tk t (.slice none 0 0) false false) hk h (fun _ ho=>aFE ho (sT h) (sT h)) fun l a hk h=>?_
 refine ss (g:=none) hk h rfl (fun _ ho=>iG (b:=pr) (off:=0) (cs:=oI 2 z0 fk f tk t (.slice none 0 0) false false) (show World.there _ _ 0 36 from aX fr) (by kernel_rfl) (DK ⟨2,z0,fk,f,tk,t,none,0,[],false,false⟩) ho (sT h) (sT h)) (fun l hk=>?_);exact s0 hk (k _ _ (dM hn _ _ (aDA _ _)) (bM fr rfl) (aN h))
theorem aKk(fe:dA W pe 25 (eA k0 ls e0 e1 bi))(hb:bi<256)(h:Sl 142 [(1,aYW pe 0),(2,aYW pr 0),(3,.slice bs L.length c)] a)(k: ∀a W2 p,Below W.heap.size W W2->W.heap.size<=p->dA W2 p 35 (oI 3 z0 0 z0 0 z0 (.slice none 0 0) (decide (((bi % 2:Nat):Int)=1)) (decide (((bi / 2 % 2:Nat):Int)=1)))->Sl 142 [(6,aYW p 0),(1,aYW pe 0),(2,aYW pr 0),(3,.slice bs L.length c)] a->Q .normal a W2):aGk.wpIn (FR r) 0 prog Q a W:=by
 refine aG [kf 73 25 1 3,kl 74 5 73,(none,some 75,.binOp .rem 5 (.tmp 74) (.const (.int .u8 2)) 5),(none,some 76,.binOp .eql 5 (.tmp 75) (.const (.int .u8 1)) 5),kf 77 25 1 3,kl 78 5 77,(none,some 79,.binOp .quo 5 (.tmp 78) (.const (.int .u8 2)) 5),(none,some 80,.binOp .rem 5 (.tmp 79) (.const (.int .u8 2)) 5),(none,some 81,.binOp .eql 5 (.tmp 80) (.const (.int .u8 1)) 5),(none,some 82,.build 35 #[(0,(.const (.int .u8 3))),(5,(.tmp 76)),(6,(.tmp 81))]),(none,some 6,.alloc 35),ks' 35 6 82] fun ops l hK hk=>?_;refine sV (v:=aYW pe (0+4)) hk h (fun _ ho=>aJ (b:=pe) (o':=0) aHu ho (sT h)) fun l a hk h=>
 lV lY (v:=.int .u8 (bi:Int)) hk h (aI (j:=0+4) fe rfl) fun l a hk h=>
 sV (v:=.int .u8 ((bi % 2:Nat):Int)) hk h (fun _ ho=>aBY 2 (by decide) ho (sT h)) fun l a hk h=>
 sV (v:=.bool (decide (((bi % 2:Nat):Int)=1))) hk h (fun _ ho=>jE (q:=.u8) ho (sT h) rfl) fun l a hk h=>
 sV (v:=aYW pe (0+4)) hk h (fun _ ho=>aJ (b:=pe) (o':=0) aHu ho (sT h)) fun l a hk h=>
 lV lY (v:=.int .u8 (bi:Int)) hk h (aI (j:=0+4) fe rfl) fun l a hk h=>
 sV (v:=.int .u8 ((bi / 2:Nat):Int)) hk h (fun _ ho=>by rw[<-wq hb];exact aAw ho (sT h) rfl) fun l a hk h=>?_
 refine sV (v:=.int .u8 ((bi / 2 % 2:Nat):Int)) hk h (fun _ ho=>aBY 2 (by decide) ho (sT h)) fun l a hk h=>
 sV (v:=.bool (decide (((bi / 2 % 2:Nat):Int)=1))) hk h (fun _ ho=>jE (q:=.u8) ho (sT h) rfl) fun l a hk h=>?_
 generalize decide (((bi % 2:Nat):Int)=1)=ey at h k ⊢;generalize decide (((bi / 2 % 2:Nat):Int)=1)=lt at h k ⊢;refine sV (v:=exV 3 z0 0 z0 0 z0 (.slice none 0 0) ey lt) hk h (fun _ ho=>aFC ho (sT h) (sT h)) fun l a hk h=>
 sV (v:=aYW W.heap.size 0) hk h (fun _ ho=>oH ho (zeroValue35 W)) fun l a hk h=>?_
 have A:Al W (W.alloc (.cells zE.toArray 35)) W.heap.size 35 zE:=dN _;change wpListIn _ _ _ _ _ _ _ (W.alloc (.cells zE.toArray 35));have B:=dZ A;have f6:=A.2.2.2.1;generalize W.alloc (.cells zE.toArray 35)=W1 at B f6 ⊢;refine ss (g:=none) hk h rfl (fun _ ho=>iG (b:=W.heap.size) (off:=0) (cs:=oI 3 z0 0 z0 0 z0 (.slice none 0 0) ey lt) (show World.there _ _ 0 36 from aX f6) (by kernel_rfl) (DK ⟨3,z0,0,z0,0,z0,none,0,[],ey,lt⟩) ho (sT h) (sT h)) (fun l hk=>?_);exact s0 hk (k _ _ W.heap.size (dM (aC4 _) _ _ B) (aC4 _) (bM f6 rfl) (aN h))
theorem aKj(fe:dA W pe 25 (eA k0 ls e0 e1 bi))(h:Sl 142 [(1,aYW pe 0),(2,aYW pr 0),(3,.slice bs L.length c),(6,aYW p6 0)] a)(k: ∀a,Sl 142 ((86,.bool (decide (((k0 % 8:Nat):Int)=7)))::[(1,aYW pe 0),(2,aYW pr 0),(3,.slice bs L.length c),(6,aYW p6 0)]) a->Q .normal a W):aGj.wpIn (FR r) 0 prog Q a W:=by
 refine aG [kf 83 25 1 0,kl 84 5 83,(none,some 85,.binOp .rem 5 (.tmp 84) (.const (.int .u8 8)) 5),(none,some 86,.binOp .eql 5 (.tmp 85) (.const (.int .u8 7)) 5)] fun ops l hK hk=>?_;refine sV (v:=aYW pe (0+0)) hk h (fun _ ho=>aJ (b:=pe) (o':=0) aHw ho (sT h)) fun l a hk h=>
 lV lY (v:=.int .u8 (k0:Int)) hk h (aI (j:=0+0) fe rfl) fun l a hk h=>
 sV (v:=.int .u8 ((k0 % 8:Nat):Int)) hk h (fun _ ho=>aBY 8 (by decide) ho (sT h)) fun l a hk h=>
 sV (v:=.bool (decide (((k0 % 8:Nat):Int)=7))) hk h (fun _ ho=>jE (q:=.u8) ho (sT h) rfl) fun l a hk h=>?_
 exact s0 hk (k _ (aN h))
variable{v:Value}{ey lt:Bool}{kd:Int}
theorem aKi{n0:Nat}(f6:dA W p6 35 (oI 3 z0 0 z0 0 z0 v ey lt))(hn:n0<=p6)(h:Sl 142 [(1,aYW pe 0),(2,aYW pr 0),(3,.slice bs L.length c),(6,aYW p6 0)] a)(k: ∀a W2,Below n0 W W2->dA W2 p6 35 (oI 4 z0 0 z0 0 z0 v ey lt)->Sl 142 [(1,aYW pe 0),(2,aYW pr 0),(3,.slice bs L.length c),(6,aYW p6 0)] a->Q .normal a W2):aGi.wpIn (FR r) 0 prog Q a W:=by
 refine aG [kf 87 35 6 0,(none,none,.store 5 (.tmp 87) (.const (.int .u8 4)))] fun ops l hK hk=>?_;refine sV (v:=aYW p6 (0+0)) hk h (fun _ ho=>aJ (b:=p6) (o':=0) sJ ho (sT h)) fun l a hk h=>?_;refine ss (g:=none) hk h rfl (fun _ ho=>oO (b:=p6) (off:=0+0) (v:=.int .u8 4) ho (sT h) rfl rfl (qQ f6 (show 0+0<36 by decide)) (by kernel_rfl) rfl) (fun l hk=>?_);exact s0 hk (k _ _ (dM hn _ _ (aDA _ _)) (xA f6 (0+0) (.int .u8 4)) (aN h))
theorem aKh{i:Nat}(h:Sl 142 [(1,aYW pe 0),(2,aYW pr 0),(3,.slice bs L.length c),(6,aYW p6 0),(7,.int .i64 (i:Int))] a)(k: ∀a,Sl 142 ((91,.bool (decide ((i:Int)<(L.length:Int))))::[(1,aYW pe 0),(2,aYW pr 0),(3,.slice bs L.length c),(6,aYW p6 0),(7,.int .i64 (i:Int))]) a->Q .normal a W):aGh.wpIn (FR r) 0 prog Q a W:=by
 refine aG [km 88 7,km 89 3,(none,some 90,.call ⟨.builtin .len,#[(.tmp 89)],#[22]⟩),(none,some 91,.binOp .lss 3 (.tmp 88) (.tmp 90) 3)] fun ops l hK hk=>?_;refine mV (v:=.int .i64 (i:Int)) hk h fun l a hk h=>
 mV (v:=.slice bs L.length c) hk h fun l a hk h=>
 sV (v:=.int .i64 (L.length:Int)) hk h (fun _ ho=>lM (s:=bs) (c:=c) vJ ho (sT h)) fun l a hk h=>
 sV (v:=.bool (decide ((i:Int)<(L.length:Int)))) hk h (fun _ ho=>mP (q:=.i64) ho (sT h) (sT h)) fun l a hk h=>?_
 exact s0 hk (k _ (aN h))
theorem aKf(hst:SS W){i n0 n1:Nat}{M:List lK}(hI:rF W bs L)(hi:i<L.length)(h5:L.length<=5)(hok:(L.getD i gX).Ok)(hM:M.getD i bQ=(L.getD i gX).it (decide (kd=4)))(f6:dA W p6 35 (oI kd z0 0 z0 0 z0 v ey lt))(hown:W.ownsRow n1 79 21 v i (itc M i))(hn0:n0<=p6)(hn:p6<n1)(hn1:n1<=W.heap.size)(h:Sl 142 [(1,aYW pe 0),(2,aYW pr 0),(3,.slice bs L.length c),(6,aYW p6 0),(7,.int .i64 (i:Int))] a)
 (k: ∀a W2 v',Below n0 W W2->n1<=W2.heap.size->dA W2 p6 35 (oI kd z0 0 z0 0 z0 v' ey lt)->W2.ownsRow n1 79 21 v' (i+1) (itc M (i+1))->Sl 142 [(1,aYW pe 0),(2,aYW pr 0),(3,.slice bs L.length c),(6,aYW p6 0),(7,.int .i64 (i:Int))] a->Q .normal a W2):aGf.wpIn (FR r) 0 prog Q a W:=by
 obtain⟨g,o,eb,hg,hr⟩:=hI i hi;have fW: ∀W1,Below W.heap.size W W1->dA W1 p6 35 (oI kd z0 0 z0 0 z0 v ey lt)/\W1.rangeAt g (o+i * 21) (L.getD i gX).l:=fun W1 B=>⟨aT f6 (B.block p6 (aS f6)),fun j v hv=>(B.cell (p:=⟨g,_,none⟩) hg).trans (hr j v hv)⟩;refine MX (W:=W) (S:=[(1,aYW pe 0),(2,aYW pr 0),(3,.slice bs L.length c),(6,aYW p6 0),(7,.int .i64 (i:Int))]) (N:=142) (Pz:=[pv 94 [] (.fieldAddr 35 (.tmp 6) 4) (aYW p6 (0+33)),pv 95 [0] (.load 33 (.tmp 94)) (v),pv 96 [] (.move (.tmp 3)) (.slice bs L.length c),pv 97 [] (.move (.tmp 7)) (.int .i64 (i:Int)),pv 98 [2,3] (.indexAddr 22 (.tmp 96) (.tmp 97)) (aYW g (o+i * 21)),pv 99 [4] (.load 71 (.tmp 98)) ((L.getD i gX).v),pv 100 [] (.fieldAddr 35 (.tmp 6) 0) (aYW p6 (0+0)),pv 101 [6] (.load 5 (.tmp 100)) (.int .u8 kd),pv 102 [7] (.binOp .eql 5 (.tmp 101) (.const (.int .u8 4)) 5) (.bool (decide (kd=4))),pv 103 [5,8] (.call ⟨.value (.func 27),#[(.tmp 99),(.tmp 102)],#[71,4]⟩) (((L.getD i gX).it (decide (kd=4))).v),pn 104 [9] (.buildSlice 33 1 #[(0,(.tmp 103))]) (fun v W2=> ∃q,v=.slice (some ⟨q,0,none⟩) 1 1/\W.heap.size<=q/\dA W2 q 79 ((L.getD i gX).it (decide (kd=4))).l) (fun _ _ _ ⟨p,e,h1,h2⟩ hb=>⟨p,e,h1,yL h2 hb⟩)]) (T:=[(none,some 105,.call ⟨.builtin .append,#[(.tmp 95),(.tmp 104)],#[33,33]⟩),kf 106 35 6 4,(none,none,.store 33 (.tmp 106) (.tmp 105))]) (TA:=[[1,10,9],[0,1,2,3,4,5,6,7,8,9,10,11],[12,11,11,0,1,2,3,4,5,6,7,8,9,10,11]]) (by kernel_rfl) (And.intro (by kernel_rfl) (by kernel_rfl)) (by kernel_rfl) (by kernel_rfl) (by simp) (by kernel_rfl) (by simp) (by simp) (by kernel_rfl) (by kernel_rfl) h (fun j y hy=>?_) (fun ops l a W1 V B hV hK hk h=>?_)
 . match j,hy with
   |0,hy=>cases hy;exact fun oo a W1 B ho h=>jT (aJ (b:=p6) (o':=0) pU ho (sT h))
   |1,hy=>cases hy;exact fun oo a W1 B ho h=>jT (gK (b:=p6) (off:=0+33) wU ho (sT h) (aI (j:=0+33) (fW W1 B).1 rfl))
   |2,hy=>cases hy;exact fun oo a W1 B ho h=>jT (eY ho (sT h))
   |3,hy=>cases hy;exact fun oo a W1 B ho h=>jT (eY ho (sT h))
   |4,hy=>cases hy;exact fun oo a W1 B ho h=>jT (fP (g:=g) (off:=o) (n:=L.length) (cp:=c) (el:=71) (sz:=21) (i:=i) vJ LZ hi ho (by rw[<-eb];exact sT h) (sT h))
   |5,hy=>cases hy;exact fun oo a W1 B ho h=>jT (bC (b:=g) (off:=o+i * 21) (cs:=(L.getD i gX).l) (fW W1 B).2 underlying71 rfl (by kernel_rfl) ho (sT h))
   |6,hy=>cases hy;exact fun oo a W1 B ho h=>jT (aJ (b:=p6) (o':=0) sJ ho (sT h))
   |7,hy=>cases hy;exact fun oo a W1 B ho h=>jT (gK (b:=p6) (off:=0+0) lY ho (sT h) (aI (j:=0+0) (fW W1 B).1 rfl))
   |8,hy=>cases hy;exact fun oo a W1 B ho h=>jT (jE (q:=.u8) ho (sT h) rfl)
   |9,hy=>cases hy;exact fun oo a W1 B ho h=>.inr ⟨_,_,fU ho func27,by rw[tJ,sT h (k:=99) (v:=(L.getD i gX).v),sT h (k:=102) (v:=.bool (decide (kd=4)))];exact(sIt (iQ hst B) hok (decide (kd=4)) W1 (aDA _ _)).mono fun e W2 hR=>⟨_,hR.1,hR.2,rfl⟩⟩
   |10,hy=>cases hy;exact fun oo a W1 B ho h=>.inl ⟨_,_,aNh ho (sT h),dZ (dN ((L.getD i gX).it (decide (kd=4))).l),W1.heap.size,rfl,B.size,(dN ((L.getD i gX).it (decide (kd=4))).l).2.2.2.1⟩
 have q0:V 0=aYW p6 (0+33):=hV 0 (show 0<11 by decide);have q1:V 1=v:=hV 1 (show 1<11 by decide);have q2:V 2=.slice bs L.length c:=hV 2 (show 2<11 by decide);have q3:V 3=.int .i64 (i:Int):=hV 3 (show 3<11 by decide);have q4:V 4=aYW g (o+i * 21):=hV 4 (show 4<11 by decide);have q5:V 5=(L.getD i gX).v:=hV 5 (show 5<11 by decide);have q6:V 6=aYW p6 (0+0):=hV 6 (show 6<11 by decide);have q7:V 7=.int .u8 kd:=hV 7 (show 7<11 by decide);have q8:V 8=.bool (decide (kd=4)):=hV 8 (show 8<11 by decide);have q9:V 9=((L.getD i gX).it (decide (kd=4))).v:=hV 9 (show 9<11 by decide);have q10: ∃q,V 10=.slice (some ⟨q,0,none⟩) 1 1/\W.heap.size<=q/\dA W1 q 79 ((L.getD i gX).it (decide (kd=4))).l:=hV 10 (show 10<11 by decide);change Sl 142 ([(94,V 0),(95,V 1),(96,V 2),(97,V 3),(98,V 4),(99,V 5),(100,V 6),(101,V 7),(102,V 8),(103,V 9),(104,V 10)]++[(1,aYW pe 0),(2,aYW pr 0),(3,.slice bs L.length c),(6,aYW p6 0),(7,.int .i64 (i:Int))]) a at h;obtain⟨q,q10,hq,fq⟩:=q10;rw[q1,q10]at h;obtain⟨f6,_⟩:=fW W1 B;obtain⟨inf,z,i1,i2,i3,i4,i5⟩:=aKJ;have hown1:=aNr hown B;have hs:=B.size;obtain⟨v',W2,hrun,r1,r2,r3,r4⟩:=aUN (P:=prog) W1 n1 33 0 79 inf z 21 inf.bytes FY i1 i2 i3 rfl i4 (by decide) v i (itc M i) hown1 ⟨q,0,none⟩ 1 1 ((L.getD i gX).it (decide (kd=4))).l rfl (fun j u hu=>by have:=aO fq j u hu;rw[aSD];exact this) (IZ _) (by simp only[maxLen];omega) (by
  have:(i+1) * inf.bytes<=6 * 1000:=Nat.mul_le_mul (by omega) i5;omega) (by omega)
 have r1:W2.ownsRow n1 79 21 v' (i+1) (itc M (i+1)):=by rw[LY,hM];exact r1
 have own: ∀g,v.ownBlock=some g->n1<=g:=fun g hg=>by
  rcases hown1.2 with⟨rfl,_⟩|⟨g',cap,cur,rfl,h1,_⟩
  . cases hg
  cases hg;exact h1
 have B2:Below n1 W1 W2:=⟨r2.os,r2.tape,r2.output,r2.size,fun b hb=>r2.block b (by omega) (fun e=>by have:=own b e.symm;omega)⟩;have s2:=B2.size;obtain⟨ad,cc,ev⟩:=aFR r1;refine sV (v:=v') hk h (fun o ho=>oP (v:=v) (ad:=some ⟨q,0,none⟩) (m:=1) (c:=1) ho (sT h) (sT h) (fun ty=>hrun)) fun l a hk h=>
 sV (v:=aYW p6 (0+33)) hk h (fun _ ho=>aJ (b:=p6) (o':=0) pU ho (sT h)) fun l a hk h=>?_
 have g6:=aT f6 (B2.block p6 hn);refine ss (g:=none) hk h rfl (fun _ ho=>oO (b:=p6) (off:=0+33) (v:=v') ho (sT h) (sT h) (by rw[ev];rfl) (qQ g6 (show 0+33<36 by decide)) (by kernel_rfl) (by rw[ev];rfl)) (fun l hk=>?_);refine s0 hk (k _ _ v' (dM hn0 _ _ (vC (B.mono (by omega)) B2 (by omega))) (by rw[sS];omega) (xA g6 (0+33) v') (aJR r1 hn) (aN h))
theorem aKg{i:Nat}(hi:i<L.length)(h5:L.length<=5)(h:Sl 142 [(1,aYW pe 0),(2,aYW pr 0),(3,.slice bs L.length c),(6,aYW p6 0),(7,.int .i64 (i:Int))] a)(k: ∀a,Sl 142 [(1,aYW pe 0),(2,aYW pr 0),(3,.slice bs L.length c),(6,aYW p6 0),(7,.int .i64 ((i+1:Nat):Int))] a->Q .normal a W):aGg.wpIn (FR r) 0 prog Q a W:=by
 refine aG [km 92 7,(none,some 93,.binOp .add 3 (.tmp 92) (.const (.int .i64 1)) 3),ka 7 93] fun ops l hK hk=>?_;refine mV (v:=.int .i64 (i:Int)) hk h fun l a hk h=>
 sV (v:=.int .i64 ((i:Int)+1)) hk h (fun _ ho=>rM ho (sT h) rfl (wrap_succ hi (by omega))) fun l a hk h=>
 aV (v:=.int .i64 ((i:Int)+1)) hk h fun l a hk h=>?_
 exact s0 hk (k _ (by rw[aNq];exact aN h))
theorem aKe{la:Nat}(hl:L.length=la+1)(h5:L.length<=5)(h:Sl 142 [(1,aYW pe 0),(2,aYW pr 0),(3,.slice bs L.length c),(6,aYW p6 0)] a)(k: ∀a,Sl 142 [(1,aYW pe 0),(2,aYW pr 0),(3,.slice bs L.length c),(6,aYW p6 0),(8,.int .i64 (la:Int))] a->Q .normal a W):aGe.wpIn (FR r) 0 prog Q a W:=by
 refine aG [km 107 3,(none,some 108,.call ⟨.builtin .len,#[(.tmp 107)],#[22]⟩),(none,some 109,.binOp .sub 3 (.tmp 108) (.const (.int .i64 1)) 3),ka 8 109] fun ops l hK hk=>?_;refine mV (v:=.slice bs L.length c) hk h fun l a hk h=>
 sV (v:=.int .i64 (L.length:Int)) hk h (fun _ ho=>lM (s:=bs) (c:=c) vJ ho (sT h)) fun l a hk h=>
 sV (v:=.int .i64 (la:Int)) hk h (fun _ ho=>by have:=aFu (P:=prog) (W:=W) (q:=.i64) (m:=(L.length:Int)) (m':=1) ho (sT h) rfl (wr (by omega) (by omega));rwa[show (L.length:Int) - 1=(la:Int) by omega]at this) fun l a hk h=>
 aV (v:=.int .i64 (la:Int)) hk h fun l a hk h=>?_
 exact s0 hk (k _ (aN h))
theorem aKd{la:Nat}(f6:dA W p6 35 (oI kd z0 0 z0 0 z0 v ey lt))(h:Sl 142 [(1,aYW pe 0),(2,aYW pr 0),(3,.slice bs L.length c),(6,aYW p6 0),(8,.int .i64 (la:Int))] a)(k: ∀a,Sl 142 ((111,.bool ey)::[(1,aYW pe 0),(2,aYW pr 0),(3,.slice bs L.length c),(6,aYW p6 0),(8,.int .i64 (la:Int))]) a->Q .normal a W):aGd.wpIn (FR r) 0 prog Q a W:=by
 refine aG [kf 110 35 6 5,kl 111 4 110] fun ops l hK hk=>?_;refine sV (v:=aYW p6 (0+34)) hk h (fun _ ho=>aJ (b:=p6) (o':=0) fE5 ho (sT h)) fun l a hk h=>
 lV OH (v:=.bool ey) hk h (aI (j:=0+34) f6 rfl) fun l a hk h=>?_
 exact s0 hk (k _ (aN h))
theorem aKb{la:Nat}(f6:dA W p6 35 (oI kd z0 0 z0 0 z0 v ey lt))(h:Sl 142 [(1,aYW pe 0),(2,aYW pr 0),(3,.slice bs L.length c),(6,aYW p6 0),(8,.int .i64 (la:Int))] a)(k: ∀a,Sl 142 ((122,.bool lt)::[(1,aYW pe 0),(2,aYW pr 0),(3,.slice bs L.length c),(6,aYW p6 0),(8,.int .i64 (la:Int))]) a->Q .normal a W):aGb.wpIn (FR r) 0 prog Q a W:=by
 refine aG [kf 121 35 6 6,kl 122 4 121] fun ops l hK hk=>?_;refine sV (v:=aYW p6 (0+35)) hk h (fun _ ho=>aJ (b:=p6) (o':=0) fE6 ho (sT h)) fun l a hk h=>
 lV OH (v:=.bool lt) hk h (aI (j:=0+35) f6 rfl) fun l a hk h=>?_
 exact s0 hk (k _ (aN h))
theorem aKc{la q cq n0:Nat}{M:List lK}(hI:rF W bs L)(hi:0<L.length)(hM:M.length=L.length)(hok:(L.getD 0 gX).Ok)(f6:dA W p6 35 (oI kd z0 0 z0 0 z0 (.slice (some ⟨q,0,none⟩) L.length cq) ey lt))(hrow:Row W q M)(hn:n0<=q)(hn2:n0<=W.heap.size)(h6:p6≠q)(h:Sl 142 [(1,aYW pe 0),(2,aYW pr 0),(3,.slice bs L.length c),(6,aYW p6 0),(8,.int .i64 (la:Int))] a)(k: ∀a W2,Below n0 W W2->(∀b,b<W.heap.size->b≠q->W2.heap[b]? =W.heap[b]?)->Row W2 q (M.set 0 ((L.getD 0 gX).a.pl,false,z0))->Sl 142 [(1,aYW pe 0),(2,aYW pr 0),(3,.slice bs L.length c),(6,aYW p6 0),(8,.int .i64 (la:Int))] a->Q .normal a W2):aGc.wpIn (FR r) 0 prog Q a W:=by
 obtain⟨g,o,eb,hg,hr⟩:=hI 0 hi;have hqs:q<W.heap.size:=by obtain⟨cs,f,_⟩:=hrow;exact aS f
 have fW: ∀W1,Below W.heap.size W W1->dA W1 p6 35 (oI kd z0 0 z0 0 z0 (.slice (some ⟨q,0,none⟩) L.length cq) ey lt)/\W1.rangeAt g (o+0 * 21) (L.getD 0 gX).l:=fun W1 B=>⟨aT f6 (B.block p6 (aS f6)),fun j v hv=>(B.cell (p:=⟨g,_,none⟩) hg).trans (hr j v hv)⟩;refine MX (W:=W) (S:=[(1,aYW pe 0),(2,aYW pr 0),(3,.slice bs L.length c),(6,aYW p6 0),(8,.int .i64 (la:Int))]) (N:=142) (Pz:=[pv 112 [] (.fieldAddr 35 (.tmp 6) 4) (aYW p6 (0+33)),pv 113 [0] (.load 33 (.tmp 112)) (.slice (some ⟨q,0,none⟩) L.length cq),pv 114 [] (.move (.tmp 3)) (.slice bs L.length c),pv 115 [2] (.indexAddr 22 (.tmp 114) (.const (.int .i64 0))) (aYW g (o+0 * 21)),pv 116 [3] (.fieldAddr 71 (.tmp 115) 0) (aYW g (o+0 * 21+0)),pv 117 [4] (.load 69 (.tmp 116)) ((L.getD 0 gX).a.v),pv 118 [5] (.call ⟨.value (.func 28),#[(.tmp 117)],#[69]⟩) (dP (L.getD 0 gX).a.pl),pv 119 [6] (.build 79 #[(0,(.tmp 118))]) (lK.v ((L.getD 0 gX).a.pl,false,z0))]) (T:=[(none,some 120,.indexAddr 33 (.tmp 113) (.const (.int .i64 0))),(none,none,.store 79 (.tmp 120) (.tmp 119))]) (TA:=[[1,0,1,2,3,4,5,6,7],[8,7,6,0,1,2,3,4,5,6,7]]) (by kernel_rfl) (And.intro (by kernel_rfl) (by kernel_rfl)) (by kernel_rfl) (by kernel_rfl) (by simp) (by kernel_rfl) (by simp) (by simp) (by kernel_rfl) (by kernel_rfl) h (fun j y hy=>?_) (fun ops l a W1 V B hV hK hk h=>?_)
 . match j,hy with
   |0,hy=>cases hy;exact fun oo a W1 B ho h=>jT (aJ (b:=p6) (o':=0) pU ho (sT h))
   |1,hy=>cases hy;exact fun oo a W1 B ho h=>jT (gK (b:=p6) (off:=0+33) wU ho (sT h) (aI (j:=0+33) (fW W1 B).1 rfl))
   |2,hy=>cases hy;exact fun oo a W1 B ho h=>jT (eY ho (sT h))
   |3,hy=>cases hy;exact fun oo a W1 B ho h=>jT (fP (g:=g) (off:=o) (n:=L.length) (cp:=c) (el:=71) (sz:=21) (i:=0) vJ LZ hi ho (by rw[<-eb];exact sT h) rfl)
   |4,hy=>cases hy;exact fun oo a W1 B ho h=>jT (aJ (b:=g) (o':=o+0 * 21) TR ho (sT h))
   |5,hy=>cases hy;exact fun oo a W1 B ho h=>jT (bC (b:=g) (off:=o+0 * 21+0) (cs:=(L.getD 0 gX).a.l) (jF 0 (fW W1 B).2 (pI (n:=10) rfl)) underlying69 rfl (by kernel_rfl) ho (sT h))
   |6,hy=>cases hy;exact fun oo a W1 B ho h=>.inr ⟨_,_,fU ho func28,by rw[aHe,sT h (v:=(L.getD 0 gX).a.v)];exact(aJr hok.a W1 (aDA _ _)).mono fun e W2 hR=>⟨_,hR.1,hR.2,rfl⟩⟩
   |7,hy=>cases hy;exact fun oo a W1 B ho h=>jT (aB1 ho (sT h))
 have q0:V 0=aYW p6 (0+33):=hV 0 (show 0<8 by decide);have q1:V 1=.slice (some ⟨q,0,none⟩) L.length cq:=hV 1 (show 1<8 by decide);have q2:V 2=.slice bs L.length c:=hV 2 (show 2<8 by decide);have q3:V 3=aYW g (o+0 * 21):=hV 3 (show 3<8 by decide);have q4:V 4=aYW g (o+0 * 21+0):=hV 4 (show 4<8 by decide);have q5:V 5=(L.getD 0 gX).a.v:=hV 5 (show 5<8 by decide);have q6:V 6=dP (L.getD 0 gX).a.pl:=hV 6 (show 6<8 by decide);have q7:V 7=lK.v ((L.getD 0 gX).a.pl,false,z0):=hV 7 (show 7<8 by decide);change Sl 142 ([(112,V 0),(113,V 1),(114,V 2),(115,V 3),(116,V 4),(117,V 5),(118,V 6),(119,V 7)]++[(1,aYW pe 0),(2,aYW pr 0),(3,.slice bs L.length c),(6,aYW p6 0),(8,.int .i64 (la:Int))]) a at h;rw[q1,q7]at h;have hrow1:Row W1 q M:=BR hrow (B.block q hqs);refine sV (v:=aYW q (0+0 * 21)) hk h (fun _ ho=>fP (g:=q) (off:=0) (n:=L.length) (cp:=cq) (el:=79) (sz:=21) (i:=0) FY aG7 hi ho (sT h) rfl) fun l a hk h=>?_;rw[aHG]at h;obtain⟨cs,fq,hl,hc⟩:=hrow1;refine ss (g:=none) hk h rfl (fun _ ho=>iG (b:=q) (off:=0 * 21) (cs:=lK.l ((L.getD 0 gX).a.pl,false,z0)) (show World.there _ _ _ 21 from MH fq (by omega)) (by kernel_rfl) (IZ _) ho (sT h) (sT h)) (fun l hk=>?_);exact s0 hk (k _ _ (dM hn _ _ (B.mono hn2)) (fun b hb hne=>(jP _ _ _ b hne).trans (B.block b hb)) (aBV ⟨cs,fq,hl,hc⟩ (by omega) _) (aN h))
theorem aKa{la q cq n0:Nat}{M:List lK}(hI:rF W bs L)(hi:la<L.length)(hM:M.length=L.length)(hok:(L.getD la gX).Ok)(f6:dA W p6 35 (oI kd z0 0 z0 0 z0 (.slice (some ⟨q,0,none⟩) L.length cq) ey lt))(hrow:Row W q M)(hn:n0<=q)(hn2:n0<=W.heap.size)(h6:p6≠q)(h:Sl 142 [(1,aYW pe 0),(2,aYW pr 0),(3,.slice bs L.length c),(6,aYW p6 0),(8,.int .i64 (la:Int))] a)(k: ∀a W2,Below n0 W W2->(∀b,b<W.heap.size->b≠q->W2.heap[b]? =W.heap[b]?)->Row W2 q (M.set la ((L.getD la gX).a.pl,false,z0))->Sl 142 [(1,aYW pe 0),(2,aYW pr 0),(3,.slice bs L.length c),(6,aYW p6 0),(8,.int .i64 (la:Int))] a->Q .normal a W2):aGa.wpIn (FR r) 0 prog Q a W:=by
 obtain⟨g,o,eb,hg,hr⟩:=hI la hi;have hqs:q<W.heap.size:=by obtain⟨cs,f,_⟩:=hrow;exact aS f
 have fW: ∀W1,Below W.heap.size W W1->dA W1 p6 35 (oI kd z0 0 z0 0 z0 (.slice (some ⟨q,0,none⟩) L.length cq) ey lt)/\W1.rangeAt g (o+la * 21) (L.getD la gX).l:=fun W1 B=>⟨aT f6 (B.block p6 (aS f6)),fun j v hv=>(B.cell (p:=⟨g,_,none⟩) hg).trans (hr j v hv)⟩;refine MX (W:=W) (S:=[(1,aYW pe 0),(2,aYW pr 0),(3,.slice bs L.length c),(6,aYW p6 0),(8,.int .i64 (la:Int))]) (N:=142) (Pz:=[pv 123 [] (.fieldAddr 35 (.tmp 6) 4) (aYW p6 (0+33)),pv 124 [0] (.load 33 (.tmp 123)) (.slice (some ⟨q,0,none⟩) L.length cq),pv 125 [] (.move (.tmp 8)) (.int .i64 (la:Int)),pv 126 [] (.move (.tmp 3)) (.slice bs L.length c),pv 127 [] (.move (.tmp 8)) (.int .i64 (la:Int)),pv 128 [3,4] (.indexAddr 22 (.tmp 126) (.tmp 127)) (aYW g (o+la * 21)),pv 129 [5] (.fieldAddr 71 (.tmp 128) 0) (aYW g (o+la * 21+0)),pv 130 [6] (.load 69 (.tmp 129)) ((L.getD la gX).a.v),pv 131 [7] (.call ⟨.value (.func 28),#[(.tmp 130)],#[69]⟩) (dP (L.getD la gX).a.pl),pv 132 [8] (.build 79 #[(0,(.tmp 131))]) (lK.v ((L.getD la gX).a.pl,false,z0))]) (T:=[(none,some 133,.indexAddr 33 (.tmp 124) (.tmp 125)),(none,none,.store 79 (.tmp 133) (.tmp 132))]) (TA:=[[1,2,0,1,2,3,4,5,6,7,8,9],[10,9,8,0,1,2,3,4,5,6,7,8,9]]) (by kernel_rfl) (And.intro (by kernel_rfl) (by kernel_rfl)) (by kernel_rfl) (by kernel_rfl) (by simp) (by kernel_rfl) (by simp) (by simp) (by kernel_rfl) (by kernel_rfl) h (fun j y hy=>?_) (fun ops l a W1 V B hV hK hk h=>?_)
 . match j,hy with
   |0,hy=>cases hy;exact fun oo a W1 B ho h=>jT (aJ (b:=p6) (o':=0) pU ho (sT h))
   |1,hy=>cases hy;exact fun oo a W1 B ho h=>jT (gK (b:=p6) (off:=0+33) wU ho (sT h) (aI (j:=0+33) (fW W1 B).1 rfl))
   |2,hy=>cases hy;exact fun oo a W1 B ho h=>jT (eY ho (sT h))
   |3,hy=>cases hy;exact fun oo a W1 B ho h=>jT (eY ho (sT h))
   |4,hy=>cases hy;exact fun oo a W1 B ho h=>jT (eY ho (sT h))
   |5,hy=>cases hy;exact fun oo a W1 B ho h=>jT (fP (g:=g) (off:=o) (n:=L.length) (cp:=c) (el:=71) (sz:=21) (i:=la) vJ LZ hi ho (by rw[<-eb];exact sT h) (sT h))
   |6,hy=>cases hy;exact fun oo a W1 B ho h=>jT (aJ (b:=g) (o':=o+la * 21) TR ho (sT h))
   |7,hy=>cases hy;exact fun oo a W1 B ho h=>jT (bC (b:=g) (off:=o+la * 21+0) (cs:=(L.getD la gX).a.l) (jF 0 (fW W1 B).2 (pI (n:=10) rfl)) underlying69 rfl (by kernel_rfl) ho (sT h))
   |8,hy=>cases hy;exact fun oo a W1 B ho h=>.inr ⟨_,_,fU ho func28,by rw[aHe,sT h (v:=(L.getD la gX).a.v)];exact(aJr hok.a W1 (aDA _ _)).mono fun e W2 hR=>⟨_,hR.1,hR.2,rfl⟩⟩
   |9,hy=>cases hy;exact fun oo a W1 B ho h=>jT (aB1 ho (sT h))
 have q0:V 0=aYW p6 (0+33):=hV 0 (show 0<10 by decide);have q1:V 1=.slice (some ⟨q,0,none⟩) L.length cq:=hV 1 (show 1<10 by decide);have q2:V 2=.int .i64 (la:Int):=hV 2 (show 2<10 by decide);have q3:V 3=.slice bs L.length c:=hV 3 (show 3<10 by decide);have q4:V 4=.int .i64 (la:Int):=hV 4 (show 4<10 by decide);have q5:V 5=aYW g (o+la * 21):=hV 5 (show 5<10 by decide);have q6:V 6=aYW g (o+la * 21+0):=hV 6 (show 6<10 by decide);have q7:V 7=(L.getD la gX).a.v:=hV 7 (show 7<10 by decide);have q8:V 8=dP (L.getD la gX).a.pl:=hV 8 (show 8<10 by decide);have q9:V 9=lK.v ((L.getD la gX).a.pl,false,z0):=hV 9 (show 9<10 by decide);change Sl 142 ([(123,V 0),(124,V 1),(125,V 2),(126,V 3),(127,V 4),(128,V 5),(129,V 6),(130,V 7),(131,V 8),(132,V 9)]++[(1,aYW pe 0),(2,aYW pr 0),(3,.slice bs L.length c),(6,aYW p6 0),(8,.int .i64 (la:Int))]) a at h;rw[q1,q2,q9]at h;have hrow1:Row W1 q M:=BR hrow (B.block q hqs);refine sV (v:=aYW q (0+la * 21)) hk h (fun _ ho=>fP (g:=q) (off:=0) (n:=L.length) (cp:=cq) (el:=79) (sz:=21) (i:=la) FY aG7 hi ho (sT h) (sT h)) fun l a hk h=>?_;rw[aHG]at h;obtain⟨cs,fq,hl,hc⟩:=hrow1;refine ss (g:=none) hk h rfl (fun _ ho=>iG (b:=q) (off:=la * 21) (cs:=lK.l ((L.getD la gX).a.pl,false,z0)) (show World.there _ _ _ 21 from MH fq (by omega)) (by kernel_rfl) (IZ _) ho (sT h) (sT h)) (fun l hk=>?_);exact s0 hk (k _ _ (dM hn _ _ (B.mono hn2)) (fun b hb hne=>(jP _ _ _ b hne).trans (B.block b hb)) (aBV ⟨cs,fq,hl,hc⟩ (by omega) _) (aN h))
theorem aJ9{la:Nat}(f6:dA W p6 35 (oI kd z0 0 z0 0 z0 v ey lt))(h:Sl 142 [(1,aYW pe 0),(2,aYW pr 0),(3,.slice bs L.length c),(6,aYW p6 0),(8,.int .i64 (la:Int))] a)(k: ∀a,Sl 142 ((139,.bool (decide (la=0)&&ey))::[(1,aYW pe 0),(2,aYW pr 0),(3,.slice bs L.length c),(6,aYW p6 0),(8,.int .i64 (la:Int))]) a->Q .normal a W):aF9.wpIn (FR r) 0 prog Q a W:=by
 refine aG [km 134 8,(none,some 135,.binOp .eql 3 (.tmp 134) (.const (.int .i64 0)) 3),km 136 135,kg 2 true (kf 137 35 6 5),kg 2 true (kl 138 4 137),(none,some 139,.pick (.tmp 136) (.tmp 138) (.const (.bool false)))] fun ops l hK hk=>?_;refine mV (v:=.int .i64 (la:Int)) hk h fun l a hk h=>
 sV (v:=.bool (decide ((la:Int)=0))) hk h (fun _ ho=>jE (q:=.i64) ho (sT h) rfl) fun l a hk h=>
 mV (v:=.bool (decide ((la:Int)=0))) hk h fun l a hk h=>?_
 by_cases c0:la=0
 . rw[aDx (show(la:Int)=0 by omega)]at h;refine sG (v:=aYW p6 (0+34)) hK hk h 136 (fun _ ho=>aJ (b:=p6) (o':=0) fE5 ho (sT h)) fun l a hk h=>
   sG (v:=.bool ey) hK hk h 136 (fun _ ho=>gK (b:=p6) (off:=0+34) OH ho (sT h) (aI (j:=0+34) f6 rfl)) fun l a hk h=>
   sV (v:=.bool ey) hk h (fun _ ho=>dR ho (sT h) (sT h)) fun l a hk h=>?_
   refine s0 hk (k _ ?_);rw[aDx c0,aO8];exact aN h
 rw[aBW (show ¬(la:Int)=0 by omega)]at h;refine sX hK hk h 136 fun l a hk h=>
 sX hK hk h 136 fun l a hk h=>
 sV (v:=.bool false) hk h (fun _ ho=>dI ho (sT h) rfl) fun l a hk h=>?_
 refine s0 hk (k _ ?_);rw[aBW c0,aPd];exact aN h
theorem aJ8{la n0:Nat}(f6:dA W p6 35 (oI kd z0 0 z0 0 z0 v ey lt))(hn:n0<=p6)(h:Sl 142 [(1,aYW pe 0),(2,aYW pr 0),(3,.slice bs L.length c),(6,aYW p6 0),(8,.int .i64 (la:Int))] a)(k: ∀a W2,Below n0 W W2->(∀b,b≠p6->W2.heap[b]? =W.heap[b]?)->dA W2 p6 35 (oI kd z0 0 z0 0 z0 v ey false)->Sl 142 [(1,aYW pe 0),(2,aYW pr 0),(3,.slice bs L.length c),(6,aYW p6 0),(8,.int .i64 (la:Int))] a->Q .normal a W2):aF8.wpIn (FR r) 0 prog Q a W:=by
 refine aG [kf 140 35 6 6,(none,none,.store 4 (.tmp 140) (.const (.bool false)))] fun ops l hK hk=>?_;refine sV (v:=aYW p6 (0+35)) hk h (fun _ ho=>aJ (b:=p6) (o':=0) fE6 ho (sT h)) fun l a hk h=>?_;refine ss (g:=none) hk h rfl (fun _ ho=>oO (b:=p6) (off:=0+35) (v:=.bool false) ho (sT h) rfl rfl (qQ f6 (show 0+35<36 by decide)) (by kernel_rfl) rfl) (fun l hk=>?_);exact s0 hk (k _ _ (dM hn _ _ (aDA _ _)) (fun b hb=>jP _ _ _ b hb) (xA f6 (0+35) (.bool false)) (aN h))
theorem aJ7{n0 q cq:Nat}{M:List lK}(fr:dA W pr 35 zE)(f6:dA W p6 35 (oI kd z0 0 z0 0 z0 (.slice (some ⟨q,0,none⟩) M.length cq) ey lt))(hn:n0<=pr)(h:Sl 142 [(2,aYW pr 0),(6,aYW p6 0)] a)(k: ∀a W2,Below n0 W W2->(∀b,b≠pr->W2.heap[b]? =W.heap[b]?)->dA W2 pr 35 (oI kd z0 0 z0 0 z0 (.slice (some ⟨q,0,none⟩) M.length cq) ey lt)->Sl 142 [(2,aYW pr 0)] a->Q .normal a W2):aB6.wpIn (FR r) 0 prog Q a W:=by
 refine aG [kl 141 35 6,ks' 35 2 141] fun ops l hK hk=>?_;refine sV (v:=exV kd z0 0 z0 0 z0 (.slice (some ⟨q,0,none⟩) M.length cq) ey lt) hk h (fun _ ho=>bC (b:=p6) (off:=0) (cs:=oI kd z0 0 z0 0 z0 (.slice (some ⟨q,0,none⟩) M.length cq) ey lt) (aO f6) underlying35 rfl (by kernel_rfl) ho (sT h)) fun l a hk h=>?_;refine ss (g:=none) hk h rfl (fun _ ho=>iG (b:=pr) (off:=0) (cs:=oI kd z0 0 z0 0 z0 (.slice (some ⟨q,0,none⟩) M.length cq) ey lt) (show World.there _ _ 0 36 from aX fr) (by kernel_rfl) (DK ⟨kd,z0,0,z0,0,z0,some ⟨q,0,none⟩,cq,M,ey,lt⟩) ho (sT h) (sT h)) (fun l hk=>?_);exact s0 hk (k _ _ (dM hn _ _ (aDA _ _)) (fun b hb=>jP _ _ _ b hb) (bM fr rfl) (aN h))
end
structure Ip(kd:Int)(x:lK):Prop where
 ok:aIB kd x
 s1:Sm x.1
 s2:Sm x.2.2
 g1:aYI x.1
 g2:aYI x.2.2
theorem aCG{D:Dd}(h:D.Ok)(n:Int):aYI (IJ D.pl n):=by
 obtain⟨m,k,_,a,_⟩:=aCF h n;exact LM a
theorem aG6(I:Iz)(all:Bool):I.it all=(I.cb,true,I.ca)\/I.it all=(I.ca,true,I.cb)\/I.it all=(I.a.ex,false,z0)\/I.it all=(I.a.dt,false,z0):=by
 unfold Iz.it;by_cases c:I.rg % 2=1
 . rw[aEo c];by_cases g:I.cb.lo<I.ca.lo
   . rw[aEo g];exact .inl rfl
   rw[aEg g];exact .inr (.inl rfl)
 rw[aEg c];cases all
 . exact .inr (.inr (.inr rfl))
 exact .inr (.inr (.inl rfl))
theorem aSB{I:Iz}(h:I.Ok){kd:Int}(all:Bool)(hk:kd=4->all=true):Ip kd (I.it all):=by
 obtain⟨a,b,c⟩:=aSx h all hk;rcases aG6 I all with e|e|e|e
 all_goals rw[e]at a b c ⊢
 . exact⟨a,b,c,aCG h.b _,aCG h.a _⟩
 . exact⟨a,b,c,aCG h.a _,aCG h.b _⟩
 . exact⟨a,b,c,LM (CV h.a).1,U5⟩
 exact⟨a,b,c,LM (XL h.a).1,U5⟩
theorem aMc{D:Dd}(h:D.Ok)(kd:Int):Ip kd (D.pl,false,z0)/\D.pl.UY=true:=by
 obtain⟨m,k,hm,a,b⟩:=XK h;exact⟨⟨⟨rW a,.inl ⟨rfl,rfl,fun _=>b⟩⟩,CU a,z0S,LM a,U5⟩,aAP a hm b⟩
theorem aSW{M:List lK}{k:Nat}(hk:k<M.length)(x:lK)(i:Nat):(M.set k x).getD i bQ=if i=k then x else M.getD i bQ:=by
 by_cases e:i=k
 . subst e;rw[aEo rfl];simp[List.getD,hk]
 rw[aEg e];simp[List.getD,aT6 (aPu e)]
theorem aM6{kd:Int}{M M1 M2:List lK}{la:Nat}(hl:M.length=la+1)(n5:M.length<=5)(hM: ∀i,i<M.length->Ip kd (M.getD i bQ)){A B:Dd}(hA:A.Ok)(hB:B.Ok){ey lt lt':Bool}
 (h1:M1=if ey=true then M.set 0 (A.pl,false,z0)else M) (h2:M2=if lt=true then M1.set la (B.pl,false,z0)else M1) (h3:lt'=if(decide (la=0)&&ey)=true then false else lt):
 M2.length=M.length/\G7 kd ey lt' M2/\ ∀i,i<M2.length->aYI (M2.getD i bQ).1/\aYI (M2.getD i bQ).2.2:=by
 have l1:M1.length=la+1:=by rw[h1];split<;>simp[hl]
 have l2:M2.length=la+1:=by rw[h2];split<;>simp[l1]
 obtain⟨pA,nA⟩:=aMc hA kd;obtain⟨pB,nB⟩:=aMc hB kd;have g1: ∀i,M1.getD i bQ=if ey=true/\i=0 then(A.pl,false,z0)else M.getD i bQ:=fun i=>by
  rw[h1];cases ey
  . simp
  rw[aEo rfl,aSW (by omega)];simp
 have g2: ∀i,M2.getD i bQ=if lt=true/\i=la then(B.pl,false,z0)else M1.getD i bQ:=fun i=>by
  rw[h2];cases lt
  . simp
  rw[aEo rfl,aSW (by omega)];simp
 have q1: ∀i,i<la+1->Ip kd (M1.getD i bQ):=fun i hi=>by
  rw[g1];split
  . exact pA
  exact hM i (by omega)
 have q2: ∀i,i<la+1->Ip kd (M2.getD i bQ):=fun i hi=>by
  rw[g2];split
  . exact pB
  exact q1 i hi
 have hlt:lt'=true->lt=true/\ ¬(la=0/\ey=true):=fun c=>by
  rw[h3]at c;split at c
  . cases c
  rename_i hn;refine⟨c,fun hh=>hn ?_⟩;rw[aDx hh.1,hh.2];rfl
 refine⟨l2.trans hl.symm,⟨by omega,by omega,fun i hi=>⟨(q2 i (by omega)).s1,(q2 i (by omega)).s2⟩,fun i hi=>(q2 i (by omega)).ok,fun c=>?_,fun c=>?_,fun c1 c2 c3=>(hlt c2).2 ⟨by omega,c1⟩⟩,fun i hi=>⟨(q2 i (by omega)).g1,(q2 i (by omega)).g2⟩⟩
 . rw[g2];split
   . exact⟨rfl,nB⟩
   rw[g1,aEo ⟨c,rfl⟩];exact⟨rfl,nA⟩
 rw[show M2.length - 1=la by omega,g2,aEo ⟨(hlt c).1,rfl⟩];exact⟨rfl,nB⟩
theorem aMr{D:Dd}(h:D.Ok)(k:Nat):aYI (UO k D):=by
 unfold UO;split
 . exact U5
 split
 . exact U5
 exact LM (CV h).1
def EoR(w:World)(e:Ending)(W1:World):Prop:= ∃x:Xp,e=.returned x.v/\Good x W1/\Below w.heap.size w W1
abbrev EoP(w:World):Exit->Act->World->Prop:=bodyPost prog Tryz.f6 (EoR w)
theorem aAI{w W:World}{x:Xp}{pr:Nat}{a:Act}(f:dA W pr 35 x.l)(h:Sl 142 [(2,aYW pr 0)] a)(g:Good x W)(B:Below w.heap.size w W):EoP w .ret a W:=by
 have rr:=aNd (P:=prog) (W:=W) (fn:=Tryz.f6) h (i:=2) (t:=35) (b:=pr) (v:=x.v) rfl (by simp) (aRg _ _ _ _ x.l _ (aO f) underlying35 rfl (by kernel_rfl));exact⟨h.defs,_,rr,x,rfl,g,B⟩
section
variable{a:Act}{w W:World}{pe pr c:Nat}{bs:Option Addr}{L:List Iz}{k0 e0 e1 bi:Nat}{ls:Value}
abbrev ofB:Code:=.seq aF9 (.cond (.tmp 139) aF8 .skip)
abbrev aSb:Code:=.seq ofB (.seq aB6 .ret)
abbrev aSc:Code:=.seq (.seq aGb (.cond (.tmp 122) aGa .skip)) aSb
abbrev aNz:Code:=.seq aGe (.seq (.seq aGd (.cond (.tmp 111) aGc .skip)) aSc)
abbrev aSd:Code:=.seq aLU (.block 1 (.loop (.seq (.seq aGh (.cond (.tmp 91) .skip (.exit 1))) (.seq (.block 2 aGf) aGg))))
abbrev aAK:Code:=.seq aGk (.seq (.seq aGj (.cond (.tmp 86) aGi .skip)) (.seq aSd aNz))
theorem aJp(hst:SS w)(B0:Below w.heap.size w W)(fe:dA W pe 25 (eA k0 ls e0 e1 bi))(fr:dA W pr 35 zE)(hp:w.heap.size<=pr)(hI:rF W bs L)(n0:0<L.length)(n5:L.length<=5)(hok: ∀i,i<L.length->(L.getD i gX).Ok)(hbi:bi<256)
 (h:Sl 142 [(1,aYW pe 0),(2,aYW pr 0),(3,.slice bs L.length c)] a):aAK.wpIn (FR none) 0 prog (EoP w) a W:=by
 have st0: ∀V,Below W.heap.size W V->dA V pe 25 (eA k0 ls e0 e1 bi)/\dA V pr 35 zE/\rF V bs L/\SS V/\Below w.heap.size w V:=fun V B=>
  ⟨aT fe (B.block pe (aS fe)),aT fr (B.block pr (aS fr)),hI.keep B,iQ (iQ hst B0) B,bD B0 B (aC4 _)⟩
 have aSH:=aS fr;refine aDs (aKk fe hbi h fun a W1 p6 B1 hp6 f6 h=>?_);generalize decide (((bi % 2:Nat):Int)=1)=ey at f6;generalize decide (((bi / 2 % 2:Nat):Int)=1)=lt at f6;obtain⟨fe1,_⟩:=st0 W1 B1;have rest: ∀(kd:Int) a V,kd=3\/kd=4->Below W.heap.size W V->dA V p6 35 (oI kd z0 0 z0 0 z0 (.slice none 0 0) ey lt)->Sl 142 [(1,aYW pe 0),(2,aYW pr 0),(3,.slice bs L.length c),(6,aYW p6 0)] a->(Code.seq aSd aNz).wpIn (FR none) 0 prog (EoP w) a V:=by
  intro kd a V k34 B f6 h;obtain⟨M,hMd⟩: ∃M,M=L.map (fun I=>I.it (decide (kd=4))):=⟨_,rfl⟩;have hML:M.length=L.length:=by rw[hMd,aMC]
  have hMi: ∀i,i<L.length->M.getD i bQ=(L.getD i gX).it (decide (kd=4)):=fun i hi=>by
   rw[hMd];simp[List.getD,aEC,aE5 hi]
  obtain⟨n1,hn1⟩: ∃n,n=V.heap.size:=⟨_,rfl⟩;have aWs:p6<n1:=by rw[hn1];exact aS f6
  have aWa:V.ownsRow n1 79 21 (.slice none 0 0) 0 (itc M 0):=aRr _ _ _ _;have fin: ∀U v a,Below W.heap.size W U->n1<=U.heap.size->dA U p6 35 (oI kd z0 0 z0 0 z0 v ey lt)->U.ownsRow n1 79 21 v L.length (itc M L.length)->Sl 142 [(1,aYW pe 0),(2,aYW pr 0),(3,.slice bs L.length c),(6,aYW p6 0)] a->aNz.wpIn (FR none) 0 prog (EoP w) a U:=by
   intro U v a B hs f6 own h;obtain⟨_,_,hIU,_,_⟩:=st0 U B;rw[<-hML]at own;obtain⟨q,cq,rfl,hq,hrow⟩:=aYY own (by omega);rw[hML]at f6;obtain⟨la,hla⟩: ∃la,L.length=la+1:=⟨L.length - 1,by omega⟩;have hsz:=B.size;have aSI:=hok la (by omega);refine aDs (aKe hla n5 h fun a h=>?_);have t33: ∀U M1 M2 lt' a,M1=(if ey=true then M.set 0 ((L.getD 0 gX).a.pl,false,z0)else M)->M2=(if lt=true then M1.set la ((L.getD la gX).a.pl,false,z0)else M1)->lt'=(if(decide (la=0)&&ey)=true then false else lt)->Below W.heap.size W U->dA U p6 35 (oI kd z0 0 z0 0 z0 (.slice (some ⟨q,0,none⟩) L.length cq) ey lt')->Row U q M2->Sl 142 [(1,aYW pe 0),(2,aYW pr 0),(3,.slice bs L.length c),(6,aYW p6 0),(8,.int .i64 (la:Int))] a->(Code.seq aB6 .ret).wpIn (FR none) 0 prog (EoP w) a U:=by
    intro U M1 M2 lt' a e1 e2 e3 B f6 hrow h;obtain⟨_,frU,_,_,Bw⟩:=st0 U B;obtain⟨m2,so,gd⟩:=aM6 (kd:=kd) (hML.trans hla) (by omega) (fun i hi=>by rw[hMi i (by omega)];exact aSB (hok i (by omega)) _ (fun e=>aDx e)) (hok 0 n0).a aSI.a e1 e2 e3;rw[<-hML,<-m2]at f6;refine aDs (aJ7 (M:=M2) (n0:=w.heap.size) frU f6 hp (aN h) fun a U4 B4 k4 f4 h=>?_);refine aMu (aAI (x:=⟨kd,z0,0,z0,0,z0,some ⟨q,0,none⟩,cq,M2,ey,lt'⟩) f4 h (.inr (.inr ⟨kd,_,cq,M2,ey,lt',rfl,k34,so,aJv (BR hrow (k4 q (by omega))),gd⟩)) (vC Bw B4 (aC4 _)))
   have t31: ∀U M1 M2 a,M1=(if ey=true then M.set 0 ((L.getD 0 gX).a.pl,false,z0)else M)->M2=(if lt=true then M1.set la ((L.getD la gX).a.pl,false,z0)else M1)->Below W.heap.size W U->dA U p6 35 (oI kd z0 0 z0 0 z0 (.slice (some ⟨q,0,none⟩) L.length cq) ey lt)->Row U q M2->Sl 142 [(1,aYW pe 0),(2,aYW pr 0),(3,.slice bs L.length c),(6,aYW p6 0),(8,.int .i64 (la:Int))] a->aSb.wpIn (FR none) 0 prog (EoP w) a U:=by
    intro U M1 M2 a e1 e2 B f6 hrow h;refine aDs (aDs (aJ9 f6 h fun a h=>?_));refine cZ (t:=decide (la=0)&&ey) h (by simp) (fun cc=>?_) (fun cc=>aJt ?_)
    . refine aJ8 (pe:=pe) (pr:=pr) (bs:=bs) (L:=L) (c:=c) (la:=la) (n0:=W.heap.size) f6 hp6 (aN h) fun a U2 B2 k2 f6 h=>?_;exact t33 U2 M1 M2 false a e1 e2 (by rw[aEo cc]) (vC B B2 (aC4 _)) f6 (BR hrow (k2 q (by omega))) h
    exact t33 U M1 M2 lt a e1 e2 (by rw[aEg (by rw[cc];decide)]) B f6 hrow (aN h)
   have t29: ∀U M1 a,M1=(if ey=true then M.set 0 ((L.getD 0 gX).a.pl,false,z0)else M)->Below W.heap.size W U->n1<=U.heap.size->dA U p6 35 (oI kd z0 0 z0 0 z0 (.slice (some ⟨q,0,none⟩) L.length cq) ey lt)->Row U q M1->Sl 142 [(1,aYW pe 0),(2,aYW pr 0),(3,.slice bs L.length c),(6,aYW p6 0),(8,.int .i64 (la:Int))] a->aSc.wpIn (FR none) 0 prog (EoP w) a U:=by
    intro U M1 a e1 B hs f6 hrow h;obtain⟨_,_,hIU,_,_⟩:=st0 U B;have m1:M1.length=L.length:=by rw[e1];split<;>simp[hML]
    refine aDs (aDs (aKb f6 h fun a h=>?_));refine cZ (t:=lt) h (by simp) (fun cc=>?_) (fun cc=>aJt ?_)
    . refine aKa (pe:=pe) (pr:=pr) (c:=c) (la:=la) (n0:=W.heap.size) hIU (by omega) m1 aSI f6 hrow (by omega) B.size (by omega) (aN h) fun a U2 B2 k2 hrow h=>?_;exact t31 U2 M1 _ a e1 (by rw[aEo cc]) (vC B B2 (aC4 _)) (aT f6 (k2 p6 (aS f6) (by omega))) hrow h
    exact t31 U M1 M1 a e1 (by rw[aEg (by rw[cc];decide)]) B f6 hrow (aN h)
   refine aDs (aDs (aKd f6 h fun a h=>?_));refine cZ (t:=ey) h (by simp) (fun cc=>?_) (fun cc=>aJt ?_)
   . refine aKc (pe:=pe) (pr:=pr) (c:=c) (la:=la) (n0:=W.heap.size) hIU n0 hML (hok 0 n0) f6 hrow (by omega) B.size (by omega) (aN h) fun a U2 B2 k2 hrow h=>?_;exact t29 U2 _ a (by rw[aEo cc]) (vC B B2 (aC4 _)) (by have:=B2.size;omega) (aT f6 (k2 p6 (aS f6) (by omega))) hrow h
   exact t29 U M a (by rw[aEg (by rw[cc];decide)]) B hs f6 hrow (aN h)
  refine aDs (aDs (aG [kc 7 (.int .i64 0)] fun ops l hK hk=>?_));refine sV (v:=.int .i64 ((0:Nat):Int)) hk h (fun _ ho=>BZ ho rfl) fun l a hk h=>?_;refine s0 hk (aLs (gQ (fun m a U=> ∃i v,m+i=L.length/\Below W.heap.size W U/\n1<=U.heap.size/\dA U p6 35 (oI kd z0 0 z0 0 z0 v ey lt)/\U.ownsRow n1 79 21 v i (itc M i)/\Sl 142 [(1,aYW pe 0),(2,aYW pr 0),(3,.slice bs L.length c),(6,aYW p6 0),(7,.int .i64 (i:Int))] a) ?_ (m:=L.length) ⟨0,.slice none 0 0,by omega,B,by omega,f6,aWa,aN h⟩));intro m a U ⟨i,v,hm,B,hs,f6,own,h⟩;obtain⟨_,_,hIU,sU,_⟩:=st0 U B;refine aDs (aDs (aKh h fun a h=>?_));refine cZ (t:=decide ((i:Int)<(L.length:Int))) h (by simp) (fun cc=>aJt ?_) (fun cc=>aRf ?_)
  . have hi:i<L.length:=by have:=aEF cc;omega
    refine aDs (aLs ?_);refine aKf (pe:=pe) (pr:=pr) (c:=c) sU hIU hi n5 (hok i hi) (hMi i hi) f6 own hp6 aWs hs (aN h) fun a U2 v' B2 hs2 f6 own h=>?_;exact aKg hi n5 h fun a h=>⟨m - 1,by omega,i+1,v',by omega,vC B B2 (aC4 _),hs2,f6,own,h⟩
  have hi:i=L.length:=by have:=aIH cc;omega
  subst hi;exact fin U v a B hs f6 own (aN h)
 refine aDs (aDs (aKj (pr:=pr) (bs:=bs) (L:=L) (c:=c) (p6:=p6) fe1 (aN h) fun a h=>?_));refine cZ (t:=decide (((k0 % 8:Nat):Int)=7)) h (by simp) (fun cc=>?_) (fun cc=>aJt ?_)
 . exact aKi (pe:=pe) (pr:=pr) (bs:=bs) (L:=L) (c:=c) (n0:=W.heap.size) f6 hp6 (aN h) fun a W2 B2 f6 h=>rest 4 a W2 (.inr rfl) (vC B1 B2 (aC4 _)) f6 h
 exact rest 3 a W1 (.inl rfl) B1 f6 (aN h)
abbrev aAL:Code:=.seq aGq (.seq aGp (.seq (.seq aGo (.cond (.tmp 58) (.seq aGn (.cond (.tmp 61) aGm aGl)) .skip)) (.seq aB7 .ret)))
theorem aJP{Q:Exit->Act->World->Prop}(hst:SS w)(B0:Below w.heap.size w W)(fe:dA W pe 25 (eA k0 ls e0 e1 bi))(fr:dA W pr 35 zE)(hp:w.heap.size<=pr)(hI:rF W bs L)(n0:0<L.length)(hok:(L.getD 0 gX).Ok)(he0:e0<256)(he1:e1<256)
 (h:Sl 142 [(1,aYW pe 0),(2,aYW pr 0),(3,.slice bs L.length c)] a) (k: ∀a V,EoP w .ret a V->Q .ret a V):aAL.wpIn (FR none) 0 prog Q a W:=by
 have aSH:=aS fr;refine aDs (aKr hI n0 hok fe he0 h fun a W1 p4 B1 hp4 f4 h=>?_);refine aDs (aKq (pr:=pr) (c:=c) (p4:=p4) (hI.keep B1) n0 hok (aT fe (B1.block pe (aS fe))) he1 (aN h) fun a W2 p5 B2 hp5 f5 h=>?_);have l4:=aS f4;have f4:=aT f4 (B2.block p4 l4);have s1:=B1.size;have s2:=B2.size;have l5:=aS f5;have B12:Below W.heap.size W W2:=bD B1 B2 (by omega);have hw:=B0.size;obtain⟨bf,sf⟩:=aMq hok.a e0;obtain⟨bt,st⟩:=aMq hok.b e1;have gf:=aMr hok.a e0;have gt:=aMr hok.b e1;have done: ∀V a fk f tk t,Below W.heap.size W V->dA V p4 32 (vY fk f)->dA V p5 32 (vY tk t)->zB fk f->zB tk t->Sm f->Sm t->mQ fk f tk t=0->aYI f->aYI t->Sl 142 [(2,aYW pr 0),(3,.slice bs L.length c),(4,aYW p4 0),(5,aYW p5 0)] a->(Code.seq aB7 .ret).wpIn (FR none) 0 prog Q a V:=by
  intro V a fk f tk t B f4 f5 bf bt sf st e gf gt h;refine aDs (aKl (bs:=bs) (L:=L) (c:=c) (n0:=w.heap.size) f4 f5 (aT fr (B.block pr aSH)) hp h fun a V2 B2 f2 h=>?_);exact aMu (k _ _ (aAI (x:=⟨2,z0,fk,f,tk,t,none,0,[],false,false⟩) f2 h (.inr (.inl ⟨fk,f,tk,t,rfl,bf,bt,sf,st,e,gf,gt⟩)) (vC (bD B0 B (aC4 _)) B2 (aC4 _))))
 have s2W:SS W2:=iQ (iQ hst B0) B12;generalize hfk:ZR e0=fk at *;generalize hf:UO e0 (L.getD 0 gX).a=f at *;generalize htk:ZR e1=tk at *;generalize ht:UO e1 (L.getD 0 gX).b=t at *;refine aDs (aDs (aKp (pr:=pr) (bs:=bs) (L:=L) (c:=c) s2W sf st bf bt f4 f5 (aN h) fun a W3 B3 h=>?_));have f4:=aT f4 (B3.block p4 (aS f4));have f5:=aT f5 (B3.block p5 l5);have B13:Below W.heap.size W W3:=bD B12 B3 (by omega);have s3:=B3.size;refine cZ (t:= !decide (mQ fk f tk t=0)) h (by simp) (fun cc=>?_) (fun cc=>aJt ?_)
 . have hne: ¬mQ fk f tk t=0:=fun e=>by rw[aDx e]at cc;cases cc
   refine aDs (aKo (pr:=pr) (p5:=p5) (bs:=bs) (L:=L) (c:=c) f4 (aN h) fun a h=>?_);refine cZ (t:= !decide (fk=1)) h (by simp) (fun c2=>?_) (fun c2=>?_)
   . have h1: ¬fk=1:=fun e=>by rw[aDx e]at c2;cases c2
     refine aKn (c:=c) (n0:=W.heap.size) (hI.keep B13) n0 hok f5 (by omega) (by omega) (p4:=p4) (by omega) (by omega) (pr:=pr) (by omega) (by omega) (aN h) fun a W4 B4 k4 f5 h=>?_;obtain⟨xa,xb⟩:=CV hok.b;exact done W4 a fk f 1 _ (vC B13 B4 (aC4 _)) (aT f4 (k4 p4 (by omega) (by omega))) f5 bf (.inl ⟨rfl,rW xa,xb⟩) sf (aFd hok.b) (by unfold mQ;rw[aEg (by simp),aEg (fun hh=>h1 hh.1)]) gf (LM xa) h
   have h1:fk=1:=aOY fun e=>by rw[aBW e]at c2;cases c2
   have hx:tk=1/\t.hi<f.lo:=by
    unfold mQ at hne;rw[aEg (fun hh=>hh.1 h1)]at hne;by_cases hh:fk=1/\tk=1/\t.hi<f.lo
    . exact hh.2
    rw[aEg hh]at hne;exact absurd rfl hne
   obtain⟨_,fe1,fx⟩:=bf.resolve_right (by omega);obtain⟨_,te1,tx⟩:=bt.resolve_right (by omega);have q1:=aL7 fe1 fx;have q2:=aL7 te1 tx;have hlt:=hx.2;refine aKm (pr:=pr) (bs:=bs) (L:=L) (c:=c) (n0:=W.heap.size) f4 f5 (by omega) (by omega) (by omega) (aN h) fun a W4 B4 k4 g4 g5 h=>?_;exact done W4 a tk t fk f (vC B13 B4 (aC4 _)) g4 g5 bt bf st sf (by unfold mQ;rw[aEg (fun hh=>hh.2 h1),aEg (fun hh=>by have:=hh.2.2;omega)]) gt gf h
 have h0:mQ fk f tk t=0:=aOY fun e=>by rw[aBW e]at cc;cases cc
 exact done W3 a fk f tk t B13 f4 f5 bf bt sf st h0 gf gt (aN h)
section
variable{r:Option Nat}{Q:Exit->Act->World->Prop}{kk:Int}{S:List (Nat × Value)}
theorem aGr(h:Sl 142 [(23,.int .u8 kk),(1,aYW pe 0),(2,aYW pr 0),(3,.slice bs L.length c)] a)(k: ∀a,Sl 142 [(24,.bool (decide (kk=0\/kk=1\/kk=2))),(23,.int .u8 kk),(1,aYW pe 0),(2,aYW pr 0),(3,.slice bs L.length c)] a->Q .normal a W):(Code.seq aJ6 (.cond (.tmp 24) .skip (.seq aJ5 (.cond (.tmp 24) .skip aJ4)))).wpIn (FR r) 0 prog Q a W:=by
 refine aDs (aG [(none,some 25,.binOp .eql 5 (.tmp 23) (.const (.int .u8 0)) 5),ka 24 25] fun ops l hK hk=>?_);refine sV (v:=.bool (decide (kk=0))) hk h (fun _ ho=>jE (q:=.u8) ho (sT h) rfl) fun l a hk h=>
 aV (v:=.bool (decide (kk=0))) hk h fun l a hk h=>?_
 refine s0 hk (cZ (t:=decide (kk=0)) h (by simp) (fun cc=>aJt (k _ ?_)) (fun cc=>?_))
 . have:=aEF cc;rw[aDx (show kk=0\/kk=1\/kk=2 from .inl this),<-cc];exact aN h
 have c0:=aIH cc;refine aDs (aG [(none,some 26,.binOp .eql 5 (.tmp 23) (.const (.int .u8 1)) 5),ka 24 26] fun ops l hK hk=>?_);refine sV (v:=.bool (decide (kk=1))) hk h (fun _ ho=>jE (q:=.u8) ho (sT h) rfl) fun l a hk h=>
 aV (v:=.bool (decide (kk=1))) hk h fun l a hk h=>?_
 refine s0 hk (cZ (t:=decide (kk=1)) h (by simp) (fun cc=>aJt (k _ ?_)) (fun cc=>?_))
 . have:=aEF cc;rw[aDx (show kk=0\/kk=1\/kk=2 from .inr (.inl this)),<-cc];exact aN h
 have c1:=aIH cc;refine aG [(none,some 27,.binOp .eql 5 (.tmp 23) (.const (.int .u8 2)) 5),ka 24 27] fun ops l hK hk=>?_;refine sV (v:=.bool (decide (kk=2))) hk h (fun _ ho=>jE (q:=.u8) ho (sT h) rfl) fun l a hk h=>
 aV (v:=.bool (decide (kk=2))) hk h fun l a hk h=>?_
 refine s0 hk (k _ ?_);rw[show decide (kk=0\/kk=1\/kk=2)=decide (kk=2) by simp[c0,c1]];exact aN h
theorem aDS(h:Sl 142 [(23,.int .u8 kk),(1,aYW pe 0),(2,aYW pr 0),(3,.slice bs L.length c)] a)(k: ∀a,Sl 142 [(34,.bool (decide (kk=3\/kk=4))),(1,aYW pe 0),(2,aYW pr 0),(3,.slice bs L.length c)] a->Q .normal a W):(Code.seq aB9 (.cond (.tmp 34) .skip aB8)).wpIn (FR r) 0 prog Q a W:=by
 refine aDs (aG [(none,some 35,.binOp .eql 5 (.tmp 23) (.const (.int .u8 3)) 5),ka 34 35] fun ops l hK hk=>?_);refine sV (v:=.bool (decide (kk=3))) hk h (fun _ ho=>jE (q:=.u8) ho (sT h) rfl) fun l a hk h=>
 aV (v:=.bool (decide (kk=3))) hk h fun l a hk h=>?_
 refine s0 hk (cZ (t:=decide (kk=3)) h (by simp) (fun cc=>aJt (k _ ?_)) (fun cc=>?_))
 . have:=aEF cc;rw[aDx (show kk=3\/kk=4 from .inl this),<-cc];exact aN h
 have c0:=aIH cc;refine aG [(none,some 36,.binOp .eql 5 (.tmp 23) (.const (.int .u8 4)) 5),ka 34 36] fun ops l hK hk=>?_;refine sV (v:=.bool (decide (kk=4))) hk h (fun _ ho=>jE (q:=.u8) ho (sT h) rfl) fun l a hk h=>
 aV (v:=.bool (decide (kk=4))) hk h fun l a hk h=>?_
 refine s0 hk (k _ ?_);rw[show decide (kk=3\/kk=4)=decide (kk=4) by simp[c0]];exact aN h
end
theorem aAJ{U3:Option Addr}{c0:Nat}{L0:List Iz}(hst:SS w)(hI:rF w U3 L0)(hc:L0.length<=c0)(hok: ∀i,i<L0.length->(L0.getD i gX).Ok)(he0:e0<256)(he1:e1<256)(hbi:bi<256):
 Calls prog 6 #[.agg (eA k0 (.slice U3 L0.length c0) e0 e1 bi).toArray] w (EoR w):=by
 refine(aMd (n:=0)).1 ?_;refine fM (args:=[.agg (eA k0 (.slice U3 L0.length c0) e0 e1 bi).toArray]) (N:=142) func6 (show _=some wB by kernel_rfl) ntmps6 (by simp) fun a h=>?_;rw[aWd];refine aDs (aG [(none,some 1,.box 25 (.tmp 0)),(none,some 2,.alloc 35)] fun ops l hK hk=>?_);refine sV (v:=aYW w.heap.size 0) hk h (fun _ ho=>rJ (v:=.agg (eA k0 (.slice U3 L0.length c0) e0 e1 bi).toArray) ho (sT h) rfl) fun l a hk h=>?_;have A0:Al w (w.alloc (.cells (eA k0 (.slice U3 L0.length c0) e0 e1 bi).toArray 25)) w.heap.size 25 (eA k0 (.slice U3 L0.length c0) e0 e1 bi):=dN _;change wpListIn _ _ _ _ _ _ _ (w.alloc (.cells (eA k0 (.slice U3 L0.length c0) e0 e1 bi).toArray 25));generalize w.alloc (.cells (eA k0 (.slice U3 L0.length c0) e0 e1 bi).toArray 25)=W0 at A0 ⊢;obtain⟨pe,hpe⟩: ∃p,p=w.heap.size:=⟨_,rfl⟩;rw[<-hpe]at A0 h;refine sV (v:=aYW W0.heap.size 0) hk h (fun _ ho=>oH ho (zeroValue35 W0)) fun l a hk h=>?_;have A1:Al W0 (W0.alloc (.cells zE.toArray 35)) W0.heap.size 35 zE:=dN _;change wpListIn _ _ _ _ _ _ _ (W0.alloc (.cells zE.toArray 35));generalize W0.alloc (.cells zE.toArray 35)=W1 at A1 ⊢;obtain⟨pr,hpr⟩: ∃p,p=W0.heap.size:=⟨_,rfl⟩;rw[<-hpr]at A1 h;have z0':=A0.2.1;have z1:=A1.2.1;have b0:Below w.heap.size w W0:=dZ A0;have b1:Below w.heap.size w W1:=bD b0 (dZ A1) (aC4 _);have s0':=b0.size;have fe:dA W1 pe 25 (eA k0 (.slice U3 L0.length c0) e0 e1 bi):=aT A0.2.2.2.1 ((gV A1).2 pe (aS A0.2.2.2.1));have fr:dA W1 pr 35 zE:=A1.2.2.2.1;have hpw:w.heap.size<=pr:=by omega
 have hI1:=hI.keep b1;generalize hls:(.slice U3 L0.length c0:Value)=ls at fe;clear A0 A1;have main: ∀V a bs c (L:List Iz),Below W1.heap.size W1 V->rF V bs L->0<L.length->L.length<=5->(∀i,i<L.length->(L.getD i gX).Ok)->Sl 142 [(1,aYW pe 0),(2,aYW pr 0),(3,.slice bs L.length c)] a->
  (Code.seq (.seq aNy (.block 0 (.seq (.seq aJ6 (.cond (.tmp 24) .skip (.seq aJ5 (.cond (.tmp 24) .skip aJ4)))) (.cond (.tmp 24) (.seq aJ3 .ret) (.seq (.seq aB9 (.cond (.tmp 34) .skip aB8)) (.cond (.tmp 34) aAL .skip)))))) aAK).wpIn (FR none) 0 prog (EoP w) a V:=by
  intro V a bs c L B hIV n0 n5 hok h;have BV:Below w.heap.size w V:=bD b1 B (aC4 _);have feV:=aT fe (B.block pe (aS fe));have frV:=aT fr (B.block pr (aS fr));refine aDs (aDs (aG [kf 21 25 1 0,kl 22 5 21,(none,some 23,.binOp .rem 5 (.tmp 22) (.const (.int .u8 8)) 5)] fun ops l hK hk=>?_));refine sV (v:=aYW pe (0+0)) hk h (fun _ ho=>aJ (b:=pe) (o':=0) aHw ho (sT h)) fun l a hk h=>
  lV lY (v:=.int .u8 (k0:Int)) hk h (aI (j:=0+0) feV rfl) fun l a hk h=>
  sV (v:=.int .u8 ((k0 % 8:Nat):Int)) hk h (fun _ ho=>aBY 8 (by decide) ho (sT h)) fun l a hk h=>?_
  refine s0 hk (aLs (aDs (aGr (pe:=pe) (pr:=pr) (bs:=bs) (L:=L) (c:=c) (kk:=((k0 % 8:Nat):Int)) (aN h) fun a h=>?_)));refine cZ (t:=decide (((k0 % 8:Nat):Int)=0\/((k0 % 8:Nat):Int)=1\/((k0 % 8:Nat):Int)=2)) h (by simp) (fun cc=>?_) (fun cc=>?_)
  . refine aDs (aNA (c:=c) (n0:=w.heap.size) hIV n0 (hok 0 n0) frV hpw BV.size (aN h) fun a V2 B2 f2 h=>?_);obtain⟨xa,_⟩:=XL (hok 0 n0).a;refine aMu ?_;exact aAI (x:=⟨1,(L.getD 0 gX).a.dt,0,z0,0,z0,none,0,[],false,false⟩) f2 h (.inl ⟨_,rfl,aLE (hok 0 n0).a,rW xa,LM xa⟩) (vC BV B2 (aC4 _))
  refine aDs (aDS (pe:=pe) (pr:=pr) (bs:=bs) (L:=L) (c:=c) (kk:=((k0 % 8:Nat):Int)) (aN h) fun a h=>?_);refine cZ (t:=decide (((k0 % 8:Nat):Int)=3\/((k0 % 8:Nat):Int)=4)) h (by simp) (fun cc=>?_) (fun cc=>aJt ?_)
  . exact aJP (c:=c) hst BV feV frV hpw hIV n0 (hok 0 n0) he0 he1 (aN h) fun a V h=>h
  exact aJp (c:=c) hst BV feV frV hpw hIV n0 n5 hok hbi (aN h)
 have cut: ∀V a bs c (L:List Iz),Below W1.heap.size W1 V->rF V bs L->0<L.length->L.length<=c->(∀i,i<L.length->(L.getD i gX).Ok)->Sl 142 [(1,aYW pe 0),(2,aYW pr 0),(3,.slice bs L.length c)] a->
  (Code.seq aR9 (.seq (.seq aNy (.block 0 (.seq (.seq aJ6 (.cond (.tmp 24) .skip (.seq aJ5 (.cond (.tmp 24) .skip aJ4)))) (.cond (.tmp 24) (.seq aJ3 .ret) (.seq (.seq aB9 (.cond (.tmp 34) .skip aB8)) (.cond (.tmp 34) aAL .skip)))))) aAK)).wpIn (FR none) 0 prog (EoP w) a V:=by
  intro V a bs c L B hIV n0 hcc hok h;have ht:(L.take 5).length=min 5 L.length:=aUv;have hbs:bs.map (·.add 0)=bs:=by
   obtain⟨g,o,rfl,_⟩:=hIV 0 n0;simp[aSD]
  refine aDs (aG [km 16 3,km 17 3,(none,some 18,.call ⟨.builtin .len,#[(.tmp 17)],#[22]⟩),(none,some 19,.call ⟨.builtin .min,#[(.tmp 18),(.const (.int .i64 5))],#[3,3]⟩),(none,some 20,.slice 22 (.tmp 16) none (some (.tmp 19)) none),ka 3 20] fun ops l hK hk=>?_);refine mV (v:=.slice bs L.length c) hk h fun l a hk h=>
  mV (v:=.slice bs L.length c) hk h fun l a hk h=>
  sV (v:=.int .i64 (L.length:Int)) hk h (fun _ ho=>lM (s:=bs) (c:=c) vJ ho (sT h)) fun l a hk h=>
  sV (v:=.int .i64 (((L.take 5).length:Nat):Int)) hk h (fun _ ho=>by
   rw[show (((L.take 5).length:Nat):Int)=min (L.length:Int) 5 by rw[ht];omega];exact aRB ho (sT h) rfl) fun l a hk h=>?_
  refine sV (v:=.slice bs (L.take 5).length c) hk h (fun _ ho=>aFv (el:=71) (k:=(L.take 5).length) (n:=L.length) vJ (by kernel_rfl) (by rw[ht];omega) hbs ho (sT h) (sT h)) fun l a hk h=>
  aV (v:=.slice bs (L.take 5).length c) hk h fun l a hk h=>?_
  refine s0 hk (main V _ bs c (L.take 5) B (hIV.take 5) (by omega) (by omega) (fun i hi=>?_) (aN h));rw[show (L.take 5).getD i gX=L.getD i gX by simp[List.getD,show i<5 by omega]];exact hok i (by omega)
 refine s0 hk (aDs (aG [kf 9 25 1 1,kl 10 22 9,ka 3 10] fun ops l hK hk=>?_));refine sV (v:=aYW pe (0+1)) hk h (fun _ ho=>aJ (b:=pe) (o':=0) aOh ho (sT h)) fun l a hk h=>
 lV aR7 (v:=.slice U3 L0.length c0) hk h (by rw[hls];exact aI (j:=0+1) fe rfl) fun l a hk h=>
 aV (v:=.slice U3 L0.length c0) hk h fun l a hk h=>?_
 refine s0 hk (aDs (aDs (aG [km 11 3,(none,some 12,.call ⟨.builtin .len,#[(.tmp 11)],#[22]⟩),(none,some 13,.binOp .eql 3 (.tmp 12) (.const (.int .i64 0)) 3)] fun ops l hK hk=>?_)));refine mV (v:=.slice U3 L0.length c0) hk h fun l a hk h=>
 sV (v:=.int .i64 (L0.length:Int)) hk h (fun _ ho=>lM (s:=U3) (c:=c0) vJ ho (sT h)) fun l a hk h=>
 sV (v:=.bool (decide ((L0.length:Int)=0))) hk h (fun _ ho=>jE (q:=.i64) ho (sT h) rfl) fun l a hk h=>?_
 refine s0 hk (cZ (t:=decide ((L0.length:Int)=0)) h (by simp) (fun cc=>?_) (fun cc=>aJt ?_))
 . refine aG [(none,some 14,.build 71 #[]),(none,some 15,.buildSlice 22 1 #[(0,(.tmp 14))]),ka 3 15] fun ops l hK hk=>?_;refine sV (v:=.agg gX.l.toArray) hk h (fun _ ho=>aJA ho) fun l a hk h=>
   sV (v:=.slice (some ⟨W1.heap.size,0,none⟩) 1 1) hk h (fun _ ho=>aNi ho (sT h)) fun l a hk h=>?_
   have A2:Al W1 (W1.alloc (.cells gX.l.toArray 71)) W1.heap.size 71 gX.l:=dN _;change wpListIn _ _ _ _ _ _ _ (W1.alloc (.cells gX.l.toArray 71));generalize W1.alloc (.cells gX.l.toArray 71)=W2 at A2 ⊢;refine aV (v:=.slice (some ⟨W1.heap.size,0,none⟩) 1 1) hk h fun l a hk h=>?_;refine s0 hk (cut W2 _ (some ⟨W1.heap.size,0,none⟩) 1 [gX] (dZ A2) (fun i hi=>?_) (by decide) (by decide) (fun i hi=>?_) (aN h))
   . obtain rfl:i=0:=by simpa using hi
     exact⟨_,0,rfl,aS A2.2.2.2.1,aO A2.2.2.2.1⟩
   obtain rfl:i=0:=by simpa using hi
   exact⟨⟨by decide,by decide,by decide,by decide,by decide,by decide,by decide,by decide,by decide⟩,by decide,⟨by decide,by decide,by decide,by decide,by decide,by decide,by decide,by decide,by decide⟩⟩
 exact cut W1 _ U3 c0 L0 (aDA _ _) hI1 (by have:=aIH cc;omega) hc hok (aN h)
end
end
section
open Go.ChangeShapes Go.WideShapes Go.ChangeAt Go.RowKit Go.Lib
section
variable{H:Type}{enc:TypeId × Value->H}{w:World}{base:Nat}{spare:Nat->Bool}{held:Bool}
theorem trod_struct3{P:Program}{t:TypeId}{f0 f1 f2:Field}{fuel:Nat}{cs:List Value}{x:DataW H × List MemPlace}(ht:P.underlying t=some (.struct #[f0,f1,f2]))(h:DataW.trod enc P w base spare held fuel t cs=some x):
 ∃(y0 y1 y2:DataW H × List MemPlace) (n:Nat),DataW.trod enc P w base spare held n f0.type ((cs.drop f0.offset).take (P.cellsOf f0.type))=some y0/\
  DataW.trod enc P w base spare held n f1.type ((cs.drop f1.offset).take (P.cellsOf f1.type))=some y1/\DataW.trod enc P w base spare held n f2.type ((cs.drop f2.offset).take (P.cellsOf f2.type))=some y2:=by
 obtain⟨xs,n,_,rfl,hl,hlen,hf⟩:=DataW.trod_struct ht h
 match xs,hlen with
 |[y0,y1,y2],_=>exact⟨y0,y1,y2,n,by simpa using hf 0 f0 rfl,by simpa using hf 1 f1 rfl,by simpa using hf 2 f2 rfl⟩
theorem Y0:prog.cellsOf 28=3:=by kernel_rfl
theorem aBu:prog.cellsOf 4=1:=by kernel_rfl
theorem qU:prog.cellsOf 5=1:=by kernel_rfl
theorem b8{x:Int}(h:(Lit.int .u8 x).wf=true):0<=x/\x<256:=by
 simp[Lit.wf,IntKind.min,IntKind.max,IntKind.signed,IntKind.bits]at h;omega
theorem cell_lt{w:World}{a:Addr}{v:Value}(h:w.cell? a=some v):a.block<w.heap.size:=by
 unfold World.cell? at h;by_cases hl:a.block<w.heap.size
 . exact hl
 exfalso;have:w.heap[a.block]? =none:=aL9 (by omega);simp[this]at h
end
section
variable{H:Type}{enc:TypeId × Value->H}{w:World}{base:Nat}{spare:Nat->Bool}{held:Bool}
theorem aTW{x:Int}(h:(Lit.int .u16 x).wf=true):0<=x/\x<65536:=by
 simp[Lit.wf,IntKind.min,IntKind.max,IntKind.signed,IntKind.bits]at h;omega
theorem VH{P:Program}{t e:TypeId}{fuel:Nat}{c0 c1:Value}{x:DataW H × List MemPlace}(ht:P.underlying t=some (.array 2 e))(hce:P.cellsOf e=1)
 (h:DataW.trod enc P w base spare held fuel t [c0,c1]=some x): ∃y0 y1 n,DataW.trod enc P w base spare held n e [c0]=some y0/\DataW.trod enc P w base spare held n e [c1]=some y1:=by
 obtain⟨xs,n,_,rfl,_,hlen,hf⟩:=DataW.trod_array ht h
 match xs,hlen with
 |[y0,y1],_=>exact⟨y0,y1,n,by simpa[hce]using hf 0 (by decide),by simpa[hce]using hf 1 (by decide)⟩
theorem aLc:prog.cellsOf 25=5:=by kernel_rfl
theorem aLb:prog.cellsOf 71=21:=by kernel_rfl
theorem aH7:prog.cellsOf 22=1:=by kernel_rfl
theorem aLd:prog.cellsOf 69=10:=by kernel_rfl
theorem aLa:prog.cellsOf 67=5:=by kernel_rfl
theorem NJ:prog.cellsOf 23=2:=by kernel_rfl
theorem aEs:prog.cellsOf 65=1:=by kernel_rfl
theorem kV{fuel:Nat}{c:Value}{x:DataW H × List MemPlace}(h:DataW.trod enc prog w base spare held fuel 5 [c]=some x): ∃n:Nat,c=.int .u8 n/\n<256:=by
 obtain⟨i,e,_,b⟩:=aYk underlying5 h;have hb:=b8 b;refine⟨i.toNat,?_,by omega⟩;rw[show ((i.toNat:Nat):Int)=i by omega];simpa using e
theorem aBM{fuel:Nat}{c0 c1 c2 c3 c4 c5 c6 c7 c8 c9:Value}{x:DataW H × List MemPlace}(hf:DataW.trod enc prog w base spare held fuel 69 [c0,c1,c2,c3,c4,c5,c6,c7,c8,c9]=some x): ∃D:Dd,[c0,c1,c2,c3,c4,c5,c6,c7,c8,c9]=D.l/\D.Ok:=by
 obtain⟨y0,y1,y2,y3,n,hx,_,h0,h1,h2,h3⟩:=aWt underlying69 hf;rw[aLa]at h0;rw[qU]at h1 h2;rw[Y0]at h3;obtain⟨i5,e5,w5⟩:=kV (c:=c5) h1;obtain⟨i6,e6,w6⟩:=kV (c:=c6) h2;obtain⟨z0,z1,z2,z3,n2,_,_,g0,g1,g2,g3⟩:=aWt underlying67 h0;rw[qU]at g0;rw[aBu]at g1;rw[aEs]at g2;rw[NJ]at g3;obtain⟨i0,e0,w0⟩:=kV (c:=c0) g0;obtain⟨b1,e1,_⟩:=DataW.trod_bool underlying4 g1;obtain⟨i2,e2,_,w2⟩:=aYk underlying65 g2;obtain⟨v0,v1,n4,j0,j1⟩:=VH (c0:=c3) (c1:=c4) underlying23 qU g3;obtain⟨i3,e3,w3⟩:=kV j0;obtain⟨i4,e4,w4⟩:=kV j1;obtain⟨u0,u1,u2,n3,_,k0,k1,k2⟩:=trod_array3 (c0:=c7) (c1:=c8) (c2:=c9) underlying28 qU h3;obtain⟨i7,e7,w7⟩:=kV k0;obtain⟨i8,e8,w8⟩:=kV k1;obtain⟨i9,e9,w9⟩:=kV k2;have f1:c1=.bool b1:=by simpa using e1
 have f2:c2=.int .u16 ((i2.toNat:Nat):Int):=by
  rw[show ((i2.toNat:Nat):Int)=i2 by have:=aTW w2;omega];simpa using e2
 subst e0 f1 f2 e3 e4 e5 e6 e7 e8 e9;exact⟨⟨i0,b1,i2.toNat,i3,i4,i5,i6,i7,i8,i9⟩,rfl,⟨w0,by have:=aTW w2;show i2.toNat<65536;omega,w3,w4,w5,w6,w7,w8,w9⟩⟩
theorem aJh{fuel:Nat}{c0 c1 c2 c3 c4 c5 c6 c7 c8 c9 c10 c11 c12 c13 c14 c15 c16 c17 c18 c19 c20:Value}{x:DataW H × List MemPlace}(h:DataW.trod enc prog w base spare held fuel 71 [c0,c1,c2,c3,c4,c5,c6,c7,c8,c9,c10,c11,c12,c13,c14,c15,c16,c17,c18,c19,c20]=some x):
 ∃I:Iz,[c0,c1,c2,c3,c4,c5,c6,c7,c8,c9,c10,c11,c12,c13,c14,c15,c16,c17,c18,c19,c20]=I.l/\I.Ok:=by
 obtain⟨y0,y1,y2,n,h0,h1,h2⟩:=trod_struct3 underlying71 h;rw[aLd]at h0 h2;rw[qU]at h1;obtain⟨A,e0,b0⟩:=aBM (c0:=c0) (c1:=c1) (c2:=c2) (c3:=c3) (c4:=c4) (c5:=c5) (c6:=c6) (c7:=c7) (c8:=c8) (c9:=c9) h0;obtain⟨r,e1,b1⟩:=kV (c:=c10) h1;obtain⟨B,e2,b2⟩:=aBM (c0:=c11) (c1:=c12) (c2:=c13) (c3:=c14) (c4:=c15) (c5:=c16) (c6:=c17) (c7:=c18) (c8:=c19) (c9:=c20) h2;simp only[Dd.l,aYd,aWG]at e0 e2;obtain⟨rfl,rfl,rfl,rfl,rfl,rfl,rfl,rfl,rfl,rfl⟩:=e0;obtain⟨rfl,rfl,rfl,rfl,rfl,rfl,rfl,rfl,rfl,rfl⟩:=e2;subst e1;exact⟨⟨A,r,B⟩,rfl,b0,b1,b2⟩
theorem aJi{fuel:Nat}{c:Value}{x:DataW H × List MemPlace}(h:DataW.trod enc prog w base spare held fuel 22 [c]=some x):
 ∃(bs:Option Addr) (L:List Iz) (cp:Nat),c=.slice bs L.length cp/\rF w bs L/\L.length<=cp/\ ∀i,i<L.length->(L.getD i gX).Ok:=by
 rcases Go.Deep.open_slice underlying22 h with⟨h0,_⟩|⟨a,len,cap,m,n,D,Pl,h0,hb,hl,hm,hmm,_,hx⟩
 . simp at h0;exact⟨none,[],0,h0,fun i hi=>absurd hi (aS2 _),aC4 _,fun i hi=>absurd hi (aS2 _)⟩
 simp at h0;rw[aLb]at hx;have key: ∀i,i<len-> ∃r:Iz,(∃g o,some a=some ⟨g,o,none⟩/\g<w.heap.size/\w.rangeAt g (o+i * 21) r.l)/\r.Ok:=by
  intro i hi;obtain⟨cs,h1,h2⟩:=hx i (by rw[hmm];split<;>omega);obtain⟨_,hlen,hc⟩:=aUk h1
  match cs,hlen with
  | [c0,c1,c2,c3,c4,c5,c6,c7,c8,c9,c10,c11,c12,c13,c14,c15,c16,c17,c18,c19,c20],_=>
   obtain⟨r,e,hbd⟩:=aJh h2;rw[e]at hc;obtain⟨cs2,q1,q2⟩:=hx 0 (by rw[hmm];split<;>omega);obtain⟨_,qlen,qc⟩:=aUk q1;have q0:=qc 0 (by omega);obtain⟨g,o,spot⟩:=a;have hs:spot=none:=by
    match cs2,qlen with
    |d0::_,_=>simpa[Addr.add]using World.cell?_spot q0
   subst hs;have at_: ∀j v,r.l[j]? =some v->w.cell? ⟨g,o+i * 21+j,none⟩=some v:=fun j v hv=>by
    have:=hc j (by have:=(aED.1 hv).1;exact this);rw[Go.Deep.add_add,aSD,<-aMR]at this;rw[this];exact hv
   exact⟨r,⟨g,o,rfl,cell_lt (at_ 0 _ rfl),at_⟩,hbd⟩
 classical
 obtain⟨f,hf⟩: ∃f:Nat->Iz,∀i,i<len->(∃g o,some a=some ⟨g,o,none⟩/\g<w.heap.size/\w.rangeAt g (o+i * 21) (f i).l)/\(f i).Ok:=
  ⟨fun i=>if hi:i<len then Classical.choose (key i hi)else gX,fun i hi=>by
   have:=Classical.choose_spec (key i hi);simp only[dif_pos hi];exact this⟩
 have e: ∀i,i<len->((List.range len).map f).getD i gX=f i:=fun i hi=>by simp[List.getD,aEC,aPp hi]
 refine⟨some a,(List.range len).map f,cap,by simpa using h0,fun i hi=>?_,by simpa using hl,fun i hi=>?_⟩
 . have hi:i<len:=by simpa using hi
   rw[e i hi];exact(hf i hi).1
 have hi:i<len:=by simpa using hi
 rw[e i hi];exact(hf i hi).2
theorem aNu{r:Reach}{b0:Nat}{v:Value}{x:DataW H}{ps:List MemPlace}(hv:Value.okWide prog w r b0 25 v)(hd:DataW.Trod enc prog w base spare held 25 v x ps):
 ∃(k0 e0 e1 bi:Nat) (bs:Option Addr) (L:List Iz) (cp:Nat),v=.agg (eA k0 (.slice bs L.length cp) e0 e1 bi).toArray/\rF w bs L/\L.length<=cp/\(∀i,i<L.length->(L.getD i gX).Ok)/\e0<256/\e1<256/\bi<256:=by
 obtain⟨cs,rfl,hsz⟩:=okWide_struct underlying25 hv;obtain⟨fuel,hf⟩:=hd;rw[aLc]at hsz;obtain⟨l⟩:=cs
 match l,hsz with
 |[c0,c1,c2,c3,c4],_=>
  obtain⟨y0,y1,y2,y3,m,_,_,h0,h1,h2,h3⟩:=aWt underlying25 hf;rw[qU]at h0 h3;rw[aH7]at h1;rw[NJ]at h2;obtain⟨kk,f0,_⟩:=kV (c:=c0) h0;obtain⟨bs,L,cp,f1,hI,hc,hok⟩:=aJi (c:=c1) h1;obtain⟨v0,v1,n4,j0,j1⟩:=VH (c0:=c2) (c1:=c3) underlying23 qU h2;obtain⟨q0,f2,w0⟩:=kV j0;obtain⟨q1,f3,w1⟩:=kV j1;obtain⟨bi,f4,w4⟩:=kV (c:=c4) h3;subst f0 f1 f2 f3 f4;exact⟨kk,q0,q1,bi,bs,L,cp,rfl,hI,hc,hok,w0,w1,w4⟩
end
end
section
open Go.RowKit Go.Lib
def g0:AV:=.v (.int .u8 0)
def g1:AV:=.v (.int .i64 0)
def g2:AV:=.v (.bool false)
def g3:AV:=.v (.string ⟨#[]⟩)
def g4:AV:=.v (.string ⟨#[50,48,48,52]⟩)
def g5:AV:=.v (.int .u8 1)
def g6:AV:=.v (.string ⟨#[48,54]⟩)
def g23:AV:=.v (.int .u8 2)
def g7:AV:=.agg [g2,g2,(.v (.string ⟨#[50,48,48,53]⟩)),g1,g1,(.v (.string ⟨#[48,50]⟩)),g3,g0,g23,g0]
def g8:AV:=.agg [g5,g2,g2,g4,g1,g1,g6,g3,g5,g5,g0,g0,g2,g2,g3,g1,g1,g3,g3,g0,g0,g0,g0,g2,g2,g3,g1,g1,g3,g3,g0,g0,g0,(.v (.slice none 0 0)),g2,g2]
def g9:AV:=.v (.int .u8 3)
def g10:AV:=.agg [g5,g2,g2,g4,g1,g1,g6,g3,g5,g0,g0,g0,g2,g2,g3,g1,g1,g3,g3,g0,g0,g0,g0,g2,g2,g3,g1,g1,g3,g3,g0,g0,g0,(.v (.slice none 0 0)),g2,g2]
def g11:AV:=.agg [g5,g2,g2,g4,g1,g1,g6,g3,g0,g0,g0,g0,g2,g2,g3,g1,g1,g3,g3,g0,g0,g0,g0,g2,g2,g3,g1,g1,g3,g3,g0,g0,g0,(.v (.slice none 0 0)),g2,g2]
def g12:AV:=.v (.int .i64 2)
def g13:AV:=.agg [g2,g2,g4,g1,g1,g6,g3,g9,g23,g0]
def g14:AV:=.agg [g5,g2,g2,g4,g1,g1,g6,g3,g9,g23,g0,g0,g2,g2,g3,g1,g1,g3,g3,g0,g0,g0,g0,g2,g2,g3,g1,g1,g3,g3,g0,g0,g0,(.v (.slice none 0 0)),g2,g2]
def g15:AV:=.agg [g2,g2,g4,g1,g1,g3,g3,g5,g0,g0]
def g16:AV:=.agg [g5,g2,g2,g4,g1,g1,g6,g3,g9,g9,g0,g0,g2,g2,g3,g1,g1,g3,g3,g0,g0,g0,g0,g2,g2,g3,g1,g1,g3,g3,g0,g0,g0,(.v (.slice none 0 0)),g2,g2]
def g17:AV:=.agg [g2,g2,g4,g1,g1,g6,g3,g5,g0,g0]
def g18:AV:=.agg [g2,g2,g4,g1,g1,g6,g3,g0,g0,g0]
def g19:AV:=.agg [g2,g2,g4,g1,g1,g6,g3,g9,g9,g0]
def g20:AV:=.agg [g2,g2,g4,g1,g1,g6,g3,g5,g5,g0]
def g21:AV:=.agg [g23,g2,g2,g3,g1,g1,g3,g3,g0,g0,g0,g5,g2,g2,g4,g1,g1,g3,g3,g5,g0,g0,g5,g2,g2,(.v (.string ⟨#[50,48,48,53]⟩)),g1,g1,(.v (.string ⟨#[48,50]⟩)),g3,g0,g23,g0,(.v (.slice none 0 0)),g2,g2]
def g22:AV:=.agg [g0,g0,g0]
def g24:AV:=.v (.string ⟨#[50,48,48,52,45,48,54]⟩)
def g25:AV:=.v (.bool true)
def g26:AV:=.v (.int .i64 1)
def g27:AV:=.agg [g5,g0,g0]
def g28:AV:=.agg [g5,g2,g2,(.v (.string ⟨#[50,48,48,53]⟩)),g1,g1,(.v (.string ⟨#[48,50]⟩)),g3,g0,g23,g0]
def g29:AV:=.v (.string ⟨#[63,50,48,48,52,45,48,54]⟩)
def g30:AV:=.v (.string ⟨#[50,48,48,52,63,45,48,54]⟩)
def g31:AV:=.v (.int .i64 2005)
def g32:AV:=.eP [g1,g2]
def g33:AV:=.eP [(.v (.string ⟨#[37,50,48,48,52,45,126,48,54]⟩)),g1]
def g34:AV:=.agg [g2,g2,(.v (.string ⟨#[50,48,48,53]⟩)),g1,g1]
def g35:AV:=.v (.string ⟨#[50,48,48,52,63,45,48,54,126]⟩)
def g36:AV:=.agg [g9,g23,g0]
def g37:AV:=.v (.string ⟨#[50,48,48,53,45,126,48,50]⟩)
def g38:AV:=.agg [g5,g2,g2,g4,g1,g1,g3,g3,g5,g0,g0]
def g39:AV:=.v (.string ⟨#[50,48,48,52,45,48,54,63]⟩)
def g40:AV:=.v (.string ⟨#[50,48,48,52,45,48,54,37]⟩)
def g41:AV:=.agg [g2,g2,g4,g1,g1]
def XI:List EG:=([([(.v (.int .u8 50))],(.eP [g0,g2])),([(.v (.int .u8 63))],(.eP [g5,g25])),([(.v (.int .u8 48))],(.eP [g0,g2])),([g0],(.eP [g0,g2])),([(.v (.int .u8 45))],(.eP [g0,g2])),([(.v (.int .u8 37))],(.eP [g9,g25])),([(.v (.int .u8 126))],(.eP [g23,g25]))].map fun e:List AV × AV=>(201,e))++([([g22,g12],g1),([g27,g12],g1),([(.agg [g0,g5,g0]),g12],g1),([(.agg [g5,g5,g0]),g12],g1),([(.agg [g0,g9,g0]),g12],g1),([(.agg [g9,g9,g0]),g12],g1),([g22,g26],g1),([g27,g26],g1),([(.agg [g0,g23,g0]),g12],g1),([(.agg [g5,g23,g0]),g12],g1),([g36,g12],g1)].map fun e:List AV × AV=>(123,e))++([([g17],g32),([g20],g32),([g18],g32),([g19],g32),([g15],g32),([g7],g32),([g13],g32)].map fun e:List AV × AV=>(120,e))++([([g41],g1),([g34],g1)].map fun e:List AV × AV=>(126,e))++([([g6,(.v (.int .i64 12))],g25),([(.v (.string ⟨#[48,50]⟩)),(.v (.int .i64 12))],g25)].map fun e:List AV × AV=>(122,e))++([([g17],g12),([g20],g12),([g18],g12),([g19],g12),([g15],g26),([g7],g12),([g13],g12)].map fun e:List AV × AV=>(89,e))++([([g17],g2),([g20],g2),([g18],g2),([g19],g2),([g15],g2),([g7],g2),([g13],g2)].map fun e:List AV × AV=>(165,e))++([([g30],(.v (.string ⟨#[100,100,100,100,63,45,100,100]⟩))),([g24],(.v (.string ⟨#[100,100,100,100,45,100,100]⟩))),([g4],(.v (.string ⟨#[100,100,100,100]⟩))),([g37],(.v (.string ⟨#[100,100,100,100,45,126,100,100]⟩))),([g29],(.v (.string ⟨#[63,100,100,100,100,45,100,100]⟩)))].map fun e:List AV × AV=>(167,e))++[(11,[g8,g0],(.eP [g0,(.v (.int .i64 9))]))]++([([(.v (.int .i64 2004))],(.v (.int .i64 486))),([g31],(.v (.int .i64 487))),([(.v (.int .i64 2006))],(.v (.int .i64 487)))].map fun e:List AV × AV=>(280,e))
theorem aXq:XI.all (OM BJ .nilIface hp LG 100 ([]))=true:=by kernel_rfl
def aAM:List EG:=([([g22,g27,g12],(.eP [g27,g1])),([g22,(.agg [g0,g5,g0]),g12],(.eP [(.agg [g5,g5,g0]),g1])),([g22,g22,g12],(.eP [g22,g1])),([g22,(.agg [g0,g9,g0]),g12],(.eP [(.agg [g9,g9,g0]),g1])),([g22,g27,g26],(.eP [g27,g1])),([(.agg [g0,g23,g0]),g22,g12],(.eP [(.agg [g0,g23,g0]),g1])),([g22,(.agg [g5,g23,g0]),g12],(.eP [g36,g1])),([g27,g22,g12],(.eP [g27,g1]))].map fun e:List AV × AV=>(208,e))++([([g17],g25),([g20],g25),([g18],g25),([g19],g25),([g15],g25),([g7],g25),([g13],g25)].map fun e:List AV × AV=>(121,e))++([([g30,g17],g12),([g39,g20],g26),([g24,g18],g1),([g40,g19],g26),([(.v (.string ⟨#[50,48,48,52,63]⟩)),g15],g26),([g37,g7],g12),([g35,g13],g12),([g29,g17],g12)].map fun e:List AV × AV=>(119,e))++([([g41],(.eP [(.v (.int .i64 2004)),g1])),([g34],(.eP [g31,g1]))].map fun e:List AV × AV=>(141,e))++([([g15],g5),([g7],g23)].map fun e:List AV × AV=>(144,e))++[(273,[g31],(.eP [g2,g1]))]++([([g22,g12],(.eP [g22,g22,g1])),([g36,g12],(.eP [g36,g22,g1]))].map fun e:List AV × AV=>(90,e))++[(91,[g41],(.eP [g4,g1]))]
theorem aXp:aAM.all (OM BJ .nilIface hp LG 100 (XI++[]))=true:=by kernel_rfl
def aDX:List EG:=([([g17],g1),([g20],g1),([g18],g1),([g19],g1),([g15],g1),([g7],g1),([g13],g1)].map fun e:List AV × AV=>(88,e))++([([g31,g26],(.v (.int .i64 31))),([g31,g12],(.v (.int .i64 28)))].map fun e:List AV × AV=>(234,e))
theorem aXo:aDX.all (OM BJ .nilIface hp LG 100 (aAM++(XI++[])))=true:=by kernel_rfl
def aGL:List EG:=([([g17],g1),([g20],g1),([g18],g1),([g19],g1),([g15],g1),([g7],g1),([g13],g1)].map fun e:List AV × AV=>(61,e))++([([g18],(.eP [g24,g1])),([g13],g33)].map fun e:List AV × AV=>(57,e))
theorem aXn:aGL.all (OM BJ .nilIface hp LG 100 (aDX++(aAM++(XI++[]))))=true:=by kernel_rfl
def aKw:List EG:=([([g30],(.eP [g10,g12,g1,g1])),([g39],(.eP [g8,g26,g1,g1])),([g24],(.eP [g11,g1,g1,g1])),([g40],(.eP [g16,g26,g1,g1])),([g35],(.eP [g14,g12,g1,g1])),([g29],(.eP [g10,g12,g1,g1]))].map fun e:List AV × AV=>(34,e))++([([g10],g1),([g8],g1),([g11],g1),([g16],g1),([g14],g1)].map fun e:List AV × AV=>(19,e))++([([g38],g1),([g28],g1)].map fun e:List AV × AV=>(99,e))++([([g15],(.eP [(.agg [(.v (.int .i8 0)),(.v (.int .i64 731946)),(.v (.int .i8 0)),(.v (.int .i64 732311))]),g1])),([g7],(.eP [(.agg [(.v (.int .i8 0)),(.v (.int .i64 732343)),(.v (.int .i8 0)),(.v (.int .i64 732370))]),g1]))].map fun e:List AV × AV=>(100,e))
theorem aXm:aKw.all (OM BJ .nilIface hp LG 100 (aGL++(aDX++(aAM++(XI++[])))))=true:=by kernel_rfl
def aNI:List EG:=([([g10,g5],(.eP [g23,g1])),([g8,g5],(.eP [g9,g1])),([g11,g5],(.eP [g5,g1])),([g16,g23],(.eP [g9,g1])),([g8,g9],(.eP [g23,g1]))].map fun e:List AV × AV=>(11,e))++[(62,[g38,g28],g1)]++([([g11],(.eP [g24,g1])),([g14],g33)].map fun e:List AV × AV=>(16,e))
theorem aXl:aNI.all (OM BJ .nilIface hp LG 100 (aKw++(aGL++(aDX++(aAM++(XI++[]))))))=true:=by kernel_rfl
def aSj:List EG:=[(34,[(.v (.string ⟨#[50,48,48,52,63,47,50,48,48,53,45,126,48,50]⟩))],(.eP [g21,g12,g1,g1]))]++[(19,[g21],g1)]
theorem aXk:aSj.all (OM BJ .nilIface hp LG 100 (aNI++(aKw++(aGL++(aDX++(aAM++(XI++[])))))))=true:=by kernel_rfl
theorem c35:[(12,[],AV.v (.bool true))].all (OM BJ .nilIface hp LG 100 (aSj++(aNI++(aKw++(aGL++(aDX++(aAM++(XI++[]))))))))=true:=by kernel_rfl
theorem aAR{w0:World}(hst:SS w0):Same w0 12 #[] (.bool true):=
 (uT (l:=.nilIface) (jZ w0) hst (by rfl) (uT (jZ w0) hst (by rfl) (uT (jZ w0) hst (by rfl) (uT (jZ w0) hst (by rfl) (uT (jZ w0) hst (by rfl) (uT (jZ w0) hst (by rfl) (uT (jZ w0) hst (by rfl) (uT (jZ w0) hst (by rfl) (fun e he=>by cases he) aXq) aXp) aXo) aXn) aXm) aXl) aXk) c35 _ (aT5 _ (aIC ..))).2
end
section
open Go.RowKit
theorem aGT{w0:World}(hst:SS w0){bs:Option Addr}{L:List Iz}{cp k0 e0 e1 bi:Nat}(hI:rF w0 bs L)(hc:L.length<=cp)(hok: ∀i,i<L.length->(L.getD i gX).Ok)(h0:e0<256)(h1:e1<256)(hb:bi<256)(m:Int):
 Same w0 3 #[.agg (eA k0 (.slice bs L.length cp) e0 e1 bi).toArray,.int .u8 m] (.bool true):=
 aKy rfl (fun W hB=>(aAJ (iQ hst hB) (hI.keep hB) hc hok h0 h1 hb).mono fun e W1 ⟨x,ev,g,B⟩=>⟨x,ev,aRs (iQ (iQ hst hB) B) g,B⟩) (fun W hB=>aAR (iQ hst hB)) m
end
section
open Go.ChangeShapes Go.WideShapes Go.ChangeAt Go.RowKit
theorem own:ownKnob prog.godebug=none:=by kernel_rfl
def laidWorld(os:Os):World:=
 { World.doorLaid prog 4000 os with heap:=(World.doorLaid prog 4000 os).heap.modify 7 fun
  | .cells _ t frozen=>.cells ((Go.Pinned.utf8FirstZ.map fun(n:Nat)=>Value.int .u8 n).toArray) t frozen
  |o=>o }
theorem laid_met(os:Os)(args:Array Value):laidMetH prog Rows.qualitiesMarkedRow.laid ((laidWorld os).forCall (fun _ _=>0) ⟨#[],args,[]⟩).memory:=
 laidMetH_of_parts3 (fuel:=8) (laidMet_of_run' 8 (by kernel_rfl) (by kernel_rfl)) (by kernel_rfl) (by kernel_rfl)
theorem aWf:prog.funcs.toList.all (fun f=> !f.goes)=true:=by kernel_rfl
theorem aKR{P:Program}(h:P.funcs.toList.all (fun f=> !f.goes)=true)(f:FuncId):P.goes f=false:=by
 have hall: ∀fn ∈ P.funcs,Func.goes fn=false:=fun fn hf=>by
  have:=aIJ.1 h fn (Array.mem_toList_iff.2 hf);simpa using this
 have h1: ∀g:FuncId,(P.funcs[g]?).any Func.goes=false:=fun g=>by
  cases hg:P.funcs[g]? with
  |none=>rfl
  |some fn=>exact hall fn (aUu hg)
 have h2:P.funcs.any Func.goes=false:=by
  rw[Array.any_eq_false'];intro x hx hc;rw[hall x hx]at hc;cases hc
 unfold Program.goes;rw[h2,aPe,aUz];rw[List.any_eq_false];intro g _;rw[h1 g];exact Bool.false_ne_true
theorem aEc{P:Program}(h:P.funcs.toList.all (fun f=> !f.goes)=true)(c:OpenClaim)(hs:c.start=.entering):c.goesBy P=false:=by
 unfold OpenClaim.goesBy Program.goesAt;rw[hs];simp only[aUz];unfold Program.goesFrom;cases P.funcNamed c.func with
 |none=>rfl
 |some f=>exact aKR h f
namespace Facts
theorem wf:(Rows.qualitiesMarkedRow.wf (OpenSpec.ofChange (OpenSpec.ofChange Rows.qualitiesMarkedSpec).bare))=true:=by kernel_rfl
theorem laidOut:(laidOutB Tryz.pinned.checked.prog)=true:=by kernel_rfl
theorem mapsRowed:(mapsRowed Tryz.pinned.checked.prog)=true:=by kernel_rfl
theorem inPlace:(Rows.qualitiesMarkedRow.inPlace==Tryz.pinned.checked.prog.inPlace 3)=true:=by kernel_rfl
theorem unfollowed:(Rows.qualitiesMarkedRow.unfollowed==Tryz.pinned.checked.prog.unfollowed 3)=true:=by kernel_rfl
theorem recurses:(Rows.qualitiesMarkedRow.recurses==Tryz.pinned.checked.prog.recurses 3)=true:=by kernel_rfl
theorem named:(Rows.qualitiesMarkedRow.named==Tryz.pinned.checked.prog.varsNamed 3)=true:=by kernel_rfl
theorem plainKeys:(Rows.qualitiesMarkedRow.plainKeys==Tryz.pinned.checked.prog.plainKeys)=true:=by kernel_rfl
theorem stopsHeard:(Tryz.pinned.checked.prog.stopsHeard)=true:=by kernel_rfl
theorem mayEnter:(Tryz.pinned.checked.prog.mayEnter)=true:=by kernel_rfl
theorem lifts:(Rows.qualitiesMarkedRow.lifted==Tryz.pinned.checked.prog.liftsFinal)=true:=by kernel_rfl
theorem make:(Tryz.pinned.checked.prog.make==some Rows.qualitiesMarkedRow.make)=true:=by kernel_rfl
theorem bt{a b:Bool}(h:a=true)(h2:b=true):(a&&b)=true:=by rw[h,h2];rfl
theorem joined:joinedFacts Tryz.pinned.checked.prog 3 Tryz.f3 (OpenSpec.ofChange Rows.qualitiesMarkedSpec).bare Rows.qualitiesMarkedRow=true:=by
 unfold joinedFacts;exact(bt (bt (bt (bt (bt (bt (bt (bt (bt (bt (bt (bt (bt (bt (bt (bt (bt (bt (bt (bt (bt (bt (bt (bt (bt (bt (bt (bt (bt (bt (bt wf laidOut) mapsRowed) (by kernel_rfl)) (by kernel_rfl)) (by kernel_rfl)) (by kernel_rfl)) (by kernel_rfl)) (by kernel_rfl)) inPlace) unfollowed) recurses) named) (by kernel_rfl)) (by kernel_rfl)) (by kernel_rfl)) (by kernel_rfl)) (by kernel_rfl)) (by kernel_rfl)) (by kernel_rfl)) (by kernel_rfl)) (by kernel_rfl)) plainKeys) (by kernel_rfl)) stopsHeard) mayEnter) lifts) make) (by kernel_rfl)) (by kernel_rfl)) (by kernel_rfl)) (by kernel_rfl))
theorem goes:false=Rows.qualitiesMarkedRow.goesBy Tryz.pinned.checked.prog:=(aEc aWf _ rfl).symm
end Facts
end

section
open Go.ChangeShapes Go.WideShapes Go.ChangeAt Go.RowKit
theorem V9{H:Type}{enc:TypeId × Value->H}{C:Checked}{os:Os}{f:FuncId}{fn:Func}{s:OpenSpec}{conds:List PathCond}{apart:Bool}{laid:List (String × DataW Unit)}(w0:World)(args:Array Value)(hos:w0.os=os)
 (hv:(w0.forCall (fun _ _=>0) ⟨#[],args,[]⟩).variablesRefB C.prog=true)
 (hr:((w0.forCall (fun _ _=>0) ⟨#[],args,[]⟩).heap.toList.drop C.prog.globals.size).take ((begin C.prog (fun _ _=>0) default).world.heap.size - C.prog.globals.size)=(begin C.prog (fun _ _=>0) default).world.heap.toList.drop C.prog.globals.size)
 (hok:Input.okWideB C.prog (w0.forCall (fun _ _=>0) ⟨#[],args,[]⟩) f ⟨#[],args,[]⟩=true)
 (hrow:s.preRow enc C.prog fn conds apart laid (w0.forCall (fun _ _=>0) ⟨#[],args,[]⟩).memory args):
 ∃(w:World) (tape:Tape) (i:Input),w.os=os/\(w.forCall tape i).Shaped C.prog/\i.vars=[]/\Input.okWide C.prog (w.forCall tape i) .any w.heap.size f i/\
  s.preRow enc C.prog fn conds apart laid (w.forCall tape i).memory i.args/\({ modest:=false }:Assume).holds C.prog (lone (Frame.enter C.prog f i.args .normal) [] (w.forCall tape i)):=by
 obtain⟨w,tape,i,h1,h2,h3,h4,h5,h6,_⟩:=OpenSpec.witness_stopped_atRef (enc:=enc) (C:=C) (fn:=fn) (s:=s) (conds:=conds) (apart:=apart) (laid:=laid) false w0 args hos hv hr hok hrow (fun _ _ _=>0);exact⟨w,tape,i,h1,h2,h3,h4,h5,h6⟩
theorem OB{H:Type}{W W':World}(hg:Below W.heap.size W W'){p:MemPlace}(h:p.block<W.heap.size):W.sameAt W' p:=by
 cases p with
 |cell b off=>exact hg.cell (p:=⟨b,off,none⟩) h
 |map b=>exact hg.block b h
theorem aKU:laidOutB prog=true:=by kernel_rfl
theorem P7:prog.readableRec 25=true:=by kernel_rfl
theorem aHB:25<prog.types.size:=aEF (by kernel_rfl)
theorem rV(H:Type)(enc:TypeId × Value->H)(W:World)(base:Nat)(args:Array Value)(ds gs:List (DataW H))(before:List MemPlace)
 (hval: ∀(j:Nat) t v,Tryz.f3.params[j]? =some t->args[j]? =some v->Value.okWide prog W .any base t v)
 (hW:DataW.Whole enc prog Tryz.f3.params.toList Rows.qualitiesMarkedSpec.vars false W args.toList ds gs before) (hL:laidMetH prog Rows.qualitiesMarkedRow.laid W):
 Calls prog 3 args W fun e W'=> ∃v,e=.returned v/\Rows.qualitiesMarkedSpec.post enc prog Tryz.f3 false true false false W args v W':=by
 have hW':=hW;obtain⟨p,q,hA0,hV,rfl,hfz,hnd⟩:=hW;have hA:DataW.TrodAll enc prog W 0 (fun _=>true) true Tryz.f3.params.toList args.toList ds p:=hA0;rw[params3]at hA hval;obtain⟨v0,v1,d0,d1,p0,p1,rfl,rfl,rfl,h0,h1⟩:=trodAll_two hA;obtain⟨rfl,rfl⟩:=trodVars_none hV;obtain⟨k0,q0,q1,bi,bs,L,cp,rfl,hI,hc,hok,w0,w1,wb⟩:=aNu (hval 0 25 v0 rfl rfl) h0;obtain⟨mk,rfl,rfl,rfl,wmk⟩:=open_int underlying5 (hval 1 5 v1 rfl rfl) h1;have hlt: ∀y ∈ p0,y.block<W.heap.size:=fun y hy=>DataW.TrodAll.lt hA0 y (aT5 _ hy);clear hA0;simp only[aO6]at hW';refine(aGT (aDc hL) hI hc hok w0 w1 wb mk W (aDA _ _)).mono fun e W' ⟨he,hg⟩=>?_;subst he;obtain⟨m,hm⟩:=h0;have h0':DataW.Trod enc prog W' 0 (fun b=>decide (b<W.heap.size)) true 25 (.agg (eA k0 (.slice bs L.length cp) q0 q1 bi).toArray) d0 p0:=
  ⟨m,DataW.trod_stays (kids_book aKU P7) (fun ht hu=>book_sized P7 ht hu) (fun h=>by cases h) ⟨aHB,book_self _⟩ hm (fun y hy=>OB (H:=H) hg (hlt y hy)) (fun y hy=>aDx (hlt y hy))⟩
 exact⟨_,rfl,_,_,_,[],p0++[],[],hW',trodAll_mk1 (shut_bool underlying4 true),⟨p0,[],h0',trodAll_mk1 (shut_int underlying5 wmk),rfl⟩,rfl,hg.frame _,fun h=>by cases h⟩
theorem vP(os:Os){H:Type}(enc:TypeId × Value->H): ∃places,DataW.whole enc prog ((laidWorld os).forCall (fun _ _=>0) ⟨#[],#[(.agg (eA 0 (.slice none 0 0) 0 0 0).toArray:Value),.int .u8 0],[]⟩).memory Tryz.f3.params.toList Rows.qualitiesMarkedSpec.vars false #[(.agg (eA 0 (.slice none 0 0) 0 0 0).toArray:Value),.int .u8 0].toList 8=some ([.agg [.lit (.int .u8 0),.nil,.agg [.lit (.int .u8 0),.lit (.int .u8 0)],.lit (.int .u8 0)],.lit (.int .u8 0)],[],places):=
 ⟨[],by kernel_rfl⟩
theorem y9(os:Os)(args:Array Value):laidMetH prog Rows.qualitiesMarkedRow.laid ((laidWorld os).forCall (fun _ _=>0) ⟨#[],args,[]⟩).memory:=by
 exact laid_met os args
theorem uP(os:Os)(started:os.Started)(H:Type)(enc:TypeId × Value->H)(F:Stop.Interp):
 ReturnsInHanded {} checked os 3 .any ((OpenSpec.ofChange Rows.qualitiesMarkedSpec).preRow enc prog Tryz.f3 Rows.qualitiesMarkedRow.domain false Rows.qualitiesMarkedRow.laid) (((OpenSpec.ofChange Rows.qualitiesMarkedSpec).at F).post enc prog Tryz.f3 false true false false):=by
 obtain⟨places,hx⟩:=vP os enc;refine returnsInHanded_of_row (C:=checked) (s:=OpenSpec.ofChange Rows.qualitiesMarkedSpec) own started (by kernel_rfl) func3
  (V9 (enc:=enc) (C:=checked) (laidWorld os) #[(.agg (eA 0 (.slice none 0 0) 0 0 0).toArray:Value),.int .u8 0] rfl (by kernel_rfl) (by kernel_rfl) (by kernel_rfl)
    (OpenSpec.preRow_of_cond 8 hx (by kernel_rfl) (fun k hk=>by cases hk) (by kernel_rfl) (y9 os _))) ?_
 intro W base args ds gs before hval hW _ _ _ hL _ _;exact rV H enc W base args ds gs before hval hW hL
theorem wR:Rows.QualitiesMarkedSaid:=
 OpenClaim.holds_of_cond 3 Tryz.f3 rfl rfl rfl rfl rfl rfl rfl ⟨rfl,rfl,rfl,rfl,rfl⟩ rfl rfl rfl rfl rfl (by kernel_rfl) func3 Facts.joined
  (aEF (by kernel_rfl)) (by unfold Func.isWrapper;first|(rw[aEo (by decide +kernel)];kernel_rfl)|(rw[aEg (by decide +kernel)];exact⟨rfl,rfl⟩))
  (fun os started H enc _ F=>by rw[OpenClaim.pre_eq_preRow];exact uP os started H enc F)
theorem vS(f:FuncId)(fn:Func)(hf:Tryz.pinned.checked.prog.funcNamed "circa/circalaw35.QualitiesMarked" =some f)(hfn:Tryz.pinned.checked.prog.funcs[f]? =some fn):
 true=Tryz.pinned.checked.prog.looks []/\ ∀(j:Nat) t,fn.params[j]? =some t->Tryz.pinned.checked.prog.wantsStandIn t=false:=by
 obtain rfl:f=3:=aPn ((show prog.funcNamed "circa/circalaw35.QualitiesMarked" =some 3 by kernel_rfl).symm.trans hf) |>.symm
 obtain rfl:fn=Tryz.f3:=(aPn (func3.symm.trans hfn)).symm;refine⟨by kernel_rfl,fun j t ht=>?_⟩;rw[params3]at ht;have hm:=aUu ht;simp only[List.mem_toArray,aLr,aSU,aXj]at hm;rcases hm with rfl|rfl
 . exact(show prog.wantsStandIn 25=false by kernel_rfl)
 exact(show prog.wantsStandIn 5=false by kernel_rfl)
theorem qualitiesMarked_card:Rows.QualitiesMarkedCardSaid:=
 Claim7.holds_tied_plain_at .later [] _ _ _ _ wR (fun _ h=>by cases h) (by kernel_rfl) (fun _ h=>by cases h) qualitiesMarked_row_tie rfl ⟨rfl,rfl⟩ (by kernel_rfl) rfl vS Facts.goes
end
end
end Go.Proofs.YtebgcnnhokclaaaGreatDoor
