import Derived.Test.YtacggmlngekidaaGreatDoorRows
import Derived.Test.YtacggmlngekidaaGreatDoorP0
import Derived.LoopNIn
import Derived.Scope
import Derived.Recover
import Derived.RangeFuncLeaves
import Derived.RecoverIn
import Derived.ChangeArms
import Derived.OpenShut
import Derived.DataReads
import GoSem.ClaimJoined
import Derived.LaidHandle
import Derived.WalkSpells
import Derived.Lib.MakeNoZero
import Derived.Laws.Externs
import Derived.WalkKit
import Derived.WalkLawsBesides
import Derived.Lib.Hide
import Derived.LoopN
import Derived.Deep.RegionHeld3
import Derived.Deep.LoopGhost
import Derived.Deep.DeepCutAuto
set_option linter.unusedSimpArgs false
set_option linter.unusedVariables false
set_option linter.unusedSectionVars false
set_option maxRecDepth 1000000
set_option maxHeartbeats 8000000
namespace Go.Proofs.YtacggmlngekidaaGreatDoor
abbrev rG:=@Go.Lib.hid
abbrev aBy:=@decide_eq_false
abbrev aBz:=@decide_eq_true
abbrev aBA:=@beq_eq_false_iff_ne
abbrev aEM:=@List.getElem?_eq_getElem
abbrev aGw:=@beq_iff_eq
abbrev aHA:=@Go.IntKind.wrap_i64
abbrev aHB:=@List.mem_cons_self
abbrev aHJ:=@List.mem_cons_of_mem
abbrev aHW:=@Bool.or_eq_true
abbrev aMl:=@Array.getElem?_eq_getElem
abbrev aNY:=@Go.DataW.trod_int
abbrev aN0:=@bne_iff_ne
abbrev aPi:=@Classical.not_not
abbrev aPk:=@Option.some.inj
abbrev aP1:=@Go.World.block_lt_of_cell?
abbrev aP2:=@List.all_cons
abbrev aQk:=@Bool.or_eq_false_iff
abbrev aQl:=@Go.World.cell?_setCell_other
abbrev aTh:=@Go.cell_later
abbrev aTl:=@Go.World.frozen?_setCell
abbrev aTm:=@Nat.le_of_lt
abbrev aTp:=@List.mem_range
abbrev aTs:=@Go.World.cell?_setCells_out
abbrev aTv:=@Option.bind_eq_some_iff
abbrev aTw:=@List.length_eq_zero_iff
abbrev aU0:=@List.mem_append_left
abbrev aWa:=@Go.World.cell?_setCell_same
abbrev aWb:=@Int.emod_nonneg
abbrev aWd:=@Bool.and_true
abbrev aWi:=@Go.World.cells?_some
abbrev aWl:=@Array.size_modify
abbrev aWn:=@decide_false
abbrev aWr:=@Option.getD_some
abbrev aWs:=@Bool.or_false
abbrev aWw:=@List.mem_map_of_mem
abbrev aWC:=@Int.emod_lt_of_pos
abbrev aWF:=@false_and
abbrev aWI:=@decide_true
abbrev aWK:=@Nat.exists_eq_add_of_le
abbrev aWM:=@Int.tmod_eq_zero_of_dvd
abbrev aW5:=@Go.Oper.apart_spec
abbrev aXa:=@ne_eq
abbrev aXb:=@List.getElem?_of_mem
abbrev aXe:=@List.nodup_nil
abbrev aXl:=@Go.wpSIn_of_wpIn
abbrev aXw:=@Nat.pos_of_ne_zero
abbrev aXA:=@Bool.false_or
abbrev aXB:=@not_false_eq_true
abbrev aXC:=@Nat.lt_trichotomy
abbrev aXR:=@Int.add_zero
abbrev aX3:=@Go.rounds_succ
abbrev aX6:=@UInt8.toNat_inj
abbrev aYa:=@Array.getD_eq_getD_getElem?
abbrev aYy:=@List.getElem?_cons_succ
abbrev aYA:=@Int.dvd_of_tmod_eq_zero
abbrev aYE:=@List.getElem?_set_self
abbrev aYF:=@Go.World.cell?_alloc_new
abbrev aYZ:=@List.mem_append_right
section
open Go.RowKit
namespace Ev
def Fq(fl:Nat)(hid:Hid)(s s':Hs):Prop:=
 s.n<=s'.n/\(∀b,b<s.n->(b<fl\/hidden hid b=true)->s'.h.get b=s.h.get b)/\(∀b o,s'.n<=b->s'.h.get b=some o-> ∃o',s.h.get b=some o')
theorem Fq.refl(fl:Nat)(hid:Hid)(s:Hs):Fq fl hid s s:=⟨aEc _,fun _ _ _=>rfl,fun _ o _ h=>⟨o,h⟩⟩
theorem Fq.trans{fl:Nat}{hid:Hid}{s s1 s2:Hs}(h:Fq fl hid s s1)(h':Fq fl hid s1 s2):Fq fl hid s s2:=
 ⟨aHU h.1 h'.1,fun b hb hc=>by rw[h'.2.1 b (aGA hb h.1) hc,h.2.1 b hb hc],fun b o hb ho=>by
  obtain⟨o1,h1⟩:=h'.2.2 b o hb ho;exact h.2.2 b o1 (aHU h'.1 hb) h1⟩
theorem Fq.mono{fl fl':Nat}{hid aU1:Hid}{s s':Hs}(h:Fq fl' aU1 s s')(hm: ∀b,b<s.n->(b<fl\/hidden hid b=true)->b<fl'\/hidden aU1 b=true):Fq fl hid s s':=
 ⟨h.1,fun b hb hc=>h.2.1 b hb (hm b hb hc),h.2.2⟩
theorem Fq.new(fl:Nat)(hid:Hid)(s:Hs)(o:HO):Fq fl hid s ⟨s.h.set s.n o,s.n+1⟩:=
 ⟨aTc _,fun b hb _=>Tr.dV _ _ (by omega),fun b x hb hx=>by
  have hb:s.n+1<=b:=hb;have hx:(s.h.set s.n o).get b=some x:=hx;rw[Tr.dV _ _ (by omega)]at hx;exact⟨x,hx⟩⟩
theorem Fq.put{fl:Nat}{hid:Hid}{s:Hs}{b:Nat}{o:HO}(o':HO)(hb:s.look hid b=some o)(hf:fl<=b):Fq fl hid s ⟨s.h.set b o',s.n⟩:=by
 obtain⟨h1,h2⟩:=Hs.dR.1 hb;refine⟨aEc _,fun c hc hor=>Tr.dV _ _ (fun e=>?_),fun c x hc hx=>?_⟩
 . subst e;rcases hor with h|h
   . omega
   rw[h1]at h;cases h
 by_cases e:b=c
 . subst e;exact⟨o,h2⟩
 have hx:(s.h.set b o').get c=some x:=hx;rw[Tr.dV _ _ e]at hx;exact⟨x,hx⟩
theorem Fq.move{fl:Nat}{hid:Hid}{s:Hs}{b:Nat}{o:HO}(o':HO)(hb:s.look hid b=some o)(hf:fl<=b):Fq fl hid s ⟨(s.h.del b).set s.n o',s.n+1⟩:=by
 obtain⟨h1,h2⟩:=Hs.dR.1 hb;refine⟨aTc _,fun c hc hor=>?_,fun c x hc hx=>?_⟩
 . show((s.h.del b).set s.n o').get c=_;rw[Tr.dV _ _ (by omega),Tr.nN _ (fun e=>?_)];subst e;rcases hor with h|h
   . omega
   rw[h1]at h;cases h
 have hc:s.n+1<=c:=hc;have hx:((s.h.del b).set s.n o').get c=some x:=hx;rw[Tr.dV _ _ (by omega)]at hx
 by_cases e:b=c
 . subst e;exact⟨o,h2⟩
 rw[Tr.nN _ e]at hx;exact⟨x,hx⟩
def iJ(cx:Cx)(s:Hs)(r:iH):Prop:= ∀v s',r=some (.ok v s')->Fq cx.fl cx.hid s s'
def gY(call:dO):Prop:= ∀fl hid f xs s v s',call fl hid f xs s=some (v,s')->Fq fl hid s s'
section
variable{cx:Cx}{s:Hs}
theorem aF:iJ cx s none:=fun _ _ h=>by cases h
theorem fZ{x:AV}:iJ cx s (ret x s):=fun _ _ h=>by cases h;exact Fq.refl _ _ _
theorem xR{x:AV}{y:Hs}(h:Fq cx.fl cx.hid s y):iJ cx s (ret x y):=fun _ _ e=>by cases e;exact h
theorem aY{α:Type}{x:Option α}{k:α->iH}(h: ∀z,iJ cx s (k z)):iJ cx s (ob x k):=fun f xs e=>by obtain⟨z,_,e2⟩:=aA.1 e;exact h z f xs e2
theorem WM{α:Type}{x:Option α}{k:α->iH}(h: ∀z,x=some z->iJ cx s (k z)):iJ cx s (ob x k):=fun f xs e=>by obtain⟨z,e1,e2⟩:=aA.1 e;exact h z e1 f xs e2
theorem WO{b:Bool}{x:iH}(h:b=true->iJ cx s x):iJ cx s (gd b x):=fun f xs e=>h (aG.1 e).1 f xs (aG.1 e).2
theorem JL{x:AV}{k:IntKind->iH}(h: ∀q,iJ cx s (k q)):iJ cx s (YO x k):=fun f xs e=>by obtain⟨q,e2,_⟩:=nI e;exact h q f xs e2
theorem aN5{x:AV}{k:iH}(h:iJ cx s k):iJ cx s (aE5 x k):=fun f xs e=>h f xs (rX e).1
theorem aKn{x:AV}{k:iH}(h:iJ cx s k):iJ cx s (aBN x (fun p=>J5 bY jY bY (fun _ _ _=>k) rP bY bY none p)):=fun f xs e=>h f xs (KF e).1
theorem eP{b:Bool}{x:iH}(h:iJ cx s x):iJ cx s (gd b x):=fun f xs e=>h f xs (aG.1 e).2
theorem kZ{x:Option AV}:iJ cx s (LD x s):=aY fun _=>fZ
theorem uJ{x:Option Value}:iJ cx s (ZB x s):=aY fun _=>fZ
theorem WS{x:AV}{k:Value->iH}(h: ∀z,iJ cx s (k z)):iJ cx s (asV x k):=fun f xs e=>by obtain⟨z,_,e2⟩:=fP e;exact h z f xs e2
theorem wS{x:AV}{k:Nat->Nat->iH}(h: ∀y z,iJ cx s (k y z)):iJ cx s (vC x k):=fun f xs e=>by obtain⟨y,z,_,e2⟩:=gX e;exact h y z f xs e2
theorem aGF{x:AV}{k:Bool->iH}(h: ∀z,iJ cx s (k z)):iJ cx s (asBool x k):=fun f xs e=>by obtain⟨z,_,e2⟩:=oP e;exact h z f xs e2
theorem aAM{x:AV}{k:Nat->iH}(h: ∀z,iJ cx s (k z)):iJ cx s (asNat x k):=fun f xs e=>by obtain⟨_,z,_,e2⟩:=AO e;exact h z f xs e2
theorem aEi{x:HO}{k:List AV->iH}(h: ∀z,iJ cx s (k z)):iJ cx s (Y9 x k):=fun f xs e=>by obtain⟨z,_,e2⟩:=sD e;exact h z f xs e2
theorem aEh{x:HO}{k:List AV->iH}(h: ∀z,iJ cx s (k z)):iJ cx s (aM1 x k):=fun f xs e=>by obtain⟨z,_,e2⟩:=EF e;exact h z f xs e2
theorem NT{x:uV}{k:TypeId->iH}(h: ∀z,iJ cx s (k z)):iJ cx s (aAV x k):=fun f xs e=>by obtain⟨z,_,e2⟩:=uP e;exact h z f xs e2
theorem NS{x:uV}{k:List (Nat × Nat × Bool)->iH}(h: ∀z,iJ cx s (k z)):iJ cx s (I8 x k):=fun f xs e=>by obtain⟨z,_,e2⟩:=tK e;exact h z f xs e2
theorem aKp{x:Fn}{k:FuncId->iH}(h: ∀z,iJ cx s (k z)):iJ cx s (fnF x k):=fun f xs e=>by obtain⟨z,_,e2⟩:=wU e;exact h z f xs e2
theorem aKm{α:Type}{l:List α}{k:α->α->iH}(h: ∀y z,iJ cx s (k y z)):iJ cx s (two l k):=fun f xs e=>by obtain⟨y,z,_,_,e2⟩:=J6 e;exact h y z f xs e2
theorem TL{fv:Value->iH}{fp:Nat->Nat->iH}{fs fu:Nat->Nat->Nat->Nat->iH}{ff:Fn->List AV->List AV->iH}{fi:TypeId->AV->iH}{fa ft:List AV->iH}{fm:Nat->iH}{x:AV}
 (h1: ∀a,iJ cx s (fv a)) (h2: ∀a b,iJ cx s (fp a b)) (h3: ∀a b c d,iJ cx s (fs a b c d)) (h4: ∀a b c d,iJ cx s (fu a b c d)) (h5: ∀a b c,iJ cx s (ff a b c)) (h6: ∀a b,iJ cx s (fi a b)) (h7: ∀a,iJ cx s (fa a)) (h8: ∀a,iJ cx s (ft a)) (h9: ∀a,iJ cx s (fm a)):
 iJ cx s (AV.el fv fp fs fu ff fi fa ft fm x):=by
 cases x
 . exact h1 _
 . exact h2 _ _
 . exact h3 _ _ _ _
 . exact h4 _ _ _ _
 . exact h5 _ _ _
 . exact h6 _ _
 . exact h7 _
 . exact h8 _
 exact h9 _
theorem wQ{fb:Bool->iH}{fi:IntKind->Int->iH}{fs:ByteArray->iH}{fsl:Option Addr->Nat->Nat->iH}{ff:Fn->Array Value->Array Value->iH}{fa ft:Array Value->iH}{fo:iH}{x:Value}
 (h1: ∀a,iJ cx s (fb a)) (h2: ∀a b,iJ cx s (fi a b)) (h3: ∀a,iJ cx s (fs a)) (h4: ∀a b c,iJ cx s (fsl a b c)) (h5: ∀a b c,iJ cx s (ff a b c)) (h6: ∀a,iJ cx s (fa a)) (h7: ∀a,iJ cx s (ft a)) (h8:iJ cx s fo):iJ cx s (J5 fb fi fs fsl ff fa ft fo x):=by
 cases x<;>first|exact h1 _|exact h2 _ _|exact h3 _|exact h4 _ _ _|exact h5 _ _ _|exact h6 _|exact h7 _|exact h8
theorem nO{x y:iH}(h:iJ cx s x)(h':iJ cx s y):iJ cx s (DU x y):=fun f xs e=>by rcases dI e with e|e;exact h f xs e;exact h' f xs e
theorem WR{b:Bool}{x y:iH}(h:iJ cx s x)(h':iJ cx s y):iJ cx s (Bool.rec (motive:=fun _=>iH) x y b):=by cases b;exact h;exact h'
theorem aSg{f:AV}{xs:List AV}{k:FuncId->List AV->iH}(h: ∀y z,iJ cx s (k y z)):iJ cx s (fnV f xs k):=
 TL (fun _=>wQ (fun _=>aF) (fun _ _=>aF) (fun _=>aF) (fun _ _ _=>aF) (fun _ _ _=>aKp fun _=>h _ _) (fun _=>aF) (fun _=>aF) aF)
  (fun _ _=>aF) (fun _ _ _ _=>aF) (fun _ _ _ _=>aF) (fun _ _ _=>aKp fun _=>h _ _) (fun _ _=>aF) (fun _=>aF) (fun _=>aF) (fun _=>aF)
theorem aSf{f:AV}{k:Nat->iH}(h: ∀b,iJ cx s (k b)):iJ cx s (fnY f k):=fun v s' e=>by
 obtain⟨_,b,_,_,_,_,h2⟩:=aAN e;exact h b v s' h2
theorem aKo{α:Type}{l:List α}{k:α->iH}(h: ∀y,iJ cx s (k y)):iJ cx s (one l k):=fun f xs e=>by obtain⟨y,_,e2⟩:=xH e;exact h y f xs e2
theorem aEj{α:Type}{l:List α}{k:α->α->iH}(h: ∀y z,iJ cx s (k y z)):iJ cx s (pair l k):=fun f xs e=>by obtain⟨y,z,_,e2⟩:=SK e;exact h y z f xs e2
theorem aKq{x:AV}{k:IntKind->Int->iH}(h: ∀q n,iJ cx s (k q n)):iJ cx s (asInt x k):=fun f xs e=>by obtain⟨q,n,_,e2⟩:=jD e;exact h q n f xs e2
theorem wR{x:AV}{o:HO}:iJ cx s (ret x ⟨s.h.set s.n o,s.n+1⟩):=xR (Fq.new _ _ _ _)
theorem WQ{call:dO}(hc:gY call){f:FuncId}{xs:List AV}:iJ cx s (aM2 (call cx.fl cx.hid f xs s)):=fun v s' e=>by
 obtain⟨p,h1,h2⟩:=aA.1 e
 cases h2
 exact hc _ _ _ _ _ p.1 p.2 h1
end
theorem aIE{tb:Tab}{call:dO}{cx:Cx}{t:TE}{s:Hs}(hc:gY call)(op:Op):iJ cx s (opv tb op call cx t s):=by
 cases op with
 |move x=>exact(kZ)
 |assign x=>exact(kZ)
 |pick x y z=>exact(aY (fun _=>aGF fun _=>kZ))
 |alloc e=>exact(aY (fun _=>wR))
 |box e x=>exact(aY (fun _=>wR))
 |build e ps=>exact(aY (fun _=>aY fun _=>aY fun _=>aY fun _=>fZ))
 |buildSlice e n ps=>exact(aY (fun _=>NT fun _=>aY fun _=>eP (aY fun _=>aY fun _=>wR)))
 |load e x=>exact(aY (fun _=>aY fun _=>wS fun _ _=>aY fun _=>aEi fun _=>kZ))
 |store e x y=>exact(aY (fun _=>aY fun _=>aY fun _=>wS fun _ _=>WO fun hb=>WM fun _ hl=>aEh fun _=>eP (xR (Fq.put _ hl (aT.1 hb)))))
 |nilCheck x=>
  refine(aY (fun y=>?_));exact TL (fun _=>wQ (fun _=>aF) (fun _ _=>aF) (fun _=>aF) (fun _ _ _=>aF) (fun _ _ _=>eP fZ) (fun _=>aF) (fun _=>aF) aF) (fun _ _=>fZ) (fun _ _ _ _=>aF) (fun _ _ _ _=>aF) (fun _ _ _=>eP fZ) (fun _ _=>aF) (fun _=>aF) (fun _=>aF) (fun _=>aF)
 |binOp b xt x y yt=>exact(aY (fun _=>aY fun _=>nO uJ kZ))
 |unOp b xt x=>exact(aY (fun _=>nO uJ kZ))
 |convert a b x=>
  have hSB: ∀X,iJ cx s (aK1 tb a b X s):=fun X=>aY fun _=>eP (aY fun _=>NT fun _=>aY fun _=>eP (WS fun _=>wQ (fun _=>aF) (fun _ _=>aF) (fun _=>wR) (fun _ _ _=>aF) (fun _ _ _=>aF) (fun _=>aF) (fun _=>aF) aF));exact aY fun X=>nO uJ (nO (hSB X) kZ)
 |makeInterface e x=>exact(aY (fun _=>eP (aY fun _=>fZ)))
 |makeFunc f' x y=>
  refine nO (eP (aY (fun _=>aY fun _=>fZ))) ?_;show iJ cx s (VG f' x y s);unfold VG
  split
  . exact eP (eP fZ)
  exact aF
 |makeSlice e x y=>exact aF
 |slice e x lo hi mx=>exact aF
 |fieldAddr e x n=>exact(aY (fun _=>NS fun _=>aY fun _=>eP (aY fun _=>wS fun _ _=>fZ)))
 |field e x n=>
  refine(aY (fun _=>NS fun _=>aY fun _=>aY fun y=>?_));exact TL (fun _=>wQ (fun _=>aF) (fun _ _=>aF) (fun _=>aF) (fun _ _ _=>aF) (fun _ _ _=>aF) (fun _=>kZ) (fun _=>aF) aF) (fun _ _=>aF) (fun _ _ _ _=>aF) (fun _ _ _ _=>aF) (fun _ _ _=>aF) (fun _ _=>aF) (fun _=>kZ) (fun _=>aF) (fun _=>aF)
 |indexAddr e x y=>
  refine(aY (fun i=>aY fun X=>aY fun _=>aAM fun j=>?_))
  cases i.k with
  |slice el=>exact aY fun _=>TL (fun _=>aF) (fun _ _=>aF) (fun _ _ _ _=>eP fZ) (fun _ _ _ _=>eP fZ) (fun _ _ _=>aF) (fun _ _=>aF) (fun _=>aF) (fun _=>aF) (fun _=>aF)
  |arr n el=>exact aY fun _=>wS fun _ _=>eP fZ
  |_=>exact aF
 | index e x y=>
  refine(aY (fun i=>aY fun X=>aY fun _=>aAM fun j=>?_))
  cases i.k with
  |str=>exact WS fun _=>uJ
  |arr n el=>
   refine aY fun _=>eP ?_;exact TL (fun _=>wQ (fun _=>aF) (fun _ _=>aF) (fun _=>aF) (fun _ _ _=>aF) (fun _ _ _=>aF) (fun _=>kZ) (fun _=>aF) aF) (fun _ _=>aF) (fun _ _ _ _=>aF) (fun _ _ _ _=>aF) (fun _ _ _=>aF) (fun _ _=>aF) (fun _=>kZ) (fun _=>aF) (fun _=>aF)
  |_=>exact aF
 |range e x=>exact(aY (fun _=>eP (aY fun _=>WS fun _=>wQ (fun _=>aF) (fun _ _=>aF) (fun _=>wR) (fun _ _ _=>aF) (fun _ _ _=>aF) (fun _=>aF) (fun _=>aF) aF)))
 | next x b=>
  refine(eP (aY fun _=>wS fun b _=>WO fun hb=>WM fun o hl=>?_));rw[dW,aDY]at hb
  cases o with
  |iter bs p=>
   show iJ cx s (aAh bs p _ _);unfold aAh
   cases nth bs.data.toList p with
   |none=>exact eP fZ
   |some c=>exact eP (xR (Fq.put _ hl (aT.1 hb.2)))
  |_=>exact aF
 |makeMap t r=>exact aF
 |lookup xt x i ok=>exact aF
 |insert mt m k v=>exact aF
 |mapUpdate mt m k v=>exact aF
 |extract x n=>exact(aY (fun _=>kZ))
 | call c=>
  obtain⟨callee,args,ts⟩:=c;refine aY fun ys=>?_;have hO: ∀f xs,iJ cx s (GY tb call cx f xs s):=fun f xs=>by
   unfold GY
   cases tb.orc f xs with
   |none=>exact WQ hc
   |some v=>exact fZ
  have hI: ∀r m xs,iJ cx s (TS tb call cx r m xs s):=fun r m xs=>by
   unfold TS aR3
   split
   . exact aY fun _=>aY fun _=>eP (hO _ _)
   . exact aY fun _=>aY fun _=>eP (hO _ _)
   exact aF
  have hM: ∀f xs,iJ cx s (XK tb call cx f xs s):=fun f xs=>by
   unfold XK
   split
   . exact eP (eP (hI _ _ _))
   exact aF
  cases callee with
  |invoke r m=>exact aY fun _=>hI _ _ _
  | value fo=>
   refine(aY (fun F=>nO (nO (aSg fun y z=>?_) (aSf fun b=>WQ hc)) (hM _ _)))
   cases tb.orc y z with
   |some u=>exact fZ
   | none=>
    cases tb.fn.get y with
    |none=>
     refine nO (aY fun _=>uJ) (nO (eP (aKo fun _=>fZ)) (aY fun e=>aKo fun _=>aKq fun k n=>eP ?_))
     cases n with
     |ofNat n=>exact eP wR
     |negSucc n=>exact aF
    |some fn=>exact eP (WQ hc)
  | builtin b=>
   cases b with
   |min=>exact nO (aY fun _=>uJ) (aEj fun _ _=>JL fun _=>JL fun _=>eP (aY fun _=>fZ))
   |max=>exact nO (aY fun _=>uJ) (aEj fun _ _=>JL fun _=>JL fun _=>eP (aY fun _=>fZ))
   | append=>
    show iJ cx s (aBj tb ts.toList ys cx s);refine(aKm (fun t1 t2=>aKm fun x y=>aY fun i=>NT fun e=>aY fun ei=>aY fun i2=>eP (aY fun p=>?_)));refine TL (fun _=>wQ (fun _=>aF) (fun _ _=>aF) (fun _=>aF) (fun _ _ _=>eP (eP (WR (eP wR) fZ))) (fun _ _ _=>aF) (fun _=>aF) (fun _=>aF) aF) (fun _ _=>aF)
     (fun _ _ _ _=>eP (WM fun _ hl=>aEi fun _=>WR (aY fun _=>wR) (WO fun hb=>aEh fun _=>eP (xR (Fq.put _ hl (aT.1 hb)))))) (fun _ _ _ _=>eP (WM fun o hl=>?_)) (fun _ _ _=>aF) (fun _ _=>aF) (fun _=>aF) (fun _=>aF) (fun _=>aF)
    cases o with
    |oW c es el=>
     refine WO fun hb=>?_;rw[dW,aDY]at hb;exact WR (eP (aY fun _=>xR (Fq.move _ hl (aT.1 hb.2)))) (eP (eP (xR (Fq.put _ hl (aT.1 hb.2)))))
    |_=>exact aF
   | len=>
    show iJ cx s (aBi tb ts.toList ys s);unfold aBi
    cases ts.toList with
    |nil=>exact aF
    | cons t1 tr=>
     cases ys with
     |nil=>exact aF
     |cons y yr=>
      refine aY (fun i=>?_)
      cases i.k with
      |str=>exact nO (WS fun _=>wQ (fun _=>aF) (fun _ _=>aF) (fun _=>fZ) (fun _ _ _=>aF) (fun _ _ _=>aF) (fun _=>aF) (fun _=>aF) aF) (aN5 fZ)
      |slice el=>exact nO (aY fun _=>fZ) (aKn fZ)
      |_=>exact aF
   |_=>exact aF
 | defer c=>
  obtain⟨callee,args,ts⟩:=c;intro v s' h;obtain⟨xs,h1,h2⟩:=aA.1 h
  cases callee with
  |builtin b=>cases h2
  |invoke r m=>cases h2
  | value f=>
   obtain⟨F,h3,h4⟩:=aA.1 h2
   letI:Gh:=⟨fun _=>False⟩
   cases F with
   |v F=>
    cases F with
    |func g fi ca=>obtain⟨g,rfl,h5⟩:=wU h4;cases(aG.1 h5).2
    |_=>cases h4
   |fn g fi ca=>obtain⟨g,rfl,h5⟩:=wU h4;cases(aG.1 h5).2
   |_=>cases h4
 |_=>exact aF
end Ev
end
section
open Go.RowKit
namespace Ev
structure Md where
 skip:Bool
 fl:Nat
 hid:Hid
 see:See
 wr:See
 v:AV
def VT(x:See)(b:Nat):Prop:=x=.all\/x=.one b\/ ∃l,x=.lst l/\b ∈ l
theorem VR{b:Nat}{l:List Nat}(h:b ∈ l):aCN b l=true:=by
 induction l with
 |nil=>cases h
 |cons c l ih=>
  show bor (Nat.beq c b) (aCN b l)=true;rw[FN,aHW];rcases aHC.1 h with rfl|h
  . exact .inl (aYM _)
  exact .inr (ih h)
theorem aId{b:Nat}{l m:List Nat}(h:b ∈ l)(h':b ∈ m):aIe l m=true:=by
 induction l with
 |nil=>cases h
 |cons c l ih=>
  show bor (aCN c m) (aIe l m)=true;rw[FN,aHW];rcases aHC.1 h with rfl|h
  . exact .inl (VR h')
  exact .inr (ih h)
theorem aAl{x y:See}{b:Nat}(hx:VT x b)(hy:VT y b):meets x y=true:=by
 rcases hx with rfl|rfl|⟨l,rfl,hl⟩<;>rcases hy with rfl|rfl|⟨m,rfl,hm⟩<;>first|rfl|exact aYM b|exact VR hm|exact VR hl|exact aId hl hm
theorem uI(h k:Hid)(b:Nat):hidden (app h k) b=(hidden h b||hidden k b):=by
 induction h with
 |nil=>rfl
 |cons p h ih=>
  show hidden (p::app h k) b=_;rw[dJ,dJ,ih,Bool.or_assoc]
theorem aAG(m:Nat)(h:Hid)(b:Nat):hidden (aDh m h) b=(hidden h b&&decide (b≠m)):=by
 induction h with
 |nil=>rfl
 | cons p h ih=>
  show hidden (Bool.rec (motive:=fun _=>Hid) (p::aDh m h) ((p.1,m)::(m+1,p.2)::aDh m h) (band (Nat.ble p.1 m) (Nat.ble (m+1) p.2))) b=_
  cases hc:band (Nat.ble p.1 m) (Nat.ble (m+1) p.2)with
  |true=>
   rw[dW,aDY,aT,aT]at hc;show hidden ((p.1,m)::(m+1,p.2)::aDh m h) b=_;rw[dJ,dJ,dJ,ih]
   by_cases e:b=m
   . subst e;simp;omega
   by_cases e2:p.1<=b/\b<p.2
   . have:(p.1<=b/\b<m)\/(m+1<=b/\b<p.2):=by omega
     rcases this with h|h<;>simp[h,e,e2]
   have h1: ¬(p.1<=b/\b<m):=by omega
   have h2: ¬(m+1<=b/\b<p.2):=by omega
   simp only[h1,h2,e2,e,aWn,aXA,aXa,aXB,aWI,aWd]
  |false=>
   show hidden (p::aDh m h) b=_;rw[dJ,dJ,ih]
   by_cases e:b=m
   . subst e;have: ¬(p.1<=b/\b<p.2):=fun hh=>by
      have:band (Nat.ble p.1 b) (Nat.ble (b+1) p.2)=true:=by rw[dW,aDY,aT,aT];exact⟨hh.1,hh.2⟩
      rw[this]at hc;cases hc
     simp[this]
   simp[e]
theorem GR(ms:List Nat)(h:Hid)(b:Nat):hidden (aKY ms h) b=(hidden h b&&decide (b ∉ ms)):=by
 induction ms with
 |nil=>show hidden h b=_;simp
 |cons m ms ih=>
  show hidden (aDh m (aKY ms h)) b=_;rw[aAG,ih,Bool.and_assoc]
  congr 1
  by_cases e:b=m<;>by_cases e2:b ∈ ms<;>simp[e,e2]
theorem jR(a:Nat)(h:Hid)(b:Nat)(iv:List (Nat × Nat × Nat)):
 hidden (others a iv h) b=true↔(∃p ∈ iv,bit a p.1=false/\p.2.1<=b/\b<p.2.2)\/hidden h b=true:=by
 induction iv with
 |nil=>exact⟨.inr,fun h=>h.elim (fun⟨_,h,_⟩=>by cases h) id⟩
 | cons p l ih=>
  show hidden (Bool.rec (motive:=fun _=>Hid) (p.2::others a l h) (others a l h) (bit a p.1)) b=true↔_
  cases hb:bit a p.1 with
  |true=>
   show hidden (others a l h) b=true↔_;rw[ih];constructor
   . rintro(⟨q,h1,h2⟩|h1)
     . exact .inl ⟨q,aHJ _ h1,h2⟩
     exact .inr h1
   rintro(⟨q,h1,h2,h3⟩|h1)
   . rcases aHC.1 h1 with rfl|h1
     . rw[hb]at h2;cases h2
     exact .inl ⟨q,h1,h2,h3⟩
   exact .inr h1
  |false=>
   show hidden (p.2::others a l h) b=true↔_;rw[dJ,aHW,ih,aOr];constructor
   . rintro(h1|⟨q,h1,h2⟩|h1)
     . exact .inl ⟨p,aHB,hb,h1⟩
     . exact .inl ⟨q,aHJ _ h1,h2⟩
     exact .inr h1
   rintro(⟨q,h1,h2,h3⟩|h1)
   . rcases aHC.1 h1 with rfl|h1
     . exact .inl h3
     exact .inr (.inl ⟨q,h1,h2,h3⟩)
   exact .inr (.inr h1)
theorem fG{p:Nat × Nat}{l:Hid}{b:Nat}(h:hidden (p::l) b=false): ¬(p.1<=b/\b<p.2)/\hidden l b=false:=by
 rw[dJ,aQk,aDG]at h;exact h
section
variable{tb:Tab}{call:dO}{cx:Cx}{N:Nat}
structure Seen(cx:Cx)(a:Nat)(d:Ds)(m:Md):Prop where
 fl:cx.fl<=d.s.n->cx.fl<=m.fl/\m.fl<=d.s.n
 hid: ∀b,b<d.s.n->hidden m.hid b=false->hidden cx.hid b=false/\(∀p ∈ d.iv,p.2.1<=b->b<p.2.2->bit a p.1=true)/\(cx.fl<=b->VT m.see b)
 wr: ∀b,b<d.s.n->m.fl<=b->hidden m.hid b=false->VT m.wr b
 mono: ∀b,b<d.s.n->(b<cx.fl\/hidden cx.hid b=true)->b<m.fl\/hidden m.hid b=true
 up:(∀p ∈ d.iv,p.2.2<=d.s.n)->(∀b,d.s.n<=b->hidden cx.hid b=false)-> ∀b,d.s.n<=b->hidden m.hid b=false
theorem RX{a:Nat}{d:Ds}{m:Md}(h1:m.fl=d.s.n)(h2:m.hid=[(0,d.s.n)]):Seen cx a d m where
 fl:=fun h=>by rw[h1];exact⟨h,aEc _⟩
 hid:=fun b hb hh=>by rw[h2]at hh;exact absurd ⟨aJS _,hb⟩ (fG hh).1
 wr:=fun b hb hf=>by rw[h1]at hf;omega
 mono:=fun b hb _=>by rw[h1];exact .inl hb
 up:=fun _ _ b hb=>by rw[h2,dJ,aQk,aDG];exact⟨fun h=>absurd h.2 (by simp;omega),rfl⟩
theorem kP{a:Nat}{iv:List (Nat × Nat × Nat)}{h:Hid}{b:Nat}(hh:hidden (others a iv h) b=false):
 hidden h b=false/\ ∀p ∈ iv,p.2.1<=b->b<p.2.2->bit a p.1=true:=by
 refine⟨?_,fun p hp h1 h2=>?_⟩
 . cases hc:hidden h b with
   |false=>rfl
   |true=>rw[(jR a h b iv).2 (.inr hc)]at hh;cases hh
 cases hc:bit a p.1 with
 |true=>rfl
 |false=>rw[(jR a h b iv).2 (.inl ⟨p,hp,hc,h1,h2⟩)]at hh;cases hh
theorem EK{a:Nat}{iv:List (Nat × Nat × Nat)}{h:Hid}{b n:Nat}(h1: ∀p ∈ iv,p.2.2<=n)(h2:hidden h b=false)(hb:n<=b):hidden (others a iv h) b=false:=by
 cases hc:hidden (others a iv h) b with
 |false=>rfl
 |true=>
  rcases(jR a h b iv).1 hc with⟨p,hp,_,_,h4⟩|h3
  . have:=h1 p hp;omega
  rw[h2]at h3;cases h3
theorem aIh{a:Nat}{d:Ds}{m:Md}(h1:(m.fl=d.s.n/\m.wr=.no)\/(m.fl=cx.fl/\m.wr=.all))(h2:m.hid=others a d.iv cx.hid)(h3:m.see=.all):Seen cx a d m where
 fl:=fun h=>by rcases h1 with⟨h1,_⟩|⟨h1,_⟩<;>rw[h1]<;>simp[h]
 hid:=fun b hb hh=>by
  rw[h2]at hh;exact⟨(kP hh).1,(kP hh).2,fun _=>.inl h3⟩
 wr:=fun b hb hf hh=>by
  rcases h1 with⟨h1,_⟩|⟨_,h1⟩
  . omega
  exact .inl h1
 mono:=fun b hb hor=>by
  rcases h1 with⟨h1,_⟩|⟨h1,_⟩
  . rw[h1];exact .inl hb
  rcases hor with h4|h4
  . rw[h1];exact .inl h4
  rw[h2];exact .inr ((jR _ _ _ _).2 (.inr h4))
 up:=fun h4 h5 b hb=>by rw[h2];exact EK h4 (h5 b hb) hb
theorem YX{a c:Nat}{d:Ds}{m:Md}(h1:(m.fl=d.s.n/\m.wr=.no)\/(m.fl=cx.fl/\m.wr=.one c))(h2:m.hid=(0,c)::(c+1,d.s.n)::others a d.iv cx.hid)(h3:m.see=.one c)(hc:c<d.s.n):Seen cx a d m where
 fl:=fun h=>by rcases h1 with⟨h1,_⟩|⟨h1,_⟩<;>rw[h1]<;>simp[h]
 hid:=fun b hb hh=>by
  rw[h2]at hh;obtain⟨k1,k2⟩:=fG hh;obtain⟨k3,k4⟩:=fG k2;have:b=c:=by simp at k1 k3;omega
  subst this;exact⟨(kP k4).1,(kP k4).2,fun _=>.inr (.inl h3)⟩
 wr :=fun b hb hf hh=>by
  rcases h1 with⟨h1,_⟩|⟨_,h1⟩
  . omega
  rw[h2]at hh;obtain⟨k1,k2⟩:=fG hh;obtain⟨k3,k4⟩:=fG k2;have:b=c:=by simp at k1 k3;omega
  subst this;exact .inr (.inl h1)
 mono:=fun b hb hor=>by
  rcases h1 with⟨h1,_⟩|⟨h1,_⟩
  . rw[h1];exact .inl hb
  rcases hor with h4|h4
  . rw[h1];exact .inl h4
  rw[h2,dJ,dJ,(jR _ _ _ _).2 (.inr h4)];simp
 up:=fun h4 h5 b hb=>by
  rw[h2,dJ,aQk,aDG,dJ,aQk,aDG];exact⟨fun h=>absurd h.2 (by simp;omega),fun h=>absurd h.2 (by simp;omega),EK h4 (h5 b hb) hb⟩
theorem YZ{a:Nat}{ms:List Nat}{d:Ds}{m:Md}(h1:(m.fl=d.s.n/\m.wr=.no)\/(m.fl=cx.fl/\m.wr=.lst ms))(h2:m.hid=app (aKY ms [(cx.fl,d.s.n)]) (others a d.iv cx.hid))(h3:m.see=.lst ms):Seen cx a d m:=by
 have key: ∀b,b<d.s.n->cx.fl<=b->hidden m.hid b=false->b ∈ ms:=by
  intro b hb hf hh;rw[h2,uI,aQk,GR,dJ,aWp]at hh;rcases hh.1 with h|h
  . rw[aQk,aDG]at h;exact absurd ⟨hf,hb⟩ h.1
  rw[aDG]at h;exact aPi.1 h
 have ko: ∀b,hidden m.hid b=false->hidden (others a d.iv cx.hid) b=false:=by
  intro b hh;rw[h2,uI,aQk]at hh;exact hh.2
 refine⟨fun h=>?_,fun b hb hh=>⟨(kP (ko b hh)).1,(kP (ko b hh)).2,fun hf=>.inr (.inr ⟨ms,h3,key b hb hf hh⟩)⟩,fun b hb hf hh=>?_,fun b hb hor=>?_,fun h4 h5 b hb=>?_⟩
 . rcases h1 with⟨h1,_⟩|⟨h1,_⟩<;>rw[h1]<;>simp[h]
 . rcases h1 with⟨h1,_⟩|⟨h0,h1⟩
   . omega
   exact .inr (.inr ⟨ms,h1,key b hb (h0 ▸ hf) hh⟩)
 . rcases h1 with⟨h1,_⟩|⟨h1,_⟩
   . rw[h1];exact .inl hb
   rcases hor with h4|h4
   . rw[h1];exact .inl h4
   rw[h2,uI,(jR _ _ _ _).2 (.inr h4)];simp
 rw[h2,uI,EK h4 (h5 b hb) hb,aWs,GR,dJ,aWp];refine .inl ?_;rw[aQk,aDG];exact⟨fun h=>absurd h.2 (by simp;omega),rfl⟩
structure aLY(tb:Tab)(call:dO)(cx:Cx)(N:Nat)(all:List Oper)(o:Oper)(i a:Nat)(d d':Ds)(m:Md):Prop where
 want:J4 tb all d.t o=some (!m.skip)
 put:put N d.t o.dst m.v=some d'.t
 seen:Seen cx a d m
 run:(m.skip=true/\m.v=und/\d'.s=d.s/\d'.iv=d.iv/\d'.es=d.es/\m.fl=d.s.n/\m.hid=[(0,d.s.n)])\/
  (m.skip=false/\opv tb o.op call ⟨cx.g,cx.l,m.fl,m.hid⟩ d.t d.s=some (.ok m.v d'.s)/\free a m.see m.wr d.es=true/\
    d'.iv=(if d.s.n<d'.s.n then(i,d.s.n,d'.s.n)::d.iv else d.iv)/\d'.es=⟨i,m.see,m.wr⟩::d.es)
theorem aJs{β:Type}{r:R3}{k:AV->Hs->Option β}{x:β}(h:okR r k=some x): ∃v s,r=.ok v s/\k v s=some x:=by
 cases r with
 |ok v s=>exact⟨v,s,rfl,h⟩
 |dfr f xs=>cases h
theorem aBJ{o:Oper}{i a:Nat}{d d':Ds}{fl:Nat}{hid:Hid}{see wr:See}(h:qU tb call cx N o i a d fl hid see wr=some d'):
 ∃v,put N d.t o.dst v=some d'.t/\opv tb o.op call ⟨cx.g,cx.l,fl,hid⟩ d.t d.s=some (.ok v d'.s)/\free a see wr d.es=true/\
  d'.iv=(if d.s.n<d'.s.n then(i,d.s.n,d'.s.n)::d.iv else d.iv)/\d'.es=⟨i,see,wr⟩::d.es:=by
 obtain⟨h1,h2⟩:=aG.1 h;obtain⟨r,h3,h4⟩:=aA.1 h2;obtain⟨v,s',rfl,h5⟩:=aJs h4;obtain⟨t,h6,h7⟩:=aA.1 h5
 cases h7
 refine⟨v,h6,h3,h1,?_,rfl⟩;dsimp only
 cases hc:Nat.ble (d.s.n+1) s'.n with
 | true => have:d.s.n<s'.n:=aT.1 hc
           rw[aDk this]
 |false=>rw[aBx (fun hh=>by rw[aT.2 hh]at hc;cases hc)]
theorem OM{β:Type}{t:TE}{a:Option Operand}{k:Nat->Option β}{r:β}(h:aBf tb t a k=some r): ∃b,k b=some r:=by
 obtain⟨x,_,h2⟩:=aA.1 h;obtain⟨y,_,h4⟩:=aA.1 h2;obtain⟨b,o,_,h5⟩:=gX h4;exact⟨b,h5⟩
theorem aAX{all:List Oper}{o:Oper}{i a:Nat}{d d':Ds}(h:aKR tb call cx N all o i a d=some d'): ∃m,aLY tb call cx N all o i a d d' m:=by
 obtain⟨w,h1,h2⟩:=aA.1 h
 cases w with
 |false=>
  obtain⟨t,h3,h4⟩:=aA.1 h2
  cases h4
  exact⟨⟨true,d.s.n,[(0,d.s.n)],.no,.no,und⟩,h1,h3,RX rfl rfl,.inl ⟨rfl,rfl,rfl,rfl,rfl,rfl,rfl⟩⟩
 | true=>
  have h3 :(Bool.rec (motive:=fun _=>Option Ds)
   (Bool.rec (motive:=fun _=>Option Ds)
     (Bool.rec (motive:=fun _=>Option Ds)
       (DU (ob (rU (tZ tb d.t) o.op.operands.toList) (fun xs=>(fun ms=>(fun h=>
         DU (qU tb call cx N o i a d d.s.n h (.lst ms) .no) (qU tb call cx N o i a d cx.fl h (.lst ms) (.lst ms)))
          (app (aKY ms [(cx.fl,d.s.n)]) (others a d.iv cx.hid))) (reach cx.fl d.s.h 200 (SB xs []) [])))
         (qU tb call cx N o i a d cx.fl (others a d.iv cx.hid) .all .all))
       (aBf tb d.t (cls o.op).2 (fun b=>gd (Nat.ble (b+1) d.s.n) (qU tb call cx N o i a d cx.fl ((0,b)::(b+1,d.s.n)::others a d.iv cx.hid) (.one b) (.one b))))
       (Nat.beq (cls o.op).1 2))
     (aBf tb d.t (cls o.op).2 (fun b=>gd (Nat.ble (b+1) d.s.n) (qU tb call cx N o i a d d.s.n ((0,b)::(b+1,d.s.n)::others a d.iv cx.hid) (.one b) .no)))
     (Nat.beq (cls o.op).1 1))
   (qU tb call cx N o i a d d.s.n [(0,d.s.n)] .no .no)
   (Nat.beq (cls o.op).1 0))=some d':=h2
  have fin: ∀fl hid see wr,qU tb call cx N o i a d fl hid see wr=some d'->(∀v,Seen cx a d ⟨false,fl,hid,see,wr,v⟩)-> ∃m,aLY tb call cx N all o i a d d' m:=by
   intro fl hid see wr h4 h5;obtain⟨v,k1,k2,k3,k4,k5⟩:=aBJ h4;exact⟨⟨false,fl,hid,see,wr,v⟩,h1,k1,h5 v,.inr ⟨rfl,k2,k3,k4,k5⟩⟩
  generalize hc0:Nat.beq (cls o.op).1 0=c0 at h3;generalize hc1:Nat.beq (cls o.op).1 1=c1 at h3;generalize hc2:Nat.beq (cls o.op).1 2=c2 at h3
  cases c0 with
  |true=>exact fin _ _ _ _ h3 fun v=>RX rfl rfl
  | false=>
   cases c1 with
   |true=>
    obtain⟨b,h4⟩:=OM h3;obtain⟨h5,h6⟩:=aG.1 h4;exact fin _ _ _ _ h6 fun v=>YX (.inl ⟨rfl,rfl⟩) rfl rfl (aT.1 h5)
   | false=>
    cases c2 with
    |true=>
     obtain⟨b,h4⟩:=OM h3;obtain⟨h5,h6⟩:=aG.1 h4;exact fin _ _ _ _ h6 fun v=>YX (.inr ⟨rfl,rfl⟩) rfl rfl (aT.1 h5)
    |false=>
     rcases dI h3 with h4|h4
     . obtain⟨xs,_,h5⟩:=aA.1 h4;rcases dI h5 with h6|h6
       . exact fin _ _ _ _ h6 fun v=>YZ (.inl ⟨rfl,rfl⟩) rfl rfl
       exact fin _ _ _ _ h6 fun v=>YZ (.inr ⟨rfl,rfl⟩) rfl rfl
     exact fin _ _ _ _ h4 fun v=>aIh (.inr ⟨rfl,rfl⟩) rfl rfl
theorem OA(all:List Oper)(l:List Oper): ∀(a2p:List Nat) (i:Nat) (d d':Ds),aKS tb call cx N all l a2p i d=some d'->
 ∃(D:Nat->Ds) (M:Nat->Md),D i=d/\D (i+l.length)=d'/\l.length<=a2p.length/\
  ∀k o a,l[k]? =some o->a2p[k]? =some a->aLY tb call cx N all o (i+k) a (D (i+k)) (D (i+k+1)) (M (i+k)):=by
 induction l with
 |nil=>intro a2p i d d' h;cases h;exact⟨fun _=>d,fun _=>⟨true,0,[],.no,.no,und⟩,rfl,rfl,aJS _,fun k o a h=>by simp at h⟩
 | cons o l ih=>
  intro a2p i d d' h
  cases a2p with
  |nil=>cases h
  |cons a a2p=>
   obtain⟨d1,h1,h2⟩:=aA.1 h;obtain⟨m,h3⟩:=aAX h1;obtain⟨D,M,k1,k2,k3,k4⟩:=ih a2p (i+1) d1 d' h2;refine⟨fun k=>if k=i then d else D k,fun k=>if k=i then m else M k,by simp,?_,by simpa using k3,?_⟩
   . dsimp only;rw[aBx (by simp),<-k2,aTi];congr 1;omega
   intro k o' a' ho ha;dsimp only
   cases k with
   |zero=>
    simp at ho ha;subst ho;subst ha;rw[aDk (by omega),aBx (by omega),aDk (by omega)];simpa[k1]using h3
   |succ k=>
    rw[aBx (by omega),aBx (by omega),aBx (by omega)];have:=k4 k o' a' (by simpa using ho) (by simpa using ha);rwa[show i+1+k=i+(k+1) by omega]at this
end
end Ev
end
section
open Go.RowKit
namespace Ev
theorem OO(n i:Nat):bit n i=n.testBit i:=by
 unfold bit;rw[Nat.testBit_eq_decide_div_mod_eq];have e1:Nat.land (Nat.shiftRight n i) 1=n / 2 ^ i % 2:=by
  show(n >>> i) &&& 1=_;rw[Nat.and_one_is_mod,Nat.shiftRight_eq_div_pow]
 rw[e1]
 by_cases h:n / 2 ^ i % 2=1
 . rw[h];rfl
 rw[aBy h]
 cases hb:Nat.beq (n / 2 ^ i % 2) 1 with
 |false=>rfl
 |true=>exact absurd (beq_iff.1 hb) h
theorem aEy(a b i:Nat):bit (Nat.lor a b) i=(bit a i||bit b i):=by
 rw[OO,OO,OO];exact Nat.testBit_or a b i
theorem aOx(a i:Nat):bit (Nat.pow 2 a) i=decide (a=i):=by rw[OO];exact Nat.testBit_two_pow
theorem aBg(i:Nat):bit 0 i=false:=by rw[OO];exact Nat.zero_testBit i
theorem aBq(acc:List Nat)(j:Nat)(after:List Edge):
 bit (List.rec (motive:=fun _=>Nat) 0 (fun e _ ih=>Bool.rec (motive:=fun _=>Nat) ih (Nat.lor ih (Nat.lor (Nat.pow 2 e.on) (Option.rec (motive:=fun _=>Nat) 0 (fun n=>n) (nth acc e.on)))) (binding e)) after) j=true↔
  ∃e ∈ after,binding e=true/\(j=e.on\/ ∃m,acc[e.on]? =some m/\bit m j=true):=by
 induction after with
 |nil=>exact⟨fun h=>(by rw[show bit _ j=bit 0 j from rfl,aBg]at h;cases h),fun⟨_,h,_⟩=>(by cases h)⟩
 | cons e l ih=>
  generalize hX:(List.rec (motive:=fun _=>Nat) 0 (fun e _ ih=>Bool.rec (motive:=fun _=>Nat) ih (Nat.lor ih (Nat.lor (Nat.pow 2 e.on) (Option.rec (motive:=fun _=>Nat) 0 (fun n=>n) (nth acc e.on)))) (binding e)) l)=X at ih;show bit (Bool.rec (motive:=fun _=>Nat) (List.rec (motive:=fun _=>Nat) 0 (fun e _ ih=>Bool.rec (motive:=fun _=>Nat) ih (Nat.lor ih (Nat.lor (Nat.pow 2 e.on) (Option.rec (motive:=fun _=>Nat) 0 (fun n=>n) (nth acc e.on)))) (binding e)) l) (Nat.lor (List.rec (motive:=fun _=>Nat) 0 (fun e _ ih=>Bool.rec (motive:=fun _=>Nat) ih (Nat.lor ih (Nat.lor (Nat.pow 2 e.on) (Option.rec (motive:=fun _=>Nat) 0 (fun n=>n) (nth acc e.on)))) (binding e)) l) (Nat.lor (Nat.pow 2 e.on) (Option.rec (motive:=fun _=>Nat) 0 (fun n=>n) (nth acc e.on)))) (binding e)) j=true↔_;rw[hX]
  cases hb:binding e with
  |false=>
   show bit X j=true↔_;rw[ih];constructor
   . rintro⟨x,h1,h2⟩;exact⟨x,aHJ _ h1,h2⟩
   rintro⟨x,h1,h2,h3⟩;rcases aHC.1 h1 with rfl|h1
   . rw[hb]at h2;cases h2
   exact⟨x,h1,h2,h3⟩
  | true=>
   show bit (Nat.lor X (Nat.lor (Nat.pow 2 e.on) (Option.rec (motive:=fun _=>Nat) 0 (fun n=>n) (nth acc e.on)))) j=true↔_;rw[aEy,aEy,aOx,aHW,aHW,aOr,ih,qA];have aYd:bit (Option.rec (motive:=fun _=>Nat) 0 (fun n=>n) acc[e.on]?) j=true↔ ∃m,acc[e.on]? =some m/\bit m j=true:=by
    cases acc[e.on]? with
    |none=>exact⟨fun h=>(by rw[show bit _ j=bit 0 j from rfl,aBg]at h;cases h),fun⟨_,h,_⟩=>(by cases h)⟩
    |some m=>exact⟨fun h=>⟨m,rfl,h⟩,fun⟨_,h,h'⟩=>by cases h;exact h'⟩
   rw[aYd];constructor
   . rintro(⟨x,h1,h2⟩|h1|h1)
     . exact⟨x,aHJ _ h1,h2⟩
     . exact⟨e,aHB,hb,.inl h1.symm⟩
     exact⟨e,aHB,hb,.inr h1⟩
   rintro⟨x,h1,h2,h3⟩;rcases aHC.1 h1 with rfl|h1
   . rcases h3 with h3|h3
     . exact .inr (.inl h3.symm)
     exact .inr (.inr h3)
   exact .inl ⟨x,h1,h2,h3⟩
theorem TW: ∀(l:List Oper) (acc:List Nat),∃r,kY l acc=acc++r/\r.length=l.length/\ ∀k o,l[k]? =some o->r[k]? =some (aLn (acc++r.take k) o):=by
 intro l
 induction l with
 |nil=>intro acc;exact⟨[],(aTE _).symm,rfl,fun k o h=>by simp at h⟩
 |cons o l ih=>
  intro acc;obtain⟨r,h1,h2,h3⟩:=ih (app acc [aLn acc o]);refine⟨aLn acc o::r,?_,by simp[h2],fun k x hx=>?_⟩
  . show kY l (app acc [aLn acc o])=_;rw[h1,jT,aUi];rfl
  cases k with
  |zero=>simp at hx;subst hx;simp
  |succ k=>
   have:=h3 k x (by simpa using hx);rw[jT,aUi]at this;simpa using this
def An(a2p:List Nat)(i j:Nat):Prop:= ∃a,a2p[i]? =some a/\bit a j=true
theorem rF: ∀(l:List Oper) (i:Nat),backOk l i=true-> ∀k o,l[k]? =some o-> ∀e ∈ o.after.toList,binding e=true->e.on<i+k:=by
 intro l
 induction l with
 |nil=>intro i _ k o h;simp at h
 | cons x l ih=>
  intro i h k o ho e he hb;change band (allB (fun e=>bor (mV (binding e)) (Nat.ble (e.on+1) i)) x.after.toList) (backOk l (i+1))=true at h;rw[dW,aDY,JU]at h
  cases k with
  |zero=>
   simp at ho;subst ho;have:=aL4.1 h.1 e he;rw[FN,jC,hb]at this;have:=aT.1 (by simpa using this);omega
  |succ k=>have:=ih (i+1) h.2 k o (by simpa using ho) e he hb;omega
theorem OU{ops:Array Oper}(hb:backOk ops.toList 0=true){i j:Nat}{o:Oper}(ho:ops[i]? =some o):
 An (kY ops.toList []) i j↔ ∃e ∈ o.after.toList,binding e=true/\(j=e.on\/An (kY ops.toList []) e.on j):=by
 obtain⟨r,h1,h2,h3⟩:=TW ops.toList [];rw[aW6]at h1;rw[h1];have ho':ops.toList[i]? =some o:=by rw[aGC];exact ho
 have h4:=h3 i o ho';have hback:=rF _ _ hb i o ho';rw[aW6]at h4;unfold An;constructor
 . rintro⟨a,h5,h6⟩;rw[h4]at h5;cases h5;obtain⟨e,k1,k2,k3⟩:=(aBq (r.take i) j o.after.toList).1 h6;refine⟨e,k1,k2,k3.imp id ?_⟩;rintro⟨m,k4,k5⟩;rw[List.getElem?_take]at k4
   split at k4
   . exact⟨m,k4,k5⟩
   cases k4
 rintro⟨e,k1,k2,k3⟩;refine⟨_,h4,(aBq (r.take i) j o.after.toList).2 ⟨e,k1,k2,k3.imp id ?_⟩⟩;rintro⟨m,k4,k5⟩;have:=hback e k1 k2;refine⟨m,?_,k5⟩;rw[List.getElem?_take,aDk (by omega)];exact k4
theorem aLk(ops:Array Oper):(kY ops.toList []).length=ops.size:=by
 obtain⟨r,h1,h2,_⟩:=TW ops.toList [];rw[aW6]at h1;rw[h1,h2,aLW]
theorem aLq{ops:Array Oper}{i j:Nat}(h:An (kY ops.toList []) i j): ∃o,ops[i]? =some o:=by
 obtain⟨a,h1,_⟩:=h;have:i<ops.size:=by
  rw[<-aLk];rcases aMh i (kY ops.toList []).length with h|h
  . exact h
  rw[aSz h]at h1;cases h1
 exact⟨_,aMl this⟩
theorem aLp{ops:Array Oper}(hb:backOk ops.toList 0=true): ∀(i j:Nat),An (kY ops.toList []) i j->j<i:=by
 intro i
 induction i using Nat.strongRecOn with
 |ind i ih=>
  intro j h;obtain⟨o,ho⟩:=aLq h;obtain⟨e,k1,k2,k3⟩:=(OU hb ho).1 h;have:=rF _ _ hb i o (by rw[aGC];exact ho) e k1 k2;rcases k3 with rfl|k3
  . omega
  have:=ih e.on (by omega) j k3;omega
theorem aLo{ops:Array Oper}(hb:backOk ops.toList 0=true): ∀(i j k:Nat),An (kY ops.toList []) i j->An (kY ops.toList []) j k->An (kY ops.toList []) i k:=by
 intro i
 induction i using Nat.strongRecOn with
 |ind i ih=>
  intro j k h h';obtain⟨o,ho⟩:=aLq h;obtain⟨e,k1,k2,k3⟩:=(OU hb ho).1 h;have:=rF _ _ hb i o (by rw[aGC];exact ho) e k1 k2;rcases k3 with rfl|k3
  . exact(OU hb ho).2 ⟨e,k1,k2,.inr h'⟩
  exact(OU hb ho).2 ⟨e,k1,k2,.inr (ih e.on (by omega) j k k3 h')⟩
theorem aE4{ops:Array Oper}{i:Nat}{o:Oper}: ∀(l:List Oper) (a2p:List Nat),aMT ops i o l a2p=true-> ∀(y:Nat) (p:Oper) (a:Nat),l[y]? =some p->a2p[y]? =some a->o.apart ops p=true\/bit a i=true:=by
 intro l
 induction l with
 |nil=>intro a2p _ y p a h;simp at h
 | cons p l ih=>
  intro a2p h y q a hq ha
  cases a2p with
  |nil=>cases h
  |cons b a2p=>
   change band (bor (o.apart ops p) (bit b i)) (aMT ops i o l a2p)=true at h;rw[dW,aDY,FN,aHW]at h
   cases y with
   |zero=>simp at hq ha;subst hq;subst ha;exact h.1
   |succ y=>exact ih a2p h.2 y q a (by simpa using hq) (by simpa using ha)
theorem aH8{ops:Array Oper}: ∀(l:List Oper) (i:Nat) (a2p:List Nat),tOk ops l i a2p=true-> ∀(x y:Nat) (o p:Oper) (a:Nat),x<y->l[x]? =some o->l[y]? =some p->a2p[y]? =some a->o.apart ops p=true\/bit a (i+x)=true:=by
 intro l
 induction l with
 |nil=>intro i a2p _ x y o p a _ h;simp at h
 | cons q l ih=>
  intro i a2p h x y o p a hxy ho hp ha
  cases a2p with
  |nil=>cases h
  | cons b a2p=>
   change band (aMT ops i q l a2p) (tOk ops l (i+1) a2p)=true at h;rw[dW,aDY]at h
   cases y with
   |zero=>omega
   | succ y=>
    cases x with
    |zero=>simp at ho;subst ho;exact aE4 l a2p h.1 y p a (by simpa using hp) (by simpa using ha)
    |succ x=>
     have:=ih (i+1) a2p h.2 x y o p a (by omega) (by simpa using ho) (by simpa using hp) (by simpa using ha);rwa[show i+1+x=i+(x+1) by omega]at this
end Ev
end
section
open Go.RowKit
namespace Ev
structure Run(tb:Tab)(call:dO)(cx:Cx)(N:Nat)(ops:Array Oper)(D:Nat->Ds)(M:Nat->Md):Prop where
 at_: ∀k o a,ops[k]? =some o->(kY ops.toList [])[k]? =some a->aLY tb call cx N ops.toList o k a (D k) (D (k+1)) (M k)
 iv0:(D 0).iv=[]
 es0:(D 0).es=[]
 zW:cx.fl<=(D 0).s.n
 sK: ∀b,(D 0).s.n<=b->hidden cx.hid b=false
 back:backOk ops.toList 0=true
 tok:tOk ops ops.toList 0 (kY ops.toList [])=true
 fr:gY call
def Wr(D:Nat->Ds)(M:Nat->Md)(k b:Nat):Prop:=((D k).s.n<=b/\b<(D (k+1)).s.n)\/(b<(D k).s.n/\(M k).fl<=b/\hidden (M k).hid b=false)
def Vi(D:Nat->Ds)(M:Nat->Md)(k b:Nat):Prop:=b<(D k).s.n/\hidden (M k).hid b=false
section
variable{tb:Tab}{call:dO}{cx:Cx}{N:Nat}{ops:Array Oper}{D:Nat->Ds}{M:Nat->Md}(hR:Run tb call cx N ops D M)
include hR
theorem Run.at'{k:Nat}(hk:k<ops.size): ∃o a,ops[k]? =some o/\(kY ops.toList [])[k]? =some a/\aLY tb call cx N ops.toList o k a (D k) (D (k+1)) (M k):=by
 have h1:ops[k]? =some ops[k]:=aMl hk;have h2:k<(kY ops.toList []).length:=by rw[aLk];exact hk
 exact⟨_,_,h1,aEM h2,hR.at_ k _ _ h1 (aEM h2)⟩
theorem Run.fq{k:Nat}(hk:k<ops.size):Fq (M k).fl (M k).hid (D k).s (D (k+1)).s:=by
 obtain⟨o,a,h1,h2,h3⟩:=hR.at' hk;rcases h3.run with⟨_,_,h4,_⟩|⟨_,h4,_⟩
 . rw[h4];exact Fq.refl _ _ _
 exact aIE (cx:=⟨cx.g,cx.l,(M k).fl,(M k).hid⟩) hR.fr o.op _ _ h4
theorem Run.aJQ{k:Nat}(hk:k<ops.size):(D k).s.n<=(D (k+1)).s.n:=(hR.fq hk).1
theorem Run.mono{k k':Nat}(hk:k<=k')(hk':k'<=ops.size):(D k).s.n<=(D k').s.n:=by
 obtain⟨j,rfl⟩:=aWK hk;clear hk
 induction j with
 |zero=>exact aEc _
 |succ j ih=>exact aHU (ih (by omega)) (hR.aJQ (k:=k+j) (by omega))
theorem Run.iv {k:Nat} (hk:k<=ops.size):(∀p ∈ (D k).iv,∃j,j<k/\p=(j,(D j).s.n,(D (j+1)).s.n))/\ ∀j,j<k->(D j).s.n<(D (j+1)).s.n->(j,(D j).s.n,(D (j+1)).s.n) ∈ (D k).iv:=by
 induction k with
 |zero=>rw[hR.iv0];exact⟨fun p h=>(by cases h),fun j h=>(by omega)⟩
 | succ k ih=>
  obtain⟨i1,i2⟩:=ih (by omega);obtain⟨o,a,h1,h2,h3⟩:=hR.at' (k:=k) (by omega);rcases h3.run with⟨_,_,h4,h5,_⟩|⟨_,_,_,h5,_⟩
  . rw[h5];refine⟨fun p hp=>?_,fun j hj hlt=>?_⟩
    . obtain⟨j,h6,h7⟩:=i1 p hp;exact⟨j,by omega,h7⟩
    by_cases e:j=k
    . subst e;rw[h4]at hlt;omega
    exact i2 j (by omega) hlt
  rw [h5]
  by_cases hlt:(D k).s.n<(D (k+1)).s.n
  . rw[aDk hlt];refine⟨fun p hp=>?_,fun j hj hlt=>?_⟩
    . rcases aHC.1 hp with rfl|hp
      . exact⟨k,by omega,rfl⟩
      obtain⟨j,h6,h7⟩:=i1 p hp;exact⟨j,by omega,h7⟩
    by_cases e:j=k
    . subst e;exact aHB
    exact aHJ _ (i2 j (by omega) hlt)
  rw[aBx hlt];refine⟨fun p hp=>?_,fun j hj hlt'=>?_⟩
  . obtain⟨j,h6,h7⟩:=i1 p hp;exact⟨j,by omega,h7⟩
  by_cases e:j=k
  . subst e;exact absurd hlt' hlt
  exact i2 j (by omega) hlt'
theorem Run.es{k:Nat}(hk:k<=ops.size): ∀j,j<k->(M j).skip=false->(⟨j,(M j).see,(M j).wr⟩:En) ∈ (D k).es:=by
 induction k with
 |zero=>intro j h;omega
 |succ k ih=>
  intro j hj hs;obtain⟨o,a,h1,h2,h3⟩:=hR.at' (k:=k) (by omega);rcases h3.run with⟨h4,_,_,_,h5,_⟩|⟨_,_,_,_,h5⟩
  . rw[h5]
    by_cases e:j=k
    . subst e;rw[h4]at hs;cases hs
    exact ih (by omega) j (by omega) hs
  rw[h5]
  by_cases e:j=k
  . subst e;exact aHB
  exact aHJ _ (ih (by omega) j (by omega) hs)
theorem Run.flk{k:Nat}(hk:k<ops.size):cx.fl<=(M k).fl/\(M k).fl<=(D k).s.n:=by
 obtain⟨o,a,h1,h2,h3⟩:=hR.at' hk;exact h3.seen.fl (aHU hR.zW (hR.mono (aJS _) (by omega)))
theorem Run.aDO{k b:Nat}(hk:k<ops.size)(hv:Vi D M k b):(M k).skip=false:=by
 obtain⟨o,a,h1,h2,h3⟩:=hR.at' hk;rcases h3.run with⟨_,_,_,_,_,_,h4⟩|⟨h4,_⟩
 . have h5:=hv.2;rw[h4]at h5;exact absurd ⟨aJS _,hv.1⟩ (fG h5).1
 exact h4
theorem Run.upk{k:Nat}(hk:k<ops.size){b:Nat}(hb:(D k).s.n<=b):hidden (M k).hid b=false:=by
 obtain⟨o,a,h1,h2,h3⟩:=hR.at' hk;refine h3.seen.up (fun p hp=>?_) (fun c hc=>hR.sK c (aHU (hR.mono (aJS _) (by omega)) hc)) b hb;obtain⟨j,h4,rfl⟩:=(hR.iv (aTm hk)).1 p hp;exact hR.mono (k:=j+1) (by omega) (by omega)
theorem free_spec{a:Nat}{see wr:See}{l:List En}(h:free a see wr l=true){e:En}(he:e ∈ l)(hm:meets e.wr see=true\/meets wr e.see=true):bit a e.i=true:=by
 unfold free at h;rw[JU]at h;have:=aL4.1 h e he;rw[FN,jC,FN]at this;rcases hm with hm|hm<;>simpa[hm]using this
theorem Run.f1{i j b:Nat}(hij:i<j)(hj:j<ops.size)(hw:Wr D M i b)(hv:Vi D M j b):An (kY ops.toList []) j i:=by
 obtain⟨o,a,h1,h2,h3⟩:=hR.at' hj;obtain⟨_,s2,s3⟩:=h3.seen.hid b hv.1 hv.2;refine⟨a,h2,?_⟩;rcases hw with⟨w1,w2⟩|⟨w1,w2,w3⟩
 . exact s2 _ ((hR.iv (aTm hj)).2 i hij (Nat.lt_of_le_of_lt w1 w2)) w1 w2
 have ns:=hR.aDO hj hv;have ni:=hR.aDO (k:=i) (by omega) ⟨w1,w3⟩;rcases h3.run with⟨h4,_⟩|⟨_,_,h4,_⟩
 . rw[ns]at h4;cases h4
 obtain⟨o',a',q1,q2,q3⟩:=hR.at' (k:=i) (by omega);exact free_spec hR h4 (hR.es (aTm hj) i hij ni) (.inl (aAl (q3.seen.wr b w1 w2 w3) (s3 (aHU (hR.flk (k:=i) (by omega)).1 w2))))
theorem Run.f2{i j b:Nat}(hij:i<j)(hj:j<ops.size)(hv:Vi D M i b)(hw:Wr D M j b):An (kY ops.toList []) j i:=by
 obtain⟨o,a,h1,h2,h3⟩:=hR.at' hj;have hm:=hR.mono (k:=i) (k':=j) (by omega) (by omega);have hb:=hv.1;refine⟨a,h2,?_⟩;rcases hw with⟨w1,w2⟩|⟨w1,w2,w3⟩
 . omega
 have ns:=hR.aDO hj ⟨w1,w3⟩;have ni:=hR.aDO (k:=i) (by omega) hv;rcases h3.run with⟨h4,_⟩|⟨_,_,h4,_⟩
 . rw[ns]at h4;cases h4
 obtain⟨o',a',q1,q2,q3⟩:=hR.at' (k:=i) (by omega);exact free_spec hR h4 (hR.es (aTm hj) i hij ni) (.inr (aAl (h3.seen.wr b w1 w2 w3) ((q3.seen.hid b hv.1 hv.2).2.2 (aHU (hR.flk hj).1 w2))))
theorem Run.f3{i j b:Nat}(hij:i<j)(hj:j<ops.size)(hw:Wr D M i b)(hw':Wr D M j b):An (kY ops.toList []) j i:=by
 rcases hw' with⟨w1,w2⟩|⟨w1,w2,w3⟩
 . have:=hR.mono (k:=i+1) (k':=j) (by omega) (by omega);have:=hR.mono (k:=i) (k':=j) (by omega) (by omega);rcases hw with⟨v1,v2⟩|⟨v1,v2⟩<;>omega
 exact hR.f1 hij hj hw ⟨w1,w3⟩
theorem Run.vis{k b:Nat}(hk:k<ops.size)(hv:Vi D M k b):hidden cx.hid b=false:=by
 obtain⟨o,a,h1,h2,h3⟩:=hR.at' hk;exact(h3.seen.hid b hv.1 hv.2).1
theorem Run.wis{k b:Nat}(hk:k<ops.size)(hw:Wr D M k b):hidden cx.hid b=false/\cx.fl<=b/\hidden (M k).hid b=false/\(M k).fl<=b/\b<(D (k+1)).s.n:=by
 have h1:=hR.flk hk;have h2:=hR.mono (k:=0) (k':=k) (aJS _) (by omega);have h3:=hR.aJQ hk;rcases hw with⟨w1,w2⟩|⟨w1,w2,w3⟩
 . exact⟨hR.sK b (by omega),by omega,hR.upk hk w1,by omega,w2⟩
 exact⟨hR.vis hk ⟨w1,w3⟩,by omega,w3,w2,by omega⟩
theorem Run.keep{k k' b:Nat}(hk:k<=k')(hk':k'<=ops.size)(hb:b<(D k).s.n)(hn: ∀j,k<=j->j<k'-> ¬Wr D M j b):(D k').s.h.get b=(D k).s.h.get b:=by
 obtain⟨d,rfl⟩:=aWK hk;clear hk
 induction d with
 |zero=>rfl
 |succ d ih=>
  rw[<-ih (by omega) (fun j h1 h2=>hn j h1 (by omega))];have hlt:=hR.mono (k:=k) (k':=k+d) (by omega) (by omega);refine(hR.fq (k:=k+d) (by omega)).2.1 b (by omega) ?_;have:=hn (k+d) (by omega) (by omega);rcases aMh b (M (k+d)).fl with h|h
  . exact .inl h
  cases hc:hidden (M (k+d)).hid b with
  |true=>exact .inr rfl
  |false=>exact absurd (.inr ⟨by omega,h,hc⟩) this
theorem Run.above{k b:Nat}{o:HO}(hk:k<=ops.size)(hb:(D k).s.n<=b)(ho:(D k).s.h.get b=some o): ∃o',(D 0).s.h.get b=some o':=by
 induction k generalizing o with
 |zero=>exact⟨o,ho⟩
 |succ k ih=>
  obtain⟨o1,h1⟩:=(hR.fq (k:=k) (by omega)).2.2 b o hb ho;exact ih (by omega) (aHU (hR.aJQ (k:=k) (by omega)) hb) h1
theorem Run.aQR{k t:Nat}(hk:k<ops.size)(hn: ∀o,ops[k]? =some o->o.dst≠some t):oZ (D (k+1)).t t=oZ (D k).t t:=by
 obtain⟨o,a,h1,h2,h3⟩:=hR.at' hk;rcases LV h3.put with⟨_,h4⟩|⟨j,h4,_,h5⟩
 . rw[h4]
 rw[h5];exact rE _ _ (fun e=>hn o h1 (by rw[h4,e]))
theorem Run.aPM{k k' t:Nat}(hk:k<=k')(hk':k'<=ops.size)(hn: ∀j,k<=j->j<k'-> ∀o,ops[j]? =some o->o.dst≠some t):oZ (D k').t t=oZ (D k).t t:=by
 obtain⟨d,rfl⟩:=aWK hk;clear hk
 induction d with
 |zero=>rfl
 |succ d ih=>
  rw[<-ih (by omega) (fun j h1 h2=>hn j h1 (by omega))];exact hR.aQR (k:=k+d) (by omega) (hn (k+d) (by omega) (by omega))
theorem Run.aXt{k t:Nat}{o:Oper}(hk:k<ops.size)(ho:ops[k]? =some o)(hd:o.dst=some t):oZ (D (k+1)).t t=some (M k).v/\t<N:=by
 obtain⟨o',a,h1,h2,h3⟩:=hR.at' hk;rw[ho]at h1;cases h1;rcases LV h3.put with⟨h4,_⟩|⟨j,h4,h5,h6⟩
 . rw[hd]at h4;cases h4
 rw[hd]at h4;cases h4;rw[h6];exact⟨CJ _ _ _,h5⟩
theorem Run.t1{i j:Nat}{o p:Oper}(hij:i<j)(ho:ops[i]? =some o)(hp:ops[j]? =some p)(hap:o.apart ops p=false):An (kY ops.toList []) j i:=by
 have hj:j<ops.size:=by
  rcases aMh j ops.size with h|h
  . exact h
  rw[aKi h]at hp;cases hp
 obtain⟨p',a,h1,h2,_⟩:=hR.at' hj;rcases aH8 _ _ _ hR.tok i j o p a hij (by rw[aGC];exact ho) (by rw[aGC];exact hp) h2 with h3|h3
 . rw[h3]at hap;cases hap
 rw[aKP]at h3;exact⟨a,h2,h3⟩
end
end Ev
end
section
open Go.RowKit
namespace Ev
def oI(ρ ρ':Env)(b:Nat):Prop:=ρ'.blk b=ρ.blk b/\ρ'.off b=ρ.off b/\ρ'.cp b=ρ.cp b
mutual
theorem zK{G G':Gh}{n n':Nat}(h: ∀b,@Gd G n b->@Gd G' n' b):(x:AV)->@Sc G n x->@Sc G' n' x
 | .v _,_=>trivial
 | .ptr b off,hs=>h b hs
 | .sl b _ _ _,hs=>h b hs
 | .KO b _ _ _,hs=>h b hs
 | .fn _ first caps,hs=>⟨nU h first hs.1,nU h caps hs.2⟩
 | .yM _ x,hs=>zK h x hs
 | .agg l,hs=>nU h l hs
 | .aK l,hs=>nU h l hs
 | .mp b,hs=>h b hs
theorem nU{G G':Gh}{n n':Nat}(h: ∀b,@Gd G n b->@Gd G' n' b):(l:List AV)->@iT G n l->@iT G' n' l
 |[],_=>trivial
 |x::l,hs=>⟨zK h x hs.1,nU h l hs.2⟩
end
mutual
theorem FD{G:Gh}{n:Nat}{ρ ρ':Env}(h: ∀b,@Gd G n b->oI ρ ρ' b):(x:AV)->@Sc G n x->den ρ' x=den ρ x
 | .v _,_=>rfl
 | .ptr b off,hs=>by simp only[den,(h b hs).1,(h b hs).2.1]
 | .sl b _ _ _,hs=>by simp only[den,(h b hs).1,(h b hs).2.1]
 | .KO b _ _ _,hs=>by simp only[den,Env.cap,(h b hs).1,(h b hs).2.1,(h b hs).2.2]
 | .fn _ first caps,hs=>by simp only[den,xZ h first hs.1,xZ h caps hs.2]
 | .yM _ x,hs=>by simp only[den,FD h x hs]
 | .agg l,hs=>by simp only[den,xZ h l hs]
 | .aK l,hs=>by simp only[den,xZ h l hs]
 | .mp b,hs=>by simp only[den,(h b hs).2.2]
theorem xZ{G:Gh}{n:Nat}{ρ ρ':Env}(h: ∀b,@Gd G n b->oI ρ ρ' b):(l:List AV)->@iT G n l->jK ρ' l=jK ρ l
 |[],_=>rfl
 |x::l,hs=>by simp only[jK,FD h x hs.1,xZ h l hs.2]
end
theorem wM{G G':Gh}{n n' b:Nat}{ρ ρ':Env}{w w':World}{o:HO}(h:@HO.Holds G ρ n b w o)(hi: ∀b,@Gd G n b->@Gd G' n' b)(he: ∀b,@Gd G n b->oI ρ ρ' b)
 (hb:oI ρ ρ' b) (hw:w'.heap[ρ.blk b]? =w.heap[ρ.blk b]?):@HO.Holds G' ρ' n' b w' o:=by
 have hden: ∀l:List AV,@iT G n l->l.map (den ρ')=l.map (den ρ):=fun l hl=>by rw[<-dM,<-dM];exact xZ he l hl
 cases o with
 |ro cells=>
  obtain⟨⟨x,h1⟩,h2,h3⟩:=h;refine⟨⟨x,by rw[hb.1,hw];exact h1⟩,fun i x hx=>?_,nU hi _ h3⟩;have hd:den ρ' x=den ρ x:=FD he x ((@bI G _ _).1 h3 x (aQj hx));rw[hd,<-h2 i x hx,hb.1,hb.2.1];simp only[World.cell?,hw]
 |row cells el=>
  obtain⟨h0,c,fr,h1,h2,h3,h4⟩:=h;exact⟨by rw[hb.2.1];exact h0,c,fr,by rw[hb.1,hw];exact h1,h2,by rw[hden _ h4];exact h3,nU hi _ h4⟩
 |oW cells es el=>
  obtain⟨h0,h00,c,fr,h1,h2,h3,⟨rest,h4⟩,h5⟩:=h;exact⟨by rw[hb.2.1];exact h0,h00,c,fr,by rw[hb.1,hw];exact h1,h2,by unfold Env.cap;rw[hb.2.2];exact h3,⟨rest,by rw[hden _ h5];exact h4⟩,nU hi _ h5⟩
 |iter s pos=>exact⟨by rw[hb.2.1];exact h.1,by rw[hb.1,hw];exact h.2⟩
 |lp st jm N t ps a2p bd d=>
  obtain⟨h0,r,h1,⟨h2,h3,h4,h5,h6,h7⟩,h8,h9,h10⟩:=h;refine⟨by rw[hb.2.1];exact h0,r,by rw[hb.1,hw];exact h1,⟨h2,h3,h4,h5,h6,by rw[(he d h8).1];exact h7⟩,hi d h8,h9,fun i v hv=>?_⟩;obtain⟨k1,k2,k3⟩:=h10 i v hv;exact⟨zK hi _ k1,k2,by rw[FD he _ k1];exact k3⟩
 |df=>exact⟨by rw[hb.2.1];exact h.1,by rw[hb.1,hw];exact h.2⟩
 |mpo ks vs=>
  obtain⟨h0,ms,clk,h1,h2,h3,h4,h5⟩:=h;exact⟨by rw[hb.2.1];exact h0,ms,clk,by rw[hb.1,hw];exact h1,by rw[hden _ h4];exact h2,by rw[hden _ h5];exact h3,nU hi _ h4,nU hi _ h5⟩
section
variable(G0:Gh)(w0 ws:World)(cx:Cx)(N:Nat)(ops:Array Oper)(D:Nat->Ds)(M:Nat->Md)(ρ0:Env)(ds:List Deferred)
def Iv(j b:Nat):Prop:=(D j).s.n<=b/\b<(D (j+1)).s.n
def Sj(j b:Nat):Prop:= ∃j',(j'=j\/An (kY ops.toList []) j j')/\Iv D j' b
def Old(b:Nat):Prop:=b<(D 0).s.n/\ ¬G0.bad b
def wrT(j t:Nat):Prop:= ∃o,ops[j]? =some o/\o.dst=some t
@[instance_reducible] def GT(t k:Nat):Gh:=⟨fun b=> ¬(Old G0 D b\/ ∃j,j<k/\wrT ops j t/\Sj ops D j b)⟩
@[instance_reducible] def GM(c k:Nat):Gh:=⟨fun b=> ¬(Old G0 D b\/ ∃j,j<k/\Wr D M j c/\Sj ops D j b)⟩
@[instance_reducible] def GI(i:Nat):Gh:=⟨fun b=>G0.bad b\/((D 0).s.n<=b/\b<(D i).s.n/\ ¬ ∃j,An (kY ops.toList []) i j/\Iv D j b)⟩
variable(Dn:Nat->Prop)
def CT(t k:Nat):Prop:=(∀j,j<k->wrT ops j t->Dn j)/\ ∀j,k<=j->wrT ops j t-> ¬Dn j
def CM(b k:Nat):Prop:=(∀j,j<k->Wr D M j b->Dn j)/\ ∀j,k<=j->j<ops.size->Wr D M j b-> ¬Dn j
def Live(b k:Nat)(o:HO):Prop:=k<=ops.size/\CM ops D M Dn b k/\hidden cx.hid b=false/\(D k).s.h.get b=some o
structure Inv(ρ:Env)(w:World)(a:Act):Prop where
 size:a.tmps.size=N
 defers:a.defers=ds
 ext:Ext (D 0).s.n ρ0 ρ
 below:Below w0.heap.size w0 w
 tmp: ∀t k v,k<=ops.size->CT ops Dn t k->oZ (D k).t t=some v->t<N/\a.tmps[t]? =some (den ρ v)/\@Sc (GT G0 ops D t k) (D ops.size).s.n v
 obj: ∀b k o,Live cx ops D M Dn b k o->b<(D k).s.n/\@HO.Holds (GM G0 ops D M b k) ρ (D ops.size).s.n b w o/\(cx.l<=b->w0.heap.size<=ρ.blk b)/\(b<cx.l->ρ.blk b<w0.heap.size)
 inj: ∀b b' k k' o o',Live cx ops D M Dn b k o->Live cx ops D M Dn b' k' o'->cx.l<=b->cx.l<=b'->ρ.blk b=ρ.blk b'->b=b'
 fr:Fr ρ0 cx (D 0).s ws w
 new: ∀b k o,Live cx ops D M Dn b k o->cx.fl<=b->ws.heap.size<=ρ.blk b\/ ∃b0 o0,cx.fl<=b0/\(D 0).s.look cx.hid b0=some o0/\ρ0.blk b0=ρ.blk b
end
theorem YD{all:List Oper}{ops:Array Oper}{o:Oper}{b:Bool}{tb:Tab}{ρ:Env}{a:Act}{t:TE}(hF:DR tb)(hρ:Lv tb ρ)(hall:all=ops.toList)(h:J4 tb all t o=some b)
 (ht: ∀d v,d ∈ o.looksAt ops->oZ t d=some v->a.tmps[d]? =some (den ρ v)):Region.wanted o (yielded ops a.tmps)=b:=by
 subst hall;unfold J4 at h;unfold Region.wanted
 cases hg:o.guard with
 |none=>rw[hg]at h;cases h;rfl
 |some p=>
  rw[hg]at h;obtain⟨j,want⟩:=p;obtain⟨g,h1,h2⟩:=aA.1 h;obtain⟨d,h3,h4⟩:=aA.1 h2;obtain⟨x,h5,h6⟩:=aA.1 h4;obtain⟨u,hu,h7⟩:=fP h6;rw[qA,aGC]at h1;have h8:=ht d _ (by simp[Oper.looksAt,hg,h1,h3]) h5;rw[<-aD6 hF hρ,hu]at h8;have:=TI h7;simp only[yielded,h1,h3,aXU,h8,den]
  cases u<;>exact this
end Ev
end
section
open Go.RowKit
namespace Ev
section
variable{G0:Gh}{w0 ws:World}{tb:Tab}{call:dO}{cx:Cx}{N:Nat}{ops:Array Oper}{D:Nat->Ds}{M:Nat->Md}{ρ0 ρ:Env}{ds:List Deferred}{Dn:Nat->Prop}{w:World}{a:Act}{i:Nat}{o:Oper}
structure Now(tb:Tab)(call:dO)(G0:Gh)(w0 ws:World)(cx:Cx)(N:Nat)(ops:Array Oper)(D:Nat->Ds)(M:Nat->Md)(ρ0:Env)(ds:List Deferred)(Dn:Nat->Prop)(ρ:Env)(w:World)(a:Act)(i:Nat)(o:Oper):Prop where
 run:Run tb call cx N ops D M
 ini:@aQ G0 w0 ρ0 cx (D 0).s ws
 inv:Inv G0 w0 ws cx N ops D M ρ0 ds Dn ρ w a
 get:ops[i]? =some o
 nd: ¬Dn i
 anc: ∀j,An (kY ops.toList []) i j->Dn j
 cl: ∀j k,Dn j->An (kY ops.toList []) j k->Dn k
variable(h:Now tb call G0 w0 ws cx N ops D M ρ0 ds Dn ρ w a i o)
include h
theorem Now.lt:i<ops.size:=by
 rcases aMh i ops.size with h1|h1
 . exact h1
 have:=h.get;rw[aKi h1]at this;cases this
theorem Now.ct{t:Nat}(h1: ∀(j:Nat) (p:Oper),j<i->ops[j]? =some p->p.dst=some t->p.apart ops o=false)(h2: ∀(j:Nat) (p:Oper),i<j->ops[j]? =some p->p.dst=some t->o.apart ops p=false):CT ops Dn t i:=by
 refine⟨fun j hj ⟨p,hp,hd⟩=>?_,fun j hj ⟨p,hp,hd⟩ hn=>?_⟩
 . exact h.anc j (h.run.t1 hj hp h.get (h1 j p hj hp hd))
 rcases aMh i j with h3|h3
 . exact h.nd (h.cl j i hn (h.run.t1 h3 h.get hp (h2 j p h3 hp hd)))
 have:j=i:=by omega
 subst this;exact h.nd hn
theorem Now.aSD{t:Nat}(ht:t ∈ o.looksAt ops):CT ops Dn t i:=by
 refine h.ct (fun j p hj hp hd=>?_) (fun j p hj hp hd=>?_)
 . cases hc:p.apart ops o with
   |false=>rfl
   |true=>exact absurd ht ((aW5 hc).1 t hd)
 cases hc:o.apart ops p with
 |false=>rfl
 |true=>exact absurd ht ((aW5 hc).2.2 t hd)
theorem Now.cmV{b:Nat}(hv:Vi D M i b):CM ops D M Dn b i:=by
 refine⟨fun j hj hw=>h.anc j (h.run.f1 hj h.lt hw hv),fun j hj hjs hw hn=>?_⟩;rcases aMh i j with h3|h3
 . exact h.nd (h.cl j i hn (h.run.f2 h3 hjs hv hw))
 have:j=i:=by omega
 subst this;exact h.nd hn
theorem Now.n0:(D 0).s.n<=(D i).s.n:=h.run.mono (aJS _) (aTm h.lt)
theorem Now.live{b:Nat}{x:HO}(hb:(D i).s.look (M i).hid b=some x):b<(D i).s.n/\Vi D M i b/\Live cx ops D M Dn b i x:=by
 obtain⟨h1,h2⟩:=Hs.dR.1 hb;have hlt:b<(D i).s.n:=by
  rcases aMh b (D i).s.n with h3|h3
  . exact h3
  obtain⟨x',h4⟩:=h.run.above (aTm h.lt) h3 h2;have:=h.n0;exact absurd (@aQ.lt G0 _ _ _ _ _ h.ini b x' (Hs.dR.2 ⟨h.run.sK b (by omega),h4⟩)) (by omega)
 exact⟨hlt,⟨hlt,h1⟩,aTm h.lt,h.cmV ⟨hlt,h1⟩,h.run.vis h.lt ⟨hlt,h1⟩,h2⟩
theorem Now.aP4{j b:Nat}(hj:An (kY ops.toList []) i j)(hs:Sj ops D j b):@Gd (GI G0 ops D i) (D i).s.n b:=by
 obtain⟨j',h1,h2,h3⟩:=hs;have hja:An (kY ops.toList []) i j':=by
  rcases h1 with rfl|h1
  . exact hj
  exact aLo h.run.back _ _ _ hj h1
 have hlt:=aLp h.run.back _ _ hja;have h4:=h.run.mono (k:=0) (k':=j') (aJS _) (by have:=h.lt;omega);have h5:=h.run.mono (k:=j'+1) (k':=i) (by omega) (aTm h.lt);refine⟨by omega,?_⟩;rintro(h6|⟨_,_,h6⟩)
 . exact @aQ.good G0 _ _ _ _ _ h.ini b (by omega) h6
 exact h6 ⟨j',hja,h2,h3⟩
theorem Now.aP5{b:Nat}(hs:Old G0 D b):@Gd (GI G0 ops D i) (D i).s.n b:=by
 have h1:=h.n0;have h2:=hs.1;refine⟨by omega,?_⟩;rintro(h6|⟨h7,_,_⟩)
 . exact hs.2 h6
 omega
theorem Now.sat:@aQ (GI G0 ops D i) w0 ρ ⟨cx.g,cx.l,(M i).fl,(M i).hid⟩ (D i).s w:=by
 have hfl:=h.run.flk h.lt;have hi:=h.ini;have gn:=@aQ.gn G0 _ _ _ _ _ hi;have ln:=@aQ.ln G0 _ _ _ _ _ hi;have zW:=h.run.zW;have n0:=h.n0;refine @aQ.mk (GI G0 ops D i) _ _ _ _ _ ?_ ?_ ?_ ?_ ?_ ?_ ?_ ?_ ?_ ?_ ?_ ?_ ?_
 . exact fun g hg=>by
    have:=h.inv.ext g (by have hg:g<cx.g.n:=hg;omega);rw[this.1,this.2.1,this.2.2];exact @aQ.gl G0 _ _ _ _ _ hi g hg
 . exact fun g hg=>by
    have hg:g<cx.g.n:=hg;rintro(h6|⟨h7,_,_⟩)
    . exact @aQ.WJ G0 _ _ _ _ _ hi g hg h6
    omega
 . exact fun b hb=>by
    rintro(h6|⟨h7,h8,_⟩)
    . exact @aQ.good G0 _ _ _ _ _ hi b (by omega) h6
    omega
 . exact gn
 . show cx.l<=(M i).fl;omega
 . exact hfl.2
 . exact fun b hb=>h.run.upk h.lt hb
 . exact h.inv.below
 . exact fun b x hb=>(h.live hb).1
 . exact fun b x hb=>by
    obtain⟨k1,k2,k3⟩:=h.live hb;obtain⟨j1,j2,_,_⟩:=h.inv.obj b i x k3;refine wM j2 (fun c hc=>?_) (fun c hc=>⟨rfl,rfl,rfl⟩) ⟨rfl,rfl,rfl⟩ rfl;rcases aPi.1 hc.2 with h6|⟨j,h6,h7,h8⟩
    . exact h.aP5 h6
    exact h.aP4 (h.run.f1 h6 h.lt h7 k2) h8
 . exact fun b x hb hl=>(h.inv.obj b i x (h.live hb).2.2).2.2.1 hl
 . exact fun b x hb hl=>(h.inv.obj b i x (h.live hb).2.2).2.2.2 hl
 exact fun b b' x x' hb hb' hl hl' e=>h.inv.inj b b' i i x x' (h.live hb).2.2 (h.live hb').2.2 hl hl' e
theorem Now.slot{t:Nat}{v:AV}(ht:t ∈ o.looksAt ops)(hv:oZ (D i).t t=some v):@Sc (GI G0 ops D i) (D i).s.n v/\a.tmps[t]? =some (den ρ v):=by
 obtain⟨h1,h2,h3⟩:=h.inv.tmp t i v (aTm h.lt) (h.aSD ht) hv;refine⟨zK (fun c hc=>?_) v h3,h2⟩;rcases aPi.1 hc.2 with h6|⟨j,h6,⟨p,h7,h8⟩,h9⟩
 . exact h.aP5 h6
 refine h.aP4 (h.run.t1 h6 h7 h.get ?_) h9
 cases hc:p.apart ops o with
 |false=>rfl
 |true=>exact absurd ht ((aW5 hc).1 t h8)
theorem Now.vals(hF:DR tb)(hg:cx.g=tb.g):@mZ (GI G0 ops D i) tb ρ (D i).s.n a (D i).t o.op:=by
 intro x hx v hv
 cases x with
 |tmp t=>
  obtain⟨u,hu,hv⟩:=aA.1 hv
  cases hv
  obtain⟨h1,h2⟩:=h.slot (t:=t) (aU0 _ (List.mem_filterMap.2 ⟨.tmp t,by simpa using hx,rfl⟩)) hu;exact⟨@aPX (GI G0 ops D i) _ _ _ h1,by rw[aD6 hF (@aQ.lv (GI G0 ops D i) _ _ _ _ _ _ h.sat hg)];simp[Act.eval,h2]⟩
 |const u=>cases hv;exact⟨trivial,rfl⟩
 |global g=>
  obtain⟨h1,h2⟩:=aG.1 hv
  cases h2
  have h3:g<cx.g.n:=by rw[hg];have:=aT.1 h1;omega
  have hs:=h.sat;obtain⟨h4,h5,_⟩:=@aQ.gl (GI G0 ops D i) _ _ _ _ _ hs g h3;refine⟨⟨?_,@aQ.WJ (GI G0 ops D i) _ _ _ _ _ hs g h3⟩,?_⟩
  . have:=@aQ.gn G0 _ _ _ _ _ h.ini;have:=@aQ.ln G0 _ _ _ _ _ h.ini;have:=h.run.zW;have:=h.n0;omega
  simp[Act.eval,den,h4,h5]
 |func f=>cases hv;exact⟨trivial,rfl⟩
end
end Ev
end
section
open Go.RowKit
namespace Ev
def mix(ρ ρ':Env)(lo hi:Nat):Env:=
 ⟨fun b=>if lo<=b/\b<hi then ρ'.blk b else ρ.blk b,fun b=>if lo<=b/\b<hi then ρ'.off b else ρ.off b,fun b=>if lo<=b/\b<hi then ρ'.cp b else ρ.cp b⟩
theorem aRQ{ρ ρ':Env}{lo hi b:Nat}(h:Ext lo ρ ρ')(hb:b<hi):oI ρ' (mix ρ ρ' lo hi) b:=by
 unfold oI mix
 by_cases hl:lo<=b
 . simp only[hl,hb,and_self,aV5]
 have:=h b (by omega);simp only[hl,aWF,aSC];exact⟨this.1.symm,this.2.1.symm,this.2.2.symm⟩
theorem aNK{ρ ρ':Env}{lo hi b:Nat}(hb: ¬(lo<=b/\b<hi)):oI ρ (mix ρ ρ' lo hi) b:=by
 unfold oI mix;simp only[hb,aSC,and_self]
section
variable{G0:Gh}{w0 ws:World}{tb:Tab}{call:dO}{cx:Cx}{N:Nat}{ops:Array Oper}{D:Nat->Ds}{M:Nat->Md}{ρ0 ρ ρ':Env}{ds:List Deferred}{Dn:Nat->Prop}{w w':World}{a:Act}{i:Nat}{o:Oper}
variable(h:Now tb call G0 w0 ws cx N ops D M ρ0 ds Dn ρ w a i o)
variable(hst:@Stp (GI G0 ops D i) w0 ρ ρ' ⟨cx.g,cx.l,(M i).fl,(M i).hid⟩ (D i).s (D (i+1)).s w w')
include h
theorem Now.aUX{j b:Nat}(hj:Dn j)(hjs:j<ops.size)(hb:Iv D j b): ¬((D i).s.n<=b/\b<(D (i+1)).s.n):=by
 rintro⟨h1,h2⟩;obtain⟨h3,h4⟩:=hb;have hi:=h.lt;rcases aXC j i with h5|h5|h5
 . have:=h.run.mono (k:=j+1) (k':=i) (by omega) (by omega);omega
 . subst h5;exact h.nd hj
 have:=h.run.mono (k:=i+1) (k':=j) (by omega) (by omega);omega
theorem Now.aPO{j b:Nat}(hj:Dn j)(hjs:j<ops.size)(hs:Sj ops D j b): ¬((D i).s.n<=b/\b<(D (i+1)).s.n):=by
 obtain⟨j',h1,h2⟩:=hs;rcases h1 with rfl|h1
 . exact h.aUX hj hjs h2
 exact h.aUX (h.cl _ _ hj h1) (by have:=aLp h.run.back _ _ h1;omega) h2
theorem Now.aIO{b:Nat}(hs:Old G0 D b): ¬((D i).s.n<=b/\b<(D (i+1)).s.n):=by
 have:=h.n0;have:=hs.1;omega
theorem Now.sizeOf{j:Nat}{p:Oper}(hp:ops[j]? =some p):j<ops.size:=by
 rcases aMh j ops.size with h1|h1
 . exact h1
 rw[aKi h1]at hp;cases hp
theorem Now.aUl{b:Nat}(hb:@Gd (GI G0 ops D i) (D (i+1)).s.n b):b<(D ops.size).s.n/\(Old G0 D b\/Sj ops D i b):=by
 have hi:=h.lt;have h1:=h.run.mono (k:=i+1) (k':=ops.size) (by omega) (by omega);obtain⟨h2,h3⟩:=hb;refine⟨by omega,?_⟩
 by_cases h4:b<(D 0).s.n
 . exact .inl ⟨h4,fun hb=>h3 (.inl hb)⟩
 right
 by_cases h5:(D i).s.n<=b
 . exact⟨i,.inl rfl,h5,h2⟩
 by_cases h6: ∃j,An (kY ops.toList []) i j/\Iv D j b
 . obtain⟨j,h7,h8⟩:=h6;exact⟨j,.inr h7,h8⟩
 exact absurd (.inr ⟨by omega,by omega,h6⟩) h3
theorem Now.aVq{t k:Nat}(hw: ¬wrT ops i t)(hc:CT ops (fun j=>Dn j\/j=i) t k):CT ops Dn t k:=by
 refine⟨fun j hj hp=>?_,fun j hj hp hn=>hc.2 j hj hp (.inl hn)⟩;rcases hc.1 j hj hp with h1|rfl
 . exact h1
 exact absurd hp hw
theorem Now.aVw{b k:Nat}(hw: ¬Wr D M i b)(hc:CM ops D M (fun j=>Dn j\/j=i) b k):CM ops D M Dn b k:=by
 refine⟨fun j hj hp=>?_,fun j hj hjs hp hn=>hc.2 j hj hjs hp (.inl hn)⟩;rcases hc.1 j hj hp with h1|rfl
 . exact h1
 exact absurd hp hw
theorem Now.aVr{t k:Nat}(hw:wrT ops i t)(hc:CT ops (fun j=>Dn j\/j=i) t k)(hk:k<=ops.size):i<k/\oZ (D k).t t=some (M i).v/\t<N:=by
 obtain⟨o',h1,h2⟩:=hw;have hi:=h.lt;rw[h.get]at h1;cases h1;have hik:i<k:=by
  rcases aMh i k with h3|h3
  . exact h3
  exact absurd (.inr rfl) (hc.2 i h3 ⟨o,h.get,h2⟩)
 obtain⟨h3,h4⟩:=h.run.aXt hi h.get h2;refine⟨hik,?_,h4⟩;rw[<-h3];refine h.run.aPM (by omega) hk (fun j hj hjk p hp hd=>?_);have hap:o.apart ops p=false:=by
  cases hx:o.apart ops p with
  |false=>rfl
  |true=>exact absurd hd ((aW5 hx).2.1 t h2)
 have han:=h.run.t1 (by omega) h.get hp hap;rcases hc.1 j hjk ⟨p,hp,hd⟩with h5|h5
 . exact h.nd (h.cl _ _ h5 han)
 omega
theorem Now.aA7{b k:Nat}{x:HO}(hw:Wr D M i b)(hl:Live cx ops D M (fun j=>Dn j\/j=i) b k x):i<k/\(D (i+1)).s.look (M i).hid b=some x:=by
 obtain⟨hk,hc,h1,h2⟩:=hl;have hi:=h.lt;obtain⟨_,_,w3,_,w5⟩:=h.run.wis hi hw;have hik:i<k:=by
  rcases aMh i k with h3|h3
  . exact h3
  exact absurd (.inr rfl) (hc.2 i h3 hi hw)
 refine⟨hik,Hs.dR.2 ⟨w3,?_⟩⟩;rw[<-h.run.keep (k:=i+1) (by omega) hk w5 (fun j hj hjk hwj=>?_)]
 . exact h2
 have han:=h.run.f3 (i:=i) (j:=j) (by omega) (by omega) hw hwj;rcases hc.1 j hjk hwj with h5|h5
 . exact h.nd (h.cl _ _ h5 han)
 omega
include hst
theorem Now.aBG{c:Nat}{x:HO}(hf:(M i).fl<=c)(hb:(D i).s.look (M i).hid c=some x):Wr D M i c/\Live cx ops D M Dn c i x:=by
 obtain⟨k1,k2,k3⟩:=h.live hb;exact⟨.inr ⟨k1,hf,k2.2⟩,k3⟩
theorem Now.lfl:cx.l<=(M i).fl:=aHU (@aQ.ln G0 _ _ _ _ _ h.ini) (h.run.flk h.lt).1
theorem Now.step (hv:@Sc (GI G0 ops D i) (D (i+1)).s.n (M i).v):
 Inv G0 w0 ws cx N ops D M ρ0 ds (fun j=>Dn j\/j=i) (mix ρ ρ' (D i).s.n (D (i+1)).s.n) w' (a.put o.dst (den ρ' (M i).v)):=by
 have hi:=h.lt;have n0:=h.n0;have hext:=@Stp.ext (GI G0 ops D i) _ _ _ _ _ _ _ _ hst;have QN:=@Stp.sat (GI G0 ops D i) _ _ _ _ _ _ _ _ hst;have hfr:=@Stp.fr (GI G0 ops D i) _ _ _ _ _ _ _ _ hst;have hnew:=@Stp.new (GI G0 ops D i) _ _ _ _ _ _ _ _ hst;have aYg:=h.lfl hst;have aU2:=h.run.flk hi;have aBr: ∀b,b<(D (i+1)).s.n->oI ρ' (mix ρ ρ' (D i).s.n (D (i+1)).s.n) b:=fun b hb=>aRQ hext hb;have G5: ∀b,¬((D i).s.n<=b/\b<(D (i+1)).s.n)->oI ρ (mix ρ ρ' (D i).s.n (D (i+1)).s.n) b:=fun b hb=>aNK hb;have noW: ∀b,¬Wr D M i b-> ¬((D i).s.n<=b/\b<(D (i+1)).s.n):=fun b hw hb=>hw (.inl hb);have J3: ∀ {b k x},¬Wr D M i b->Live cx ops D M (fun j=>Dn j\/j=i) b k x->Live cx ops D M Dn b k x:=
  fun hw hl=>⟨hl.1,h.aVw hw hl.2.1,hl.2.2⟩
 have apart: ∀ {b k x},¬Wr D M i b->Live cx ops D M Dn b k x-> ∀c x',(M i).fl<=c->(D i).s.look (M i).hid c=some x'->ρ.blk c≠ρ.blk b:=by
  intro b k x hw hl c x' hf hc e;obtain⟨k1,k2⟩:=h.aBG hst hf hc;have hlc:cx.l<=c:=aHU aYg hf;rcases aMh b cx.l with hb|hb
  . have:=(h.inv.obj b k x hl).2.2.2 hb;have:=(h.inv.obj c i x' k2).2.2.1 hlc;omega
  have:=h.inv.inj c b i k x' x k2 hl hlc hb e;subst this;exact hw k1
 refine⟨?_,?_,?_,@aQ.below (GI G0 ops D i) _ _ _ _ _ QN,?_,?_,?_,?_,?_⟩
 . have:=h.inv.size
   cases hd:o.dst<;>simp[Act.put,this]
 . rw[put_defers];exact h.inv.defers
 . intro b hb;have h1:=h.inv.ext b hb;have h2:=G5 b (by omega);exact⟨h2.1.trans h1.1,h2.2.1.trans h1.2.1,h2.2.2.trans h1.2.2⟩
 ·
  intro t k v hk hc hg
  by_cases hw:wrT ops i t
  . obtain⟨h1,h2,h3⟩:=h.aVr hw hc hk;rw[h2]at hg;cases hg;obtain⟨o',k1,k2⟩:=id hw;rw[h.get]at k1;cases k1;refine⟨h3,?_,zK (fun b hb=>?_) _ hv⟩
    . rw[k2];have hden:den (mix ρ ρ' (D i).s.n (D (i+1)).s.n) (M i).v=den ρ' (M i).v:=FD (fun b hb=>aBr b hb.1) _ hv;rw[hden];simp[Act.put,aWt,h.inv.size,h3]
    obtain⟨h4,h5⟩:=h.aUl hb;refine⟨h4,aPi.2 ?_⟩;rcases h5 with h5|h5
    . exact .inl h5
    exact .inr ⟨i,h1,hw,h5⟩
  have hc':=h.aVq hw hc;obtain⟨h1,h2,h3⟩:=h.inv.tmp t k v hk hc' hg;refine⟨h1,?_,h3⟩;have hden:den (mix ρ ρ' (D i).s.n (D (i+1)).s.n) v=den ρ v:=FD (fun b hb=>G5 b (by
   rcases aPi.1 hb.2 with h6|⟨j,h6,h7,h8⟩
   . exact h.aIO h6
   obtain⟨p,h9,_⟩:=id h7;exact h.aPO (hc'.1 j h6 h7) (h.sizeOf h9) h8)) _ h3
  rw[hden,<-h2]
  cases hd:o.dst with
  |none=>rfl
  |some d=>
   have:d≠t:=fun e=>hw ⟨o,h.get,by rw[hd,e]⟩;simp only[Act.put];rw[aRM this]
 ·
  intro b k x hl
  by_cases hw:Wr D M i b
  . obtain⟨h1,h2⟩:=h.aA7 hw hl;obtain⟨_,_,_,w4,w5⟩:=h.run.wis hi hw;have hm:=h.run.mono (k:=i+1) (k':=k) (by omega) hl.1;refine⟨by omega,?_,?_,?_⟩
    . refine wM (@aQ.obj (GI G0 ops D i) _ _ _ _ _ QN b x h2) (fun c hc=>?_) (fun c hc=>aBr c hc.1) (aBr b w5) rfl;obtain⟨h4,h5⟩:=h.aUl hc;refine⟨h4,aPi.2 ?_⟩;rcases h5 with h5|h5
      . exact .inl h5
      exact .inr ⟨i,h1,hw,h5⟩
    . intro hl';rw[(aBr b w5).1];exact @aQ.new (GI G0 ops D i) _ _ _ _ _ QN b x h2 hl'
    intro hl';omega
  have hl':=J3 hw hl;obtain⟨h1,h2,h3,h4⟩:=h.inv.obj b k x hl';have hag:=G5 b (noW b hw);refine⟨h1,?_,?_,?_⟩
  . refine wM h2 (fun c hc=>hc) (fun c hc=>G5 c ?_) hag ?_
    . rcases aPi.1 hc.2 with h6|⟨j,h6,h7,h8⟩
      . exact h.aIO h6
      exact h.aPO (hl'.2.1.1 j h6 h7) (by have:=hl.1;omega) h8
    exact hfr.block _ (@HO.Holds.lt (GM G0 ops D M b k) _ _ _ _ _ h2) (apart hw hl')
  . intro q;rw[hag.1];exact h3 q
  intro q;rw[hag.1];exact h4 q
 ·
  intro b b' k k' x x' hl hl' hb hb' e;have mixed: ∀ {b b' k k' x x'},Live cx ops D M (fun j=>Dn j\/j=i) b k x->Live cx ops D M (fun j=>Dn j\/j=i) b' k' x'->cx.l<=b->cx.l<=b'->Wr D M i b-> ¬Wr D M i b'->
   (mix ρ ρ' (D i).s.n (D (i+1)).s.n).blk b≠(mix ρ ρ' (D i).s.n (D (i+1)).s.n).blk b':=by
   intro b b' k k' x x' hl hl' hb hb' hw hw' e;obtain⟨_,_,_,w4,w5⟩:=h.run.wis hi hw;have hl'':=J3 hw' hl';rw[(aBr b w5).1,(G5 b' (noW b' hw')).1]at e;obtain⟨_,h2,_⟩:=h.inv.obj b' k' x' hl'';have hlt:=@HO.Holds.lt (GM G0 ops D M b' k') _ _ _ _ _ h2;rcases hnew b x (h.aA7 hw hl).2 w4 with h5|⟨b0,o0,h5,h6,h7⟩
   . omega
   exact apart hw' hl'' b0 o0 h5 h6 (h7.trans e)
  by_cases hw:Wr D M i b<;>by_cases hw':Wr D M i b'
  . obtain⟨_,_,_,w4,w5⟩:=h.run.wis hi hw;obtain⟨_,_,_,w4',w5'⟩:=h.run.wis hi hw';rw[(aBr b w5).1,(aBr b' w5').1]at e;exact @aQ.inj (GI G0 ops D i) _ _ _ _ _ QN b b' x x' (h.aA7 hw hl).2 (h.aA7 hw' hl').2 hb hb' e
  . exact absurd e (mixed hl hl' hb hb' hw hw')
  . exact absurd e.symm (mixed hl' hl hb' hb hw' hw)
  rw[(G5 b (noW b hw)).1,(G5 b' (noW b' hw')).1]at e;exact h.inv.inj b b' k k' x x' (J3 hw hl) (J3 hw' hl') hb hb' e
 ·
  refine⟨hfr.os.trans h.inv.fr.os,hfr.tape.trans h.inv.fr.tape,hfr.output.trans h.inv.fr.output,aHU h.inv.fr.size hfr.size,fun r hr hn=>?_⟩;rw[hfr.block r (aGA hr h.inv.fr.size) (fun c x hf hc e=>?_)]
  . exact h.inv.fr.block r hr hn
  obtain⟨k1,k2⟩:=h.aBG hst hf hc;rcases h.inv.new c i x k2 (aHU aU2.1 hf)with h5|⟨b0,o0,h5,h6,h7⟩
  . omega
  exact hn b0 o0 h5 h6 (h7.trans e)
 . intro b k x hl hf
   by_cases hw:Wr D M i b
   . obtain⟨_,_,_,w4,w5⟩:=h.run.wis hi hw;rw[(aBr b w5).1];rcases hnew b x (h.aA7 hw hl).2 w4 with h5|⟨b0,o0,h5,h6,h7⟩
     . exact .inl (aHU h.inv.fr.size h5)
     obtain⟨k1,k2⟩:=h.aBG hst h5 h6;rw[<-h7];exact h.inv.new b0 i o0 k2 (aHU aU2.1 h5)
   rw[(G5 b (noW b hw)).1];exact h.inv.new b k x (J3 hw hl) hf
end
end Ev
end
section
open Go.RowKit
namespace Ev
theorem aBh(e:Edge):Region.binds .any e=binding e:=by
 obtain⟨on,g⟩:=e
 cases g<;>rfl
section
variable{G0:Gh}{w0 ws:World}{tb:Tab}{call:dO}{cx:Cx}{N:Nat}{ops:Array Oper}{D:Nat->Ds}{M:Nat->Md}{ρ0 ρ:Env}{ds:List Deferred}{Dn:Nat->Prop}{w:World}{a:Act}{i:Nat}{o:Oper}
 {Q:Exit->Act->World->Prop}
theorem Now.op(h:Now tb call G0 w0 ws cx N ops D M ρ0 ds Dn ρ w a i o)(hT:iQ tb w0)(hc:kV tb w0 call)(hg:cx.g=tb.g)(hl:cx.l=tb.l){K:Act->World->Prop}{r:Option Nat}{nn:Nat}
 (hK: ∀ ρ' w' a',Inv G0 w0 ws cx N ops D M ρ0 ds (fun j=>Dn j\/j=i) ρ' w' a'->K a' w'):wpOpIn (FF r) nn tb.p ops Q i K a w:=by
 obtain⟨o',an,k1,k2,k3⟩:=h.run.at' h.lt;have k4:=k1;rw[h.get]at k1;cases k1;have hw:=YD (ρ:=ρ) (a:=a) (ops:=ops) hT.AY (@aQ.lv (GI G0 ops D i) _ _ _ _ _ _ h.sat hg) rfl k3.want (fun d v hd hv=>(h.slot hd hv).2);unfold wpOpIn;rw[k4];dsimp only;rw[hw];rcases k3.run with⟨s1,s2,s3,_⟩|⟨s1,s2,_⟩
 . rw[s1];refine⟨fun _ _=>trivial,hK _ w _ (?_:Inv G0 w0 ws cx N ops D M ρ0 ds (fun j=>Dn j\/j=i) (mix ρ ρ (D i).s.n (D (i+1)).s.n) w (a.put o.dst undef))⟩;have hst:=@Stp.refl (GI G0 ops D i) _ _ _ _ _ h.sat;have:=h.step (ρ':=ρ) (w':=w) (by rw[s3];exact hst) (by rw[s2];trivial);rw[s2]at this;exact this
 rw[s1];show Oper.wpIn _ _ _ _ _ _ _ _;refine @ZN (GI G0 ops D i) tb w0 ρ ⟨cx.g,cx.l,(M i).fl,(M i).hid⟩ (D i).s (D (i+1)).s w a (D i).t call (M i).v hT hc o s2 hg hl h.sat (h.vals hT.AY hg) _ _ r nn (fun ρ' w' hst hv=>?_);exact hK _ w' _ (h.step hst hv)
theorem aJ9(hR:Run tb call cx N ops D M)(hs:@aQ G0 w0 ρ0 cx (D 0).s ws)(ht:@jH G0 N ρ0 (D 0).s.n a (D 0).t)(hn: ∀j,¬Dn j):
 Inv G0 w0 ws cx N ops D M ρ0 a.defers Dn ρ0 ws a:=by
 have hiv: ∀k b,k<=ops.size->(D 0).s.n<=b->b<(D k).s.n-> ∃j,j<k/\Iv D j b:=by
  intro k b hk h1
  induction k with
  |zero=>intro h2;omega
  |succ k ih=>
   intro h2;rcases aMh b (D k).s.n with h3|h3
   . obtain⟨j,h4,h5⟩:=ih (by omega) h3;exact⟨j,by omega,h5⟩
   exact⟨k,by omega,h3,h2⟩
 have hold: ∀ {b k o},Live cx ops D M Dn b k o->(D 0).s.look cx.hid b=some o/\b<(D 0).s.n:=by
  rintro b k o ⟨hk,hc,h1,h2⟩;have hnw: ∀j,j<k-> ¬Wr D M j b:=fun j hj hw=>hn j (hc.1 j hj hw);have hb:b<(D 0).s.n:=by
   rcases aMh b (D 0).s.n with h3|h3
   . exact h3
   rcases aMh b (D k).s.n with h4|h4
   . obtain⟨j,h5,h6⟩:=hiv k b hk h3 h4;exact absurd (.inl h6) (hnw j h5)
   obtain⟨o',h5⟩:=hR.above hk h4 h2;exact @aQ.lt G0 _ _ _ _ _ hs b o' (Hs.dR.2 ⟨h1,h5⟩)
  exact⟨Hs.dR.2 ⟨h1,by rw[<-hR.keep (aJS k) hk hb (fun j _ hj=>hnw j hj)];exact h2⟩,hb⟩
 refine⟨@jH.size G0 _ _ _ _ _ ht,rfl,Ext.refl _ _,@aQ.below G0 _ _ _ _ _ hs,fun t k v hk hc hv=>?_,fun b k o hl=>?_,fun b b' k k' o o' hl hl'=>?_,Fr.refl _ _ _ _,fun b k o hl hf=>?_⟩
 . rw[hR.aPM (aJS k) hk (fun j _ hj o ho hd=>hn j (hc.1 j hj ⟨o,ho,hd⟩))]at hv;obtain⟨h1,h2,h3⟩:=@jH.val G0 _ _ _ _ _ ht t v hv;refine⟨h2,h3,zK (G:=G0) (G':=GT G0 ops D t k) (fun b hb=>?_) v h1⟩;exact⟨aGA hb.1 (hR.mono (aJS _) (aEc _)),aPi.2 (.inl hb)⟩
 . obtain⟨h1,h2⟩:=hold hl;refine⟨aGA h2 (hR.mono (aJS _) hl.1),?_,fun q=>@aQ.new G0 _ _ _ _ _ hs b o h1 q,fun q=>@aQ.old G0 _ _ _ _ _ hs b o h1 q⟩;refine wM (@aQ.obj G0 _ _ _ _ _ hs b o h1) (fun c hc=>?_) (fun c hc=>⟨rfl,rfl,rfl⟩) ⟨rfl,rfl,rfl⟩ rfl;exact⟨aGA hc.1 (hR.mono (aJS _) (aEc _)),aPi.2 (.inl hc)⟩
 . exact @aQ.inj G0 _ _ _ _ _ hs b b' o o' (hold hl).1 (hold hl').1
 exact .inr ⟨b,o,hf,(hold hl).1,rfl⟩
theorem aEb(hR:Run tb call cx N ops D M)(hs:@aQ G0 w0 ρ0 cx (D 0).s ws)(hn: ∀j,j<ops.size->Dn j)(h:Inv G0 w0 ws cx N ops D M ρ0 ds Dn ρ w a):
 @Stp G0 w0 ρ0 ρ cx (D 0).s (D ops.size).s ws w/\@jH G0 N ρ (D ops.size).s.n a (D ops.size).t:=by
 have hmono:=hR.mono (aJS _) (aEc ops.size);have hsj: ∀ {j b},j<ops.size->Sj ops D j b-> ¬G0.bad b:=by
  rintro j b hj ⟨j',h1,h2,h3⟩;have hlt:j'<=j:=by
   rcases h1 with rfl|h1
   . exact aEc _
   exact aTm (aLp hR.back _ _ h1)
  exact @aQ.good G0 _ _ _ _ _ hs b (aHU (hR.mono (aJS _) (by omega)) h2)
 have hlive: ∀ {b o},(D ops.size).s.look cx.hid b=some o->Live cx ops D M Dn b ops.size o:=by
  intro b o hb;obtain⟨h1,h2⟩:=Hs.dR.1 hb;exact⟨aEc _,⟨fun j hj _=>hn j hj,fun j hj hjs=>by omega⟩,h1,h2⟩
 have zW:=hR.zW;have gn:=@aQ.gn G0 _ _ _ _ _ hs;have ln:=@aQ.ln G0 _ _ _ _ _ hs;have QN:@aQ G0 w0 ρ cx (D ops.size).s w:=by
  refine @aQ.mk G0 _ _ _ _ _ ?_ (@aQ.WJ G0 _ _ _ _ _ hs) ?_ gn ln (by omega) ?_ h.below ?_ ?_ ?_ ?_ ?_
  . intro g hg;have:=h.ext g (by omega);rw[this.1,this.2.1,this.2.2];exact @aQ.gl G0 _ _ _ _ _ hs g hg
  . exact fun b hb=>@aQ.good G0 _ _ _ _ _ hs b (by omega)
  . exact fun b hb=>hR.sK b (by omega)
  . exact fun b o hb=>(h.obj b _ o (hlive hb)).1
  . intro b o hb;refine wM (G':=G0) (h.obj b _ o (hlive hb)).2.1 (fun c hc=>⟨hc.1,?_⟩) (fun c hc=>⟨rfl,rfl,rfl⟩) ⟨rfl,rfl,rfl⟩ rfl;rcases aPi.1 hc.2 with h6|⟨j,h6,_,h8⟩
    . exact h6.2
    exact hsj h6 h8
  . exact fun b o hb=>(h.obj b _ o (hlive hb)).2.2.1
  . exact fun b o hb=>(h.obj b _ o (hlive hb)).2.2.2
  exact fun b b' o o' hb hb'=>h.inj b b' _ _ o o' (hlive hb) (hlive hb')
 refine⟨@Stp.mk G0 _ _ _ _ _ _ _ _ h.ext QN hmono h.fr ?_ ?_,@jH.mk G0 _ _ _ _ _ h.size ?_⟩
 . intro b hb hor;refine hR.keep (aJS _) (aEc _) hb (fun j _ hj hw=>?_);obtain⟨h1,h2,_⟩:=hR.wis hj hw;rcases hor with h3|h3
   . omega
   rw[h1]at h3;cases h3
 . exact fun b o hb hf=>h.new b _ o (hlive hb) hf
 intro t v hv;obtain⟨h1,h2,h3⟩:=h.tmp t ops.size v (aEc _) ⟨fun j hj _=>hn j hj,fun j hj ⟨p,hp,_⟩=>by rw[aKi hj]at hp;cases hp⟩ hv;refine⟨zK (G':=G0) (fun c hc=>⟨hc.1,?_⟩) v h3,h1,h2⟩;rcases aPi.1 hc.2 with h6|⟨j,h6,_,h8⟩
 . exact h6.2
 exact hsj h6 h8
def Ls(listed:Array Bool)(j:Nat):Prop:=listed.getD j false=true
theorem aUU{listed:Array Bool}{j:Nat}(h:Ls listed j):j<listed.size:=by
 unfold Ls at h;rcases aMh j listed.size with h1|h1
 . exact h1
 simp[Array.getD,Nat.not_lt.2 h1]at h
theorem aJZ{listed:Array Bool}{i:Nat}(hi:i<listed.size):Ls (listed.setIfInBounds i true)=fun j=>Ls listed j\/j=i:=by
 funext j
 apply propext;unfold Ls
 by_cases e:i=j
 . subst e;simp[hi]
 simp[aRM e,aWJ e]
theorem count_set{listed:Array Bool}{i n:Nat}(hi:i<listed.size)(h: ¬Ls listed i)(hc:listed.toList.count false<=n+1):(listed.setIfInBounds i true).toList.count false<=n:=by
 rw[aYl,List.count_set (by simpa using hi)];have:listed[i]=false:=by
  unfold Ls at h;simpa[Array.getD,hi]using h
 have h2:(listed.toList[i]'(by simpa using hi)==false)=true:=by simp[this]
 have h3:((true:Bool)==false)=false:=rfl;simp only[h2,h3,aV5,aMB,aSC];omega
theorem aDi{listed:Array Bool}(h:listed.toList.count false=0){i:Nat}(hi:i<listed.size):Ls listed i:=by
 unfold Ls;rw[List.count_eq_zero]at h
 cases hb:listed[i]with
 |true=>simp[Array.getD,hi,hb]
 |false=>exact absurd (by rw[<-hb];simp) h
theorem EJ{listed:Array Bool}(hsz:listed.size=ops.size){i:Nat}:i ∈ Region.ready .any ops listed↔ ∃o,ops[i]? =some o/\ ¬Ls listed i/\ ∀e ∈ o.after.toList,binding e=true->Ls listed e.on:=by
 unfold Region.ready Ls;rw[List.mem_filter,aTp,aDY];constructor
 . rintro⟨h1,h2,h3⟩;have ho:ops[i]? =some ops[i]:=aMl h1;refine⟨_,ho,?_,?_⟩
   . have hi:i<listed.size:=by omega
     simpa[Array.getD,hi]using h2
   rw[ho]at h3;simp only[aWv,aWr,Array.all_eq_true']at h3;intro e he hb;have:=h3 e (by simpa using he);rw[aBh,hb]at this;simpa using this
 rintro⟨o,ho,h2,h3⟩;have h1:i<ops.size:=by
  rcases aMh i ops.size with h1|h1
  . exact h1
  rw[aKi h1]at ho;cases ho
 have hi:i<listed.size:=by omega
 refine⟨h1,by simpa[Array.getD,hi]using h2,?_⟩;rw[ho];simp only[aWv,aWr,Array.all_eq_true'];intro e he;rw[aBh]
 cases hb:binding e with
 |false=>rfl
 |true=>simpa using h3 e (by simpa using he) hb
theorem aDl(hb:backOk ops.toList 0=true){listed:Array Bool}(hsz:listed.size=ops.size)(hr:Region.ready .any ops listed=[]): ∀i,i<ops.size->Ls listed i:=by
 intro i
 induction i using Nat.strongRecOn with
 | ind i ih=>
  intro hi;apply Classical.byContradiction;intro hn;have:i ∈ Region.ready .any ops listed:=(EJ hsz).2 ⟨ops[i],aMl hi,hn,fun e he heb=>by
   have:=rF _ _ hb i ops[i] (by rw[aGC];exact aMl hi) e he heb;exact ih e.on (by omega) (by omega)⟩
  rw[hr]at this;cases this
theorem aG3{r:Option Nat}{nn:Nat}(hT:iQ tb w0)(hc:kV tb w0 call)(hg:cx.g=tb.g)(hl:cx.l=tb.l)(hR:Run tb call cx N ops D M)(hs:@aQ G0 w0 ρ0 cx (D 0).s ws)
 (hq: ∀ ρ w a,@Stp G0 w0 ρ0 ρ cx (D 0).s (D ops.size).s ws w->@jH G0 N ρ (D ops.size).s.n a (D ops.size).t->a.defers=ds->Q .normal a w):
 ∀(fuel:Nat) (listed:Array Bool) (ρ:Env) (w:World) (a:Act),listed.size=ops.size->listed.toList.count false<=fuel->(∀j k,Ls listed j->An (kY ops.toList []) j k->Ls listed k)->
  Inv G0 w0 ws cx N ops D M ρ0 ds (Ls listed) ρ w a->wpAnyIn (FF r) nn tb.p .any ops Q fuel listed a w:=by
 intro fuel
 induction fuel with
 |zero=>
  intro listed ρ w a hsz hcnt hcl hinv;have hall: ∀i,i<ops.size->Ls listed i:=fun i hi=>aDi (Nat.le_zero.1 hcnt) (by omega);refine⟨?_,?_⟩
  . cases hr:Region.ready .any ops listed with
    |nil=>rfl
    | cons i r=>
     obtain⟨o,ho,hn,_⟩:=(EJ hsz).1 (show i ∈ Region.ready .any ops listed by rw[hr];exact aHB);have hi:i<ops.size:=by
      rcases aMh i ops.size with h1|h1
      . exact h1
      rw[aKi h1]at ho;cases ho
     exact absurd (hall i hi) hn
  obtain⟨h1,h2⟩:=aEb hR hs hall hinv;exact hq ρ w a h1 h2 hinv.defers
 |succ fuel ih=>
  intro listed ρ w a hsz hcnt hcl hinv;refine⟨fun hr=>?_,fun i hi=>?_⟩
  . obtain⟨h1,h2⟩:=aEb hR hs (aDl hR.back hsz hr) hinv;exact hq ρ w a h1 h2 hinv.defers
  obtain⟨o,ho,hn,he⟩:=(EJ hsz).1 hi;have hilt:i<listed.size:=by
   rcases aMh i ops.size with h1|h1
   . omega
   rw[aKi h1]at ho;cases ho
  have aU9: ∀j,An (kY ops.toList []) i j->Ls listed j:=fun j hj=>by
   obtain⟨e,k1,k2,k3⟩:=(OU hR.back ho).1 hj;rcases k3 with rfl|k3
   . exact he e k1 k2
   exact hcl _ _ (he e k1 k2) k3
  have aYe:Now tb call G0 w0 ws cx N ops D M ρ0 ds (Ls listed) ρ w a i o:=⟨hR,hs,hinv,ho,hn,aU9,hcl⟩;refine aYe.op hT hc hg hl (fun ρ' w' a' hinv'=>?_);refine ih (listed.setIfInBounds i true) ρ' w' a' (by simp[hsz]) (count_set hilt hn hcnt) ?_ (by rw[aJZ hilt];exact hinv');rw[aJZ hilt];rintro j k (hj|rfl) hjk
  . exact .inl (hcl j k hj hjk)
  exact .inl (aU9 k hjk)
end
section
variable[Gh]{w0:World}{tb:Tab}{call:dO}{cx:Cx}{N:Nat}{ops:Array Oper}{ρ:Env}{w:World}{a:Act}{Q:Exit->Act->World->Prop}{st st':St}
theorem U8(hT:iQ tb w0)(hc:kV tb w0 call)(hf:gY call)(hg:cx.g=tb.g)(hl:cx.l=tb.l){id:Nat}{dr:Bool}{rd r:Option Nat}{nn:Nat}(hrd:rd=none->r=none)
 (h:region tb call cx N rd ops dr st=some st') (hs:aQ w0 ρ cx st.s w) (ht:jH N ρ st.s.n a st.t) (hd:iR ρ st.s.n st.d a.defers)
 (hq: ∀ ρ' w' a',Stp w0 ρ ρ' cx st.s st'.s w w'->jH N ρ' st'.s.n a' st'.t->iR ρ' st'.s.n st'.d a'.defers->Q .normal a' w'):(Code.region id ops dr).wpIn (FF r) nn tb.p Q a w:=by
 cases dr with
 |false=>exact G9 hT hc hg hl hrd h hs ht hd hq
 | true=>
  obtain⟨h1,h2⟩:=aG.1 h;obtain⟨d,h3,h4⟩:=aA.1 h2
  cases h4
  have h1':band (backOk ops.toList 0) (tOk ops ops.toList 0 (kY ops.toList []))=true:=h1;rw[dW,aDY]at h1';obtain⟨D,M,k1,k2,k3,k4⟩:=OA _ _ _ _ _ _ h3;rw[aKP,aLW]at k2;have hs0:aQ w0 ρ cx (D 0).s w:=by rw[k1];exact hs
  have hR:Run tb call cx N ops D M:={
   at_:=fun k o an ho ha=>by
    have:=k4 k o an (by rw[aGC];exact ho) ha;rwa[aKP]at this
   iv0:=by rw[k1]
   es0:=by rw[k1]
   zW:=by rw[k1];exact hs.zW
   sK:=by rw[k1];exact hs.sK
   back:=h1'.1
   tok:=h1'.2
   fr:=hf }
  have aKh:Stp w0 ρ ρ cx (D 0).s (D 0).s w { w with drawn:=w.drawn+1 }:=hs0.world ⟨rfl,rfl,rfl,aEc _,fun _ _=>rfl⟩;refine wpIn_region_any hT.mixed ?_;have hinit: ∀j,¬Ls (Array.replicate ops.size false) j:=fun j hj=>by
   have hlt:=aUU hj;unfold Ls at hj;simp at hlt;simp[Array.getD,hlt]at hj
  refine aG3 hT hc hg hl hR aKh.sat (ds:=a.defers) (fun ρ' w' a' g1 g2 g3=>?_) _ _ ρ _ a (by simp) ?_ (fun j k hj=>absurd hj (hinit j)) (aJ9 hR aKh.sat (by rw[k1];exact ht) hinit)
  . have g4:=aKh.trans g1;rw[k1,k2]at g4;rw[k2]at g2;exact hq ρ' w' a' g4 g2 (by rw[g3];exact hd.ext g4.ext g4.n)
  simp
end
end Ev
end
section
open Go.RowKit
namespace Ev
theorem nM{k:St->CR}{r:CR}{e:Ex}{st:St}(h:MZ k r=some (e,st)):(∃st1,r=some (.normal,st1)/\k st1=some (e,st))\/(r=some (e,st)/\e≠ .normal):=by
 obtain⟨⟨e1,st1⟩,rfl,h2⟩:=aA.1 h
 cases e1 with
 |normal=>exact .inl ⟨st1,rfl,h2⟩
 |exit i=>cases h2;exact .inr ⟨rfl,fun h=>by cases h⟩
 |ret=>cases h2;exact .inr ⟨rfl,fun h=>by cases h⟩
theorem GN{id:Nat}{r:CR}{e:Ex}{st:St}(h:aJ6 id r=some (e,st)): ∃e1,r=some (e1,st)/\((e1=.normal/\e=.normal)\/(e1=.exit id/\e=.normal)\/(∃i,i≠id/\e1=.exit i/\e=.exit i)\/(e1=.ret/\e=.ret)):=by
 obtain⟨⟨e1,st1⟩,rfl,h2⟩:=aA.1 h
 cases e1 with
 |normal=>cases h2;exact⟨_,rfl,.inl ⟨rfl,rfl⟩⟩
 | exit i=>
  cases hb:Nat.beq i id with
  |true=>
   have h3:Bool.rec (motive:=fun _=>CR) (some (.exit i,st1)) (some (.normal,st1)) (Nat.beq i id)=some (e,st):=h2;rw[hb]at h3;cases h3;have:=beq_iff.1 hb;subst this;exact⟨_,rfl,.inr (.inl ⟨rfl,rfl⟩)⟩
  |false=>
   have h3:Bool.rec (motive:=fun _=>CR) (some (.exit i,st1)) (some (.normal,st1)) (Nat.beq i id)=some (e,st):=h2;rw[hb]at h3;cases h3;exact⟨_,rfl,.inr (.inr (.inl ⟨i,fun h=>(by rw[beq_iff.2 h]at hb;cases hb),rfl,rfl⟩))⟩
 |ret=>cases h2;exact⟨_,rfl,.inr (.inr (.inr ⟨rfl,rfl⟩))⟩
section
variable{tb:Tab}{call:dO}{cx:Cx}{N:Nat}{rd:Option Nat}
theorem aFb(hf:gY call){all:List Oper}(l:List Oper): ∀(t:TE) (s:Hs) (dl:DL) (st:St),aBU tb call cx N rd all l t s dl=some st->Fq cx.fl cx.hid s st.s:=by
 induction l with
 |nil=>intro t s dl st h;cases h;exact Fq.refl _ _ _
 | cons o l ih=>
  intro t s dl st h;obtain⟨b,h1,h2⟩:=aA.1 h
  cases b with
  |false=>obtain⟨t1,h3,h4⟩:=aA.1 h2;exact ih _ _ _ _ h4
  | true=>
   obtain⟨r,h3,h4⟩:=aA.1 h2
   cases r with
   |ok v s1=>
    obtain⟨t1,h5,h6⟩:=aA.1 h4;exact(aIE hf o.op v s1 h3).trans (ih _ _ _ _ h6)
   |dfr f xs=>obtain⟨_,h4⟩:=aG.1 h4;obtain⟨t1,h5,h6⟩:=aA.1 h4;exact ih _ _ _ _ h6
theorem aFs(hf:gY call){os:Array Oper}{dr:Bool}{st st':St}(h:region tb call cx N rd os dr st=some st'):Fq cx.fl cx.hid st.s st'.s:=by
 cases dr with
 |false=>exact aFb hf _ _ _ _ _ h
 | true=>
  obtain⟨h1,h2⟩:=aG.1 h;obtain⟨d,h3,h4⟩:=aA.1 h2
  cases h4
  obtain⟨D,M,k1,k2,k3,k4⟩:=OA _ _ _ _ _ _ h3;have key: ∀k,k<=os.toList.length->Fq cx.fl cx.hid (D 0).s (D k).s:=by
   intro k
   induction k with
   |zero=>intro _;exact Fq.refl _ _ _
   |succ k ih=>
    intro hk;refine(ih (by omega)).trans ?_;have h5:os.toList[k]? =some os.toList[k]:=aEM (by omega);have h6:k<(kY os.toList []).length:=by omega
    have h7:=k4 k _ _ h5 (aEM h6);rw[aKP]at h7;rcases h7.run with⟨_,_,h8,_⟩|⟨_,h8,_⟩
    . rw[h8];exact Fq.refl _ _ _
    exact(aIE (cx:=⟨cx.g,cx.l,(M k).fl,(M k).hid⟩) hf _ _ _ h8).mono h7.seen.mono
  have:=key _ (aEc _);rw[aKP]at k2;rw[k1,k2]at this;exact this
theorem XI(hf:gY call)(f:Nat): ∀(c:Code) (st:St) (e:Ex) (st':St),code tb call cx N rd f c st=some (e,st')->Fq cx.fl cx.hid st.s st'.s:=by
 induction f with
 |zero=>intro c st e st' h;cases h
 | succ f ih=>
  intro c st e st' h;have seq: ∀ {x y:Code},MZ (code tb call cx N rd f y) (code tb call cx N rd f x st)=some (e,st')->Fq cx.fl cx.hid st.s st'.s:=by
   intro x y h;rcases nM h with⟨st1,h1,h2⟩|⟨h1,_⟩
   . exact(ih _ _ _ _ h1).trans (ih _ _ _ _ h2)
   exact ih _ _ _ _ h1
  cases c with
  |skip=>cases h;exact Fq.refl _ _ _
  |region id os d=>obtain⟨t,h1,h2⟩:=aA.1 h;cases h2;exact aFs hf h1
  |seq a b=>exact seq h
  |cond c a b=>
   obtain⟨x,_,h2⟩:=aA.1 h;obtain⟨b,_,h3⟩:=oP h2;exact ih _ _ _ _ h3
  |block id c=>obtain⟨e1,h1,_⟩:=GN h;exact ih _ _ _ _ h1
  |loop c=>exact seq h
  |exit id=>cases h;exact Fq.refl _ _ _
  |scope c=>exact ih _ _ _ _ h
  |label l=>cases h;exact Fq.refl _ _ _
  |ret=>cases h;exact Fq.refl _ _ _
  |_=>cases h
end
def QX:Ex->Exit
 | .normal=>.normal
 | .exit i=>.exit i
 | .ret=>.ret
section
variable[Gh]{w0:World}{tb:Tab}{call:dO}{cx:Cx}{N:Nat}
def Post(w0:World)(cx:Cx)(N:Nat)(st st':St)(ρ:Env)(w:World)(K:Act->World->Prop):Prop:=
 ∀ ρ' w' a',Stp w0 ρ ρ' cx st.s st'.s w w'->jH N ρ' st'.s.n a' st'.t->iR ρ' st'.s.n st'.d a'.defers->K a' w'
def aBt(ρ:Env)(n:Nat):Option Nat->Option Nat->Prop
 |none,none=>True
 |some b,some l=>Gd n b/\ρ.blk b=l
 |_,_=>False
theorem aBt.ext{ρ ρ':Env}{n m:Nat}(h:Ext n ρ ρ')(hm:n<=m): ∀ {rd r:Option Nat},aBt ρ n rd r->aBt ρ' m rd r
 |none,none,_=>trivial
 |some b,some l,hd=>⟨⟨aGA hd.1.1 hm,hd.1.2⟩,(h b hd.1.1).1.trans hd.2⟩
 |none,some _,hd=>hd.elim
 |some _,none,hd=>hd.elim
theorem aBt.none{ρ:Env}{n:Nat}{rd r:Option Nat}(h:aBt ρ n rd r)(e:rd=none):r=none:=by
 subst e
 cases r with
 |none=>rfl
 |some l=>exact h.elim
omit[Gh]in
theorem yJ{F:Fence}{n:Nat}{P:Program}{a:Act}{w:World}{Q:Exit->Act->World->Prop}{c:Code}(h:c.wpIn F n P (Exit.noGoto Q) a w):(Code.scope c).wpIn F n P Q a w:=by
 intro b k cs hro hb hr;have st1:step P (lone (b.atR a (.code (.scope c)::k)) cs w)=.next (lone (b.atR a (.code c:: .inScope c::k)) cs w):=step_lone_go (by simp[stepG,stepG.exec,Frame.atR]);have st2: ∀a w,step P (lone (b.atR a (.inScope c::k)) cs w)=.next (lone (b.atR a k) cs w):=fun a w=>step_lone_go (by simp[stepG,stepG.exec,Frame.atR]);have h0:(lone (b.atR a (.code (.scope c)::k)) cs w).fenced P F:=fenced_calm hb hr rfl;obtain⟨e,a₁,w₁,hq,harr⟩:=h b (.inScope c::k) cs hro hb hr
 cases e with
 |normal=>exact⟨.normal,a₁,w₁,hq,.head h0 st1 (StepsIn.trans harr (.one (fenced_calm hb hr rfl) (st2 _ _)))⟩
 |exit id=>
  have hx:exitTo id (.inScope c::k)=exitTo id k:=by simp[exitTo]
  exact⟨.exit id,a₁,w₁,hq,fun k' hk=>.head h0 st1 (harr.1 k' (by rw[hx];exact hk)),fun hr' hk=>let⟨k₁,h1,h2⟩:=harr.2 hr' (by rw[hx];exact hk);⟨k₁,h1,.head h0 st1 h2⟩⟩
 |goto l=>exact hq.elim
 |ret=>exact⟨.ret,a₁,w₁,hq,.of_steps (.one h0 st1) ⟨harr.1,harr.2⟩⟩
 |panic ch=>exact⟨.panic ch,a₁,w₁,hq,.of_steps (.one h0 st1) (show ArrivesIn _ P _ b k cs (.panic ch) a₁ w₁ from harr)⟩
 |outgrown=>exact⟨.outgrown,a₁,w₁,hq,.of_steps (.one h0 st1) (show ArrivesIn _ P _ b k cs .outgrown a₁ w₁ from harr)⟩
theorem kH(hT:iQ tb w0)(hc:kV tb w0 call)(hf:gY call)(hg:cx.g=tb.g)(hl:cx.l=tb.l){rd:Option Nat}(f:Nat):
 (∀(c:Code) (st:St) (e:Ex) (st':St),code tb call cx N rd f c st=some (e,st')-> ∀(ρ:Env) (w:World) (a:Act) (Q:Exit->Act->World->Prop) (r:Option Nat) (nn:Nat),aBt ρ st.s.n rd r->
   aQ w0 ρ cx st.s w->jH N ρ st.s.n a st.t->iR ρ st.s.n st.d a.defers->Post w0 cx N st st' ρ w (Q (QX e))->c.wpIn (FF r) nn tb.p Q a w)/\
 (∀(c:Code) (st:St) (e:Ex) (st':St),code tb call cx N rd f (.loop c) st=some (e,st')-> ∀(ρ:Env) (w:World) (a:Act) (Q:Exit->Act->World->Prop) (r:Option Nat) (nn:Nat),aBt ρ st.s.n rd r->
   aQ w0 ρ cx st.s w->jH N ρ st.s.n a st.t->iR ρ st.s.n st.d a.defers->Post w0 cx N st st' ρ w (Q (QX e))->Code.roundsIn (FF r) nn tb.p c Q f a w):=by
 induction f with
 |zero=>exact⟨fun c st e st' h=>(by cases h),fun c st e st' h=>(by cases h)⟩
 | succ f ih=>
  obtain⟨ih1,ih2⟩:=ih;have loops: ∀(c:Code) (st:St) (e:Ex) (st':St),code tb call cx N rd (f+1) (.loop c) st=some (e,st')-> ∀(ρ:Env) (w:World) (a:Act) (Q:Exit->Act->World->Prop) (r:Option Nat) (nn:Nat),aBt ρ st.s.n rd r->
   aQ w0 ρ cx st.s w->jH N ρ st.s.n a st.t->iR ρ st.s.n st.d a.defers->Post w0 cx N st st' ρ w (Q (QX e))->Code.roundsIn (FF r) nn tb.p c Q (f+1) a w:=by
   intro c st e st' h ρ w a Q r nn hrd hs ht hd hq;rw[roundsIn_succ];rcases nM (show MZ (code tb call cx N rd f (.loop c)) (code tb call cx N rd f c st)=some (e,st')from h)with⟨st1,h1,h2⟩|⟨h1,hne⟩
   . refine ih1 _ _ _ _ h1 ρ w a _ r nn hrd hs ht hd (fun ρ1 w1 a1 s1 t1 d1=>?_);exact ih2 _ _ _ _ h2 ρ1 w1 a1 Q r nn (hrd.ext s1.ext s1.n) s1.sat t1 d1 (fun ρ2 w2 a2 s2 t2 d2=>hq ρ2 w2 a2 (s1.trans s2) t2 d2)
   refine ih1 _ _ _ _ h1 ρ w a _ r nn hrd hs ht hd (fun ρ1 w1 a1 s1 t1 d1=>?_);have:=hq ρ1 w1 a1 s1 t1 d1
   cases e with
   |normal=>exact absurd rfl hne
   |exit i=>exact this
   |ret=>exact this
  refine⟨fun c st e st' h ρ w a Q r nn hrd hs ht hd hq=>?_,loops⟩
  cases c with
  |skip=>cases h;exact wpIn_skip (hq ρ w a (Stp.refl hs) ht hd)
  |label l=>cases h;exact wpIn_label (hq ρ w a (Stp.refl hs) ht hd)
  |exit id=>cases h;exact wpIn_exit (hq ρ w a (Stp.refl hs) ht hd)
  |ret=>cases h;exact wpIn_ret (hq ρ w a (Stp.refl hs) ht hd)
  |region id os dr=>
   obtain⟨t,h1,h2⟩:=aA.1 h
   cases h2
   exact U8 hT hc hf hg hl hrd.none h1 hs ht hd hq
  |seq x y=>
   refine wpIn_seq ?_;rcases nM (show MZ (code tb call cx N rd f y) (code tb call cx N rd f x st)=some (e,st')from h)with⟨st1,h1,h2⟩|⟨h1,hne⟩
   . refine ih1 _ _ _ _ h1 ρ w a _ r nn hrd hs ht hd (fun ρ1 w1 a1 s1 t1 d1=>?_);exact ih1 _ _ _ _ h2 ρ1 w1 a1 Q r nn (hrd.ext s1.ext s1.n) s1.sat t1 d1 (fun ρ2 w2 a2 s2 t2 d2=>hq ρ2 w2 a2 (s1.trans s2) t2 d2)
   refine ih1 _ _ _ _ h1 ρ w a _ r nn hrd hs ht hd (fun ρ1 w1 a1 s1 t1 d1=>?_);have:=hq ρ1 w1 a1 s1 t1 d1
   cases e with
   |normal=>exact absurd rfl hne
   |exit i=>exact this
   |ret=>exact this
  |cond c x y=>
   obtain⟨v,h1,h2⟩:=aA.1 h;obtain⟨b,rfl,h3⟩:=oP h2;have hv:=(ht.vals hT.AY hs hg (.move c) c (by simp[Op.operands]) _ h1).2;refine wpIn_cond (t:=b) hv ?_
   cases b with
   |true=>exact ih1 _ _ _ _ h3 ρ w a Q r nn hrd hs ht hd hq
   |false=>exact ih1 _ _ _ _ h3 ρ w a Q r nn hrd hs ht hd hq
  |block id c=>
   obtain⟨e1,h1,h2⟩:=GN h;refine wpIn_block (ih1 _ _ _ _ h1 ρ w a _ r nn hrd hs ht hd (fun ρ1 w1 a1 s1 t1 d1=>?_));have:=hq ρ1 w1 a1 s1 t1 d1;rcases h2 with⟨rfl,rfl⟩|⟨rfl,rfl⟩|⟨i,hi,rfl,rfl⟩|⟨rfl,rfl⟩
   . exact this
   . show Exit.inBlock id Q (.exit id) a1 w1;simp only[Exit.inBlock,aV5];exact this
   . show Exit.inBlock id Q (.exit i) a1 w1;simp only[Exit.inBlock,hi,aSC];exact this
   exact this
  |loop c=>exact wpIn_loop_rounds (f+1) (loops c st e st' h ρ w a Q r nn hrd hs ht hd hq)
  |scope c=>
   refine yJ (ih1 _ _ _ _ h ρ w a _ r nn hrd hs ht hd (fun ρ1 w1 a1 s1 t1 d1=>?_));have:=hq ρ1 w1 a1 s1 t1 d1
   cases e<;>exact this
  |_=>cases h
end
end Ev
end
section
open Go.RowKit
namespace Ev
theorem aFk{α:Type}{P:Program}{w:World}{ρ:Env}{f:α->Sem Value}{g:α->Option AV}: ∀(l:List α) (r:List AV),rU g l=some r->
 (∀x ∈ l,∀v,g x=some v->(f x).run P w=.ok (den ρ v) w)->(l.mapM f).run P w=.ok (r.map (den ρ)) w:=by
 intro l
 induction l with
 |nil=>intro r h _;cases h;simp
 |cons x l ih=>
  intro r h hf;obtain⟨v,h1,h2⟩:=aA.1 (show ob (g x) (fun v=>ob (rU g l) (fun vs=>some (v::vs)))=some r from h);obtain⟨vs,h3,h4⟩:=aA.1 h2
  cases h4
  have e1:=hf x aHB v h1;have e2:=ih vs h3 (fun y hy=>hf y (aHJ _ hy));simp only[List.mapM_cons,aEf,e1,aBD,e2,aGB,aSc]
theorem aG2: ∀(l:List AV) (n:Nat) (t:TE) (i:Nat),oZ (GZ n l t) i=if n<=i/\i<n+l.length then l[i - n]? else oZ t i:=by
 intro l
 induction l with
 |nil=>intro n t i;rw[aBx (fun h=>by have:=h.1;have:=h.2;simp at this;omega)];rfl
 |cons v l ih=>
  intro n t i;show oZ (GZ (n+1) l (YW t n v)) i=_;rw[ih]
  by_cases h1:n=i
  . subst h1;rw[aBx (by omega),CJ,aDk (by simp)];simp
  rw[rE _ _ h1]
  by_cases h2:n+1<=i/\i<n+1+l.length
  . rw[aDk h2,aDk (by simp;omega)];rw[show i - n=(i - (n+1))+1 by omega];rfl
  rw[aBx h2,aBx (by simp;omega)]
section
variable[Gh]{w0:World}{tb:Tab}{call:dO}{cx:Cx}{N:Nat}{ρ:Env}{s:Hs}{w:World}{a:Act}{t:TE}
theorem aBp{n:Nat}{xs:List AV}(h:xs.length<=N)(hx:iT n xs):
 jH N ρ n ⟨(xs.map (den ρ)).toArray++Array.replicate (N - (xs.map (den ρ)).toArray.size) undef,[]⟩ (GZ 0 xs nilA):=by
 refine⟨by simp;omega,fun i v hv=>?_⟩;rw[aG2,aAK]at hv
 split at hv
 . rename_i hi
   have hi:i<xs.length:=by omega
   rw[aWo]at hv;refine⟨(bI _ _).1 hx v (aQj hv),by omega,?_⟩;have h2:i<(xs.map (den ρ)).toArray.size:=by simp;exact hi
   rw[Array.getElem?_append_left h2,List.getElem?_toArray,aHG,hv];rfl
 cases hv
def aIm(tmps:Array Value):ResultVar->Sem Value
 | .tmp t=>pure (tmps.getD t undef)
 | .cell b ty=>do loadVar ty (<-asAddr (tmps.getD b undef))
omit[Gh]in
theorem aB7(fn:Func)(tmps:Array Value):results fn tmps=(do let vs<-fn.results.mapM (aIm tmps);pure (if h:vs.size=1 then vs[0]else .tuple vs)):=rfl
theorem LH(hT:iQ tb w0)(hs:aQ w0 ρ cx s w)(ht:jH N ρ s.n a t){r:ResultVar}{v:AV}(h:aUm tb t cx s r=some v):
 (aIm a.tmps r).run tb.p w=.ok (den ρ v) w/\Sc s.n v:=by
 cases r with
 |tmp k=>
  obtain⟨h1,h2,h3⟩:=ht.val k v h;refine⟨?_,h1⟩;simp only[aIm,aGB,aYa,h3,aWr]
 |cell b ty=>
  obtain⟨i,h1,h2⟩:=aA.1 h;obtain⟨y,h3,h4⟩:=aA.1 h2;obtain⟨c,off,rfl,h5⟩:=gX h4;obtain⟨o,h6,h7⟩:=aA.1 h5;obtain⟨cells,ho,h8⟩:=sD h7;obtain⟨_,_,h9⟩:=ht.val b _ h3;obtain⟨h11,h12⟩:=FY (hT.ty ty i h1) (hs.obj c o h6) ho h8;refine⟨?_,h12⟩;simp only[aIm,aYa,h9,aWr,den,asAddr,aEf,aGB,aBD,h11]
theorem aBS(l:List AV):den ρ (single l)=(if h:(l.map (den ρ)).toArray.size=1 then(l.map (den ρ)).toArray[0]else .tuple (l.map (den ρ)).toArray):=by
 cases l with
 |nil=>simp[single,den,dM]
 | cons x l=>
  cases l with
  |nil=>rfl
  |cons y l=>
   rw[dif_neg (by simp)];show den ρ (.aK (x::y::l))=_;rw[den,dM]
theorem aE9{n:Nat}{l:List AV}(h:iT n l):Sc n (single l):=by
 cases l with
 |nil=>exact trivial
 |cons x l=>
  cases l with
  |nil=>exact h.1
  |cons y l=>exact h
theorem yX(hT:iQ tb w0)(hs:aQ w0 ρ cx s w)(ht:jH N ρ s.n a t){fn:Func}{v:AV}(h:sG tb fn t cx s=some v):
 (results fn a.tmps).run tb.p w=.ok (den ρ v) w/\Sc s.n v:=by
 obtain⟨l,h1,h2⟩:=aA.1 h
 cases h2
 refine⟨?_,aE9 ((bI _ _).2 (MJ h1 (fun r _ v hv=>(LH hT hs ht hv).2)))⟩;have key:=aFk (P:=tb.p) (w:=w) (ρ:=ρ) (f:=aIm a.tmps) _ _ h1
  (fun r _ v hv=>(LH hT hs ht hv).1)
 rw[aB7];simp only[aEf,Array.mapM_eq_mapM_toList,Sem.run_map,key,aBD,aGB,aBS]
end
end Ev
end
section
open Go.RowKit
namespace Ev
theorem ZE{c:Code}{d:Option Tmp}(h:LQ c=some d): ∃id os args ts ty pos af,c=.region id os false/\os.toList=[⟨d,.call ⟨.builtin .recover,args,ts⟩,ty,pos,af,none⟩]:=by
 unfold LQ at h
 split at h
 . rename_i i os
   split at h
   . rename_i hos;cases h;exact⟨i,os,_,_,_,_,_,rfl,hos⟩
   cases h
 cases h
theorem wY{tb:Tab}{call:dO}{cx:Cx}{f:FuncId}{xs:List AV}{s s':Hs}(h:FH tb call cx f xs s=some s'):
 ∃fn x y e st v,tb.fn.get f=some fn/\fn.body=some (.seq x y)/\xs.length<=fn.ntmps/\MZ (code tb call cx fn.ntmps none fuel y) (aA5 tb call cx fn.ntmps fuel x ⟨GZ 0 xs nilA,s,[]⟩)=some (e,st)/\
  aJK e=true/\st.d=[]/\sG tb fn st.t cx st.s=some v/\s'=st.s:=by
 obtain⟨fn,h1,h2⟩:=aA.1 h;obtain⟨c,h3,h4⟩:=aA.1 h2;obtain⟨h5,h6⟩:=aG.1 h4;obtain⟨⟨e,st⟩,h7,h8⟩:=aA.1 h6;obtain⟨h9,h10⟩:=aG.1 h8;obtain⟨h11,h12⟩:=aG.1 h10;obtain⟨v,h13,h14⟩:=aA.1 h12
 cases h14
 cases c with
 |seq x y=>
  refine⟨fn,x,y,e,st,v,h1,h3,?_,h7,h9,?_,h13,rfl⟩
  . have:=aT.1 h5;rwa[len_eq]at this
  change isNil st.d=true at h11
  cases hd:st.d with
  |nil=>rfl
  |cons d dl=>rw[hd]at h11;cases h11
 |_=>cases h7
section
variable{tb:Tab}{call:dO}{cx:Cx}{N:Nat}
theorem aA4(hf:gY call){f:Nat}{c:Code}{st st':St}{e:Ex}(h:aA5 tb call cx N f c st=some (e,st')):Fq cx.fl cx.hid st.s st'.s:=by
 unfold aA5 at h
 cases hr:LQ c with
 |none=>rw[hr]at h;exact XI hf _ _ _ _ _ h
 |some d=>
  rw[hr]at h;obtain⟨t,_,h2⟩:=aA.1 h
  cases h2;exact Fq.refl _ _ _
theorem aGR(hf:gY call){f:FuncId}{xs:List AV}{s s':Hs}(h:FH tb call cx f xs s=some s'):Fq cx.fl cx.hid s s':=by
 obtain⟨fn,x,y,e,st,v,_,_,_,h1,_,_,_,rfl⟩:=wY h;rcases nM h1 with⟨st1,h2,h3⟩|⟨h2,_⟩
 . exact(aA4 hf h2).trans (XI hf _ _ _ _ _ h3)
 exact aA4 hf h2
theorem OE{xs:List AV}{s s':Hs}(h:aEt cx xs s=some s'):False:=by cases h
theorem aDe{f:FuncId}{xs:List AV}{s s':Hs}(h:(Bool.rec (motive:=fun _=>Option Hs) (FH tb call cx f xs s) (aEt cx xs s) (Nat.beq f aA3):Option Hs)=some s'):
 (Nat.beq f aA3=false/\FH tb call cx f xs s=some s')\/(Nat.beq f aA3=true/\aEt cx xs s=some s'):=by
 cases hb:Nat.beq f aA3 with
 |false=>rw[hb]at h;exact .inl ⟨rfl,h⟩
 |true=>rw[hb]at h;exact .inr ⟨rfl,h⟩
theorem aDd(hf:gY call): ∀(dl:DL) (s s':Hs),DC tb call cx dl s=some s'->Fq cx.fl cx.hid s s':=by
 intro dl
 induction dl with
 |nil=>intro s s' h;cases h;exact Fq.refl _ _ _
 |cons d dl ih=>
  intro s s' h;obtain⟨s1,h1,h2⟩:=aA.1 h;refine Fq.trans ?_ (ih _ _ h2);rcases aDe h1 with⟨_,h1⟩|⟨_,h1⟩
  . exact aGR hf h1
  exact(OE h1).elim
noncomputable def aDL(tb:Tab)(call:dO):dO:=fun fl hid f xs s=>
 ob (tb.fn.get f) (fun fn=>ob fn.body (fun c=>ob (aQd tb call ⟨tb.g,tb.l,fl,hid⟩ fn c xs s) (fun st=>ob (DC tb call ⟨tb.g,tb.l,fl,hid⟩ st.d st.s) (fun s'=>ob (sG tb fn st.t ⟨tb.g,tb.l,fl,hid⟩ s') (fun v=>some (v,s'))))))
theorem KH{fl:Nat}{hid:Hid}{f:FuncId}{xs:List AV}{s s':Hs}{v:AV}(h:aDL tb call fl hid f xs s=some (v,s')):
 ∃fn c e st,tb.fn.get f=some fn/\fn.body=some c/\xs.length<=fn.ntmps/\code tb call ⟨tb.g,tb.l,fl,hid⟩ fn.ntmps none fuel c ⟨GZ 0 xs nilA,s,[]⟩=some (e,st)/\aJK e=true/\
  DC tb call ⟨tb.g,tb.l,fl,hid⟩ st.d st.s=some s'/\sG tb fn st.t ⟨tb.g,tb.l,fl,hid⟩ s'=some v:=by
 obtain⟨fn,h1,h2⟩:=aA.1 h;obtain⟨c,h3,h4⟩:=aA.1 h2;obtain⟨st,h5,h6⟩:=aA.1 h4;obtain⟨s1,h7,h8⟩:=aA.1 h6;obtain⟨v1,h9,h10⟩:=aA.1 h8
 cases h10
 obtain⟨h11,h12⟩:=aG.1 h5;obtain⟨⟨e,st1⟩,h13,h14⟩:=aA.1 h12;obtain⟨h15,h16⟩:=aG.1 h14
 cases h16
 refine⟨fn,c,e,st1,h1,h3,?_,h13,h15,h7,h9⟩;have:=aT.1 h11;rwa[len_eq]at this
theorem aIb(ih:gY call):gY (aDL tb call):=by
 intro fl hid f xs s v s' h;obtain⟨fn,c,e,st,h1,h2,h3,h4,h5,h6,h7⟩:=KH h;exact(XI (cx:=⟨tb.g,tb.l,fl,hid⟩) ih _ _ _ _ _ h4).trans (aDd (cx:=⟨tb.g,tb.l,fl,hid⟩) ih _ _ _ h6)
noncomputable def YJ(tb:Tab)(first rest:dO):dO:=fun fl hid f xs s=>
 Bool.rec (motive:=fun _=>Option (AV × Hs)) (first fl hid f xs s) (aB6 ⟨tb.g,tb.l,fl,hid⟩ (f - yF) xs s) (Nat.ble yF f)
theorem J7{first rest:dO}{fl:Nat}{hid:Hid}{f:FuncId}{xs:List AV}{s:Hs}{r:AV × Hs}(h:YJ tb first rest fl hid f xs s=some r):
 (Nat.ble yF f=false/\first fl hid f xs s=some r)\/(Nat.ble yF f=true/\aB6 ⟨tb.g,tb.l,fl,hid⟩ (f - yF) xs s=some r):=by
 unfold YJ at h
 cases hb:Nat.ble yF f with
 |false=>rw[hb]at h;exact .inl ⟨rfl,h⟩
 |true=>rw[hb]at h;exact .inr ⟨rfl,h⟩
theorem aH4{first rest:dO}(h1:gY first)(h2:gY rest):gY (YJ tb first rest):=by
 intro fl hid f xs s v s' h;rcases J7 h with⟨_,h⟩|⟨_,h⟩
 . exact h1 _ _ _ _ _ _ _ h
 cases h
theorem aBd(n:Nat):zA tb (n+1)=YJ tb (aDL tb (zA tb n)) (zA tb n):=rfl
theorem OL(n:Nat):gY (zA tb n):=by
 induction n with
 |zero=>intro fl hid f xs s v s' h;cases h
 |succ n ih=>rw[aBd];exact aH4 (aIb ih) ih
end
section
variable[Gh]{w0:World}{tb:Tab}{call:dO}{cx:Cx}{N:Nat}{ρ:Env}{s s':Hs}{w:World}
theorem TN{e:Ex}(h:aJK e=true):QX e=.normal\/QX e=.ret:=by
 cases e with
 |normal=>exact .inl rfl
 |exit i=>cases h
 |ret=>exact .inr rfl
theorem aA1(hT:iQ tb w0)(hc:kV tb w0 call)(hf:gY call)(hg:cx.g=tb.g)(hl:cx.l=tb.l){f:FuncId}{xs:List AV}(h:FH tb call cx f xs s=some s')
 (hs:aQ w0 ρ cx s w) (hx:iT s.n xs) {R:Ending->FrameMode->World->Prop} (hR: ∀ ρ' w' v,Stp w0 ρ ρ' cx s s' w w'->R (.returned v) .returning w'):
 CallsDIn Fence.wide 0 tb.p f (xs.map (den ρ)).toArray .returning w R:=by
 obtain⟨fn,x,y,e,st,v,h1,h2,h3,h4,h5,h6,h7,rfl⟩:=wY h;refine callsDIn_of_wpSIn (hT.fn f fn h1).1 h2 trivial (fun c₀ cs hm=>?_);have QN:=aBp (N:=fn.ntmps) (ρ:=ρ) h3 hx;have hd0:iR ρ s.n [] ([]:List Deferred):=trivial;have hc0:({ c₀ with mode:=.returning }:Frame)=c₀:=by rw[<-hm]
 have fin: ∀ ρ' w' a',Stp w0 ρ ρ' cx s st.s w w'->jH fn.ntmps ρ' st.s.n a' st.t->iR ρ' st.s.n st.d a'.defers->bodyPostS tb.p fn c₀ cs R (QX e) a' (c₀::cs) w':=by
  intro ρ' w' a' k1 k2 k3;have hde:a'.defers=[]:=by
   rw[h6]at k3
   cases hd:a'.defers with
   |nil=>rfl
   |cons d ds=>rw[hd]at k3;exact k3.elim
  have hr:=(yX hT k1.sat k2 h7).1;rcases TN h5 with he|he<;>rw[he]<;>exact⟨hde,.returning,by rw[hc0],_,hr,hR ρ' w' _ k1⟩
 refine wpSIn_seq ?_;unfold aA5 at h4
 cases hr:LQ x with
 |none=>
  rw[hr]at h4;rcases nM h4 with⟨st1,h8,h9⟩|⟨h8,hne⟩
  . refine aXl rfl ((kH hT hc hf hg hl _).1 _ _ _ _ h8 ρ w _ _ none 0 trivial hs QN hd0 (fun ρ1 w1 a1 s1 t1 d1=>?_));refine aXl rfl ((kH hT hc hf hg hl _).1 _ _ _ _ h9 ρ1 w1 a1 _ none 0 trivial s1.sat t1 d1 (fun ρ2 w2 a2 s2 t2 d2=>?_));exact fin ρ2 w2 a2 (s1.trans s2) t2 d2
  refine aXl rfl ((kH hT hc hf hg hl _).1 _ _ _ _ h8 ρ w _ _ none 0 trivial hs QN hd0 (fun ρ1 w1 a1 s1 t1 d1=>?_));have:=fin ρ1 w1 a1 s1 t1 d1
  cases e with
  |normal=>exact absurd rfl hne
  |exit i=>exact this
  |ret=>exact this
 |some d=>
  rw[hr]at h4;obtain⟨id,os,args,ts,ty,pos,af,rfl,hos⟩:=ZE hr;have ho0:os[0]? =some ⟨d,.call ⟨.builtin .recover,args,ts⟩,ty,pos,af,none⟩:=by rw[<-aGC,hos];rfl
  have hsz:os.size=1:=by rw[<-aLW,hos];rfl
  have h4':MZ (code tb call cx fn.ntmps none fuel y) (ob (put fn.ntmps (GZ 0 xs nilA) d (.v .nilIface)) (fun t=>some (.normal,⟨t,s,[]⟩)))=some (e,st):=h4;rcases nM h4' with⟨st1,h8,h9⟩|⟨h8,hne⟩
  . obtain⟨t,h10,h11⟩:=aA.1 h8
    cases h11
    refine wpSIn_region ?_;rw[hsz];show wpOpsSIn Fence.wide 0 tb.p os _ [0] _ _ _;unfold wpOpsSIn;rw[ho0];refine⟨fun _ _=>trivial,?_⟩;have hrun: ∀(g:Operand->Value),(execOp g ⟨d,.call ⟨.builtin .recover,args,ts⟩,ty,pos,af,none⟩).run tb.p w=.ok .recover w:=by
     intro g;simp only[execOp,resolve,aEf,aGB,aBD,invoke,builtin]
    have hrec:recoverD (c₀::cs)=none:=by
     simp only[recoverD,hm]
    simp only[Region.wanted,aV5,hrun,hrec];unfold wpOpsSIn;refine aXl rfl ((kH hT hc hf hg hl _).1 _ _ _ _ h9 ρ w _ _ none 0 trivial hs (QN.put (v:=.v .nilIface) h10 trivial) ?_ (fun ρ2 w2 a2 s2 t2 d2=>?_))
    . rw[put_defers];exact hd0
    exact fin ρ2 w2 a2 s2 t2 d2
  obtain⟨t,h10,h11⟩:=aA.1 h8
  cases h11;exact absurd rfl hne
theorem XF(hT:iQ tb w0)(hc:kV tb w0 call)(hf:gY call)(hg:cx.g=tb.g)(hl:cx.l=tb.l){fn:Func}{tmps:Array Value}{R:Ending->World->Prop}{s':Hs}: ∀(dl:DL) (s:Hs),
 DC tb call cx dl s=some s'-> ∀(ρ:Env) (w:World) (ds:List Deferred),aQ w0 ρ cx s w->iR ρ s.n dl ds->
  (∀ ρ' w',Stp w0 ρ ρ' cx s s' w w'->LeavesInM Fence.wide 0 tb.p fn tmps R [] .returning w')->LeavesInM Fence.wide 0 tb.p fn tmps R ds .returning w:=by
 intro dl
 induction dl with
 |nil=>
  intro s h ρ w ds hs hd hq
  cases h
  cases ds with
  |nil=>exact hq ρ w (Stp.refl hs)
  |cons d ds=>exact hd.elim
 | cons p dl ih=>
  intro s h ρ w ds hs hd hq;obtain⟨s1,h1,h2⟩:=aA.1 h
  cases ds with
  |nil=>exact hd.elim
  | cons d ds=>
   obtain⟨⟨k1,kd⟩,k3⟩:=hd;rcases kd with⟨kf,cap,args,rfl,k2⟩|⟨kf,b,k2,rfl⟩
   case inr=>
    rcases aDe h1 with⟨q1,_⟩|⟨_,h1⟩
    . rw[kf]at q1;cases q1
    exact(OE h1).elim
   rcases aDe h1 with⟨_,h1⟩|⟨q1,_⟩
   case inr=>rw[kf]at q1;cases q1
   have hfn: ∃fn',tb.fn.get p.1=some fn':=by
    obtain⟨fn',_,_,_,_,_,q,_⟩:=wY h1;exact⟨fn',q⟩
   obtain⟨fn',hfn⟩:=hfn;refine⟨(by intro h;cases h),.inr ⟨CU (r:=none),_,_,p.1,(p.2.map (den ρ)).toArray,rfl,?_,fun _ _=>trivial,?_⟩⟩
   . simp only[invoke,k2];exact(hT.fn p.1 fn' hfn).2 _ w
   refine aA1 hT hc hf hg hl h1 hs k1 (fun ρ' w' v hst=>?_);exact ih s1 h2 ρ' w' ds hst.sat (k3.ext hst.ext hst.n) (fun ρ2 w2 hst2=>hq ρ2 w2 (hst.trans hst2))
theorem aIa(hT:iQ tb w0)(ih:kV tb w0 call)(ihf:gY call){fl:Nat}{hid:Hid}{f:FuncId}{xs:List AV}{v:AV}(h:aDL tb call fl hid f xs s=some (v,s'))(hs:aQ w0 ρ ⟨tb.g,tb.l,fl,hid⟩ s w)(hx:iT s.n xs):
 Calls tb.p f (xs.map (den ρ)).toArray w fun e w'=> ∃ ρ',e=.returned (den ρ' v)/\Stp w0 ρ ρ' ⟨tb.g,tb.l,fl,hid⟩ s s' w w'/\Sc s'.n v:=by
 obtain⟨fn,c,e,st,h1,h2,h3,h4,h5,h6,h7⟩:=KH h;refine callsIn_wide.1 (callsIn_of_wp_marks (n:=0) (hT.fn f fn h1).1 h2 trivial ?_);refine(kH (cx:=⟨tb.g,tb.l,fl,hid⟩) hT ih ihf rfl rfl _).1 _ _ _ _ h4 ρ w _ _ none 0 trivial hs (aBp h3 hx) trivial (fun ρ1 w1 a1 s1 t1 d1=>?_);have key:LeavesInM Fence.wide 0 tb.p fn a1.tmps (fun e w'=> ∃ ρ',e=.returned (den ρ' v)/\Stp w0 ρ ρ' ⟨tb.g,tb.l,fl,hid⟩ s s' w w'/\Sc s'.n v) a1.defers .returning w1:=by
  refine XF hT ih ihf rfl rfl _ _ h6 ρ1 w1 _ s1.sat d1 (fun ρ2 w2 s2=>?_);obtain⟨k1,k2⟩:=yX hT s2.sat (t1.ext s2.ext s2.n) h7;exact⟨_,k1,ρ2,rfl,s1.trans s2,k2⟩
 rcases TN h5 with he|he<;>rw[he]<;>exact key
omit[Gh]in
theorem aH3(hT:iQ tb w0){first rest:dO}(h1: ∀(_:Gh) fl hid f xs s v s',Nat.ble yF f=false->first fl hid f xs s=some (v,s')-> ∀ ρ w,aQ w0 ρ ⟨tb.g,tb.l,fl,hid⟩ s w->iT s.n xs->
 Calls tb.p f (xs.map (den ρ)).toArray w fun e w'=> ∃ ρ',e=.returned (den ρ' v)/\Stp w0 ρ ρ' ⟨tb.g,tb.l,fl,hid⟩ s s' w w'/\Sc s'.n v) (h2:kV tb w0 rest) (h3:gY rest):kV tb w0 (YJ tb first rest):=by
 intro G fl hid f xs s v s' h ρ w hs hx;rcases J7 h with⟨hb,h⟩|⟨hb,h⟩
 . exact⟨fun _=>h1 G _ _ _ _ _ _ _ hb h ρ w hs hx,fun hb'=>(by rw[hb]at hb';cases hb')⟩
 exact⟨fun hb'=>(by rw[hb]at hb';cases hb'),fun _ _=>(by cases h)⟩
end
theorem aBb{w0:World}{tb:Tab}(hT:iQ tb w0)(n:Nat):kV tb w0 (zA tb n):=by
 induction n with
 |zero=>intro G fl hid f xs s v s' h;cases h
 |succ n ih=>
  rw[aBd];exact aH3 hT (fun G fl hid f xs s v s' _ h ρ w hs hx=>aIa hT ih (OL n) h hs hx) ih (OL n)
end Ev
end
section
open Go.RowKit
namespace Ev
theorem Tr.aG5{α:Type}{c:Nat->α->Prop}{k s:Nat}{l r:Tr α}(h1:l.yQ c (k+s) (2 * s))(h2:r.yQ c (k+2 * s) (2 * s)):(Tr.node none l r).yQ c k s:=⟨trivial,h1,h2⟩
theorem Tr.aG4{α:Type}{c:Nat->α->Prop}{k s:Nat}{x:α}{l r:Tr α}(h:c k x)(h1:l.yQ c (k+s) (2 * s))(h2:r.yQ c (k+2 * s) (2 * s)):(Tr.node (some x) l r).yQ c k s:=⟨h,h1,h2⟩
structure aPl(P:Program)(k:Nat)(f:Func):Prop where
 get:(P.funcs[k]?)=some f
 name:(f.name== "runtime.NumGoroutine")=false
 body:f.body.isNone=false
theorem aPl.run{P:Program}{k:Nat}{f:Func}(h:aPl P k f)(args:Array Value)(w:World):(callFunc k args).run P w=.ok (.enter k args) w:=by
 have h1:=h.name;have h2:=h.body;have hp:(program:Sem Program).run P w=.ok P w:=rfl;unfold callFunc;rw[aEf,hp,aBD,h.get];dsimp only;rw[h1,h2]
 rfl
def aNL(P:Program)(t:TypeId)(name:String)(f:FuncId):Bool:=
 match P.info? t with
 |none=>false
 | some i=>match i.methods.find? (·.name==name)with
  |none=>false
  |some m=>match m.path.toList,m.func,P.underlying t with
   |[],some (g,false),some (.pointer _)=>false
   |[],some (g,false),some _=>Nat.beq g f
   |[],some (g,true),some (.pointer _)=>Nat.beq g f
   |_,_,_=>false
theorem aJV{P:Program}{t:TypeId}{name:String}{f:FuncId}(h:aNL P t name f=true)(v:Value)(w:World):(method (P.types.size+Made.depth) t v name).run P w=.ok (f,v) w:=by
 have hd:1<=Made.depth:=by decide
 obtain⟨n,hn⟩: ∃n,P.types.size+Made.depth=n+1:=⟨P.types.size+(Made.depth - 1),by omega⟩;rw[hn];unfold aNL at h
 cases hi:P.info? t with
 |none=>rw[hi]at h;cases h
 | some i=>
  rw[hi]at h;dsimp only at h
  cases hm:i.methods.find? (·.name==name)with
  |none=>rw[hm]at h;cases h
  | some m=>
   rw[hm]at h;dsimp only at h;have ht:(typeInfo t).run P w=.ok i w:=by simp[typeInfo,hi]
   have key: ∀(pr:Bool) (d:TypeDesc),m.path.toList=[]->m.func=some (f,pr)->P.underlying t=some d->((∃e,d=.pointer e)/\pr=true\/(∀e,d≠ .pointer e)/\pr=false)->
    (method (n+1) t v name).run P w=.ok (f,v) w:=by
    intro pr d h1 h2 h3 h4;have hr:(receiverAt t (.val v) pr (if m.path.isEmpty then some ((name.splitOn ".").getLastD name)else none)).run P w=.ok v w:=by
     unfold receiverAt;rw[aEf,aHH h3,aBD];rcases h4 with⟨⟨e,rfl⟩,rfl⟩|⟨h4,rfl⟩
     . rfl
     cases d<;>first|rfl|exact absurd rfl (h4 _)
    unfold method;simp only[aEf,ht,aBD,hm,h1,follow,aGB,h2,hr]
   split at h
   . cases h
   . rename_i g d hd hp hf hu
     obtain rfl:=aGo h;exact key _ _ hp hf hu (.inr ⟨fun e he=>hd e he,rfl⟩)
   . rename_i g e hp hf hu
     obtain rfl:=aGo h;exact key _ _ hp hf hu (.inl ⟨⟨e,rfl⟩,rfl⟩)
   cases h
noncomputable def aJU(l:List (TypeId × String × FuncId))(t:TypeId)(name:String):Option FuncId:=
 List.rec (motive:=fun _=>Option FuncId) none (fun e _ ih=>Bool.rec (motive:=fun _=>Option FuncId) ih (Bool.rec (motive:=fun _=>Option FuncId) ih (some e.2.2) (e.2.1==name)) (Nat.beq e.1 t)) l
theorem aD8{P:Program}{l:List (TypeId × String × FuncId)}(h:l.all (fun e=>aNL P e.1 e.2.1 e.2.2)=true): ∀t name f,aJU l t name=some f-> ∀(v:Value) (w:World),(method (P.types.size+Made.depth) t v name).run P w=.ok (f,v) w:=by
 induction l with
 |nil=>intro t name f h;cases h
 | cons e l ih=>
  rw[aP2,aDY]at h;intro t name f hm;have hm:Bool.rec (motive:=fun _=>Option FuncId) (aJU l t name) (Bool.rec (motive:=fun _=>Option FuncId) (aJU l t name) (some e.2.2) (e.2.1==name)) (Nat.beq e.1 t)=some f:=hm
  cases h1:Nat.beq e.1 t with
  |false=>rw[h1]at hm;exact ih h.2 t name f hm
  | true=>
   rw[h1]at hm
   cases h2:(e.2.1==name)with
   |false=>rw[h2]at hm;exact ih h.2 t name f hm
   |true=>
    rw[h2]at hm
    cases hm
    have h1:=aGo h1;rw[aGw]at h2;subst h1;subst h2;exact aJV h.1
theorem aH7{tb:Tab}{w0:World}(h1:tb.ty.yQ (fun k i=>o7 tb.p k i) 0 1)(h2:tb.fn.yQ (fun k f=>aPl tb.p k f) 0 1)(h3:tb.p.follows .mixedOrders=true)
 (h4: ∀f xs v,tb.orc f xs=some v->(∀(_:Gh) n,(∀g,g<tb.g.n->Gd n g)->Sc n v)/\(∀args w,(callFunc f args).run tb.p w=.ok (.enter f args) w)/\
   ∀ ρ w,Lv tb ρ->Below w0.heap.size w0 w->Calls tb.p f (xs.map (den ρ)).toArray w fun e w'=>e=.returned (den ρ v)/\Below w.heap.size w w')
 (h8:DR tb)
 (h5: ∀f,tb.idn f=true-> ∀x w,(callFunc f #[x]).run tb.p w=.ok (.value x) w)
 (h6: ∀f e,tb.mnz f=some e-> ∀(n:Nat) w,n<=140737488355328-> ∃cs:Array Value,(callFunc f #[.int .i64 n]).run tb.p w=.ok (.value (.slice (some ⟨w.heap.size,0,none⟩) n cs.size)) (w.drew.drew.alloc (.cells cs e))/\n<=cs.size)
 (h7: ∀t name f,tb.met t name=some f-> ∀(v:Value) (w:World),(method (tb.p.types.size+Made.depth) t v name).run tb.p w=.ok (f,v) w):iQ tb w0 where
 ty:=fun t i h=>Tr.OW h1 h
 fn:=fun f fn h=>⟨(Tr.OW h2 h).get,(Tr.OW h2 h).run⟩
 orc:=h4
 AY:=h8
 mixed:=h3
 idn:=h5
 mnz:=h6
 met:=h7
end Ev
end
section
namespace Ev
noncomputable def Tr.lst{α:Type}(t:Tr α):Nat->Nat->List (Nat × α):=
 Tr.rec (motive:=fun _=>Nat->Nat->List (Nat × α)) (fun _ _=>[])
  (fun v _ _ il ir k s=>Option.rec (motive:=fun _=>List (Nat × α)) (il (k+s) (2 * s)++ir (k+2 * s) (2 * s)) (fun x=>(k,x)::(il (k+s) (2 * s)++ir (k+2 * s) (2 * s))) v) t
theorem Tr.OV{α:Type}{c:Nat->α->Prop}: ∀ {t:Tr α} {k s:Nat},(∀e ∈ t.lst k s,c e.1 e.2)->t.yQ c k s:=by
 intro t
 induction t with
 |nil=>intro k s _;trivial
 |node v l r il ir=>
  intro k s h
  cases v with
  |none=>exact Tr.aG5 (il fun e he=>h e (aU0 _ he)) (ir fun e he=>h e (aYZ _ he))
  |some x=>exact Tr.aG4 (h (k,x) (aHB ..)) (il fun e he=>h e (aHJ _ (aU0 _ he))) (ir fun e he=>h e (aHJ _ (aYZ _ he)))
theorem kE{β γ:Type}{f g:β->γ}: ∀ {l:List β},l.map f=l.map g-> ∀e ∈ l,f e=g e:=by
 intro l h e he
 induction l with
 |nil=>cases he
 |cons x l ih=>
  rw[aSc,aSc,List.cons.injEq]at h;rcases aHC.1 he with rfl|he
  . exact h.1
  exact ih h.2 he
theorem ty_1:(tys.lst 0 1).map (fun e=>(Tryz.prog.info? e.1).map fun j=>(j.size,j.bytes,j.zero))=(tys.lst 0 1).map fun e=>some (e.2.size,e.2.bytes,some (zeroOf e.2)):=by kernel_rfl
theorem ty_2:(tys.lst 0 1).map (fun e=>(Tryz.prog.underlying e.1).map fun d=>(ND d,kindOf Tryz.prog d))=(tys.lst 0 1).map fun e=>some (e.2.agg,e.2.k):=by kernel_rfl
theorem aXn:(tys.lst 0 1).map (fun e=>(zeroOf e.2).cells.toList)=(tys.lst 0 1).map fun e=>e.2.zero:=by kernel_rfl
theorem aXm:(tys.lst 0 1).map (fun e=>e.2.zero.length)=(tys.lst 0 1).map fun e=>e.2.size:=by kernel_rfl
theorem aQP:tys.yQ (fun k i=>o7 Tryz.prog k i) 0 1:=Tr.OV fun e he=>⟨kE ty_1 e he,kE ty_2 e he,kE aXn e he,kE aXm e he⟩
theorem aYs:(fns.lst 0 1).map (fun e=>Tryz.prog.funcs[e.1]?)=(fns.lst 0 1).map fun e=>some e.2:=by kernel_rfl
theorem aYr:(fns.lst 0 1).map (fun e=>(e.2.name== "runtime.NumGoroutine"))=(fns.lst 0 1).map fun e=>false:=by kernel_rfl
theorem aYq:(fns.lst 0 1).map (fun e=>e.2.body.isNone)=(fns.lst 0 1).map fun e=>false:=by kernel_rfl
theorem aKu:fns.yQ (fun k f=>aPl Tryz.prog k f) 0 1:=Tr.OV fun e he=>⟨kE aYs e he,kE aYr e he,kE aYq e he⟩
end Ev
end
section
open Go.RowKit
namespace Ev
abbrev IZ:=List AV × List (Nat × List AV) × Nat
def aGt{α:Type}(g:α->Nat->Option IZ):List α->Nat->Option IZ
 |[],n=>some ([],[],n)
 |x::l,n=>(g x n).bind fun a=>(aGt g l a.2.2).map fun b=>(a.1++b.1,a.2.1++b.2.1,b.2.2)
def aDJ(P:Program):List Field->Nat->Option Nat
 |[],o=>some o
 |f::l,o=>if f.offset=o then aDJ P l (o+P.cellsOf f.type)else none
def aCS(P:Program):Nat->TypeId->DataW Unit->Nat->Option IZ
 |0,_,_,_=>none
 | f+1,t,d,n=>
  match P.underlying t,d with
  |some .bool,.lit (.bool b)=>some ([.v (.bool b)],[],n)
  |some (.int k),.lit (.int _ z)=>some ([.v (.int k z)],[],n)
  |some .string,.lit (.string s)=>some ([.v (.string ⟨s.toArray⟩)],[],n)
  |some (.pointer e),.ptr d=>if P.cellsOf e=0 then none else(aCS P f e d (n+1)).map fun a=>([.ptr n 0],(n,a.1)::a.2.1,a.2.2)
  |some (.slice e),.slice es sp=>if P.cellsOf e=0\/es.isEmpty then none else
   (aGt (fun d n=>aCS P f e d n) (es++sp) (n+1)).map fun a=>([.sl n 0 es.length (es.length+sp.length)],(n,a.1)::a.2.1,a.2.2)
  |some (.struct fs),.agg ps=>if fs.size=ps.length/\aDJ P fs.toList 0=some (P.cellsOf t)then aGt (fun(p:Field × DataW Unit) n=>aCS P f p.1.type p.2 n) (fs.toList.zip ps) n else none
  |some (.array m e),.agg ps=>if ps.length=m/\P.cellsOf t=m * P.cellsOf e then aGt (fun d n=>aCS P f e d n) ps n else none
  |_,_=>none
section
variable[Gh](w:World)
structure aL0(ρ:Env)(n:Nat)(r:IZ)(cs:List Value):Prop where
 le:n<=r.2.2
 cells:cs=r.1.map (den ρ)
 sc:iT r.2.2 r.1
 blks: ∀q ∈ r.2.1,n<=q.1/\q.1<r.2.2/\iT r.2.2 q.2/\(∃x,w.heap[ρ.blk q.1]? =some x)/\ ∀i x,q.2[i]? =some x->w.cell? ⟨ρ.blk q.1,ρ.off q.1+i,none⟩=some (den ρ x)
def qN(n:Nat)(r:IZ)(cs:List Value):Prop:= ∀ ρ,∃ ρ',Ext n ρ ρ'/\aL0 w ρ' n r cs
variable{w}
theorem aL0.ext{ρ ρ':Env}{n m:Nat}{r:IZ}{cs:List Value}(h:aL0 w ρ n r cs)(he:Ext r.2.2 ρ ρ')(hm:r.2.2<=m):
 cs=r.1.map (den ρ')/\iT m r.1/\ ∀q ∈ r.2.1,n<=q.1/\q.1<r.2.2/\iT m q.2/\(∃x,w.heap[ρ'.blk q.1]? =some x)/\ ∀i x,q.2[i]? =some x->w.cell? ⟨ρ'.blk q.1,ρ'.off q.1+i,none⟩=some (den ρ' x):=by
 refine⟨by rw[C9 he h.sc];exact h.cells,iT.mono hm _ h.sc,fun q hq=>?_⟩;obtain⟨h1,h2,h3,h4,h5⟩:=h.blks q hq;have hb:=he q.1 h2;refine⟨h1,h2,iT.mono hm _ h3,by rw[hb.1];exact h4,fun i x hx=>?_⟩;rw[hb.1,hb.2.1,h5 i x hx,uQ he x ((bI _ _).1 h3 x (aQj hx))]
theorem zU{α:Type}{g:α->Nat->Option IZ}{S:α->List Value->Prop}(hg: ∀x n r,g x n=some r-> ∀cs,S x cs->qN w n r cs):
 ∀(l:List α) (n:Nat) (r:IZ),aGt g l n=some r-> ∀css:List (List Value),css.length=l.length->(∀(i:Nat) (x:α) (c:List Value),l[i]? =some x->css[i]? =some c->S x c)->qN w n r css.flatten:=by
 intro l
 induction l with
 |nil=>
  intro n r h css hl hs ρ
  cases h
  cases css with
  |nil=>exact⟨ρ,Ext.refl _ _,aEc _,rfl,trivial,fun q hq=>by cases hq⟩
  |cons c css=>cases hl
 | cons x l ih=>
  intro n r h css hl hs ρ
  cases css with
  |nil=>cases hl
  |cons c css=>
   simp only[aGt,aTv,aL3]at h;obtain⟨a,h1,b,h2,rfl⟩:=h;obtain⟨ρ1,e1,k1⟩:=hg x n a h1 c (hs 0 x c rfl rfl) ρ;obtain⟨ρ2,e2,k2⟩:=ih a.2.2 b h2 css (by simpa using hl) (fun i y d hy hd=>hs (i+1) y d (by simpa using hy) (by simpa using hd)) ρ1;obtain⟨q1,q2,q3⟩:=k1.ext e2 k2.le;refine⟨ρ2,e1.trans e2 k1.le,aHU k1.le k2.le,?_,?_,fun q hq=>?_⟩
   . rw[aWk,aQD,<-q1,<-k2.cells]
   . rw[bI];intro y hy;rcases aL6.1 hy with hy|hy
     . exact(bI _ _).1 q2 y hy
     exact(bI _ _).1 k2.sc y hy
   rcases aL6.1 hq with hq|hq
   . obtain⟨j1,j2,j3,j4,j5⟩:=q3 q hq;exact⟨j1,aGA j2 k2.le,j3,j4,j5⟩
   obtain⟨j1,j2,j3,j4,j5⟩:=k2.blks q hq;exact⟨aHU k1.le j1,j2,j3,j4,j5⟩
end
end Ev
end
section
open Go.RowKit
namespace Ev
def Env.at'(ρ:Env)(n r o:Nat):Env:=⟨fun b=>if b=n then r else ρ.blk b,fun b=>if b=n then o else ρ.off b,ρ.cp⟩
theorem Env.aOA(ρ:Env)(n r o:Nat):Ext n ρ (ρ.at' n r o):=fun b hb=>by
 have:b≠n:=by omega
 simp[Env.at',this]
theorem flat_get{α:Type}{z:Nat}(hz:0<z): ∀(css:List (List α)),(∀c ∈ css,c.length=z)-> ∀j,css.flatten[j]? =(css[j / z]?).bind (·[j % z]?):=by
 intro css
 induction css with
 |nil=>intro _ j;simp
 |cons c css ih=>
  intro h j;have hc:=h c aHB;rw[aWk]
  by_cases hj:j<z
  . rw[aMg (by omega),Nat.div_eq_of_lt hj,Nat.mod_eq_of_lt hj];rfl
  rw[aL5 (by omega),hc,ih (fun d hd=>h d (aHJ _ hd))];have e1:j / z=(j - z) / z+1:=by rw[Nat.div_eq_sub_div hz (by omega)]
  have e2:j % z=(j - z) % z:=by rw[Nat.mod_eq_sub_mod (by omega)]
  rw[e1,e2,aYy]
section
variable[Gh]{w:World}{P:Program}
theorem D7(n:Nat)(v:Value):qN w n ([.v v],[],n) [v]:=fun ρ=>⟨ρ,Ext.refl _ _,aEc _,rfl,⟨trivial,trivial⟩,fun q hq=>by cases hq⟩
theorem sound_row{n:Nat}{a:IZ}{row:List Value}{A:Addr}(h:qN w (n+1) a row)(hrow: ∀j v,row[j]? =some v->w.cell? (A.add j)=some v)(hne:row≠[])(mk:Addr->Value)(mkA:AV)
 (hA: ∀ ρ:Env,ρ.blk n=A.block->ρ.off n=A.off->den ρ mkA=mk ⟨A.block,A.off,none⟩) (hs: ∀m,n<m-> ¬Gh.bad n->Sc m mkA) (hg: ¬Gh.bad n):
 qN w n ([mkA],(n,a.1)::a.2.1,a.2.2) [mk A]:=by
 have hspot:A.spot=none:=by
  obtain⟨v,r,rfl⟩: ∃v r,row=v::r:=by cases row with|nil=>exact absurd rfl hne|cons v r=>exact⟨v,r,rfl⟩
  have:=hrow 0 v rfl;have e:A.add 0=A:=rfl;rw[e]at this;unfold World.cell? at this
  split at this
  . split at this
    . cases this
    rename_i hn;cases hx:A.spot with
    |none=>rfl
    |some k=>rw[hx]at hn;exact absurd rfl hn
  cases this
 have hadd: ∀j,A.add j=⟨A.block,A.off+j,none⟩:=by
  intro j;unfold Addr.add
  split
  . rename_i h0;subst h0;cases A;simp at hspot;simp[hspot]
  rfl
 have hA0:A=⟨A.block,A.off,none⟩:=by cases A;simp at hspot;simp[hspot]
 intro ρ;obtain⟨ρ',e1,k1⟩:=h (ρ.at' n A.block A.off);have hn:=e1 n (aMe n);have b1:ρ'.blk n=A.block:=by rw[hn.1];simp[Env.at']
 have b2:ρ'.off n=A.off:=by rw[hn.2.1];simp[Env.at']
 refine⟨ρ',(Env.aOA ρ n A.block A.off).trans (e1.mono (aTc n)) (aEc _),aHU (aTc n) k1.le,?_,⟨hs _ (aGA (aMe n) k1.le) hg,trivial⟩,fun q hq=>?_⟩
 . show[mk A]=[den ρ' mkA];rw[hA ρ' b1 b2,<-hA0]
 rcases aHC.1 hq with rfl|hq
 . refine⟨aEc _,aGA (aMe n) k1.le,k1.sc,?_,fun i x hx=>?_⟩
   . obtain⟨v,r,hr⟩: ∃v r,row=v::r:=by cases row with|nil=>exact absurd rfl hne|cons v r=>exact⟨v,r,rfl⟩
     have:=hrow 0 v (by rw[hr];rfl);rw[hadd]at this;unfold World.cell? at this;dsimp only;rw[b1]
     cases hx:w.heap[A.block]? with
     |none=>rw[hx]at this;cases this
     |some x=>exact⟨x,rfl⟩
   dsimp only;rw[b1,b2,<-hadd];apply hrow;rw[k1.cells,aHG,hx];rfl
 obtain⟨j1,j2,j3⟩:=k1.blks q hq;exact⟨aWj j1,j2,j3⟩
end
end Ev
end
section
open Go.RowKit
namespace Ev
section
variable[Gh]{w:World}{P:Program}
def Reads(P:Program)(w:World)(t:TypeId)(d:DataW Unit)(cs:List Value):Prop:= ∃fuel p,DataW.trod (fun _=>()) P w 0 (fun _=>true) false fuel t cs=some (d,p)
omit[Gh]in
theorem chop{α:Type}{z:Nat}: ∀(m:Nat) (cs:List α),cs.length=m * z->((List.range m).map fun i=>(cs.drop (i * z)).take z).flatten=cs:=by
 intro m
 induction m with
 |zero=>intro cs h;simp at h;subst h;rfl
 | succ m ih=>
  intro cs h;rw[List.range_succ_eq_map,aSc,aWk,aWA];have h2:(cs.drop z).length=m * z:=by rw[List.length_drop,h,aYL];omega
  have:=ih (cs.drop z) h2;have e:((fun i=>(cs.drop (i * z)).take z) ∘ Nat.succ)=fun i=>((cs.drop z).drop (i * z)).take z:=by
   funext i;simp only[Function.comp,aYp];congr 2;rw[aYL,Nat.add_comm]
  rw[e,this];simp
omit[Gh]in
theorem aBM{α:Type}: ∀(fs:List Field) (o e:Nat) (cs:List α),aDJ P fs o=some e->cs.length=e->o<=e/\(fs.map fun f=>(cs.drop f.offset).take (P.cellsOf f.type)).flatten=cs.drop o:=by
 intro fs
 induction fs with
 |nil=>intro o e cs h hl;cases h;exact⟨aEc _,by simp[hl]⟩
 |cons f fs ih=>
  intro o e cs h hl;unfold aDJ at h
  split at h
  . rename_i ho
    obtain⟨h1,h2⟩:=ih _ _ cs h hl;refine⟨by omega,?_⟩;rw[aSc,aWk,h2,ho,<-aYp,List.take_append_drop]
  cases h
theorem aCR (hG: ∀n,¬Gh.bad n) (f:Nat): ∀(t:TypeId) (d:DataW Unit) (n:Nat) (r:IZ),aCS P f t d n=some r-> ∀cs,Reads P w t d cs->qN w n r cs:=by
 induction f with
 |zero=>intro t d n r h;cases h
 | succ f ih=>
  intro t d n r h cs hr;obtain⟨fuel,p,hr⟩:=hr;unfold aCS at h
  split at h
  . rename_i ht
    obtain⟨b,rfl,hx⟩:=DataW.trod_bool ht hr
    cases h;cases hx;exact D7 n _
  . rename_i ht
    obtain⟨z,rfl,hx,_⟩:=aNY ht hr
    cases h;cases hx;exact D7 n _
  . rename_i ht
    obtain⟨s,rfl,hx,_⟩:=DataW.trod_string ht hr
    cases h;cases hx;exact D7 n _
  . rename_i e d' ht
    split at h
    . cases h
    rename_i hz
    obtain⟨a,h1,rfl⟩:=aL3.1 h;rcases DataW.trod_pointer ht hr with⟨_,hx⟩|⟨A,cs',y,m,rfl,rfl,hx,hc,hy⟩
    . cases hx
    cases hx
    obtain⟨_,hl,hg⟩:=aWi hc;refine sound_row (row:=cs') (A:=A) (mk:=fun A=>.pointer (some A)) (ih e _ (n+1) a h1 cs' ⟨m,y.2,hy⟩) (fun j v hv=>?_) (fun h0=>?_) (.ptr n 0) (fun ρ b1 b2=>?_) (fun m hm hb=>⟨hm,hb⟩) (hG n)
    . have hj:j<P.cellsOf e:=by rw[<-hl];exact(aHI.1 hv).1
      rw[hg j hj,hv]
    . rw[h0]at hl;exact hz hl.symm
    simp only[den,b1,b2,aMk]
  . rename_i e es sp ht
    split at h
    . cases h
    rename_i hz
    obtain⟨a,h1,rfl⟩:=aL3.1 h;rcases DataW.trod_slice ht hr with⟨_,hx⟩|⟨A,len,cap,elems,rest,m,rfl,rfl,hx,_,hlc,_,hel,hE,hR,_⟩
    . cases hx
    cases hx
    obtain⟨hrl,hR⟩:=hR rfl;have hz0:0<P.cellsOf e:=aXw (fun h=>hz (.inl h));have hlen0:0<len:=by
     rcases Nat.eq_zero_or_pos len with h0|h0
     . rw[h0]at hel;have:elems=[]:=aTw.1 hel;subst this;exact absurd (.inr rfl) hz
     exact h0
    have hall: ∀i,i<elems.length+rest.length-> ∃c,w.cells? 0 (A.add (i * P.cellsOf e)) (P.cellsOf e)=some c/\ ∃y,(elems++rest)[i]? =some y/\DataW.trod (fun _=>()) P w 0 (fun _=>true) false m e c=some y:=by
     intro i hi;have key:(w.cells? 0 (A.add (i * P.cellsOf e)) (P.cellsOf e)).bind (DataW.trod (fun _=>()) P w 0 (fun _=>true) false m e)=(elems++rest)[i]? :=by
      by_cases hlt:i<len
      . rw[hE i hlt,aMg (by omega)]
      have:=hR (i - len) (by omega);rw[show len+(i - len)=i by omega]at this;rw[this,aL5 (by omega),hel]
     obtain⟨y,hy⟩: ∃y,(elems++rest)[i]? =some y:=⟨_,aEM (by rw[aS9];exact hi)⟩;rw[hy]at key;obtain⟨c,hc,hcy⟩:=aTv.1 key;exact⟨c,hc,y,hy,hcy⟩
    let css:List (List Value):=(List.range (elems.length+rest.length)).map fun i=>(w.cells? 0 (A.add (i * P.cellsOf e)) (P.cellsOf e)).getD []
    have hcl:css.length=elems.length+rest.length:=by simp[css]
    have hget: ∀(i:Nat) (c:List Value),css[i]? =some c->i<elems.length+rest.length/\w.cells? 0 (A.add (i * P.cellsOf e)) (P.cellsOf e)=some c:=by
     intro i c hc;have hi:i<elems.length+rest.length:=by rw[<-hcl];exact(aHI.1 hc).1
     obtain⟨c',h2,_⟩:=hall i hi;simp only[css,aHG,aTx hi,aWv,Option.some.injEq]at hc;rw[h2]at hc ⊢;exact⟨hi,aTd some hc⟩
    have aP3: ∀c ∈ css,c.length=P.cellsOf e:=by
     intro c hc;obtain⟨i,hi⟩:=aXb hc;exact(aWi (hget i c hi).2).2.1
    have hs:=zU (S:=fun d c=>Reads P w e d c) (fun x n r hx cs hcs=>ih e x n r hx cs hcs) _ (n+1) a h1 css (by rw[hcl];simp) (fun i x c hx hc=>by
     obtain⟨hi,h2⟩:=hget i c hc;obtain⟨c',h3,y,h4,h5⟩:=hall i hi;rw[h2]at h3;cases h3;rw[<-aQD,aHG,h4]at hx
     cases hx
     exact⟨m,y.2,h5⟩)
    have e1:(elems.map (·.1)).length=len:=by simp[hel]
    have e2:(elems.map (·.1)).length+(rest.map (·.1)).length=cap:=by simp;omega
    rw[e2,e1];refine sound_row (row:=css.flatten) (A:=A) (mk:=fun A=>.slice (some A) len cap) hs (fun j v hv=>?_) (fun h0=>?_) (.sl n 0 len cap) (fun ρ b1 b2=>?_) (fun m hm hb=>⟨hm,hb⟩) (hG n)
    . rw[flat_get hz0 css aP3]at hv;obtain⟨c,hc,hcv⟩:=aTv.1 hv;obtain⟨_,h2⟩:=hget _ c hc;have h3:=(aWi h2).2.2 (j % P.cellsOf e) (Nat.mod_lt _ hz0);rw[hcv]at h3;have hj:j / P.cellsOf e * P.cellsOf e+j % P.cellsOf e=j:=by rw[aXN];exact Nat.div_add_mod j _
      rw[Addr.add_add,hj]at h3;exact h3
    . have:css.flatten.length=0:=by rw[h0];rfl
      have hc0: ∃c,css[0]? =some c:=⟨_,aEM (by omega)⟩;obtain⟨c,hc⟩:=hc0;have h2:=aP3 c (aQj hc);have h3:c.length<=css.flatten.length:=by
       cases hcs:css with
       |nil=>rw[hcs]at hc;cases hc
       |cons c0 cr=>rw[hcs]at hc;cases hc;simp
      omega
    simp only[den,b1,b2,aMk]
  . rename_i fs ps ht
    split at h
    . rename_i hcond
      obtain⟨xs,m,rfl,hx,hl,hxl,hall⟩:=DataW.trod_struct ht hr
      cases hx
      have hch:=(aBM fs.toList 0 _ cs hcond.2 hl).2;rw[List.drop_zero]at hch;rw[<-hch];refine zU (S:=fun(p:Field × DataW Unit) c=>Reads P w p.1.type p.2 c) (fun x n r hx cs hcs=>ih _ x.2 n r hx cs hcs) _ n r h _ (by simp[hxl]) (fun i x c hx hc=>?_);rw[List.getElem?_zip_eq_some]at hx;obtain⟨h1,h2⟩:=hx;rw[aHG,h1]at hc
      cases hc
      have h3:=hall i x.1 (by rw[<-aGC];exact h1);rw[aHG]at h2;obtain⟨y,h4,h5⟩:=aL3.1 h2;rw[h4]at h3;exact⟨m,y.2,by rw[h3,<-h5]⟩
    cases h
  . rename_i m e ps ht
    split at h
    . rename_i hcond
      obtain⟨xs,m',rfl,hx,hl,hxl,hall⟩:=DataW.trod_array ht hr
      cases hx
      rw[hcond.2]at hl;rw[<-chop m cs hl];refine zU (S:=fun d c=>Reads P w e d c) (fun x n r hx cs hcs=>ih e x n r hx cs hcs) _ n r h _ (by simp[hxl]) (fun i x c hx hc=>?_);rw[aHG]at hx;obtain⟨y,h4,h5⟩:=aL3.1 hx;have hi:i<m:=by rw[<-hxl];exact(aHI.1 h4).1
      rw[aHG,aTx hi]at hc
      cases hc
      exact⟨m',y.2,by rw[hall i hi,h4,<-h5]⟩
    cases h
  cases h
end
end Ev
end
section
open Go.RowKit
namespace Ev
theorem aBL{H:Type}{enc:TypeId × Value->H}{P:Program}{w:World}{base:Nat}{sp:Nat->Bool}{fuel:Nat}{t:TypeId}{cs:List Value}{x:DataW H × List MemPlace}{ms}(ht:P.underlying t=some (.interface ms))
 (h:DataW.trod enc P w base sp false fuel t cs=some x):(cs=[.nilIface]/\x=(.nil,[]))\/ ∃u v name y n,fuel=n+1/\cs=[.iface u v]/\P.typeName? 3 u=some name/\DataW.trod enc P w base sp false n u v.cells.toList=some y/\x=(.iface name y.1,y.2):=by
 cases fuel with
 |zero=>simp[DataW.trod]at h
 | succ n=>
  unfold DataW.trod at h;rw[ht]at h
  match cs,h with
  |[],h=>cases h
  | [v],h=>
   cases v<;>first
    |(cases h;done)
    |(cases h;exact .inl ⟨rfl,rfl⟩)
    |skip
   rename_i u v
   dsimp only at h
   cases hn:P.typeName? 3 u with
   |none=>rw[hn]at h;cases h
   |some name=>
    rw[hn]at h;obtain⟨y,h1,h2⟩:=aL3.1 h;exact .inr ⟨u,v,name,y,n,rfl,rfl,hn,h1,h2.symm⟩
  |a::b::l,h=>simp at h
def aRY(P:Program)(f:Nat)(t:TypeId)(d:DataW Unit)(n:Nat):Option IZ:=
 match P.underlying t,d with
 |some (.interface _),.iface _ _=>some ([.mp n],[],n+1)
 |_,_=>aCS P f t d n
def layVars(P:Program)(G:Nat):List (String × DataW Unit)->Nat->Option (List (Nat × List AV) × Nat)
 |[],n=>some ([],n)
 |x::r,n=>(P.globalNamed x.1).bind fun g=>if g<G then((P.globals[g]?).map (·.type)).bind fun t=>(aRY P 50 t x.2 n).bind fun a=>(layVars P G r a.2.2).map fun b=>((g,a.1)::(a.2.1++b.1),b.2)else none
def Env.FQ(ρ:Env)(n:Nat)(u:TypeId)(v:Value):Env:=⟨ρ.blk,ρ.off,fun b=>if b=n then⟨0,u,v⟩else ρ.cp b⟩
section
variable[Gh]{w:World}{P:Program}
theorem aCQ(hG: ∀n,¬Gh.bad n){f:Nat}{t:TypeId}{d:DataW Unit}{n:Nat}{r:IZ}(h:aRY P f t d n=some r){cs:List Value}(hr:Reads P w t d cs):qN w n r cs:=by
 unfold aRY at h
 split at h
 . rename_i ms a b ht
   obtain⟨fuel,p,hr⟩:=hr;rcases aBL ht hr with⟨_,hx⟩|⟨u,v,name,y,m,_,rfl,_,_,hx⟩
   . cases hx
   cases h
   intro ρ;refine⟨ρ.FQ n u v,fun b hb=>?_,aTc n,?_,⟨⟨aMe n,hG n⟩,trivial⟩,fun q hq=>by cases hq⟩
   . have:b≠n:=by omega
     simp[Env.FQ,this]
   simp[den,Env.FQ]
 exact aCR hG f t _ n r h cs hr
def UK(w:World)(ρ:Env)(n:Nat)(q:Nat × List AV):Prop:=
 q.1<n/\iT n q.2/\(∃x,w.heap[ρ.blk q.1]? =some x)/\ ∀i x,q.2[i]? =some x->w.cell? ⟨ρ.blk q.1,ρ.off q.1+i,none⟩=some (den ρ x)
theorem UK.ext{ρ ρ':Env}{n m:Nat}{q:Nat × List AV}(h:UK w ρ n q)(he:Ext n ρ ρ')(hm:n<=m):UK w ρ' m q:=by
 obtain⟨h1,h2,h3,h4⟩:=h;have hb:=he q.1 h1;refine⟨aGA h1 hm,iT.mono hm _ h2,by rw[hb.1];exact h3,fun i x hx=>?_⟩;rw[hb.1,hb.2.1,h4 i x hx,uQ he x ((bI _ _).1 h2 x (aQj hx))]
theorem QI (hG: ∀n,¬Gh.bad n) {G:Nat}: ∀(L:List (String × DataW Unit)) (ps:List MemPlace) (n:Nat) (r:List (Nat × List AV) × Nat),DataW.LaidVars P w L ps->layVars P G L n=some r->G<=n->
 ∀ ρ:Env,(∀g,g<G->ρ.blk g=g/\ρ.off g=0)-> ∃ ρ',Ext n ρ ρ'/\n<=r.2/\ ∀q ∈ r.1,UK w ρ' r.2 q:=by
 intro L
 induction L with
 |nil=>intro ps n r _ h _ ρ _;cases h;exact⟨ρ,Ext.refl _ _,aEc _,fun q hq=>by cases hq⟩
 | cons x L ih=>
  intro ps n r hl h hn ρ hρ;obtain⟨nm,d⟩:=x;obtain⟨g,t,cs,fuel,p,q,h1,h2,h3,h4,h5,_⟩:=hl;simp only[layVars,aTv]at h;obtain⟨g',k1,k2⟩:=h;rw[h1]at k1;cases k1
  by_cases hg:g<G
  . rw [aDk hg]at k2;simp only[aTv]at k2;obtain⟨t',k3,k4⟩:=k2;rw[h2]at k3;cases k3;obtain⟨a,k5,k6⟩:=k4;obtain⟨b,k7,rfl⟩:=aL3.1 k6;obtain⟨ρ1,e1,j1⟩:=aCQ hG k5 ⟨fuel,p,h4⟩ ρ;have WB: ∀g,g<G->ρ1.blk g=g/\ρ1.off g=0:=fun g hg=>by
     have:=e1 g (by omega);rw[this.1,this.2.1];exact hρ g hg
    obtain⟨ρ2,e2,j2,j3⟩:=ih q a.2.2 b h5 k7 (aHU hn j1.le) ρ1 WB;refine⟨ρ2,e1.trans e2 j1.le,aHU j1.le j2,fun y hy=>?_⟩;rcases aHC.1 hy with rfl|hy
    . have hc:UK w ρ1 a.2.2 (g,a.1):=by
       have hw: ∃ty fr,w.heap[g]? =some (.cells cs ty fr):=by
        unfold World.var? at h3;rw[h1]at h3;simp only[aXU]at h3
        split at h3
        . rename_i c ty fr hx;cases h3;exact⟨ty,fr,hx⟩
        cases h3
       obtain⟨ty,fr,hw⟩:=hw;refine⟨aGA (by omega) j1.le,j1.sc,by rw[(WB g hg).1];exact⟨_,hw⟩,fun i z hz=>?_⟩;rw[(WB g hg).1,(WB g hg).2,aKP];have:=aTd (·[i]?) j1.cells;simp only[aHG,hz,aWv]at this;simp only[World.cell?,hw,Option.isSome_none,aMB,aSC];rw[<-this,aGC]
      exact hc.ext e2 j2
    rcases aL6.1 hy with hy|hy
    . obtain⟨i1,i2,i3,i4,i5⟩:=j1.blks y hy;exact UK.ext ⟨i2,i3,i4,i5⟩ e2 j2
    exact j3 y hy
  rw[aBx hg]at k2;cases k2
end
end Ev
end
section
open Go.RowKit
namespace Ev
@[instance_reducible] def G0:Gh:=⟨fun _=>False⟩
noncomputable def ET(bs:List (Nat × List AV)):Tr HO:=bs.foldr (fun q t=>t.set q.1 (.ro q.2)) .nil
theorem aCZ{bs:List (Nat × List AV)}{b:Nat}{o:HO}(h:(ET bs).get b=some o): ∃q ∈ bs,q.1=b/\o=.ro q.2:=by
 induction bs with
 |nil=>exact absurd (show(Tr.nil:Tr HO).get b=some o from h) (by rw[Tr.get_nil];intro h;cases h)
 |cons q bs ih=>
  have h:((ET bs).set q.1 (.ro q.2)).get b=some o:=h
  by_cases e:q.1=b
  . subst e;rw[Tr.xQ]at h;cases h;exact⟨q,aHB,rfl,rfl⟩
  rw[Tr.dV _ _ e]at h;obtain⟨r,h1,h2⟩:=ih h;exact⟨r,aHJ _ h1,h2⟩
def O9(G:Nat)(w0:World)(fs:List (Nat × List Value)):Prop:=
 ∀q ∈ fs,q.1<G/\(∃x,w0.heap[q.1]? =some x)/\ ∀(i:Nat) (v:Value),q.2[i]? =some v->w0.cell? ⟨q.1,i,none⟩=some v
noncomputable def fixed(fs:List (Nat × List Value)):List (Nat × List AV):=fs.map fun q=>(q.1,q.2.map AV.v)
theorem aBP(lv:Nat->Cp){P:Program}{L:List (String × DataW Unit)}{G n:Nat}{bs:List (Nat × List AV)}{w0 w:World}(hl:laidMet P L w0){fs:List (Nat × List Value)}(hf:O9 G w0 fs)(hw:Below w0.heap.size w0 w)(h:layVars P G L G=some (bs,n)):
 ∃ ρ,@aQ G0 w0 ρ ⟨⟨G,lv⟩,n,n,[]⟩ ⟨ET (bs++fixed fs),n⟩ w:=by
 obtain⟨ps,h1,_⟩:=hl;obtain⟨ρ,e1,e2,e3⟩:=@QI G0 w0 P (fun _ h=>h) G L ps G (bs,n) h1 h (aEc _) ⟨fun b=>b,fun _=>0,lv⟩ (fun g _=>⟨rfl,rfl⟩);have e3: ∀q ∈ bs++fixed fs,q.1<n/\@iT G0 n q.2/\(∃x,w0.heap[ρ.blk q.1]? =some x)/\ ∀i x,q.2[i]? =some x->w0.cell? ⟨ρ.blk q.1,ρ.off q.1+i,none⟩=some (den ρ x):=by
  intro q hq;rcases aL6.1 hq with hq|hq
  . exact e3 q hq
  obtain⟨r,hr,rfl⟩:=aPo.1 hq;obtain⟨k1,k2,k3⟩:=hf r hr;have hb:=e1 r.1 k1;refine⟨aGA k1 e2,?_,by rw[hb.1];exact k2,fun i x hx=>?_⟩
  . rw[@bI G0];intro x hx;obtain⟨v,_,rfl⟩:=aPo.1 hx;trivial
  rw[aHG]at hx;obtain⟨v,hv,rfl⟩:=aL3.1 hx;rw[hb.1,hb.2.1,aKP];exact k3 i v hv
 have key: ∀b o,(Hs.mk (ET (bs++fixed fs)) n).look [] b=some o->b<n/\@HO.Holds G0 ρ n b w o/\@HO.Holds G0 ρ n b w0 o:=by
  intro b o hb;obtain⟨q,h2,rfl,rfl⟩:=aCZ (Hs.dR.1 hb).2;obtain⟨k1,k2,k3,k4⟩:=e3 q h2;refine⟨k1,⟨?_,fun i x hx=>aTh hw (k4 i x hx),k2⟩,k3,k4,k2⟩;obtain⟨x,hx⟩:=k3;have hlt:ρ.blk q.1<w0.heap.size:=by
   rcases aMh (ρ.blk q.1) w0.heap.size with h|h
   . exact h
   rw[aKi h]at hx;cases hx
  have:=aGA hlt hw.size;exact⟨_,aMl this⟩
 refine⟨ρ,@aQ.mk G0 _ _ _ _ _ (fun g hg=>?_) (fun _ _ h=>h) (fun _ _ h=>h) e2 (aEc _) (aEc _) (fun _ _=>rfl) hw (fun b o hb=>(key b o hb).1) (fun b o hb=>(key b o hb).2.1) ?_ ?_ ?_⟩
 . exact e1 g hg
 . intro b o hb hl;have:=(key b o hb).1;exact absurd hl (Nat.not_le.2 this)
 . intro b o hb _;exact @HO.Holds.lt G0 _ _ _ _ _ (key b o hb).2.2
 intro b b' o o' hb _ hl;have:=(key b o hb).1;exact absurd hl (Nat.not_le.2 this)
theorem QJ{P:Program}{l:List (String × DataW Unit)}{w:World}(h:laidMetH P l w):laidMet P (l.filter fun x=>x.2.handleName?.isNone) w:=by
 unfold laidMetH at h;generalize hfl:(l.filter fun x=>x.2.handleName?.isSome)=fl at h
 cases fl with
 | nil=>
  have e:(l.filter fun x=>x.2.handleName?.isNone)=l:=by
   rw[List.filter_eq_self];intro x hx;have:=(List.filter_eq_nil_iff.1 hfl) x hx
   cases hn:x.2.handleName? with
   |none=>rfl
   |some s=>rw[hn]at this;exact absurd rfl this
  rw[e];exact h
 |cons a a2p=>exact h.1
end Ev
end
section
open Go.RowKit
namespace Ev
noncomputable def aOi(a b:List UInt8):Bool:=
 List.rec (motive:=fun _=>List UInt8->Bool) (fun l=>List.rec (motive:=fun _=>Bool) true (fun _ _ _=>false) l) (fun x _ ih l=>List.rec (motive:=fun _=>Bool) false (fun y t _=>band (Nat.beq x.toNat y.toNat) (ih t)) l) a b
theorem aOh: ∀ {a b:List UInt8},aOi a b=true->a=b:=by
 intro a
 induction a with
 |nil=>intro b h;cases b with
  |nil=>rfl
  |cons y t=>cases h
 | cons x a ih=>
  intro b h
  cases b with
  |nil=>cases h
  | cons y t=>
   have h:band (Nat.beq x.toNat y.toNat) (aOi a t)=true:=h;have h1:Nat.beq x.toNat y.toNat=true/\aOi a t=true:=by
    cases hx:Nat.beq x.toNat y.toNat with
    |true=>rw[hx]at h;exact⟨rfl,h⟩
    |false=>rw[hx]at h;cases h
   rw[ih h1.2,aX6.1 (aGo h1.1)]
noncomputable def aEr(a b:Value):Bool:=
 match a,b with
 | .int k x,.int k' y=>band (kEq k k') (ieq x y)
 | .bool x,.bool y=>aBk x y
 | .string x,.string y=>aOi x.data.toList y.data.toList
 | .float .f64 x,.float .f64 y=>Nat.beq x y
 | .slice none n m,.slice none n' m'=>band (Nat.beq n n') (Nat.beq m m')
 |_,_=>false
theorem aNT{a b:IntKind}(h:kEq a b=true):a=b:=by
 cases a<;>cases b<;>first|rfl|cases h
theorem aNZ{a b:Int}(h:ieq a b=true):a=b:=by
 cases a<;>cases b
 . exact aTd Int.ofNat (aGo h)
 . cases h
 . cases h
 exact aTd Int.negSucc (aGo (h:Nat.beq _ _=true)).symm
theorem aKO{a b:Value}(h:aEr a b=true):a=b:=by
 unfold aEr at h
 split at h
 . obtain⟨h1,h2⟩:=aJ h;rw[aNT h1,aNZ h2]
 . rename_i x y
   cases x<;>cases y<;>first|rfl|cases h
 . exact aTd Value.string (ByteArray.ext (Array.toList_inj.1 (aOh h)))
 . rw[aGo h]
 . obtain⟨h1,h2⟩:=aJ h;rw[aGo h1,aGo h2]
 cases h
end Ev
end




section
open Go.RowKit
namespace Ev
theorem O9.nil{G:Nat}{w0:World}:O9 G w0 []:=fun q hq=>by cases hq
end Ev
end
section
open Go.RowKit
namespace Ev
noncomputable def fnE(f:Fn):Fn->Bool:=
 Fn.rec (motive:=fun _=>Fn->Bool)
  (fun a g=>Fn.rec (motive:=fun _=>Bool) (fun b=>Nat.beq a b) (fun _=>false) (fun _ _=>false) (fun _ _ _ _=>false) (fun _=>false) g) (fun _ _=>false)
  (fun t m g=>Fn.rec (motive:=fun _=>Bool) (fun _=>false) (fun _=>false) (fun t' m'=>band (Nat.beq t t') (m==m')) (fun _ _ _ _=>false) (fun _=>false) g)
  (fun _ _ _ _ _=>false) (fun _ _=>false) f
theorem aSj{f g:Fn}(h:fnE f g=true):f=g:=by
 cases f<;>cases g<;>first|(cases h;done)|skip
 . rw[aGo (show Nat.beq _ _=true from h)]
 obtain⟨h1,h2⟩:=aJ (show band (Nat.beq _ _) (_==_)=true from h);rw[aGo h1,aGw.1 h2]
def f1{α:Type}(_:α):Bool:=false
def f2{α β:Type}(_:α)(_:β):Bool:=false
def f3{α β γ:Type}(_:α)(_:β)(_:γ):Bool:=false
def f4{α β γ δ:Type}(_:α)(_:β)(_:γ)(_:δ):Bool:=false
noncomputable def eqV(v:Value)(y:AV):Bool:=AV.el (fun u=>aEr v u) f2 f4 f4 f3 f2 f1 f1 f1 y
noncomputable def eqP(b o:Nat)(y:AV):Bool:=AV.el f1 (fun b' o'=>band (Nat.beq b b') (Nat.beq o o')) f4 f4 f3 f2 f1 f1 f1 y
noncomputable def aVl(b o n c:Nat)(y:AV):Bool:=AV.el f1 f2 (fun b' o' n' c'=>band (Nat.beq b b') (band (Nat.beq o o') (band (Nat.beq n n') (Nat.beq c c')))) f4 f3 f2 f1 f1 f1 y
noncomputable def aVm(b o n c:Nat)(y:AV):Bool:=AV.el f1 f2 f4 (fun b' o' n' c'=>band (Nat.beq b b') (band (Nat.beq o o') (band (Nat.beq n n') (Nat.beq c c')))) f3 f2 f1 f1 f1 y
noncomputable def eqFn(f:Fn)(_ _:List AV)(iha ihc:List AV->Bool)(y:AV):Bool:=AV.el f1 f2 f4 f4 (fun f' a' c'=>band (iha a') (band (ihc c') (fnE f f'))) f2 f1 f1 f1 y
noncomputable def eqI(t:TypeId)(_:AV)(ih:AV->Bool)(y:AV):Bool:=AV.el f1 f2 f4 f4 f3 (fun t' x'=>band (Nat.beq t t') (ih x')) f1 f1 f1 y
noncomputable def aVn(_:List AV)(ih:List AV->Bool)(y:AV):Bool:=AV.el f1 f2 f4 f4 f3 f2 ih f1 f1 y
noncomputable def aVk(_:List AV)(ih:List AV->Bool)(y:AV):Bool:=AV.el f1 f2 f4 f4 f3 f2 f1 ih f1 y
noncomputable def eqMp(b:Nat)(y:AV):Bool:=AV.el f1 f2 f4 f4 f3 f2 f1 f1 (fun b'=>Nat.beq b b') y
noncomputable def eqN(m:List AV):Bool:=isNil m
noncomputable def eqC(_:AV)(_:List AV)(ihx:AV->Bool)(ihl:List AV->Bool)(m:List AV):Bool:=List.rec (motive:=fun _=>Bool) false (fun y m _=>band (ihx y) (ihl m)) m
noncomputable def eqS(x:AV):AV->Bool:=AV.rec (motive_1:=fun _=>AV->Bool) (motive_2:=fun _=>List AV->Bool) eqV eqP aVl aVm eqFn eqI aVn aVk eqMp eqN eqC x
noncomputable def WW(l:List AV):List AV->Bool:=AV.rec_1 (motive_1:=fun _=>AV->Bool) (motive_2:=fun _=>List AV->Bool) eqV eqP aVl aVm eqFn eqI aVn aVk eqMp eqN eqC l
mutual
theorem wX:(x y:AV)->eqS x y=true->x=y
 | .v a,y,h=>by cases y<;>first|(cases h;done)|(rw[aKO (show aEr _ _=true from h)])
 | .ptr b o,y,h=>by
  cases y<;>first|(cases h;done)|skip
  obtain⟨h1,h2⟩:=aJ (show band (Nat.beq _ _) (Nat.beq _ _)=true from h);rw[aGo h1,aGo h2]
 | .sl b o n c,y,h=>by
  cases y<;>first|(cases h;done)|skip
  obtain⟨h1,h2⟩:=aJ (show band (Nat.beq _ _) (band (Nat.beq _ _) (band (Nat.beq _ _) (Nat.beq _ _)))=true from h);obtain⟨h3,h4⟩:=aJ h2;obtain⟨h5,h6⟩:=aJ h4;rw[aGo h1,aGo h3,aGo h5,aGo h6]
 | .KO b o n c,y,h=>by
  cases y<;>first|(cases h;done)|skip
  obtain⟨h1,h2⟩:=aJ (show band (Nat.beq _ _) (band (Nat.beq _ _) (band (Nat.beq _ _) (Nat.beq _ _)))=true from h);obtain⟨h3,h4⟩:=aJ h2;obtain⟨h5,h6⟩:=aJ h4;rw[aGo h1,aGo h3,aGo h5,aGo h6]
 | .fn f a c,y,h=>by
  cases y<;>first|(cases h;done)|skip
  obtain⟨h1,h2⟩:=aJ (show band (WW a _) (band (WW c _) (fnE f _))=true from h);obtain⟨h3,h4⟩:=aJ h2;rw[uO a _ h1,uO c _ h3,aSj h4]
 | .yM t x,y,h=>by
  cases y<;>first|(cases h;done)|skip
  obtain⟨h1,h2⟩:=aJ (show band (Nat.beq _ _) (eqS x _)=true from h);rw[aGo h1,wX x _ h2]
 | .agg l,y,h=>by
  cases y<;>first|(cases h;done)|skip
  rw[uO l _ h]
 | .aK l,y,h=>by
  cases y<;>first|(cases h;done)|skip
  rw[uO l _ h]
 | .mp b,y,h=>by
  cases y<;>first|(cases h;done)|skip
  rw[aGo (show Nat.beq _ _=true from h)]
theorem uO:(l m:List AV)->WW l m=true->l=m
 |[],m,h=>by cases m;rfl;cases h
 | x::l,m,h=>by
  cases m with
  |nil=>cases h
  |cons y m=>
   obtain⟨h1,h2⟩:=aJ (show band (eqS x y) (WW l m)=true from h);rw[wX x y h1,uO l m h2]
end
mutual
def dS(l:Value):AV->Value
 | .v x=>x
 | .fn f a c=>vF f (dSL l a) (dSL l c)
 | .yM t x=>.iface t (dS l x)
 | .agg m=>.agg (dSL l m).toArray
 | .aK m=>.tuple (dSL l m).toArray
 | .mp _=>.iface 0 l
 |_=>.bool false
def dSL(l:Value):List AV->List Value
 |[]=>[]
 |x::m=>dS l x::dSL l m
end
theorem XH(l:Value)(m:List AV):dSL l m=m.map (dS l):=by
 induction m with
 |nil=>rfl
 |cons x m ih=>simp only[dSL,ih,aSc]
noncomputable def kR(g:Nat)(x:AV):Bool:=
 AV.rec (motive_1:=fun _=>Bool) (motive_2:=fun _=>Bool) (fun _=>true) (fun _ _=>false) (fun _ _ _ _=>false) (fun _ _ _ _=>false) (fun _ _ _ a b=>band a b) (fun _ _ x=>x) (fun _ l=>l) (fun _ l=>l) (fun b=>Nat.beq b g) true (fun _ _ x l=>band x l) x
noncomputable def iW(g:Nat)(l:List AV):Bool:=
 AV.rec_1 (motive_1:=fun _=>Bool) (motive_2:=fun _=>Bool) (fun _=>true) (fun _ _=>false) (fun _ _ _ _=>false) (fun _ _ _ _=>false) (fun _ _ _ a b=>band a b) (fun _ _ x=>x) (fun _ l=>l) (fun _ l=>l) (fun b=>Nat.beq b g) true (fun _ _ x l=>band x l) l
mutual
theorem lT{g:Nat}{ρ:Env}{l:Value}(hρ:ρ.cp g=⟨0,0,l⟩):(x:AV)->kR g x=true->den ρ x=dS l x
 | .v _,_=>rfl
 | .ptr _ _,h=>by cases h
 | .sl _ _ _ _,h=>by cases h
 | .KO _ _ _ _,h=>by cases h
 | .fn f a c,h=>by
  obtain⟨h1,h2⟩:=aJ (show band (iW g a) (iW g c)=true from h);simp only[den,dS,lU hρ a h1,lU hρ c h2]
 | .yM t x,h=>by simp only[den,dS,lT hρ x h]
 | .agg m,h=>by simp only[den,dS,lU hρ m h]
 | .aK m,h=>by simp only[den,dS,lU hρ m h]
 | .mp b,h=>by
  obtain rfl:=aGo (show Nat.beq b g=true from h);simp only[den,dS,hρ]
theorem lU{g:Nat}{ρ:Env}{l:Value}(hρ:ρ.cp g=⟨0,0,l⟩):(m:List AV)->iW g m=true->jK ρ m=dSL l m
 |[],_=>rfl
 |x::m,h=>by
  obtain⟨h1,h2⟩:=aJ (show band (kR g x) (iW g m)=true from h);simp only[jK,dSL,lT hρ x h1,lU hρ m h2]
end
mutual
theorem UY[Gh]{g n:Nat}(hg:Gd n g):(x:AV)->kR g x=true->Sc n x
 | .v _,_=>trivial
 | .ptr _ _,h=>by cases h
 | .sl _ _ _ _,h=>by cases h
 | .KO _ _ _ _,h=>by cases h
 | .fn f a c,h=>by
  obtain⟨h1,h2⟩:=aJ (show band (iW g a) (iW g c)=true from h);exact⟨tJ hg a h1,tJ hg c h2⟩
 | .yM t x,h=>UY hg x h
 | .agg m,h=>tJ hg m h
 | .aK m,h=>tJ hg m h
 | .mp b,h=>by
  obtain rfl:=aGo (show Nat.beq b g=true from h);exact hg
theorem tJ[Gh]{g n:Nat}(hg:Gd n g):(m:List AV)->iW g m=true->iT n m
 |[],_=>trivial
 |x::m,h=>by
  obtain⟨h1,h2⟩:=aJ (show band (kR g x) (iW g m)=true from h);exact⟨UY hg x h1,tJ hg m h2⟩
end
abbrev Fct:=Nat × AV × AV × Bool
noncomputable def aSq(fs:List Fct)(c:Nat)(x y:AV):Option Bool:=
 List.rec (motive:=fun _=>Option Bool) none (fun e _ ih=>Bool.rec (motive:=fun _=>Option Bool) ih (some e.2.2.2) (band (Nat.beq e.1 c) (band (eqS e.2.1 x) (eqS e.2.2.1 y)))) fs
theorem aKJ{c:Nat}{x y:AV}{b:Bool}: ∀ {fs:List Fct},aSq fs c x y=some b->(c,x,y,b) ∈ fs:=by
 intro fs
 induction fs with
 |nil=>intro h;cases h
 | cons e fs ih=>
  intro h;have h:Bool.rec (motive:=fun _=>Option Bool) (aSq fs c x y) (some e.2.2.2) (band (Nat.beq e.1 c) (band (eqS e.2.1 x) (eqS e.2.2.1 y)))=some b:=h
  cases hb:band (Nat.beq e.1 c) (band (eqS e.2.1 x) (eqS e.2.2.1 y))with
  |false=>rw[hb]at h;exact aHJ _ (ih h)
  |true=>
   rw[hb]at h;obtain⟨h1,h2⟩:=aJ hb;obtain⟨h3,h4⟩:=aJ h2;have h:e.2.2.2=b:=aPk h;have:(c,x,y,b)=e:=by rw[<-aGo h1,<-wX _ _ h3,<-wX _ _ h4,<-h]
   rw[this];exact aHB
abbrev vH:=FuncId × List AV × AV
noncomputable def aQ5(os:List vH)(f:FuncId)(xs:List AV):Option AV:=
 List.rec (motive:=fun _=>Option AV) none (fun e _ ih=>Bool.rec (motive:=fun _=>Option AV) ih (some e.2.2) (band (Nat.beq e.1 f) (WW e.2.1 xs))) os
theorem aIA{f:FuncId}{xs:List AV}{v:AV}: ∀ {os:List vH},aQ5 os f xs=some v->(f,xs,v) ∈ os:=by
 intro os
 induction os with
 |nil=>intro h;cases h
 | cons e os ih=>
  intro h;have h:Bool.rec (motive:=fun _=>Option AV) (aQ5 os f xs) (some e.2.2) (band (Nat.beq e.1 f) (WW e.2.1 xs))=some v:=h
  cases hb:band (Nat.beq e.1 f) (WW e.2.1 xs)with
  |false=>rw[hb]at h;exact aHJ _ (ih h)
  |true=>
   rw[hb]at h;obtain⟨h1,h2⟩:=aJ hb;have h:e.2.2=v:=aPk h;have:(f,xs,v)=e:=by rw[<-aGo h1,<-uO _ _ h2,<-h]
   rw[this];exact aHB
abbrev DW:=TypeId × AV × AV × AV
noncomputable def aQ9(ps:List DW)(t:TypeId)(x y:AV):Option AV:=
 List.rec (motive:=fun _=>Option AV) none (fun e _ ih=>Bool.rec (motive:=fun _=>Option AV) ih (some e.2.2.2) (band (Nat.beq e.1 t) (band (eqS e.2.1 x) (eqS e.2.2.1 y)))) ps
theorem aIJ{t:TypeId}{x y z:AV}: ∀ {ps:List DW},aQ9 ps t x y=some z->(t,x,y,z) ∈ ps:=by
 intro ps
 induction ps with
 |nil=>intro h;cases h
 | cons e ps ih=>
  intro h;have h:Bool.rec (motive:=fun _=>Option AV) (aQ9 ps t x y) (some e.2.2.2) (band (Nat.beq e.1 t) (band (eqS e.2.1 x) (eqS e.2.2.1 y)))=some z:=h
  cases hb:band (Nat.beq e.1 t) (band (eqS e.2.1 x) (eqS e.2.2.1 y))with
  |false=>rw[hb]at h;exact aHJ _ (ih h)
  |true=>
   rw[hb]at h;obtain⟨h1,h2⟩:=aJ hb;obtain⟨h3,h4⟩:=aJ h2;have h:e.2.2.2=z:=aPk h;have:(t,x,y,z)=e:=by rw[<-aGo h1,<-wX _ _ h3,<-wX _ _ h4,<-h]
   rw[this];exact aHB
noncomputable def tbL(B:Tab)(l:Value)(fs:List Fct)(ps:List DW)(os:List vH):Tab:=
 ⟨B.p,⟨B.g.n,fun _=>⟨0,0,l⟩⟩,B.l,B.ty,B.fn,aQ5 os,B.idn,B.mnz,B.met,aSq fs,aQ9 ps⟩
def aMb(g:Nat)(l:Value)(e:Fct):Prop:=kR g e.2.1=true/\kR g e.2.2.1=true/\nG e.1 (dS l e.2.1) (dS l e.2.2.1)=e.2.2.2
def O5(P:Program)(l:Value)(e:DW):Prop:= ∀b,dS l e.2.2.2=.bool b-> ∀ox oy w,
 (do eqGuard .eql e.1 ox oy (dS l e.2.1) (dS l e.2.2.1);binOp .eql e.1 (dS l e.2.1) (dS l e.2.2.1)).run P w=.ok (.bool b) w/\
 (do eqGuard .neq e.1 ox oy (dS l e.2.1) (dS l e.2.2.1);binOp .neq e.1 (dS l e.2.1) (dS l e.2.2.1)).run P w=.ok (.bool (!b)) w
noncomputable def aFB(g:Nat)(e:DW):Bool:=band (kR g e.2.1) (band (kR g e.2.2.1) (kR g e.2.2.2))
def AU(P:Program)(w0:World)(l:Value)(e:vH):Prop:= ∀w,Below w0.heap.size w0 w->
 Calls P e.1 (e.2.1.map (dS l)).toArray w fun r w'=>r=.returned (dS l e.2.2)/\Below w.heap.size w w'
noncomputable def P8(B:Tab)(g:Nat)(e:vH):Bool:=band (iW g e.2.1) (band (kR g e.2.2) (Option.rec (motive:=fun _=>Bool) false (fun _=>true) (B.fn.get e.1)))
theorem aH5{B:Tab}{w0:World}{l:Value}{fs:List Fct}{ps:List DW}{os:List vH}{g:Nat}(hB:iQ B w0)(hg:Nat.ble (g+1) B.g.n=true)
 (hf: ∀e ∈ fs,aMb g l e) (hp: ∀e ∈ ps,aFB g e=true/\O5 B.p l e) (ho: ∀e ∈ os,P8 B g e=true/\AU B.p w0 l e):iQ (tbL B l fs ps os) w0 where
 ty:=hB.ty
 fn:=hB.fn
 orc:=fun f xs v h=>by
  obtain⟨h1,h2⟩:=ho _ (aIA h);obtain⟨h3,h4⟩:=aJ h1;obtain⟨h5,h6⟩:=aJ h4;have hg':g<B.g.n:=by have:=aKf hg;omega
  refine⟨fun _ n hn=>UY (hn g hg') v h5,?_,fun ρ w hρ hw=>?_⟩
  . cases hfn:B.fn.get f with
    |none=>rw[show B.fn.get (f,xs,v).1=none from hfn]at h6;cases h6
    |some fn=>exact(hB.fn f fn hfn).2
  have NK:ρ.cp g=⟨0,0,l⟩:=hρ g hg';have:=h2 w hw;rw[<-dM,lU NK xs h3,XH,lT NK v h5];exact this
 AY:={
  AY:=fun c x y b h ρ hρ=>by
   have hg':g<B.g.n:=by have:=aKf hg;omega
   have NK:ρ.cp g=⟨0,0,l⟩:=hρ g hg';obtain⟨h1,h2,h3⟩:=hf _ (aKJ h);rw[lT NK x h1,lT NK y h2];exact h3
  oop:=fun t x y z h ρ hρ b hz ox oy w=>by
   have hg':g<B.g.n:=by have:=aKf hg;omega
   have NK:ρ.cp g=⟨0,0,l⟩:=hρ g hg';obtain⟨h1,h2⟩:=hp _ (aIJ h);obtain⟨h3,h4⟩:=aJ h1;obtain⟨h5,h6⟩:=aJ h4;rw[lT NK z h6]at hz;rw[lT NK x h3,lT NK y h5];exact h2 b hz ox oy w }
 mixed:=hB.mixed
 idn:=hB.idn
 mnz:=hB.mnz
 met:=hB.met
inductive DT where
 |leaf (v:AV)
 |no
 |node (c:Nat) (x y:AV) (t f:DT)
def DT.den(l:Value):DT->Value
 | .leaf v=>dS l v
 | .no=>.bool false
 | .node c x y t f=>cond (nG c (dS l x) (dS l y)) (t.den l) (f.den l)
def DT.live(l:Value):DT->Prop
 | .leaf _=>True
 | .no=>False
 | .node c x y t f=>(nG c (dS l x) (dS l y)=true->t.live l)/\(nG c (dS l x) (dS l y)=false->f.live l)
noncomputable def aIl(g:Nat)(v:AV)(x:Option (AV × Hs)):Bool:=Option.rec (motive:=fun _=>Bool) false (fun p=>band (eqS p.1 v) (kR g v)) x
noncomputable def DT.ok(B:Tab)(l:Value)(ps:List DW)(os:List vH)(h0:Tr HO)(d g:Nat)(f:FuncId)(xs:List AV)(T:DT):List Fct->Bool:=
 DT.rec (motive:=fun _=>List Fct->Bool) (fun v fs=>aIl g v (zA (tbL B l fs ps os) d B.l [] f xs ⟨h0,B.l⟩)) (fun _=>true)
  (fun c x y _ _ iht ihf fs=>band (band (kR g x) (kR g y)) (band (iht ((c,x,y,true)::fs)) (ihf ((c,x,y,false)::fs)))) T
def bM(n l:Nat)(w0:World)(h0:Tr HO):Prop:= ∀lv w,Below w0.heap.size w0 w-> ∃ ρ,@aQ G0 w0 ρ ⟨⟨n,lv⟩,l,l,[]⟩ ⟨h0,l⟩ w
theorem aKQ{B:Tab}{w0 w:World}{l:Value}{ps:List DW}{os:List vH}{g d:Nat}{h0:Tr HO}{f:FuncId}{xs:List AV}(hB:iQ B w0)(hst:bM B.g.n B.l w0 h0)(hg:Nat.ble (g+1) B.g.n=true)
 (hp: ∀e ∈ ps,aFB g e=true/\O5 B.p l e) (ho: ∀e ∈ os,P8 B g e=true/\AU B.p w0 l e) (hx:iW g xs=true) (hy:Nat.ble yF f=false) (hw:Below w0.heap.size w0 w) (T:DT):
 ∀fs,(∀e ∈ fs,aMb g l e)->T.ok B l ps os h0 d g f xs fs=true->T.live l->Calls B.p f (xs.map (dS l)).toArray w fun e w'=>e=.returned (T.den l)/\Below w.heap.size w w':=by
 induction T with
 | leaf v=>
  intro fs hf h _;have h:aIl g v (zA (tbL B l fs ps os) d B.l [] f xs ⟨h0,B.l⟩)=true:=h
  cases hr:zA (tbL B l fs ps os) d B.l [] f xs ⟨h0,B.l⟩with
  |none=>rw[hr]at h;cases h
  |some p=>
   rw[hr]at h;obtain⟨h1,h2⟩:=aJ (show band (eqS p.1 v) (kR g v)=true from h);have h1:=wX _ _ h1;obtain⟨v',s'⟩:=p;have h1:v'=v:=h1;subst h1;obtain⟨ρ,hs⟩:=hst (fun _=>⟨0,0,l⟩) w hw;have hg':g<B.g.n:=by have:=aKf hg;omega
   have hρ:ρ.cp g=⟨0,0,l⟩:=(@aQ.gl G0 _ _ _ _ _ hs g hg').2.2;have hgd:@Gd G0 B.l g:=⟨aGA hg' (@aQ.gn G0 _ _ _ _ _ hs),fun h=>h⟩;have hT:=aH5 hB hg hf hp ho;have:=(aBb hT d G0 _ _ _ _ _ _ _ hr ρ w hs (@tJ G0 _ _ hgd xs hx)).1 hy;rw[<-dM,lU hρ xs hx,XH]at this;refine this.mono ?_;rintro e w' ⟨ρ',rfl,h3,_⟩;have fr:=@Stp.fr G0 _ _ _ _ _ _ _ _ h3;have NK:ρ'.cp g=⟨0,0,l⟩:=(@aQ.gl G0 _ _ _ _ _ (@Stp.sat G0 _ _ _ _ _ _ _ _ h3) g hg').2.2;exact⟨by rw[lT NK v' h2];rfl,fr.os,fr.tape,fr.output,fr.size,fun r hr=>fr.block r hr (fun b o h3 h4=>absurd h3 (Nat.not_le.2 (@aQ.lt G0 _ _ _ _ _ hs b o h4)))⟩
 |no=>intro fs _ _ h;cases h
 | node c x y t u iht ihu=>
  intro fs hf h hl;obtain⟨h1,h2⟩:=aJ (show band (band (kR g x) (kR g y)) (band (t.ok B l ps os h0 d g f xs ((c,x,y,true)::fs)) (u.ok B l ps os h0 d g f xs ((c,x,y,false)::fs)))=true from h);obtain⟨h3,h4⟩:=aJ h1;obtain⟨h5,h6⟩:=aJ h2;show Calls B.p f _ w fun e w'=>e=.returned (cond (nG c (dS l x) (dS l y)) (t.den l) (u.den l))/\_
  cases hb:nG c (dS l x) (dS l y)with
  | true=>
   exact iht _ (fun e he=>by
    rcases aHC.1 he with rfl|he
    . exact⟨h3,h4,hb⟩
    exact hf e he) h5 (hl.1 hb)
  | false=>
   exact ihu _ (fun e he=>by
    rcases aHC.1 he with rfl|he
    . exact⟨h3,h4,hb⟩
    exact hf e he) h6 (hl.2 hb)
theorem YN{B:Tab}{w0 w:World}{l:Value}{ps:List DW}{os:List vH}{g d:Nat}{h0:Tr HO}{f:FuncId}{xs:List AV}(T:DT)(hB:iQ B w0)(hst:bM B.g.n B.l w0 h0)(hg:Nat.ble (g+1) B.g.n=true)
 (hp: ∀e ∈ ps,aFB g e=true/\O5 B.p l e) (ho: ∀e ∈ os,P8 B g e=true/\AU B.p w0 l e) (hx:iW g xs=true) (hy:Nat.ble yF f=false) (hw:Below w0.heap.size w0 w)
 (h:T.ok B l ps os h0 d g f xs []=true) (hl:T.live l):Calls B.p f (xs.map (dS l)).toArray w fun e w'=>e=.returned (T.den l)/\Below w.heap.size w w':=
 aKQ hB hst hg hp ho hx hy hw T [] (fun e he=>by cases he) h hl
theorem aIc{P:Program}{L:List (String × DataW Unit)}{G n:Nat}{bs:List (Nat × List AV)}{w0:World}(hl:laidMet P L w0){fs:List (Nat × List Value)}(hf:O9 G w0 fs)(h:layVars P G L G=some (bs,n)){h0:Tr HO}(h0e:ET (bs++fixed fs)=h0):bM G n w0 h0:=fun lv w hw=>by
 obtain⟨ρ,hs⟩:=aBP lv hl hf hw h;rw[h0e]at hs;exact⟨ρ,hs⟩
def DT.all:DT->Bool
 | .leaf _=>true
 | .no=>false
 | .node _ _ _ t f=>t.all&&f.all
theorem aC{l:Value}: ∀ {T:DT},T.all=true->T.live l:=by
 intro T
 induction T with
 |leaf v=>intro _;trivial
 |no=>intro h;cases h
 |node c x y t f iht ihf=>
  intro h;rw[DT.all,aDY]at h;exact⟨fun _=>iht h.1,fun _=>ihf h.2⟩
theorem mD{P:Program}{l:Value}{e:DW}(hg1: ∀ox oy w,(eqGuard .eql e.1 ox oy (dS l e.2.1) (dS l e.2.2.1)).run P w=.ok () w)(hg2: ∀ox oy w,(eqGuard .neq e.1 ox oy (dS l e.2.1) (dS l e.2.2.1)).run P w=.ok () w)(Z:Bool)(hZ:dS l e.2.2.2=.bool Z)
 (h1: ∀w,(binOp .eql e.1 (dS l e.2.1) (dS l e.2.2.1)).run P w=.ok (.bool Z) w) (h2: ∀w,(binOp .neq e.1 (dS l e.2.1) (dS l e.2.2.1)).run P w=.ok (.bool (!Z)) w):O5 P l e:=by
 intro b hb ox oy w;rw[hZ]at hb
 cases hb
 exact⟨by rw[aEf,hg1];exact h1 w,by rw[aEf,hg2];exact h2 w⟩
def aEF(P:Program)(w0:World)(f:FuncId)(args:Array Value)(v:Value):Prop:= ∀w,Below w0.heap.size w0 w->Calls P f args w fun r w'=>r=.returned v/\Below w.heap.size w w'
def EqV(P:Program)(t:TypeId)(a b:Value)(z:Bool):Prop:=(∀w,(binOp .eql t a b).run P w=.ok (.bool z) w)/\(∀w,(binOp .neq t a b).run P w=.ok (.bool (!z)) w)
def GdV(P:Program)(t:TypeId)(a b:Value):Prop:= ∀ox oy w,(eqGuard .eql t ox oy a b).run P w=.ok () w/\(eqGuard .neq t ox oy a b).run P w=.ok () w
inductive OpS(P:Program):List (TypeId × Value × Value × Value)->Prop
 |nil:OpS P []
 |cons {t:TypeId} {a b:Value} {z:Bool} {es:List (TypeId × Value × Value × Value)} (h:EqV P t a b z) (g:GdV P t a b) (tl:OpS P es):OpS P ((t,a,b,.bool z)::es)
inductive OrS(P:Program)(w0:World):List (FuncId × Array Value × Value)->Prop
 |nil:OrS P w0 []
 |cons {f:FuncId} {args:Array Value} {v:Value} {es:List (FuncId × Array Value × Value)} (h:aEF P w0 f args v) (t:OrS P w0 es):OrS P w0 ((f,args,v)::es)
theorem OpS.all{P:Program}{L:List (TypeId × Value × Value × Value)}(h:OpS P L): ∀x ∈ L,∃z,x.2.2.2=.bool z/\EqV P x.1 x.2.1 x.2.2.1 z/\GdV P x.1 x.2.1 x.2.2.1:=by
 induction h with
 |nil=>intro e he;cases he
 |cons h g _ ih=>intro e he;exact(aHC.1 he).elim (fun q=>by subst q;exact⟨_,rfl,h,g⟩) (ih e)
theorem OrS.all{P:Program}{w0:World}{L:List (FuncId × Array Value × Value)}(h:OrS P w0 L): ∀x ∈ L,aEF P w0 x.1 x.2.1 x.2.2:=by
 induction h with
 |nil=>intro e he;cases he
 |cons h _ ih=>intro e he;exact(aHC.1 he).elim (fun q=>by subst q;exact h) (ih e)
noncomputable def seB(B:Tab)(ps:List DW)(os:List vH)(g:Nat)(f:FuncId)(xs:List AV):Bool:=band (Nat.ble (g+1) B.g.n) (band (ps.all (aFB g)) (band (os.all (P8 B g)) (band (iW g xs) (mV (Nat.ble yF f)))))
theorem aB{B:Tab}{w0:World}{l:Value}{ps:List DW}{os:List vH}{g d:Nat}{h0:Tr HO}{f:FuncId}{xs:List AV}{T:DT}{args:Array Value}{v:Value}{LP:List (TypeId × Value × Value × Value)}{LO:List (FuncId × Array Value × Value)}
 (h:T.ok B l ps os h0 d g f xs []=true) (hB:iQ B w0) (hst:bM B.g.n B.l w0 h0) (hp:OpS B.p LP) (ho:OrS B.p w0 LO) (hl:T.live l)
 (hc:(seB B ps os g f xs,ps.map (fun e=>(e.1,dS l e.2.1,dS l e.2.2.1,dS l e.2.2.2)),os.map (fun e=>(e.1,(e.2.1.map (dS l)).toArray,dS l e.2.2)),T.den l,(xs.map (dS l)).toArray)=(true,LP,LO,v,args)):aEF B.p w0 f args v:=by
 simp only[Prod.mk.injEq]at hc;obtain⟨hc,e3,e4,e1,e2⟩:=hc;obtain⟨c1,c⟩:=aJ hc;obtain⟨c2,c⟩:=aJ c;obtain⟨c3,c⟩:=aJ c;obtain⟨c4,c5⟩:=aJ c;subst e1 e2 e3 e4;refine fun w hw=>YN T hB hst c1 (fun e he=>⟨aL4.1 c2 e he,?_⟩) (fun e he=>⟨aL4.1 c3 e he,ho.all _ (aWw he)⟩) c4 (by cases hb:Nat.ble yF f with|false=>rfl|true=>rw[hb]at c5;cases c5) hw h hl;obtain⟨z,hz,q,g⟩:=hp.all _ (aWw he);exact mD (fun ox oy w=>(g ox oy w).1) (fun ox oy w=>(g ox oy w).2) z hz q.1 q.2
noncomputable def VY(B:Tab)(l:Value)(h0:Tr HO)(g d:Nat)(os:List vH)(e:vH):Bool:=
 band (band (P8 B g e) (mV (Nat.ble yF e.1))) (aIl g e.2.2 (zA (tbL B l [] [] os) d B.l [] e.1 e.2.1 ⟨h0,B.l⟩))
theorem wH{B:Tab}{w0:World}{l:Value}{g d:Nat}{h0:Tr HO}{os new:List vH}(hB:iQ B w0)(hst:bM B.g.n B.l w0 h0)(hg:Nat.ble (g+1) B.g.n=true)(ho: ∀e ∈ os,P8 B g e=true/\AU B.p w0 l e)
 (h:new.all (VY B l h0 g d os)=true): ∀e ∈ new++os,P8 B g e=true/\AU B.p w0 l e:=fun e he=>by
 rcases aL6.1 he with he|he
 . obtain⟨h1,h2⟩:=aJ (aL4.1 h e he);obtain⟨h3,h4⟩:=aJ h1;refine⟨h3,fun w hw=>?_⟩;exact YN (ps:=[]) (.leaf e.2.2) hB hst hg (fun e he=>by cases he) ho (aJ h3).1 (by cases hb:Nat.ble yF e.1 with|false=>rfl|true=>rw[hb]at h4;cases h4) hw h2 trivial
 exact ho e he
theorem eF{T:DT}{l:Value}{p:Prop}(e:T.live l=p)(h:p):T.live l:=e ▸ h
def ltr(g:Nat)(p:Value)(i:Nat):AV:=.fn (.methodOf 1 "") [.v p,.mp g,.v (.int .i64 i)] []
end Ev
end
section
namespace Ev
def k9:List AV:=[0,1,28,2,29,14,24,3,30,22,20,15,25,17,4,8,31,27,13,23,21,19,16,7,26,12,18,6,11,5,10,9].map fun n=>.v (.int .u8 n)
def k10:List AV:=[0,1,56,2,57,49,28,3,61,58,42,50,38,29,17,4,62,47,59,36,45,43,51,22,53,39,33,30,24,18,12,5,63,55,48,27,60,41,37,16,46,35,44,21,52,32,23,11,54,26,40,15,34,20,31,10,25,14,19,9,13,8,7,6].map fun n=>.v (.int .u8 n)
def k8:List AV:=[1,10,100,1000,10000,100000,1000000,10000000,100000000,1000000000,10000000000,100000000000,1000000000000,10000000000000,100000000000000,1000000000000000,10000000000000000,100000000000000000,1000000000000000000,10000000000000000000].map fun n=>.v (.int .u64 n)
def k7:List AV:=[128,191,160,191,128,159,144,191,128,143,0,0,0,0,0,0,0,0,0,0,0,0,0,0,0,0,0,0,0,0,0,0].map fun n=>.v (.int .u8 n)
def k4:List AV:=[(.mp 12)]
def k3:List AV:=[(.mp 13)]
def k5:List AV:=[(.sl 14 0 3 3)]
def k14:List AV:=[(.v (.int .i64 (4))),(.v (.int .i64 (1))),(.v (.int .i64 (100))),(.v (.int .i64 (-1))),(.v (.int .i64 (400))),(.v (.int .i64 (1)))]
def k2:List AV:=[31,28,31,30,31,30,31,31,30,31,30,31].map fun n=>.v (.int .i64 n)
def k1:List AV:=[3,3,6,3,9,3,12,3,3,3,6,3,9,3,12,3,9,3,12,3,3,3,6,3,1,3,4,3,7,3,10,3,1,4,5,4,9,4,1,6,7,6].map fun n=>.v (.int .i64 n)
def k6:List AV:=[240,240,240,240,240,240,240,240,240,240,240,240,240,240,240,240,240,240,240,240,240,240,240,240,240,240,240,240,240,240,240,240,240,240,240,240,240,240,240,240,240,240,240,240,240,240,240,240,240,240,240,240,240,240,240,240,240,240,240,240,240,240,240,240,240,240,240,240,240,240,240,240,240,240,240,240,240,240,240,240,240,240,240,240,240,240,240,240,240,240,240,240,240,240,240,240,240,240,240,240,240,240,240,240,240,240,240,240,240,240,240,240,240,240,240,240,240,240,240,240,240,240,240,240,240,240,240,240,241,241,241,241,241,241,241,241,241,241,241,241,241,241,241,241,241,241,241,241,241,241,241,241,241,241,241,241,241,241,241,241,241,241,241,241,241,241,241,241,241,241,241,241,241,241,241,241,241,241,241,241,241,241,241,241,241,241,241,241,241,241,241,241,241,241,2,2,2,2,2,2,2,2,2,2,2,2,2,2,2,2,2,2,2,2,2,2,2,2,2,2,2,2,2,2,19,3,3,3,3,3,3,3,3,3,3,3,3,35,3,3,52,4,4,4,68,241,241,241,241,241,241,241,241,241,241,241].map fun n=>.v (.int .u8 n)
def hp:Tr HO:=(.node none (.node (some (.ro k1)) (.node (some (.ro k3)) (.node (some (.ro k7)) .nil .nil) .nil) (.node (some (.ro k5)) (.node (some (.ro k9)) .nil .nil) .nil)) (.node (some (.ro k2)) (.node (some (.ro k4)) (.node (some (.ro k8)) .nil .nil) .nil) (.node (some (.ro k6)) (.node (some (.ro k10)) .nil .nil) (.node (some (.ro k14)) .nil .nil))))
def bs0:List (Nat × List AV):=[(9,k9),(10,k10),(8,k8),(7,k7),(4,k4),(3,k3),(5,k5),(14,k14),(2,k2),(1,k1),(6,k6)]
noncomputable def fs0:List (Nat × List Value):=[]
theorem hp_eq:ET (bs0++fixed fs0)=hp:=by kernel_rfl
theorem aRX:layVars Tryz.prog 12 (Rows.seeksErrorsRow.laid.filter fun x=>x.2.handleName?.isNone) 12=some (bs0,15):=by kernel_rfl
theorem aSk{w0:World}(hl:laidMetH Tryz.prog Rows.seeksErrorsRow.laid w0):O9 12 w0 fs0:=O9.nil
def aRS:List (TypeId × String × FuncId):=[(128,"circa/seeks.at",256),(128,"circa/seeks.first",257),(128,"circa/seeks.from",258),(128,"circa/seeks.last",259),(128,"circa/seeks.upto",260),(130,"circa/seeks.at",264),(130,"circa/seeks.first",265),(130,"circa/seeks.from",266),(130,"circa/seeks.last",267),(130,"circa/seeks.upto",268),(132,"circa/seeks.at",275),(132,"circa/seeks.first",276),(132,"circa/seeks.from",277),(132,"circa/seeks.last",278),(132,"circa/seeks.upto",280)]
theorem aD7:aRS.all (fun e=>aNL Tryz.prog e.1 e.2.1 e.2.2)=true:=by kernel_rfl
noncomputable def eU:Tab:=⟨Tryz.prog,⟨12,fun _=>⟨0,0,.nilIface⟩⟩,15,tys,fns,fun _ _=>none,fun _=>false,fun _=>none,aJU aRS,fun _ _ _=>none,fun _ _ _=>none⟩
abbrev LG:Nat:=11
abbrev vG(i:Nat):AV:=ltr LG (.int .i8 0) i
abbrev kG(i:Nat):AV:=ltr LG (.int .i16 0) i
abbrev iU(i:Nat):AV:=ltr LG (.int .i64 0) i
abbrev mJ(i:Nat):AV:=ltr LG (.int .u8 0) i
abbrev qF(i:Nat):AV:=ltr LG (.int .u16 0) i
abbrev PD(i:Nat):AV:=ltr LG (.bool false) i
abbrev GL(i:Nat):AV:=ltr LG (.string ⟨#[]⟩) i
abbrev oN(i:Nat):AV:=ltr LG (.slice none 0 0) i
theorem aKe: ∀f,eU.idn f=true-> ∀x w,(callFunc f #[x]).run eU.p w=.ok (.value x) w:=fun f h=>by cases h
theorem aJR: ∀f e,eU.mnz f=some e-> ∀(n:Nat) w,n<=140737488355328-> ∃cs:Array Value,(callFunc f #[.int .i64 n]).run eU.p w=.ok (.value (.slice (some ⟨w.heap.size,0,none⟩) n cs.size)) (w.drew.drew.alloc (.cells cs e))/\n<=cs.size:=fun f e h=>by cases h
theorem aO(w:World):iQ eU w:=aH7 aQP aKu Tryz.pinned.checked.mixed (fun _ _ _ h=>by cases h) ⟨fun _ _ _ _ h=>(by cases h),fun _ _ _ _ h=>(by cases h)⟩ aKe aJR (aD8 aD7)
theorem aE6{w0:World}(hl:laidMetH Tryz.prog Rows.seeksErrorsRow.laid w0):bM eU.g.n eU.l w0 hp:=aIc (QJ hl) (aSk hl) aRX hp_eq
end Ev
end
section
namespace Ev
noncomputable def tb0:Tab:={ eU with l:=12 }
theorem aP(w:World):iQ tb0 w:=let t:=aO w;⟨t.ty,t.fn,t.orc,⟨fun _ _ _ _ h=>(by cases h),fun _ _ _ _ h=>(by cases h)⟩,t.mixed,t.idn,t.mnz,t.met⟩
theorem kM(w:World):bM tb0.g.n tb0.l w .nil:=aIc (P:=Tryz.prog) (L:=[]) (fs:=[]) (bs:=[]) ⟨[],by constructor,aXe,fun _ _ h=>by cases h⟩ O9.nil rfl rfl
end Ev
end
section
namespace Cal
def PE(y:Int):Int:=1+(y - 1) / 4 - (y - 1) / 100+(y - 1) / 400
def st(y:Int):Int:=365 * y+PE y
def leap(y:Int):Bool:=decide (y % 4=0)&&(decide (y % 100≠0)||decide (y % 400=0))
def lp(y:Int):Int:=if leap y then 1 else 0
theorem uZ(y:Int):0<=lp y/\lp y<=1:=by unfold lp;split<;>omega
theorem aBm(y:Int):PE (y+1)=PE y+lp y:=by
 unfold PE lp leap
 by_cases h4:y % 4=0<;>by_cases h1:y % 100=0<;>by_cases h5:y % 400=0<;>simp[h4,h1,h5]<;>omega
theorem st_succ(y:Int):st (y+1)=st y+365+lp y:=by
 unfold st;rw[aBm];omega
theorem gZ{a b:Int}(h:a<=b):st a+365 * (b - a)<=st b:=by
 unfold st PE;omega
def dH(d:Int):Int:=let y:=400 * d / 146097;if st (y+1)<=d then y+1 else if d<st y then y - 1 else y
theorem gU(d:Int):st (dH d)<=d/\d<st (dH d+1):=by
 unfold dH;have h1:st (400 * d / 146097+2)=st (400 * d / 146097+1)+365+lp (400 * d / 146097+1):=by
  have:=st_succ (400 * d / 146097+1);rw[show 400 * d / 146097+1+1=400 * d / 146097+2 by omega]at this;exact this
 have a:d<st (400 * d / 146097+2):=by unfold st PE;omega
 have b:st (400 * d / 146097 - 1)<=d:=by unfold st PE;omega
 generalize 400 * d / 146097=y at *;show st (if st (y+1)<=d then y+1 else if d<st y then y - 1 else y)<=d/\d<st ((if st (y+1)<=d then y+1 else if d<st y then y - 1 else y)+1)
 split
 . exact⟨by assumption,by rw[show y+1+1=y+2 by omega];exact a⟩
 split
 . exact⟨b,by rw[show y - 1+1=y by omega];assumption⟩
 omega
theorem JX{d y:Int}(h1:st y<=d)(h2:d<st (y+1)):dH d=y:=by
 obtain⟨a,b⟩:=gU d
 by_cases c:dH d=y
 . exact c
 rcases Int.lt_or_gt_of_ne c with c|c
 . have:=gZ (a:=dH d+1) (b:=y) (by omega);omega
 have:=gZ (a:=y+1) (b:=dH d) (by omega);omega
theorem aBB{d y:Int}:dH d<y↔d<st y:=by
 obtain⟨a,b⟩:=gU d;constructor
 . intro h;have:=gZ (a:=dH d+1) (b:=y) (by omega);omega
 intro h
 by_cases c:dH d<y
 . exact c
 have:=gZ (a:=y) (b:=dH d) (by omega);omega
def rst(y:Int):Int:=y / 400 * 146097+365 * (y - y / 400 * 400)+(y - y / 400 * 400+3) / 4 - (y - y / 400 * 400+99) / 100+(y - y / 400 * 400+399) / 400
theorem aQ2(y:Int):rst y=st y:=by unfold rst st PE;omega
def len(y m:Int):Int:=if m=2 then 28+lp y else if m=4\/m=6\/m=9\/m=11 then 30 else 31
def bZ(y m:Int):Int:=if m<=1 then 0 else if m<=2 then 31 else(if m<=3 then 59 else if m<=4 then 90 else if m<=5 then 120 else if m<=6 then 151 else if m<=7 then 181 else if m<=8 then 212 else if m<=9 then 243 else if m<=10 then 273 else if m<=11 then 304 else if m<=12 then 334 else 365)+lp y
theorem bP(y m:Int)(h1:1<=m)(h2:m<=12):bZ y (m+1)=bZ y m+len y m:=by
 unfold bZ len;have:m=1\/m=2\/m=3\/m=4\/m=5\/m=6\/m=7\/m=8\/m=9\/m=10\/m=11\/m=12:=by omega
 rcases this with rfl|rfl|rfl|rfl|rfl|rfl|rfl|rfl|rfl|rfl|rfl|rfl<;>simp<;>omega
theorem eG(y m:Int):28<=len y m/\len y m<=31:=by
 have:=uZ y;unfold len;split
 . omega
 split<;>omega
theorem fF{y m:Int}(h1:1<=m)(h2:m<=13):0<=bZ y m/\bZ y m<=366:=by
 have:=uZ y;unfold bZ;have:m=1\/m=2\/m=3\/m=4\/m=5\/m=6\/m=7\/m=8\/m=9\/m=10\/m=11\/m=12\/m=13:=by omega
 rcases this with rfl|rfl|rfl|rfl|rfl|rfl|rfl|rfl|rfl|rfl|rfl|rfl|rfl<;>simp<;>omega
theorem yA(y:Int):bZ y 1=0:=by unfold bZ;simp
theorem jL(y:Int):bZ y 13=365+lp y:=by unfold bZ;simp
theorem TR(y:Int):bZ y 2=bZ y 1+len y 1/\bZ y 3=bZ y 2+len y 2/\bZ y 4=bZ y 3+len y 3/\bZ y 5=bZ y 4+len y 4/\bZ y 6=bZ y 5+len y 5/\bZ y 7=bZ y 6+len y 6/\bZ y 8=bZ y 7+len y 7/\bZ y 9=bZ y 8+len y 8/\bZ y 10=bZ y 9+len y 9/\bZ y 11=bZ y 10+len y 10/\bZ y 12=bZ y 11+len y 11/\bZ y 13=bZ y 12+len y 12:=
 ⟨bP y 1 (by omega) (by omega),bP y 2 (by omega) (by omega),bP y 3 (by omega) (by omega),bP y 4 (by omega) (by omega),bP y 5 (by omega) (by omega),bP y 6 (by omega) (by omega),bP y 7 (by omega) (by omega),bP y 8 (by omega) (by omega),bP y 9 (by omega) (by omega),bP y 10 (by omega) (by omega),bP y 11 (by omega) (by omega),bP y 12 (by omega) (by omega)⟩
theorem DF{y a b:Int}(h1:1<=a)(h:a<b)(h2:b<=13):bZ y a+len y a<=bZ y b:=by
 obtain⟨n,rfl⟩: ∃n:Nat,b=a+1+n:=⟨(b - a - 1).toNat,by omega⟩;clear h
 induction n with
 |zero=>have:=bP y a h1 (by omega);simp;omega
 |succ n ih=>
  have h3:=ih (by omega);have h4:=bP y (a+1+n) (by omega) (by omega);have h5:=eG y (a+1+n);rw[show a+1+((n+1:Nat):Int)=a+1+n+1 by omega];omega
def DV(y d:Int):Int:=if d<bZ y 2 then 1 else if d<bZ y 3 then 2 else if d<bZ y 4 then 3 else if d<bZ y 5 then 4 else if d<bZ y 6 then 5 else if d<bZ y 7 then 6 else if d<bZ y 8 then 7 else if d<bZ y 9 then 8 else if d<bZ y 10 then 9 else if d<bZ y 11 then 10 else if d<bZ y 12 then 11 else 12
theorem zT{y d m:Int}(h1:1<=m)(h2:m<=12)(ha:bZ y m<=d)(hb:d<bZ y (m+1)):DV y d=m:=by
 obtain⟨c1,c2,c3,c4,c5,c6,c7,c8,c9,c10,c11,c12⟩:=TR y;have l1:=eG y 1;have l2:=eG y 2;have l3:=eG y 3;have l4:=eG y 4;have l5:=eG y 5;have l6:=eG y 6;have l7:=eG y 7;have l8:=eG y 8;have l9:=eG y 9;have l10:=eG y 10;have l11:=eG y 11;have l12:=eG y 12;unfold DV;have:m=1\/m=2\/m=3\/m=4\/m=5\/m=6\/m=7\/m=8\/m=9\/m=10\/m=11\/m=12:=by omega
 rcases this with rfl|rfl|rfl|rfl|rfl|rfl|rfl|rfl|rfl|rfl|rfl|rfl
 . rw[show (1:Int)+1=2 from rfl]at hb;rw[aDk hb]
 . rw[show (2:Int)+1=3 from rfl]at hb;rw[aBx (by omega),aDk hb]
 . rw[show (3:Int)+1=4 from rfl]at hb;rw[aBx (by omega),aBx (by omega),aDk hb]
 . rw[show (4:Int)+1=5 from rfl]at hb;rw[aBx (by omega),aBx (by omega),aBx (by omega),aDk hb]
 . rw[show (5:Int)+1=6 from rfl]at hb;rw[aBx (by omega),aBx (by omega),aBx (by omega),aBx (by omega),aDk hb]
 . rw[show (6:Int)+1=7 from rfl]at hb;rw[aBx (by omega),aBx (by omega),aBx (by omega),aBx (by omega),aBx (by omega),aDk hb]
 . rw[show (7:Int)+1=8 from rfl]at hb;rw[aBx (by omega),aBx (by omega),aBx (by omega),aBx (by omega),aBx (by omega),aBx (by omega),aDk hb]
 . rw[show (8:Int)+1=9 from rfl]at hb;rw[aBx (by omega),aBx (by omega),aBx (by omega),aBx (by omega),aBx (by omega),aBx (by omega),aBx (by omega),aDk hb]
 . rw[show (9:Int)+1=10 from rfl]at hb;rw[aBx (by omega),aBx (by omega),aBx (by omega),aBx (by omega),aBx (by omega),aBx (by omega),aBx (by omega),aBx (by omega),aDk hb]
 . rw[show (10:Int)+1=11 from rfl]at hb;rw[aBx (by omega),aBx (by omega),aBx (by omega),aBx (by omega),aBx (by omega),aBx (by omega),aBx (by omega),aBx (by omega),aBx (by omega),aDk hb]
 . rw[show (11:Int)+1=12 from rfl]at hb;rw[aBx (by omega),aBx (by omega),aBx (by omega),aBx (by omega),aBx (by omega),aBx (by omega),aBx (by omega),aBx (by omega),aBx (by omega),aBx (by omega),aDk hb]
 rw[aBx (by omega),aBx (by omega),aBx (by omega),aBx (by omega),aBx (by omega),aBx (by omega),aBx (by omega),aBx (by omega),aBx (by omega),aBx (by omega),aBx (by omega)]
theorem mG{y d:Int}(h0:0<=d)(h:d<365+lp y):1<=DV y d/\DV y d<=12/\bZ y (DV y d)<=d/\d<bZ y (DV y d+1):=by
 have key: ∃m,1<=m/\m<=12/\bZ y m<=d/\d<bZ y (m+1):=by
  by_cases c2:d<bZ y 2
  . exact⟨1,by omega,by omega,by rw[yA];omega,c2⟩
  by_cases c3:d<bZ y 3
  . exact⟨2,by omega,by omega,by omega,c3⟩
  by_cases c4:d<bZ y 4
  . exact⟨3,by omega,by omega,by omega,c4⟩
  by_cases c5:d<bZ y 5
  . exact⟨4,by omega,by omega,by omega,c5⟩
  by_cases c6:d<bZ y 6
  . exact⟨5,by omega,by omega,by omega,c6⟩
  by_cases c7:d<bZ y 7
  . exact⟨6,by omega,by omega,by omega,c7⟩
  by_cases c8:d<bZ y 8
  . exact⟨7,by omega,by omega,by omega,c8⟩
  by_cases c9:d<bZ y 9
  . exact⟨8,by omega,by omega,by omega,c9⟩
  by_cases c10:d<bZ y 10
  . exact⟨9,by omega,by omega,by omega,c10⟩
  by_cases c11:d<bZ y 11
  . exact⟨10,by omega,by omega,by omega,c11⟩
  by_cases c12:d<bZ y 12
  . exact⟨11,by omega,by omega,by omega,c12⟩
  exact⟨12,by omega,by omega,by omega,by rw[show (12:Int)+1=13 by rfl,jL];exact h⟩
 obtain⟨m,h1,h2,h3,h4⟩:=key;rw[zT h1 h2 h3 h4];exact⟨h1,h2,h3,h4⟩
end Cal
end
section
open Go.RowKit
namespace Un
theorem ri{k:IntKind}{a b:Int}(h:a=b):Ending.returned (.int k a)=.returned (.int k b):=by rw[h]
theorem rb{a b:Bool}(h:a=b):Ending.returned (.bool a)=.returned (.bool b):=by rw[h]
theorem aS{a b c d:Int}{k k':IntKind}(h:a=b)(h2:c=d):Ending.returned (.tuple #[.int k a,.int k' c])=.returned (.tuple #[.int k b,.int k' d]):=by rw[h,h2]
theorem aZ{a b:Bool}{c d:Int}{k:IntKind}(h:a=b)(h2:c=d):Ending.returned (.tuple #[.bool a,.int k c])=.returned (.tuple #[.bool b,.int k d]):=by rw[h,h2]
theorem xY{a b:Int}(hb:0<b):
 (a.tmod b≠0/\a<0->a.tdiv b - 1=a / b/\a.tmod b+b=a % b)/\(a.tmod b=0\/0<=a->a.tdiv b=a / b/\a.tmod b=a % b)/\(a.tmod b≠0->(a.tmod b<0↔a<0)):=by
 have h1:=@Int.tdiv_eq_ediv a b;have h2:=@Int.tmod_eq_emod a b;rw[Int.sign_eq_one_of_pos hb]at h1;have h3:=aWb a (show b≠0 by omega);have h4:=aWC a hb
 by_cases c:0<=a\/b ∣ a
 . rw[aDk c]at h1 h2;simp only[Int.natCast_zero,Int.sub_zero,aXR]at h1 h2;refine⟨fun⟨h5,h6⟩=>?_,fun _=>⟨h1,h2⟩,fun h5=>?_⟩
   . exfalso;rcases c with c|c
     . omega
     exact h5 (aWM c)
   rcases c with c|c
   . constructor<;>intro h<;>omega
   exact absurd (aWM c) h5
 rw[aBx c]at h1 h2;have hn:(b.natAbs:Int)=b:=by omega
 rw[hn]at h2;have ha:a<0:=by
  by_cases q:a<0
  . exact q
  exact absurd (Or.inl (by omega)) c
 have h5:a.tmod b≠0:=fun h=>c (Or.inr (aYA h));refine⟨fun _=>⟨by omega,by omega⟩,fun h=>?_,fun _=>⟨fun _=>ha,fun _=>by omega⟩⟩;rcases h with h|h
 . exact absurd h h5
 omega
theorem wrap_in{n:Int}(h0: -9223372036854775808<=n)(h1:n<9223372036854775808):wrap64 n=n:=by
 unfold wrap64;omega
theorem CW{a b:Int}(hb:1<b)(h0: -9223372036854775808<=a)(h1:a<9223372036854775808): -9223372036854775808<=a / b/\a / b<9223372036854775808:=by
 refine⟨(Int.le_ediv_iff_mul_le (by omega)).2 (by omega),(Int.ediv_lt_iff_lt_mul (by omega)).2 (by omega)⟩
theorem uH(a b:Int)(w:World)(hb:1<b)(hb2:b<9223372036854775808)(h0: -9223372036854775808<=a)(h1:a<9223372036854775808):
 Calls Tryz.prog 168 #[.int .i64 a,.int .i64 b] w fun e w'=>e=.returned (.tuple #[.int .i64 (a / b),.int .i64 0])/\w=w':=by
 obtain⟨c1,c2,c3⟩:=@xY a b (by omega);have b0:(b==0)=false:=by rw[aBA];omega
 have b1:(b== -1)=false:=by rw[aBA];omega
 have b2:decide (b<0)=false:=aBy (by omega)
 by_cases ha:0<=a
 . have a2:decide (a<0)=false:=aBy (by omega);clear c1 c2 c3
   by_cases hz:a % b=0
   . have hz2:(a % b !=0)=false:=by rw[hz];rfl
     have HZ:=rG hz;clear hz
     go_enter Tryz.func168,Tryz.ntmps168
     go_wp2
     go_ret2
     exact⟨aS (by first|rfl|exact HZ.out.symm) rfl,rfl⟩
   have hz2:(a % b !=0)=true:=by rw[aN0];exact hz
   have m2:decide (a % b<0)=false:=aBy (by have:=aWb a (show b≠0 by omega);omega);clear hz
   go_enter Tryz.func168,Tryz.ntmps168
   go_wp2
   go_ret2
   exact⟨rfl,rfl⟩
 have a2:decide (a<0)=true:=aBz (by omega)
 by_cases hz:a.tmod b=0
 . obtain⟨e1,e2⟩:=c2 (Or.inl hz);have hz2:(a.tmod b !=0)=false:=by rw[hz];rfl
   have E1:=rG e1;have E2:=rG e2;clear hz e1 e2 c1 c2 c3
   go_enter Tryz.func168,Tryz.ntmps168
   go_wp2
   go_ret2
   exact⟨aS E1.out rfl,rfl⟩
 obtain⟨e1,e2⟩:=c1 ⟨hz,by omega⟩;have hz2:(a.tmod b !=0)=true:=by rw[aN0];exact hz
 have m2:decide (a.tmod b<0)=true:=aBz ((c3 hz).2 (by omega));have w1:wrap64 (a.tdiv b - 1)=a / b:=by rw[e1];exact wrap_in (CW hb h0 h1).1 (CW hb h0 h1).2
 have w2:wrap64 (a.tmod b+b)=a % b:=by rw[e2];exact wrap_in (by have:=aWb a (show b≠0 by omega);omega) (by have:=aWC a (show 0<b by omega);omega)
 have E1:=rG e1;have E2:=rG e2;clear hz e1 e2 c1 c2 c3
 go_enter Tryz.func168,Tryz.ntmps168
 go_wp2
 go_ret2
 exact⟨rfl,rfl⟩
theorem JH(a b:Int)(w:World)(hb:1<b)(hb2:b<9223372036854775808)(h0: -9223372036854775808<=a)(h1:a<9223372036854775808):
 Calls Tryz.prog 169 #[.int .i64 a,.int .i64 b] w fun e w'=>e=.returned (.tuple #[.int .i64 (a % b),.int .i64 0])/\w=w':=by
 obtain⟨c1,c2,c3⟩:=@xY a b (by omega);have b0:(b==0)=false:=by rw[aBA];omega
 have b1:(b== -1)=false:=by rw[aBA];omega
 have b2:decide (b<0)=false:=aBy (by omega)
 by_cases ha:0<=a
 . have a2:decide (a<0)=false:=aBy (by omega);clear c1 c2 c3
   by_cases hz:a % b=0
   . have hz2:(a % b !=0)=false:=by rw[hz];rfl
     have HZ:=rG hz;clear hz
     go_enter Tryz.func169,Tryz.ntmps169
     go_wp2
     go_ret2
     exact⟨aS (by first|rfl|exact HZ.out.symm) rfl,rfl⟩
   have hz2:(a % b !=0)=true:=by rw[aN0];exact hz
   have m2:decide (a % b<0)=false:=aBy (by have:=aWb a (show b≠0 by omega);omega);clear hz
   go_enter Tryz.func169,Tryz.ntmps169
   go_wp2
   go_ret2
   exact⟨rfl,rfl⟩
 have a2:decide (a<0)=true:=aBz (by omega)
 by_cases hz:a.tmod b=0
 . obtain⟨e1,e2⟩:=c2 (Or.inl hz);have hz2:(a.tmod b !=0)=false:=by rw[hz];rfl
   have E1:=rG e1;have E2:=rG e2;clear hz e1 e2 c1 c2 c3
   go_enter Tryz.func169,Tryz.ntmps169
   go_wp2
   go_ret2
   exact⟨aS E2.out rfl,rfl⟩
 obtain⟨e1,e2⟩:=c1 ⟨hz,by omega⟩;have hz2:(a.tmod b !=0)=true:=by rw[aN0];exact hz
 have m2:decide (a.tmod b<0)=true:=aBz ((c3 hz).2 (by omega));have w1:wrap64 (a.tdiv b - 1)=a / b:=by rw[e1];exact wrap_in (CW hb h0 h1).1 (CW hb h0 h1).2
 have w2:wrap64 (a.tmod b+b)=a % b:=by rw[e2];exact wrap_in (by have:=aWb a (show b≠0 by omega);omega) (by have:=aWC a (show 0<b by omega);omega)
 have E1:=rG e1;have E2:=rG e2;clear hz e1 e2 c1 c2 c3
 go_enter Tryz.func169,Tryz.ntmps169
 go_wp2
 go_ret2
 exact⟨rfl,rfl⟩
theorem gI(y:Int)(w:World)(h0: -10000000000000000<=y)(h1:y<=10000000000000000):
 Calls Tryz.prog 173 #[.int .i64 y] w fun e w'=>e=.returned (.int .i64 0)/\w=w':=by
 go_enter Tryz.func173,Tryz.ntmps173
 go_wp2
 go_ret
 exact⟨rfl,rfl⟩
theorem kW(y:Int)(w:World)(h:y< -10000000000000000\/10000000000000000<y):
 Calls Tryz.prog 173 #[.int .i64 y] w fun e w'=>e=.returned (.int .i64 6)/\w=w':=by
 rcases h with h|h
 . go_enter Tryz.func173,Tryz.ntmps173
   go_wp2
   go_ret
   exact⟨rfl,rfl⟩
 have h2: ¬y< -10000000000000000:=by omega
 go_enter Tryz.func173,Tryz.ntmps173
 go_wp2
 go_ret
 exact⟨rfl,rfl⟩
end Un
end
section
open Go.RowKit
namespace Un
open Cal
def jF(w:World):Prop:= ∃b o,w.cell? ⟨5,0,none⟩=some (.slice (some ⟨b,o,none⟩) 3 3)/\
 w.cell? ⟨b,o,none⟩=some (.int .i64 4)/\w.cell? ⟨b,o+1,none⟩=some (.int .i64 1)/\
 w.cell? ⟨b,o+2,none⟩=some (.int .i64 100)/\w.cell? ⟨b,o+3,none⟩=some (.int .i64 (-1))/\
 w.cell? ⟨b,o+4,none⟩=some (.int .i64 400)/\w.cell? ⟨b,o+5,none⟩=some (.int .i64 1)
theorem jF.below{w w':World}(h:jF w)(hb:Below w.heap.size w w'):jF w':=by
 obtain⟨b,o,h0,h1,h2,h3,h4,h5,h6⟩:=h;exact⟨b,o,aTh hb h0,aTh hb h1,aTh hb h2,aTh hb h3,aTh hb h4,aTh hb h5,aTh hb h6⟩
theorem ba{W w:World}(h:Below W.heap.size W w)(o:Obj):Below W.heap.size W (w.alloc o):=h.alloc h.size o
theorem bt{W w w2:World}(h:Below W.heap.size W w)(h2:Below w.heap.size w w2):Below W.heap.size W w2:=h.trans (h2.mono h.size)
theorem AB(y:Int)(w:World)(hs:jF w)(h0: -30000000000000000<=y)(h1:y<=30000000000000000):
 Calls Tryz.prog 205 #[.int .i64 y] w fun e w'=>e=.returned (.int .i64 (PE y))/\Below w.heap.size w w':=by
 obtain⟨b,o,g0,g1,g2,g3,g4,g5,g6⟩:=hs;have l0:=aP1 _ _ g0;have l1:=aP1 _ _ g1
 go_enter Tryz.func205,Tryz.ntmps205
 go_wp2
 refine wp_loop_rounds 4 ?_;rw[aX3]
 go_wp2_with (go_at_call 168;refine(uH _ _ _ (by omega) (by omega) (by omega) (by omega)).mono ?_;rintro e w' ⟨rfl,rfl⟩)
 rw[aX3]
 go_wp2_with (go_at_call 168;refine(uH _ _ _ (by omega) (by omega) (by omega) (by omega)).mono ?_;rintro e w' ⟨rfl,rfl⟩)
 rw[aX3]
 go_wp2_with (go_at_call 168;refine(uH _ _ _ (by omega) (by omega) (by omega) (by omega)).mono ?_;rintro e w' ⟨rfl,rfl⟩)
 rw[aX3]
 go_wp2
 go_ret
 exact⟨ri (by unfold PE;omega),ba (ba (ba (aAI _ _) _) _) _⟩
theorem aSN{y:Int}(h0: -30000000000000000<=y)(h1:y<=30000000000000000): -30000000000000000<=PE y/\PE y<=30000000000000000:=by
 unfold PE;omega
theorem lV{y:Int}(h0: -25000000000000000<=y)(h1:y<=25000000000000000): -9200000000000000000<=st y/\st y<=9200000000000000000:=by
 unfold st PE;omega
theorem D5(y:Int)(w:World)(hs:jF w)(h0: -25000000000000000<=y)(h1:y<=25000000000000000):
 Calls Tryz.prog 172 #[.int .i64 y] w fun e w'=>e=.returned (.int .i64 (st y))/\Below w.heap.size w w':=by
 have hb:=aSN (y:=y) (by omega) (by omega);have hb2:=lV h0 h1;have e:365 * y+PE y=st y:=rfl;have k1: -9200000000000000000<=365 * y+PE y:=by omega
 have k2:365 * y+PE y<=9200000000000000000:=by omega
 have E:=rG e;clear e hb2
 go_enter Tryz.func172,Tryz.ntmps172
 go_wp2_with (go_at_call 205;refine(AB _ _ hs (by omega) (by omega)).mono ?_;rintro e w' ⟨rfl,hb1⟩)
 go_ret
 exact⟨ri E.out,hb1⟩
theorem rJ(y:Int)(w:World)(hs:jF w)(h0: -10000000000000000<=y)(h1:y<=10000000000000000):
 Calls Tryz.prog 174 #[.int .i64 y] w fun e w'=>e=.returned (.tuple #[.int .i64 (st y),.int .i64 0])/\Below w.heap.size w w':=by
 go_enter Tryz.func174,Tryz.ntmps174
 go_wp2_with (first|(go_at_call 173;refine(gI _ _ (by omega) (by omega)).mono ?_;rintro e w' ⟨rfl,rfl⟩)|(go_at_call 172;refine(D5 _ _ hs (by omega) (by omega)).mono ?_;rintro e w' ⟨rfl,hb1⟩))
 go_ret2
 exact⟨rfl,hb1⟩
theorem PI(y:Int)(w:World)(h:y< -10000000000000000\/10000000000000000<y):
 Calls Tryz.prog 174 #[.int .i64 y] w fun e w'=>e=.returned (.tuple #[.int .i64 0,.int .i64 6])/\w=w':=by
 have H:=rG h;clear h
 go_enter Tryz.func174,Tryz.ntmps174
 go_wp2_with (go_at_call 173;refine(kW _ _ H.out).mono ?_;rintro e w' ⟨rfl,rfl⟩)
 go_ret2
 exact⟨rfl,rfl⟩
theorem X7(y:Int)(w:World)(hs:jF w)(h0: -10000000000000000<=y)(h1:y<=10000000000000000):
 Calls Tryz.prog 175 #[.int .i64 y] w fun e w'=>e=.returned (.tuple #[.int .i64 (st (y+1) - 1),.int .i64 0])/\Below w.heap.size w w':=by
 have hb2:=lV (y:=y+1) (by omega) (by omega);obtain⟨k1,k2⟩:=hb2
 go_enter Tryz.func175,Tryz.ntmps175
 go_wp2_with (first|(go_at_call 173;refine(gI _ _ (by omega) (by omega)).mono ?_;rintro e w' ⟨rfl,rfl⟩)|(go_at_call 172;refine(D5 _ _ hs (by omega) (by omega)).mono ?_;rintro e w' ⟨rfl,hb1⟩))
 go_ret2
 exact⟨rfl,hb1⟩
theorem X8(y:Int)(w:World)(h:y< -10000000000000000\/10000000000000000<y):
 Calls Tryz.prog 175 #[.int .i64 y] w fun e w'=>e=.returned (.tuple #[.int .i64 0,.int .i64 6])/\w=w':=by
 have H:=rG h;clear h
 go_enter Tryz.func175,Tryz.ntmps175
 go_wp2_with (go_at_call 173;refine(kW _ _ H.out).mono ?_;rintro e w' ⟨rfl,rfl⟩)
 go_ret2
 exact⟨rfl,rfl⟩
theorem UM(y:Int)(w:World)(hs:jF w)(h0: -10000000000000000<=y)(h1:y<=10000000000000000):
 Calls Tryz.prog 201 #[.int .i64 y] w fun e w'=>e=.returned (.tuple #[.bool (leap y),.int .i64 0])/\Below w.heap.size w w':=by
 have e:decide (PE y<PE (y+1))=leap y:=by
  rw[aBm];unfold lp
  cases leap y
  . exact aBy (by simp)
  exact aBz (by simp;omega)
 have E:=rG e;clear e
 go_enter Tryz.func201,Tryz.ntmps201
 go_wp2_with fail
 refine(gI _ _ (by omega) (by omega)).mono ?_;rintro e w' ⟨rfl,rfl⟩
 go_wp2_with fail
 refine(AB _ _ hs (by omega) (by omega)).mono ?_;rintro e w1 ⟨rfl,hb1⟩
 go_wp2_with fail
 refine(AB _ _ (hs.below hb1) (by omega) (by omega)).mono ?_;rintro e w2 ⟨rfl,hb2⟩
 go_wp2
 go_ret2
 exact⟨aZ E.out rfl,bt hb1 hb2⟩
end Un
end
section
open Go.RowKit
namespace Un
open Cal
theorem vi{k:IntKind}{a b:Int}(h:a=b):Value.int k a=Value.int k b:=by rw[h]
theorem jF.drew{w:World}(h:jF w):jF w.drew:=h
theorem aBX(g:Nat)(cb:Array Value)(n k:Nat)(p:Int->Bool)(w:World)(eg: ∀args w,(callFunc g args).run Tryz.prog w=.ok (.enter g args) w)(hn:n<=4611686018427387904)(hk:k<=n)
 (hlo: ∀i:Nat,i<k->p i=false) (hhi: ∀i:Nat,k<=i->i<n->p i=true)
 (hf: ∀(i:Nat) (W:World),i<n->Below w.heap.size w W->Calls Tryz.prog g (#[.int .i64 i]++cb) W fun e w'=>e=.returned (.bool (p i))/\Below W.heap.size W w'):
 Calls Tryz.prog 170 #[.int .i64 n,.func (.func g) #[] cb] w fun e w'=>e=.returned (.int .i64 k)/\Below w.heap.size w w':=by
 have HF:=rG hf;have UJ:=rG hlo;have HHI:=rG hhi;clear hf hlo hhi
 go_enter Tryz.func170,Tryz.ntmps170
 go_wp2
 go_loopw [5,6] (fun i j wr=> ∃lo hi:Nat,lo<=k/\k<=hi/\hi<=n/\i=.int .i64 (lo:Int)/\j=.int .i64 (hi:Int)/\Below w.heap.size w wr) (fun i j _=>(intOf j - intOf i).toNat)
 case atStart=>exact⟨0,n,by omega,by omega,by omega,rfl,rfl,aAI _ _⟩
 case round=>
  obtain⟨lo,hi,h1,h2,h3,rfl,rfl,hb⟩:=hrel;have HB:=rG hb;clear hb
  by_cases hlt:lo<hi
  . obtain⟨m,hm⟩: ∃m:Nat,m=(lo+hi) / 2:=⟨_,rfl⟩
    by_cases hmk:m<k
    . have HP:=rG (UJ.out m hmk)
      go_wp2_with fail
      rw[show ((lo:Int)+(hi:Int)) / 2=(m:Int)from by omega];refine(HF.out m _ (by omega) HB.out).mono ?_;rintro e w' ⟨rfl,hb1⟩;rw[HP.out];have HB1:=rG (bt HB.out hb1);clear hb1
      go_wp2
      go_roundw
      case rel=>exact⟨m+1,hi,by omega,by omega,by omega,vi (by omega),rfl,HB1.out⟩
      case measure=>simp[intOf];omega
    have HP:=rG (HHI.out m (by omega) (by omega))
    go_wp2_with fail
    rw[show ((lo:Int)+(hi:Int)) / 2=(m:Int)from by omega];refine(HF.out m _ (by omega) HB.out).mono ?_;rintro e w' ⟨rfl,hb1⟩;rw[HP.out];have HB1:=rG (bt HB.out hb1);clear hb1
    go_wp2
    go_roundw
    case rel=>exact⟨lo,m,by omega,by omega,by omega,rfl,vi (by omega),HB1.out⟩
    case measure=>simp[intOf];omega
  have e:lo=k:=by omega
  subst e
  go_wp2
  go_ret
  exact⟨rfl,HB.out⟩
theorem X9(i r:Int)(a:Addr)(w:World)(hs:jF w)(hc:w.cell? a=some (.int .i64 r))(h0: -1000<=i)(h1:i<=1000):
 Calls Tryz.prog 171 #[.int .i64 i,.pointer (some a)] w fun e w'=>e=.returned (.bool (decide (r<st (i+1))))/\Below w.heap.size w w':=by
 have hw:IntKind.i64.wrap (i+1)=i+1:=by rw[aHA];omega
 have hn:=aP1 _ _ hc
 go_enter Tryz.func171,Tryz.ntmps171
 go_wp2
 go_region_held3 (fun w'=>w'.cell? a=some (.int .i64 r)/\jF w'/\Below w.heap.size w w') (first|exact⟨hc,hs.drew,(aAI _ _).drew⟩|exact⟨aTh hb1 hc,hs.drew.below hb1,bt (aAI _ _).drew hb1⟩) ((first|(go_at_call 172;refine(D5 _ _ hs.drew (by omega) (by omega)).mono ?_;rintro e w' ⟨rfl,hb1⟩)))
 rename_i hh
 have HB:=rG hh.2.2;clear hh hb1
 go_wp2
 go_ret
 exact⟨rfl,HB.out⟩
theorem YT(q z:Int):st (400 * q+z)=146097 * q+st z:=by unfold st PE;omega
theorem aES(d:Int):dH d=400 * (d / 146097)+dH (d % 146097):=by
 obtain⟨h1,h2⟩:=gU (d % 146097);refine JX ?_ ?_
 . rw[YT];omega
 rw[show 400 * (d / 146097)+dH (d % 146097)+1=400 * (d / 146097)+(dH (d % 146097)+1) by omega,YT];omega
theorem aER{r:Int}(h0:0<=r)(h1:r<146097):0<=dH r/\dH r<400:=by
 obtain⟨a,b⟩:=gU r;have z0:st 0=0:=by decide
 have z1:st 400=146097:=by decide
 constructor
 . by_cases c:0<=dH r
   . exact c
   have:=gZ (a:=dH r+1) (b:=0) (by omega);omega
 by_cases c:dH r<400
 . exact c
 have:=gZ (a:=400) (b:=dH r) (by omega);omega
def kK(d:Int):Int × Int:=if -10000000000000000<=dH d/\dH d<=10000000000000000 then(dH d,0)else(0,6)
theorem zB(d:Int)(w:World)(hs:jF w)(h0: -9223372036854775808<=d)(h1:d<9223372036854775808):
 Calls Tryz.prog 140 #[.int .i64 d] w fun e w'=>e=.returned (.tuple #[.int .i64 (kK d).1,.int .i64 (kK d).2])/\Below w.heap.size w w':=by
 have hsm:=@aER (d % 146097) (by omega) (by omega);obtain⟨s1,s2⟩:=gU (d % 146097);have aSa:=aES d;obtain⟨k,hk⟩: ∃k:Nat,(k:Int)=dH (d % 146097):=⟨(dH (d % 146097)).toNat,by omega⟩;rw[<-hk]at hsm s1 s2 aSa;have hlo: ∀i:Nat,i<k->decide (d % 146097<st ((i:Int)+1))=false:=fun i hi=>aBy (by have:=gZ (a:=(i:Int)+1) (b:=k) (by omega);omega);have hhi: ∀i:Nat,k<=i->i<400->decide (d % 146097<st ((i:Int)+1))=true:=fun i hi _=>aBz (by have:=gZ (a:=(k:Int)+1) (b:=(i:Int)+1) (by omega);omega);have hk4:k<=400:=by omega
 have q0: -63131877573220<=d / 146097:=by omega
 have q1:d / 146097<=63131877573220:=by omega
 have k0:(0:Int)<=(k:Int):=by omega
 have k1:(k:Int)<=400:=by omega
 have hsz: ∀o W,Below (w.alloc o).heap.size (w.alloc o) W->Below w.heap.size w W:=fun o W h=>bt (ba (aAI _ _) o) h;have hse: ∀W,Below (w.alloc (.cells #[.int .i64 (d % 146097)] 2)).heap.size (w.alloc (.cells #[.int .i64 (d % 146097)] 2)) W->W.cell? ⟨w.heap.size,0,none⟩=some (.int .i64 (d % 146097)):=fun W h=>
  aTh h (by rw[aYF];rfl)
 have HS:=rG (fun W:World=>fun hb:Below (w.alloc (.cells #[.int .i64 (d % 146097)] 2)).heap.size (w.alloc (.cells #[.int .i64 (d % 146097)] 2)) W=>aBX 171 #[.pointer (some ⟨w.heap.size,0,none⟩)] 400 k (fun i=>decide (d % 146097<st (i+1))) W (fun args w=>by kernel_rfl) (by omega) hk4 hlo hhi (fun i W2 hi hb2=>X9 i (d % 146097) _ W2 ((hs.below (hsz _ _ hb)).below hb2) (hse W2 (bt hb hb2)) (by omega) (by omega)));have hres:kK d=if -10000000000000000<=400 * (d / 146097)+(k:Int)/\400 * (d / 146097)+(k:Int)<=10000000000000000 then(400 * (d / 146097)+(k:Int),0)else(0,6):=by
  unfold kK;rw[aSa]
 have aV8:=rG hres;have HSZ:=rG hsz;clear hres hlo hhi hsm s1 s2 aSa hk hse hsz
 by_cases c: -10000000000000000<=400 * (d / 146097)+(k:Int)/\400 * (d / 146097)+(k:Int)<=10000000000000000
 . have hr:=aV8.out;rw[aDk c]at hr;have HR:=rG hr;obtain⟨c0,c1⟩:=c;clear hr
   go_enter Tryz.func140,Tryz.ntmps140
   go_wp2_with (first
    |(go_at_call 168;refine(uH _ _ _ (by omega) (by omega) (by omega) (by omega)).mono ?_;rintro e w' ⟨rfl,rfl⟩)
    |(go_at_call 169;refine(JH _ _ _ (by omega) (by omega) (by omega) (by omega)).mono ?_;rintro e w' ⟨rfl,rfl⟩)
    |(go_at_call 173;refine(gI _ _ (by omega) (by omega)).mono ?_;rintro e w' ⟨rfl,rfl⟩)
    |(go_at_call 170;refine(HS.out _ (aAI _ _)).mono ?_;rintro e w' ⟨rfl,hb1⟩))
   go_ret2
   exact⟨aS (by rw[HR.out]) (by rw[HR.out]),HSZ.out _ _ hb1⟩
 have hr:=aV8.out;rw[aBx c]at hr;have HR:=rG hr;have HC:Hid (400 * (d / 146097)+(k:Int)< -10000000000000000\/10000000000000000<400 * (d / 146097)+(k:Int)):=rG (by omega);clear hr c
 go_enter Tryz.func140,Tryz.ntmps140
 go_wp2_with (first
  |(go_at_call 168;refine(uH _ _ _ (by omega) (by omega) (by omega) (by omega)).mono ?_;rintro e w' ⟨rfl,rfl⟩)
  |(go_at_call 169;refine(JH _ _ _ (by omega) (by omega) (by omega) (by omega)).mono ?_;rintro e w' ⟨rfl,rfl⟩)
  |(go_at_call 173;refine(kW _ _ HC.out).mono ?_;rintro e w' ⟨rfl,rfl⟩)
  |(go_at_call 170;refine(HS.out _ (aAI _ _)).mono ?_;rintro e w' ⟨rfl,hb1⟩))
 go_ret2
 exact⟨aS (by rw[HR.out]) (by rw[HR.out]),HSZ.out _ _ hb1⟩
end Un
end
section
open Go.RowKit
namespace Un
open Cal
def ml(i:Nat):Int:=if i=1 then 28 else if i=3\/i=5\/i=8\/i=10 then 30 else 31
def yI(w:World):Prop:= ∀i:Nat,i<12->w.cell? ⟨2,i,none⟩=some (.int .i64 (ml i))
theorem yI.below{w w':World}(h:yI w)(hb:Below w.heap.size w w'):yI w':=fun i hi=>aTh hb (h i hi)
structure bT(w:World):Prop where
 steps:jF w
 lens:yI w
theorem bT.below{w w':World}(h:bT w)(hb:Below w.heap.size w w'):bT w':=⟨h.steps.below hb,h.lens.below hb⟩
theorem aJT{y:Int}{n:Nat}(h:n<12)(hl:leap y=false\/n≠1):ml n=len y ((n:Int)+1):=by
 unfold ml len lp;rcases hl with hl|hl
 . rw[hl];simp only[aMB,aSC]
   (repeat' split)<;>omega
 (repeat' split)<;>omega
theorem qE(y m:Int)(w:World)(hs:bT w)(h0: -10000000000000000<=y)(h1:y<=10000000000000000)(m0:1<=m)(m1:m<=12):
 Calls Tryz.prog 163 #[.int .i64 y,.int .i64 m] w fun e w'=>e=.returned (.int .i64 (len y m))/\Below w.heap.size w w':=by
 obtain⟨n,rfl⟩: ∃n:Nat,m=(n:Int)+1:=⟨(m - 1).toNat,by omega⟩;have hn:n<12:=by omega
 have HC:=rG (fun(W:World) (hb:Below w.heap.size w W)=>(hs.below hb).lens n hn);have HL:=rG (UM y w hs.steps h0 h1);have i0:(0:Int)<=(n:Int):=by omega
 have i1:(n:Int)<12:=by omega
 by_cases hl:leap y=true
 . rw[hl]at HL
   by_cases h2:n=1
   . subst h2;have e:29=len y ((1:Nat)+1):=by unfold len lp;rw[hl];rfl
     have E:=rG e;clear e hl
     go_enter Tryz.func163,Tryz.ntmps163
     go_wp2_with (go_at_call 201;refine HL.out.mono ?_;rintro e w' ⟨rfl,hb1⟩)
     go_ret
     exact⟨ri E.out,hb1⟩
   have E:=rG (aJT (y:=y) hn (Or.inr h2));have t:((n:Int)+1==2)=false:=by rw[aBA];omega
   clear h2 hl
   go_enter Tryz.func163,Tryz.ntmps163
   go_wp2_with fail
   refine HL.out.mono ?_;rintro e w' ⟨rfl,hb1⟩;have hc:=HC.out _ hb1
   go_wp2
   go_ret
   exact⟨ri E.out,hb1⟩
 have hl2:leap y=false:=by cases h:leap y;rfl;exact absurd h hl
 rw[hl2]at HL;have E:=rG (aJT (y:=y) hn (Or.inl hl2));clear hl hl2
 go_enter Tryz.func163,Tryz.ntmps163
 go_wp2_with fail
 refine HL.out.mono ?_;rintro e w' ⟨rfl,hb1⟩;have hc:=HC.out _ hb1
 go_wp2
 go_ret
 exact⟨ri E.out,hb1⟩
def sJ(y m:Int):Int:=if -10000000000000000<=y/\y<=10000000000000000 then(if 1<=m/\m<=12 then 0 else 7)else 6
theorem jJ(y m:Int)(w:World):
 Calls Tryz.prog 162 #[.int .i64 y,.int .i64 m] w fun e w'=>e=.returned (.int .i64 (sJ y m))/\w=w':=by
 by_cases c: -10000000000000000<=y/\y<=10000000000000000
 . by_cases c2:1<=m/\m<=12
   . have E:Hid (0=sJ y m):=rG (by unfold sJ;rw[aDk c,aDk c2]);obtain⟨a,b⟩:=c;obtain⟨p,q⟩:=c2
     go_enter Tryz.func162,Tryz.ntmps162
     go_wp2_with (go_at_call 173;refine(gI _ _ (by omega) (by omega)).mono ?_;rintro e w' ⟨rfl,rfl⟩)
     go_ret
     exact⟨ri E.out,rfl⟩
   have E:Hid (7=sJ y m):=rG (by unfold sJ;rw[aDk c,aBx c2]);obtain⟨a,b⟩:=c
   by_cases p:m<1
   . clear c2
     go_enter Tryz.func162,Tryz.ntmps162
     go_wp2_with (go_at_call 173;refine(gI _ _ (by omega) (by omega)).mono ?_;rintro e w' ⟨rfl,rfl⟩)
     go_ret
     exact⟨ri E.out,rfl⟩
   have q:12<m:=by omega
   clear c2
   go_enter Tryz.func162,Tryz.ntmps162
   go_wp2_with (go_at_call 173;refine(gI _ _ (by omega) (by omega)).mono ?_;rintro e w' ⟨rfl,rfl⟩)
   go_ret
   exact⟨ri E.out,rfl⟩
 have E:Hid (6=sJ y m):=rG (by unfold sJ;rw[aBx c]);have C:Hid (y< -10000000000000000\/10000000000000000<y):=rG (by omega);clear c
 go_enter Tryz.func162,Tryz.ntmps162
 go_wp2_with (go_at_call 173;refine(kW _ _ C.out).mono ?_;rintro e w' ⟨rfl,rfl⟩)
 go_ret
 exact⟨ri E.out,rfl⟩
theorem wC(y m:Int)(w:World)(h:sJ y m≠0):
 Calls Tryz.prog 157 #[.int .i64 y,.int .i64 m] w fun e w'=>e=.returned (.tuple #[.int .i64 0,.int .i64 (sJ y m)])/\w=w':=by
 have t:(sJ y m !=0)=true:=by rw[aN0];exact h
 clear h
 go_enter Tryz.func157,Tryz.ntmps157
 go_wp2_with (go_at_call 162;refine(jJ _ _ _).mono ?_;rintro e w' ⟨rfl,rfl⟩)
 go_ret2
 exact⟨rfl,rfl⟩
theorem iK(y m:Int)(w:World)(hs:bT w)(h0: -10000000000000000<=y)(h1:y<=10000000000000000)(m0:1<=m)(m1:m<=12):
 Calls Tryz.prog 157 #[.int .i64 y,.int .i64 m] w fun e w'=>e=.returned (.tuple #[.int .i64 (st y+bZ y m),.int .i64 0])/\Below w.heap.size w w':=by
 obtain⟨n,rfl⟩: ∃n:Nat,m=(n:Int)+1:=⟨(m - 1).toNat,by omega⟩;have e:sJ y ((n:Int)+1)=0:=by unfold sJ;rw[aDk ⟨h0,h1⟩,aDk ⟨m0,m1⟩]
 have HM:=jJ y ((n:Int)+1) w;rw[e]at HM;have HM:=rG HM;obtain⟨b0,b1⟩:=lV (y:=y) (by omega) (by omega);have HS:=rG hs;clear hs e
 go_enter Tryz.func157,Tryz.ntmps157
 go_wp2_with (first|(go_at_call 162;refine HM.out.mono ?_;rintro e w' ⟨rfl,rfl⟩)|(go_at_call 174;refine(rJ _ _ HS.out.steps (by omega) (by omega)).mono ?_;rintro e w' ⟨rfl,hb1⟩))
 have HB:=rG hb1;clear hb1
 go_loopw [7,9,23] (fun d i j wr=> ∃k:Nat,k<=n/\d=.int .i64 (st y+bZ y ((k:Int)+1))/\j=.int .i64 (k:Int)/\Below w.heap.size w wr) (fun _ _ j _=>n - (intOf j).toNat)
 case atStart=>exact⟨0,by omega,by rw[show ((0:Nat):Int)+1=1 from rfl,yA,aXR],rfl,HB.out⟩
 case round=>
  obtain⟨k,hk,rfl,rfl,hb⟩:=hrel;have HB2:=rG hb;clear hb;have cb:=@fF y ((k:Int)+1) (by omega) (by omega)
  by_cases hlt:k<n
  . have hl:=eG y ((k:Int)+1);have hcs:=bP y ((k:Int)+1) (by omega) (by omega);have HCS:=rG hcs;clear hcs
    go_wp2_with (go_at_call 163;refine(qE _ _ _ (HS.out.below HB2.out) (by omega) (by omega) (by omega) (by omega)).mono ?_;rintro e w' ⟨rfl,hb3⟩)
    have HB3:=rG (bt HB2.out hb3);clear hb3
    go_roundw
    case rel=>exact⟨k+1,by omega,vi (by rw[show ((k+1:Nat):Int)+1=(k:Int)+1+1 by omega,HCS.out];omega),by go_num,HB3.out⟩
    case measure=>simp[intOf];omega
  have e:k=n:=by omega
  subst e
  go_wp2
  go_ret2
  exact⟨rfl,HB2.out⟩
theorem VK(y m:Int)(w:World)(h:sJ y m≠0):
 Calls Tryz.prog 159 #[.int .i64 y,.int .i64 m] w fun e w'=>e=.returned (.tuple #[.int .i64 0,.int .i64 (sJ y m)])/\w=w':=by
 have t:(sJ y m !=0)=true:=by rw[aN0];exact h
 have H:=rG h;clear h
 go_enter Tryz.func159,Tryz.ntmps159
 go_wp2_with (go_at_call 157;refine(wC _ _ _ H.out).mono ?_;rintro e w' ⟨rfl,rfl⟩)
 go_ret2
 exact⟨rfl,rfl⟩
theorem BQ(y m:Int)(w:World)(hs:bT w)(h0: -10000000000000000<=y)(h1:y<=10000000000000000)(m0:1<=m)(m1:m<=12):
 Calls Tryz.prog 159 #[.int .i64 y,.int .i64 m] w fun e w'=>e=.returned (.tuple #[.int .i64 (st y+bZ y (m+1) - 1),.int .i64 0])/\Below w.heap.size w w':=by
 obtain⟨b0,b1⟩:=lV (y:=y) (by omega) (by omega);have cb:=@fF y m (by omega) (by omega);have lb:=eG y m;have E:Hid (st y+bZ y m+len y m - 1=st y+bZ y (m+1) - 1):=rG (by rw[bP y m m0 m1];omega)
 go_enter Tryz.func159,Tryz.ntmps159
 go_wp2_with fail
 refine(iK _ _ _ hs h0 h1 m0 m1).mono ?_;rintro e w1 ⟨rfl,hb1⟩
 go_wp2_with fail
 refine(qE _ _ _ (hs.below hb1) h0 h1 m0 m1).mono ?_;rintro e w2 ⟨rfl,hb2⟩
 go_wp2
 go_ret2
 exact⟨aS E.out rfl,bt hb1 hb2⟩
theorem gW{a b c d e f:Int}{k k' k2:IntKind}(h:a=b)(h2:c=d)(h3:e=f):Ending.returned (.tuple #[.int k a,.int k' c,.int k2 e])=.returned (.tuple #[.int k b,.int k' d,.int k2 f]):=by rw[h,h2,h3]
def bF(d:Int):Int × Int × Int:=if -10000000000000000<=dH d/\dH d<=10000000000000000 then(dH d,DV (dH d) (d - st (dH d)),0)else(0,0,6)
theorem uD(d:Int)(w:World)(hs:bT w)(h0: -9223372036854775808<=d)(h1:d<9223372036854775808):
 Calls Tryz.prog 143 #[.int .i64 d] w fun e w'=>e=.returned (.tuple #[.int .i64 (bF d).1,.int .i64 (bF d).2.1,.int .i64 (bF d).2.2])/\Below w.heap.size w w':=by
 have HY:=zB d w hs.steps h0 h1
 by_cases c: -10000000000000000<=dH d/\dH d<=10000000000000000
 . rw [show kK d=(dH d,0) by unfold kK;rw[aDk c]]at HY;have HR:Hid (bF d=(dH d,DV (dH d) (d - st (dH d)),0)):=rG (by unfold bF;rw[aDk c]);obtain⟨s1,s2⟩:=gU d;rw[st_succ]at s2;have hms:=@mG (dH d) (d - st (dH d)) (by omega) (by omega);obtain⟨c0,c1⟩:=c;generalize dH d=y at *;generalize hm:DV y (d - st y)=m at *;have HMU:=rG hm;obtain⟨m0,m1,g0,g1⟩:=hms;have lp1:=uZ y;have HY:=rG HY;have HS:=rG hs;clear hs hm;have sb:=lV (y:=y) (by omega) (by omega);obtain⟨sb0,sb1⟩:=sb;have k0:0<=d - st y:=by omega
   have k1:d - st y<=366:=by omega
   have G0:=rG g0;have G1:=rG g1;clear g0 g1 s1 s2
   go_enter Tryz.func143,Tryz.ntmps143
   go_wp2_with fail
   refine HY.out.mono ?_;rintro e w1 ⟨rfl,hb1⟩
   go_wp2_with fail
   refine(rJ _ _ (HS.out.below hb1).steps (by omega) (by omega)).mono ?_;rintro e w2 ⟨rfl,hb2⟩;have HB:=rG (bt hb1 hb2);clear hb1 hb2
   go_wp2_with fail
   go_loopw [2,7,26] (fun yy l j wr=> ∃k:Nat,(k:Int)+1<=m/\yy=.int .i64 y/\l=.int .i64 (d - st y - bZ y ((k:Int)+1))/\j=.int .i64 (k:Int)/\Below w.heap.size w wr) (fun _ _ j _=>12 - (intOf j).toNat)
   case atStart=>exact⟨0,by omega,rfl,by rw[show ((0:Nat):Int)+1=1 from rfl,yA,Int.sub_zero],rfl,HB.out⟩
   case round=>
    obtain⟨k,hk,rfl,rfl,rfl,hb⟩:=hrel;have HB2:=rG hb;clear hb h0 h1 sb0 sb1;have cb:=@fF y ((k:Int)+1) (by omega) (by omega);have hl:=eG y ((k:Int)+1);have HCS:=rG (bP y ((k:Int)+1) (by omega) (by omega))
    by_cases hlt:(k:Int)+1<m
    . have t: ¬d - st y - bZ y ((k:Int)+1)<len y ((k:Int)+1):=by
       have:=HCS.out;have:=G0.out
       by_cases q:(k:Int)+1+1=m
       . rw[<-q]at this;omega
       have:=@DF y ((k:Int)+1) m (by omega) (by omega) (by omega);omega
      go_wp2_with (go_at_call 163;refine(qE _ _ _ (HS.out.below HB2.out) (by omega) (by omega) (by omega) (by omega)).mono ?_;rintro e w' ⟨rfl,hb3⟩)
      have HB3:=rG (bt HB2.out hb3);clear hb3
      go_roundw
      case rel=>exact⟨k+1,by omega,rfl,vi (by rw[show ((k+1:Nat):Int)+1=(k:Int)+1+1 by omega,HCS.out];omega),by go_num,HB3.out⟩
      case measure=>simp[intOf];omega
    have e:m=(k:Int)+1:=by omega
    subst e;have t:d - st y - bZ y ((k:Int)+1)<len y ((k:Int)+1):=by have:=HCS.out;have:=G1.out;omega
    go_wp2_with (go_at_call 163;refine(qE _ _ _ (HS.out.below HB2.out) (by omega) (by omega) (by omega) (by omega)).mono ?_;rintro e w' ⟨rfl,hb3⟩)
    go_ret3
    exact⟨gW (by rw[HR.out]) (by rw[HR.out]) (by rw[HR.out]),bt HB2.out hb3⟩
 rw[show kK d=(0,6) by unfold kK;rw[aBx c]]at HY;have HR:Hid (bF d=(0,0,6)):=rG (by unfold bF;rw[aBx c]);have HY:=rG HY;clear c hs
 go_enter Tryz.func143,Tryz.ntmps143
 go_wp2_with (go_at_call 140;refine HY.out.mono ?_;rintro e w1 ⟨rfl,hb1⟩)
 go_ret3
 exact⟨gW (by rw[HR.out]) (by rw[HR.out]) (by rw[HR.out]),hb1⟩
end Un
end
section
open Go.RowKit Go.Lib
namespace Bk
open Un (ba bt ri rb)
structure Rw(p:Nat)(vs:List Value)(w W:World):Prop where
 cell: ∀i v,vs[i]? =some v->W.cell? ⟨p,i,none⟩=some v
 free: ∀i,i<vs.length->W.frozen? ⟨p,i,none⟩=false
 new:w.heap.size<=p
 lt:p<W.heap.size
 below:Below w.heap.size w W
theorem Rw.later{p:Nat}{vs:List Value}{w W W2:World}(h:Rw p vs w W)(hb:Below W.heap.size W W2):Rw p vs w W2:=
 ⟨fun i v hv=>(hb.cell (p:=⟨p,i,none⟩) h.lt).trans (h.cell i v hv),fun i hi=>(hb.frozen (p:=⟨p,i,none⟩) h.lt).trans (h.free i hi),h.new,by have:=h.lt;have:=hb.size;omega,bt h.below hb⟩
theorem Rw.range{p:Nat}{vs:List Value}{w W:World}(h:Rw p vs w W):W.rangeAt p 0 vs:=fun j v hv=>by rw[aKP];exact h.cell j v hv
theorem Rw.there{p:Nat}{vs:List Value}{w W:World}(h:Rw p vs w W):W.there p 0 vs.length:=fun j hj=>by
 rw[aKP,h.cell j _ (aEM hj)];exact⟨rfl,h.free j hj⟩
theorem Rw.fresh{w W:World}(hb:Below w.heap.size w W)(vs:List Value)(t:TypeId):Rw W.heap.size vs w (W.alloc (.cells vs.toArray t)):=
 ⟨fun i v hv=>by rw[aYF];simpa using hv,fun i hi=>by simp,hb.size,by show W.heap.size<(W.heap.push _).size;simp,ba hb _⟩
theorem uX(p:Nat)(b:Addr): ∀(vs:List Value) (k:Nat) (W:World),(W.setCells p k vs).frozen? b=W.frozen? b
 |[],_,_=>rfl
 |u::r,k,W=>by unfold World.setCells;rw[uX p b r,aTl]
theorem vN{p:Nat}{w:World}(hp:w.heap.size<=p): ∀(vs:List Value) (k:Nat) (W:World),Below w.heap.size w W->Below w.heap.size w (W.setCells p k vs)
 |[],_,_,h=>h
 |u::r,k,W,h=>by unfold World.setCells;exact vN hp r _ _ (h.setCell hp _)
theorem setCells_size{p:Nat}: ∀(vs:List Value) (k:Nat) (W:World),(W.setCells p k vs).heap.size=W.heap.size
 |[],_,_=>rfl
 |u::r,k,W=>by unfold World.setCells;rw[setCells_size r];simp[World.setCell]
theorem yS{p:Nat}: ∀(vs:List Value) (k:Nat) (W:World),(∀i,k<=i->i<k+vs.length->(W.cell? ⟨p,i,none⟩).isSome=true)-> ∀j v,vs[j]? =some v->(W.setCells p k vs).cell? ⟨p,k+j,none⟩=some v
 |[],k,W,_,j,v,hv=>by simp at hv
 | u::r,k,W,hs,j,v,hv=>by
  unfold World.setCells
  cases j with
  |zero=>
   simp at hv;subst hv;rw[aTs p r (k+1) _ ⟨p,k+0,none⟩ (fun _ _=>.inl (by show k+0<k+1;omega))];obtain⟨x,hx⟩:=aWG.1 (hs k (aEc _) (by simp));exact aWa _ _ _ hx
  |succ j=>
   rw[show k+(j+1)=k+1+j by omega];refine yS r (k+1) _ (fun i h1 h2=>?_) j v (by simpa using hv);rw[aQl _ _ _ _ (by intro e;injection e with _ e2;omega)];exact hs i (by omega) (by simp;omega)
theorem Rw.dB{p:Nat}{vs:List Value}{w W:World}(h:Rw p vs w W)(us:List Value)(hl:us.length=vs.length):Rw p us w (W.setCells p 0 us):=by
 refine⟨fun i v hv=>?_,fun i hi=>by rw[uX];exact h.free i (by omega),h.new,by rw[setCells_size];exact h.lt,vN h.new _ _ _ h.below⟩;have:=yS us 0 W (fun j _ hj=>by
  rw[h.cell j _ (aEM (by omega))];rfl) i v hv
 rw[aKP]at this;exact this
theorem Rw.set{p:Nat}{vs:List Value}{w W:World}(h:Rw p vs w W)(k:Nat)(hk:k<vs.length)(v:Value):Rw p (vs.set k v) w (W.setCell ⟨p,k,none⟩ v):=by
 refine⟨fun i u hu=>?_,fun i hi=>by rw[aTl];exact h.free i (by simpa using hi),h.new,by show p<(W.heap.modify _ _).size;rw[aWl];exact h.lt,h.below.setCell h.new _⟩
 by_cases c:k=i
 . subst c;rw[aYE hk]at hu
   cases hu
   exact aWa _ _ _ (h.cell k _ (aEM hk))
 rw[List.getElem?_set_ne c]at hu;rw[aQl _ _ _ _ (by intro e;injection e with e1 e2;exact c e2)];exact h.cell i u hu
theorem Rw.other{p q:Nat}{vs:List Value}{w W:World}(h:Rw p vs w W)(hne:q≠p)(hq:w.heap.size<=q)(k:Nat)(v:Value):Rw p vs w (W.setCell ⟨q,k,none⟩ v):=by
 refine⟨fun i u hu=>?_,fun i hi=>by rw[aTl];exact h.free i hi,h.new,by show p<(W.heap.modify _ _).size;rw[aWl];exact h.lt,h.below.setCell hq _⟩;rw[aQl _ _ _ _ (by intro e;injection e with e1 e2;exact hne e1)];exact h.cell i u hu
theorem Rw.others{p q:Nat}{vs:List Value}{w W:World}(h:Rw p vs w W)(hne:q≠p)(hq:w.heap.size<=q): ∀(us:List Value) (k:Nat),Rw p vs w (W.setCells q k us):=by
 intro us
 induction us generalizing W with
 |nil=>intro k;exact h
 |cons u r ih=>intro k;unfold World.setCells;exact ih (h.other hne hq k u) (k+1)
end Bk
end
end Go.Proofs.YtacggmlngekidaaGreatDoor
