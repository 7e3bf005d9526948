import Derived.Test.YtebgcnnhokclaaaGreatDoorProg
import Derived.Test.YtebgcnnhokclaaaGreatDoorP2
import Derived.Shelf.Strings.Trim
import Derived.Shelf.Small.Utf8
import Derived.Shelf.Small.Strs
import Derived.Shelf.Strconv.Atoi
import Derived.Shelf.Strconv.Itoa0
import Derived.Shelf.Strconv.AtoiErrFast
import Derived.Shelf.Strconv.ParseIntEmpty
import Derived.Shelf.Strconv.AtoiFail
import Derived.Shelf.LaysM
import Derived.Shelf.Strconv.Clone
import Derived.Shelf.Strconv.SyntaxError
import Derived.Shelf.LaysC
import Derived.Shelf.Strconv.ToError
import Derived.Shelf.Strconv.Lower
import Derived.Shelf.Strconv.ParseUint10
import Derived.Shelf.Strconv.ParseUint10Empty
import Derived.Shelf.Strconv.ParseUint10Any
import Derived.Shelf.Strconv.ParseInt10
import Derived.Shelf.Strconv.AtoiLong
import Derived.Shelf.Strconv.AtoiInnerAll
import Derived.Shelf.Strconv.RangeError
import Derived.Shelf.Strconv.ToErrorRange
import Derived.Shelf.Strconv.AtoiAll
import Derived.Shelf.Strconv.ParseUintEmpty
import Derived.Shelf.Strconv.ParseUint10b64
import Derived.Shelf.Strconv.ParseUint10b32
import Derived.Shelf.Strconv.ParseUint10b16
import Derived.Shelf.Strconv.ParseUint10b8
import Derived.Shelf.Strconv.ParseUint10At
import Derived.Shelf.Strconv.ParseInt10At64
import Derived.Shelf.Strconv.ParseInt10At32
import Derived.Shelf.Strconv.ParseInt10At16
import Derived.Shelf.Strconv.ParseInt10At8
import Derived.Shelf.Strconv.ParseInt10All
import Derived.Shelf.Strconv.ParseIntPublic10
import Derived.Shelf.Strings.Search1
import Derived.Shelf.Strings.Search2
import Derived.Shelf.Strings.Search3
import Derived.Shelf.Strings.Shaped
import Derived.Shelf.GgClosure.StringsIndexFunc
import Derived.Ground.GgwProg
import Derived.Shelf.GgClosure.StringsIndexFuncTop
import Derived.Shelf.Strings.Runes
import Derived.Shelf.Strings.IndexAny
import Derived.Shelf.Strings.AsciiSet
import Derived.Shelf.Strings.IndexAnyAll
import Derived.Shelf.Bits.Mul64
import Derived.Shelf.Unicode.DecodeSlow
import Derived.Shelf.Unicode.DecodeAny
import Derived.Shelf.Unicode.DecodeLast
import Derived.Shelf.Strings.FuncGrows
import Derived.Laws.Runes
import Derived.Laws.RangeAny
import Derived.WalkMore
import Derived.Deep.QuietTactic
import Derived.BigQuiet
import Derived.Laws.Strings
import Derived.Laws.IdiomStrings
import Derived.Laws.BytesArg
import Derived.Deep.DeepCutAuto
import Derived.Deep.CutBlock
import Derived.Deep.MidRow
import Derived.Deep.LoopGhost
import Derived.Laws.EntriesVeiled
import Derived.Deep.RegionHeld3
import Derived.Lib.AtoiErrMem
import Derived.Defers
set_option linter.unusedVariables false
set_option linter.unusedSimpArgs false
set_option linter.unusedSectionVars false
set_option maxRecDepth 1000000
set_option maxHeartbeats 8000000
namespace Go.Proofs.YtebgcnnhokclaaaGreatDoor
abbrev aNI:=@Go.wpList_load_mid
abbrev aQJ:=@Bool.cond_eq_ite
abbrev aQO:=@Go.run_loadVar_mid
abbrev aQQ:=@Go.wpList_store_mid
abbrev aUH:=@Go.Exit.noGoto_ret
abbrev aVN:=@Bool.not_eq_true
abbrev aVQ:=@Bool.and_false
abbrev aWz:=@beq_self_eq_true
abbrev a0U:=@Go.Proofs.enters_of
abbrev a0V:=@Go.bodyPost_ret
abbrev a05:=@Go.all_oneCell_toArray
abbrev a1b:=@Go.ByteArray.toList_mk
abbrev a1c:=@Go.ByteArray.toList_eq
abbrev a1l:=@Go.Exit.noGoto_normal
abbrev a1X:=@Go.Lib.bytesWorld_below
abbrev a2f:=@Bool.or_true
section
open Go.RowKit
namespace Rf
open Sk (oD lH key aY nH eH dH bD)
open Ev (fF)
theorem aPM:vF Tryz.prog 30 1=some 5:=by kernel_rfl
theorem aPL:vF Tryz.prog 30 2=some 6:=by kernel_rfl
theorem aIe:vF Tryz.prog 30 3=some 7:=by kernel_rfl
theorem aS2:one Tryz.prog 9=true:=by kernel_rfl
theorem WO:one Tryz.prog 3=true:=by kernel_rfl
theorem aOD:one Tryz.prog 111=true:=by kernel_rfl
noncomputable def daC:Code:=match(Tryz.f51).body with
 |some c=>c
 |none=>.skip
noncomputable def aUB:Code:=dZ [0] daC
theorem aZK:RK aUB [(none,some 1,.box 84 (.tmp 0)),kc 2 .nilFunc]:=⟨by kernel_rfl,by kernel_rfl⟩
noncomputable def aUA:Code:=dZ [1,0] daC
theorem aZJ:RK aUA [(none,some 3,.makeFunc (.func 76) #[] #[(.tmp 1)]),ka 2 3]:=⟨by kernel_rfl,by kernel_rfl⟩
theorem aZL:daC=(.seq aUB (.seq aUA .ret)):=by kernel_rfl
noncomputable def ptC:Code:=match(Tryz.f52).body with
 |some c=>c
 |none=>.skip
noncomputable def aOl:Code:=dZ [0] ptC
theorem aXK:RK aOl [kc 2 (.int .i64 0)]:=⟨by kernel_rfl,by kernel_rfl⟩
noncomputable def aOk:Code:=dZ [1,0,0,0] ptC
theorem aXJ:RK aOk [km 4 0,kn 5 4,kf 6 30 5 1,kl 7 9 6,(none,some 8,.binOp .eql 9 (.tmp 7) (.const (.string ⟨#[]⟩)) 9),ka 3 8]:=⟨by kernel_rfl,by kernel_rfl⟩
noncomputable def aOj:Code:=dZ [1,0,0,1,0,0] ptC
theorem aXI:RK aOj [kc 2 (.int .i64 1)]:=⟨by kernel_rfl,by kernel_rfl⟩
noncomputable def aOi:Code:=dZ [1,0,0,1,1,0] ptC
theorem aXH:RK aOi [km 10 0,kn 11 10,kf 12 30 11 2,kl 13 9 12,(none,some 14,.binOp .eql 9 (.tmp 13) (.const (.string ⟨#[]⟩)) 9),ka 9 14]:=⟨by kernel_rfl,by kernel_rfl⟩
noncomputable def aOh:Code:=dZ [1,0,0,1,1,1,0,0] ptC
theorem aXG:RK aOh [kc 2 (.int .i64 2)]:=⟨by kernel_rfl,by kernel_rfl⟩
noncomputable def aOg:Code:=dZ [1,1,0] ptC
theorem aXF:RK aOg [kc 2 (.int .i64 3)]:=⟨by kernel_rfl,by kernel_rfl⟩
theorem aXL:ptC=(.seq aOl (.seq (.block 0 (.seq aOk (.cond (.tmp 3) (.seq aOj .ret) (.seq aOi (.cond (.tmp 9) (.seq aOh .ret) .skip))))) (.seq aOg .ret))):=by kernel_rfl
noncomputable def plC:Code:=match(Tryz.f50).body with
 |some c=>c
 |none=>.skip
noncomputable def aOv:Code:=dZ [0] plC
theorem aX8:RK aOv [(none,some 2,.box 111 (.tmp 0))]:=⟨by kernel_rfl,by kernel_rfl⟩
noncomputable def aOu:Code:=dZ [1,0] plC
theorem aX7:RK aOu [(none,some 3,.alloc 3),(none,none,.store 3 (.tmp 3) (.const (.int .i64 0)))]:=⟨by kernel_rfl,by kernel_rfl⟩
noncomputable def aOt:Code:=dZ [1,1,0] plC
theorem aX6:RK aOt [kl 6 84 1,(none,some 7,.call ⟨.value (.func 51),#[(.tmp 6)],#[84]⟩)]:=⟨by kernel_rfl,by kernel_rfl⟩
noncomputable def aOs:Code:=dZ [1,1,1,0,0] plC
theorem aX5:RK aOs [ka 4 8]:=⟨by kernel_rfl,by kernel_rfl⟩
noncomputable def aOr:Code:=dZ [1,1,1,0,1,0,0,0] plC
theorem aX4:RK aOr [km 9 4,(none,some 10,.call ⟨.value (.func 52),#[(.tmp 9)],#[115]⟩),(none,some 11,.move (.const (.int .i64 0)))]:=⟨by kernel_rfl,by kernel_rfl⟩
noncomputable def aOq:Code:=dZ [1,1,1,0,1,0,0,1,0,0,0] plC
theorem aX3:RK aOq [(none,some 12,.binOp .lss 3 (.tmp 11) (.tmp 10) 3)]:=⟨by kernel_rfl,by kernel_rfl⟩
noncomputable def aOp:Code:=dZ [1,1,1,0,1,0,0,1,0,0,1,1,0,0,0] plC
theorem aX2:RK aOp [km 13 11,ka 5 13]:=⟨by kernel_rfl,by kernel_rfl⟩
noncomputable def aSX:Code:=dZ [1,1,1,0,1,0,0,1,0,0,1,1,0,0,1,0] plC
noncomputable def aOo:Code:=dZ [1,1,1,0,1,0,0,1,0,0,1,1,1] plC
theorem aX1:RK aOo [(none,some 31,.binOp .add 3 (.tmp 11) (.const (.int .i64 1)) 3),km 11 31]:=⟨by kernel_rfl,by kernel_rfl⟩
noncomputable def aOn:Code:=dZ [1,1,1,0,1,0,1] plC
theorem aX0:RK aOn [kl 32 3 3,(none,some 33,.binOp .add 3 (.tmp 32) (.const (.int .i64 1)) 3),ks' 3 3 33]:=⟨by kernel_rfl,by kernel_rfl⟩
theorem aX9:plC=(.seq aOv (.seq aOu (.seq aOt (.block 0 (.rangeFunc (.tmp 7) #[8] aOs (.block 1 (.seq (.seq aOr (.block 2 (.loop (.seq aOq (.seq (.cond (.tmp 12) .skip (.exit 2)) (.seq (.block 3 (.seq aOp (.seq aSX (.cond (.tmp 30) .ret .skip)))) aOo)))))) aOn))))))):=by kernel_rfl
def Al(W W1:World)(s:Nat)(el:TypeId)(vs:List Value):Prop:=W.heap.size=s/\W1.heap.size=s+1/\(∀b,b<s->W1.heap[b]? =W.heap[b]?)/\fF W1 s el vs/\Os W W1
theorem dY{W:World}{el:TypeId}(vs:List Value):Al W (W.alloc (.cells vs.toArray el)) W.heap.size el vs:=
 ⟨rfl,by simp,fun b hb=>Below.heap_alloc _ _ _ hb,nH,rfl,rfl,rfl⟩
theorem sJ{W W1:World}{s:Nat}{el:TypeId}{vs us:List Value}(h:Al W W1 s el vs)(hl:us.length=vs.length):Al W (W1.setCells s 0 us) s el us:=by
 obtain⟨h1,h2,h3,h4,h5⟩:=h;have:=Sk.iL (B:=s) (b:=s) (aDT _) us 0 (aDl s W1);refine⟨h1,(Sk.jU us 0 W1).trans h2,fun b hb=>?_,eH h4 hl,h5.trans ⟨this.os,this.tape,this.output⟩⟩;exact(this.block b hb).trans (h3 b hb)
theorem XQ{α β:Type}(f:α->β)(x y:α):(#[x,y]:Array α).map f= #[f x,f y]:=by simp
def prt(mo da:ByteArray):Nat:=if(mo.toList==(⟨#[]⟩:ByteArray).toList)=true then 1 else if(da.toList==(⟨#[]⟩:ByteArray).toList)=true then 2 else 3
theorem aAA(mo da:ByteArray):prt mo da<=3:=by unfold prt;split<;>(try split)<;>omega
section
variable{P:Program}{W:World}{a:Act}{o:Oper}{t:TypeId}{x y:Operand}
theorem VY{len:Nat}{el:TypeId}{b off sz i:Nat}(hu:P.underlying t=some (.array len el))(hz:(P.info? el).map (·.size)=some sz)(hi:i<len)(ho:o.op=.indexAddr t x y)(hx:a.eval x=.pointer (some ⟨b,off,none⟩))(hy:a.eval y=.int .i64 i):
 (execOp a.eval o).run P W=.ok (.value (pa b (off+i * sz))) W:=by
 have h1:(0:Int)<=(i:Int)/\(i:Int)<(len:Int):=⟨by omega,by omega⟩
 cases hq:P.info? el with
 |none=>simp[hq]at hz
 |some q=>
  have hs:q.size=sz:=by simpa[hq]using hz
  unfold execOp;simp[ho,hx,hy,Instr.indexAt,aFF hu,asIntOf,sizeOf,typeInfo,hq,hs,h1,aV9,Instr.sureAddr];intro c;omega
end
theorem aU8(W:World)(n i m:Int):(Instr.build 46 #[(0,.int .i64 n),(1,.int .i64 i),(2,.int .u8 m)]).run Tryz.prog W=.ok (.agg #[.int .i64 n,.int .i64 i,.int .u8 m]) W:=by kernel_rfl
theorem aDM{W:World}{a:Act}{o:Oper}{x y z:Operand}{n i m:Int}(ho:o.op=.build 46 #[(0,x),(1,y),(2,z)])(hx:a.eval x=.int .i64 n)(hy:a.eval y=.int .i64 i)(hz:a.eval z=.int .u8 m):
 (execOp a.eval o).run Tryz.prog W=.ok (.value (.agg #[.int .i64 n,.int .i64 i,.int .u8 m])) W:=by
 have h:(#[(0,x),(1,y),(2,z)]:Array (Nat × Operand)).map (fun p=>(p.1,a.eval p.2))= #[(0,.int .i64 n),(1,.int .i64 i),(2,.int .u8 m)]:=by simp[hx,hy,hz]
 unfold execOp;simp only[ho,aCA,aEz];rw[h,aU8];rfl
theorem aEO(pe:Nat)(W:World):Calls Tryz.prog 51 #[pa pe 0] W fun e W1=>e=.returned (.func (.func 76) #[] #[pa W.heap.size 0])/\Al W W1 W.heap.size 84 [pa pe 0]:=by
 refine(aM8 (n:=0)).1 ?_;refine fO (args:=[pa pe 0]) (N:=4) Tryz.func51 (show _=some daC by kernel_rfl) Tryz.ntmps51 (by simp) fun a h=>?_;rw[aZL];refine aEK (aH aZK fun ops l hK hk=>?_);refine sV (v:=pa W.heap.size 0) hk h (fun _ ho=>pJ (v:=pa pe 0) ho (sT h) rfl) fun l a hk h=>?_;refine aC (v:=.nilFunc) hk h fun l a hk h=>?_;refine s0 hk (aEK (aH aZJ fun ops l hK hk=>?_));refine sV (v:=.func (.func 76) #[] #[pa W.heap.size 0]) hk h (fun _ ho=>QY ho (sT h)) fun l a hk h=>?_;refine aV (v:=.func (.func 76) #[] #[pa W.heap.size 0]) hk h fun l a hk h=>?_;refine s0 hk (aQE ?_);exact kZ (i:=2) h Tryz.results51 (by simp) ⟨rfl,dY [pa pe 0]⟩
section
variable{bx pe nJ bn b off:Nat}{W:World}{r:Option Nat}{n ly:Nat}{Q:Exit->Act->World->Prop}{a:Act}
section
variable{mo da:ByteArray}(hm:W.cell? ⟨b,off+5,none⟩=some (.string mo))(hd:W.cell? ⟨b,off+6,none⟩=some (.string da))
omit hm hd in
theorem pt0 (h:Sl 15 [(0,(pa b off))] a)(k: ∀a,Sl 15 [(0,(pa b off))] a->Q .normal a W):aOl.wpIn (FR r) n Tryz.prog Q a W:=by
 refine aH aXK (fun ops l hK hk=>?_);refine aC (v:=(.int .i64 0)) hk h fun l a hk h=>?_;exact s0 hk (k _ (cO h))
include hm in
omit hd in
theorem pt1 (h:Sl 15 [(0,(pa b off))] a)(k: ∀a,Sl 15 [(0,(pa b off)),(3,(.bool (mo.toList==(⟨#[]⟩:ByteArray).toList)))] a->Q .normal a W):aOk.wpIn (FR r) n Tryz.prog Q a W:=by
 refine aH aXJ (fun ops l hK hk=>?_);refine mV (v:=(pa b off)) hk h fun l a hk h=>?_;refine nV (v:=(pa b off)) hk h fun l a hk h=>?_;refine sV (v:=(pa b (off+5))) hk h (fun _ ho=>dA (b:=b) (o':=off) aPM ho (sT h)) fun l a hk h=>?_;refine lV aS2 (v:=(.string mo)) hk h (hm) fun l a hk h=>?_;refine sV (v:=(.bool (mo.toList==(⟨#[]⟩:ByteArray).toList))) hk h (fun _ ho=>aMB rfl ho (sT h) rfl) fun l a hk h=>?_;refine aV (v:=(.bool (mo.toList==(⟨#[]⟩:ByteArray).toList))) hk h fun l a hk h=>?_;exact s0 hk (k _ (cO h))
include hd in
omit hm in
theorem pt3 (h:Sl 15 [(0,(pa b off))] a)(k: ∀a,Sl 15 [(9,(.bool (da.toList==(⟨#[]⟩:ByteArray).toList)))] a->Q .normal a W):aOi.wpIn (FR r) n Tryz.prog Q a W:=by
 refine aH aXH (fun ops l hK hk=>?_);refine mV (v:=(pa b off)) hk h fun l a hk h=>?_;refine nV (v:=(pa b off)) hk h fun l a hk h=>?_;refine sV (v:=(pa b (off+6))) hk h (fun _ ho=>dA (b:=b) (o':=off) aPL ho (sT h)) fun l a hk h=>?_;refine lV aS2 (v:=(.string da)) hk h (hd) fun l a hk h=>?_;refine sV (v:=(.bool (da.toList==(⟨#[]⟩:ByteArray).toList))) hk h (fun _ ho=>aMB rfl ho (sT h) rfl) fun l a hk h=>?_;refine aV (v:=(.bool (da.toList==(⟨#[]⟩:ByteArray).toList))) hk h fun l a hk h=>?_;exact s0 hk (k _ (cO h))
omit hm hd in
theorem pt2 (h:Sl 15 [] a)(k: ∀a,Sl 15 [(2,(.int .i64 1))] a->Q .normal a W):aOj.wpIn (FR r) n Tryz.prog Q a W:=by
 refine aH aXI (fun ops l hK hk=>?_);refine aC (v:=(.int .i64 1)) hk h fun l a hk h=>?_;exact s0 hk (k _ (cO h))
omit hm hd in
theorem pt4 (h:Sl 15 [] a)(k: ∀a,Sl 15 [(2,(.int .i64 2))] a->Q .normal a W):aOh.wpIn (FR r) n Tryz.prog Q a W:=by
 refine aH aXG (fun ops l hK hk=>?_);refine aC (v:=(.int .i64 2)) hk h fun l a hk h=>?_;exact s0 hk (k _ (cO h))
omit hm hd in
theorem pt5 (h:Sl 15 [] a)(k: ∀a,Sl 15 [(2,(.int .i64 3))] a->Q .normal a W):aOg.wpIn (FR r) n Tryz.prog Q a W:=by
 refine aH aXF (fun ops l hK hk=>?_);refine aC (v:=(.int .i64 3)) hk h fun l a hk h=>?_;exact s0 hk (k _ (cO h))
end
end
theorem aDU{b off:Nat}{W:World}{mo da:ByteArray}(hm:W.cell? ⟨b,off+5,none⟩=some (.string mo))(hd:W.cell? ⟨b,off+6,none⟩=some (.string da)):Calls Tryz.prog 52 #[pa b off] W fun e W1=>e=.returned (.int .i64 (prt mo da:Int))/\W1=W:=by
 refine(aM8 (n:=0)).1 ?_;refine fO (args:=[pa b off]) (N:=15) Tryz.func52 (show _=some ptC by kernel_rfl) Tryz.ntmps52 (by simp) fun a h=>?_;rw[aXL];refine aEK (pt0 h fun a h=>aEK (aP7 (aEK (pt1 hm h fun a h=>?_))));refine jJ (t:=mo.toList==(⟨#[]⟩:ByteArray).toList) h (by simp) (fun c=>?_) (fun c=>?_)
 . refine aEK (pt2 (aAn h) fun a h=>aQE ?_);exact kZ (R:=fun e W1=>e=.returned (.int .i64 (prt mo da:Int))/\W1=W) (i:=2) (v:=.int .i64 1) h Tryz.results52 (by simp) ⟨by unfold prt;rw[aFw c];rfl,rfl⟩
 refine aEK (pt3 hd (cO h) fun a h=>?_);refine jJ (t:=da.toList==(⟨#[]⟩:ByteArray).toList) h (by simp) (fun c2=>?_) (fun c2=>?_)
 . refine aEK (pt4 (aAn h) fun a h=>aQE ?_);exact kZ (R:=fun e W1=>e=.returned (.int .i64 (prt mo da:Int))/\W1=W) (i:=2) (v:=.int .i64 2) h Tryz.results52 (by simp) ⟨by unfold prt;rw[aFv (by rw[c];decide),aFw c2];rfl,rfl⟩
 refine aNH (aEK (pt5 (aAn h) fun a h=>aQE ?_));exact kZ (R:=fun e W1=>e=.returned (.int .i64 (prt mo da:Int))/\W1=W) (i:=2) (v:=.int .i64 3) h Tryz.results52 (by simp) ⟨by unfold prt;rw[aFv (by rw[c];decide),aFv (by rw[c2];decide)];rfl,rfl⟩
section
variable{bx pe nJ bn b off:Nat}{W:World}{r:Option Nat}{n ly:Nat}{Q:Exit->Act->World->Prop}{a:Act}
theorem pl0(h:Sl 34 [(0,(.func (.yield ly) #[] #[])),(1,(pa bx 0))] a)(k: ∀a W1,Al W W1 W.heap.size 111 [(.func (.yield ly) #[] #[])]->Sl 34 [(1,(pa bx 0)),(2,(pa W.heap.size 0))] a->Q .normal a W1):aOv.wpIn (FR r) n Tryz.prog Q a W:=by
 refine aH aX8 (fun ops l hK hk=>?_);refine sV (v:=(pa W.heap.size 0)) hk h (fun _ ho=>pJ (v:=(.func (.yield ly) #[] #[])) ho (sT h) rfl) fun l a hk h=>?_;exact s0 hk (k _ _ (dY [(.func (.yield ly) #[] #[])]) (cO h))
theorem pl1(h:Sl 34 [(1,(pa bx 0)),(2,(pa nJ 0))] a)(k: ∀a W1,Al W W1 W.heap.size 3 [.int .i64 0]->Sl 34 [(1,(pa bx 0)),(2,(pa nJ 0)),(3,(pa W.heap.size 0))] a->Q .normal a W1):aOu.wpIn (FR r) n Tryz.prog Q a W:=by
 refine aH aX7 (fun ops l hK hk=>?_);refine sV (v:=(pa W.heap.size 0)) hk h (fun _ ho=>JL ho (Tryz.zeroValue3 W) rfl) fun l a hk h=>?_;refine ss (g:=none) hk h rfl (fun _ ho=>lG ho (sT h) rfl rfl (show World.there _ W.heap.size 0 1 from bD (dY [.int .i64 0]).2.2.2.1) (by kernel_rfl) rfl) (fun l hk=>?_);exact s0 hk (k _ _ (sJ (dY [.int .i64 0]) rfl) (cO h))
theorem pl2(hc:W.cell? ⟨bx,0,none⟩=some (pa pe 0))(h:Sl 34 [(1,(pa bx 0)),(2,(pa nJ 0)),(3,(pa bn 0))] a)(k: ∀a W1,Al W W1 W.heap.size 84 [pa pe 0]->Sl 34 [(1,(pa bx 0)),(2,(pa nJ 0)),(3,(pa bn 0)),(7,.func (.func 76) #[] #[pa W.heap.size 0])] a->Q .normal a W1):aOt.wpIn (FR r) n Tryz.prog Q a W:=by
 refine aH aX6 (fun ops l hK hk=>?_);refine lV yO (v:=(pa pe 0)) hk h (hc) fun l a hk h=>?_;refine sc hk h rfl (by decide) (fun _ ho=>jB ho Tryz.func51) (R:=fun e W1=>e=.returned (.func (.func 76) #[] #[pa W.heap.size 0])/\Al W W1 W.heap.size 84 [pa pe 0]) (by rw[aFZ,sT h (v:=pa pe 0)];exact aEO pe W) (fun e W1 hR=>⟨_,hR.1,fun l a hk h=>?_⟩);exact s0 hk (k _ _ hR.2 (cO h))
theorem pl3 (h:Sl 34 [(1,(pa bx 0)),(2,(pa nJ 0)),(3,(pa bn 0)),(8,(pa b off))] a)(k: ∀a,Sl 34 [(1,(pa bx 0)),(2,(pa nJ 0)),(3,(pa bn 0)),(4,(pa b off))] a->Q .normal a W):aOs.wpIn (FR r) n Tryz.prog Q a W:=by
 refine aH aX5 (fun ops l hK hk=>?_);refine aV (v:=(pa b off)) hk h fun l a hk h=>?_;exact s0 hk (k _ (cO h))
theorem pl4{mo da:ByteArray}(hm:W.cell? ⟨b,off+5,none⟩=some (.string mo))(hd:W.cell? ⟨b,off+6,none⟩=some (.string da))(h:Sl 34 [(1,(pa bx 0)),(2,(pa nJ 0)),(3,(pa bn 0)),(4,(pa b off))] a)(k: ∀a,Sl 34 [(1,(pa bx 0)),(2,(pa nJ 0)),(3,(pa bn 0)),(4,(pa b off)),(10,.int .i64 (prt mo da:Int)),(11,.int .i64 ((0:Nat):Int))] a->Q .normal a W):aOr.wpIn (FR r) n Tryz.prog Q a W:=by
 refine aH aX4 (fun ops l hK hk=>?_);refine mV (v:=(pa b off)) hk h fun l a hk h=>?_;refine sc hk h rfl (by decide) (fun _ ho=>jB ho Tryz.func52) (R:=fun e W1=>e=.returned (.int .i64 (prt mo da:Int))/\W1=W) (by rw[aFZ,sT h (v:=pa b off)];exact aDU hm hd) (fun e W1 hR=>⟨_,hR.1,fun l a hk h=>?_⟩);obtain⟨_,rfl⟩:=hR;refine sV (v:=.int .i64 ((0:Nat):Int)) hk h (fun _ ho=>jC ho rfl) fun l a hk h=>?_;exact s0 hk (k _ (cO h))
theorem pl5{pt i:Nat}(h:Sl 34 [(1,(pa bx 0)),(2,(pa nJ 0)),(3,(pa bn 0)),(4,(pa b off)),(10,(.int .i64 (pt:Int))),(11,(.int .i64 (i:Int)))] a)(k: ∀a,Sl 34 [(1,(pa bx 0)),(2,(pa nJ 0)),(3,(pa bn 0)),(4,(pa b off)),(10,(.int .i64 (pt:Int))),(11,(.int .i64 (i:Int))),(12,(.bool (decide ((i:Int)<(pt:Int)))))] a->Q .normal a W):aOq.wpIn (FR r) n Tryz.prog Q a W:=by
 refine aH aX3 (fun ops l hK hk=>?_);refine sV (v:=(.bool (decide ((i:Int)<(pt:Int))))) hk h (fun _ ho=>BA (q:=.i64) ho (sT h) (sT h)) fun l a hk h=>?_;exact s0 hk (k _ (cO h))
theorem pl6{pt i:Nat}(h:Sl 34 [(1,(pa bx 0)),(2,(pa nJ 0)),(3,(pa bn 0)),(4,(pa b off)),(10,(.int .i64 (pt:Int))),(11,(.int .i64 (i:Int)))] a)(k: ∀a,Sl 34 [(1,(pa bx 0)),(2,(pa nJ 0)),(3,(pa bn 0)),(4,(pa b off)),(5,(.int .i64 (i:Int))),(10,(.int .i64 (pt:Int))),(11,(.int .i64 (i:Int)))] a->Q .normal a W):aOp.wpIn (FR r) n Tryz.prog Q a W:=by
 refine aH aX2 (fun ops l hK hk=>?_);refine mV (v:=(.int .i64 (i:Int))) hk h fun l a hk h=>?_;refine aV (v:=(.int .i64 (i:Int))) hk h fun l a hk h=>?_;exact s0 hk (k _ (cO h))
theorem pl8{pt i:Nat}(hw:IntKind.i64.wrap ((i:Int)+1)=(i:Int)+1)(h:Sl 34 [(1,(pa bx 0)),(2,(pa nJ 0)),(3,(pa bn 0)),(4,(pa b off)),(10,(.int .i64 (pt:Int))),(11,(.int .i64 (i:Int)))] a)(k: ∀a,Sl 34 [(1,(pa bx 0)),(2,(pa nJ 0)),(3,(pa bn 0)),(4,(pa b off)),(10,(.int .i64 (pt:Int))),(11,(.int .i64 ((i:Int)+1)))] a->Q .normal a W):aOo.wpIn (FR r) n Tryz.prog Q a W:=by
 refine aH aX1 (fun ops l hK hk=>?_);refine sV (v:=(.int .i64 ((i:Int)+1))) hk h (fun _ ho=>JM ho (sT h) rfl hw) fun l a hk h=>?_;refine mV (v:=(.int .i64 ((i:Int)+1))) hk h fun l a hk h=>?_;exact s0 hk (k _ (cO h))
theorem pl9{m:Nat}(hn:fF W bn 3 [.int .i64 (m:Int)])(hw:IntKind.i64.wrap ((m:Int)+1)=(m:Int)+1)(h:Sl 34 [(1,(pa bx 0)),(2,(pa nJ 0)),(3,(pa bn 0))] a)(k: ∀a,Q .normal a (W.setCells bn 0 [.int .i64 ((m:Int)+1)])):aOn.wpIn (FR r) n Tryz.prog Q a W:=by
 refine aH aX0 (fun ops l hK hk=>?_);refine lV WO (v:=(.int .i64 (m:Int))) hk h (aY (j:=0) hn rfl) fun l a hk h=>?_;refine sV (v:=(.int .i64 ((m:Int)+1))) hk h (fun _ ho=>JM ho (sT h) rfl hw) fun l a hk h=>?_;refine ss (g:=none) hk h rfl (fun _ ho=>lG (b:=bn) (off:=0) (v:=.int .i64 ((m:Int)+1)) ho (sT h) (sT h) rfl (show World.there _ bn 0 1 from bD hn) (by kernel_rfl) rfl) (fun l hk=>?_);exact s0 hk (k _)
abbrev pz7(ly bn_ b off i:Nat)(m:Int)(mk:Int):List (Nat × List Nat × Op × Value):=[(14,[],.load 111 (.tmp 2),(.func (.yield ly) #[] #[])),(15,[],.load 3 (.tmp 3),(.int .i64 m)),(16,[],.move (.tmp 5),(.int .i64 (i:Int))),(17,[],.move (.tmp 4),(pa b off)),(18,[],.move (.tmp 5),(.int .i64 (i:Int))),(19,[3],.nilCheck (.tmp 17),(pa b off)),(20,[5],.fieldAddr 30 (.tmp 19) 3,(pa b (off+7))),(21,[6,4],.indexAddr 28 (.tmp 20) (.tmp 18),(pa b (off+7+i * 1))),(22,[7],.load 5 (.tmp 21),(.int .u8 mk)),(23,[1,2,8],.build 46 #[(0,(.tmp 15)),(1,(.tmp 16)),(2,(.tmp 22))],(.agg #[.int .i64 m,.int .i64 (i:Int),.int .u8 mk])),(24,[],.move (.tmp 4),(pa b off)),(25,[],.move (.tmp 5),(.int .i64 (i:Int))),(26,[10],.nilCheck (.tmp 24),(pa b off)),(27,[12],.fieldAddr 30 (.tmp 26) 3,(pa b (off+7))),(28,[13,11],.indexAddr 28 (.tmp 27) (.tmp 25),(pa b (off+7+i * 1)))]
theorem pl7{pt i m:Nat}{mk:Int}(hy:W.cell? ⟨nJ,0,none⟩=some (.func (.yield ly) #[] #[]))(hn:W.cell? ⟨bn,0,none⟩=some (.int .i64 (m:Int)))(hi:i<3)(hmk:W.cell? ⟨b,off+7+i,none⟩=some (.int .u8 mk))(h:Sl 34 [(1,(pa bx 0)),(2,(pa nJ 0)),(3,(pa bn 0)),(4,(pa b off)),(5,.int .i64 (i:Int)),(10,.int .i64 (pt:Int)),(11,.int .i64 (i:Int))] a)
 {X:World->Prop} (hyd:YieldAt (FR none) 0 Tryz.prog ly #[.agg #[.int .i64 (m:Int),.int .i64 (i:Int),.int .u8 mk],pa b (off+7+i)] W.drew fun e W1=>e=.returned (.bool true)/\X W1) (k: ∀a W1,X W1->Sl 34 [(1,(pa bx 0)),(2,(pa nJ 0)),(3,(pa bn 0)),(4,(pa b off)),(10,.int .i64 (pt:Int)),(11,.int .i64 (i:Int)),(30,.bool false)] a->Q .normal a W1):aSX.wpIn (FR r) 0 Tryz.prog Q a W:=by
 have hy:W.drew.cell? ⟨nJ,0,none⟩=some (.func (.yield ly) #[] #[]):=hy;have hn:W.drew.cell? ⟨bn,0,none⟩=some (.int .i64 (m:Int)):=hn;have hmk:W.drew.cell? ⟨b,off+7+i,none⟩=some (.int .u8 mk):=hmk;refine PS (Pz:=pz7 ly bn b off i m mk) (T:=[(none,some 29,.call ⟨.value (.tmp 14),#[(.tmp 23),(.tmp 28)],#[46,96]⟩),(none,some 30,.unOp .not 4 (.tmp 29))]) (TA:=[[0,9,14],[15]]) (by kernel_rfl) (And.intro (by kernel_rfl) (by kernel_rfl)) (by kernel_rfl) (by kernel_rfl) (by simp) (by kernel_rfl) (by simp) (by simp) (by kernel_rfl) (by kernel_rfl) h (fun j x hx o a ho h=>?_) (fun ops l a hK hk h=>?_)
 . match j,hx with
   |0,hx=>
    cases hx
    change Sl 34 ([]++_) a at h;exact kD aOD ho (sT h) hy
   |1,hx=>
    cases hx
    change Sl 34 ([]++_) a at h;exact kD WO ho (sT h) hn
   |2,hx=>
    cases hx
    change Sl 34 ([]++_) a at h;exact jC ho (sT h)
   |3,hx=>
    cases hx
    change Sl 34 ([]++_) a at h;exact jC ho (sT h)
   |4,hx=>
    cases hx
    change Sl 34 ([]++_) a at h;exact jC ho (sT h)
   |5,hx=>
    cases hx
    change Sl 34 ([(17,(pa b off))]++_) a at h;exact AY ho (sT h)
   |6,hx=>
    cases hx
    change Sl 34 ([(19,(pa b off))]++_) a at h;exact dA (b:=b) (o':=off) aIe ho (sT h)
   |7,hx=>
    cases hx
    change Sl 34 ([(20,(pa b (off+7))),(18,(.int .i64 (i:Int)))]++_) a at h;exact VY (len:=3) (el:=5) (sz:=1) (by kernel_rfl) (by kernel_rfl) hi ho (sT h) (sT h)
   |8,hx=>
    cases hx
    change Sl 34 ([(21,(pa b (off+7+i * 1)))]++_) a at h;exact kD (b:=b) (off:=off+7+i * 1) DY ho (sT h) (by rw[a06];exact hmk)
   |9,hx=>
    cases hx
    change Sl 34 ([(15,(.int .i64 (m:Int))),(16,(.int .i64 (i:Int))),(22,(.int .u8 mk))]++_) a at h;exact aDM ho (sT h) (sT h) (sT h)
   |10,hx=>
    cases hx
    change Sl 34 ([]++_) a at h;exact jC ho (sT h)
   |11,hx=>
    cases hx
    change Sl 34 ([]++_) a at h;exact jC ho (sT h)
   |12,hx=>
    cases hx
    change Sl 34 ([(24,(pa b off))]++_) a at h;exact AY ho (sT h)
   |13,hx=>
    cases hx
    change Sl 34 ([(26,(pa b off))]++_) a at h;exact dA (b:=b) (o':=off) aIe ho (sT h)
   |14,hx=>
    cases hx
    change Sl 34 ([(27,(pa b (off+7))),(25,(.int .i64 (i:Int)))]++_) a at h;exact VY (len:=3) (el:=5) (sz:=1) (by kernel_rfl) (by kernel_rfl) hi ho (sT h) (sT h)
   |j+15,hx=>cases hx
 change Sl 34 ([(14,(.func (.yield ly) #[] #[])),(15,(.int .i64 (m:Int))),(16,(.int .i64 (i:Int))),(17,(pa b off)),(18,(.int .i64 (i:Int))),(19,(pa b off)),(20,(pa b (off+7))),(21,(pa b (off+7+i * 1))),(22,(.int .u8 mk)),(23,(.agg #[.int .i64 (m:Int),.int .i64 (i:Int),.int .u8 mk])),(24,(pa b off)),(25,(.int .i64 (i:Int))),(26,(pa b off)),(27,(pa b (off+7))),(28,(pa b (off+7+i * 1)))]++_) a at h;refine sy hk h (by decide) (sT h) (vs:= #[.agg #[.int .i64 (m:Int),.int .i64 (i:Int),.int .u8 mk],pa b (off+7+i)]) (by rw[XQ,sT h (k:=23) (v:=.agg #[.int .i64 (m:Int),.int .i64 (i:Int),.int .u8 mk]),sT h (k:=28) (v:=pa b (off+7+i * 1)),a06]) hyd (fun W1 hx l a hk h=>?_);refine sV (v:=(.bool false)) hk h (fun _ ho=>VX (b:=true) ho (sT h)) fun l a hk h=>?_;exact s0 hk (k _ _ hx (cO h))
end
theorem aUj(p:Tmp)(v:Value)(T:Array Value):((#[p]:Array Tmp).zip #[v]).foldl (fun t (p,v)=>t.setIfInBounds p v) T=T.setIfInBounds p v:=by simp
theorem aM9(p q:Tmp)(v u:Value)(T:Array Value):((#[p,q]:Array Tmp).zip #[v,u]).foldl (fun t (p,v)=>t.setIfInBounds p v) T=(T.setIfInBounds p v).setIfInBounds q u:=by simp
def Gg(K:(Nat->Prop)->World->Prop)(B:Nat->Prop)(W W':World):Prop:= ∃B',K B' W'/\Rest B W W'/\Grow B W B'
theorem YA{K:(Nat->Prop)->World->Prop}{B B1:Nat->Prop}{W W1 W2:World}(h:Rest B W W1)(g:Grow B W B1)(hk:Gg K B1 W1 W2):Gg K B W W2:=
 let⟨B2,h1,h2,h3⟩:=hk;⟨B2,h1,h.trans g h2,g.trans h.1 h3⟩
theorem dF{W W1:World}{s:Nat}{el:TypeId}{vs:List Value}(h:Al W W1 s el vs):W.heap.size<=W1.heap.size/\ ∀b,b<W.heap.size->W1.heap[b]? =W.heap[b]? :=by
 obtain⟨h1,h2,h3,_⟩:=h;exact⟨by omega,fun b hb=>h3 b (by omega)⟩
theorem aL4{W W1:World}{s:Nat}{el:TypeId}{vs:List Value}(h:Al W W1 s el vs)(B:Nat->Prop):Rest B W W1:=⟨(dF h).1,fun b hb _=>(dF h).2 b hb,h.2.2.2.2⟩
theorem aT{W W1:World}{b:Nat}{el:TypeId}{vs:List Value}(h:fF W b el vs)(e:W1.heap[b]? =W.heap[b]?):fF W1 b el vs:=by
 obtain⟨c,fr,h1,h2,h3⟩:=h;exact⟨c,fr,e.trans h1,h2,h3⟩
def Mid(J:Nat->(Nat->Prop)->World->Prop)(nJ bn b2 pe ly:Nat)(q m:Nat)(B':Nat->Prop)(W:World):Prop:=
 ∃B1,J q B1 W/\(∀b,B' b↔B1 b\/b=nJ\/b=bn\/b=b2)/\(¬B1 nJ/\ ¬B1 bn/\ ¬B1 b2)/\fF W nJ 111 [.func (.yield ly) #[] #[]]/\fF W bn 3 [.int .i64 (m:Int)]/\fF W b2 84 [pa pe 0]
section
variable{J:Nat->(Nat->Prop)->World->Prop}{nJ bn b2 pe ly:Nat}
theorem aCJ(hJ:Inv J)(qf mf:Nat->Nat):Inv (fun k=>Mid J nJ bn b2 pe ly (qf k) (mf k)):=by
 refine⟨fun k B W h b hb=>?_,fun k B W W' h hs hk=>?_⟩
 . obtain⟨B1,h1,h2,_,f1,f2,f3⟩:=h;rcases(h2 b).1 hb with h|rfl|rfl|rfl
   . exact hJ.lt _ _ _ h1 b h
   . exact dH f1
   . exact dH f2
   exact dH f3
 obtain⟨B1,h1,h2,n1,f1,f2,f3⟩:=h;exact⟨B1,hJ.keep _ _ _ _ h1 hs (fun b hb=>hk b ((h2 b).2 (.inl hb))),h2,n1,aT f1 (hk _ ((h2 _).2 (.inr (.inl rfl)))),aT f2 (hk _ ((h2 _).2 (.inr (.inr (.inl rfl))))),aT f3 (hk _ ((h2 _).2 (.inr (.inr (.inr rfl)))))⟩
theorem mid_step{q m:Nat}{B1 B':Nat->Prop}{W W':World}(h2: ∀b,B' b↔B1 b\/b=nJ\/b=bn\/b=b2)(n1: ¬B1 nJ/\ ¬B1 bn/\ ¬B1 b2)(f1:fF W nJ 111 [.func (.yield ly) #[] #[]])(f2:fF W bn 3 [.int .i64 (m:Int)])(f3:fF W b2 84 [pa pe 0])
 (hg:Go1 J q B1 W W'):Gg (Mid J nJ bn b2 pe ly q m) B' W W':=by
 obtain⟨B3,h3,r3,g3⟩:=hg;have l1:=dH f1;have l2:=dH f2;have l3:=dH f3;refine⟨fun b=>B3 b\/b=nJ\/b=bn\/b=b2,⟨B3,h3,fun b=>a1s,⟨fun h=>(g3 _ h).elim n1.1 (fun h=>by omega),fun h=>(g3 _ h).elim n1.2.1 (fun h=>by omega),fun h=>(g3 _ h).elim n1.2.2 (fun h=>by omega)⟩,aT f1 (r3.2.1 _ l1 n1.1),aT f2 (r3.2.1 _ l2 n1.2.1),aT f3 (r3.2.1 _ l3 n1.2.2)⟩,
  ⟨r3.1,fun b hb hn=>r3.2.1 b hb (fun h=>hn ((h2 b).2 (.inl h))),r3.2.2⟩,fun b hb=>?_⟩
 rcases hb with hb|hb
 . exact(g3 b hb).imp (fun h=>(h2 b).2 (.inl h)) id
 exact .inl ((h2 b).2 (.inr hb))
theorem aKX{q m m2:Nat}{B':Nat->Prop}{W:World}(hJ:Inv J)(hne:bn≠nJ/\bn≠b2)(h:Mid J nJ bn b2 pe ly q m B' W):Gg (Mid J nJ bn b2 pe ly q m2) B' W (W.setCells bn 0 [.int .i64 (m2:Int)]):=by
 obtain⟨B1,h1,h2,n1,f1,f2,f3⟩:=h;have hs:=Sk.jU (p:=bn) [.int .i64 (m2:Int)] 0 W;have ho: ∀b,b≠bn->(W.setCells bn 0 [.int .i64 (m2:Int)]).heap[b]? =W.heap[b]? :=fun b hb=>by
  show(W.setCell ⟨bn,0,none⟩ _).heap[b]? =_;simp[World.setCell,aMr,aQK hb]
 refine⟨B',⟨B1,hJ.keep _ _ _ _ h1 (by omega) (fun b hb=>ho b (fun e=>n1.2.1 (e ▸ hb))),h2,n1,aT f1 (ho _ (aQK hne.1)),eH f2 rfl,aT f3 (ho _ (aQK hne.2))⟩,⟨by omega,fun b hb hn=>ho b (fun e=>hn ((h2 b).2 (.inr (.inr (.inl e))))),rfl,rfl,rfl⟩,fun b hb=>.inl hb⟩
end
structure Sp(kd fk tk:Int)(bx pe:Nat)(bs:Option Addr)(cp:Nat)(R:List Bool)(PT:Nat->Nat)(W:World):Prop where
 sh:Sh kd fk tk bx pe bs cp R W
 mo: ∀k,k<(DL kd fk tk pe bs R).length-> ∃mo da,W.cell? ⟨((DL kd fk tk pe bs R).getD k (0,0)).1,((DL kd fk tk pe bs R).getD k (0,0)).2+5,none⟩=some (.string mo)/\W.cell? ⟨((DL kd fk tk pe bs R).getD k (0,0)).1,((DL kd fk tk pe bs R).getD k (0,0)).2+6,none⟩=some (.string da)/\PT k=prt mo da
 mks: ∀k,k<(DL kd fk tk pe bs R).length-> ∀i,i<3-> ∃m,W.cell? ⟨((DL kd fk tk pe bs R).getD k (0,0)).1,((DL kd fk tk pe bs R).getD k (0,0)).2+7+i,none⟩=some (.int .u8 m)
def tV(PT:Nat->Nat):Nat->List (Nat × Nat)
 |0=>[]
 |k+1=>tV PT k++(List.range (PT k)).map fun i=>(k,i)
theorem JV(PT:Nat->Nat)(k:Nat):tV PT (k+1)=tV PT k++(List.range (PT k)).map fun i=>(k,i):=rfl
theorem Q8(PT:Nat->Nat)(k:Nat):(tV PT (k+1)).length=(tV PT k).length+PT k:=by rw[JV];simp
theorem aCz(PT:Nat->Nat)(i:Nat): ∀d,tV PT i <+: tV PT (i+d)
 |0=>List.prefix_refl _
 |d+1=>(aCz PT i d).trans (List.prefix_append _ _)
theorem aOw(PT:Nat->Nat){k i n:Nat}(hk:k<n)(hi:i<PT k):(tV PT n).getD ((tV PT k).length+i) (0,0)=(k,i)/\(tV PT k).length+i<(tV PT n).length:=by
 have h:tV PT (k+1) <+: tV PT n:=by
  have:=aCz PT (k+1) (n - (k+1));rwa[show k+1+(n - (k+1))=n by omega]at this
 refine pre_at h ?_;rw[JV,aGq (by omega),show(tV PT k).length+i - (tV PT k).length=i by omega,aFx,aQB hi]
 rfl
def YP(D pl:List (Nat × Nat))(q:Nat)(W:World):Array Value:=
 #[.agg #[.int .i64 ((pl.getD q (0,0)).1:Int),.int .i64 ((pl.getD q (0,0)).2:Int),(W.cell? ⟨(D.getD (pl.getD q (0,0)).1 (0,0)).1,(D.getD (pl.getD q (0,0)).1 (0,0)).2+7+(pl.getD q (0,0)).2,none⟩).getD undef],
  pa (D.getD (pl.getD q (0,0)).1 (0,0)).1 ((D.getD (pl.getD q (0,0)).1 (0,0)).2+7+(pl.getD q (0,0)).2)]
theorem aBr{P:Program}{gf:Nat}{lb:Array Value}{enc:Nat->World->Array Value}{N:Nat}{Rd:World->Prop}{B0:Nat->Prop}{w:World}
 (hw: ∀(ly:Nat) (X:Nat->World->Prop) (W:World),(∀k W,X k W->Rd W)->(∀k W,k<N->X k W->YieldAt (FR none) 0 P ly (enc k W) W fun e W1=>e=.returned (.bool true)/\X (k+1) W1)->X 0 W->
   CallsIn (FR none) 0 P gf (#[.func (.yield ly) #[] #[]]++lb) W fun e W1=>(∃v,e=.returned v)/\X N W1):It P gf lb enc N Rd B0 w:=by
 intro l J hJ hR hY B W h0 hr hb;refine(hw l (fun k W'=>Go1 J k B W W') W (fun k W' h=>let⟨B',h1,_⟩:=h;hR k B' W' h1) (fun k W' hk h=>?_) ⟨B,h0,Rest.refl _ _,fun b hb=>.inl hb⟩).mono fun e W' h=>h;obtain⟨B',h1,h2,h3⟩:=h;obtain⟨fn,tmps,assign,body,hy,hR⟩:=hY k B' W' hk h1;exact⟨fn,tmps,assign,body,hy,hR.mono fun e W2 he=>⟨he.1,Go1.trans h2 h3 he.2⟩⟩
section
variable{kd fk tk:Int}{bx pe:Nat}{bs:Option Addr}{cp:Nat}{R:List Bool}{PT:Nat->Nat}{w:World}{B0:Nat->Prop}
theorem aFS{m:Nat}(h:m<1000000000):IntKind.i64.wrap ((m:Int)+1)=(m:Int)+1:=by have hb:IntKind.i64.bits=64:=rfl;unfold IntKind.wrap;simp[IntKind.signed,hb];omega
theorem aIp(hn:R.length<=1000000):(DL kd fk tk pe bs R).length<=2000002:=by
 unfold DL
 split
 . simp
 split
 . split<;>split<;>simp
 have: ∀n g o,(xU g o R n).length<=2 * n:=fun n g o=>by
  induction n with
  |zero=>simp[xU]
  |succ n ih=>rw[rY,aM5];split<;>simp<;>omega
 exact aJi (this _ _ _) (by omega)
theorem O5(hn:R.length<=1000000):It Tryz.prog 50 #[pa bx 0] (YP (DL kd fk tk pe bs R) (tV PT (DL kd fk tk pe bs R).length)) (tV PT (DL kd fk tk pe bs R).length).length (Sp kd fk tk bx pe bs cp R PT) B0 w:=by
 intro l J hJ hR hY B W h0 hr hb;obtain⟨D,hD⟩: ∃D,D=DL kd fk tk pe bs R:=⟨_,rfl⟩;rw[<-hD]at hY ⊢;have hDl:D.length<=2000002:=by rw[hD];exact aIp hn
 refine DR (args:=[.func (.yield l) #[] #[],pa bx 0]) (N:=34) Tryz.func50 (show _=some plC by kernel_rfl) Tryz.ntmps50 (by simp) fun a h=>?_;rw[aX9];refine aEK (pl0 h fun a W1 A1 h=>?_);refine aEK (pl1 h fun a W2 A2 h=>?_);obtain⟨s1,k1⟩:=dF A1;obtain⟨s2,k2⟩:=dF A2;have z1:=A1.2.1;have z2:=A2.2.1;have KC:=hJ.lt _ _ _ h0;have j2:J 0 B W2:=hJ.keep _ _ _ _ h0 (by omega) (fun b hb=>(k2 b (by have:=KC b hb;omega)).trans (k1 b (KC b hb)));refine aEK (pl2 (hR 0 B W2 j2).sh.bx h fun a W3 A3 h=>?_);obtain⟨s3,k3⟩:=dF A3;have z3:=A3.2.1;have kk: ∀b,b<W.heap.size->W3.heap[b]? =W.heap[b]? :=fun b hb=>(k3 b (by omega)).trans ((k2 b (by omega)).trans (k1 b hb));have j3:J 0 B W3:=hJ.keep _ _ _ _ h0 (by omega) (fun b hb=>kk b (KC b hb));obtain⟨nJ,hby⟩: ∃x,x=W.heap.size:=⟨_,rfl⟩;obtain⟨bn,hbn⟩: ∃x,x=W1.heap.size:=⟨_,rfl⟩;obtain⟨b2,hb2⟩: ∃x,x=W2.heap.size:=⟨_,rfl⟩;rw[<-hby]at A1 h;rw[<-hbn]at A2 h;rw[<-hb2]at A3 h;have f1:fF W3 nJ 111 [.func (.yield l) #[] #[]]:=aT A1.2.2.2.1 ((k3 _ (by omega)).trans (k2 _ (by omega)));have f2:fF W3 bn 3 [.int .i64 ((0:Nat):Int)]:=aT A2.2.2.2.1 (k3 _ (by omega));have f3:fF W3 b2 84 [pa pe 0]:=A3.2.2.2.1;refine aP7 (JJ (I:=fun k=>Mid J nJ bn b2 pe l (tV PT k).length k) (Ax:=fun k a' B' W'=>Mid J nJ bn b2 pe l (tV PT k).length k B' W'/\Sl 34 [(1,pa bx 0),(2,pa nJ 0),(3,pa bn 0),(4,pa (D.getD k (0,0)).1 (D.getD k (0,0)).2)] a')
  (Rd:=Sh kd fk tk b2 pe bs cp R) (B0:=fun b=>B b\/b=nJ\/b=bn\/b=b2) (N:=D.length) (enc:=fun k _=> #[pa (D.getD k (0,0)).1 (D.getD k (0,0)).2]) (gf:=76) (lb:= #[pa b2 0])
  (aCJ hJ (fun k=>(tV PT k).length) (fun k=>k)) (fun a'=>?_) (sT h) (fun args w=>a0U Tryz.func76 (by kernel_rfl) (show _=some Z7 by kernel_rfl) args w) (fun k W=>rfl)
  ⟨B,j3,fun b=>a1s,⟨fun h=>by have:=KC _ h;omega,fun h=>by have:=KC _ h;omega,fun h=>by have:=KC _ h;omega⟩,f1,f2,f3⟩ ?_ ?_ ?_ ?_ ?_)
 . have:=aCJ (nJ:=nJ) (bn:=bn) (b2:=b2) (pe:=pe) (ly:=l) hJ (fun k=>(tV PT k).length) (fun k=>k);exact⟨fun k B W h=>this.lt k B W h.1,fun k B W W' h hs hk=>⟨this.keep k B W W' h.1 hs hk,h.2⟩⟩
 . rintro k B' W' ⟨B1,h1,_,_,_,_,f3⟩;have hs:=(hR _ _ _ h1).sh;exact⟨aY (j:=0) f3 rfl,hs.kd,hs.fk,hs.tk,hs.its,hs.rg⟩
 . rw[hD];exact aBr fun ly X W hX hY h0=>aBQ hX hY h0 hn
 . intro l' k B' W' hk hI;refine pl3 (bx:=bx) (nJ:=nJ) (bn:=bn) (b:=(D.getD k (0,0)).1) (off:=(D.getD k (0,0)).2) ?_ fun a h=>⟨B',⟨hI,h⟩,Rest.refl _ _,fun b hb=>.inl hb⟩;have h2:=nZ (v:=pa (D.getD k (0,0)).1 (D.getD k (0,0)).2) (d:=8) (show Sl 34 _ { tmps:=a.tmps,defers:=[] }from⟨h.size,rfl,h.val⟩) (by decide);rw[aUj];exact(cO h2:Sl 34 [(1,pa bx 0),(2,pa nJ 0),(3,pa bn 0),(8,pa (D.getD k (0,0)).1 (D.getD k (0,0)).2)] (Act.put { tmps:=a.tmps,defers:=[] } (some 8) (pa (D.getD k (0,0)).1 (D.getD k (0,0)).2)))
 . rintro l' k a' B' W' hk ⟨hI,h⟩;obtain⟨B1,h1,h2,n1,g1,g2,g3⟩:=hI;have hsp:=hR _ _ _ h1;obtain⟨mo,da,cm,cd,ePT⟩:=hsp.mo k (by rw[<-hD];exact hk);rw[<-hD]at cm cd;refine aP7 (aEK (aEK (pl4 cm cd h fun a h=>aP7 (pV (fun m a w=> ∃i,m+i=PT k/\Gg (Mid J nJ bn b2 pe l ((tV PT k).length+i) k) B' W' w/\
    Sl 34 [(1,pa bx 0),(2,pa nJ 0),(3,pa bn 0),(4,pa (D.getD k (0,0)).1 (D.getD k (0,0)).2),(10,.int .i64 (PT k:Int)),(11,.int .i64 (i:Int))] a) ?_ (m:=PT k) ⟨0,rfl,⟨B',⟨B1,h1,h2,n1,g1,g2,g3⟩,Rest.refl _ _,fun b hb=>.inl hb⟩,by rw[ePT];exact h⟩))))
   rintro m a w ⟨i,hm,⟨B3,hmid,r3,q3⟩,h⟩;refine aEK (pl5 h fun a h=>?_);refine aEK (jJ (t:=decide ((i:Int)<(PT k:Int))) h (by simp) (fun hi=>aNH ?_) (fun hi=>a0T ?_))
   . have hi:i<PT k:=by have:=aHY hi;omega
     obtain⟨B4,h4,h5,n4,p1,p2,p3⟩:=hmid;have hp3:i<3:=by have:=aAA mo da;omega
     have h4d:J ((tV PT k).length+i) B4 w.drew:=hJ.keep _ _ _ _ h4 (aDT _) (fun b _=>rfl);obtain⟨mk,cmk⟩:=(hR _ _ _ h4).mks k (by rw[<-hD];exact hk) i hp3;rw[<-hD]at cmk;obtain⟨ea,la⟩:=aOw PT (n:=D.length) hk hi;have hy:=hY ((tV PT k).length+i) B4 w.drew la h4d;have een:YP D (tV PT D.length) ((tV PT k).length+i) w.drew= #[.agg #[.int .i64 (k:Int),.int .i64 (i:Int),.int .u8 mk],pa (D.getD k (0,0)).1 ((D.getD k (0,0)).2+7+i)]:=by
      unfold YP;rw[ea];have:w.drew.cell? ⟨(D.getD k (0,0)).1,(D.getD k (0,0)).2+7+i,none⟩=some (.int .u8 mk):=cmk;simp only[this];rfl
     rw[een]at hy;refine aEK (aP7 (aEK (pl6 (bx:=bx) (nJ:=nJ) (bn:=bn) (b:=(D.getD k (0,0)).1) (off:=(D.getD k (0,0)).2) (pt:=PT k) (i:=i) (cO h) fun a h=>?_)));refine aEK (pl7 (aY (j:=0) p1 rfl) (aY (j:=0) p2 rfl) hp3 cmk h hy fun a w1 hg h=>?_);refine aPo (sT h) (aNH ?_);have p1d:fF w.drew nJ 111 [.func (.yield l) #[] #[]]:=p1;have p2d:fF w.drew bn 3 [.int .i64 (k:Int)]:=p2;have p3d:fF w.drew b2 84 [pa pe 0]:=p3;refine pl8 (bx:=bx) (nJ:=nJ) (bn:=bn) (b:=(D.getD k (0,0)).1) (off:=(D.getD k (0,0)).2) (pt:=PT k) (i:=i) (aFS (by omega)) (cO h) fun a h=>?_;refine⟨m - 1,by omega,i+1,by omega,YA (W1:=w.drew) (B1:=B3) ⟨r3.1,r3.2.1,r3.2.2⟩ q3 (mid_step h5 n4 p1d p2d p3d hg),by rw[aVM];exact h⟩
   have hi:i=PT k:=by have:=aOC hi;omega
   subst hi;obtain⟨_,_,_,_,_,p2,_⟩:=id hmid;refine pl9 (bx:=bx) (nJ:=nJ) (m:=k) p2 (aFS (by omega)) (cO h) fun a=>⟨rfl,?_⟩;have:=aKX (m2:=k+1) hJ (by omega) hmid;rw[<-Q8]at this;have e:((k+1:Nat):Int)=(k:Int)+1:=aVM k;rw[e]at this;exact YA r3 q3 this
 intro Db B' W' hI hrest hgrow hDl hnB hdef;obtain⟨B1,h1,h2,n1,g1,g2,g3⟩:=hI;show LeavesInM _ _ _ _ _ _ ({ target:=.collected Db,args:= #[] }::a.defers) _ _;rw[h.defs];have sr:=hrest.1;refine⟨by simp,.inl ⟨_,_,rfl,a0O hdef,?_⟩⟩;refine⟨_,results_none Tryz.results50 _ _ _,⟨_,rfl⟩,B1,hJ.keep _ _ _ _ h1 (by simp) (fun b hb=>rQ (fun e=>hnB (e ▸ (h2 b).2 (.inl hb)))),⟨by simp;omega,fun b hb hn=>?_,(A1.2.2.2.2.trans (A2.2.2.2.2.trans A3.2.2.2.2)).trans (hrest.2.2.trans ⟨rfl,rfl,rfl⟩)⟩,fun b hb=>?_⟩
 . refine(rQ (by omega)).trans ((hrest.2.1 b (by omega) (fun h=>?_)).trans (kk b hb));rcases h with h|h|h|h
   . exact hn h
   . omega
   . omega
   omega
 rcases hgrow b ((h2 b).2 (.inl hb))with(h|h|h|h)|h
 . exact .inl h
 . exact .inr (by omega)
 . exact .inr (by omega)
 . exact .inr (by omega)
 exact .inr (by omega)
end
end Rf
end
section
open Go.RowKit Go.Lib
namespace Sk
open Ev (jK DT LG rH fA hp tb0 aN iD aBn KH aBm l_b l_s iI aX AV IC xM dS aJ aS bT zC)
open Bk (Dt eP cvv)
def yh0:List AV:=[(qb 0),(qb 1),(qs 2),(qi 3),(qi 4)]
def ND:List AV:=[(qb 0),(qb 1),(qs 2),(qi 3),(qi 4),(qs 5),(qs 6),(qu 7),(qu 8),(qu 9)]
def aMa:DT:=(.leaf qf)
theorem aGV(l:Value):aMa.ok tb0 l [] [(126,[.agg yh0],.v (.int .i64 6))] .nil 60 LG 121 [.agg ND] []=true:=by kernel_rfl
theorem aQ4(d:Dt) (w0:World) (H0:Same w0 126 #[(.agg #[(.bool d.neg),(.bool d.long),(.string d.dg),(.int .i64 d.ex),(.int .i64 d.sig)])] (.int .i64 6)):Same w0 121 #[(eP d)] (.bool false):=
 aJ (aGV (lv (dL d) [])) (aN w0) (iD w0) .nil (.cons H0 .nil) (aS (by kernel_rfl)) (by kernel_rfl)
def aL9:DT:=(.node 1 qz (qi 4) (.node 2 (qs 5) (.v (.string ⟨#[]⟩)) (.leaf qt) (.leaf qf)) (.leaf qt))
theorem aGU(l:Value):aL9.ok tb0 l [] [(126,[.agg yh0],qz),(120,[.agg ND],.dG [qz,qf])] .nil 60 LG 121 [.agg ND] []=true:=by kernel_rfl
theorem aQ3(d:Dt) (w0:World) (H0:Same w0 126 #[(.agg #[(.bool d.neg),(.bool d.long),(.string d.dg),(.int .i64 d.ex),(.int .i64 d.sig)])] (.int .i64 0))(H1:Same w0 120 #[(eP d)] (.tuple #[(.int .i64 0),(.bool false)])):Same w0 121 #[(eP d)] (cond (decide (0<d.sig)) (cond (d.mo.toList==(⟨#[]⟩:ByteArray).toList) (.bool true) (.bool false)) (.bool true)):=
 aJ (aGU (lv (dL d) [])) (aN w0) (iD w0) .nil (.cons H0 (.cons H1 .nil)) (aS (by kernel_rfl)) (by kernel_rfl)
def aL8:DT:=(.node 1 qz (qi 4) (.node 2 (qs 5) (.v (.string ⟨#[]⟩)) (.leaf qt) (.leaf qf)) (.leaf qt))
theorem aGT(l:Value):aL8.ok tb0 l [] [(126,[.agg yh0],qz),(120,[.agg ND],.dG [(qi 10),qt]),(170,[.agg yh0],qt)] .nil 60 LG 121 [.agg ND] []=true:=by kernel_rfl
theorem aQ2(d:Dt)(code:Int)(w0:World) (H0:Same w0 126 #[(.agg #[(.bool d.neg),(.bool d.long),(.string d.dg),(.int .i64 d.ex),(.int .i64 d.sig)])] (.int .i64 0))(H1:Same w0 120 #[(eP d)] (.tuple #[(.int .i64 code),(.bool true)]))(H2:Same w0 170 #[(.agg #[(.bool d.neg),(.bool d.long),(.string d.dg),(.int .i64 d.ex),(.int .i64 d.sig)])] (.bool true)):Same w0 121 #[(eP d)] (cond (decide (0<d.sig)) (cond (d.mo.toList==(⟨#[]⟩:ByteArray).toList) (.bool true) (.bool false)) (.bool true)):=
 aJ (aGT (lv (dL d) [.int .i64 code])) (aN w0) (iD w0) .nil (.cons H0 (.cons H1 (.cons H2 .nil))) (aS (by kernel_rfl)) (by kernel_rfl)
def aL7:DT:=(.node 1 qz (qi 4) (.node 2 (qs 5) (.v (.string ⟨#[]⟩)) (.node 0 (qi 12) qz (.leaf qt) (.leaf qf)) (.leaf qf)) (.node 0 (qi 12) qz (.leaf qt) (.leaf qf)))
theorem aGS(l:Value):aL7.ok tb0 l [] [(126,[.agg yh0],qz),(120,[.agg ND],.dG [(qi 10),qt]),(170,[.agg yh0],qf),(141,[.agg yh0],.dG [(qi 11),qz]),(171,[(qi 11),(qi 10)],.dG [rK (qe 13) (qi 14) (qe 15) (qi 16),(qi 12)])] .nil 60 LG 121 [.agg ND] []=true:=by kernel_rfl
theorem aMs(d:Dt)(code:Int)(v:Int)(e:Int)(ra:Int)(rl:Int)(rb:Int)(rh:Int)(w0:World) (H0:Same w0 126 #[(.agg #[(.bool d.neg),(.bool d.long),(.string d.dg),(.int .i64 d.ex),(.int .i64 d.sig)])] (.int .i64 0))(H1:Same w0 120 #[(eP d)] (.tuple #[(.int .i64 code),(.bool true)]))(H2:Same w0 170 #[(.agg #[(.bool d.neg),(.bool d.long),(.string d.dg),(.int .i64 d.ex),(.int .i64 d.sig)])] (.bool false))(H3:Same w0 141 #[(.agg #[(.bool d.neg),(.bool d.long),(.string d.dg),(.int .i64 d.ex),(.int .i64 d.sig)])] (.tuple #[(.int .i64 v),(.int .i64 0)]))(H4:Same w0 171 #[(.int .i64 v),(.int .i64 code)] (.tuple #[(r4 ra rl rb rh),(.int .i64 e)])):Same w0 121 #[(eP d)] (cond (decide (0<d.sig)) (cond (d.mo.toList==(⟨#[]⟩:ByteArray).toList) (cond (e==0) (.bool true) (.bool false)) (.bool false)) (cond (e==0) (.bool true) (.bool false))):=
 aJ (aGS (lv (dL d) [.int .i64 code,.int .i64 v,.int .i64 e,.int .i8 ra,.int .i64 rl,.int .i8 rb,.int .i64 rh])) (aN w0) (iD w0) .nil (.cons H0 (.cons H1 (.cons H2 (.cons H3 (.cons H4 .nil))))) (aS (by kernel_rfl)) (by kernel_rfl)
def aFb:DT:=(.node 3 (qb 13) (qb 13) (.node 3 (qb 14) (qb 14) (.node 2 (qs 5) (.v (.string ⟨#[]⟩)) (.node 2 (qs 6) (.v (.string ⟨#[]⟩)) (.leaf (qi 12)) (.leaf (.v (.int .i64 8)))) (.node 2 (qs 6) (.v (.string ⟨#[]⟩)) (.leaf (qi 12)) (.leaf (.v (.int .i64 8))))) (.leaf (.v (.int .i64 6)))) (.node 3 (qb 14) (qb 14) (.node 2 (qs 5) (.v (.string ⟨#[]⟩)) (.node 2 (qs 6) (.v (.string ⟨#[]⟩)) (.leaf (qi 12)) (.leaf (.v (.int .i64 8)))) (.node 3 (qb 15) (qb 15) (.node 2 (qs 6) (.v (.string ⟨#[]⟩)) (.leaf (qi 12)) (.node 3 (qb 16) (qb 16) (.leaf (qi 12)) (.leaf (.v (.int .i64 8))))) (.leaf (.v (.int .i64 7))))) (.leaf (.v (.int .i64 6)))))
theorem aAS(l:Value):aFb.ok tb0 l [] [(120,[.agg ND],.dG [(qi 10),(qb 13)]),(121,[.agg ND],(qb 14)),(122,[(qs 5),.v (.int .i64 12)],(qb 15)),(122,[(qs 6),.v (.int .i64 31)],(qb 16)),(89,[.agg ND],(qi 11)),(123,[.agg [(qu 7),(qu 8),(qu 9)],(qi 11)],(qi 12))] .nil 60 LG 88 [.agg ND] []=true:=by kernel_rfl
theorem aJA(d:Dt)(code:Int)(n:Int)(e:Int)(se:Bool)(yo:Bool)(g:Bool)(h:Bool)(w0:World) (H0:Same w0 120 #[(eP d)] (.tuple #[(.int .i64 code),(.bool se)]))(H1:Same w0 121 #[(eP d)] (.bool yo))(H2:Same w0 122 #[(.string d.mo),(.int .i64 12)] (.bool g))(H3:Same w0 122 #[(.string d.da),(.int .i64 31)] (.bool h))(H4:Same w0 89 #[(eP d)] (.int .i64 n))(H5:Same w0 123 #[(.agg #[(.int .u8 d.m0),(.int .u8 d.m1),(.int .u8 d.m2)]),(.int .i64 n)] (.int .i64 e)):Same w0 88 #[(eP d)] (cond se (cond yo (cond (d.mo.toList==(⟨#[]⟩:ByteArray).toList) (cond (d.da.toList==(⟨#[]⟩:ByteArray).toList) (.int .i64 e) (.int .i64 8)) (cond (d.da.toList==(⟨#[]⟩:ByteArray).toList) (.int .i64 e) (.int .i64 8))) (.int .i64 6)) (cond yo (cond (d.mo.toList==(⟨#[]⟩:ByteArray).toList) (cond (d.da.toList==(⟨#[]⟩:ByteArray).toList) (.int .i64 e) (.int .i64 8)) (cond g (cond (d.da.toList==(⟨#[]⟩:ByteArray).toList) (.int .i64 e) (cond h (.int .i64 e) (.int .i64 8))) (.int .i64 7))) (.int .i64 6))):=
 aJ (aAS (lv (dL d) [.int .i64 code,.int .i64 n,.int .i64 e,.bool se,.bool yo,.bool g,.bool h])) (aN w0) (iD w0) .nil (.cons H0 (.cons H1 (.cons H2 (.cons H3 (.cons H4 (.cons H5 .nil)))))) (aS (by kernel_rfl)) (by kernel_rfl)
def aFa:DT:=(.node 1 (.v (.int .u8 3)) (qu 0) (.leaf (.v (.int .i64 9))) (.node 1 (.v (.int .u8 3)) (qu 1) (.leaf (.v (.int .i64 9))) (.node 0 (qu 1) (.v (.int .u8 0)) (.node 1 (.v (.int .u8 3)) (qu 2) (.leaf (.v (.int .i64 9))) (.node 0 (qu 2) (.v (.int .u8 0)) (.leaf qz) (.leaf (.v (.int .i64 9))))) (.leaf (.v (.int .i64 9))))))
theorem aAR(l:Value):aFa.ok tb0 l [] [] .nil 60 LG 123 [.agg [(qu 0),(qu 1),(qu 2)],.v (.int .i64 1)] []=true:=by kernel_rfl
theorem aJz (a:Int)(b:Int)(c:Int)(w0:World)  :Same w0 123 #[(.agg #[(.int .u8 a),(.int .u8 b),(.int .u8 c)]),(.int .i64 1)] (cond (decide (3<a)) (.int .i64 9) (cond (decide (3<b)) (.int .i64 9) (cond (b==0) (cond (decide (3<c)) (.int .i64 9) (cond (c==0) (.int .i64 0) (.int .i64 9))) (.int .i64 9)))):=
 aJ (aAR (.agg #[.int .u8 a,.int .u8 b,.int .u8 c])) (aN w0) (iD w0) .nil .nil (aS (by kernel_rfl)) (by kernel_rfl)
def aE9:DT:=(.node 1 (.v (.int .u8 3)) (qu 0) (.leaf (.v (.int .i64 9))) (.node 1 (.v (.int .u8 3)) (qu 1) (.leaf (.v (.int .i64 9))) (.node 1 (.v (.int .u8 3)) (qu 2) (.leaf (.v (.int .i64 9))) (.node 0 (qu 2) (.v (.int .u8 0)) (.leaf qz) (.leaf (.v (.int .i64 9)))))))
theorem aAQ(l:Value):aE9.ok tb0 l [] [] .nil 60 LG 123 [.agg [(qu 0),(qu 1),(qu 2)],.v (.int .i64 2)] []=true:=by kernel_rfl
theorem aJy (a:Int)(b:Int)(c:Int)(w0:World)  :Same w0 123 #[(.agg #[(.int .u8 a),(.int .u8 b),(.int .u8 c)]),(.int .i64 2)] (cond (decide (3<a)) (.int .i64 9) (cond (decide (3<b)) (.int .i64 9) (cond (decide (3<c)) (.int .i64 9) (cond (c==0) (.int .i64 0) (.int .i64 9))))):=
 aJ (aAQ (.agg #[.int .u8 a,.int .u8 b,.int .u8 c])) (aN w0) (iD w0) .nil .nil (aS (by kernel_rfl)) (by kernel_rfl)
def aE8:DT:=(.node 1 (.v (.int .u8 3)) (qu 0) (.leaf (.v (.int .i64 9))) (.node 1 (.v (.int .u8 3)) (qu 1) (.leaf (.v (.int .i64 9))) (.node 1 (.v (.int .u8 3)) (qu 2) (.leaf (.v (.int .i64 9))) (.leaf qz))))
theorem aAP(l:Value):aE8.ok tb0 l [] [] .nil 60 LG 123 [.agg [(qu 0),(qu 1),(qu 2)],.v (.int .i64 3)] []=true:=by kernel_rfl
theorem aJx (a:Int)(b:Int)(c:Int)(w0:World)  :Same w0 123 #[(.agg #[(.int .u8 a),(.int .u8 b),(.int .u8 c)]),(.int .i64 3)] (cond (decide (3<a)) (.int .i64 9) (cond (decide (3<b)) (.int .i64 9) (cond (decide (3<c)) (.int .i64 9) (.int .i64 0)))):=
 aJ (aAP (.agg #[.int .u8 a,.int .u8 b,.int .u8 c])) (aN w0) (iD w0) .nil .nil (aS (by kernel_rfl)) (by kernel_rfl)
def aB5:DT:=(.node 1 (.v (.int .u8 3)) (qu 0) (.leaf (.v (.int .i64 9))) (.node 1 (.v (.int .u8 3)) (qu 1) (.leaf (.v (.int .i64 9))) (.node 1 (.v (.int .u8 0)) (qu 1) (.leaf (.v (.int .i64 9))) (.node 1 (.v (.int .u8 3)) (qu 2) (.leaf (.v (.int .i64 9))) (.node 1 (.v (.int .u8 0)) (qu 2) (.leaf (.v (.int .i64 9))) (.leaf qz))))))
theorem WT(l:Value):aB5.ok tb0 l [] [] .nil 60 LG 156 [.agg [(qu 0),(qu 1),(qu 2)],.v (.int .i64 1)] []=true:=by kernel_rfl
theorem aFC (a:Int)(b:Int)(c:Int)(w0:World)  :Same w0 156 #[(.agg #[(.int .u8 a),(.int .u8 b),(.int .u8 c)]),(.int .i64 1)] (cond (decide (3<a)) (.int .i64 9) (cond (decide (3<b)) (.int .i64 9) (cond (decide (0<b)) (.int .i64 9) (cond (decide (3<c)) (.int .i64 9) (cond (decide (0<c)) (.int .i64 9) (.int .i64 0)))))):=
 aJ (WT (.agg #[.int .u8 a,.int .u8 b,.int .u8 c])) (aN w0) (iD w0) .nil .nil (aS (by kernel_rfl)) (by kernel_rfl)
def aB4:DT:=(.node 1 (.v (.int .u8 3)) (qu 0) (.leaf (.v (.int .i64 9))) (.node 1 (.v (.int .u8 3)) (qu 1) (.leaf (.v (.int .i64 9))) (.node 1 (.v (.int .u8 3)) (qu 2) (.leaf (.v (.int .i64 9))) (.node 1 (.v (.int .u8 0)) (qu 2) (.leaf (.v (.int .i64 9))) (.leaf qz)))))
theorem WS(l:Value):aB4.ok tb0 l [] [] .nil 60 LG 156 [.agg [(qu 0),(qu 1),(qu 2)],.v (.int .i64 2)] []=true:=by kernel_rfl
theorem aFB (a:Int)(b:Int)(c:Int)(w0:World)  :Same w0 156 #[(.agg #[(.int .u8 a),(.int .u8 b),(.int .u8 c)]),(.int .i64 2)] (cond (decide (3<a)) (.int .i64 9) (cond (decide (3<b)) (.int .i64 9) (cond (decide (3<c)) (.int .i64 9) (cond (decide (0<c)) (.int .i64 9) (.int .i64 0))))):=
 aJ (WS (.agg #[.int .u8 a,.int .u8 b,.int .u8 c])) (aN w0) (iD w0) .nil .nil (aS (by kernel_rfl)) (by kernel_rfl)
def aB3:DT:=(.node 1 (.v (.int .u8 3)) (qu 0) (.leaf (.v (.int .i64 9))) (.node 1 (.v (.int .u8 3)) (qu 1) (.leaf (.v (.int .i64 9))) (.node 1 (.v (.int .u8 3)) (qu 2) (.leaf (.v (.int .i64 9))) (.leaf qz))))
theorem WR(l:Value):aB3.ok tb0 l [] [] .nil 60 LG 156 [.agg [(qu 0),(qu 1),(qu 2)],.v (.int .i64 3)] []=true:=by kernel_rfl
theorem aFA (a:Int)(b:Int)(c:Int)(w0:World)  :Same w0 156 #[(.agg #[(.int .u8 a),(.int .u8 b),(.int .u8 c)]),(.int .i64 3)] (cond (decide (3<a)) (.int .i64 9) (cond (decide (3<b)) (.int .i64 9) (cond (decide (3<c)) (.int .i64 9) (.int .i64 0)))):=
 aJ (WR (.agg #[.int .u8 a,.int .u8 b,.int .u8 c])) (aN w0) (iD w0) .nil .nil (aS (by kernel_rfl)) (by kernel_rfl)
def aE7:DT:=(.node 2 (qs 5) (.v (.string ⟨#[]⟩)) (.node 2 (qs 6) (.v (.string ⟨#[]⟩)) (.leaf (.v (.int .i64 1))) (.leaf (.v (.int .i64 2)))) (.node 2 (qs 6) (.v (.string ⟨#[]⟩)) (.leaf (.v (.int .i64 2))) (.leaf (.v (.int .i64 3)))))
theorem aAO(l:Value):aE7.ok tb0 l [] [] .nil 60 LG 46 [.agg ND] []=true:=by kernel_rfl
theorem aJw(d:Dt) (w0:World)  :Same w0 46 #[(eP d)] (cond (d.mo.toList==(⟨#[]⟩:ByteArray).toList) (cond (d.da.toList==(⟨#[]⟩:ByteArray).toList) (.int .i64 1) (.int .i64 2)) (cond (d.da.toList==(⟨#[]⟩:ByteArray).toList) (.int .i64 2) (.int .i64 3))):=
 aJ (aAO (lv (dL d) [])) (aN w0) (iD w0) .nil .nil (aS (by kernel_rfl)) (by kernel_rfl)
def aI1:DT:=(.node 2 (qs 5) (.v (.string ⟨#[]⟩)) (.node 2 (qs 6) (.v (.string ⟨#[]⟩)) (.leaf (.v (.int .i64 1))) (.leaf (.v (.int .i64 2)))) (.node 2 (qs 6) (.v (.string ⟨#[]⟩)) (.leaf (.v (.int .i64 2))) (.leaf (.v (.int .i64 3)))))
theorem aD3(l:Value):aI1.ok tb0 l [] [] .nil 60 LG 89 [.agg ND] []=true:=by kernel_rfl
theorem aNq(d:Dt) (w0:World)  :Same w0 89 #[(eP d)] (cond (d.mo.toList==(⟨#[]⟩:ByteArray).toList) (cond (d.da.toList==(⟨#[]⟩:ByteArray).toList) (.int .i64 1) (.int .i64 2)) (cond (d.da.toList==(⟨#[]⟩:ByteArray).toList) (.int .i64 2) (.int .i64 3))):=
 aJ (aD3 (lv (dL d) [])) (aN w0) (iD w0) .nil .nil (aS (by kernel_rfl)) (by kernel_rfl)
def aE6:DT:=(.leaf qz)
theorem aAN(l:Value):aE6.ok tb0 l [] [(68,[.agg yh0],qz)] .nil 60 LG 154 [.agg ND] []=true:=by kernel_rfl
theorem aJv(d:Dt) (w0:World) (H0:Same w0 68 #[(.agg #[(.bool d.neg),(.bool d.long),(.string d.dg),(.int .i64 d.ex),(.int .i64 d.sig)])] (.int .i64 0)):Same w0 154 #[(eP d)] (.int .i64 0):=
 aJ (aAN (lv (dL d) [])) (aN w0) (iD w0) .nil (.cons H0 .nil) (aS (by kernel_rfl)) (by kernel_rfl)
def aE5:DT:=(.node 1 qz (qi 4) (.node 2 (qs 5) (.v (.string ⟨#[]⟩)) (.node 0 (qi 10) (.v (.int .i64 24)) (.leaf (.v (.int .i64 1))) (.node 0 (qi 10) (.v (.int .i64 28)) (.leaf (.v (.int .i64 1))) (.node 0 (qi 10) (.v (.int .i64 30)) (.leaf (.v (.int .i64 1))) (.leaf (.v (.int .i64 1)))))) (.leaf qz)) (.node 0 (qi 10) (.v (.int .i64 24)) (.leaf (.v (.int .i64 1))) (.node 0 (qi 10) (.v (.int .i64 28)) (.leaf (.v (.int .i64 1))) (.node 0 (qi 10) (.v (.int .i64 30)) (.leaf (.v (.int .i64 1))) (.leaf (.v (.int .i64 1)))))))
theorem aAM(l:Value):aE5.ok tb0 l [] [(68,[.agg yh0],.v (.int .i64 1)),(44,[.agg ND],(qi 10)),(196,[.agg yh0],.v (.int .i64 1))] .nil 60 LG 154 [.agg ND] []=true:=by kernel_rfl
theorem aJu(d:Dt)(code:Int)(w0:World) (H0:Same w0 68 #[(.agg #[(.bool d.neg),(.bool d.long),(.string d.dg),(.int .i64 d.ex),(.int .i64 d.sig)])] (.int .i64 1))(H1:Same w0 44 #[(eP d)] (.int .i64 code))(H2:Same w0 196 #[(.agg #[(.bool d.neg),(.bool d.long),(.string d.dg),(.int .i64 d.ex),(.int .i64 d.sig)])] (.int .i64 1)):Same w0 154 #[(eP d)] (cond (decide (0<d.sig)) (cond (d.mo.toList==(⟨#[]⟩:ByteArray).toList) (cond (code==24) (.int .i64 1) (cond (code==28) (.int .i64 1) (cond (code==30) (.int .i64 1) (.int .i64 1)))) (.int .i64 0)) (cond (code==24) (.int .i64 1) (cond (code==28) (.int .i64 1) (cond (code==30) (.int .i64 1) (.int .i64 1))))):=
 aJ (aAM (lv (dL d) [.int .i64 code])) (aN w0) (iD w0) .nil (.cons H0 (.cons H1 (.cons H2 .nil))) (aS (by kernel_rfl)) (by kernel_rfl)
def aE4:DT:=(.node 1 qz (qi 4) (.node 2 (qs 5) (.v (.string ⟨#[]⟩)) (.node 0 (qi 10) (.v (.int .i64 24)) (.node 0 (qi 11) (.v (.int .i64 10000000000000000)) (.node 3 (qb 0) (qb 0) (.leaf (.v (.int .i64 1))) (.leaf qz)) (.leaf (.v (.int .i64 1)))) (.node 0 (qi 10) (.v (.int .i64 28)) (.node 0 (qi 11) (.v (.int .i64 10000000000000000)) (.node 3 (qb 0) (qb 0) (.leaf (.v (.int .i64 1))) (.leaf qz)) (.leaf (.v (.int .i64 1)))) (.node 0 (qi 10) (.v (.int .i64 30)) (.node 0 (qi 11) (.v (.int .i64 10000000000000000)) (.node 3 (qb 0) (qb 0) (.leaf (.v (.int .i64 1))) (.leaf qz)) (.leaf (.v (.int .i64 1)))) (.leaf (.v (.int .i64 1)))))) (.leaf qz)) (.node 0 (qi 10) (.v (.int .i64 24)) (.node 0 (qi 11) (.v (.int .i64 10000000000000000)) (.node 3 (qb 0) (qb 0) (.leaf (.v (.int .i64 1))) (.leaf qz)) (.leaf (.v (.int .i64 1)))) (.node 0 (qi 10) (.v (.int .i64 28)) (.node 0 (qi 11) (.v (.int .i64 10000000000000000)) (.node 3 (qb 0) (qb 0) (.leaf (.v (.int .i64 1))) (.leaf qz)) (.leaf (.v (.int .i64 1)))) (.node 0 (qi 10) (.v (.int .i64 30)) (.node 0 (qi 11) (.v (.int .i64 10000000000000000)) (.node 3 (qb 0) (qb 0) (.leaf (.v (.int .i64 1))) (.leaf qz)) (.leaf (.v (.int .i64 1)))) (.leaf (.v (.int .i64 1)))))))
theorem aAL(l:Value):aE4.ok tb0 l [] [(68,[.agg yh0],.v (.int .i64 1)),(44,[.agg ND],(qi 10)),(196,[.agg yh0],qz),(71,[(qs 2),(qi 3)],.dG [(qi 11),(qi 12)])] .nil 60 LG 154 [.agg ND] []=true:=by kernel_rfl
theorem aJt(d:Dt)(code:Int)(v:Int)(x:Int)(w0:World) (H0:Same w0 68 #[(.agg #[(.bool d.neg),(.bool d.long),(.string d.dg),(.int .i64 d.ex),(.int .i64 d.sig)])] (.int .i64 1))(H1:Same w0 44 #[(eP d)] (.int .i64 code))(H2:Same w0 196 #[(.agg #[(.bool d.neg),(.bool d.long),(.string d.dg),(.int .i64 d.ex),(.int .i64 d.sig)])] (.int .i64 0))(H3:Same w0 71 #[(.string d.dg),(.int .i64 d.ex)] (.tuple #[(.int .i64 v),(.int .i64 x)])):Same w0 154 #[(eP d)] (cond (decide (0<d.sig)) (cond (d.mo.toList==(⟨#[]⟩:ByteArray).toList) (cond (code==24) (cond (v==10000000000000000) (cond d.neg (.int .i64 1) (.int .i64 0)) (.int .i64 1)) (cond (code==28) (cond (v==10000000000000000) (cond d.neg (.int .i64 1) (.int .i64 0)) (.int .i64 1)) (cond (code==30) (cond (v==10000000000000000) (cond d.neg (.int .i64 1) (.int .i64 0)) (.int .i64 1)) (.int .i64 1)))) (.int .i64 0)) (cond (code==24) (cond (v==10000000000000000) (cond d.neg (.int .i64 1) (.int .i64 0)) (.int .i64 1)) (cond (code==28) (cond (v==10000000000000000) (cond d.neg (.int .i64 1) (.int .i64 0)) (.int .i64 1)) (cond (code==30) (cond (v==10000000000000000) (cond d.neg (.int .i64 1) (.int .i64 0)) (.int .i64 1)) (.int .i64 1))))):=
 aJ (aAL (lv (dL d) [.int .i64 code,.int .i64 v,.int .i64 x])) (aN w0) (iD w0) .nil (.cons H0 (.cons H1 (.cons H2 (.cons H3 .nil)))) (aS (by kernel_rfl)) (by kernel_rfl)
def aB6:DT:=(.node 0 (qi 10) qz (.leaf (.v (.int .i64 6))) (.node 2 (qs 5) (.v (.string ⟨#[]⟩)) (.node 2 (qs 6) (.v (.string ⟨#[]⟩)) (.leaf (qi 15)) (.leaf (.v (.int .i64 8)))) (.node 0 (qi 11) qz (.node 0 (qi 12) qz (.leaf (.v (.int .i64 7))) (.node 2 (qs 6) (.v (.string ⟨#[]⟩)) (.leaf (qi 15)) (.node 1 qz (qi 11) DT.no (.node 0 (qi 13) qz (.leaf (.v (.int .i64 8))) (.leaf (qi 15)))))) (.node 2 (qs 6) (.v (.string ⟨#[]⟩)) (.leaf (qi 15)) (.node 1 qz (qi 11) (.leaf (.v (.int .i64 8))) (.node 0 (qi 13) qz (.leaf (.v (.int .i64 8))) (.leaf (qi 15))))))))
theorem WU(l:Value):aB6.ok tb0 l [] [(154,[.agg ND],(qi 10)),(44,[.agg ND],(qi 11)),(155,[(qs 5),.v (.int .i64 12)],(qi 12)),(155,[(qs 6),.v (.int .i64 31)],(qi 13)),(46,[.agg ND],(qi 14)),(156,[.agg [(qu 7),(qu 8),(qu 9)],(qi 14)],(qi 15))] .nil 60 LG 109 [.agg ND] []=true:=by kernel_rfl
theorem aFD(d:Dt)(yr:Int)(code:Int)(u:Int)(v:Int)(n:Int)(e:Int)(w0:World) (H0:Same w0 154 #[(eP d)] (.int .i64 yr))(H1:Same w0 44 #[(eP d)] (.int .i64 code))(H2:Same w0 155 #[(.string d.mo),(.int .i64 12)] (.int .i64 u))(H3:Same w0 155 #[(.string d.da),(.int .i64 31)] (.int .i64 v))(H4:Same w0 46 #[(eP d)] (.int .i64 n))(H5:Same w0 156 #[(.agg #[(.int .u8 d.m0),(.int .u8 d.m1),(.int .u8 d.m2)]),(.int .i64 n)] (.int .i64 e)):Same w0 109 #[(eP d)] (cond (yr==0) (.int .i64 6) (cond (d.mo.toList==(⟨#[]⟩:ByteArray).toList) (cond (d.da.toList==(⟨#[]⟩:ByteArray).toList) (.int .i64 e) (.int .i64 8)) (cond (code==0) (cond (u==0) (.int .i64 7) (cond (d.da.toList==(⟨#[]⟩:ByteArray).toList) (.int .i64 e) (cond (decide (0<code)) (.bool false) (cond (v==0) (.int .i64 8) (.int .i64 e))))) (cond (d.da.toList==(⟨#[]⟩:ByteArray).toList) (.int .i64 e) (cond (decide (0<code)) (.int .i64 8) (cond (v==0) (.int .i64 8) (.int .i64 e))))))):=
 aJ (WU (lv (dL d) [.int .i64 yr,.int .i64 code,.int .i64 u,.int .i64 v,.int .i64 n,.int .i64 e])) (aN w0) (iD w0) .nil (.cons H0 (.cons H1 (.cons H2 (.cons H3 (.cons H4 (.cons H5 .nil)))))) (bT (by kernel_rfl:_=((((yr==0)=true->True)/\((yr==0)=false->(((d.mo.toList==(⟨#[]⟩:ByteArray).toList)=true->(((d.da.toList==(⟨#[]⟩:ByteArray).toList)=true->True)/\((d.da.toList==(⟨#[]⟩:ByteArray).toList)=false->True)))/\((d.mo.toList==(⟨#[]⟩:ByteArray).toList)=false->(((code==0)=true->(((u==0)=true->True)/\((u==0)=false->(((d.da.toList==(⟨#[]⟩:ByteArray).toList)=true->True)/\((d.da.toList==(⟨#[]⟩:ByteArray).toList)=false->(((decide (0<code))=true->False)/\((decide (0<code))=false->(((v==0)=true->True)/\((v==0)=false->True)))))))))/\((code==0)=false->(((d.da.toList==(⟨#[]⟩:ByteArray).toList)=true->True)/\((d.da.toList==(⟨#[]⟩:ByteArray).toList)=false->(((decide (0<code))=true->True)/\((decide (0<code))=false->(((v==0)=true->True)/\((v==0)=false->True)))))))))))))) (⟨fun h0=>trivial,fun h0=>⟨fun h1=>⟨fun h2=>trivial,fun h2=>trivial⟩,fun h1=>⟨fun h2=>⟨fun h3=>trivial,fun h3=>⟨fun h4=>trivial,fun h4=>⟨fun h5=>(by simp only[aFy,aB1,aEv,aCk]at *;omega),fun h5=>⟨fun h6=>trivial,fun h6=>trivial⟩⟩⟩⟩,fun h2=>⟨fun h3=>trivial,fun h3=>⟨fun h4=>trivial,fun h4=>⟨fun h5=>trivial,fun h5=>trivial⟩⟩⟩⟩⟩⟩)) (by kernel_rfl)
end Sk
end
end Go.Proofs.YtebgcnnhokclaaaGreatDoor
namespace Go.Proofs
open Go.Shelf
theorem Tryz.gW{P:Program}{n:Nat}{f g:Func}(h:P.funcs[n]? =some f)(e:f=g:=by kernel_rfl):P.funcs[n]? =some g:=h.trans (congrArg some e)
def Tryz.XZ:Go.Shelf.Ren:=⟨fun|160=>173|232=>210|231=>225|227=>211|234=>212|233=>226|236=>213|235=>227|228=>250|271=>251|151=>224|197=>253|120=>281|152=>258|260=>283|137=>160|119=>285|224=>286|225=>287|217=>199|266=>247|n=>n,fun|9=>9|4=>4|3=>3|5=>5|117=>264|116=>263|0=>0|124=>267|21=>21|105=>299|46=>329|119=>352|139=>355|138=>354|n=>n,fun|3=>7|4=>8|n=>n⟩
theorem Tryz.lays160:Go.Proofs.Lays.n160 Tryz.prog Tryz.XZ:={
 mixed:=by kernel_rfl
 f119:=Tryz.gW Tryz.func285
 f120:=Tryz.gW Tryz.func281
 f137:=Tryz.gW Tryz.func160
 f151:=Tryz.gW Tryz.func224
 f152:=Tryz.gW Tryz.func258
 f160:=Tryz.gW Tryz.func173
 f197:=Tryz.gW Tryz.func253
 f217:=Tryz.gW Tryz.func199
 f224:=Tryz.gW Tryz.func286
 f225:=Tryz.gW Tryz.func287
 f227:=Tryz.gW Tryz.func211
 f228:=Tryz.gW Tryz.func250
 f231:=Tryz.gW Tryz.func225
 f232:=Tryz.gW Tryz.func210
 f233:=Tryz.gW Tryz.func226
 f234:=Tryz.gW Tryz.func212
 f235:=Tryz.gW Tryz.func227
 f236:=Tryz.gW Tryz.func213
 f260:=Tryz.gW Tryz.func283
 f266:=Tryz.gW Tryz.func247
 f271:=Tryz.gW Tryz.func251
 t0:=Tryz.underlying0
 a0:=Tryz.isAgg0
 z0:=Tryz.sizeOf0
 v0:=Tryz.zeroValue0
 t3:=Tryz.underlying3
 a3:=Tryz.isAgg3
 z3:=Tryz.sizeOf3
 v3:=Tryz.zeroValue3
 t4:=Tryz.underlying4
 a4:=Tryz.isAgg4
 z4:=Tryz.sizeOf4
 v4:=Tryz.zeroValue4
 t5:=Tryz.underlying5
 a5:=Tryz.isAgg5
 z5:=Tryz.sizeOf5
 v5:=Tryz.zeroValue5
 t9:=Tryz.underlying9
 a9:=Tryz.isAgg9
 z9:=Tryz.sizeOf9
 v9:=Tryz.zeroValue9
 t21:=Tryz.underlying21
 a21:=Tryz.isAgg21
 z21:=Tryz.sizeOf21
 v21:=Tryz.zeroValue21
 t46:=Tryz.underlying329
 a46:=Tryz.isAgg329
 z46:=Tryz.sizeOf329
 v46:=Tryz.zeroValue329
 t105:=Tryz.underlying299
 a105:=Tryz.isAgg299
 z105:=Tryz.sizeOf299
 v105:=Tryz.zeroValue299
 t116:=Tryz.underlying263
 a116:=Tryz.isAgg263
 z116:=Tryz.sizeOf263
 t117:=Tryz.underlying264
 a117:=Tryz.isAgg264
 z117:=Tryz.sizeOf264
 v117:=Tryz.zeroValue264
 t119:=Tryz.underlying352
 a119:=Tryz.isAgg352
 z119:=Tryz.sizeOf352
 t124:=Tryz.underlying267
 a124:=Tryz.isAgg267
 z124:=Tryz.sizeOf267
 v124:=Tryz.zeroValue267
 t138:=Tryz.underlying354
 a138:=Tryz.isAgg354
 z138:=Tryz.sizeOf354
 v138:=Tryz.zeroValue354
 t139:=Tryz.underlying355
 a139:=Tryz.isAgg355
 z139:=Tryz.sizeOf355
 v139:=Tryz.zeroValue355
 g3:=by kernel_rfl
 g4:=by kernel_rfl }
open Go.RowKit in
theorem Tryz.strings_Trim_one(s:ByteArray)(c:UInt8)(hc:c.toNat<128)(w:World)(hs:s.size<=9223372036854775807):
 Calls Tryz.prog 173 #[.string s,.string ⟨#[c]⟩] w fun e w'=>e=.returned (.string ⟨(Lib.trimB s.data.toList c).toArray⟩)/\(w'=w\/w'=w.drew):=Any.strings_Trim_one Tryz.lays160 s c hc w hs
def Tryz.X4:Go.Shelf.Ren:=⟨fun|119=>285|n=>n,fun|21=>21|4=>4|n=>n,fun|n=>n⟩
theorem Tryz.lays119:Go.Proofs.Lays.n119 Tryz.prog Tryz.X4:={
 mixed:=by kernel_rfl
 f119:=Tryz.gW Tryz.func285
 t4:=Tryz.underlying4
 a4:=Tryz.isAgg4
 z4:=Tryz.sizeOf4
 v4:=Tryz.zeroValue4
 t21:=Tryz.underlying21
 a21:=Tryz.isAgg21
 z21:=Tryz.sizeOf21
 v21:=Tryz.zeroValue21 }
theorem Tryz.utf8_ValidRune(r:Int)(w:World):
 Calls Tryz.prog 285 #[.int .i32 r] w fun e w'=>e=.returned (.bool (Lib.validRune r))/\w'=w:=Any.utf8_ValidRune Tryz.lays119 r w
def Tryz.X3:Go.Shelf.Ren:=⟨fun|137=>160|217=>199|266=>247|n=>n,fun|9=>9|5=>5|3=>3|n=>n,fun|n=>n⟩
theorem Tryz.lays137:Go.Proofs.Lays.n137 Tryz.prog Tryz.X3:={
 mixed:=by kernel_rfl
 f137:=Tryz.gW Tryz.func160
 f217:=Tryz.gW Tryz.func199
 f266:=Tryz.gW Tryz.func247
 t3:=Tryz.underlying3
 a3:=Tryz.isAgg3
 z3:=Tryz.sizeOf3
 v3:=Tryz.zeroValue3
 t5:=Tryz.underlying5
 a5:=Tryz.isAgg5
 z5:=Tryz.sizeOf5
 v5:=Tryz.zeroValue5
 t9:=Tryz.underlying9
 a9:=Tryz.isAgg9
 z9:=Tryz.sizeOf9
 v9:=Tryz.zeroValue9 }
open Go.RowKit in
theorem Tryz.strings_IndexByte(s:ByteArray)(c:Int)(w:World):
 Calls Tryz.prog 160 #[.string s,.int .u8 c] w fun e w'=>e=.returned (.int .i64 (Lib.indexByte s.data.toList c.toNat.toUInt8))/\w'=w:=Any.strings_IndexByte Tryz.lays137 s c w
def Tryz.SH:Go.Shelf.Ren:=⟨fun|172=>142|244=>182|245=>183|247=>238|279=>239|280=>240|281=>241|282=>242|287=>277|316=>278|171=>129|205=>279|321=>299|322=>300|243=>176|246=>229|283=>264|284=>265|285=>266|286=>267|129=>291|317=>290|318=>292|319=>293|320=>294|337=>303|338=>304|n=>n,fun|9=>9|3=>3|75=>204|76=>205|4=>4|5=>5|167=>289|37=>90|0=>0|85=>285|2=>2|168=>290|53=>311|175=>327|46=>329|210=>331|127=>96|145=>349|143=>347|21=>21|171=>310|173=>314|212=>336|51=>337|20=>20|213=>338|232=>359|233=>360|80=>105|n=>n,fun|15=>3|16=>4|17=>5|18=>9|19=>10|n=>n⟩
theorem Tryz.laysC172:Go.Proofs.LaysC.n172 Tryz.prog Tryz.SH:={
 mixed:=by kernel_rfl
 f129:=Tryz.gW Tryz.func291
 f171:=Tryz.gW Tryz.func129
 f172:=Tryz.gW Tryz.func142
 f205:=Tryz.gW Tryz.func279
 f243:=Tryz.gW Tryz.func176
 f244:=Tryz.gW Tryz.func182
 f245:=Tryz.gW Tryz.func183
 f246:=Tryz.gW Tryz.func229
 f247:=Tryz.gW Tryz.func238
 f279:=Tryz.gW Tryz.func239
 f280:=Tryz.gW Tryz.func240
 f281:=Tryz.gW Tryz.func241
 f282:=Tryz.gW Tryz.func242
 f283:=Tryz.gW Tryz.func264
 f284:=Tryz.gW Tryz.func265
 f285:=Tryz.gW Tryz.func266
 f286:=Tryz.gW Tryz.func267
 f287:=Tryz.gW Tryz.func277
 f316:=Tryz.gW Tryz.func278
 f317:=Tryz.gW Tryz.func290
 f318:=Tryz.gW Tryz.func292
 f319:=Tryz.gW Tryz.func293
 f320:=Tryz.gW Tryz.func294
 f321:=Tryz.gW Tryz.func299
 f322:=Tryz.gW Tryz.func300
 f337:=Tryz.gW Tryz.func303
 f338:=Tryz.gW Tryz.func304
 t0:=Tryz.underlying0
 a0:=Tryz.isAgg0
 z0:=Tryz.sizeOf0
 v0:=Tryz.zeroValue0
 t2:=Tryz.underlying2
 a2:=Tryz.isAgg2
 z2:=Tryz.sizeOf2
 v2:=Tryz.zeroValue2
 t3:=Tryz.underlying3
 a3:=Tryz.isAgg3
 z3:=Tryz.sizeOf3
 v3:=Tryz.zeroValue3
 t4:=Tryz.underlying4
 a4:=Tryz.isAgg4
 z4:=Tryz.sizeOf4
 v4:=Tryz.zeroValue4
 t5:=Tryz.underlying5
 a5:=Tryz.isAgg5
 z5:=Tryz.sizeOf5
 v5:=Tryz.zeroValue5
 t9:=Tryz.underlying9
 a9:=Tryz.isAgg9
 z9:=Tryz.sizeOf9
 v9:=Tryz.zeroValue9
 t20:=Tryz.underlying20
 a20:=Tryz.isAgg20
 z20:=Tryz.sizeOf20
 v20:=Tryz.zeroValue20
 t21:=Tryz.underlying21
 a21:=Tryz.isAgg21
 z21:=Tryz.sizeOf21
 v21:=Tryz.zeroValue21
 t37:=Tryz.underlying90
 a37:=Tryz.isAgg90
 z37:=Tryz.sizeOf90
 v37:=Tryz.zeroValue90
 t46:=Tryz.underlying329
 a46:=Tryz.isAgg329
 z46:=Tryz.sizeOf329
 v46:=Tryz.zeroValue329
 t51:=Tryz.underlying337
 a51:=Tryz.isAgg337
 z51:=Tryz.sizeOf337
 v51:=Tryz.zeroValue337
 t53:=Tryz.underlying311
 a53:=Tryz.isAgg311
 z53:=Tryz.sizeOf311
 v53:=Tryz.zeroValue311
 t75:=Tryz.underlying204
 a75:=Tryz.isAgg204
 z75:=Tryz.sizeOf204
 v75:=Tryz.zeroValue204
 t76:=Tryz.underlying205
 a76:=Tryz.isAgg205
 z76:=Tryz.sizeOf205
 v76:=Tryz.zeroValue205
 t85:=Tryz.underlying285
 a85:=Tryz.isAgg285
 z85:=Tryz.sizeOf285
 v85:=Tryz.zeroValue285
 t127:=Tryz.underlying96
 a127:=Tryz.isAgg96
 z127:=Tryz.sizeOf96
 v127:=Tryz.zeroValue96
 t143:=Tryz.underlying347
 a143:=Tryz.isAgg347
 z143:=Tryz.sizeOf347
 v143:=Tryz.zeroValue347
 t145:=Tryz.underlying349
 a145:=Tryz.isAgg349
 z145:=Tryz.sizeOf349
 v145:=Tryz.zeroValue349
 t167:=Tryz.underlying289
 a167:=Tryz.isAgg289
 z167:=Tryz.sizeOf289
 v167:=Tryz.zeroValue289
 t168:=Tryz.underlying290
 a168:=Tryz.isAgg290
 z168:=Tryz.sizeOf290
 v168:=Tryz.zeroValue290
 t171:=Tryz.underlying310
 a171:=Tryz.isAgg310
 z171:=Tryz.sizeOf310
 v171:=Tryz.zeroValue310
 t173:=Tryz.underlying314
 a173:=Tryz.isAgg314
 z173:=Tryz.sizeOf314
 v173:=Tryz.zeroValue314
 t175:=Tryz.underlying327
 a175:=Tryz.isAgg327
 z175:=Tryz.sizeOf327
 v175:=Tryz.zeroValue327
 t210:=Tryz.underlying331
 a210:=Tryz.isAgg331
 z210:=Tryz.sizeOf331
 v210:=Tryz.zeroValue331
 t212:=Tryz.underlying336
 a212:=Tryz.isAgg336
 z212:=Tryz.sizeOf336
 v212:=Tryz.zeroValue336
 t213:=Tryz.underlying338
 a213:=Tryz.isAgg338
 z213:=Tryz.sizeOf338
 t232:=Tryz.underlying359
 a232:=Tryz.isAgg359
 z232:=Tryz.sizeOf359
 v232:=Tryz.zeroValue359
 t233:=Tryz.underlying360
 a233:=Tryz.isAgg360
 z233:=Tryz.sizeOf360
 v233:=Tryz.zeroValue360
 g15:=by kernel_rfl
 g16:=by kernel_rfl
 g17:=by kernel_rfl
 g18:=by kernel_rfl
 g19:=by kernel_rfl
 t80:=Tryz.underlying105
 a80:=Tryz.isAgg105
 z80:=Tryz.sizeOf105
 v80:=Tryz.zeroValue105
 i0:=by kernel_rfl
 i2:=by kernel_rfl
 i3:=by kernel_rfl
 i4:=by kernel_rfl
 i5:=by kernel_rfl
 i9:=by kernel_rfl
 i20:=by kernel_rfl
 i21:=by kernel_rfl
 i37:=by kernel_rfl
 i46:=by kernel_rfl
 i51:=by kernel_rfl
 i53:=by kernel_rfl
 i75:=by kernel_rfl
 i76:=by kernel_rfl
 i80:=by kernel_rfl
 i85:=by kernel_rfl
 i127:=by kernel_rfl
 i143:=by kernel_rfl
 i145:=by kernel_rfl
 i167:=by kernel_rfl
 i168:=by kernel_rfl
 i171:=by kernel_rfl
 i173:=by kernel_rfl
 i175:=by kernel_rfl
 i210:=by kernel_rfl
 i212:=by kernel_rfl
 i232:=by kernel_rfl
 i233:=by kernel_rfl
 m15:=by kernel_rfl
 m16:=by kernel_rfl
 m17:=by kernel_rfl
 m18:=by kernel_rfl
 m19:=by kernel_rfl
 c0:=by kernel_rfl
 c2:=by kernel_rfl
 c3:=by kernel_rfl
 c4:=by kernel_rfl
 c5:=by kernel_rfl
 c9:=by kernel_rfl
 c20:=by kernel_rfl
 c21:=by kernel_rfl
 c37:=by kernel_rfl
 c46:=by kernel_rfl
 c51:=by kernel_rfl
 c53:=by kernel_rfl
 c75:=by kernel_rfl
 c76:=by kernel_rfl
 c80:=by kernel_rfl
 c85:=by kernel_rfl
 c127:=by kernel_rfl
 c143:=by kernel_rfl
 c145:=by kernel_rfl
 c167:=by kernel_rfl
 c168:=by kernel_rfl
 c171:=by kernel_rfl
 c173:=by kernel_rfl
 c175:=by kernel_rfl
 c210:=by kernel_rfl
 c212:=by kernel_rfl
 c213:=by kernel_rfl
 c232:=by kernel_rfl
 c233:=by kernel_rfl }
open Go.RowKit in
theorem Tryz.strconv_Atoi_ok(s:ByteArray)(hmax:s.size<=9223372036854775806)(v:Int)(h:Lib.atoiAll s.data.toList=.ok v)(w:World):
 Calls Tryz.prog 142 #[.string s] w fun e w'=>e=.returned (.tuple #[.int .i64 v,.nilIface])/\(w'=w\/ ∃t,w'=Lib.bytesWorld w 5 t):=Any.strconv_Atoi_ok Tryz.laysC172 s hmax v h w
open Go.RowKit in
theorem Tryz.strconv_Atoi_syntax(s:ByteArray)(hlim:s.size<=281474976710656)(h0: ∀v,Lib.atoiAll s.data.toList≠ .ok v)(h1:Lib.atoiAll s.data.toList≠ .range)(ev:Value)(w:World)(hv:w.cell? ⟨3,0,none⟩=some ev)(hev:ev=.nilIface\/ ∃te pe,ev=.iface te pe):
 Calls Tryz.prog 142 #[.string s] w fun e w'=> ∃N,e=.returned (.tuple #[.int .i64 (0),.iface 290 (.pointer (some ⟨N,0,none⟩))])/\w.heap.size<=N/\w'.heap[N]? =some (.cells #[.string ⟨#[65,116,111,105]⟩,.string s,ev] 331 (0,0))/\Below w.heap.size w w':=by
 cases hh:Lib.atoiAll s.data.toList
 . exact absurd hh (h0 _)
 . exact Any.strconv_Atoi_syntax Tryz.laysC172 s hlim hh ev w hv hev
 exact absurd hh h1
open Go.RowKit in
theorem Tryz.strconv_Atoi_range(s:ByteArray)(hlim:s.size<=281474976710656)(h:Lib.atoiAll s.data.toList=.range)(ev:Value)(w:World)(hv:w.cell? ⟨4,0,none⟩=some ev)(hev:ev=.nilIface\/ ∃te pe,ev=.iface te pe):
 Calls Tryz.prog 142 #[.string s] w fun e w'=> ∃N,e=.returned (.tuple #[.int .i64 (Lib.atoiSat s.data.toList),.iface 290 (.pointer (some ⟨N,0,none⟩))])/\w.heap.size<=N/\w'.heap[N]? =some (.cells #[.string ⟨#[65,116,111,105]⟩,.string s,ev] 331 (0,0))/\Below w.heap.size w w':=Any.strconv_Atoi_range Tryz.laysC172 s hlim h ev w hv hev
def Tryz.SG:Go.Shelf.Ren:=⟨fun|174=>235|247=>238|245=>183|287=>277|279=>239|280=>240|281=>241|282=>242|321=>299|322=>300|316=>278|171=>129|205=>279|243=>176|246=>229|283=>264|284=>265|285=>266|286=>267|129=>291|317=>290|318=>292|319=>293|320=>294|337=>303|338=>304|n=>n,fun|9=>9|3=>3|2=>2|75=>204|85=>285|4=>4|167=>289|5=>5|53=>311|175=>327|46=>329|168=>290|37=>90|0=>0|210=>331|21=>21|127=>96|145=>349|143=>347|171=>310|173=>314|212=>336|51=>337|20=>20|213=>338|232=>359|233=>360|80=>105|n=>n,fun|15=>3|16=>4|17=>5|18=>9|19=>10|n=>n⟩
theorem Tryz.aHN:Go.Proofs.LaysC.n174 Tryz.prog Tryz.SG:={
 mixed:=by kernel_rfl
 f129:=Tryz.gW Tryz.func291
 f171:=Tryz.gW Tryz.func129
 f174:=Tryz.gW Tryz.func235
 f205:=Tryz.gW Tryz.func279
 f243:=Tryz.gW Tryz.func176
 f245:=Tryz.gW Tryz.func183
 f246:=Tryz.gW Tryz.func229
 f247:=Tryz.gW Tryz.func238
 f279:=Tryz.gW Tryz.func239
 f280:=Tryz.gW Tryz.func240
 f281:=Tryz.gW Tryz.func241
 f282:=Tryz.gW Tryz.func242
 f283:=Tryz.gW Tryz.func264
 f284:=Tryz.gW Tryz.func265
 f285:=Tryz.gW Tryz.func266
 f286:=Tryz.gW Tryz.func267
 f287:=Tryz.gW Tryz.func277
 f316:=Tryz.gW Tryz.func278
 f317:=Tryz.gW Tryz.func290
 f318:=Tryz.gW Tryz.func292
 f319:=Tryz.gW Tryz.func293
 f320:=Tryz.gW Tryz.func294
 f321:=Tryz.gW Tryz.func299
 f322:=Tryz.gW Tryz.func300
 f337:=Tryz.gW Tryz.func303
 f338:=Tryz.gW Tryz.func304
 t0:=Tryz.underlying0
 a0:=Tryz.isAgg0
 z0:=Tryz.sizeOf0
 v0:=Tryz.zeroValue0
 t2:=Tryz.underlying2
 a2:=Tryz.isAgg2
 z2:=Tryz.sizeOf2
 v2:=Tryz.zeroValue2
 t3:=Tryz.underlying3
 a3:=Tryz.isAgg3
 z3:=Tryz.sizeOf3
 v3:=Tryz.zeroValue3
 t4:=Tryz.underlying4
 a4:=Tryz.isAgg4
 z4:=Tryz.sizeOf4
 v4:=Tryz.zeroValue4
 t5:=Tryz.underlying5
 a5:=Tryz.isAgg5
 z5:=Tryz.sizeOf5
 v5:=Tryz.zeroValue5
 t9:=Tryz.underlying9
 a9:=Tryz.isAgg9
 z9:=Tryz.sizeOf9
 v9:=Tryz.zeroValue9
 t20:=Tryz.underlying20
 a20:=Tryz.isAgg20
 z20:=Tryz.sizeOf20
 v20:=Tryz.zeroValue20
 t21:=Tryz.underlying21
 a21:=Tryz.isAgg21
 z21:=Tryz.sizeOf21
 v21:=Tryz.zeroValue21
 t37:=Tryz.underlying90
 a37:=Tryz.isAgg90
 z37:=Tryz.sizeOf90
 v37:=Tryz.zeroValue90
 t46:=Tryz.underlying329
 a46:=Tryz.isAgg329
 z46:=Tryz.sizeOf329
 v46:=Tryz.zeroValue329
 t51:=Tryz.underlying337
 a51:=Tryz.isAgg337
 z51:=Tryz.sizeOf337
 v51:=Tryz.zeroValue337
 t53:=Tryz.underlying311
 a53:=Tryz.isAgg311
 z53:=Tryz.sizeOf311
 v53:=Tryz.zeroValue311
 t75:=Tryz.underlying204
 a75:=Tryz.isAgg204
 z75:=Tryz.sizeOf204
 v75:=Tryz.zeroValue204
 t85:=Tryz.underlying285
 a85:=Tryz.isAgg285
 z85:=Tryz.sizeOf285
 v85:=Tryz.zeroValue285
 t127:=Tryz.underlying96
 a127:=Tryz.isAgg96
 z127:=Tryz.sizeOf96
 v127:=Tryz.zeroValue96
 t143:=Tryz.underlying347
 a143:=Tryz.isAgg347
 z143:=Tryz.sizeOf347
 v143:=Tryz.zeroValue347
 t145:=Tryz.underlying349
 a145:=Tryz.isAgg349
 z145:=Tryz.sizeOf349
 v145:=Tryz.zeroValue349
 t167:=Tryz.underlying289
 a167:=Tryz.isAgg289
 z167:=Tryz.sizeOf289
 v167:=Tryz.zeroValue289
 t168:=Tryz.underlying290
 a168:=Tryz.isAgg290
 z168:=Tryz.sizeOf290
 v168:=Tryz.zeroValue290
 t171:=Tryz.underlying310
 a171:=Tryz.isAgg310
 z171:=Tryz.sizeOf310
 v171:=Tryz.zeroValue310
 t173:=Tryz.underlying314
 a173:=Tryz.isAgg314
 z173:=Tryz.sizeOf314
 v173:=Tryz.zeroValue314
 t175:=Tryz.underlying327
 a175:=Tryz.isAgg327
 z175:=Tryz.sizeOf327
 v175:=Tryz.zeroValue327
 t210:=Tryz.underlying331
 a210:=Tryz.isAgg331
 z210:=Tryz.sizeOf331
 v210:=Tryz.zeroValue331
 t212:=Tryz.underlying336
 a212:=Tryz.isAgg336
 z212:=Tryz.sizeOf336
 v212:=Tryz.zeroValue336
 t213:=Tryz.underlying338
 a213:=Tryz.isAgg338
 z213:=Tryz.sizeOf338
 t232:=Tryz.underlying359
 a232:=Tryz.isAgg359
 z232:=Tryz.sizeOf359
 v232:=Tryz.zeroValue359
 t233:=Tryz.underlying360
 a233:=Tryz.isAgg360
 z233:=Tryz.sizeOf360
 v233:=Tryz.zeroValue360
 g15:=by kernel_rfl
 g16:=by kernel_rfl
 g17:=by kernel_rfl
 g18:=by kernel_rfl
 g19:=by kernel_rfl
 t80:=Tryz.underlying105
 a80:=Tryz.isAgg105
 z80:=Tryz.sizeOf105
 v80:=Tryz.zeroValue105
 i0:=by kernel_rfl
 i2:=by kernel_rfl
 i3:=by kernel_rfl
 i4:=by kernel_rfl
 i5:=by kernel_rfl
 i9:=by kernel_rfl
 i20:=by kernel_rfl
 i21:=by kernel_rfl
 i37:=by kernel_rfl
 i46:=by kernel_rfl
 i51:=by kernel_rfl
 i53:=by kernel_rfl
 i75:=by kernel_rfl
 i80:=by kernel_rfl
 i85:=by kernel_rfl
 i127:=by kernel_rfl
 i143:=by kernel_rfl
 i145:=by kernel_rfl
 i167:=by kernel_rfl
 i168:=by kernel_rfl
 i171:=by kernel_rfl
 i173:=by kernel_rfl
 i175:=by kernel_rfl
 i210:=by kernel_rfl
 i212:=by kernel_rfl
 i232:=by kernel_rfl
 i233:=by kernel_rfl
 m15:=by kernel_rfl
 m16:=by kernel_rfl
 m17:=by kernel_rfl
 m18:=by kernel_rfl
 m19:=by kernel_rfl
 c0:=by kernel_rfl
 c2:=by kernel_rfl
 c3:=by kernel_rfl
 c4:=by kernel_rfl
 c5:=by kernel_rfl
 c9:=by kernel_rfl
 c20:=by kernel_rfl
 c21:=by kernel_rfl
 c37:=by kernel_rfl
 c46:=by kernel_rfl
 c51:=by kernel_rfl
 c53:=by kernel_rfl
 c75:=by kernel_rfl
 c80:=by kernel_rfl
 c85:=by kernel_rfl
 c127:=by kernel_rfl
 c143:=by kernel_rfl
 c145:=by kernel_rfl
 c167:=by kernel_rfl
 c168:=by kernel_rfl
 c171:=by kernel_rfl
 c173:=by kernel_rfl
 c175:=by kernel_rfl
 c210:=by kernel_rfl
 c212:=by kernel_rfl
 c213:=by kernel_rfl
 c232:=by kernel_rfl
 c233:=by kernel_rfl }
open Go.RowKit in
theorem Tryz.strconv_ParseInt_10_at64_ok(s:ByteArray)(hmax:s.size<=9223372036854775806)(v:Int)(h:Lib.parseIntB 64 s.data.toList=.ok v)(w:World):
 Calls Tryz.prog 235 #[.string s,.int .i64 10,.int .i64 64] w fun e w'=>e=.returned (.tuple #[.int .i64 v,.nilIface])/\(w'=w\/ ∃t,w'=Lib.bytesWorld w 5 t):=Any.strconv_ParseInt_10_at64_ok Tryz.aHN s hmax v h w
def Tryz.X0:Go.Shelf.Ren:=⟨fun|144=>215|143=>252|219=>282|217=>199|225=>287|224=>286|267=>301|266=>247|314=>305|n=>n,fun|9=>9|4=>4|3=>3|5=>5|46=>329|146=>357|51=>337|n=>n,fun|1=>1|n=>n⟩
theorem Tryz.lays144:Go.Proofs.Lays.n144 Tryz.prog Tryz.X0:={
 mixed:=by kernel_rfl
 f143:=Tryz.gW Tryz.func252
 f144:=Tryz.gW Tryz.func215
 f217:=Tryz.gW Tryz.func199
 f219:=Tryz.gW Tryz.func282
 f224:=Tryz.gW Tryz.func286
 f225:=Tryz.gW Tryz.func287
 f266:=Tryz.gW Tryz.func247
 f267:=Tryz.gW Tryz.func301
 f314:=Tryz.gW Tryz.func305
 t3:=Tryz.underlying3
 a3:=Tryz.isAgg3
 z3:=Tryz.sizeOf3
 v3:=Tryz.zeroValue3
 t4:=Tryz.underlying4
 a4:=Tryz.isAgg4
 z4:=Tryz.sizeOf4
 v4:=Tryz.zeroValue4
 t5:=Tryz.underlying5
 a5:=Tryz.isAgg5
 z5:=Tryz.sizeOf5
 v5:=Tryz.zeroValue5
 t9:=Tryz.underlying9
 a9:=Tryz.isAgg9
 z9:=Tryz.sizeOf9
 v9:=Tryz.zeroValue9
 t46:=Tryz.underlying329
 a46:=Tryz.isAgg329
 z46:=Tryz.sizeOf329
 v46:=Tryz.zeroValue329
 t51:=Tryz.underlying337
 a51:=Tryz.isAgg337
 z51:=Tryz.sizeOf337
 v51:=Tryz.zeroValue337
 t146:=Tryz.underlying357
 a146:=Tryz.isAgg357
 z146:=Tryz.sizeOf357
 v146:=Tryz.zeroValue357
 g1:=by kernel_rfl }
open Go.RowKit Go.Lib in
theorem Tryz.strings_Contains_one(s:ByteArray)(c:UInt8)(w:World):
 Calls Tryz.prog 215 #[.string s,.string ⟨#[c]⟩] w fun e w'=>e=.returned (.bool (decide (0<=Lib.indexByte s.data.toList c)))/\w'=w:=Any.strings_Contains_one Tryz.lays144 s c w
def Tryz.SE:Go.Shelf.Ren:=⟨fun|15=>222|20=>263|n=>n,fun|9=>9|23=>278|3=>3|4=>4|0=>0|21=>21|n=>n,fun|n=>n⟩
theorem Tryz.aHM:Go.Proofs.LaysGw.n15 Tryz.prog Tryz.SE:={
 mixed:=by kernel_rfl
 f15:=Tryz.gW Tryz.func222
 f20:=Tryz.gW Tryz.func263
 t0:=Tryz.underlying0
 a0:=Tryz.isAgg0
 z0:=Tryz.sizeOf0
 v0:=Tryz.zeroValue0
 i0:=by kernel_rfl
 t3:=Tryz.underlying3
 a3:=Tryz.isAgg3
 z3:=Tryz.sizeOf3
 v3:=Tryz.zeroValue3
 i3:=by kernel_rfl
 t4:=Tryz.underlying4
 a4:=Tryz.isAgg4
 z4:=Tryz.sizeOf4
 v4:=Tryz.zeroValue4
 i4:=by kernel_rfl
 t9:=Tryz.underlying9
 a9:=Tryz.isAgg9
 z9:=Tryz.sizeOf9
 v9:=Tryz.zeroValue9
 i9:=by kernel_rfl
 t21:=Tryz.underlying21
 a21:=Tryz.isAgg21
 z21:=Tryz.sizeOf21
 v21:=Tryz.zeroValue21
 i21:=by kernel_rfl
 t23:=Tryz.underlying278
 a23:=Tryz.isAgg278
 z23:=Tryz.sizeOf278
 v23:=Tryz.zeroValue278
 i23:=by kernel_rfl }
def Tryz.lays151_ren:Go.Shelf.Ren:=⟨fun|151=>224|152=>258|137=>160|119=>285|224=>286|225=>287|217=>199|266=>247|n=>n,fun|9=>9|21=>21|4=>4|3=>3|5=>5|0=>0|46=>329|n=>n,fun|n=>n⟩
theorem Tryz.lays151:Go.Proofs.Lays.n151 Tryz.prog Tryz.lays151_ren:={
 mixed:=by kernel_rfl
 f119:=Tryz.gW Tryz.func285
 f137:=Tryz.gW Tryz.func160
 f151:=Tryz.gW Tryz.func224
 f152:=Tryz.gW Tryz.func258
 f217:=Tryz.gW Tryz.func199
 f224:=Tryz.gW Tryz.func286
 f225:=Tryz.gW Tryz.func287
 f266:=Tryz.gW Tryz.func247
 t0:=Tryz.underlying0
 a0:=Tryz.isAgg0
 z0:=Tryz.sizeOf0
 v0:=Tryz.zeroValue0
 t3:=Tryz.underlying3
 a3:=Tryz.isAgg3
 z3:=Tryz.sizeOf3
 v3:=Tryz.zeroValue3
 t4:=Tryz.underlying4
 a4:=Tryz.isAgg4
 z4:=Tryz.sizeOf4
 v4:=Tryz.zeroValue4
 t5:=Tryz.underlying5
 a5:=Tryz.isAgg5
 z5:=Tryz.sizeOf5
 v5:=Tryz.zeroValue5
 t9:=Tryz.underlying9
 a9:=Tryz.isAgg9
 z9:=Tryz.sizeOf9
 v9:=Tryz.zeroValue9
 t21:=Tryz.underlying21
 a21:=Tryz.isAgg21
 z21:=Tryz.sizeOf21
 v21:=Tryz.zeroValue21
 t46:=Tryz.underlying329
 a46:=Tryz.isAgg329
 z46:=Tryz.sizeOf329
 v46:=Tryz.zeroValue329 }
open Go.RowKit Go.Lib in
theorem Tryz.strings_ContainsRune_ascii(s:ByteArray)(r:Int)(w:World)(h0:0<=r)(h1:r<128):
 Calls Tryz.prog 224 #[.string s,.int .i32 r] w fun e w'=>e=.returned (.bool (decide (0<=Lib.indexByte s.data.toList r.toNat.toUInt8)))/\w'=w:=Any.strings_ContainsRune_ascii Tryz.lays151 s r w h0 h1
def Tryz.XY:Go.Shelf.Ren:=⟨fun|264=>274|n=>n,fun|53=>311|46=>329|n=>n,fun|n=>n⟩
theorem Tryz.lays264:Go.Proofs.Lays.n264 Tryz.prog Tryz.XY:={
 mixed:=by kernel_rfl
 f264:=Tryz.gW Tryz.func274
 t46:=Tryz.underlying329
 a46:=Tryz.isAgg329
 z46:=Tryz.sizeOf329
 v46:=Tryz.zeroValue329
 t53:=Tryz.underlying311
 a53:=Tryz.isAgg311
 z53:=Tryz.sizeOf311
 v53:=Tryz.zeroValue311 }
open Go.RowKit Go.Lib in
theorem Tryz.bits_Mul64(x y:Nat)(hx:x<18446744073709551616)(hy:y<18446744073709551616)(w:World):
 Calls Tryz.prog 274 #[.int .u64 x,.int .u64 y] w fun e w'=>e=.returned (.tuple #[.int .u64 ((x * y / 18446744073709551616:Nat):Int),.int .u64 ((x * y % 18446744073709551616:Nat):Int)])/\w'=w:=Any.bits_Mul64 Tryz.lays264 x y hx hy w
open Go.RowKit Go.Lib in
theorem Tryz.strings_IndexFunc_grows(g:Nat)(lb:Array Value)(eg: ∀args w,(callFunc g args).run Tryz.prog w=.ok (.enter g args) w)(p:Nat->Bool)(s:ByteArray)(w:World)(hp:PredGrows Tryz.prog g lb p w):
 Calls Tryz.prog 222 #[.string s,.func (.func g) #[] lb] w fun e w'=>e=.returned (.int .i64 (Lib.idxFunc p true s))/\Below w.heap.size w w':=Any.strings_IndexFunc_grows Tryz.aHM g lb eg p s w hp
end Go.Proofs
namespace Go.Proofs.YtebgcnnhokclaaaGreatDoor
section
open Go.RowKit
namespace Bk
open Un (ba bt ri rb dO eY)
theorem yG(n:Int)(w:World):Calls Tryz.prog 169 #[.int .i64 n] w fun r w'=>r=.returned (.int .i64 (if 21<=n/\n<=41 then 0 else 7))/\w=w':=by
 by_cases a:n<21
 . go_enter Tryz.func169,Tryz.ntmps169
   go_wp2
   go_ret
   exact⟨by first|rfl|exact ri (by rw[aFv (by omega)]),rfl⟩
 by_cases b:42<=n
 . go_enter Tryz.func169,Tryz.ntmps169
   go_wp2
   go_ret
   exact⟨by first|rfl|exact ri (by rw[aFv (by omega)]),rfl⟩
 go_enter Tryz.func169,Tryz.ntmps169
 go_wp2
 go_ret
 exact⟨by first|rfl|exact ri (by rw[aFw (by omega)]),rfl⟩
theorem SB(a b c n:Int)(w:World)(a0:0<=a)(b0:0<=b)(c0:0<=c)(n0:1<=n)(n1:n<=3):
 Calls Tryz.prog 123 #[.agg #[.int .u8 a,.int .u8 b,.int .u8 c],.int .i64 n] w fun r w'=>r=.returned (.int .i64 (kS a b c n))/\Below w.heap.size w w':=by
 obtain rfl|rfl|rfl:n=1\/n=2\/n=3:=by omega
 . exact Sk.UK (Sk.aJz a b c w) (by unfold kS;simp only[aQJ,aEv,aFy];(repeat' split)<;>first|rfl|(exfalso;omega))
 . exact Sk.UK (Sk.aJy a b c w) (by unfold kS;simp only[aQJ,aEv,aFy];(repeat' split)<;>first|rfl|(exfalso;omega))
 exact Sk.UK (Sk.aJx a b c w) (by unfold kS;simp only[aQJ,aEv,aFy];(repeat' split)<;>first|rfl|(exfalso;omega))
theorem O4(n:Nat)(w:World)(h:n<=18):Calls Tryz.prog 236 #[.int .i64 n] w fun r w'=>r=.returned (.tuple #[.int .i64 (p10 n),.int .i64 0])/\w=w':=by
 go_enter Tryz.func236,Tryz.ntmps236
 go_wp2
 go_loop [4,10] (fun p i=> ∃k:Nat,k<=n/\i=.int .i64 k/\p=.int .i64 (p10 k)) (fun _ i=>n - (intOf i).toNat)
 case atStart=>exact⟨0,aLm _,rfl,rfl⟩
 case round=>
  obtain⟨k,hk,rfl,rfl⟩:=hrel
  by_cases hlt:k<n
  . have hb:=aGC (k+1) (by omega);have hs:=WB k;have hb2:p10 k * 10<=1000000000000000000/\1<=p10 k * 10:=by rw[<-hs];omega
    have HS:=ZU hs;clear hs hb
    go_wp2
    go_round
    case rel=>exact⟨k+1,by omega,by go_num,by rw[HS.out]⟩
    case measure=>simp[intOf];omega
  have e:k=n:=by omega
  subst e
  go_wp2
  go_ret2
  exact⟨rfl,rfl⟩
end Bk
end
section
open Go.RowKit Go.Lib
namespace Bk
open Un (ba bt ri rb)
theorem below_drewN{B:Nat}{w W:World}(h:Below B w W): ∀n,Below B w (W.drewN n)
 |0=>h
 |n+1=>(below_drewN h n).drew
def Asc(s:ByteArray):Prop:= ∀i (h:i<s.size),(s[i]'h).toNat<128
theorem SV(l:List UInt8)(c:UInt8)(h: ∀b ∈ l,b.toNat<128)(hc:128<=c.toNat):Lib.indexByte l c= -1:=by
 induction l with
 |nil=>rfl
 | cons b l ih=>
  have hb:=h b (aHS ..);have hne:(b==c)=false:=by
   rw[aB1];rintro rfl;omega
  unfold Lib.indexByte;rw[ih (fun x hx=>h x (aJj _ hx)),hne]
  rfl
theorem ZK{s:ByteArray}(hs:Asc s)(a b:Nat): ∀x ∈ (s.extract a b).data.toList,x.toNat<128:=by
 intro x hx;have h1:x ∈ s.data.toList:=by
  rw[a0S,a03]at hx;unfold List.extract at hx;exact aV1 (aVZ hx)
 obtain⟨i,hi,rfl⟩:=aQV h1;have:=hs i (by simpa using hi);rwa[aWf]at this
theorem YO(r:Int)(e2:2<=(Utf8.encode r).size)(eb:128<=((Utf8.encode r)[(Utf8.encode r).size - 1]'(by omega)).toNat): ∀k (h:k<(Utf8.encode r).size),k+1=(Utf8.encode r).size->128<=((Utf8.encode r)[k]'h).toNat:=by
 intro k h e;have hk:k=(Utf8.encode r).size - 1:=by omega
 subst hk;exact eb
theorem OA(s:ByteArray)(hs:Asc s)(h5:s.size<=1000)(w:World):
 Calls Tryz.prog 258 #[.string s,.int .i32 65533] w fun e w'=>e=.returned (.int .i64 (-1))/\Below w.heap.size w w':=by
 have HS:=ZU hs;clear hs
 go_enter Tryz.func258,Tryz.ntmps258
 go_wp2
 go_loopg [] s.size (fun gf wx=> ∃pos:Nat,wx.heap[w.heap.size]? =some (.stringIter s pos)/\Below w.heap.size w wx/\s.size<=pos+gf)
 case atStart=>exact⟨0,World.iter_heap w s 0,(aDl _ w).alloc (aDT _) _,by omega⟩
 case round=>
  obtain⟨pos,hit,hbw,hfu⟩:=hrel
  by_cases hps:pos<s.size
  . obtain⟨g',rfl⟩: ∃g',gk=g'+1:=⟨gk - 1,by omega⟩;have hnx: ∀ty,(Instr.next (.pointer (some ⟨w.heap.size,0,none⟩)) true ty).run Tryz.prog wr=_:=fun ty=>Lib.run_next_any_at wr w.heap.size s pos ty hit hps;have hde:=a1v s pos hps (HS.out pos hps);have hlt:=HS.out pos hps;rw[hde]at hnx;generalize (s[pos]'hps).toNat=R at hnx hlt hde;have hit2:=Lib.iterAt_heap wr w.heap.size s pos (pos+1) hit;have hbw2:=Lib.below_iterAt hbw (k:=w.heap.size) (aDT _) s (pos+1);clear hde
    go_wp2
    go_roundg g'
    case measure=>omega
    case rel=>exact⟨pos+1,hit2,hbw2,by omega⟩
  have hnx: ∀ty,(Instr.next (.pointer (some ⟨w.heap.size,0,none⟩)) true ty).run Tryz.prog wr=_:=fun ty=>Lib.run_next_end_at wr w.heap.size s pos ty hit hps
  go_wp2
  go_ret
  exact⟨rfl,hbw⟩
theorem SQ (s:ByteArray) (hs:Asc s) (h4:4<=s.size) (h5:s.size<=1000) (r:Int) (h0:128<=r) (h1:r<=1114111) (w:World):
 Calls Tryz.prog 258 #[.string s,.int .i32 r] w fun e w'=>e=.returned (.int .i64 (-1))/\Below w.heap.size w w':=by
 by_cases hr:r=65533
 . subst hr;exact OA s hs h5 w
 have HV:=fun w=>(Tryz.utf8_ValidRune r w).mono (fun _ _ h=>(⟨h.1,h.2.symm⟩:_/\w=_))
 cases hv:Lib.validRune r
 . rw[hv]at HV;replace HV:=ZU HV;clear hv hs
   go_enter Tryz.func258,Tryz.ntmps258
   go_wp2_with (go_at_call 285;with_reducible refine(HV.out _).mono ?_;rintro _ w' ⟨rfl,rfl⟩)
   go_ret
   exact⟨rfl,aDl _ _⟩
 rw [hv]at HV;replace HV:=ZU HV;have hv2:Utf8.valid r=true:=by
  unfold Lib.validRune at hv;have:=aHY hv;unfold Utf8.valid;simp;omega
 obtain⟨e2,e4,eb⟩:=encode_facts r hv2 h0;have eb:=eb (by omega);have HB: ∀(t:ByteArray) (c:UInt8) (w:World),(∀b ∈ t.data.toList,b.toNat<128)->128<=c.toNat->Calls Tryz.prog 160 #[.string t,.int .u8 c.toNat] w fun e w'=>e=.returned (.int .i64 (-1))/\w=w':=by
  intro t c w h hc;have:=Tryz.strings_IndexByte t (c.toNat:Int) w;rw[show ((c.toNat:Int)).toNat.toUInt8=c by rw[aPt];exact UInt8.ofNat_toNat]at this;rw[SV _ _ h hc]at this;exact this.mono (fun _ _ h=>⟨h.1,h.2.symm⟩)
 replace HB:=ZU HB;clear hv hv2;have hasc:=hs;have HX: ∀k:Nat,∀b ∈ (s.extract k s.size).data.toList,b.toNat<128:=fun k=>ZK hs k s.size;replace HX:=ZU HX;have l1:1<s.size:=by omega
 have l2:2<s.size:=by omega
 have l3:3<s.size:=by omega
 have g1:=hs 1 l1;have g2:=hs 2 l2;have g3:=hs 3 l3;have HE:=ZU (YO r e2 eb);clear hasc hs;obtain ha|ha|ha:(Utf8.encode r).size=2\/(Utf8.encode r).size=3\/(Utf8.encode r).size=4:=by omega
 . have hk:1<(Utf8.encode r).size:=by omega
   have hlast:128<=((Utf8.encode r)[1]'hk).toNat:=HE.out 1 hk (by omega);clear HE e2 e4 eb
   go_enter Tryz.func258,Tryz.ntmps258
   go_wp2_with (go_at_call 285;with_reducible refine(HV.out _).mono ?_;rintro _ w' ⟨rfl,rfl⟩)
   go_step3
   go_wp2
   go_loopw [9,10] (fun s9 s10 wx=>s9=.int .i64 1/\s10=.int .i64 0/\wx=w) (fun _ _ _=>1)
   case atStart=>exact⟨by first|rfl|rw[ha],rfl,rfl⟩
   case round=>
    obtain⟨rfl,rfl,rfl⟩:=hrel;have hne:(((s[1]'l1).toNat:Int) !=(((Utf8.encode r)[1]'hk).toNat:Int))=true:=by rw[aQC];omega
    go_wp2
    go_step3
    go_wp2
    go_quiet (fail)
    go_wp2
    go_quiet ((go_at_call 160;(refine(HB.out _ _ _ (HX.out _) hlast).mono ?_);rintro e w' ⟨rfl,rfl⟩;exact⟨rfl,_,rfl⟩))
    go_wp2
    rw[aUH]
    go_wp2
    rw[aUH]
    go_ret
    exact⟨rfl,below_drewN (aDl _ _) _⟩
 . have hk:2<(Utf8.encode r).size:=by omega
   have hlast:128<=((Utf8.encode r)[2]'hk).toNat:=HE.out 2 hk (by omega);clear HE e2 e4 eb
   go_enter Tryz.func258,Tryz.ntmps258
   go_wp2_with (go_at_call 285;with_reducible refine(HV.out _).mono ?_;rintro _ w' ⟨rfl,rfl⟩)
   go_step3
   go_wp2
   go_loopw [9,10] (fun s9 s10 wx=>s9=.int .i64 2/\s10=.int .i64 0/\wx=w) (fun _ _ _=>1)
   case atStart=>exact⟨by first|rfl|rw[ha],rfl,rfl⟩
   case round=>
    obtain⟨rfl,rfl,rfl⟩:=hrel;have hne:(((s[2]'l2).toNat:Int) !=(((Utf8.encode r)[2]'hk).toNat:Int))=true:=by rw[aQC];omega
    go_wp2
    go_step3
    go_wp2
    go_quiet (fail)
    go_wp2
    go_quiet ((go_at_call 160;(refine(HB.out _ _ _ (HX.out _) hlast).mono ?_);rintro e w' ⟨rfl,rfl⟩;exact⟨rfl,_,rfl⟩))
    go_wp2
    rw[aUH]
    go_wp2
    rw[aUH]
    go_ret
    exact⟨rfl,below_drewN (aDl _ _) _⟩
 have hk:3<(Utf8.encode r).size:=by omega
 have hlast:128<=((Utf8.encode r)[3]'hk).toNat:=HE.out 3 hk (by omega);clear HE e2 e4 eb
 go_enter Tryz.func258,Tryz.ntmps258
 go_wp2_with (go_at_call 285;with_reducible refine(HV.out _).mono ?_;rintro _ w' ⟨rfl,rfl⟩)
 go_step3
 go_wp2
 go_loopw [9,10] (fun s9 s10 wx=>s9=.int .i64 3/\s10=.int .i64 0/\wx=w) (fun _ _ _=>1)
 case atStart=>exact⟨by first|rfl|rw[ha],rfl,rfl⟩
 case round=>
  obtain⟨rfl,rfl,rfl⟩:=hrel;have hne:(((s[3]'l3).toNat:Int) !=(((Utf8.encode r)[3]'hk).toNat:Int))=true:=by rw[aQC];omega
  go_wp2
  go_step3
  go_wp2
  go_quiet (fail)
  go_wp2
  go_quiet ((go_at_call 160;(refine(HB.out _ _ _ (HX.out _) hlast).mono ?_);rintro e w' ⟨rfl,rfl⟩;exact⟨rfl,_,rfl⟩))
  go_wp2
  rw[aUH]
  go_wp2
  rw[aUH]
  go_ret
  exact⟨rfl,below_drewN (aDl _ _) _⟩
theorem OB(l:List UInt8)(c:UInt8):(-1<=Lib.indexByte l c)/\(decide (0<=Lib.indexByte l c)=l.any fun b=>decide ((b.toNat:Int)=(c.toNat:Int))):=by
 induction l with
 |nil=>exact⟨a1a (-1),rfl⟩
 |cons b l ih=>
  obtain⟨i1,i2⟩:=ih;unfold Lib.indexByte;rw[a1V,<-i2]
  by_cases h:b=c
  . subst h;simp
  have hne:(b==c)=false:=by rw[aB1];exact h
  have hn: ¬((b.toNat:Int)=(c.toNat:Int)):=by
   intro e;exact h (a1E.1 (by omega))
  rw[hne,aEm hn,Bool.false_or];simp only[aMz,aQW]
  by_cases h2:Lib.indexByte l c= -1
  . rw[h2];simp
  have:(Lib.indexByte l c== -1)=false:=by rw[aB1];exact h2
  rw[this];simp only[aMz,aQW];refine⟨by omega,?_⟩;rw[aQP,aNt,aNt];omega
theorem rC(s:ByteArray)(c:UInt8):decide (0<=Lib.indexByte s.data.toList c)=hasB c.toNat s:=(OB _ _).2
theorem EJ(s:ByteArray)(hs:Asc s)(h4:4<=s.size)(h5:s.size<=1000)(r:Nat)(h1:r<=1114111)(w:World):
 Calls Tryz.prog 224 #[.string s,.int .i32 r] w fun e w'=>e=.returned (.bool (decide (r<128)&&hasB r s))/\Below w.heap.size w w':=by
 by_cases h:r<128
 . refine(Tryz.strings_ContainsRune_ascii s r w (by omega) (by omega)).mono ?_;rintro e w' ⟨rfl,rfl⟩;refine⟨?_,aDl _ _⟩;rw[rC,aEy h,aVI,aPt];have:((r.toUInt8).toNat:Int)=(r:Int):=by simp;omega
   rw[this]
 have HI:=ZU (fun w=>SQ s hs h4 h5 r (by omega) (by omega) w);rw[aEm h,aWm];clear hs
 go_enter Tryz.func224,Tryz.ntmps224
 go_wp2_with (go_at_call 258;with_reducible refine(HI.out _).mono ?_;rintro _ w' ⟨rfl,hb⟩)
 go_ret
 exact⟨rfl,hb⟩
theorem aD1(s:ByteArray)(hs:Asc s)(h4:4<=s.size)(h5:s.size<=1000)(B:Nat)(w:World)(hB:B<w.heap.size)(hcell:w.cell? ⟨B,0,none⟩=some (.string s)):
 PredGrows Tryz.prog 223 #[.pointer (some ⟨B,0,none⟩)] (fun x=> !(decide (x<128)&&hasB x s)) w:=fun W x hx hb=>by
 have hc:W.cell? ⟨B,0,none⟩=some (.string s):=(hb.cell (p:=⟨B,0,none⟩) hB).trans hcell;have HC:=ZU (fun w=>EJ s hs h4 h5 x hx w);clear hs hb hcell;obtain⟨t,ht⟩: ∃t,t=(decide (x<128)&&hasB x s):=⟨_,rfl⟩;rw[<-ht]at HC;replace ht:=ZU ht;show Calls Tryz.prog 223 #[.int .i32 x,.pointer (some ⟨B,0,none⟩)] W _
 go_enter Tryz.func223,Tryz.ntmps223
 go_wp2_with (go_at_call 224;with_reducible refine(HC.out _).mono ?_;rintro _ w' ⟨rfl,hb⟩)
 go_ret
 exact⟨by rw[<-ht.out];rfl,hb⟩
theorem WL(s set:ByteArray)(q:Int->Bool)(hs:Asc set)(h4:4<=set.size)(h5:set.size<=1000)(hq: ∀x:Nat,x<128->hasB x set=q x)(hq2: ∀x:Int,q x=true->x<128)(w:World):
 Calls Tryz.prog 172 #[.string s,.string set] w fun r w'=>r=.returned (.bool (allB q s))/\Below w.heap.size w w':=by
 have eg: ∀args w,(callFunc 223 args).run Tryz.prog w=.ok (.enter 223 args) w:=a0U Tryz.func223 (by kernel_rfl) rfl;have hcon:=Tryz.strings_IndexFunc_grows 223 #[.pointer (some ⟨w.heap.size,0,none⟩)] eg _ s (w.alloc (.cells #[.string set] 9)) (aD1 set hs h4 h5 w.heap.size _ (by simp) (by simp));have hi:=aHX q (fun x=> !(decide (x<128)&&hasB x set)) (by intro x hx;rw[aEy hx,aVI,hq x hx]) (by intro x hx;rw[aEm (by omega),aWm];rfl) hq2 s;rw[<-hi];generalize Lib.idxFunc (fun x=> !(decide (x<128)&&hasB x set)) true s=z at hcon ⊢;clear hi hs hq hq2
 go_enter Tryz.func172,Tryz.ntmps172
 go_wp2_with (go_at_call 222;refine hcon.mono ?_;rintro _ w' ⟨rfl,hb⟩)
 go_ret
 exact⟨rfl,bt (ba (aDl _ _) _) hb⟩
def YS:ByteArray:=⟨#[48,49,50,51,52,53,54,55,56,57]⟩
def U0:ByteArray:=⟨#[88,48,49,50,51,52,53,54,55,56,57]⟩
theorem aIr:Asc YS:=by unfold Asc;decide
theorem aDo:Asc U0:=by unfold Asc;decide
theorem aIq: ∀x:Nat,x<128->hasB x YS=bM x:=by decide
theorem aDn: ∀x:Nat,x<128->hasB x U0=eU x:=by decide
theorem WM(s:ByteArray)(w:World):Calls Tryz.prog 172 #[.string s,.string YS] w fun r w'=>r=.returned (.bool (allB bM s))/\Below w.heap.size w w':=
 WL s YS bM aIr (by decide) (by decide) aIq (by intro x h;unfold bM at h;have:=aHY h;omega) w
theorem aD2(s:ByteArray)(w:World):Calls Tryz.prog 172 #[.string s,.string U0] w fun r w'=>r=.returned (.bool (allB eU s))/\Below w.heap.size w w':=
 WL s U0 eU aDo (by decide) (by decide) aDn (by intro x h;unfold eU at h;simp at h;omega) w
end Bk
end
section
open Go.RowKit
namespace Bk
open Un (ba bt ri rb dO eY)
theorem size_pos(n:Int)(w:World)(h0:0<=n)(h1:n<9223372036854775808):Calls Tryz.prog 275 #[.int .i64 n] w fun r w'=>r=.returned (.int .u64 n)/\w=w':=by
 go_enter Tryz.func275,Tryz.ntmps275
 go_wp2
 go_ret
 exact⟨ri (by omega),rfl⟩
theorem aAp(n:Int)(w:World)(h0:0<=n)(h1:n<18446744073709551616):Calls Tryz.prog 276 #[.int .u64 n,.bool false] w fun r w'=>r=.returned (.tuple #[.int .i64 (if n<=9223372036854775807 then n else 0),.int .i64 (if n<=9223372036854775807 then 0 else 15)])/\w=w':=by
 by_cases c:n<=9223372036854775807
 . rw[aFw c,aFw c]
   go_enter Tryz.func276,Tryz.ntmps276
   go_wp2
   go_ret2
   exact⟨dO (by omega) rfl,rfl⟩
 rw[aFv c,aFv c]
 go_enter Tryz.func276,Tryz.ntmps276
 go_wp2
 go_ret2
 exact⟨rfl,rfl⟩
def mulC(a b:Int):Int × Int:=if a * b<=9223372036854775807 then(a * b,0)else(0,15)
theorem mul_any(a b:Int)(w:World)(a0:0<=a)(a1:a<9223372036854775808)(b0:0<=b)(b1:b<9223372036854775808):
 Calls Tryz.prog 237 #[.int .i64 a,.int .i64 b] w fun r w'=>r=.returned (.tuple #[.int .i64 (mulC a b).1,.int .i64 (mulC a b).2])/\Below w.heap.size w w':=by
 have HA:=ZU (fun w=>size_pos a w a0 a1);have HB:=ZU (fun w=>size_pos b w b0 b1);have HM: ∀W,Calls Tryz.prog 274 #[.int .u64 a,.int .u64 b] W fun e w'=>e=.returned (.tuple #[.int .u64 (a * b / 18446744073709551616),.int .u64 (a * b % 18446744073709551616)])/\w'=W:=by
  intro W;have:=Tryz.bits_Mul64 a.toNat b.toNat (by omega) (by omega) W;rw[show ((a.toNat:Nat):Int)=a by omega,show((b.toNat:Nat):Int)=b by omega]at this;have e:((a.toNat * b.toNat:Nat):Int)=a * b:=by rw[Int.natCast_mul,show((a.toNat:Nat):Int)=a by omega,show((b.toNat:Nat):Int)=b by omega]
  rw[Int.natCast_ediv,Int.natCast_emod,e]at this;exact this
 have m0:0<=a * b:=a1M a0 b0;have m1:a * b<9223372036854775808 * 9223372036854775808:=by
  have h1:=Int.mul_le_mul_of_nonneg_left (show b<=9223372036854775807 by omega) a0;omega
 unfold mulC;generalize a * b=m at *;obtain⟨hi,hhi⟩: ∃h,h=m / 18446744073709551616:=⟨_,rfl⟩;obtain⟨lo,hlo⟩: ∃h,h=m % 18446744073709551616:=⟨_,rfl⟩;rw[<-hhi,<-hlo]at HM;have k0:0<=hi:=by omega
 have k1:hi<18446744073709551616:=by omega
 have k2:0<=lo:=by omega
 have k3:lo<18446744073709551616:=by omega
 have HS:=ZU (fun w=>aAp lo w k2 k3);have E:=ZU (show m=hi * 18446744073709551616+lo by omega);replace HM:=ZU HM;clear hhi hlo m1
 by_cases c:0<hi
 . have hno: ¬m<=9223372036854775807:=by have:=E.out;omega
   simp only[aFv hno];clear hno
   go_enter Tryz.func237,Tryz.ntmps237
   go_wp2_with (first|(go_at_call 275;(first|with_reducible refine(HA.out _).mono ?_|with_reducible refine(HB.out _).mono ?_);rintro _ w' ⟨rfl,rfl⟩)|(go_at_call 274;with_reducible refine(HM.out _).mono ?_;rintro _ w' ⟨rfl,rfl⟩))
   go_ret2
   exact⟨rfl,ba (aDl _ _) _⟩
 have e:hi=0:=by omega
 subst e;have hm:m=lo:=by have:=E.out;omega
 subst hm;clear E
 by_cases c:m<=9223372036854775807
 all_goals
  first|simp only[aFw c]at HS ⊢ |simp only[aFv c]at HS ⊢
  clear c;have na:decide (a<0)=false:=aEm (by omega);have nb:decide (b<0)=false:=aEm (by omega)
  go_enter Tryz.func237,Tryz.ntmps237
  go_wp2_with (first|(go_at_call 275;(first|with_reducible refine(HA.out _).mono ?_|with_reducible refine(HB.out _).mono ?_);rintro _ w' ⟨rfl,rfl⟩)|(go_at_call 274;with_reducible refine(HM.out _).mono ?_;rintro _ w' ⟨rfl,rfl⟩)|(go_at_call 276;with_reducible refine(HS.out _).mono ?_;rintro _ w' ⟨rfl,rfl⟩))
  go_ret2
  exact⟨rfl,ba (aDl _ _) _⟩
end Bk
end
section
namespace Bk
theorem KG(s:ByteArray):s.toList.length=s.size:=by rw[a1c];simp
theorem TS{s:ByteArray}(h:s.size=0):s.toList.isEmpty=true:=by
 have:=KG s;rw[List.isEmpty_iff,<-aQS];omega
theorem LY{s:ByteArray}(h: ¬s.size=0):s.toList.isEmpty=false:=by
 have:=KG s
 cases e:s.toList.isEmpty
 . rfl
 rw[List.isEmpty_iff]at e;rw[e]at this;simp at this;omega
theorem jY(s:ByteArray):(s.size=0/\s.toList.isEmpty=true)\/(¬s.size=0/\s.toList.isEmpty=false):=by
 by_cases h:s.size=0
 . exact .inl ⟨h,TS h⟩
 exact .inr ⟨h,LY h⟩
theorem aLv(s:ByteArray):s.toList.isEmpty=decide (s.size=0):=by
 rcases jY s with⟨h,e⟩|⟨h,e⟩
 . rw[e,aEy h]
 rw[e,aEm h]
end Bk
end
section
open Go.RowKit Go.Lib
namespace Bk
open Un (ba bt ri rb dO eY)
theorem L9{s:ByteArray}(h:allB eU s=true)(i:Nat)(hi:i<s.size):bH s i=88\/(48<=bH s i/\bH s i<=57):=by
 have:=(kL _ _).1 h i hi;unfold eU at this;simp at this;omega
theorem zF{s:ByteArray}(h4:s.size=4)(h:allB eU s=true):MOk (bH s):=fun i hi=>L9 h i (by omega)
theorem uD(s:ByteArray)(w:World)(h4:s.size=4)(hx:allB eU s=true):
 Calls Tryz.prog 268 #[.string s] w fun r w'=>r=.returned (.int .i64 0)/\Below w.heap.size w w':=by
 have HS:=ZU (fun(i:Nat) (hi:i<s.size)=>L9 hx i hi);have H4:=ZU h4;have l1: ¬(18:Int)<s.size:=by omega
 have l2: ¬s.size=0:=by omega
 have l3:0<s.size:=by omega
 have l4:=LY l2;clear hx h4
 go_enter Tryz.func268,Tryz.ntmps268
 go_wp2
 go_loopg [] s.size (fun gf wx=> ∃pos:Nat,wx.heap[w.heap.size]? =some (.stringIter s pos)/\Below w.heap.size w wx/\s.size<=pos+gf)
 case atStart=>exact⟨0,World.iter_heap w s 0,(aDl _ w).alloc (aDT _) _,by omega⟩
 case round=>
  obtain⟨pos,hit,hbw,hfu⟩:=hrel
  by_cases hps:pos<s.size
  . obtain⟨g',rfl⟩: ∃g',gk=g'+1:=⟨gk - 1,by omega⟩;have hbd:=HS.out pos hps;rw[bU s pos hps]at hbd;have hnx: ∀ty,(Instr.next (.pointer (some ⟨w.heap.size,0,none⟩)) true ty).run Tryz.prog wr=_:=fun ty=>Lib.run_next_any_at wr w.heap.size s pos ty hit hps;have hde:=a1v s pos hps (by omega);rw[hde]at hnx;generalize (s[pos]'hps).toNat=R at hnx hbd hde;have hit2:=Lib.iterAt_heap wr w.heap.size s pos (pos+1) hit;have hbw2:=Lib.below_iterAt hbw (k:=w.heap.size) (aDT _) s (pos+1);clear hde;rcases hbd with h|⟨h1,h2⟩
    . have h:R=88:=by omega
      subst h
      go_wp2
      go_roundg g'
      case measure=>omega
      case rel=>exact⟨pos+1,hit2,hbw2,by omega⟩
    have e1:((R:Int)==88)=false:=by rw[aB1];omega
    have e2:((R:Int) !=88)=true:=by rw[aQC];omega
    have e3: ¬(R:Int)<48:=by omega
    have e4: ¬(57:Int)<R:=by omega
    go_wp2
    go_roundg g'
    case measure=>omega
    case rel=>exact⟨pos+1,hit2,hbw2,by omega⟩
  have hnx: ∀ty,(Instr.next (.pointer (some ⟨w.heap.size,0,none⟩)) true ty).run Tryz.prog wr=_:=fun ty=>Lib.run_next_end_at wr w.heap.size s pos ty hit hps
  go_wp2
  go_ret
  exact⟨rfl,hbw⟩
theorem aDS(n:Nat)(w:World)(h:n<=18):Calls Tryz.prog 296 #[.int .i64 n] w fun r w'=>r=.returned (.int .i64 (p10 n))/\w=w':=by
 have HT:=ZU (fun w=>O4 n w h);generalize p10 n=p at *
 go_enter Tryz.func296,Tryz.ntmps296
 go_wp2_with (go_at_call 236;with_reducible refine(HT.out _).mono ?_;rintro _ w' ⟨rfl,rfl⟩)
 go_ret
 exact⟨rfl,rfl⟩
theorem sO(s:ByteArray)(n:Int)(w:World)(h4:s.size=4):
 Calls Tryz.prog 270 #[.string s,.int .i64 n] w fun r w'=>r=.returned (.bool (decide (0<=n)&&decide (n<10000)))/\w=w':=by
 have HP:Hid (∀w:World,Calls Tryz.prog 296 #[.int .i64 s.size] w fun r w'=>r=.returned (.int .i64 10000)/\w=w'):=ZU (by
  intro w;have:=aDS 4 w (by omega);rw[h4];exact this)
 clear h4
 by_cases c:0<=n<;>by_cases c2:n<10000
 all_goals
  go_enter Tryz.func270,Tryz.ntmps270
  go_wp2_with (go_at_call 296;with_reducible refine(HP.out _).mono ?_;rintro _ w' ⟨rfl,rfl⟩)
  go_ret
  exact⟨rb (by simp[c,c2]),rfl⟩
def pv(o:Nat->Int):Nat->Int
 |0=>0
 |k+1=>10 * pv o k+(o k - 48)
theorem pv4(o:Nat->Int):pv o 4=dN o:=by unfold dN;simp only[pv];omega
theorem aSL{o:Nat->Int}(h: ∀i,i<4->48<=o i/\o i<=57)(k:Nat)(hk:k<=4):0<=pv o k/\pv o k<=9999:=by
 have a0:=h 0 (by omega);have a1:=h 1 (by omega);have a2:=h 2 (by omega);have a3:=h 3 (by omega);obtain rfl|rfl|rfl|rfl|rfl:k=0\/k=1\/k=2\/k=3\/k=4:=by omega
 all_goals simp only[pv];omega
theorem Y7(w:World)(s:ByteArray)(cap:Nat)(T:TypeId)(m:Nat × Nat)(i:Nat)(h:i<s.size):(w.drew.alloc (.cells (bytesRow s cap) T m)).cell? ⟨w.heap.size,i,none⟩=some (.int .u8 ((s[i]'h).toNat:Int)):=by
 have:=World.cell?_alloc_mark w.drew (bytesRow s cap) T m i;rw[show w.drew.heap.size=w.heap.size from rfl]at this;rw[this,bytesRow_at s cap i h]
 rfl
theorem aBT(w:World)(s:ByteArray): ∃(cap:Nat) (W1:World),(convert 9 90 (.string s)).run Tryz.prog w=.ok (.slice (some ⟨w.heap.size,0,none⟩) s.size cap) W1/\(∀i (h:i<s.size),W1.cell? ⟨w.heap.size,i,none⟩=some (.int .u8 ((s[i]'h).toNat:Int)))/\Below w.heap.size w W1:=
 ⟨_,_,run_bytes_of_string (P:=Tryz.prog) w 9 90 5 s Tryz.underlying9 Tryz.underlying90 Tryz.underlying5,fun i h=>Y7 w s _ _ _ i h,ba (aDl _ _).drew _⟩
theorem zO(s:ByteArray)(x:Int)(o:Nat->Int)(w:World)(h4:s.size=4)(ho: ∀i,i<4->o i=if bH s i=88 then x else bH s i)(hd: ∀i,i<4->48<=o i/\o i<=57):
 Calls Tryz.prog 295 #[.string s,.int .u8 x] w fun r w'=>r=.returned (.int .i64 (dN o))/\Below w.heap.size w w':=by
 obtain⟨cap,W1,hcv,hC,hB⟩:=aBT w s;have HC:=ZU hC;clear hC;have HO:=ZU ho;have HD:=ZU hd;have HP:=ZU (fun k hk=>aSL hd k hk);clear ho hd;have H4:=ZU h4;have l4:(s.size:Int)=4:=by omega
 replace l4:=ZU l4;clear h4
 go_enter Tryz.func295,Tryz.ntmps295
 go_wp2
 clear hcv
 go_loop [5,11] (fun n i=> ∃k:Nat,k<=s.size/\i=.int .i64 k/\n=.int .i64 (pv o k)) (fun _ i=>s.size - (intOf i).toNat)
 case atStart=>exact⟨0,aLm _,rfl,rfl⟩
 case round=>
  obtain⟨k,hk,rfl,rfl⟩:=hrel;have p0:=HP.out k (by have:=H4.out;omega)
  by_cases hlt:k<s.size
  . have k4:k<4:=by have:=H4.out;omega
    have hc:=HC.out k hlt;have ho:=HO.out k k4;have hd:=HD.out k k4;rw[bU s k hlt]at ho;have p1:=HP.out (k+1) (by omega);have hs:pv o (k+1)=10 * pv o k+(o k - 48):=rfl
    by_cases c:((s[k]'hlt).toNat:Int)=88
    . rw[aFw c]at ho;have HS:=ZU hs;have HO2:=ZU ho;rw[hs,ho]at p1;rw[ho]at hd;have cb:(((s[k]'hlt).toNat:Int)==88)=true:=by rw[c];rfl
      clear hs ho c;obtain⟨d0,d1⟩:=hd
      go_wp2
      go_round
      case rel=>exact⟨k+1,by omega,by go_num,by rw[HS.out,HO2.out]⟩
      case measure=>simp[intOf];omega
    rw[aFv c]at ho;have HS:=ZU hs;have HO2:=ZU ho;rw[hs,ho]at p1;rw[ho]at hd;have cb:(((s[k]'hlt).toNat:Int)==88)=false:=by rw[aB1];exact c
    clear hs ho c;obtain⟨d0,d1⟩:=hd
    go_wp2
    go_round
    case rel=>exact⟨k+1,by omega,by go_num,by rw[HS.out,HO2.out]⟩
    case measure=>simp[intOf];omega
  have e:k=4:=by have:=H4.out;omega
  subst e
  go_wp2
  go_ret
  exact⟨ri (pv4 o),hB⟩
def PZ(o:Nat->Int):Value:=.agg #[.int .u8 (o 0),.int .u8 (o 1),.int .u8 (o 2),.int .u8 (o 3),.int .u8 (o 4),.int .u8 (o 5),.int .u8 (o 6),.int .u8 (o 7),.int .u8 (o 8),.int .u8 (o 9),.int .u8 (o 10),.int .u8 (o 11),.int .u8 (o 12),.int .u8 (o 13),.int .u8 (o 14),.int .u8 (o 15),.int .u8 (o 16),.int .u8 (o 17)]
def UC(o:Nat->Int):Array Value:= #[.int .u8 (o 0),.int .u8 (o 1),.int .u8 (o 2),.int .u8 (o 3),.int .u8 (o 4),.int .u8 (o 5),.int .u8 (o 6),.int .u8 (o 7),.int .u8 (o 8),.int .u8 (o 9),.int .u8 (o 10),.int .u8 (o 11),.int .u8 (o 12),.int .u8 (o 13),.int .u8 (o 14),.int .u8 (o 15),.int .u8 (o 16),.int .u8 (o 17)]
def Dn(n:Int)(i:Nat):Int:=if i<4 then 48+dg n i else 0
structure Ar(p:Nat)(o:Nat->Int)(w W:World):Prop where
 cell: ∀i,i<18->W.cell? ⟨p,i,none⟩=some (.int .u8 (o i))
 free: ∀i,i<18->W.frozen? ⟨p,i,none⟩=false
 new:w.heap.size<=p
 below:Below w.heap.size w W
theorem Ar.later{p:Nat}{o:Nat->Int}{w W W2:World}(h:Ar p o w W)(hb:Below W.heap.size W W2):Ar p o w W2:=
 have hl:=aQG _ _ (h.cell 0 (by omega))
 ⟨fun i hi=>(hb.cell (p:=⟨p,i,none⟩) hl).trans (h.cell i hi),fun i hi=>(hb.frozen (p:=⟨p,i,none⟩) hl).trans (h.free i hi),h.new,bt h.below hb⟩
theorem Ar.set{p:Nat}{o:Nat->Int}{w W:World}(h:Ar p o w W)(k:Nat)(hk:k<18)(v:Int):Ar p (fun i=>if i=k then v else o i) w (W.setCell ⟨p,k,none⟩ (.int .u8 v)):=by
 refine⟨fun i hi=>?_,fun i hi=>by rw[aSZ];exact h.free i hi,h.new,h.below.setCell h.new _⟩
 by_cases c:i=k
 . subst c;rw[aFw rfl];exact aV7 _ _ _ (h.cell i hi)
 rw[aFv c,aQz _ _ _ _ (by intro e;injection e with e1 e2;exact c e2.symm)];exact h.cell i hi
theorem Ar.other{p q:Nat}{o:Nat->Int}{w W:World}(h:Ar p o w W)(hne:q≠p)(hq:w.heap.size<=q)(k:Nat)(v:Value):Ar p o w (W.setCell ⟨q,k,none⟩ v):=by
 refine⟨fun i hi=>?_,fun i hi=>by rw[aSZ];exact h.free i hi,h.new,h.below.setCell hq _⟩;rw[aQz _ _ _ _ (by intro e;injection e with e1 e2;exact hne e1)];exact h.cell i hi
theorem Ar.fresh(o:Nat->Int)(w:World)(t:TypeId):Ar w.heap.size o w (w.alloc (.cells (UC o) t)):=by
 refine⟨fun i hi=>?_,fun i hi=>by simp,aDT _,ba (aDl _ _) _⟩;unfold UC;obtain rfl|rfl|rfl|rfl|rfl|rfl|rfl|rfl|rfl|rfl|rfl|rfl|rfl|rfl|rfl|rfl|rfl|rfl:i=0\/i=1\/i=2\/i=3\/i=4\/i=5\/i=6\/i=7\/i=8\/i=9\/i=10\/i=11\/i=12\/i=13\/i=14\/i=15\/i=16\/i=17:=by omega
 all_goals simp[go_sem]
end Bk
end
section
open Go.RowKit Go.Lib
namespace Bk
open Un (ba bt ri rb dO eY)
theorem byte_of{x:Int}(h0:0<=x)(h1:x<256):((UInt8.ofNat x.toNat).toNat:Int)=x:=by
 rw[aVS];omega
theorem OL(s:ByteArray)(o:Nat->Int)(w:World)(h4:s.size=4)(hd: ∀i,i<4->48<=o i/\o i<=57):
 Calls Tryz.prog 298 #[.string s,PZ o] w fun r w'=>r=.returned (.int .i64 (dN o))/\Below w.heap.size w w':=by
 have hA:=Ar.fresh o w 343;obtain⟨S,hS⟩: ∃S,S=strOfNums [o 0,o 1,o 2,o 3]:=⟨_,rfl⟩;have h5:S.size=4:=by rw[hS,strOfNums_size];rfl
 have hb: ∀i,i<4->bH S i=o i:=by
  intro i hi;have:=hd i hi;unfold bH;rw[hS,strOfNums_data];obtain rfl|rfl|rfl|rfl:i=0\/i=1\/i=2\/i=3:=by omega
  all_goals exact byte_of (by omega) (by omega)
 have HF:=ZU (fun w=>zO S 0 o w h5 (fun i hi=>by rw[hb i hi,aFv (by have:=hd i hi;omega)]) hd);have HS:=ZU hS;clear hb h5 hS;unfold PZ
 go_enter Tryz.func298,Tryz.ntmps298
 go_upto_region 1 with(fail)
 unfold UC at hA;generalize w.alloc (.cells #[.int .u8 (o 0),.int .u8 (o 1),.int .u8 (o 2),.int .u8 (o 3),.int .u8 (o 4),.int .u8 (o 5),.int .u8 (o 6),.int .u8 (o 7),.int .u8 (o 8),.int .u8 (o 9),.int .u8 (o 10),.int .u8 (o 11),.int .u8 (o 12),.int .u8 (o 13),.int .u8 (o 14),.int .u8 (o 15),.int .u8 (o 16),.int .u8 (o 17)] 343)=W0 at hA ⊢;have hcv:=run_convert_bytes_arg (P:=Tryz.prog) W0 90 5 Tryz.underlying90 Tryz.underlying5 w.heap.size 0 4 18 [o 0,o 1,o 2,o 3] rfl (by
  intro i hi;rw[aHv,hA.cell i (by omega)];obtain rfl|rfl|rfl|rfl:i=0\/i=1\/i=2\/i=3:=by omega
  all_goals rfl) 9 Tryz.underlying9
 rw[<-HS.out]at hcv;have hBl:=hA.below;clear hA hd
 go_wp2_with (go_at_call 295;with_reducible refine(HF.out _).mono ?_;rintro _ w' ⟨rfl,hb⟩)
 go_ret
 exact⟨rfl,bt hBl hb⟩
theorem Ar.congr{p:Nat}{o o':Nat->Int}{w W:World}(h:Ar p o w W)(e: ∀i,i<18->o i=o' i):Ar p o' w W:=
 ⟨fun i hi=>by rw[<-e i hi];exact h.cell i hi,h.free,h.new,h.below⟩
theorem QS {w:World} {a:Addr} {v:Value} (h:w.cell? a=some v):w.setCell a v=w:=by
 have e : (w.setCell a v).heap=w.heap:=by
  unfold World.setCell;apply Array.ext
  . simp
  intro i h1 h2;simp only[Array.getElem_modify]
  split
  . rename_i hi
    subst hi;unfold World.cell? at h;rw[aJn h2]at h
    cases hb:w.heap[a.block]with
    |cells c e f=>
     rw[hb]at h;simp only at h;show Obj.cells (if a.spot.isSome=true then c else c.setIfInBounds a.off v) e f=Obj.cells c e f
     by_cases hs:a.spot.isSome=true
     . rw[aFw hs]
     rw [aFv hs]at h ⊢
     congr 1
     apply Array.ext
     . simp
     intro j g1 g2;rw[Array.getElem_setIfInBounds]
     split
     . rename_i hj
       subst hj;rw[aJn g2]at h;injection h with h;exact h.symm
     rfl
    |_=>rfl
  rfl
 show({ w with heap:=(w.setCell a v).heap }:World)=w;rw[e]
theorem AX{fn:Func}{p:Tmp}{ty:TypeId}(h:fn.results= #[.cell p ty])(tmps:Array Value){P:Program}{w:World}{a:Addr}{v:Value}
 (hp:tmps.getD p undef=.pointer (some a)) (hl:(loadVar ty a).run P w=.ok v w):(results fn tmps).run P w=.ok v w:=by
 have hp':tmps[p]?.getD undef=.pointer (some a):=by simpa using hp
 simp[results,h,hp',asAddr,hl]
def gV(o:Nat->Int):List Value:=(List.range 18).map fun i=>.int .u8 (o i)
theorem BJ(o:Nat->Int):(Value.agg (gV o).toArray)=PZ o:=rfl
theorem fP:(Tryz.prog.info? 343).map (·.size)=some 18:=by kernel_rfl
theorem aEq(o:Nat->Int)(j:Nat)(v:Value)(h:(gV o)[j]? =some v):j<18/\v=.int .u8 (o j):=by
 unfold gV at h;rw[aFx,aJs]at h;obtain⟨a,ha,rfl⟩:=h;obtain⟨hj,rfl⟩:=aEX.1 ha;simp at hj ⊢;exact hj
theorem Ar.range{p:Nat}{o:Nat->Int}{w W:World}(h:Ar p o w W):W.rangeAt p 0 (gV o):=by
 intro j v hv;obtain⟨hj,rfl⟩:=aEq o j v hv;rw[aHv];exact h.cell j hj
theorem Ar.aTH{p:Nat}{o:Nat->Int}{w W:World}(h:Ar p o w W):(loadVar 343 ⟨p,0,none⟩).run Tryz.prog W=.ok (PZ o) W:=
 aQO W p 0 _ (gV o) _ h.range Tryz.underlying343 rfl fP
theorem yA{p:Nat}{W:World}: ∀(vs:List Value) (k:Nat),W.rangeAt p k vs->W.setCells p k vs=W
 |[],_,_=>rfl
 |v::r,k,h=>by
  unfold World.setCells;rw[QS (show W.cell? ⟨p,k,none⟩=some v from h 0 v rfl)];exact yA r (k+1) (fun j u hj=>by rw[show k+1+j=k+(j+1) by omega];exact h (j+1) u hj)
theorem Ar.there{p:Nat}{o:Nat->Int}{w W:World}(h:Ar p o w W):W.there p 0 (gV o).toArray.size:=fun j hj=>by
 have hj:j<18:=hj;rw[aHv,h.cell j hj];exact⟨rfl,h.free j hj⟩
theorem WQ(o:Nat->Int):(gV o).toArray.all (·.oneCell')=true:=a05 (fun v hv=>by
 unfold gV at hv;rw[aMm]at hv;obtain⟨i,_,rfl⟩:=hv
 rfl)
theorem Ar.self{p:Nat}{o:Nat->Int}{w W:World}(h:Ar p o w W):W.setCells p 0 (gV o).toArray.toList=W:=yA (gV o) 0 h.range
def nd(n:Int)(j:Nat):Int:=if j=0 then n else if j=1 then n / 10 else if j=2 then n / 100 else if j=3 then n / 1000 else n / 10000
def Sp(n:Int)(j i:Nat):Int:=if 4<=i+j/\i<4 then 48+dg n i else 0
theorem aMj(n:Int)(i:Nat):Sp n 4 i=Dn n i:=by
 unfold Sp Dn
 by_cases h:i<4
 . rw[aFw ⟨by omega,h⟩,aFw h]
 rw[aFv (by omega),aFv h]
theorem J3(n:Int)(h0:0<=n)(h1:n<=9999)(j:Nat)(hj:j<4):0<=nd n j/\nd n j<=9999/\nd n (j+1)=nd n j / 10/\dg n (3 - j)=nd n j % 10:=by
 unfold nd dg;obtain rfl|rfl|rfl|rfl:j=0\/j=1\/j=2\/j=3:=by omega
 all_goals simp
 all_goals omega
theorem Ar.zero(w:World)(t:TypeId):Ar w.heap.size (fun _=>0) w (w.alloc (.cells #[.int .u8 0,.int .u8 0,.int .u8 0,.int .u8 0,.int .u8 0,.int .u8 0,.int .u8 0,.int .u8 0,.int .u8 0,.int .u8 0,.int .u8 0,.int .u8 0,.int .u8 0,.int .u8 0,.int .u8 0,.int .u8 0,.int .u8 0,.int .u8 0] t)):=Ar.fresh (fun _=>0) w t
theorem OO(s:ByteArray)(n:Int)(w:World)(h4:s.size=4)(h0:0<=n)(h1:n<=9999):
 Calls Tryz.prog 297 #[.string s,.int .i64 n] w fun r w'=>r=.returned (PZ (Dn n))/\Below w.heap.size w w':=by
 have hA:=Ar.zero w 343;have HN:=ZU (fun j hj=>J3 n h0 h1 j hj);have hSn: ∀j,j<4-> ∀i,i<18->(if i=3 - j then 48+dg n (3 - j)else Sp n j i)=Sp n (j+1) i:=by
  intro j hj i hi;unfold Sp
  by_cases c:i=3 - j
  . subst c;rw[aFw rfl,aFw (by omega)]
  rw[aFv c]
  by_cases d:4<=i+j/\i<4
  . rw[aFw d,aFw (by omega)]
  rw[aFv d,aFv (by omega)]
 have HS:=ZU hSn;clear hSn;obtain⟨o,ho⟩: ∃o,o=Dn n:=⟨_,rfl⟩;rw[<-ho];have HO:=ZU (fun i=>(by rw[ho];exact aMj n i:Sp n 4 i=o i));clear ho
 go_enter Tryz.func297,Tryz.ntmps297
 go_upto_block 0 with(fail)
 generalize w.alloc (.cells #[.int .u8 0,.int .u8 0,.int .u8 0,.int .u8 0,.int .u8 0,.int .u8 0,.int .u8 0,.int .u8 0,.int .u8 0,.int .u8 0,.int .u8 0,.int .u8 0,.int .u8 0,.int .u8 0,.int .u8 0,.int .u8 0,.int .u8 0,.int .u8 0] 343)=W0 at hA ⊢;replace hA:=ZU (hA.congr (o':=Sp n 0) (fun i hi=>by unfold Sp;rw[aFv (by omega)]));clear h4
 go_wp2
 go_loopw [1,5] (fun t i wx=> ∃k:Nat,k<=4/\i=.int .i64 ((k:Int) - 1)/\t=.int .i64 (nd n (4 - k))/\Ar w.heap.size (Sp n (4 - k)) w wx) (fun _ i _=>((intOf i)+1).toNat)
 case atStart=>exact⟨4,aDT _,rfl,rfl,hA.out⟩
 case round=>
  obtain⟨k,hk,hi,rfl,hA⟩:=hrel
  by_cases hlt:0<k
  . obtain⟨m,rfl⟩: ∃m,k=m+1:=⟨k - 1,by omega⟩;rw[show (((m+1:Nat):Int)) - 1=(m:Int) by omega]at hi;subst hi;have hj:4 - (m+1)<4:=by omega
    obtain⟨d0,d1,d2,d3⟩:=HN.out _ hj;have hs:=HS.out _ hj;rw[show 4 - (m+1)+1=4 - m by omega]at d2 hs;rw[show 3 - (4 - (m+1))=m by omega]at d3 hs;have hc:=hA.cell m (by omega);have hf:=hA.free m (by omega);have hm:m<18:=by omega
    have hm4:(m:Int)<4:=by omega
    generalize nd n (4 - (m+1))=q at *;have hX:=ZU ((hA.set m hm (48+q % 10)).congr (o':=Sp n (4 - m)) (fun i hi=>by rw[<-d3];exact hs i hi));have D2:=ZU d2;have e0:0<=q % 10:=by omega
    have e1:q % 10<=9:=by omega
    clear hA hs d2 d3
    go_wp2
    go_roundw
    case rel=>exact⟨m,by omega,rfl,by rw[D2.out],hX.out⟩
    case measure=>simp[intOf]
  as_aux_lemma=>
   obtain rfl:k=0:=by omega
   subst hi;have hA2:=hA.congr (o':=o) (fun i _=>HO.out i);clear hA;have hR:=hA2.range;have hT:=hA2.there;have hS:=ZU hA2.self;have hlv:=ZU hA2.aTH;have HB:=ZU hA2.below;clear hA2
   go_wp2_with (first
    |(refine aNI rfl 343 (.tmp 4) rfl w.heap.size 0 rfl (gV o) _ hR Tryz.underlying343 rfl fP ?_)
    |(refine aQQ rfl 343 (.tmp 4) (.tmp 21) rfl w.heap.size 0 (gV o).toArray rfl rfl hT fP (WQ o) ?_;rw[hS.out]))
   exact a0V (v:=PZ o) (AX Tryz.results297 _ rfl hlv.out) rfl ⟨rfl,HB.out⟩
end Bk
end
section
open Go.RowKit Go.Lib
namespace Bk
open Un (ba bt ri rb dO eY)
theorem Ar.fresh0{w W:World}(hb:Below w.heap.size w W)(t:TypeId):Ar W.heap.size (fun _=>0) w (W.alloc (.cells #[.int .u8 0,.int .u8 0,.int .u8 0,.int .u8 0,.int .u8 0,.int .u8 0,.int .u8 0,.int .u8 0,.int .u8 0,.int .u8 0,.int .u8 0,.int .u8 0,.int .u8 0,.int .u8 0,.int .u8 0,.int .u8 0,.int .u8 0,.int .u8 0] t)):=by
 have h:=Ar.zero W t;exact⟨h.cell,h.free,hb.size,ba hb _⟩
theorem Ar.vK{p:Nat}{o:Nat->Int}{w W:World}(h:Ar p o w W)(o':Nat->Int):Ar p o' w (W.setCells p 0 (gV o').toArray.toList):=by
 have key: ∀(vs:List Value) (k:Nat) (W:World),(∀i,k<=i->i<k+vs.length->(W.cell? ⟨p,i,none⟩).isSome=true)->(∀j v,vs[j]? =some v->(W.setCells p k vs).cell? ⟨p,k+j,none⟩=some v):=by
  intro vs
  induction vs with
  |nil=>intro k W _ j v hv;simp at hv
  | cons u r ih=>
   intro k W hs j v hv;unfold World.setCells
   cases j with
   |zero=>
    simp at hv;subst hv;rw[aV6 p r (k+1) _ ⟨p,k+0,none⟩ (fun _ _=>.inl (by show k+0<k+1;omega))];obtain⟨x,hx⟩:=aUm.1 (hs k (aDT _) (by simp));exact aV7 _ _ _ hx
   |succ j=>
    rw[show k+(j+1)=k+1+j by omega];refine ih (k+1) _ (fun i h1 h2=>?_) j v (by simpa using hv);rw[aQz _ _ _ _ (by intro e;injection e with _ e2;omega)];exact hs i (by omega) (by simp;omega)
 have fz: ∀(vs:List Value) (k:Nat) (W:World) (i:Nat),(W.setCells p k vs).frozen? ⟨p,i,none⟩=W.frozen? ⟨p,i,none⟩:=by
  intro vs
  induction vs with
  |nil=>intro k W i;rfl
  |cons u r ih=>intro k W i;unfold World.setCells;rw[ih,aSZ]
 have bl: ∀(vs:List Value) (k:Nat) (W:World),Below w.heap.size w W->Below w.heap.size w (W.setCells p k vs):=by
  intro vs
  induction vs with
  |nil=>intro k W hb;exact hb
  |cons u r ih=>intro k W hb;unfold World.setCells;exact ih _ _ (hb.setCell h.new _)
 have hl:(gV o').toArray.toList=gV o':=rfl;rw[hl];refine⟨fun i hi=>?_,fun i hi=>by rw[fz];exact h.free i hi,h.new,bl _ _ _ h.below⟩;have:=key (gV o') 0 W (fun j _ hj=>by
  have hj:j<18:=by have:(gV o').length=18:=rfl;omega
  rw[h.cell j hj];rfl) i (.int .u8 (o' i)) (by
   unfold gV;rw[aFx,aQB hi];rfl)
 rw[aHv]at this;exact this
theorem Ar.others{p q:Nat}{o:Nat->Int}{w W:World}(h:Ar p o w W)(hne:q≠p)(hq:w.heap.size<=q): ∀(vs:List Value) (k:Nat),Ar p o w (W.setCells q k vs):=by
 intro vs
 induction vs generalizing W with
 |nil=>intro k;exact h
 |cons u r ih=>intro k;unfold World.setCells;exact ih (h.other hne hq k u) (k+1)
theorem Ar.alloc{p:Nat}{o:Nat->Int}{w W:World}(h:Ar p o w W)(ob:Obj):Ar p o w (W.alloc ob):=h.later (ba (aDl _ _) _)
def aDd(P:Int->Int->Prop)(w:World)(e:Ending)(w':World):Prop:= ∃v x,P v x/\e=.returned (.tuple #[.int .i64 v,.int .i64 x])/\Below w.heap.size w w'
def aDe(b:Nat->Int)(n:Int)(j:Nat)(o:Nat->Int):Prop:= ∀o':Nat->Int,(∀i,i<j->o' i=o i)->(∀i,j<=i->i<4->o' i=if b i=88 then 48 else b i)->
 (qI b (dN o')/\n<=dN o'/\ ∀f,qI b f->n<=f->dN o'<=f)/\(∀i,i<4->48<=o' i/\o' i<=57)
def aDf(b:Nat->Int)(n:Int)(j:Nat)(o:Nat->Int):Prop:= ∀o':Nat->Int,(∀i,i<j->o' i=o i)->(∀i,j<=i->i<4->o' i=if b i=88 then 57 else b i)->
 (qI b (dN o')/\dN o'<=n/\ ∀f,qI b f->f<=n->f<=dN o')/\(∀i,i<4->48<=o' i/\o' i<=57)
theorem FH{n:Int}(h0:0<=n)(h1:n<=9999)(i:Nat):0<=dg n i/\dg n i<=9:=by unfold dg;(repeat' split)<;>omega
theorem GX{b:Nat->Int}(hb:MOk b){x y:Int}{i:Nat}(hi:i<4)(hx:48<=x/\x<=57)(h:y=if b i=88 then x else b i):48<=y/\y<=57:=by
 have:=hb i hi;rw[h];split<;>omega
theorem aBy{b:Nat->Int}{n:Int}{k:Nat}(hb:MOk b)(h0:0<=n)(h1:n<=9999)(hk:k<4)(hf: ∀i,i<k->dI b n i)(hx:b k≠88)(hg:48+dg n k<b k):aDe b n k (Dn n):=by
 intro o ho hr;have ho': ∀i,i<k->o i=48+dg n i:=fun i hi=>by rw[ho i hi];unfold Dn;rw[aFw (by omega)]
 refine⟨aJ5 hb h0 h1 hk hf hx hg ho' hr,fun i hi=>?_⟩
 by_cases c:i<k
 . rw[ho' i c];have:=FH h0 h1 i;omega
 exact GX hb hi (by omega) (hr i (by omega) hi)
theorem aBA{b:Nat->Int}{n:Int}{k:Nat}(hb:MOk b)(h0:0<=n)(h1:n<=9999)(hk:k<4)(hf: ∀i,i<k->dI b n i)(hx:b k≠88)(hg:b k<48+dg n k):aDf b n k (Dn n):=by
 intro o ho hr;have ho': ∀i,i<k->o i=48+dg n i:=fun i hi=>by rw[ho i hi];unfold Dn;rw[aFw (by omega)]
 refine⟨aLA hb h0 h1 hk hf hx hg ho' hr,fun i hi=>?_⟩
 by_cases c:i<k
 . rw[ho' i c];have:=FH h0 h1 i;omega
 exact GX hb hi (by omega) (hr i (by omega) hi)
theorem aBz{b:Nat->Int}{n:Int}{k j:Nat}(hb:MOk b)(h0:0<=n)(h1:n<=9999)(hk:k<4)(hf: ∀i,i<k->dI b n i)(hx:b k≠88)(hg:b k<48+dg n k)
 (hj:j<k) (hbx:b j=88) (hd:dg n j≠9) (hn: ∀i,j<i->i<k-> ¬(b i=88/\dg n i≠9)):aDe b n (j+1) (fun i=>if i=j then 48+dg n j+1 else Dn n i):=by
 intro o ho hr;have ho': ∀i,i<j->o i=48+dg n i:=fun i hi=>by rw[ho i (by omega)];dsimp only;rw[aFv (by omega)];unfold Dn;rw[aFw (by omega)]
 have hoj:o j=48+dg n j+1:=by rw[ho j (by omega)];dsimp only;rw[aFw rfl]
 have hr': ∀i,j<i->i<4->o i=if b i=88 then 48 else b i:=fun i h1 h2=>hr i (by omega) h2
 refine⟨aJ6 hb h0 h1 hk hf hx hg hj hbx hd hn ho' hoj hr',fun i hi=>?_⟩
 by_cases c:i<j
 . rw[ho' i c];have:=FH h0 h1 i;omega
 by_cases e:i=j
 . subst e;rw[hoj];have:=FH h0 h1 i;omega
 exact GX hb hi (by omega) (hr i (by omega) hi)
theorem aBB{b:Nat->Int}{n:Int}{k j:Nat}(hb:MOk b)(h0:0<=n)(h1:n<=9999)(hk:k<4)(hf: ∀i,i<k->dI b n i)(hx:b k≠88)(hg:48+dg n k<b k)
 (hj:j<k) (hbx:b j=88) (hd:dg n j≠0) (hn: ∀i,j<i->i<k-> ¬(b i=88/\dg n i≠0)):aDf b n (j+1) (fun i=>if i=j then 48+dg n j - 1 else Dn n i):=by
 intro o ho hr;have ho': ∀i,i<j->o i=48+dg n i:=fun i hi=>by rw[ho i (by omega)];dsimp only;rw[aFv (by omega)];unfold Dn;rw[aFw (by omega)]
 have hoj:o j=48+dg n j - 1:=by rw[ho j (by omega)];dsimp only;rw[aFw rfl]
 have hr': ∀i,j<i->i<4->o i=if b i=88 then 57 else b i:=fun i h1 h2=>hr i (by omega) h2
 refine⟨aLB hb h0 h1 hk hf hx hg hj hbx hd hn ho' hoj hr',fun i hi=>?_⟩
 by_cases c:i<j
 . rw[ho' i c];have:=FH h0 h1 i;omega
 by_cases e:i=j
 . subst e;rw[hoj];have:=FH h0 h1 i;omega
 exact GX hb hi (by omega) (hr i (by omega) hi)
theorem UG (s : ByteArray) (n:Int) (w:World) (h4:s.size=4) (hx:allB eU s=true) (h0:0<=n) (h1:n<=9999):
 Calls Tryz.prog 271 #[.string s,.int .i64 n,.bool true] w (aDd (CZ (bH s) n) w):=by
 have hb:=zF h4 hx;have HS:Hid (∀w,Calls Tryz.prog 297 #[.string s,.int .i64 n] w fun r w'=>r=.returned (.agg (gV (Dn n)).toArray)/\Below w.heap.size w w'):=ZU (fun w=>by rw[BJ];exact OO s n w h4 h0 h1);have HV:Hid (∀(o:Nat->Int) (w:World),(∀i,i<4->48<=o i/\o i<=57)->Calls Tryz.prog 298 #[.string s,.agg (gV o).toArray] w fun r w'=>r=.returned (.int .i64 (dN o))/\Below w.heap.size w w'):=ZU (fun o w hd=>by rw[BJ];exact OL s o w h4 hd);have H4:=ZU h4;have HM:=ZU hb;have HH:=ZU (⟨h0,h1⟩:0<=n/\n<=9999);clear h4 hx hb
 go_enter Tryz.func271,Tryz.ntmps271
 go_upto_region 4 with(fail)
 go_cut [10] (fun s10 wx=> ∃pa,s10=.pointer (some ⟨pa,0,none⟩)/\Ar pa (Dn n) w wx)
 case first=>
  clear HV
  go_wp2_with (first
   |(go_at_call 297;with_reducible refine(HS.out _).mono ?_;rintro _ w1 ⟨rfl,hb1⟩;have z1:=Ar.fresh0 hb1 343)
   |(refine aQQ rfl 343 (.tmp 10) (.tmp 19) rfl w1.heap.size 0 (gV (Dn n)).toArray rfl rfl z1.there fP (WQ (Dn n)) ?_))
  go_meet
  exact⟨_,rfl,z1.vK _⟩
 case rest =>
  obtain⟨pa,rfl,hA⟩:=hcut;clear HS
  go_upto_region 5 with(fail)
  go_cut [11] (fun s11 wx=> ∃pb,s11=.pointer (some ⟨pb,0,none⟩)/\pb≠pa/\Ar pa (Dn n) w wx/\Ar pb (Dn n) w wx)
  case first=>
   clear HV;have hR:=hA.range;have z1:=Ar.fresh0 hA.below 343;have hne:wc.heap.size≠pa:=by have:=aQG _ _ (hA.cell 0 (by omega));show wc.heap.size≠pa;have h2:pa<wc.heap.size:=this;omega
   have hA2:=ZU ((hA.alloc (.cells #[.int .u8 0,.int .u8 0,.int .u8 0,.int .u8 0,.int .u8 0,.int .u8 0,.int .u8 0,.int .u8 0,.int .u8 0,.int .u8 0,.int .u8 0,.int .u8 0,.int .u8 0,.int .u8 0,.int .u8 0,.int .u8 0,.int .u8 0,.int .u8 0] 343)).others hne hA.below.size (gV (Dn n)).toArray.toList 0);clear hA
   go_wp2_with (first
    |(refine aNI rfl 343 (.tmp 10) rfl pa 0 rfl (gV (Dn n)) _ hR Tryz.underlying343 rfl fP ?_)
    |(refine aQQ rfl 343 (.tmp 11) (.tmp 20) rfl wc.heap.size 0 (gV (Dn n)).toArray rfl rfl z1.there fP (WQ (Dn n)) ?_))
   go_meet
   exact⟨_,rfl,hne,hA2.out,z1.vK _⟩
  case rest =>
   obtain⟨pb,rfl,hne,hA,hB⟩:=hcut;have HNE:=ZU hne;clear hne
   go_upto_block 0 with(fail)
   go_wp2
   go_loopw [12] (fun i wx=> ∃k:Nat,k<=4/\i=.int .i64 k/\(∀i,i<k->dI (bH s) n i)/\Ar pa (Dn n) w wx/\Ar pb (Dn n) w wx) (fun i _=>4 - (intOf i).toNat)
   case atStart=>exact⟨0,aLm _,rfl,fun i hi=>by omega,hA,hB⟩
   case round =>
    obtain⟨k,hk,rfl,hf,hA2,hB2⟩:=hrel;clear hA hB;have HF:=ZU hf;clear hf
    by_cases hlt:k<4
    . have hks : k < s.size:=by have:=H4.out;omega
      have aY5:(k:Int)<s.size:=by omega
      have hc:=hA2.cell k (by omega);have hd:Dn n k=48+dg n k:=by unfold Dn;rw[aFw hlt]
      have hbk:=bU s k hks;rw[hd]at hc;have HC:=ZU hbk;have aY6:(k:Int)<18:=by omega
      replace hA2:=ZU hA2;replace hB2:=ZU hB2;clear hd hbk;obtain⟨d,hdd⟩: ∃d,d=dg n k:=⟨_,rfl⟩;rw[<-hdd]at hc;replace hdd:=ZU hdd
      by_cases c1:((s[k]'hks).toNat:Int)=88
      . as_aux_lemma=>
         have t1:(((s[k]'hks).toNat:Int)==88)=true:=by rw[c1];rfl
         have HFn: ∀i,i<k+1->dI (bH s) n i:=by
          intro i hi
          by_cases e:i=k
          . subst e;exact .inl (by rw[HC.out,c1])
          exact HF.out i (by omega)
         replace HFn:=ZU HFn;clear c1
         go_wp2
         go_quiet (fail)
         go_wp2
         go_roundw
         case rel=>exact⟨k+1,by omega,by go_num,HFn.out,hA2.out.later (below_drewN (aDl _ _) _),hB2.out.later (below_drewN (aDl _ _) _)⟩
         case measure=>simp[intOf];omega
      have t1 : (((s[k]'hks).toNat:Int)==88)=false:=by rw[aB1];exact c1
      by_cases c2:((s[k]'hks).toNat:Int)=48+d
      . as_aux_lemma=>
         have t2:(((s[k]'hks).toNat:Int)==48+d)=true:=by rw[c2];exact aWz _
         have HFn: ∀i,i<k+1->dI (bH s) n i:=by
          intro i hi
          by_cases e:i=k
          . subst e;exact .inr (by rw[HC.out,c2,hdd.out])
          exact HF.out i (by omega)
         replace HFn:=ZU HFn;clear c1 c2
         go_wp2
         go_quiet (fail)
         go_wp2
         go_roundw
         case rel=>exact⟨k+1,by omega,by go_num,HFn.out,hA2.out.later (below_drewN (aDl _ _) _),hB2.out.later (below_drewN (aDl _ _) _)⟩
         case measure=>simp[intOf];omega
      as_aux_lemma =>
       have t2:(((s[k]'hks).toNat:Int)==48+d)=false:=by rw[aB1];exact c2
       have t3:((k:Int)==(s.size:Int))=false:=by rw[aB1];omega
       have C1:=ZU c1;clear c1
       go_wp2
       go_quiet (fail)
       rename_i nq
       replace hA2:=ZU (hA2.out.later (below_drewN (aDl wr.heap.size wr) nq));replace hB2:=ZU (hB2.out.later (below_drewN (aDl wr.heap.size wr) nq));have hc2:(wr.drewN nq).cell? ⟨pa,k,none⟩=some (.int .u8 (48+d)):=hc;clear hc;generalize wr.drewN nq=W2 at *
       go_wp2
       obtain⟨BK,SY⟩: ∃b:Bool,b=decide (((s[k]'hks).toNat:Int)<48+d):=⟨_,rfl⟩
       go_upto_region 11 with(fail)
       go_cut [55] (fun s55 wx=>s55=.bool BK/\ ∃nq,wx=W2.drewN nq)
       case first=>
        as_aux_lemma=>
         by_cases hh:48+d<((s[k]'hks).toNat:Int)
         . obtain rfl:BK=false:=by rw[SY];exact aEm (by omega)
           clear SY;have hcmp:decide (48+d<((s[k]'hks).toNat:Int))=true:=by first|exact aEy (by omega)|exact aEm (by omega)
           go_quiet (fail)
           go_wp2
           go_meet
           exact⟨rfl,_,rfl⟩
         have hh2:((s[k]'hks).toNat:Int)<48+d:=by omega
         obtain rfl:BK=true:=by rw[SY];exact aEy hh2
         have hcmp:decide (48+d<((s[k]'hks).toNat:Int))=false:=by first|exact aEy (by omega)|exact aEm (by omega)
         clear SY hh
         go_quiet (fail)
         go_wp2
         go_meet
         exact⟨rfl,_,rfl⟩
       case rest =>
        obtain⟨rfl,nq2,rfl⟩:=hcut;replace hA2:=ZU (hA2.out.later (below_drewN (aDl W2.heap.size W2) nq2));replace hB2:=ZU (hB2.out.later (below_drewN (aDl W2.heap.size W2) nq2));clear hc2 t1 t2 t3;generalize W2.drewN nq2=W3 at *
        go_upto_if 55 with(fail)
        go_cut [12] (fun s12 wx=> ∃(j:Nat) (o:Nat->Int),j<=4/\s12=.int .i64 j/\Ar pb o w wx/\aDe (bH s) n j o)
        case first =>
         as_aux_lemma=>
          clear HV
          cases BK
          . have hh:48+d<((s[k]'hks).toNat:Int):=by have:=aOC SY.symm;omega
            have HG:=aBy HM.out HH.out.1 HH.out.2 hlt HF.out (by rw[HC.out];exact C1.out) (by rw[HC.out,<-hdd.out];exact hh);replace HG:=ZU HG;clear SY hh
            go_wp2
            go_meet
            exact⟨k,Dn n,by omega,rfl,hB2.out,HG.out⟩
          have hh :((s[k]'hks).toNat:Int)<48+d:=aHY SY.symm;have hg2:=ZU (show bH s k<48+dg n k by rw[HC.out,<-hdd.out];exact hh);clear SY hh hdd
          go_wp2
          go_step3
          go_wp2
          go_step3
          go_wp2
          go_loopw [12] (fun i wx=> ∃m:Nat,m<=k/\i=.int .i64 m/\(∀i,m<=i->i<k-> ¬(bH s i=88/\dg n i≠9))/\Ar pa (Dn n) w wx/\Ar pb (Dn n) w wx) (fun i _=>(intOf i).toNat)
          case atStart=>exact⟨k,aDT _,rfl,fun i h1 h2=>by omega,hA2.out,hB2.out⟩
          case round=>
           obtain⟨m,hm,hi,hno,hA3,hB3⟩:=hrel;clear hA2 hB2;have HNO:=ZU hno;clear hno
           by_cases hm0:0<m
           . obtain⟨q,rfl⟩: ∃q,m=q+1:=⟨m - 1,by omega⟩;rw[show (((q+1:Nat)):Int)=(q:Int)+1 by omega]at hi;subst hi;have hq4:q<4:=by omega
             have hqs:q<s.size:=by omega
             have aYX:(q:Int)<s.size:=by omega
             have aY0:(q:Int)<18:=by omega
             have hca:=hA3.cell q (by omega);have hcb:=hB3.cell q (by omega);have hfb:=hB3.free q (by omega);have hDq:Dn n q=48+dg n q:=by unfold Dn;rw[aFw hq4]
             rw[hDq]at hca hcb;have hbq:=ZU (bU s q hqs);have hqb:=FH HH.out.1 HH.out.2 q;obtain⟨e,he⟩: ∃e,e=dg n q:=⟨_,rfl⟩;rw[<-he]at hca hcb hqb;replace he:=ZU he;obtain⟨b0,b1⟩:=hqb;clear hDq;have hX:=ZU (hB3.set q (by omega) (48+e+1))
             by_cases g1:((s[q]'hqs).toNat:Int)=88
             . by_cases g2:e=9
               . as_aux_lemma=>
                  have u1:(((s[q]'hqs).toNat:Int)==88)=true:=by rw[g1];rfl
                  have u2:(48+e !=57)=false:=by rw[g2];rfl
                  have hN: ∀i,q<=i->i<k-> ¬(bH s i=88/\dg n i≠9):=by
                   intro i h1 h2
                   by_cases c:i=q
                   . subst c;rintro⟨_,h⟩;exact h (by rw[<-he.out];exact g2)
                   exact HNO.out i (by omega) h2
                  replace hN:=ZU hN;replace hA3:=ZU hA3;replace hB3:=ZU hB3;clear g1 g2
                  go_wp2
                  go_roundw
                  case rel=>exact⟨q,by omega,rfl,hN.out,hA3.out,hB3.out⟩
                  case measure=>simp[intOf]
               as_aux_lemma=>
                have u1:(((s[q]'hqs).toNat:Int)==88)=true:=by rw[g1];rfl
                have u2:(48+e !=57)=true:=by rw[aQC];omega
                have hGd:aDe (bH s) n (q+1) (fun i=>if i=q then 48+dg n q+1 else Dn n i):=aBz HM.out HH.out.1 HH.out.2 hlt HF.out (by rw[HC.out];exact C1.out) hg2.out (by omega) (by rw[hbq.out];exact g1) (by rw[<-he.out];exact g2) (fun i h1 h2=>HNO.out i (by omega) h2);rw[<-he.out]at hGd;replace hGd:=ZU hGd;have ee:e<=8:=by omega
                replace hA3:=ZU hA3;replace hB3:=ZU hB3;clear g1 g2
                go_wp2
                rw[a1l]
                go_wp2
                go_meet
                exact⟨q+1,_,by omega,by go_num,hX.out,hGd.out⟩
             as_aux_lemma=>
              have u1:(((s[q]'hqs).toNat:Int)==88)=false:=by rw[aB1];exact g1
              have hN: ∀i,q<=i->i<k-> ¬(bH s i=88/\dg n i≠9):=by
               intro i h1 h2
               by_cases c:i=q
               . subst c;rintro⟨h,_⟩;exact g1 (by rw[<-hbq.out];exact h)
               exact HNO.out i (by omega) h2
              replace hN:=ZU hN;replace hA3:=ZU hA3;replace hB3:=ZU hB3;clear g1
              go_wp2
              go_roundw
              case rel=>exact⟨q,by omega,rfl,hN.out,hA3.out,hB3.out⟩
              case measure=>simp[intOf]
           as_aux_lemma=>
            obtain rfl:m=0:=by omega
            subst hi;have hN:CZ (bH s) n 0 16:=.inr ⟨rfl,rfl,aJ4 HH.out.1 HH.out.2 hlt HF.out (by rw[HC.out];exact C1.out) hg2.out (fun i hi=>HNO.out i (by omega) hi)⟩;replace hN:=ZU hN;have HB:=ZU hA3.below;clear hA3 hB3
            go_wp2
            rw[aUH]
            go_wp2
            go_ret2
            exact⟨_,_,hN.out,rfl,HB.out⟩
        case rest=>
         as_aux_lemma=>
          obtain⟨j,o,hj,rfl,hO,hG⟩:=hcut;clear hA2 hB2 SY;have HG:=ZU hG;clear hG
          go_wp2
          go_loopw [12] (fun i wx=> ∃(m:Nat) (o2:Nat->Int),m<=4/\j<=m/\i=.int .i64 m/\Ar pb o2 w wx/\(∀i,i<j->o2 i=o i)/\(∀i,j<=i->i<m->o2 i=if bH s i=88 then 48 else bH s i)) (fun i _=>4 - (intOf i).toNat)
          case atStart=>exact⟨j,o,hj,aDT _,rfl,hO,fun i _=>rfl,fun i h1 h2=>by omega⟩
          case round=>
           obtain⟨m,o2,hm,hjm,rfl,hO2,hlo,hfi⟩:=hrel;clear hO;have UO:=ZU hlo;have HFI:=ZU hfi;clear hlo hfi
           by_cases hm4:m<4
           . as_aux_lemma=>
              have hms:m<s.size:=by have:=H4.out;omega
              have aPB:(m:Int)<s.size:=by omega
              have hm18:(m:Int)<18:=by omega
              have hbm:=bU s m hms;have hcm:=hO2.cell m (by omega);have hfm:=hO2.free m (by omega);have hX1:=hO2.set m (by omega) ((s[m]'hms).toNat:Int);have hc1:=hX1.cell m (by omega);have hf1:=hX1.free m (by omega)
              by_cases g1:((s[m]'hms).toNat:Int)=88
              . have u1:(((s[m]'hms).toNat:Int)==88)=true:=by rw[g1];rfl
                have hX2:=(hX1.set m (by omega) 48).congr (o':=fun i=>if i=m then(if bH s m=88 then 48 else bH s m)else o2 i) (fun i _=>by
                 (try dsimp only)
                 by_cases c:i=m
                 . rw[aFw c,aFw c,aFw (by rw[hbm];exact g1)]
                 rw[aFv c,aFv c,aFv c])
                replace hX2:=ZU hX2;replace hO2:=ZU hO2;clear hX1 hc1 hbm g1
                go_wp2
                go_roundw
                case rel=>exact⟨m+1,_,by omega,by omega,by go_num,hX2.out,fun i hi=>by(try dsimp only);rw[aFv (by omega)];exact UO.out i hi,fun i h1 h2=>by
                 (try dsimp only)
                 by_cases c:i=m
                 . subst c;rw[aFw rfl]
                 rw[aFv c];exact HFI.out i h1 (by omega)⟩
                case measure=>simp[intOf];omega
              have u1:(((s[m]'hms).toNat:Int)==88)=false:=by rw[aB1];exact g1
              have hX2:=hX1.congr (o':=fun i=>if i=m then(if bH s m=88 then 48 else bH s m)else o2 i) (fun i _=>by
               (try dsimp only)
               by_cases c:i=m
               . rw[aFw c,aFw c,aFv (by rw[hbm];exact g1),hbm]
               rw[aFv c,aFv c])
              replace hX2:=ZU hX2;replace hO2:=ZU hO2;clear hX1 hc1 hf1 hbm g1
              go_wp2
              go_roundw
              case rel=>exact⟨m+1,_,by omega,by omega,by go_num,hX2.out,fun i hi=>by(try dsimp only);rw[aFv (by omega)];exact UO.out i hi,fun i h1 h2=>by
               (try dsimp only)
               by_cases c:i=m
               . subst c;rw[aFw rfl]
               rw[aFv c];exact HFI.out i h1 (by omega)⟩
              case measure=>simp[intOf];omega
           as_aux_lemma=>
            obtain rfl:m=4:=by omega
            obtain⟨hv,hb⟩:=HG.out o2 UO.out HFI.out;have hV:=ZU (fun w=>HV.out o2 w hb);have hN:CZ (bH s) n (dN o2) 0:=.inl ⟨rfl,hv⟩;replace hN:=ZU hN;have aPB:((4:Nat):Int)<s.size->False:=by have:=H4.out;omega
            have hR:=hO2.range;have HB:=ZU hO2.below;have h4b:=H4.out;clear hO2 HG HFI UO hv hb
            go_wp2_with (first
             |(refine aNI rfl 343 (.tmp 11) rfl pb 0 rfl (gV o2) _ hR Tryz.underlying343 rfl fP ?_)
             |(go_at_call 298;with_reducible refine(hV.out _).mono ?_;rintro _ w9 ⟨rfl,hb9⟩))
            go_ret2
            exact⟨_,_,hN.out,rfl,bt HB.out hb9⟩
    as_aux_lemma=>
     obtain rfl:k=4:=by omega
     have hN:CZ (bH s) n n 0:=.inl ⟨rfl,J6 HH.out.1 HH.out.2 HF.out,a1a _,fun f _ hf=>hf⟩;replace hN:=ZU hN;have HB:=ZU hA2.below;have h4b:=H4.out;clear hA2 hB2
     go_wp2
     go_quiet (fail)
     go_wp2
     go_ret2
     exact⟨_,_,hN.out,rfl,below_drewN HB.out _⟩
theorem UH (s : ByteArray) (n:Int) (w:World) (h4:s.size=4) (hx:allB eU s=true) (h0:0<=n) (h1:n<=9999):
 Calls Tryz.prog 271 #[.string s,.int .i64 n,.bool false] w (aDd (CY (bH s) n) w):=by
 have hb:=zF h4 hx;have HS:Hid (∀w,Calls Tryz.prog 297 #[.string s,.int .i64 n] w fun r w'=>r=.returned (.agg (gV (Dn n)).toArray)/\Below w.heap.size w w'):=ZU (fun w=>by rw[BJ];exact OO s n w h4 h0 h1);have HV:Hid (∀(o:Nat->Int) (w:World),(∀i,i<4->48<=o i/\o i<=57)->Calls Tryz.prog 298 #[.string s,.agg (gV o).toArray] w fun r w'=>r=.returned (.int .i64 (dN o))/\Below w.heap.size w w'):=ZU (fun o w hd=>by rw[BJ];exact OL s o w h4 hd);have H4:=ZU h4;have HM:=ZU hb;have HH:=ZU (⟨h0,h1⟩:0<=n/\n<=9999);clear h4 hx hb
 go_enter Tryz.func271,Tryz.ntmps271
 go_upto_region 4 with(fail)
 go_cut [10] (fun s10 wx=> ∃pa,s10=.pointer (some ⟨pa,0,none⟩)/\Ar pa (Dn n) w wx)
 case first=>
  clear HV
  go_wp2_with (first
   |(go_at_call 297;with_reducible refine(HS.out _).mono ?_;rintro _ w1 ⟨rfl,hb1⟩;have z1:=Ar.fresh0 hb1 343)
   |(refine aQQ rfl 343 (.tmp 10) (.tmp 19) rfl w1.heap.size 0 (gV (Dn n)).toArray rfl rfl z1.there fP (WQ (Dn n)) ?_))
  go_meet
  exact⟨_,rfl,z1.vK _⟩
 case rest =>
  obtain⟨pa,rfl,hA⟩:=hcut;clear HS
  go_upto_region 5 with(fail)
  go_cut [11] (fun s11 wx=> ∃pb,s11=.pointer (some ⟨pb,0,none⟩)/\pb≠pa/\Ar pa (Dn n) w wx/\Ar pb (Dn n) w wx)
  case first=>
   clear HV;have hR:=hA.range;have z1:=Ar.fresh0 hA.below 343;have hne:wc.heap.size≠pa:=by have:=aQG _ _ (hA.cell 0 (by omega));show wc.heap.size≠pa;have h2:pa<wc.heap.size:=this;omega
   have hA2:=ZU ((hA.alloc (.cells #[.int .u8 0,.int .u8 0,.int .u8 0,.int .u8 0,.int .u8 0,.int .u8 0,.int .u8 0,.int .u8 0,.int .u8 0,.int .u8 0,.int .u8 0,.int .u8 0,.int .u8 0,.int .u8 0,.int .u8 0,.int .u8 0,.int .u8 0,.int .u8 0] 343)).others hne hA.below.size (gV (Dn n)).toArray.toList 0);clear hA
   go_wp2_with (first
    |(refine aNI rfl 343 (.tmp 10) rfl pa 0 rfl (gV (Dn n)) _ hR Tryz.underlying343 rfl fP ?_)
    |(refine aQQ rfl 343 (.tmp 11) (.tmp 20) rfl wc.heap.size 0 (gV (Dn n)).toArray rfl rfl z1.there fP (WQ (Dn n)) ?_))
   go_meet
   exact⟨_,rfl,hne,hA2.out,z1.vK _⟩
  case rest =>
   obtain⟨pb,rfl,hne,hA,hB⟩:=hcut;have HNE:=ZU hne;clear hne
   go_upto_block 0 with(fail)
   go_wp2
   go_loopw [12] (fun i wx=> ∃k:Nat,k<=4/\i=.int .i64 k/\(∀i,i<k->dI (bH s) n i)/\Ar pa (Dn n) w wx/\Ar pb (Dn n) w wx) (fun i _=>4 - (intOf i).toNat)
   case atStart=>exact⟨0,aLm _,rfl,fun i hi=>by omega,hA,hB⟩
   case round =>
    obtain⟨k,hk,rfl,hf,hA2,hB2⟩:=hrel;clear hA hB;have HF:=ZU hf;clear hf
    by_cases hlt:k<4
    . have hks : k < s.size:=by have:=H4.out;omega
      have aY5:(k:Int)<s.size:=by omega
      have hc:=hA2.cell k (by omega);have hd:Dn n k=48+dg n k:=by unfold Dn;rw[aFw hlt]
      have hbk:=bU s k hks;rw[hd]at hc;have HC:=ZU hbk;have aY6:(k:Int)<18:=by omega
      replace hA2:=ZU hA2;replace hB2:=ZU hB2;clear hd hbk;obtain⟨d,hdd⟩: ∃d,d=dg n k:=⟨_,rfl⟩;rw[<-hdd]at hc;replace hdd:=ZU hdd
      by_cases c1:((s[k]'hks).toNat:Int)=88
      . as_aux_lemma=>
         have t1:(((s[k]'hks).toNat:Int)==88)=true:=by rw[c1];rfl
         have HFn: ∀i,i<k+1->dI (bH s) n i:=by
          intro i hi
          by_cases e:i=k
          . subst e;exact .inl (by rw[HC.out,c1])
          exact HF.out i (by omega)
         replace HFn:=ZU HFn;clear c1
         go_wp2
         go_quiet (fail)
         go_wp2
         go_roundw
         case rel=>exact⟨k+1,by omega,by go_num,HFn.out,hA2.out.later (below_drewN (aDl _ _) _),hB2.out.later (below_drewN (aDl _ _) _)⟩
         case measure=>simp[intOf];omega
      have t1 : (((s[k]'hks).toNat:Int)==88)=false:=by rw[aB1];exact c1
      by_cases c2:((s[k]'hks).toNat:Int)=48+d
      . as_aux_lemma=>
         have t2:(((s[k]'hks).toNat:Int)==48+d)=true:=by rw[c2];exact aWz _
         have HFn: ∀i,i<k+1->dI (bH s) n i:=by
          intro i hi
          by_cases e:i=k
          . subst e;exact .inr (by rw[HC.out,c2,hdd.out])
          exact HF.out i (by omega)
         replace HFn:=ZU HFn;clear c1 c2
         go_wp2
         go_quiet (fail)
         go_wp2
         go_roundw
         case rel=>exact⟨k+1,by omega,by go_num,HFn.out,hA2.out.later (below_drewN (aDl _ _) _),hB2.out.later (below_drewN (aDl _ _) _)⟩
         case measure=>simp[intOf];omega
      as_aux_lemma =>
       have t2:(((s[k]'hks).toNat:Int)==48+d)=false:=by rw[aB1];exact c2
       have t3:((k:Int)==(s.size:Int))=false:=by rw[aB1];omega
       have C1:=ZU c1;clear c1
       go_wp2
       go_quiet (fail)
       rename_i nq
       replace hA2:=ZU (hA2.out.later (below_drewN (aDl wr.heap.size wr) nq));replace hB2:=ZU (hB2.out.later (below_drewN (aDl wr.heap.size wr) nq));have hc2:(wr.drewN nq).cell? ⟨pa,k,none⟩=some (.int .u8 (48+d)):=hc;clear hc;generalize wr.drewN nq=W2 at *
       go_wp2
       obtain⟨BK,SY⟩: ∃b:Bool,b=decide (48+d<((s[k]'hks).toNat:Int)):=⟨_,rfl⟩
       go_upto_region 11 with(fail)
       go_cut [55] (fun s55 wx=>s55=.bool BK/\ ∃nq,wx=W2.drewN nq)
       case first=>
        as_aux_lemma=>
         by_cases hh:((s[k]'hks).toNat:Int)<48+d
         . obtain rfl:BK=false:=by rw[SY];exact aEm (by omega)
           clear SY;have hcmp:decide (48+d<((s[k]'hks).toNat:Int))=false:=by first|exact aEy (by omega)|exact aEm (by omega)
           go_quiet (fail)
           go_wp2
           go_meet
           exact⟨rfl,_,rfl⟩
         have hh2:48+d<((s[k]'hks).toNat:Int):=by omega
         obtain rfl:BK=true:=by rw[SY];exact aEy hh2
         have hcmp:decide (48+d<((s[k]'hks).toNat:Int))=true:=by first|exact aEy (by omega)|exact aEm (by omega)
         clear SY hh
         go_quiet (fail)
         go_wp2
         go_meet
         exact⟨rfl,_,rfl⟩
       case rest =>
        obtain⟨rfl,nq2,rfl⟩:=hcut;replace hA2:=ZU (hA2.out.later (below_drewN (aDl W2.heap.size W2) nq2));replace hB2:=ZU (hB2.out.later (below_drewN (aDl W2.heap.size W2) nq2));clear hc2 t1 t2 t3;generalize W2.drewN nq2=W3 at *
        go_upto_if 55 with(fail)
        go_cut [12] (fun s12 wx=> ∃(j:Nat) (o:Nat->Int),j<=4/\s12=.int .i64 j/\Ar pb o w wx/\aDf (bH s) n j o)
        case first =>
         as_aux_lemma=>
          clear HV
          cases BK
          . have hh:((s[k]'hks).toNat:Int)<48+d:=by have:=aOC SY.symm;omega
            have HG:=aBA HM.out HH.out.1 HH.out.2 hlt HF.out (by rw[HC.out];exact C1.out) (by rw[HC.out,<-hdd.out];exact hh);replace HG:=ZU HG;clear SY hh
            go_wp2
            go_meet
            exact⟨k,Dn n,by omega,rfl,hB2.out,HG.out⟩
          have hh :48+d<((s[k]'hks).toNat:Int):=aHY SY.symm;have hg2:=ZU (show 48+dg n k<bH s k by rw[HC.out,<-hdd.out];exact hh);clear SY hh hdd
          go_wp2
          go_step3
          go_wp2
          go_step3
          go_wp2
          go_loopw [12] (fun i wx=> ∃m:Nat,m<=k/\i=.int .i64 m/\(∀i,m<=i->i<k-> ¬(bH s i=88/\dg n i≠0))/\Ar pa (Dn n) w wx/\Ar pb (Dn n) w wx) (fun i _=>(intOf i).toNat)
          case atStart=>exact⟨k,aDT _,rfl,fun i h1 h2=>by omega,hA2.out,hB2.out⟩
          case round=>
           obtain⟨m,hm,hi,hno,hA3,hB3⟩:=hrel;clear hA2 hB2;have HNO:=ZU hno;clear hno
           by_cases hm0:0<m
           . obtain⟨q,rfl⟩: ∃q,m=q+1:=⟨m - 1,by omega⟩;rw[show (((q+1:Nat)):Int)=(q:Int)+1 by omega]at hi;subst hi;have hq4:q<4:=by omega
             have hqs:q<s.size:=by omega
             have aYX:(q:Int)<s.size:=by omega
             have aY0:(q:Int)<18:=by omega
             have hca:=hA3.cell q (by omega);have hcb:=hB3.cell q (by omega);have hfb:=hB3.free q (by omega);have hDq:Dn n q=48+dg n q:=by unfold Dn;rw[aFw hq4]
             rw[hDq]at hca hcb;have hbq:=ZU (bU s q hqs);have hqb:=FH HH.out.1 HH.out.2 q;obtain⟨e,he⟩: ∃e,e=dg n q:=⟨_,rfl⟩;rw[<-he]at hca hcb hqb;replace he:=ZU he;obtain⟨b0,b1⟩:=hqb;clear hDq;have hX:=ZU (hB3.set q (by omega) (48+e - 1))
             by_cases g1:((s[q]'hqs).toNat:Int)=88
             . by_cases g2:e=0
               . as_aux_lemma=>
                  have u1:(((s[q]'hqs).toNat:Int)==88)=true:=by rw[g1];rfl
                  have u2:(48+e !=48)=false:=by rw[g2];rfl
                  have hN: ∀i,q<=i->i<k-> ¬(bH s i=88/\dg n i≠0):=by
                   intro i h1 h2
                   by_cases c:i=q
                   . subst c;rintro⟨_,h⟩;exact h (by rw[<-he.out];exact g2)
                   exact HNO.out i (by omega) h2
                  replace hN:=ZU hN;replace hA3:=ZU hA3;replace hB3:=ZU hB3;clear g1 g2
                  go_wp2
                  go_roundw
                  case rel=>exact⟨q,by omega,rfl,hN.out,hA3.out,hB3.out⟩
                  case measure=>simp[intOf]
               as_aux_lemma=>
                have u1:(((s[q]'hqs).toNat:Int)==88)=true:=by rw[g1];rfl
                have u2:(48+e !=48)=true:=by rw[aQC];omega
                have hGd:aDf (bH s) n (q+1) (fun i=>if i=q then 48+dg n q - 1 else Dn n i):=aBB HM.out HH.out.1 HH.out.2 hlt HF.out (by rw[HC.out];exact C1.out) hg2.out (by omega) (by rw[hbq.out];exact g1) (by rw[<-he.out];exact g2) (fun i h1 h2=>HNO.out i (by omega) h2);rw[<-he.out]at hGd;replace hGd:=ZU hGd;have ee:1<=e:=by omega
                replace hA3:=ZU hA3;replace hB3:=ZU hB3;clear g1 g2
                go_wp2
                rw[a1l]
                go_wp2
                go_meet
                exact⟨q+1,_,by omega,by go_num,hX.out,hGd.out⟩
             as_aux_lemma=>
              have u1:(((s[q]'hqs).toNat:Int)==88)=false:=by rw[aB1];exact g1
              have hN: ∀i,q<=i->i<k-> ¬(bH s i=88/\dg n i≠0):=by
               intro i h1 h2
               by_cases c:i=q
               . subst c;rintro⟨h,_⟩;exact g1 (by rw[<-hbq.out];exact h)
               exact HNO.out i (by omega) h2
              replace hN:=ZU hN;replace hA3:=ZU hA3;replace hB3:=ZU hB3;clear g1
              go_wp2
              go_roundw
              case rel=>exact⟨q,by omega,rfl,hN.out,hA3.out,hB3.out⟩
              case measure=>simp[intOf]
           as_aux_lemma=>
            obtain rfl:m=0:=by omega
            subst hi;have hN:CY (bH s) n 0 16:=.inr ⟨rfl,rfl,aLz HH.out.1 HH.out.2 hlt HF.out (by rw[HC.out];exact C1.out) hg2.out (fun i hi=>HNO.out i (by omega) hi)⟩;replace hN:=ZU hN;have HB:=ZU hA3.below;clear hA3 hB3
            go_wp2
            rw[aUH]
            go_wp2
            go_ret2
            exact⟨_,_,hN.out,rfl,HB.out⟩
        case rest=>
         as_aux_lemma=>
          obtain⟨j,o,hj,rfl,hO,hG⟩:=hcut;clear hA2 hB2 SY;have HG:=ZU hG;clear hG
          go_wp2
          go_loopw [12] (fun i wx=> ∃(m:Nat) (o2:Nat->Int),m<=4/\j<=m/\i=.int .i64 m/\Ar pb o2 w wx/\(∀i,i<j->o2 i=o i)/\(∀i,j<=i->i<m->o2 i=if bH s i=88 then 57 else bH s i)) (fun i _=>4 - (intOf i).toNat)
          case atStart=>exact⟨j,o,hj,aDT _,rfl,hO,fun i _=>rfl,fun i h1 h2=>by omega⟩
          case round=>
           obtain⟨m,o2,hm,hjm,rfl,hO2,hlo,hfi⟩:=hrel;clear hO;have UO:=ZU hlo;have HFI:=ZU hfi;clear hlo hfi
           by_cases hm4:m<4
           . as_aux_lemma=>
              have hms:m<s.size:=by have:=H4.out;omega
              have aPB:(m:Int)<s.size:=by omega
              have hm18:(m:Int)<18:=by omega
              have hbm:=bU s m hms;have hcm:=hO2.cell m (by omega);have hfm:=hO2.free m (by omega);have hX1:=hO2.set m (by omega) ((s[m]'hms).toNat:Int);have hc1:=hX1.cell m (by omega);have hf1:=hX1.free m (by omega)
              by_cases g1:((s[m]'hms).toNat:Int)=88
              . have u1:(((s[m]'hms).toNat:Int)==88)=true:=by rw[g1];rfl
                have hX2:=(hX1.set m (by omega) 57).congr (o':=fun i=>if i=m then(if bH s m=88 then 57 else bH s m)else o2 i) (fun i _=>by
                 (try dsimp only)
                 by_cases c:i=m
                 . rw[aFw c,aFw c,aFw (by rw[hbm];exact g1)]
                 rw[aFv c,aFv c,aFv c])
                replace hX2:=ZU hX2;replace hO2:=ZU hO2;clear hX1 hc1 hbm g1
                go_wp2
                go_roundw
                case rel=>exact⟨m+1,_,by omega,by omega,by go_num,hX2.out,fun i hi=>by(try dsimp only);rw[aFv (by omega)];exact UO.out i hi,fun i h1 h2=>by
                 (try dsimp only)
                 by_cases c:i=m
                 . subst c;rw[aFw rfl]
                 rw[aFv c];exact HFI.out i h1 (by omega)⟩
                case measure=>simp[intOf];omega
              have u1:(((s[m]'hms).toNat:Int)==88)=false:=by rw[aB1];exact g1
              have hX2:=hX1.congr (o':=fun i=>if i=m then(if bH s m=88 then 57 else bH s m)else o2 i) (fun i _=>by
               (try dsimp only)
               by_cases c:i=m
               . rw[aFw c,aFw c,aFv (by rw[hbm];exact g1),hbm]
               rw[aFv c,aFv c])
              replace hX2:=ZU hX2;replace hO2:=ZU hO2;clear hX1 hc1 hf1 hbm g1
              go_wp2
              go_roundw
              case rel=>exact⟨m+1,_,by omega,by omega,by go_num,hX2.out,fun i hi=>by(try dsimp only);rw[aFv (by omega)];exact UO.out i hi,fun i h1 h2=>by
               (try dsimp only)
               by_cases c:i=m
               . subst c;rw[aFw rfl]
               rw[aFv c];exact HFI.out i h1 (by omega)⟩
              case measure=>simp[intOf];omega
           as_aux_lemma=>
            obtain rfl:m=4:=by omega
            obtain⟨hv,hb⟩:=HG.out o2 UO.out HFI.out;have hV:=ZU (fun w=>HV.out o2 w hb);have hN:CY (bH s) n (dN o2) 0:=.inl ⟨rfl,hv⟩;replace hN:=ZU hN;have aPB:((4:Nat):Int)<s.size->False:=by have:=H4.out;omega
            have hR:=hO2.range;have HB:=ZU hO2.below;have h4b:=H4.out;clear hO2 HG HFI UO hv hb
            go_wp2_with (first
             |(refine aNI rfl 343 (.tmp 11) rfl pb 0 rfl (gV o2) _ hR Tryz.underlying343 rfl fP ?_)
             |(go_at_call 298;with_reducible refine(hV.out _).mono ?_;rintro _ w9 ⟨rfl,hb9⟩))
            go_ret2
            exact⟨_,_,hN.out,rfl,bt HB.out hb9⟩
    as_aux_lemma=>
     obtain rfl:k=4:=by omega
     have hN:CY (bH s) n n 0:=.inl ⟨rfl,J6 HH.out.1 HH.out.2 HF.out,a1a _,fun f _ hf=>hf⟩;replace hN:=ZU hN;have HB:=ZU hA2.below;have h4b:=H4.out;clear hA2 hB2
     go_wp2
     go_quiet (fail)
     go_wp2
     go_ret2
     exact⟨_,_,hN.out,rfl,below_drewN HB.out _⟩
end Bk
end
section
open Go.RowKit Go.Lib
namespace Bk
open Un (ba bt ri rb dO eY)
def fl(b:Nat->Int)(x:Int)(i:Nat):Int:=if b i=88 then x else b i
theorem aNb{b:Nat->Int}(hb:MOk b){x:Int}(h0:48<=x)(h1:x<=57)(i:Nat)(hi:i<4):48<=fl b x i/\fl b x i<=57:=by
 have:=hb i hi;unfold fl;split<;>omega
theorem aEs(s:ByteArray)(w:World)(h4:s.size=4)(hx:allB eU s=true):
 Calls Tryz.prog 269 #[.string s] w fun r w'=>r=.returned (.tuple #[.int .i64 (dN (fl (bH s) 48)),.int .i64 0])/\Below w.heap.size w w':=by
 have hb:=zF h4 hx;have HC:=ZU (fun w=>uD s w h4 hx);have HF:=ZU (fun w=>zO s 48 (fl (bH s) 48) w h4 (fun i _=>rfl) (fun i hi=>aNb hb (by omega) (by omega) i hi));clear h4 hx hb;generalize dN (fl (bH s) 48)=v at *
 go_enter Tryz.func269,Tryz.ntmps269
 go_wp2_with fail
 refine(HC.out _).mono ?_;rintro _ w1 ⟨rfl,hb1⟩
 go_wp2_with fail
 refine(HF.out _).mono ?_;rintro _ w2 ⟨rfl,hb2⟩
 go_wp2_with fail
 go_ret2
 exact⟨rfl,bt hb1 hb2⟩
theorem S9(s:ByteArray)(w:World)(h4:s.size=4)(hx:allB eU s=true):
 Calls Tryz.prog 272 #[.string s] w fun r w'=>r=.returned (.tuple #[.int .i64 (dN (fl (bH s) 57)),.int .i64 0])/\Below w.heap.size w w':=by
 have hb:=zF h4 hx;have HC:=ZU (fun w=>uD s w h4 hx);have HF:=ZU (fun w=>zO s 57 (fl (bH s) 57) w h4 (fun i _=>rfl) (fun i hi=>aNb hb (by omega) (by omega) i hi));clear h4 hx hb;generalize dN (fl (bH s) 57)=v at *
 go_enter Tryz.func272,Tryz.ntmps272
 go_wp2_with fail
 refine(HC.out _).mono ?_;rintro _ w1 ⟨rfl,hb1⟩
 go_wp2_with fail
 refine(HF.out _).mono ?_;rintro _ w2 ⟨rfl,hb2⟩
 go_wp2_with fail
 go_ret2
 exact⟨rfl,bt hb1 hb2⟩
theorem aEi(s:ByteArray)(n:Int)(w:World)(h4:s.size=4)(hx:allB eU s=true):
 Calls Tryz.prog 231 #[.string s,.int .i64 n] w (aDd (CZ (bH s) n) w):=by
 have hb:=zF h4 hx;have HC:=ZU (fun w=>uD s w h4 hx)
 by_cases c:n<0
 . have HL:=ZU (fun w=>aEs s w h4 hx);have hN:CZ (bH s) n (dN (fl (bH s) 48)) 0:=by
    obtain⟨g1,g2⟩:=O8 hb (o:=fl (bH s) 48) (fun i _=>rfl);exact .inl ⟨rfl,g1,by have:=g1.1;omega,fun f hf _=>g2 f hf⟩
   replace hN:=ZU hN;clear h4 hx hb;generalize dN (fl (bH s) 48)=v at *
   go_enter Tryz.func231,Tryz.ntmps231
   go_wp2_with fail
   refine(HC.out _).mono ?_;rintro _ w1 ⟨rfl,hb1⟩
   go_wp2_with fail
   refine(HL.out _).mono ?_;rintro _ w2 ⟨rfl,hb2⟩
   go_wp2_with fail
   go_ret2
   exact⟨_,_,hN.out,rfl,bt hb1 hb2⟩
 by_cases c2:n<10000
 . have HW:Hid (∀w,Calls Tryz.prog 270 #[.string s,.int .i64 n] w fun r w'=>r=.returned (.bool true)/\w=w'):=ZU (fun w=>by
    have:=sO s n w h4;rw[aEy (show 0<=n by omega),aEy c2]at this;exact this)
   have HB:=ZU (fun w=>UG s n w h4 hx (by omega) (by omega));clear h4 hx hb
   go_enter Tryz.func231,Tryz.ntmps231
   go_wp2_with fail
   refine(HC.out _).mono ?_;rintro _ w1 ⟨rfl,hb1⟩
   go_wp2_with fail
   refine(HW.out _).mono ?_;rintro _ w2 ⟨rfl,rfl⟩
   go_wp2_with fail
   refine(HB.out _).mono ?_;rintro _ w2 ⟨v,x,hN,rfl,hb2⟩;replace hN:=ZU hN
   go_wp2_with fail
   go_ret2
   exact⟨_,_,hN.out,rfl,bt hb1 hb2⟩
 have HW:Hid (∀w,Calls Tryz.prog 270 #[.string s,.int .i64 n] w fun r w'=>r=.returned (.bool false)/\w=w'):=ZU (fun w=>by
  have:=sO s n w h4;rw[aEm c2,aVQ]at this;exact this)
 have hN:CZ (bH s) n 0 16:=.inr ⟨rfl,rfl,fun f hf=>by have:=hf.2.1;omega⟩;replace hN:=ZU hN;clear h4 hx hb
 go_enter Tryz.func231,Tryz.ntmps231
 go_wp2_with fail
 refine(HC.out _).mono ?_;rintro _ w1 ⟨rfl,hb1⟩
 go_wp2_with fail
 refine(HW.out _).mono ?_;rintro _ w2 ⟨rfl,rfl⟩
 go_wp2_with fail
 go_ret2
 exact⟨_,_,hN.out,rfl,hb1⟩
theorem aDR(s:ByteArray)(n:Int)(w:World)(h4:s.size=4)(hx:allB eU s=true):
 Calls Tryz.prog 232 #[.string s,.int .i64 n] w (aDd (CY (bH s) n) w):=by
 have hb:=zF h4 hx;have HC:=ZU (fun w=>uD s w h4 hx)
 by_cases c:n<0
 . have hN:CY (bH s) n 0 16:=.inr ⟨rfl,rfl,fun f hf=>by have:=hf.1;omega⟩;replace hN:=ZU hN;clear h4 hx hb
   go_enter Tryz.func232,Tryz.ntmps232
   go_wp2_with fail
   refine(HC.out _).mono ?_;rintro _ w1 ⟨rfl,hb1⟩
   go_wp2_with fail
   go_ret2
   exact⟨_,_,hN.out,rfl,hb1⟩
 by_cases c2:n<10000
 . have HW:Hid (∀w,Calls Tryz.prog 270 #[.string s,.int .i64 n] w fun r w'=>r=.returned (.bool true)/\w=w'):=ZU (fun w=>by
    have:=sO s n w h4;rw[aEy (show 0<=n by omega),aEy c2]at this;exact this)
   have HB:=ZU (fun w=>UH s n w h4 hx (by omega) (by omega));clear h4 hx hb
   go_enter Tryz.func232,Tryz.ntmps232
   go_wp2_with fail
   refine(HC.out _).mono ?_;rintro _ w1 ⟨rfl,hb1⟩
   go_wp2_with fail
   refine(HW.out _).mono ?_;rintro _ w2 ⟨rfl,rfl⟩
   go_wp2_with fail
   refine(HB.out _).mono ?_;rintro _ w2 ⟨v,x,hN,rfl,hb2⟩;replace hN:=ZU hN
   go_wp2_with fail
   go_ret2
   exact⟨_,_,hN.out,rfl,bt hb1 hb2⟩
 have HW:Hid (∀w,Calls Tryz.prog 270 #[.string s,.int .i64 n] w fun r w'=>r=.returned (.bool false)/\w=w'):=ZU (fun w=>by
  have:=sO s n w h4;rw[aEm c2,aVQ]at this;exact this)
 have HL:=ZU (fun w=>S9 s w h4 hx);have hN:CY (bH s) n (dN (fl (bH s) 57)) 0:=by
  obtain⟨g1,g2⟩:=BQ hb (o:=fl (bH s) 57) (fun i _=>rfl);exact .inl ⟨rfl,g1,by have:=g1.2.1;omega,fun f hf _=>g2 f hf⟩
 replace hN:=ZU hN;clear h4 hx hb;generalize dN (fl (bH s) 57)=v at *
 go_enter Tryz.func232,Tryz.ntmps232
 go_wp2_with fail
 refine(HC.out _).mono ?_;rintro _ w1 ⟨rfl,hb1⟩
 go_wp2_with fail
 refine(HW.out _).mono ?_;rintro _ w2 ⟨rfl,rfl⟩
 go_wp2_with fail
 refine(HL.out _).mono ?_;rintro _ w2 ⟨rfl,hb2⟩
 go_wp2_with fail
 go_ret2
 exact⟨_,_,hN.out,rfl,bt hb1 hb2⟩
def UpR(b:Nat->Int)(n least v:Int)(ok:Bool):Prop:=0<=v/\v<=9999/\((ok=true/\qI b v/\n<=v/\least<=v/\ ∀f,qI b f->n<=f->least<=f->v<=f)\/(ok=false/\ ∀f,qI b f->least<=f->f<n))
def DnR(b:Nat->Int)(n least v:Int)(ok:Bool):Prop:=0<=v/\v<=9999/\((ok=true/\qI b v/\v<=n/\least<=v/\ ∀f,qI b f->f<=n->f<=v)\/(ok=false/\ ∀f,qI b f->f<=n->f<least))
def aJe(P:Int->Bool->Prop)(w:World)(e:Ending)(w':World):Prop:= ∃v x,P v x/\e=.returned (.tuple #[.int .i64 v,.bool x])/\Below w.heap.size w w'
theorem RZ(s:ByteArray)(n:Int)(w:World)(h4:s.size=4)(hx:allB eU s=true)(n0: -9223372036854775808<=n)(n1:n<9223372036854775808):
 Calls Tryz.prog 179 #[.string s,.int .i64 n,.bool true,.int .i64 0] w (aJe (UpR (bH s) n 0) w):=by
 have HN:=ZU (fun w=>aEi s (max n 0) w h4 hx);have HU: ∀v x,CZ (bH s) (max n 0) v x->UpR (bH s) n 0 v (x==0):=by
  intro v x h;obtain⟨b0,b1,_⟩:=aHn h;refine⟨b0,b1,?_⟩;rcases h with⟨rfl,h1,h2,h3⟩|⟨rfl,_,h3⟩
  . exact .inl ⟨rfl,h1,by omega,by omega,fun f hf g1 g2=>h3 f hf (by omega)⟩
  exact .inr ⟨rfl,fun f hf hl=>by have:=h3 f hf;have:=hf.1;omega⟩
 replace HU:=ZU HU
 go_enter Tryz.func179,Tryz.ntmps179
 go_wp2_with fail
 refine(HN.out _).mono ?_;rintro _ w1 ⟨v,x,hN,rfl,hb1⟩;have hR:=ZU (HU.out _ _ hN);clear hN
 go_wp2_with fail
 go_ret2
 exact⟨_,_,hR.out,rfl,hb1⟩
theorem SA(s:ByteArray)(n:Int)(w:World)(h4:s.size=4)(hx:allB eU s=true):
 Calls Tryz.prog 179 #[.string s,.int .i64 n,.bool false,.int .i64 1] w (aJe (DnR (bH s) n 1) w):=by
 have HN:=ZU (fun w=>aDR s n w h4 hx);have HU: ∀v x,CY (bH s) n v x->DnR (bH s) n 1 v (x==0&&decide (1<=v)):=by
  intro v x h;obtain⟨b0,b1,_⟩:=V8 h;refine⟨b0,b1,?_⟩;rcases h with⟨rfl,h1,h2,h3⟩|⟨rfl,_,h3⟩
  . by_cases c:1<=v
    . exact .inl ⟨by rw[aEy c];rfl,h1,h2,c,h3⟩
    exact .inr ⟨by rw[aEm c];rfl,fun f hf hl=>by have:=h3 f hf hl;omega⟩
  exact .inr ⟨rfl,fun f hf hl=>by have:=h3 f hf;omega⟩
 replace HU:=ZU HU
 go_enter Tryz.func179,Tryz.ntmps179
 go_wp2_with fail
 refine(HN.out _).mono ?_;rintro _ w1 ⟨v,x,hN,rfl,hb1⟩;have hR:=HU.out _ _ hN;have hx2:=(V8 hN).2.2;clear hN;rcases hx2 with rfl|rfl
 . have hR2:=ZU (show DnR (bH s) n 1 v (decide (1<=v)) by rw[show ((0:Int)==0)=true from rfl,aVI]at hR;exact hR);clear hR
   go_wp2_with fail
   go_ret2
   exact⟨_,_,hR2.out,rfl,hb1⟩
 have hR2:=ZU (show DnR (bH s) n 1 v false by rw[show ((16:Int)==0)=false from rfl,aWm]at hR;exact hR);clear hR
 go_wp2_with fail
 go_ret2
 exact⟨_,_,hR2.out,rfl,hb1⟩
end Bk
end

section
open Go.RowKit
namespace Un
open Cal
end Un
end
section
open Go.RowKit
namespace Un
open Cal
theorem OW{w W:World}{a lo b hi:Value}{t:TypeId}(h:Below (w.alloc (.cells #[a,lo,b,hi] t)).heap.size (w.alloc (.cells #[a,lo,b,hi] t)) W):
 W.cell? ⟨w.heap.size,0,none⟩=some a/\W.cell? ⟨w.heap.size,1,none⟩=some lo/\W.cell? ⟨w.heap.size,2,none⟩=some b/\W.cell? ⟨w.heap.size,3,none⟩=some hi/\
 W.frozen? ⟨w.heap.size,0,none⟩=false/\W.frozen? ⟨w.heap.size,1,none⟩=false/\W.frozen? ⟨w.heap.size,2,none⟩=false/\W.frozen? ⟨w.heap.size,3,none⟩=false:=by
 refine⟨?_,?_,?_,?_,?_,?_,?_,?_⟩
 . rw[h.cell (by simp)];simp[go_sem]
 . rw[h.cell (by simp)];simp[go_sem]
 . rw[h.cell (by simp)];simp[go_sem]
 . rw[h.cell (by simp)];simp[go_sem]
 . rw[h.frozen (by simp)];simp[go_sem]
 . rw[h.frozen (by simp)];simp[go_sem]
 . rw[h.frozen (by simp)];simp[go_sem]
 rw[h.frozen (by simp)];simp[go_sem]
end Un
end
section
open Go.RowKit
namespace Un
open Cal
end Un
end
section
open Go.RowKit
namespace Un
open Cal
end Un
end
section
open Go.RowKit
namespace Un
open Cal
end Un
end
section
open Go.RowKit
namespace Un
open Cal
end Un
end
section
open Go.RowKit
namespace Un
open Cal
end Un
end
section
open Go.RowKit Go.Lib
namespace Bk
open Un (ba bt ri rb dO eY)
def yv(neg long:Bool)(s:ByteArray)(ex sig:Int):Value:=.agg #[.bool neg,.bool long,.string s,.int .i64 ex,.int .i64 sig]
structure Ym(p:Nat)(neg long:Bool)(s:ByteArray)(ex sig:Int)(w W:World):Prop where
 c0:W.cell? ⟨p,0,none⟩=some (.bool neg)
 c1:W.cell? ⟨p,1,none⟩=some (.bool long)
 c2:W.cell? ⟨p,2,none⟩=some (.string s)
 c3:W.cell? ⟨p,3,none⟩=some (.int .i64 ex)
 c4:W.cell? ⟨p,4,none⟩=some (.int .i64 sig)
 below:Below w.heap.size w W
theorem Ym.later{p:Nat}{neg long:Bool}{s:ByteArray}{ex sig:Int}{w W W2:World}(h:Ym p neg long s ex sig w W)(hb:Below W.heap.size W W2):Ym p neg long s ex sig w W2:=
 have g: ∀ {p:Addr} {v:Value},W.cell? p=some v->W2.cell? p=some v:=fun{p v} hc=>(hb.cell (aQG _ _ hc)).trans hc
 ⟨g h.c0,g h.c1,g h.c2,g h.c3,g h.c4,bt h.below hb⟩
theorem Ym.new(neg long:Bool)(s:ByteArray)(ex sig:Int)(w:World)(t:TypeId):Ym w.heap.size neg long s ex sig w (w.alloc (.cells #[.bool neg,.bool long,.string s,.int .i64 ex,.int .i64 sig] t)):=by
 refine⟨?_,?_,?_,?_,?_,ba (aDl _ _) _⟩<;>simp[go_sem]
theorem Ym.drew'{p:Nat}{neg long:Bool}{s:ByteArray}{ex sig:Int}{w W:World}(h:Ym p neg long s ex sig w W):Ym p neg long s ex sig w W.drew:=h.later (aDl _ _).drew
theorem qK(neg long:Bool)(s:ByteArray)(ex sig:Int)(w:World):
 Calls Tryz.prog 170 #[yv neg long s ex sig] w fun r w'=>r=.returned (.bool (hasB 88 s))/\Below w.heap.size w w':=by
 have HC: ∀W,Calls Tryz.prog 215 #[.string s,.string ⟨#[88]⟩] W fun e w'=>e=.returned (.bool (hasB 88 s))/\w'=W:=by
  intro W;have:=Tryz.strings_Contains_one s 88 W;rw[rC]at this;exact this
 replace HC:=ZU HC;unfold yv
 go_enter Tryz.func170,Tryz.ntmps170
 go_wp2_with (go_at_call 215;with_reducible refine(HC.out _).mono ?_;rintro _ w' ⟨rfl,rfl⟩)
 go_ret
 exact⟨rfl,ba (aDl _ _) _⟩
def FU(m:Int):Int × Int:=if m<=10000000000000000 then(m,0)else(0,6)
theorem parse_any(s:ByteArray)(hd:allB bM s=true)(h1:1<=s.size)(h2:s.size<=17)(W:World):
 Calls Tryz.prog 235 #[.string s,.int .i64 10,.int .i64 64] W fun e w'=>e=.returned (.tuple #[.int .i64 (bF s),.nilIface])/\Below W.heap.size W w':=by
 have hl:s.data.toList.length=s.size:=by simp
 have hp:=RH s.data.toList (fun e=>by rw[e]at hl;have:([]:List UInt8).length=0:=rfl;omega) (EM hd) (by omega);refine(Tryz.strconv_ParseInt_10_at64_ok s (by omega) _ hp W).mono ?_;rintro e w' ⟨rfl,h⟩;refine⟨rfl,?_⟩;rcases h with rfl|⟨t,rfl⟩
 . exact aDl _ _
 exact a1X _ _ _
theorem vG(neg long:Bool)(s:ByteArray)(e:Nat)(sig:Int)(w:World)(hd:allB bM s=true)(h1:1<=s.size)(h2:s.size<=17)(he:e<=16):
 Calls Tryz.prog 181 #[yv neg long s e sig] w fun r w'=>r=.returned (.tuple #[.int .i64 (FU (iH s e)).1,.int .i64 (FU (iH s e)).2])/\Below w.heap.size w w':=by
 have HP:=ZU (fun w=>parse_any s hd h1 h2 w);have HT:=ZU (fun w=>O4 e w (by omega));have hs:=aLC hd h2;have hs0:=CQ s;have hp:=aGC e (by omega);have hM:=fun w=>mul_any (bF s) (p10 e) w hs0 (by omega) (by omega) (by omega);have hv:iH s e=bF s * p10 e:=by unfold iH;rw[aPt]
 have hv0:=lK s e;have hx:mulC (bF s) (p10 e)=if iH s e<=9223372036854775807 then(iH s e,0)else(0,15):=by unfold mulC;rw[hv]
 rw[hx]at hM;clear hx hv hd;generalize iH s e=v at *;generalize bF s=n at *;generalize p10 e=p at *;unfold yv;have hY:=Ym.new neg long s e sig w 27
 by_cases c:v<=10000000000000000
 . have HM:Hid (∀w:World,Calls Tryz.prog 237 #[.int .i64 n,.int .i64 p] w fun r w'=>r=.returned (.tuple #[.int .i64 v,.int .i64 0])/\Below w.heap.size w w'):=ZU (by intro w;have:=hM w;rw[aFw (by omega)]at this;exact this);clear hM;have hR:FU v=(v,0):=by unfold FU;rw[aFw c]
   rw[hR]
   go_enter Tryz.func181,Tryz.ntmps181
   go_upto_region 1 with(fail)
   generalize w.alloc (.cells #[.bool neg,.bool long,.string s,.int .i64 e,.int .i64 sig] 27)=W0 at hY ⊢;obtain⟨q0,q1,q2,q3,q4,qB⟩:=id hY
   go_wp2_with (first
    |(go_at_call 235;with_reducible refine(HP.out _).mono ?_;rintro _ w' ⟨rfl,hb⟩;replace hY:=hY.later hb;clear hb;obtain⟨q0,q1,q2,q3,q4,qB⟩:=id hY)
    |(go_at_call 236;with_reducible refine(HT.out _).mono ?_;rintro _ w' ⟨rfl,rfl⟩)
    |(go_at_call 237;with_reducible refine(HM.out _).mono ?_;rintro _ w' ⟨rfl,hb⟩;replace hY:=hY.later hb;clear hb;obtain⟨q0,q1,q2,q3,q4,qB⟩:=id hY))
   go_ret2
   exact⟨rfl,hY.below⟩
 have HM:Hid (∀w:World,Calls Tryz.prog 237 #[.int .i64 n,.int .i64 p] w fun r w'=>(∃y x:Int,(x≠0\/10000000000000000<y)/\r=.returned (.tuple #[.int .i64 y,.int .i64 x]))/\Below w.heap.size w w'):=ZU (by
  intro w;have:=hM w
  by_cases c2:v<=9223372036854775807
  . rw[aFw c2]at this;exact this.mono fun r w' ⟨h1,h2⟩=>⟨⟨v,0,Or.inr (by omega),h1⟩,h2⟩
  rw[aFv c2]at this;exact this.mono fun r w' ⟨h1,h2⟩=>⟨⟨0,15,Or.inl (by omega),h1⟩,h2⟩)
 clear hM;have hR:FU v=(0,6):=by unfold FU;rw[aFv c]
 rw[hR]
 go_enter Tryz.func181,Tryz.ntmps181
 go_upto_region 1 with(fail)
 generalize w.alloc (.cells #[.bool neg,.bool long,.string s,.int .i64 e,.int .i64 sig] 27)=W0 at hY ⊢;obtain⟨q0,q1,q2,q3,q4,qB⟩:=id hY
 go_wp2_with (first
  |(go_at_call 235;with_reducible refine(HP.out _).mono ?_;rintro _ w' ⟨rfl,hb⟩;replace hY:=hY.later hb;clear hb;obtain⟨q0,q1,q2,q3,q4,qB⟩:=id hY)
  |(go_at_call 236;with_reducible refine(HT.out _).mono ?_;rintro _ w' ⟨rfl,rfl⟩)
  |(go_at_call 237;with_reducible refine(HM.out _).mono ?_;rintro _ w' ⟨⟨y,x,hxy,rfl⟩,hb⟩;replace hY:=hY.later hb;clear hb;obtain⟨q0,q1,q2,q3,q4,qB⟩:=id hY))
 all_goals go_ret2
 all_goals first|exact⟨rfl,hY.below⟩|(exfalso;omega)
theorem OI(neg long:Bool)(s:ByteArray)(ex sig:Int)(w:World)(hs:s.size<=1000):
 Calls Tryz.prog 174 #[yv neg long s ex sig] w fun r w'=>r=.returned (.bool (gK s ex))/\Below w.heap.size w w':=by
 have hY:=Ym.new neg long s ex sig w 27;have HO:=fun w=>WM s w;unfold YS at HO
 by_cases c1: ¬(1<=s.size)
 . have hF:gK s ex=false:=by
    unfold gK;simp;omega
   rw[hF];clear hF;clear HO;unfold yv
   go_enter Tryz.func174,Tryz.ntmps174
   go_upto_region 1 with(fail)
   generalize w.alloc (.cells #[.bool neg,.bool long,.string s,.int .i64 ex,.int .i64 sig] 27)=W0 at hY ⊢;obtain⟨q0,q1,q2,q3,q4,qB⟩:=id hY
   go_wp2_with fail
   go_ret
   exact⟨rfl,hY.below⟩
 replace c1:1<=s.size:=by omega
 by_cases c2: ¬(s.size<=17)
 . have hF:gK s ex=false:=by
    unfold gK;simp;omega
   rw[hF];clear hF;clear HO;unfold yv
   go_enter Tryz.func174,Tryz.ntmps174
   go_upto_region 1 with(fail)
   generalize w.alloc (.cells #[.bool neg,.bool long,.string s,.int .i64 ex,.int .i64 sig] 27)=W0 at hY ⊢;obtain⟨q0,q1,q2,q3,q4,qB⟩:=id hY
   go_wp2_with fail
   go_ret
   exact⟨rfl,hY.below⟩
 replace c2:s.size<=17:=by omega
 by_cases c3: ¬(allB bM s=true)
 . have hF:gK s ex=false:=by
    unfold gK;rw[aVN]at c3;simp[c3]
   rw[hF];clear hF;rw[show allB bM s=false by simpa using c3]at HO;replace HO:=ZU HO;clear c3;unfold yv
   go_enter Tryz.func174,Tryz.ntmps174
   go_upto_region 1 with(fail)
   generalize w.alloc (.cells #[.bool neg,.bool long,.string s,.int .i64 ex,.int .i64 sig] 27)=W0 at hY ⊢;obtain⟨q0,q1,q2,q3,q4,qB⟩:=id hY
   go_wp2_with (first|(go_at_call 172;with_reducible refine(HO.out _).mono ?_;rintro _ w' ⟨rfl,hb⟩;replace hY:=hY.later hb;clear hb;obtain⟨q0,q1,q2,q3,q4,qB⟩:=id hY))
   go_ret
   exact⟨rfl,hY.below⟩
 have hd:allB bM s=true:=by simpa using c3
 rw[hd]at HO;replace HO:=ZU HO;clear c3;have l0:0<s.size:=by omega
 by_cases c4: ¬(bH s 0≠48)
 . have hF:gK s ex=false:=by
    unfold gK;have:bH s 0=48:=by omega
    simp[this]
   have c4b:((s[0]'l0).toNat:Int)=48:=by rw[<-bU s 0 l0];omega
   rw[hF];clear hF;unfold yv
   go_enter Tryz.func174,Tryz.ntmps174
   go_upto_region 1 with(fail)
   generalize w.alloc (.cells #[.bool neg,.bool long,.string s,.int .i64 ex,.int .i64 sig] 27)=W0 at hY ⊢;obtain⟨q0,q1,q2,q3,q4,qB⟩:=id hY
   go_wp2_with (first|(go_at_call 172;with_reducible refine(HO.out _).mono ?_;rintro _ w' ⟨rfl,hb⟩;replace hY:=hY.later hb;clear hb;obtain⟨q0,q1,q2,q3,q4,qB⟩:=id hY))
   go_ret
   exact⟨rfl,hY.below⟩
 have c4':bH s 0≠48:=by simpa using c4
 clear c4;have c4b: ¬(((s[0]'(by omega)).toNat:Int)=48):=by rw[<-bU s 0 (by omega)];exact c4'
 have l0:0<s.size:=by omega
 by_cases c5: ¬(0<=ex)
 . have hF:gK s ex=false:=by
    unfold gK;simp;omega
   rw[hF];clear hF;unfold yv
   go_enter Tryz.func174,Tryz.ntmps174
   go_upto_region 1 with(fail)
   generalize w.alloc (.cells #[.bool neg,.bool long,.string s,.int .i64 ex,.int .i64 sig] 27)=W0 at hY ⊢;obtain⟨q0,q1,q2,q3,q4,qB⟩:=id hY
   go_wp2_with (first|(go_at_call 172;with_reducible refine(HO.out _).mono ?_;rintro _ w' ⟨rfl,hb⟩;replace hY:=hY.later hb;clear hb;obtain⟨q0,q1,q2,q3,q4,qB⟩:=id hY))
   go_ret
   exact⟨rfl,hY.below⟩
 replace c5:0<=ex:=by omega
 by_cases c6: ¬(ex<=16)
 . have hF:gK s ex=false:=by
    unfold gK;simp;omega
   rw[hF];clear hF;unfold yv
   go_enter Tryz.func174,Tryz.ntmps174
   go_upto_region 1 with(fail)
   generalize w.alloc (.cells #[.bool neg,.bool long,.string s,.int .i64 ex,.int .i64 sig] 27)=W0 at hY ⊢;obtain⟨q0,q1,q2,q3,q4,qB⟩:=id hY
   go_wp2_with (first|(go_at_call 172;with_reducible refine(HO.out _).mono ?_;rintro _ w' ⟨rfl,hb⟩;replace hY:=hY.later hb;clear hb;obtain⟨q0,q1,q2,q3,q4,qB⟩:=id hY))
   go_ret
   exact⟨rfl,hY.below⟩
 replace c6:ex<=16:=by omega
 by_cases c7: ¬(¬(ex=0/\s.size<5))
 . have hF:gK s ex=false:=by
    unfold gK;have h1:ex=0:=by omega
    have h2:s.size<5:=by omega
    simp[h1,h2]
   rw[hF];clear hF;unfold yv
   go_enter Tryz.func174,Tryz.ntmps174
   go_upto_region 1 with(fail)
   generalize w.alloc (.cells #[.bool neg,.bool long,.string s,.int .i64 ex,.int .i64 sig] 27)=W0 at hY ⊢;obtain⟨q0,q1,q2,q3,q4,qB⟩:=id hY;have c7a:ex=0:=by omega
   have c7b:s.size<5:=by omega
   go_wp2_with (first|(go_at_call 172;with_reducible refine(HO.out _).mono ?_;rintro _ w' ⟨rfl,hb⟩;replace hY:=hY.later hb;clear hb;obtain⟨q0,q1,q2,q3,q4,qB⟩:=id hY))
   go_ret
   exact⟨rfl,hY.below⟩
 replace c7: ¬(ex=0/\s.size<5):=by omega
 obtain⟨e,rfl⟩: ∃e:Nat,ex=e:=⟨ex.toNat,by omega⟩;have hG:=fun w=>vG neg long s e sig w hd c1 c2 (by omega);have hL:gK s e=decide (iH s e<=10000000000000000):=by
  unfold gK;have h7:(decide ((e:Int)=0)&&decide (s.size<5))=false:=by
   rw[aNn];intro h;simp at h;omega
  rw[hd,h7];simp[c1,c2,c4',show(e:Int)<=16 by omega]
 rw[hL];clear hL;generalize iH s e=v at *;clear hd;have hE:(((e:Int)==0)=true/\ ¬(s.size:Int)<5)\/((e:Int)==0)=false:=by
  by_cases h0:(e:Int)=0
  . exact .inl ⟨by rw[h0];rfl,by omega⟩
  exact .inr (by rw[aB1];exact h0)
 rcases hE with⟨hE,hE2⟩|hE
 all_goals
  by_cases c:v<=10000000000000000
  . rw[show FU v=(v,0) by unfold FU;rw[aFw c]]at hG;have HG:=ZU hG;clear hG;unfold yv at HG;rw[aEy c];unfold yv
    go_enter Tryz.func174,Tryz.ntmps174
    go_upto_region 1 with(fail)
    generalize w.alloc (.cells #[.bool neg,.bool long,.string s,.int .i64 e,.int .i64 sig] 27)=W0 at hY ⊢;obtain⟨q0,q1,q2,q3,q4,qB⟩:=id hY
    go_wp2_with (first|(go_at_call 172;with_reducible refine(HO.out _).mono ?_;rintro _ w' ⟨rfl,hb⟩;replace hY:=hY.later hb;clear hb;obtain⟨q0,q1,q2,q3,q4,qB⟩:=id hY)|(go_at_call 181;with_reducible refine(HG.out _).mono ?_;rintro _ w' ⟨rfl,hb⟩;replace hY:=hY.later hb;clear hb;obtain⟨q0,q1,q2,q3,q4,qB⟩:=id hY))
    all_goals go_ret
    all_goals first|exact⟨rfl,hY.below⟩|(exfalso;omega)|(exfalso;rename_i h;simp only[aFy]at h;omega)
  rw[show FU v=(0,6) by unfold FU;rw[aFv c]]at hG;have HG:=ZU hG;clear hG;unfold yv at HG;rw[aEm c];unfold yv
  go_enter Tryz.func174,Tryz.ntmps174
  go_upto_region 1 with(fail)
  generalize w.alloc (.cells #[.bool neg,.bool long,.string s,.int .i64 e,.int .i64 sig] 27)=W0 at hY ⊢;obtain⟨q0,q1,q2,q3,q4,qB⟩:=id hY
  go_wp2_with (first|(go_at_call 172;with_reducible refine(HO.out _).mono ?_;rintro _ w' ⟨rfl,hb⟩;replace hY:=hY.later hb;clear hb;obtain⟨q0,q1,q2,q3,q4,qB⟩:=id hY)|(go_at_call 181;with_reducible refine(HG.out _).mono ?_;rintro _ w' ⟨rfl,hb⟩;replace hY:=hY.later hb;clear hb;obtain⟨q0,q1,q2,q3,q4,qB⟩:=id hY))
  all_goals go_ret
  all_goals first|exact⟨rfl,hY.below⟩|(exfalso;omega)|(exfalso;rename_i h;simp only[aFy]at h;omega)
end Bk
end
section
open Go.RowKit Go.Lib
namespace Bk
open Un (ba bt ri rb dO eY)
theorem aDt(s:ByteArray):(Lib.trimB s.data.toList 48=[])↔allB isZ s=true:=by
 rw[<-trimS_one,aDs];unfold allB isZ;rw[aJr,aJr];constructor
 . intro h b hb;have:=h b hb;rw[aFy]at this;subst this;rfl
 intro h b hb;have:=aHY (h b hb);rw[aFy];exact a1E.1 (by show b.toNat=48;omega)
theorem aDu(s:ByteArray)(hs:s.size<=1000)(W:World):
 Calls Tryz.prog 173 #[.string s,.string ⟨#[48]⟩] W fun e w'=>(∃t:List UInt8,(t=[]↔allB isZ s=true)/\e=.returned (.string ⟨t.toArray⟩))/\Below W.heap.size W w':=by
 refine(Tryz.strings_Trim_one s 48 (by decide) W (by omega)).mono ?_;rintro e w' ⟨rfl,h⟩;refine⟨⟨_,aDt s,rfl⟩,?_⟩;rcases h with rfl|rfl
 . exact aDl _ _
 exact(aDl _ _).drew
theorem IG (neg long:Bool) (s:ByteArray) (ex sig:Int) (w:World) (hs:s.size<=1000):
 Calls Tryz.prog 126 #[yv neg long s ex sig] w fun r w'=>r=.returned (.int .i64 (if OJ neg long s ex sig then 0 else 6))/\Below w.heap.size w w':=by
 obtain⟨R,hR⟩: ∃R:Int,R=if OJ neg long s ex sig then 0 else 6:=⟨_,rfl⟩
 rw[<-hR];replace hR:=ZU hR;have hY:=Ym.new neg long s ex sig w 27;have hO:=fun w=>aD2 s w;unfold U0 at hO;have hT:=fun w=>aDu s hs w;have HM:=ZU (fun w=>qK neg long s ex sig w);have HL:=ZU (fun w=>OI neg long s ex sig w hs);unfold yv at HM HL;unfold yv
 go_enter Tryz.func126,Tryz.ntmps126
 go_upto_region 1 with(fail)
 generalize w.alloc (.cells #[.bool neg,.bool long,.string s,.int .i64 ex,.int .i64 sig] 27)=W0 at hY ⊢;obtain⟨q0,q1,q2,q3,q4,qB⟩:=id hY;obtain⟨S,hS⟩: ∃S,S=iP neg s ex sig:=⟨_,rfl⟩;replace hS:=ZU hS
 go_cut [3] (fun s3 wx=>s3=.bool S/\Ym w.heap.size neg long s ex sig w wx)
 case first=>
  clear HL
  by_cases c1: ¬s.size=4
  . have hF:iP neg s ex sig=false:=by unfold iP;simp[c1]
    obtain rfl:S=false:=hS.out.trans hF;clear hF hS hO hT HM
    go_wp2_with fail
    go_meet
    exact⟨rfl,hY⟩
  replace c1:s.size=4:=by omega
  by_cases c2:allB eU s=true
  case neg=>
   have hF:iP neg s ex sig=false:=by unfold iP;simp[c2]
   obtain rfl:S=false:=hS.out.trans hF;clear hF hS hT HM;rw[show allB eU s=false by simpa using c2]at hO;have HO:=ZU hO;clear hO c2
   go_wp2_with (first|(go_at_call 172;with_reducible refine(HO.out _).mono ?_;rintro _ w' ⟨rfl,hb⟩;replace hY:=hY.later hb;clear hb;obtain⟨q0,q1,q2,q3,q4,qB⟩:=id hY))
   go_meet
   exact⟨rfl,hY⟩
  rw[c2]at hO;have HO:=ZU hO;clear hO
  by_cases c3: ¬ex=0
  . have hF:iP neg s ex sig=false:=by unfold iP;simp[c3]
    obtain rfl:S=false:=hS.out.trans hF;clear hF hS hT HM c2
    go_wp2_with (first|(go_at_call 172;with_reducible refine(HO.out _).mono ?_;rintro _ w' ⟨rfl,hb⟩;replace hY:=hY.later hb;clear hb;obtain⟨q0,q1,q2,q3,q4,qB⟩:=id hY))
    go_meet
    exact⟨rfl,hY⟩
  obtain rfl:ex=0:=by omega
  have hF:iP neg s 0 sig=(!(neg&&allB isZ s)&& !(!decide (sig=0)&&hasB 88 s)):=by unfold iP;simp[c1,c2]
  have hV:=hS.out.trans hF;clear hF hS c2 c3;generalize hasB 88 s=x at HM hV
  cases neg
  . clear hT
    by_cases c4:sig=0
    . subst c4;obtain rfl:S=true:=by rw[hV];simp
      clear hV HM
      go_wp2_with (first|(go_at_call 172;with_reducible refine(HO.out _).mono ?_;rintro _ w' ⟨rfl,hb⟩;replace hY:=hY.later hb;clear hb;obtain⟨q0,q1,q2,q3,q4,qB⟩:=id hY))
      go_meet
      exact⟨rfl,hY⟩
    have c4b:(sig !=0)=true:=by rw[aQC];exact c4
    cases x
    . obtain rfl:S=true:=by rw[hV];simp
      clear hV
      go_wp2_with (first|(go_at_call 172;with_reducible refine(HO.out _).mono ?_;rintro _ w' ⟨rfl,hb⟩;replace hY:=hY.later hb;clear hb;obtain⟨q0,q1,q2,q3,q4,qB⟩:=id hY)|(go_at_call 170;with_reducible refine(HM.out _).mono ?_;rintro _ w' ⟨rfl,hb⟩;replace hY:=hY.later hb;clear hb;obtain⟨q0,q1,q2,q3,q4,qB⟩:=id hY))
      go_meet
      exact⟨rfl,hY⟩
    obtain rfl:S=false:=by rw[hV];simp[c4]
    clear hV
    go_wp2_with (first|(go_at_call 172;with_reducible refine(HO.out _).mono ?_;rintro _ w' ⟨rfl,hb⟩;replace hY:=hY.later hb;clear hb;obtain⟨q0,q1,q2,q3,q4,qB⟩:=id hY)|(go_at_call 170;with_reducible refine(HM.out _).mono ?_;rintro _ w' ⟨rfl,hb⟩;replace hY:=hY.later hb;clear hb;obtain⟨q0,q1,q2,q3,q4,qB⟩:=id hY))
    go_meet
    exact⟨rfl,hY⟩
  cases hz:allB isZ s
  . rw [hz]at hT hV;have HT:Hid (∀W,Calls Tryz.prog 173 #[.string s,.string ⟨#[48]⟩] W fun e w'=>(∃u:ByteArray,u.toList.isEmpty=false/\e=.returned (.string u))/\Below W.heap.size W w'):=ZU (by
     intro W;refine(hT W).mono ?_;rintro e w' ⟨⟨t,ht,h⟩,hb⟩;refine⟨⟨_,?_,h⟩,hb⟩;rw[a1b]
     cases t with
     |nil=>exact absurd (ht.1 rfl) (by decide)
     |cons a b=>rfl)
    clear hT hz
    by_cases c4:sig=0
    . subst c4;obtain rfl:S=true:=by rw[hV];simp
      clear hV HM
      go_wp2_with (first|(go_at_call 172;with_reducible refine(HO.out _).mono ?_;rintro _ w' ⟨rfl,hb⟩;replace hY:=hY.later hb;clear hb;obtain⟨q0,q1,q2,q3,q4,qB⟩:=id hY)|(go_at_call 173;with_reducible refine(HT.out _).mono ?_;rintro _ w' ⟨⟨u,hu,rfl⟩,hb⟩;replace hY:=hY.later hb;clear hb;obtain⟨q0,q1,q2,q3,q4,qB⟩:=id hY))
      go_meet
      exact⟨rfl,hY⟩
    have c4b:(sig !=0)=true:=by rw[aQC];exact c4
    cases x
    . obtain rfl:S=true:=by rw[hV];simp
      clear hV
      go_wp2_with (first|(go_at_call 172;with_reducible refine(HO.out _).mono ?_;rintro _ w' ⟨rfl,hb⟩;replace hY:=hY.later hb;clear hb;obtain⟨q0,q1,q2,q3,q4,qB⟩:=id hY)|(go_at_call 173;with_reducible refine(HT.out _).mono ?_;rintro _ w' ⟨⟨u,hu,rfl⟩,hb⟩;replace hY:=hY.later hb;clear hb;obtain⟨q0,q1,q2,q3,q4,qB⟩:=id hY)|(go_at_call 170;with_reducible refine(HM.out _).mono ?_;rintro _ w' ⟨rfl,hb⟩;replace hY:=hY.later hb;clear hb;obtain⟨q0,q1,q2,q3,q4,qB⟩:=id hY))
      go_meet
      exact⟨rfl,hY⟩
    obtain rfl:S=false:=by rw[hV];simp[c4]
    clear hV
    go_wp2_with (first|(go_at_call 172;with_reducible refine(HO.out _).mono ?_;rintro _ w' ⟨rfl,hb⟩;replace hY:=hY.later hb;clear hb;obtain⟨q0,q1,q2,q3,q4,qB⟩:=id hY)|(go_at_call 173;with_reducible refine(HT.out _).mono ?_;rintro _ w' ⟨⟨u,hu,rfl⟩,hb⟩;replace hY:=hY.later hb;clear hb;obtain⟨q0,q1,q2,q3,q4,qB⟩:=id hY)|(go_at_call 170;with_reducible refine(HM.out _).mono ?_;rintro _ w' ⟨rfl,hb⟩;replace hY:=hY.later hb;clear hb;obtain⟨q0,q1,q2,q3,q4,qB⟩:=id hY))
    go_meet
    exact⟨rfl,hY⟩
  rw[hz]at hT hV;have HT:Hid (∀W,Calls Tryz.prog 173 #[.string s,.string ⟨#[48]⟩] W fun e w'=>e=.returned (.string ⟨#[]⟩)/\Below W.heap.size W w'):=ZU (by
   intro W;refine(hT W).mono ?_;rintro e w' ⟨⟨t,ht,h⟩,hb⟩;obtain rfl:=ht.2 rfl;exact⟨h,hb⟩)
  clear hT hz;obtain rfl:S=false:=by rw[hV];rfl
  clear hV
  go_wp2_with (first|(go_at_call 172;with_reducible refine(HO.out _).mono ?_;rintro _ w' ⟨rfl,hb⟩;replace hY:=hY.later hb;clear hb;obtain⟨q0,q1,q2,q3,q4,qB⟩:=id hY)|(go_at_call 173;with_reducible refine(HT.out _).mono ?_;rintro _ w' ⟨rfl,hb⟩;replace hY:=hY.later hb;clear hb;obtain⟨q0,q1,q2,q3,q4,qB⟩:=id hY))
  go_meet
  exact⟨rfl,hY⟩
 case rest=>
  obtain⟨rfl,hY⟩:=hcut;obtain rfl:=hS.out;clear hS hO hT HM;obtain⟨q0,q1,q2,q3,q4,qB⟩:=id hY;have hR2:=hR.out;clear hR;unfold OJ at hR2
  cases long
  . have hk:iP neg s ex sig=true->ex=0:=by unfold iP;intro h;simp at h;exact h.2.2.1
    simp only[aMz,aQW]at hR2;generalize iP neg s ex sig=ok at *;clear HL;have HR:=ZU hR2;clear hR2
    cases ok
    . clear hk
      go_wp2_with fail
      go_ret
      exact⟨ri (by rw[HR.out];simp),hY.below⟩
    have hk2:ex=0:=hk rfl;clear hk
    by_cases d1:sig<0
    . go_wp2_with fail
      go_ret
      exact⟨ri (by rw[HR.out,show decide (0<=sig)=false from aEm (by omega)];rfl),hY.below⟩
    by_cases d2:sig<=s.size+ex
    . go_wp2_with fail
      go_ret
      exact⟨ri (by rw[HR.out,show decide (0<=sig)=true from aEy (by omega),show decide (sig<=s.size+ex)=true from aEy (by omega)];rfl),hY.below⟩
    go_wp2_with fail
    go_ret
    exact⟨ri (by rw[HR.out,show decide (sig<=s.size+ex)=false from aEm (by omega),aVQ,aVQ];rfl),hY.below⟩
  have hk:gK s ex=true->0<=ex/\ex<=16:=by unfold gK;intro h;simp at h;omega
  simp only[aVY]at hR2;generalize iP neg s ex sig=o2 at *;generalize gK s ex=ok at *;have HR:=ZU hR2;clear hR2
  cases ok
  . clear hk
    go_wp2_with (first|(go_at_call 174;with_reducible refine(HL.out _).mono ?_;rintro _ w' ⟨rfl,hb⟩;replace hY:=hY.later hb;clear hb;obtain⟨q0,q1,q2,q3,q4,qB⟩:=id hY))
    go_ret
    exact⟨ri (by rw[HR.out];simp),hY.below⟩
  have hk2:=hk rfl;clear hk
  by_cases d1:sig<0
  . go_wp2_with (first|(go_at_call 174;with_reducible refine(HL.out _).mono ?_;rintro _ w' ⟨rfl,hb⟩;replace hY:=hY.later hb;clear hb;obtain⟨q0,q1,q2,q3,q4,qB⟩:=id hY))
    go_ret
    exact⟨ri (by rw[HR.out,show decide (0<=sig)=false from aEm (by omega)];rfl),hY.below⟩
  by_cases d2:sig<=s.size+ex
  . go_wp2_with (first|(go_at_call 174;with_reducible refine(HL.out _).mono ?_;rintro _ w' ⟨rfl,hb⟩;replace hY:=hY.later hb;clear hb;obtain⟨q0,q1,q2,q3,q4,qB⟩:=id hY))
    go_ret
    exact⟨ri (by rw[HR.out,show decide (0<=sig)=true from aEy (by omega),show decide (sig<=s.size+ex)=true from aEy (by omega)];rfl),hY.below⟩
  go_wp2_with (first|(go_at_call 174;with_reducible refine(HL.out _).mono ?_;rintro _ w' ⟨rfl,hb⟩;replace hY:=hY.later hb;clear hb;obtain⟨q0,q1,q2,q3,q4,qB⟩:=id hY))
  go_ret
  exact⟨ri (by rw[HR.out,show decide (sig<=s.size+ex)=false from aEm (by omega),aVQ,aVQ];rfl),hY.below⟩
def yVal(neg:Bool)(s:ByteArray)(ex:Int):Int:=if neg then -iH s ex else iH s ex
theorem yV(neg long:Bool)(s:ByteArray)(ex sig:Int)(w:World)(hs:s.size<=1000)(hk:OJ neg long s ex sig=true)(hx:hasB 88 s=false):
 Calls Tryz.prog 141 #[yv neg long s ex sig] w fun r w'=>r=.returned (.tuple #[.int .i64 (yVal neg s ex),.int .i64 0])/\Below w.heap.size w w':=by
 have hK:=fun w=>IG neg long s ex sig w hs;have hM:=fun w=>qK neg long s ex sig w;rw[hk]at hK;rw[hx]at hM;have HK:=ZU hK;have HM:=ZU hM;clear hK hM;have hf: ∃e:Nat,ex=e/\e<=16/\allB bM s=true/\1<=s.size/\s.size<=17/\iH s ex<=10000000000000000:=by
  cases long
  . obtain⟨h1,h2,h3,_⟩:=jT hk;have hd:=(oO h2).1 hx;have:=pY hd h1;have hz:iH s 0=bF s:=by unfold iH p10;simp
    exact⟨0,h3,by omega,hd,by omega,by omega,by rw[h3,hz];omega⟩
  obtain⟨h1,h2,h3,h4,h5,h6,h7,_⟩:=kW hk;exact⟨ex.toNat,by omega,by omega,h3,h1,h2,h7⟩
 obtain⟨e,rfl,he,hd,h1,h2,hm⟩:=hf;have hG:=fun w=>vG neg long s e sig w hd h1 h2 he;have hm0:=lK s e;unfold yVal;clear hd hk hx;generalize iH s e=v at *;rw[show FU v=(v,0) by unfold FU;rw[aFw hm]]at hG;have HG:=ZU hG;clear hG;unfold yv at HK HM HG;have hY:=Ym.new neg long s e sig w 27
 cases neg
 . unfold yv
   go_enter Tryz.func141,Tryz.ntmps141
   go_upto_region 1 with(fail)
   generalize w.alloc (.cells #[.bool false,.bool long,.string s,.int .i64 e,.int .i64 sig] 27)=W0 at hY ⊢;obtain⟨q0,q1,q2,q3,q4,qB⟩:=id hY
   go_wp2_with (first|(go_at_call 126;with_reducible refine(HK.out _).mono ?_;rintro _ w' ⟨rfl,hb⟩;replace hY:=hY.later hb;clear hb;obtain⟨q0,q1,q2,q3,q4,qB⟩:=id hY)|(go_at_call 170;with_reducible refine(HM.out _).mono ?_;rintro _ w' ⟨rfl,hb⟩;replace hY:=hY.later hb;clear hb;obtain⟨q0,q1,q2,q3,q4,qB⟩:=id hY)|(go_at_call 181;with_reducible refine(HG.out _).mono ?_;rintro _ w' ⟨rfl,hb⟩;replace hY:=hY.later hb;clear hb;obtain⟨q0,q1,q2,q3,q4,qB⟩:=id hY))
   go_ret2
   exact⟨rfl,hY.below⟩
 unfold yv
 go_enter Tryz.func141,Tryz.ntmps141
 go_upto_region 1 with(fail)
 generalize w.alloc (.cells #[.bool true,.bool long,.string s,.int .i64 e,.int .i64 sig] 27)=W0 at hY ⊢;obtain⟨q0,q1,q2,q3,q4,qB⟩:=id hY
 go_wp2_with (first|(go_at_call 126;with_reducible refine(HK.out _).mono ?_;rintro _ w' ⟨rfl,hb⟩;replace hY:=hY.later hb;clear hb;obtain⟨q0,q1,q2,q3,q4,qB⟩:=id hY)|(go_at_call 170;with_reducible refine(HM.out _).mono ?_;rintro _ w' ⟨rfl,hb⟩;replace hY:=hY.later hb;clear hb;obtain⟨q0,q1,q2,q3,q4,qB⟩:=id hY)|(go_at_call 181;with_reducible refine(HG.out _).mono ?_;rintro _ w' ⟨rfl,hb⟩;replace hY:=hY.later hb;clear hb;obtain⟨q0,q1,q2,q3,q4,qB⟩:=id hY))
 go_ret2
 exact⟨rfl,hY.below⟩
end Bk
end
section
open Go.RowKit Go.Lib
namespace Bk
open Un (ba bt ri rb dO eY FN)
open Cal
def bQ(c:Int):Int:=if c=21\/c=25\/c=31 then 3 else if c=22\/c=26\/c=32 then 6 else if c=23\/c=27\/c=29\/c=39 then 9 else if c=24\/c=28\/c=30 then 12 else if c=34 then 4 else if c=35\/c=41 then 7 else if c=36 then 10 else if c=38 then 5 else 1
def dW(c:Int):Int:=if c<=36 then 3 else if c<=39 then 4 else 6
def qH(i:Nat):Int:=if i % 2=0 then bQ (21+i / 2)else dW (21+i / 2)
structure QD(w:World):Prop where
 cal:FN w
 span: ∀i:Nat,i<42->w.cell? ⟨0,i,none⟩=some (.int .i64 (qH i))
 syn: ∃t p,w.cell? ⟨3,0,none⟩=some (.iface t p)
 ran: ∃t p,w.cell? ⟨4,0,none⟩=some (.iface t p)
theorem QD.below{w w':World}(h:QD w)(hb:Below w.heap.size w w'):QD w':=
 ⟨h.cal.below hb,fun i hi=>aVO hb (h.span i hi),by obtain⟨t,p,h⟩:=h.syn;exact⟨t,p,aVO hb h⟩,by obtain⟨t,p,h⟩:=h.ran;exact⟨t,p,aVO hb h⟩⟩
theorem aC9(s:ByteArray)(v:Int)(h:atoiAll s.data.toList=.ok v)(hs:s.size<=1000)(W:World):
 Calls Tryz.prog 142 #[.string s] W fun e w'=>e=.returned (.tuple #[.int .i64 v,.nilIface])/\Below W.heap.size W w':=by
 refine(Tryz.strconv_Atoi_ok s (by omega) v h W).mono ?_;rintro e w' ⟨rfl,h⟩;refine⟨rfl,?_⟩;rcases h with rfl|⟨t,rfl⟩
 . exact aDl _ _
 exact a1X _ _ _
theorem aIP(s:ByteArray)(h: ∀v,atoiAll s.data.toList≠ .ok v)(hs:s.size<=1000)(W:World)(hk:QD W):
 Calls Tryz.prog 142 #[.string s] W fun e w'=>(∃x t p,e=.returned (.tuple #[.int .i64 x,.iface t p]))/\Below W.heap.size W w':=by
 obtain⟨t1,p1,h1⟩:=hk.syn;obtain⟨t2,p2,h2⟩:=hk.ran
 by_cases hh:atoiAll s.data.toList=.range
 . refine(Tryz.strconv_Atoi_range s (by omega) hh _ W h2 (.inr ⟨_,_,rfl⟩)).mono ?_;rintro e w' ⟨N,rfl,_,_,hb⟩;exact⟨⟨_,_,_,rfl⟩,hb⟩
 refine(Tryz.strconv_Atoi_syntax s (by omega) h hh _ W h1 (.inr ⟨_,_,rfl⟩)).mono ?_;rintro e w' ⟨N,rfl,_,_,hb⟩;exact⟨⟨_,_,_,rfl⟩,hb⟩
theorem a0H(pn pa pb pe:Addr)(n a b:Int)(u:FrameMode)(w:World)(hn:w.cell? pn=some (.int .i64 n))(ha:w.cell? pa=some (.int .i64 a))(hb:w.cell? pb=some (.int .i64 b))(h:decide (a<n)=decide (0<b)):
 CallsD Tryz.prog 288 #[.pointer (some pn),.pointer (some pa),.pointer (some pb),.pointer (some pe)] u w fun e u' w'=>u'=u/\(e=.returned (.tuple #[])/\w'=w):=by
 by_cases c:0<b
 . have c2:a<n:=by rw[aEy c]at h;exact aHY h
   clear h
   go_enter_d Tryz.func288,Tryz.ntmps288
   go_wp2
   go_end0
   exact⟨rfl,rfl⟩
 have c2: ¬a<n:=by rw[aEm c]at h;exact aOC h
 clear h
 go_enter_d Tryz.func288,Tryz.ntmps288
 go_wp2
 go_end0
 exact⟨rfl,rfl⟩
theorem KP(a b:Int)(w:World)(a0: -9223372036854775808<=a)(a1:a<9223372036854775808)(b0:0<b)(b1:b<9223372036854775808)(h:a+b<9223372036854775808):
 Calls Tryz.prog 260 #[.int .i64 a,.int .i64 b] w fun r w'=>r=.returned (.tuple #[.int .i64 (a+b),.int .i64 0])/\Below w.heap.size w w':=by
 have hmf: ∀(fn:Fn) (first cap:Array Value) (w:World),(Instr.makeFunc fn first cap).run Tryz.prog w=.ok (.func fn first cap) w:=fun _ _ _ _=>rfl;have hb0: ¬b=0:=by omega
 go_enter_defers Tryz.func260,Tryz.ntmps260
 go_wp2
 refine leaves_cons (f:=288) (args:= #[.pointer (some ⟨w.heap.size+1+1,0,none⟩),.pointer (some ⟨w.heap.size,0,none⟩),.pointer (some ⟨w.heap.size+1,0,none⟩),.pointer (some ⟨w.heap.size+1+1+1,0,none⟩)]) (by simp) (by simp[go_sem]) ?_;refine(a0H _ _ _ _ (a+b) a b .returning _ (by simp[go_sem]) (by simp[go_sem]) (by simp[go_sem]) (by rw[aEy b0];exact aEy (by omega))).mono ?_;rintro e u' w'' ⟨rfl,rfl,rfl⟩;simp[Leaves,settle,results,Tryz.results260,go_sem];exact ba (ba (ba (ba (aDl _ _) _) _) _) _
def NV(y m k:Int):Int × Int:=((12 * y+(m - 1)+k) / 12,(12 * y+(m - 1)+k) % 12+1)
theorem RU(y m k:Int)(w:World)(h0: -10000000000000000<=y)(h1:y<=10000000000000000)(m0:1<=m)(m1:m<=12)(k0:0<k)(k1:k<=12)(hz:(NV y m k).1<=10000000000000000):
 Calls Tryz.prog 221 #[.int .i64 y,.int .i64 m,.int .i64 k] w fun r w'=>r=.returned (.tuple #[.int .i64 (NV y m k).1,.int .i64 (NV y m k).2,.int .i64 0])/\Below w.heap.size w w':=by
 have HC:Hid (∀w:World,Calls Tryz.prog 233 #[.int .i64 y,.int .i64 m] w fun e w'=>e=.returned (.int .i64 0)/\w=w'):=ZU (by
  intro w;have:=Un.kP y m w;unfold Un.FW at this;rw[aFw ⟨h0,h1⟩,aFw ⟨m0,m1⟩]at this;exact this)
 have HA:=ZU (fun w=>KP (12 * y+(m - 1)) k w (by omega) (by omega) k0 (by omega) (by omega));have hA1: -9223372036854775808<=12 * y+(m - 1)+k:=by omega
 have hA2:12 * y+(m - 1)+k<9223372036854775808:=by omega
 have HD:=ZU (fun w=>Un.BN (12 * y+(m - 1)+k) 12 w (by omega) (by omega) hA1 hA2);have HM:=ZU (fun w=>Un.aCO (12 * y+(m - 1)+k) 12 w (by omega) (by omega) hA1 hA2);unfold NV at *;have g0: -10000000000000000<=(12 * y+(m - 1)+k) / 12:=by omega
 have g1:(12 * y+(m - 1)+k) / 12<=10000000000000000:=hz;have HY:=ZU (fun w=>Un.iJ ((12 * y+(m - 1)+k) / 12) w g0 g1);have g2:0<=(12 * y+(m - 1)+k) % 12:=by omega
 have g3:(12 * y+(m - 1)+k) % 12<12:=by omega
 clear hz g0 g1 hA1 hA2;generalize (12 * y+(m - 1)+k) / 12=q at *;generalize (12 * y+(m - 1)+k) % 12=r at *
 go_enter Tryz.func221,Tryz.ntmps221
 go_wp2_with (first
  |(go_at_call 233;with_reducible refine(HC.out _).mono ?_;rintro _ w' ⟨rfl,rfl⟩)
  |(go_at_call 260;with_reducible refine(HA.out _).mono ?_;rintro _ w' ⟨rfl,hb⟩)
  |(go_at_call 261;with_reducible refine(HD.out _).mono ?_;rintro _ w' ⟨rfl,rfl⟩)
  |(go_at_call 262;with_reducible refine(HM.out _).mono ?_;rintro _ w' ⟨rfl,rfl⟩)
  |(go_at_call 243;with_reducible refine(HY.out _).mono ?_;rintro _ w' ⟨rfl,rfl⟩))
 go_ret3
 exact⟨rfl,hb⟩
theorem RV(y m k:Int)(w:World)(h0: -10000000000000000<=y)(h1:y<=10000000000000000)(m0:1<=m)(m1:m<=12)(k0:0<k)(k1:k<=12)(hz:10000000000000000<(NV y m k).1):
 Calls Tryz.prog 221 #[.int .i64 y,.int .i64 m,.int .i64 k] w fun r w'=>r=.returned (.tuple #[.int .i64 0,.int .i64 0,.int .i64 6])/\Below w.heap.size w w':=by
 have HC:Hid (∀w:World,Calls Tryz.prog 233 #[.int .i64 y,.int .i64 m] w fun e w'=>e=.returned (.int .i64 0)/\w=w'):=ZU (by
  intro w;have:=Un.kP y m w;unfold Un.FW at this;rw[aFw ⟨h0,h1⟩,aFw ⟨m0,m1⟩]at this;exact this)
 have HA:=ZU (fun w=>KP (12 * y+(m - 1)) k w (by omega) (by omega) k0 (by omega) (by omega));have hA1: -9223372036854775808<=12 * y+(m - 1)+k:=by omega
 have hA2:12 * y+(m - 1)+k<9223372036854775808:=by omega
 have HD:=ZU (fun w=>Un.BN (12 * y+(m - 1)+k) 12 w (by omega) (by omega) hA1 hA2);have HM:=ZU (fun w=>Un.aCO (12 * y+(m - 1)+k) 12 w (by omega) (by omega) hA1 hA2);unfold NV at *;have g1:10000000000000000<(12 * y+(m - 1)+k) / 12:=hz;have HY:=ZU (fun w=>Un.x9 ((12 * y+(m - 1)+k) / 12) w (.inr g1));clear hz g1 hA1 hA2;generalize (12 * y+(m - 1)+k) / 12=q at *;generalize (12 * y+(m - 1)+k) % 12=r at *
 go_enter Tryz.func221,Tryz.ntmps221
 go_wp2_with (first
  |(go_at_call 233;with_reducible refine(HC.out _).mono ?_;rintro _ w' ⟨rfl,rfl⟩)
  |(go_at_call 260;with_reducible refine(HA.out _).mono ?_;rintro _ w' ⟨rfl,hb⟩)
  |(go_at_call 261;with_reducible refine(HD.out _).mono ?_;rintro _ w' ⟨rfl,rfl⟩)
  |(go_at_call 262;with_reducible refine(HM.out _).mono ?_;rintro _ w' ⟨rfl,rfl⟩)
  |(go_at_call 243;with_reducible refine(HY.out _).mono ?_;rintro _ w' ⟨rfl,rfl⟩))
 go_ret3
 exact⟨rfl,hb⟩
theorem aNS{c:Int}(h0:21<=c)(h1:c<=41):qH ((c - 21).toNat * 2)=bQ c/\qH ((c - 21).toNat * 2+1)=dW c:=by
 unfold qH;have e:((c - 21).toNat * 2) / 2=(c - 21).toNat:=by omega
 have e2:((c - 21).toNat * 2+1) / 2=(c - 21).toNat:=by omega
 have e3:(21:Int)+(((c - 21).toNat:Nat):Int)=c:=by omega
 constructor
 . rw[aFw (by omega),show(21:Int)+((((c - 21).toNat * 2:Nat):Int) / 2)=c by omega]
 rw[aFv (by omega),show(21:Int)+((((c - 21).toNat * 2+1:Nat):Int) / 2)=c by omega]
theorem vM(c:Int)(w:World)(hk:QD w)(h0:21<=c)(h1:c<=41):
 Calls Tryz.prog 220 #[.int .i64 c] w fun r w'=>r=.returned (.tuple #[.int .i64 (bQ c),.int .i64 (dW c),.int .i64 0])/\Below w.heap.size w w':=by
 have HC:Hid (∀w:World,Calls Tryz.prog 169 #[.int .i64 c] w fun e w'=>e=.returned (.int .i64 0)/\w=w'):=ZU (by
  intro w;have:=yG c w;rw[aFw ⟨h0,h1⟩]at this;exact this)
 obtain⟨n,rfl⟩: ∃n:Nat,c=(n:Int)+21:=⟨(c - 21).toNat,by omega⟩;obtain⟨e0,e1⟩:=aNS h0 h1;rw[show ((n:Int)+21 - 21).toNat=n by omega]at e0 e1;have s0:=hk.span (n * 2) (by omega);have s1:=hk.span (n * 2+1) (by omega);rw[e0]at s0;rw[e1]at s1;clear e0 e1 hk;have l0:n<21:=by omega
 generalize bQ ((n:Int)+21)=a at *;generalize dW ((n:Int)+21)=b at *
 go_enter Tryz.func220,Tryz.ntmps220
 go_wp2_with (go_at_call 169;with_reducible refine(HC.out _).mono ?_;rintro _ w' ⟨rfl,rfl⟩)
 go_quiet (fail)
 go_wp2
 go_ret3
 exact⟨rfl,below_drewN (ba (aDl _ _) _) _⟩
def ZY(c:Int):Int:=if bQ c+dW c - 1<=12 then bQ c+dW c - 1 else bQ c+dW c - 13
def gU(y c:Int):Int:=if bQ c+dW c - 1<=12 then y else y+1
def rv(lo hi:Int):Value:=.agg #[.int .i8 0,.int .i64 lo,.int .i8 0,.int .i64 hi]
theorem I9(y c:Int)(w:World)(hk:QD w)(h0: -10000000000000000<=y)(h1:y<=10000000000000000)(c0:21<=c)(c1:c<=41)(hz:gU y c<=10000000000000000):
 Calls Tryz.prog 171 #[.int .i64 y,.int .i64 c] w fun r w'=>r=.returned (.tuple #[rv (st y+oI y (bQ c)) (st (gU y c)+oI (gU y c) (ZY c+1) - 1),.int .i64 0])/\Below w.heap.size w w':=by
 have hf:1<=bQ c/\bQ c<=12/\3<=dW c/\dW c<=6/\bQ c+dW c<=15:=by unfold bQ dW;(repeat' split)<;>omega
 have HM:=ZU (fun W hb=>vM c W (hk.below (w':=W) hb) c0 c1);have HS:=ZU (fun W hb=>Un.lJ y (bQ c) W (hk.below (w':=W) hb).cal h0 h1 hf.1 hf.2.1);have HA:Hid (∀w:World,Calls Tryz.prog 221 #[.int .i64 y,.int .i64 (bQ c),.int .i64 (dW c - 1)] w fun r w'=>r=.returned (.tuple #[.int .i64 (gU y c),.int .i64 (ZY c),.int .i64 0])/\Below w.heap.size w w'):=ZU (by
  intro w;have e:NV y (bQ c) (dW c - 1)=(gU y c,ZY c):=by
   unfold NV gU ZY
   split<;>(refine Prod.ext ?_ ?_<;>simp only[]<;>omega)
  have:=RU y (bQ c) (dW c - 1) w h0 h1 hf.1 hf.2.1 (by omega) (by omega) (by rw[e];exact hz);rw[e]at this;exact this)
 have y0: -10000000000000000<=gU y c:=by unfold gU;split<;>omega
 have t0:1<=ZY c/\ZY c<=12:=by unfold ZY;split<;>omega
 have HE:=ZU (fun W hb=>Un.BH (gU y c) (ZY c) W (hk.below (w':=W) hb).cal y0 hz t0.1 t0.2);generalize st y+oI y (bQ c)=lo at *;generalize st (gU y c)+oI (gU y c) (ZY c+1) - 1=hi at *;obtain⟨f0,f1,f2,f3,f4⟩:=hf;generalize bQ c=sf at *;generalize dW c=sm at *;generalize gU y c=sy at *;generalize ZY c=so at *;clear hk hz y0 t0;unfold rv
 go_enter Tryz.func171,Tryz.ntmps171
 go_wp2_with fail
 refine(HM.out _ (ba (aDl _ _) _)).mono ?_;rintro _ w1 ⟨rfl,hb1⟩
 go_wp2_with fail
 refine(HS.out _ (bt (ba (aDl _ _) _) hb1)).mono ?_;rintro _ w2 ⟨rfl,hb2⟩
 go_wp2_with fail
 refine(HA.out _).mono ?_;rintro _ w3 ⟨rfl,hb3⟩
 go_wp2_with fail
 refine(HE.out _ (bt (bt (bt (ba (aDl _ _) _) hb1) hb2) hb3)).mono ?_;rintro _ w4 ⟨rfl,hb4⟩;have hB:=bt (bt (bt hb1 hb2) hb3) hb4;obtain⟨q0,q1,q2,q3,z0,z1,z2,z3⟩:=Un.OW hB
 go_wp2_with fail
 refine a0V (v:=.tuple #[.agg #[.int .i8 0,.int .i64 lo,.int .i8 0,.int .i64 hi],.int .i64 0]) (by simp[results,Tryz.results171,go_sem,q0,q1,q2,q3]) rfl ⟨rfl,?_⟩;exact((((bt (ba (aDl _ _) _) hB).setCell (aDT _) _).setCell (aDT _) _).setCell (aDT _) _).setCell (aDT _) _
theorem aAr(y c:Int)(w:World)(hk:QD w)(h0: -10000000000000000<=y)(h1:y<=10000000000000000)(c0:21<=c)(c1:c<=41)(hz:10000000000000000<gU y c):
 Calls Tryz.prog 171 #[.int .i64 y,.int .i64 c] w fun r w'=>r=.returned (.tuple #[rv 0 0,.int .i64 6])/\Below w.heap.size w w':=by
 have hf:1<=bQ c/\bQ c<=12/\3<=dW c/\dW c<=6/\bQ c+dW c<=15:=by unfold bQ dW;(repeat' split)<;>omega
 have HM:=ZU (fun W hb=>vM c W (hk.below (w':=W) hb) c0 c1);have HS:=ZU (fun W hb=>Un.lJ y (bQ c) W (hk.below (w':=W) hb).cal h0 h1 hf.1 hf.2.1);have HA:Hid (∀w:World,Calls Tryz.prog 221 #[.int .i64 y,.int .i64 (bQ c),.int .i64 (dW c - 1)] w fun r w'=>r=.returned (.tuple #[.int .i64 0,.int .i64 0,.int .i64 6])/\Below w.heap.size w w'):=ZU (by
  intro w;have e:(NV y (bQ c) (dW c - 1)).1=gU y c:=by
   unfold NV gU
   split<;>(simp only[];omega)
  exact RV y (bQ c) (dW c - 1) w h0 h1 hf.1 hf.2.1 (by omega) (by omega) (by rw[e];exact hz))
 generalize st y+oI y (bQ c)=lo at *;obtain⟨f0,f1,f2,f3,f4⟩:=hf;generalize bQ c=sf at *;generalize dW c=sm at *;clear hk hz;unfold rv
 go_enter Tryz.func171,Tryz.ntmps171
 go_wp2_with fail
 refine(HM.out _ (ba (aDl _ _) _)).mono ?_;rintro _ w1 ⟨rfl,hb1⟩
 go_wp2_with fail
 refine(HS.out _ (bt (ba (aDl _ _) _) hb1)).mono ?_;rintro _ w2 ⟨rfl,hb2⟩
 go_wp2_with fail
 refine(HA.out _).mono ?_;rintro _ w3 ⟨rfl,hb3⟩;have hB:=bt (bt hb1 hb2) hb3;obtain⟨q0,q1,q2,q3,z0,z1,z2,z3⟩:=Un.OW hB
 go_wp2_with fail
 refine a0V (v:=.tuple #[.agg #[.int .i8 0,.int .i64 0,.int .i8 0,.int .i64 0],.int .i64 6]) (by simp[results,Tryz.results171,go_sem,q0,q1,q2,q3]) rfl ⟨rfl,?_⟩;exact((((bt (ba (aDl _ _) _) hB).setCell (aDT _) _).setCell (aDT _) _).setCell (aDT _) _).setCell (aDT _) _
end Bk
end
section
open Go.RowKit Go.Lib
namespace Bk
open Un (ba bt ri rb dO eY)
structure Dm(p:Nat)(d:Dt)(w W:World):Prop where
 c0:W.cell? ⟨p,0,none⟩=some (.bool d.neg)
 c1:W.cell? ⟨p,1,none⟩=some (.bool d.long)
 c2:W.cell? ⟨p,2,none⟩=some (.string d.dg)
 c3:W.cell? ⟨p,3,none⟩=some (.int .i64 d.ex)
 c4:W.cell? ⟨p,4,none⟩=some (.int .i64 d.sig)
 c5:W.cell? ⟨p,5,none⟩=some (.string d.mo)
 c6:W.cell? ⟨p,6,none⟩=some (.string d.da)
 c7:W.cell? ⟨p,7,none⟩=some (.int .u8 d.m0)
 c8:W.cell? ⟨p,8,none⟩=some (.int .u8 d.m1)
 c9:W.cell? ⟨p,9,none⟩=some (.int .u8 d.m2)
 below:Below w.heap.size w W
theorem Dm.later{p:Nat}{d:Dt}{w W W2:World}(h:Dm p d w W)(hb:Below W.heap.size W W2):Dm p d w W2:=
 have g: ∀ {p:Addr} {v:Value},W.cell? p=some v->W2.cell? p=some v:=fun{p v} hc=>(hb.cell (aQG _ _ hc)).trans hc
 ⟨g h.c0,g h.c1,g h.c2,g h.c3,g h.c4,g h.c5,g h.c6,g h.c7,g h.c8,g h.c9,bt h.below hb⟩
theorem Dm.new(d:Dt)(w:World)(t:TypeId):Dm w.heap.size d w (w.alloc (.cells #[.bool d.neg,.bool d.long,.string d.dg,.int .i64 d.ex,.int .i64 d.sig,.string d.mo,.string d.da,.int .u8 d.m0,.int .u8 d.m1,.int .u8 d.m2] t)):=by
 refine⟨?_,?_,?_,?_,?_,?_,?_,?_,?_,?_,ba (aDl _ _) _⟩<;>simp[go_sem]
theorem QA{s:ByteArray}(h: ¬s.size=2)(n:Int):jS s n=false:=by unfold jS;rw[aEm h,aWm]
theorem I5{s:ByteArray}(h: ¬s.size=2)(g:Nat):fC s g=false:=by
 unfold fC;rw[List.any_eq_false];intro i _;rw[QA h];decide
theorem aDc{s:ByteArray}(h:s.size=2)(n:Int):jS s n=((decide (((s[0]'(by omega)).toNat:Int)=88)||decide (((s[0]'(by omega)).toNat:Int)=48+n / 10))&&(decide (((s[1]'(by omega)).toNat:Int)=88)||decide (((s[1]'(by omega)).toNat:Int)=48+n % 10))):=by
 unfold jS;rw[aEy h,aVI,bU s 0 (by omega),bU s 1 (by omega)]
theorem P9{x0 x1:Int}{q r:Int}{a0 a1 b0 b1:Bool}(h0:(x0==88)=a0)(h1:(x0==48+q)=a1)(h2:(x1==88)=b0)(h3:(x1==48+r)=b1):
 ((decide (x0=88)||decide (x0=48+q))&&(decide (x1=88)||decide (x1=48+r)))=((a0||a1)&&(b0||b1)):=by
 subst h0 h1 h2 h3;rfl
theorem MZ(s:ByteArray)(g:Nat)(w:World)(hg:g<=99):
 Calls Tryz.prog 122 #[.string s,.int .i64 g] w fun r w'=>r=.returned (.bool (fC s g))/\Below w.heap.size w w':=by
 by_cases c:s.size=2
 case neg=>
  rw[I5 c]
  go_enter Tryz.func122,Tryz.ntmps122
  go_wp2
  go_ret
  exact⟨rfl,aDl _ _⟩
 have HA:=ZU (aDc c);have HM:=ZU (fun(k:Nat) (h:k<g) (ht:jS s ((k:Int)+1)=true)=>(I7 (s:=s) (g:=k+1) (h:=g) (by omega) (by rw[sZ,ht,a2f]):fC s g=true));have HN:=ZU (fun(k:Nat) (h:fC s k=false) (ht:jS s ((k:Int)+1)=false)=>(by rw[sZ,h,ht];rfl:fC s (k+1)=false));have l0:0<s.size:=by omega
 have l1:1<s.size:=by omega
 go_enter Tryz.func122,Tryz.ntmps122
 go_wp2
 go_loopw [5] (fun i wr=> ∃k:Nat,k<=g/\i=.int .i64 ((k:Int)+1)/\fC s k=false/\Below w.heap.size w wr) (fun i _=>g+1 - (intOf i).toNat)
 case atStart=>exact⟨0,aLm _,rfl,rfl,aDl _ _⟩
 case round=>
  obtain⟨k,hk,rfl,hz,hb⟩:=hrel
  by_cases hlt:k<g
  . have hA:=HA.out ((k:Int)+1);obtain⟨a0,g0⟩: ∃b,(((s[0]'l0).toNat:Int)==88)=b:=⟨_,rfl⟩;obtain⟨a1,g1⟩: ∃b,(((s[0]'l0).toNat:Int)==48+((k:Int)+1) / 10)=b:=⟨_,rfl⟩;obtain⟨b0,g2⟩: ∃b,(((s[1]'l1).toNat:Int)==88)=b:=⟨_,rfl⟩;obtain⟨b1,g3⟩: ∃b,(((s[1]'l1).toNat:Int)==48+((k:Int)+1) % 10)=b:=⟨_,rfl⟩;rw[P9 g0 g1 g2 g3]at hA;have HB:=ZU hb;have HZ:=ZU hz;have HA2:=ZU hA;clear hb hz hA;have q0:0<=((k:Int)+1) / 10:=by omega
    have q1:((k:Int)+1) / 10<=9:=by omega
    have r0:0<=((k:Int)+1) % 10:=by omega
    have r1:((k:Int)+1) % 10<=9:=by omega
    have HBt:=ZU (fun W (h:Below wr.heap.size wr W)=>bt HB.out h)
    cases a0<;>cases a1<;>cases b0<;>cases b1
    all_goals
     as_aux_lemma=>
      go_wp2
      go_quiet (fail)
      go_wp2
      first
      | (go_ret
         exact⟨rb (HM.out k hlt HA2.out).symm,HBt.out _ (below_drewN (ba (aDl _ _) _) _)⟩)
      | (go_roundw
         case rel=>exact⟨k+1,by omega,by go_num,HN.out k HZ.out HA2.out,HBt.out _ (below_drewN (ba (aDl _ _) _) _)⟩
         case measure=>simp[intOf];omega)
  obtain rfl:k=g:=by omega
  have HB:=ZU hb;have HZ:=ZU hz;clear hb hz
  go_wp2
  go_ret
  exact⟨rb HZ.out.symm,HB.out⟩
theorem NG(s:ByteArray):(s.toList==(⟨#[]⟩:ByteArray).toList)=decide (s.size=0):=by
 rw[<-aLv,show(⟨#[]⟩:ByteArray).toList=[]from by kernel_rfl]
 cases s.toList<;>rfl
theorem aEQ(d:Dt)(w:World):
 Calls Tryz.prog 89 #[eP d] w fun r w'=>r=.returned (.int .i64 (comps d.mo d.da))/\Below w.heap.size w w':=
 Sk.UK (Sk.aNq d w) (by rw[NG,NG];unfold comps;simp only[aQJ,aEv];(repeat' split)<;>rfl)
theorem tH(d:Dt)(w:World)(hk:QD w)(hs:d.mo.size<=1000):
 Calls Tryz.prog 120 #[eP d] w fun r w'=>r=.returned (.tuple #[.int .i64 d.aG,.bool (!decide (d.aG=0))])/\Below w.heap.size w w':=by
 have hD:=Dm.new d w 30;have HE:(∃v,atoiAll d.mo.data.toList=.ok v)\/ ∀v,atoiAll d.mo.data.toList≠ .ok v:=by
  cases h:atoiAll d.mo.data.toList
  . exact .inl ⟨_,rfl⟩
  . exact .inr (fun v e=>by cases e)
  exact .inr (fun v e=>by cases e)
 unfold Dt.aG eP;rcases HE with⟨v,hv⟩|hv
 . have HA:=ZU (fun W=>aC9 d.mo v hv hs W)
   by_cases c:d.mo.size=2
   . rw[ZJ c hv];have HC:=fun W=>yG v W;clear hv
     by_cases cv:21<=v/\v<=41
     . rw[aFw cv]at HC ⊢;have ev:decide (v=0)=false:=aEm (by omega);rw[ev];replace HC:=ZU HC;clear cv ev
       go_enter Tryz.func120,Tryz.ntmps120
       go_upto_region 1 with(fail)
       generalize w.alloc (.cells #[.bool d.neg,.bool d.long,.string d.dg,.int .i64 d.ex,.int .i64 d.sig,.string d.mo,.string d.da,.int .u8 d.m0,.int .u8 d.m1,.int .u8 d.m2] 30)=W0 at hD ⊢;obtain⟨q0,q1,q2,q3,q4,q5,q6,q7,q8,q9,qB⟩:=id hD
       go_wp2_with fail
       refine(HA.out _).mono ?_;rintro _ w1 ⟨rfl,hb⟩;replace hD:=hD.later hb;clear hb;obtain⟨q0,q1,q2,q3,q4,q5,q6,q7,q8,q9,qB⟩:=id hD
       go_wp2_with (go_at_call 169;with_reducible refine(HC.out _).mono ?_;rintro _ w' ⟨rfl,rfl⟩)
       go_ret2
       exact⟨rfl,hD.below⟩
     rw[aFv cv]at HC ⊢;replace HC:=ZU HC;clear cv
     go_enter Tryz.func120,Tryz.ntmps120
     go_upto_region 1 with(fail)
     generalize w.alloc (.cells #[.bool d.neg,.bool d.long,.string d.dg,.int .i64 d.ex,.int .i64 d.sig,.string d.mo,.string d.da,.int .u8 d.m0,.int .u8 d.m1,.int .u8 d.m2] 30)=W0 at hD ⊢;obtain⟨q0,q1,q2,q3,q4,q5,q6,q7,q8,q9,qB⟩:=id hD
     go_wp2_with fail
     refine(HA.out _).mono ?_;rintro _ w1 ⟨rfl,hb⟩;replace hD:=hD.later hb;clear hb;obtain⟨q0,q1,q2,q3,q4,q5,q6,q7,q8,q9,qB⟩:=id hD
     go_wp2_with (go_at_call 169;with_reducible refine(HC.out _).mono ?_;rintro _ w' ⟨rfl,rfl⟩)
     go_ret2
     exact⟨rfl,hD.below⟩
   rw[EW c];clear hv;have c2:((d.mo.size:Int) !=2)=true:=by rw[aQC];omega
   clear c
   go_enter Tryz.func120,Tryz.ntmps120
   go_upto_region 1 with(fail)
   generalize w.alloc (.cells #[.bool d.neg,.bool d.long,.string d.dg,.int .i64 d.ex,.int .i64 d.sig,.string d.mo,.string d.da,.int .u8 d.m0,.int .u8 d.m1,.int .u8 d.m2] 30)=W0 at hD ⊢;obtain⟨q0,q1,q2,q3,q4,q5,q6,q7,q8,q9,qB⟩:=id hD
   go_wp2_with fail
   refine(HA.out _).mono ?_;rintro _ w1 ⟨rfl,hb⟩;replace hD:=hD.later hb;clear hb;obtain⟨q0,q1,q2,q3,q4,q5,q6,q7,q8,q9,qB⟩:=id hD
   go_wp2_with fail
   go_ret2
   exact⟨rfl,hD.below⟩
 have HA:=ZU (fun W hb=>aIP d.mo hv hs W (hk.below (w':=W) hb));rw[aEY hv];clear hv
 go_enter Tryz.func120,Tryz.ntmps120
 go_upto_region 1 with(fail)
 generalize w.alloc (.cells #[.bool d.neg,.bool d.long,.string d.dg,.int .i64 d.ex,.int .i64 d.sig,.string d.mo,.string d.da,.int .u8 d.m0,.int .u8 d.m1,.int .u8 d.m2] 30)=W0 at hD ⊢;obtain⟨q0,q1,q2,q3,q4,q5,q6,q7,q8,q9,qB⟩:=id hD
 go_wp2_with fail
 refine(HA.out _ hD.below).mono ?_;rintro _ w1 ⟨⟨x,t,p,rfl⟩,hb⟩;replace hD:=hD.later hb;clear hb;obtain⟨q0,q1,q2,q3,q4,q5,q6,q7,q8,q9,qB⟩:=id hD
 go_wp2_with fail
 go_ret2
 exact⟨rfl,hD.below⟩
end Bk
end
section
open Go.RowKit Go.Lib
namespace Bk
open Un (ba bt ri rb dO eY)
theorem aCm{neg long:Bool}{s:ByteArray}{ex sig:Int}(hk:OJ neg long s ex sig=true)(hx:hasB 88 s=false): -10000000000000000<=yVal neg s ex/\yVal neg s ex<=10000000000000000:=by
 have h0:=lK s ex;have h1:iH s ex<=10000000000000000:=by
  cases long
  . obtain⟨h1,h2,h3,_⟩:=jT hk;have hd:=(oO h2).1 hx;have:=pY hd h1;have hz:iH s 0=bF s:=by unfold iH p10;simp
    rw[h3,hz];omega
  exact(kW hk).2.2.2.2.2.2.1
 unfold yVal
 split<;>omega
theorem OH(d:Dt)(w:World)(hk:QD w)(hs:d.mo.size<=1000)(hy:d.dg.size<=1000):
 Calls Tryz.prog 121 #[eP d] w fun r w'=>r=.returned (.bool d.nY)/\Below w.heap.size w w':=by
 have hK: ∀c:Int,(if d.UR then 0 else 6)=c->Sk.Same w 126 #[yv d.neg d.long d.dg d.ex d.sig] (.int .i64 c):=fun c e=>e ▸ fun W _=>IG d.neg d.long d.dg d.ex d.sig W hy;have hS:=fun W hb=>tH d W (hk.below (w':=W) hb) hs;have hM: ∀b,d.mask=b->Sk.Same w 170 #[yv d.neg d.long d.dg d.ex d.sig] (.bool b):=fun b e=>e ▸ fun W _=>qK d.neg d.long d.dg d.ex d.sig W;unfold Dt.nY Dt.far
 cases hok:d.UR
 . exact Sk.UK (Sk.aQ4 d w (hK 6 (by rw[hok];rfl))) rfl
 have h0:=hK 0 (by rw[hok];rfl)
 by_cases e1:d.aG=0
 . rw[e1]at hS;refine Sk.UK (Sk.aQ3 d w h0 hS) ?_;rw[NG,e1];by_cases c:0<d.sig<;>by_cases e:d.mo.size=0<;>simp[c,e]
 rw[aEm e1]at hS;have sb:21<=d.aG/\d.aG<=41:=(lY d.mo).resolve_left e1
 cases hx:d.mask
 case true=>
  refine Sk.UK (Sk.aQ2 d d.aG w h0 hS (hM _ hx)) ?_;rw[NG];by_cases c:0<d.sig<;>by_cases e:d.mo.size=0<;>simp[c,e]
 have hy0: -10000000000000000<=yVal d.neg d.dg d.ex/\yVal d.neg d.dg d.ex<=10000000000000000:=aCm hok hx;have hyv:(decide (d.mag=10000000000000000)&& !d.neg)=decide (yVal d.neg d.dg d.ex=10000000000000000):=by
  have:=lK d.dg d.ex;unfold yVal
  cases d.neg
  . rw[aWl,Bool.and_true];rfl
  rw[a1Z,aVQ];symm;apply aEm;simp only[aVY];omega
 have hV:=fun W (_:Below w.heap.size w W)=>yV d.neg d.long d.dg d.ex d.sig W hy hok hx;rw[hyv];generalize yVal d.neg d.dg d.ex=y at *;have aZa:((decide (d.aG=24)||(decide (d.aG=28)||decide (d.aG=30)))&&decide (y=10000000000000000))=decide (10000000000000000<gU y d.aG):=by
  unfold gU bQ dW;generalize d.aG=c at *;rw[aQP];simp only[aEx,aL6,aEv];constructor
  . rintro⟨h|h|h,rfl⟩<;>subst h<;>decide
  intro h
  (repeat' split at h)<;>omega
 rw[aWl,aVI,aVI,aZa]
 by_cases cz:10000000000000000<gU y d.aG
 . refine Sk.UK (Sk.aMs d d.aG y 6 0 0 0 0 w h0 hS (hM _ hx) hV (fun W hb=>aAr y d.aG W (hk.below hb) hy0.1 hy0.2 sb.1 sb.2 cz)) ?_;rw[NG];by_cases c:0<d.sig<;>by_cases e:d.mo.size=0<;>simp[c,e,cz]
 refine Sk.UK (Sk.aMs d d.aG y 0 0 _ 0 _ w h0 hS (hM _ hx) hV (fun W hb=>I9 y d.aG W (hk.below hb) hy0.1 hy0.2 sb.1 sb.2 (by omega))) ?_;rw[NG];by_cases c:0<d.sig<;>by_cases e:d.mo.size=0<;>simp[c,e,cz]
end Bk
end
section
open Go.RowKit Go.Lib
namespace Bk
open Un (ba bt ri rb dO eY)
theorem CS(a b:ByteArray):1<=comps a b/\comps a b<=3:=by unfold comps;(repeat' split)<;>omega
theorem aBR(d:Dt)(w:World)(hk:QD w)(hs:d.mo.size<=1000)(hy:d.dg.size<=1000)(m0:0<=d.m0)(m1:0<=d.m1)(m2:0<=d.m2):
 Calls Tryz.prog 88 #[eP d] w fun r w'=>r=.returned (.int .i64 d.form)/\Below w.heap.size w w':=by
 refine Sk.UK (Sk.aJA d d.aG (comps d.mo d.da) (kS d.m0 d.m1 d.m2 (comps d.mo d.da)) _ d.nY (fC d.mo 12) (fC d.da 31) w (fun W hb=>tH d W (hk.below hb) hs) (fun W hb=>OH d W (hk.below hb) hs hy)
  (fun W _=>MZ d.mo 12 W (by omega)) (fun W _=>MZ d.da 31 W (by omega)) (fun W _=>aEQ d W) (fun W _=>SB d.m0 d.m1 d.m2 (comps d.mo d.da) W m0 m1 m2 (CS _ _).1 (CS _ _).2)) ?_
 rw[NG,NG];unfold Dt.form
 cases d.nY<;>cases fC d.mo 12<;>cases fC d.da 31<;>by_cases e1:d.mo.size=0<;>by_cases e2:d.da.size=0<;>by_cases e3:d.aG=0<;>simp[e1,e2,e3]
end Bk
end
end Go.Proofs.YtebgcnnhokclaaaGreatDoor
