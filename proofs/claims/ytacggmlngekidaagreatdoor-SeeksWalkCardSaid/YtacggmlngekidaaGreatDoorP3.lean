import Derived.Test.YtacggmlngekidaaGreatDoorP2
import Derived.Laws.IdiomStrings
import Derived.Laws.BytesArg
import Derived.Deep.DeepCutAuto
import Derived.Deep.CutBlock
import Derived.Deep.MidRow
import Derived.Deep.QuietTactic
import Derived.BigQuiet
import Derived.WalkMore
import Derived.Deep.LoopGhost
import Derived.Laws.EntriesVeiled
import Derived.Deep.RegionHeld3
import Derived.Lib.AtoiErrMem
import Derived.Defers
set_option linter.unusedSimpArgs false
set_option linter.unusedVariables false
set_option maxRecDepth 1000000
set_option maxHeartbeats 8000000
set_option linter.unusedSectionVars false
namespace Go.Proofs.YtacggmlngekidaaGreatDoor
abbrev aG2:=@Go.bodyPost_ret
abbrev aG6:=@Go.wpList_load_mid
abbrev aNL:=@List.not_mem_nil
abbrev aPA:=@of_decide_eq_false
abbrev aQl:=@Go.run_loadVar_mid
abbrev aRo:=@Go.wpList_store_mid
abbrev aRC:=@Bool.not_eq_true
abbrev aRI:=@Bool.and_false
abbrev aRO:=@Bool.eq_false_or_eq_true
abbrev aRX:=@UInt8.toNat_ofNat'
abbrev aUG:=@or_false
abbrev aUM:=@Go.Exit.noGoto_normal
abbrev aUQ:=@Go.wpList_append_own
abbrev aVz:=@Go.ByteArray.toList_mk
abbrev aVV:=@Go.World.ownsRow_nil
abbrev aV7:=@Bool.or_true
abbrev aV8:=@beq_self_eq_true
abbrev aWU:=@Go.Lib.bytesWorld_below
section
open Go.RowKit Go.Lib
namespace Bk
open Un (ba bt ri rb aU bF)
theorem CB{s:ByteArray}(h:allB bU s=true)(i:Nat)(hi:i<s.size):aY s i=88\/(48<=aY s i/\aY s i<=57):=by
 have:=(kH _ _).1 h i hi;unfold bU at this;simp at this;omega
theorem zM{s:ByteArray}(h4:s.size=4)(h:allB bU s=true):MOk (aY s):=fun i hi=>CB h i (by omega)
theorem tZ(s:ByteArray)(w:World)(h4:s.size=4)(hx:allB bU s=true):
 Calls Tryz.prog 196 #[.string s] w fun r w'=>r=.returned (.int .i64 0)/\Below w.heap.size w w':=by
 have HS:=GK (fun(i:Nat) (hi:i<s.size)=>CB hx i hi);have H4:=GK h4;have l1: ¬(18:Int)<s.size:=by omega
 have l2: ¬s.size=0:=by omega
 have l3:0<s.size:=by omega
 have l4:=NH l2;clear hx h4
 go_enter Tryz.func196,Tryz.ntmps196
 go_wp2
 go_loopg [] s.size (fun gf wx=> ∃pos:Nat,wx.heap[w.heap.size]? =some (.stringIter s pos)/\Below w.heap.size w wx/\s.size<=pos+gf)
 case atStart=>exact⟨0,World.iter_heap w s 0,(aAL _ w).alloc (aCU _) _,by omega⟩
 case round=>
  obtain⟨pos,hit,hbw,hfu⟩:=hrel
  by_cases hps:pos<s.size
  . obtain⟨g',rfl⟩: ∃g',gk=g'+1:=⟨gk - 1,by omega⟩;have hbd:=HS.out pos hps;rw[bQ s pos hps]at hbd;have hnx: ∀ty,(Instr.next (.pointer (some ⟨w.heap.size,0,none⟩)) true ty).run Tryz.prog wr=_:=fun ty=>Lib.run_next_any_at wr w.heap.size s pos ty hit hps;have hde:=aV3 s pos hps (by omega);rw[hde]at hnx;generalize (s[pos]'hps).toNat=R at hnx hbd hde;have hit2:=Lib.iterAt_heap wr w.heap.size s pos (pos+1) hit;have hbw2:=Lib.below_iterAt hbw (k:=w.heap.size) (aCU _) s (pos+1);clear hde;rcases hbd with h|⟨h1,h2⟩
    . have h:R=88:=by omega
      subst h
      go_wp2
      go_roundg g'
      case measure=>omega
      case rel=>exact⟨pos+1,hit2,hbw2,by omega⟩
    have e1:((R:Int)==88)=false:=by rw[aAO];omega
    have e2:((R:Int) !=88)=true:=by rw[aLa];omega
    have e3: ¬(R:Int)<48:=by omega
    have e4: ¬(57:Int)<R:=by omega
    go_wp2
    go_roundg g'
    case measure=>omega
    case rel=>exact⟨pos+1,hit2,hbw2,by omega⟩
  have hnx: ∀ty,(Instr.next (.pointer (some ⟨w.heap.size,0,none⟩)) true ty).run Tryz.prog wr=_:=fun ty=>Lib.run_next_end_at wr w.heap.size s pos ty hit hps
  go_wp2
  go_ret
  exact⟨rfl,hbw⟩
theorem aEW(n:Nat)(w:World)(h:n<=18):Calls Tryz.prog 219 #[.int .i64 n] w fun r w'=>r=.returned (.int .i64 (p10 n))/\w=w':=by
 have HT:=GK (fun w=>RF n w h);generalize p10 n=p at *
 go_enter Tryz.func219,Tryz.ntmps219
 go_wp2_with (go_at_call 194;with_reducible refine(HT.out _).mono ?_;rintro _ w' ⟨rfl,rfl⟩)
 go_ret
 exact⟨rfl,rfl⟩
theorem sU(s:ByteArray)(n:Int)(w:World)(h4:s.size=4):
 Calls Tryz.prog 198 #[.string s,.int .i64 n] w fun r w'=>r=.returned (.bool (decide (0<=n)&&decide (n<10000)))/\w=w':=by
 have HP:Hid (∀w:World,Calls Tryz.prog 219 #[.int .i64 s.size] w fun r w'=>r=.returned (.int .i64 10000)/\w=w'):=GK (by
  intro w;have:=aEW 4 w (by omega);rw[h4];exact this)
 clear h4
 by_cases c:0<=n<;>by_cases c2:n<10000
 all_goals
  go_enter Tryz.func198,Tryz.ntmps198
  go_wp2_with (go_at_call 219;with_reducible refine(HP.out _).mono ?_;rintro _ w' ⟨rfl,rfl⟩)
  go_ret
  exact⟨rb (by simp[c,c2]),rfl⟩
def pv(o:Nat->Int):Nat->Int
 |0=>0
 |k+1=>10 * pv o k+(o k - 48)
theorem pv4(o:Nat->Int):pv o 4=cZ o:=by unfold cZ;simp only[pv];omega
theorem aSS{o:Nat->Int}(h: ∀i,i<4->48<=o i/\o i<=57)(k:Nat)(hk:k<=4):0<=pv o k/\pv o k<=9999:=by
 have a0:=h 0 (by omega);have a1:=h 1 (by omega);have a2:=h 2 (by omega);have a3:=h 3 (by omega);obtain rfl|rfl|rfl|rfl|rfl:k=0\/k=1\/k=2\/k=3\/k=4:=by omega
 all_goals simp only[pv];omega
theorem aAr(w:World)(s:ByteArray)(cap:Nat)(T:TypeId)(m:Nat × Nat)(i:Nat)(h:i<s.size):(w.drew.alloc (.cells (bytesRow s cap) T m)).cell? ⟨w.heap.size,i,none⟩=some (.int .u8 ((s[i]'h).toNat:Int)):=by
 have:=World.cell?_alloc_mark w.drew (bytesRow s cap) T m i;rw[show w.drew.heap.size=w.heap.size from rfl]at this;rw[this,bytesRow_at s cap i h]
 rfl
theorem NP(w:World)(s:ByteArray): ∃(cap:Nat) (W1:World),(convert 9 207 (.string s)).run Tryz.prog w=.ok (.slice (some ⟨w.heap.size,0,none⟩) s.size cap) W1/\(∀i (h:i<s.size),W1.cell? ⟨w.heap.size,i,none⟩=some (.int .u8 ((s[i]'h).toNat:Int)))/\Below w.heap.size w W1:=
 ⟨_,_,run_bytes_of_string (P:=Tryz.prog) w 9 207 5 s Tryz.underlying9 Tryz.underlying207 Tryz.underlying5,fun i h=>aAr w s _ _ _ i h,ba (aAL _ _).drew _⟩
theorem zS(s:ByteArray)(x:Int)(o:Nat->Int)(w:World)(h4:s.size=4)(ho: ∀i,i<4->o i=if aY s i=88 then x else aY s i)(hd: ∀i,i<4->48<=o i/\o i<=57):
 Calls Tryz.prog 218 #[.string s,.int .u8 x] w fun r w'=>r=.returned (.int .i64 (cZ o))/\Below w.heap.size w w':=by
 obtain⟨cap,W1,hcv,hC,hB⟩:=NP w s;have HC:=GK hC;clear hC;have HO:=GK ho;have HD:=GK hd;have HP:=GK (fun k hk=>aSS hd k hk);clear ho hd;have H4:=GK h4;have l4:(s.size:Int)=4:=by omega
 replace l4:=GK l4;clear h4
 go_enter Tryz.func218,Tryz.ntmps218
 go_wp2
 clear hcv
 go_loop [5,11] (fun n i=> ∃k:Nat,k<=s.size/\i=.int .i64 k/\n=.int .i64 (pv o k)) (fun _ i=>s.size - (intOf i).toNat)
 case atStart=>exact⟨0,aKS _,rfl,rfl⟩
 case round=>
  obtain⟨k,hk,rfl,rfl⟩:=hrel;have p0:=HP.out k (by have:=H4.out;omega)
  by_cases hlt:k<s.size
  . have k4:k<4:=by have:=H4.out;omega
    have hc:=HC.out k hlt;have ho:=HO.out k k4;have hd:=HD.out k k4;rw[bQ s k hlt]at ho;have p1:=HP.out (k+1) (by omega);have hs:pv o (k+1)=10 * pv o k+(o k - 48):=rfl
    by_cases c:((s[k]'hlt).toNat:Int)=88
    . rw[aFV c]at ho;have HS:=GK hs;have HO2:=GK ho;rw[hs,ho]at p1;rw[ho]at hd;have cb:(((s[k]'hlt).toNat:Int)==88)=true:=by rw[c];rfl
      clear hs ho c;obtain⟨d0,d1⟩:=hd
      go_wp2
      go_round
      case rel=>exact⟨k+1,by omega,by go_num,by rw[HS.out,HO2.out]⟩
      case measure=>simp[intOf];omega
    rw[aB9 c]at ho;have HS:=GK hs;have HO2:=GK ho;rw[hs,ho]at p1;rw[ho]at hd;have cb:(((s[k]'hlt).toNat:Int)==88)=false:=by rw[aAO];exact c
    clear hs ho c;obtain⟨d0,d1⟩:=hd
    go_wp2
    go_round
    case rel=>exact⟨k+1,by omega,by go_num,by rw[HS.out,HO2.out]⟩
    case measure=>simp[intOf];omega
  have e:k=4:=by have:=H4.out;omega
  subst e
  go_wp2
  go_ret
  exact⟨ri (pv4 o),hB⟩
def SY(o:Nat->Int):Value:=.agg #[.int .u8 (o 0),.int .u8 (o 1),.int .u8 (o 2),.int .u8 (o 3),.int .u8 (o 4),.int .u8 (o 5),.int .u8 (o 6),.int .u8 (o 7),.int .u8 (o 8),.int .u8 (o 9),.int .u8 (o 10),.int .u8 (o 11),.int .u8 (o 12),.int .u8 (o 13),.int .u8 (o 14),.int .u8 (o 15),.int .u8 (o 16),.int .u8 (o 17)]
def WE(o:Nat->Int):Array Value:= #[.int .u8 (o 0),.int .u8 (o 1),.int .u8 (o 2),.int .u8 (o 3),.int .u8 (o 4),.int .u8 (o 5),.int .u8 (o 6),.int .u8 (o 7),.int .u8 (o 8),.int .u8 (o 9),.int .u8 (o 10),.int .u8 (o 11),.int .u8 (o 12),.int .u8 (o 13),.int .u8 (o 14),.int .u8 (o 15),.int .u8 (o 16),.int .u8 (o 17)]
def Dn(n:Int)(i:Nat):Int:=if i<4 then 48+dg n i else 0
structure Ar(p:Nat)(o:Nat->Int)(w W:World):Prop where
 cell: ∀i,i<18->W.cell? ⟨p,i,none⟩=some (.int .u8 (o i))
 free: ∀i,i<18->W.frozen? ⟨p,i,none⟩=false
 new:w.heap.size<=p
 below:Below w.heap.size w W
theorem Ar.later{p:Nat}{o:Nat->Int}{w W W2:World}(h:Ar p o w W)(hb:Below W.heap.size W W2):Ar p o w W2:=
 have hl:=aOK _ _ (h.cell 0 (by omega))
 ⟨fun i hi=>(hb.cell (p:=⟨p,i,none⟩) hl).trans (h.cell i hi),fun i hi=>(hb.frozen (p:=⟨p,i,none⟩) hl).trans (h.free i hi),h.new,bt h.below hb⟩
theorem Ar.set{p:Nat}{o:Nat->Int}{w W:World}(h:Ar p o w W)(k:Nat)(hk:k<18)(v:Int):Ar p (fun i=>if i=k then v else o i) w (W.setCell ⟨p,k,none⟩ (.int .u8 v)):=by
 refine⟨fun i hi=>?_,fun i hi=>by rw[aRE];exact h.free i hi,h.new,h.below.setCell h.new _⟩
 by_cases c:i=k
 . subst c;rw[aFV rfl];exact aUg _ _ _ (h.cell i hi)
 rw[aB9 c,aPE _ _ _ _ (by intro e;injection e with e1 e2;exact c e2.symm)];exact h.cell i hi
theorem Ar.other{p q:Nat}{o:Nat->Int}{w W:World}(h:Ar p o w W)(hne:q≠p)(hq:w.heap.size<=q)(k:Nat)(v:Value):Ar p o w (W.setCell ⟨q,k,none⟩ v):=by
 refine⟨fun i hi=>?_,fun i hi=>by rw[aRE];exact h.free i hi,h.new,h.below.setCell hq _⟩;rw[aPE _ _ _ _ (by intro e;injection e with e1 e2;exact hne e1)];exact h.cell i hi
theorem Ar.fresh(o:Nat->Int)(w:World)(t:TypeId):Ar w.heap.size o w (w.alloc (.cells (WE o) t)):=by
 refine⟨fun i hi=>?_,fun i hi=>by simp,aCU _,ba (aAL _ _) _⟩;unfold WE;obtain rfl|rfl|rfl|rfl|rfl|rfl|rfl|rfl|rfl|rfl|rfl|rfl|rfl|rfl|rfl|rfl|rfl|rfl:i=0\/i=1\/i=2\/i=3\/i=4\/i=5\/i=6\/i=7\/i=8\/i=9\/i=10\/i=11\/i=12\/i=13\/i=14\/i=15\/i=16\/i=17:=by omega
 all_goals simp[go_sem]
end Bk
end
section
open Go.RowKit Go.Lib
namespace Bk
open Un (ba bt ri rb aU bF)
theorem byte_of{x:Int}(h0:0<=x)(h1:x<256):((UInt8.ofNat x.toNat).toNat:Int)=x:=by
 rw[aRX];omega
theorem QN(s:ByteArray)(o:Nat->Int)(w:World)(h4:s.size=4)(hd: ∀i,i<4->48<=o i/\o i<=57):
 Calls Tryz.prog 221 #[.string s,SY o] w fun r w'=>r=.returned (.int .i64 (cZ o))/\Below w.heap.size w w':=by
 have hA:=Ar.fresh o w 255;obtain⟨S,hS⟩: ∃S,S=strOfNums [o 0,o 1,o 2,o 3]:=⟨_,rfl⟩;have h5:S.size=4:=by rw[hS,strOfNums_size];rfl
 have hb: ∀i,i<4->aY S i=o i:=by
  intro i hi;have:=hd i hi;unfold aY;rw[hS,strOfNums_data];obtain rfl|rfl|rfl|rfl:i=0\/i=1\/i=2\/i=3:=by omega
  all_goals exact byte_of (by omega) (by omega)
 have HF:=GK (fun w=>zS S 0 o w h5 (fun i hi=>by rw[hb i hi,aB9 (by have:=hd i hi;omega)]) hd);have HS:=GK hS;clear hb h5 hS;unfold SY
 go_enter Tryz.func221,Tryz.ntmps221
 go_upto_region 1 with(fail)
 unfold WE at hA;generalize w.alloc (.cells #[.int .u8 (o 0),.int .u8 (o 1),.int .u8 (o 2),.int .u8 (o 3),.int .u8 (o 4),.int .u8 (o 5),.int .u8 (o 6),.int .u8 (o 7),.int .u8 (o 8),.int .u8 (o 9),.int .u8 (o 10),.int .u8 (o 11),.int .u8 (o 12),.int .u8 (o 13),.int .u8 (o 14),.int .u8 (o 15),.int .u8 (o 16),.int .u8 (o 17)] 255)=W0 at hA ⊢;have hcv:=run_convert_bytes_arg (P:=Tryz.prog) W0 207 5 Tryz.underlying207 Tryz.underlying5 w.heap.size 0 4 18 [o 0,o 1,o 2,o 3] rfl (by
  intro i hi;rw[aJU,hA.cell i (by omega)];obtain rfl|rfl|rfl|rfl:i=0\/i=1\/i=2\/i=3:=by omega
  all_goals rfl) 9 Tryz.underlying9
 rw[<-HS.out]at hcv;have hBl:=hA.below;clear hA hd
 go_wp2_with (go_at_call 218;with_reducible refine(HF.out _).mono ?_;rintro _ w' ⟨rfl,hb⟩)
 go_ret
 exact⟨rfl,bt hBl hb⟩
theorem Ar.congr{p:Nat}{o o':Nat->Int}{w W:World}(h:Ar p o w W)(e: ∀i,i<18->o i=o' i):Ar p o' w W:=
 ⟨fun i hi=>by rw[<-e i hi];exact h.cell i hi,h.free,h.new,h.below⟩
theorem TY {w:World} {a:Addr} {v:Value} (h:w.cell? a=some v):w.setCell a v=w:=by
 have e : (w.setCell a v).heap=w.heap:=by
  unfold World.setCell;apply Array.ext
  . simp
  intro i h1 h2;simp only[Array.getElem_modify]
  split
  . rename_i hi
    subst hi;unfold World.cell? at h;rw[aLd h2]at h
    cases hb:w.heap[a.block]with
    |cells c e f=>
     rw[hb]at h;simp only at h;show Obj.cells (if a.spot.isSome=true then c else c.setIfInBounds a.off v) e f=Obj.cells c e f
     by_cases hs:a.spot.isSome=true
     . rw[aFV hs]
     rw [aB9 hs]at h ⊢
     congr 1
     apply Array.ext
     . simp
     intro j g1 g2;rw[Array.getElem_setIfInBounds]
     split
     . rename_i hj
       subst hj;rw[aLd g2]at h;injection h with h;exact h.symm
     rfl
    |_=>rfl
  rfl
 show({ w with heap:=(w.setCell a v).heap }:World)=w;rw[e]
theorem jA{fn:Func}{p:Tmp}{ty:TypeId}(h:fn.results= #[.cell p ty])(tmps:Array Value){P:Program}{w:World}{a:Addr}{v:Value}
 (hp:tmps.getD p undef=.pointer (some a)) (hl:(loadVar ty a).run P w=.ok v w):(results fn tmps).run P w=.ok v w:=by
 have hp':tmps[p]?.getD undef=.pointer (some a):=by simpa using hp
 simp[results,h,hp',asAddr,hl]
def gJ(o:Nat->Int):List Value:=(List.range 18).map fun i=>.int .u8 (o i)
theorem BJ(o:Nat->Int):(Value.agg (gJ o).toArray)=SY o:=rfl
theorem fF:(Tryz.prog.info? 255).map (·.size)=some 18:=by kernel_rfl
theorem aFN(o:Nat->Int)(j:Nat)(v:Value)(h:(gJ o)[j]? =some v):j<18/\v=.int .u8 (o j):=by
 unfold gJ at h;rw[aG0,aJ4]at h;obtain⟨a,ha,rfl⟩:=h;obtain⟨hj,rfl⟩:=aIY.1 ha;simp at hj ⊢;exact hj
theorem Ar.range{p:Nat}{o:Nat->Int}{w W:World}(h:Ar p o w W):W.rangeAt p 0 (gJ o):=by
 intro j v hv;obtain⟨hj,rfl⟩:=aFN o j v hv;rw[aJU];exact h.cell j hj
theorem Ar.aS5{p:Nat}{o:Nat->Int}{w W:World}(h:Ar p o w W):(loadVar 255 ⟨p,0,none⟩).run Tryz.prog W=.ok (SY o) W:=
 aQl W p 0 _ (gJ o) _ h.range Tryz.underlying255 rfl fF
theorem yP{p:Nat}{W:World}: ∀(vs:List Value) (k:Nat),W.rangeAt p k vs->W.setCells p k vs=W
 |[],_,_=>rfl
 |v::r,k,h=>by
  unfold World.setCells;rw[TY (show W.cell? ⟨p,k,none⟩=some v from h 0 v rfl)];exact yP r (k+1) (fun j u hj=>by rw[show k+1+j=k+(j+1) by omega];exact h (j+1) u hj)
theorem Ar.there{p:Nat}{o:Nat->Int}{w W:World}(h:Ar p o w W):W.there p 0 (gJ o).toArray.size:=fun j hj=>by
 have hj:j<18:=hj;rw[aJU,h.cell j hj];exact⟨rfl,h.free j hj⟩
theorem YT(o:Nat->Int):(gJ o).toArray.all (·.oneCell')=true:=all_oneCell_toArray (fun v hv=>by
 unfold gJ at hv;rw[aRP]at hv;obtain⟨i,_,rfl⟩:=hv
 rfl)
theorem Ar.self{p:Nat}{o:Nat->Int}{w W:World}(h:Ar p o w W):W.setCells p 0 (gJ o).toArray.toList=W:=yP (gJ o) 0 h.range
def nd(n:Int)(j:Nat):Int:=if j=0 then n else if j=1 then n / 10 else if j=2 then n / 100 else if j=3 then n / 1000 else n / 10000
def Sp(n:Int)(j i:Nat):Int:=if 4<=i+j/\i<4 then 48+dg n i else 0
theorem aNG(n:Int)(i:Nat):Sp n 4 i=Dn n i:=by
 unfold Sp Dn
 by_cases h:i<4
 . rw[aFV ⟨by omega,h⟩,aFV h]
 rw[aB9 (by omega),aB9 h]
theorem LQ(n:Int)(h0:0<=n)(h1:n<=9999)(j:Nat)(hj:j<4):0<=nd n j/\nd n j<=9999/\nd n (j+1)=nd n j / 10/\dg n (3 - j)=nd n j % 10:=by
 unfold nd dg;obtain rfl|rfl|rfl|rfl:j=0\/j=1\/j=2\/j=3:=by omega
 all_goals simp
 all_goals omega
theorem Ar.zero(w:World)(t:TypeId):Ar w.heap.size (fun _=>0) w (w.alloc (.cells #[.int .u8 0,.int .u8 0,.int .u8 0,.int .u8 0,.int .u8 0,.int .u8 0,.int .u8 0,.int .u8 0,.int .u8 0,.int .u8 0,.int .u8 0,.int .u8 0,.int .u8 0,.int .u8 0,.int .u8 0,.int .u8 0,.int .u8 0,.int .u8 0] t)):=Ar.fresh (fun _=>0) w t
theorem QO(s:ByteArray)(n:Int)(w:World)(h4:s.size=4)(h0:0<=n)(h1:n<=9999):
 Calls Tryz.prog 220 #[.string s,.int .i64 n] w fun r w'=>r=.returned (SY (Dn n))/\Below w.heap.size w w':=by
 have hA:=Ar.zero w 255;have HN:=GK (fun j hj=>LQ n h0 h1 j hj);have hSn: ∀j,j<4-> ∀i,i<18->(if i=3 - j then 48+dg n (3 - j)else Sp n j i)=Sp n (j+1) i:=by
  intro j hj i hi;unfold Sp
  by_cases c:i=3 - j
  . subst c;rw[aFV rfl,aFV (by omega)]
  rw[aB9 c]
  by_cases d:4<=i+j/\i<4
  . rw[aFV d,aFV (by omega)]
  rw[aB9 d,aB9 (by omega)]
 have HS:=GK hSn;clear hSn;obtain⟨o,ho⟩: ∃o,o=Dn n:=⟨_,rfl⟩;rw[<-ho];have HO:=GK (fun i=>(by rw[ho];exact aNG n i:Sp n 4 i=o i));clear ho
 go_enter Tryz.func220,Tryz.ntmps220
 go_upto_block 0 with(fail)
 generalize w.alloc (.cells #[.int .u8 0,.int .u8 0,.int .u8 0,.int .u8 0,.int .u8 0,.int .u8 0,.int .u8 0,.int .u8 0,.int .u8 0,.int .u8 0,.int .u8 0,.int .u8 0,.int .u8 0,.int .u8 0,.int .u8 0,.int .u8 0,.int .u8 0,.int .u8 0] 255)=W0 at hA ⊢;replace hA:=GK (hA.congr (o':=Sp n 0) (fun i hi=>by unfold Sp;rw[aB9 (by omega)]));clear h4
 go_wp2
 go_loopw [1,5] (fun t i wx=> ∃k:Nat,k<=4/\i=.int .i64 ((k:Int) - 1)/\t=.int .i64 (nd n (4 - k))/\Ar w.heap.size (Sp n (4 - k)) w wx) (fun _ i _=>((intOf i)+1).toNat)
 case atStart=>exact⟨4,aCU _,rfl,rfl,hA.out⟩
 case round=>
  obtain⟨k,hk,hi,rfl,hA⟩:=hrel
  by_cases hlt:0<k
  . obtain⟨m,rfl⟩: ∃m,k=m+1:=⟨k - 1,by omega⟩;rw[show (((m+1:Nat):Int)) - 1=(m:Int) by omega]at hi;subst hi;have hj:4 - (m+1)<4:=by omega
    obtain⟨d0,d1,d2,d3⟩:=HN.out _ hj;have hs:=HS.out _ hj;rw[show 4 - (m+1)+1=4 - m by omega]at d2 hs;rw[show 3 - (4 - (m+1))=m by omega]at d3 hs;have hc:=hA.cell m (by omega);have hf:=hA.free m (by omega);have hm:m<18:=by omega
    have hm4:(m:Int)<4:=by omega
    generalize nd n (4 - (m+1))=q at *;have hX:=GK ((hA.set m hm (48+q % 10)).congr (o':=Sp n (4 - m)) (fun i hi=>by rw[<-d3];exact hs i hi));have D2:=GK d2;have e0:0<=q % 10:=by omega
    have e1:q % 10<=9:=by omega
    clear hA hs d2 d3
    go_wp2
    go_roundw
    case rel=>exact⟨m,by omega,rfl,by rw[D2.out],hX.out⟩
    case measure=>simp[intOf]
  as_aux_lemma=>
   obtain rfl:k=0:=by omega
   subst hi;have hA2:=hA.congr (o':=o) (fun i _=>HO.out i);clear hA;have hR:=hA2.range;have hT:=hA2.there;have hS:=GK hA2.self;have hlv:=GK hA2.aS5;have HB:=GK hA2.below;clear hA2
   go_wp2_with (first
    |(refine aG6 rfl 255 (.tmp 4) rfl w.heap.size 0 rfl (gJ o) _ hR Tryz.underlying255 rfl fF ?_)
    |(refine aRo rfl 255 (.tmp 4) (.tmp 21) rfl w.heap.size 0 (gJ o).toArray rfl rfl hT fF (YT o) ?_;rw[hS.out]))
   exact aG2 (v:=SY o) (jA Tryz.results220 _ rfl hlv.out) rfl ⟨rfl,HB.out⟩
end Bk
end
section
open Go.RowKit Go.Lib
namespace Bk
open Un (ba bt ri rb aU bF)
theorem Ar.fresh0{w W:World}(hb:Below w.heap.size w W)(t:TypeId):Ar W.heap.size (fun _=>0) w (W.alloc (.cells #[.int .u8 0,.int .u8 0,.int .u8 0,.int .u8 0,.int .u8 0,.int .u8 0,.int .u8 0,.int .u8 0,.int .u8 0,.int .u8 0,.int .u8 0,.int .u8 0,.int .u8 0,.int .u8 0,.int .u8 0,.int .u8 0,.int .u8 0,.int .u8 0] t)):=by
 have h:=Ar.zero W t;exact⟨h.cell,h.free,hb.size,ba hb _⟩
theorem Ar.eU{p:Nat}{o:Nat->Int}{w W:World}(h:Ar p o w W)(o':Nat->Int):Ar p o' w (W.setCells p 0 (gJ o').toArray.toList):=by
 have key: ∀(vs:List Value) (k:Nat) (W:World),(∀i,k<=i->i<k+vs.length->(W.cell? ⟨p,i,none⟩).isSome=true)->(∀j v,vs[j]? =some v->(W.setCells p k vs).cell? ⟨p,k+j,none⟩=some v):=by
  intro vs
  induction vs with
  |nil=>intro k W _ j v hv;simp at hv
  | cons u r ih=>
   intro k W hs j v hv;unfold World.setCells
   cases j with
   |zero=>
    simp at hv;subst hv;rw[aRM p r (k+1) _ ⟨p,k+0,none⟩ (fun _ _=>.inl (by show k+0<k+1;omega))];obtain⟨x,hx⟩:=aUS.1 (hs k (aCU _) (by simp));exact aUg _ _ _ hx
   |succ j=>
    rw[show k+(j+1)=k+1+j by omega];refine ih (k+1) _ (fun i h1 h2=>?_) j v (by simpa using hv);rw[aPE _ _ _ _ (by intro e;injection e with _ e2;omega)];exact hs i (by omega) (by simp;omega)
 have fz: ∀(vs:List Value) (k:Nat) (W:World) (i:Nat),(W.setCells p k vs).frozen? ⟨p,i,none⟩=W.frozen? ⟨p,i,none⟩:=by
  intro vs
  induction vs with
  |nil=>intro k W i;rfl
  |cons u r ih=>intro k W i;unfold World.setCells;rw[ih,aRE]
 have bl: ∀(vs:List Value) (k:Nat) (W:World),Below w.heap.size w W->Below w.heap.size w (W.setCells p k vs):=by
  intro vs
  induction vs with
  |nil=>intro k W hb;exact hb
  |cons u r ih=>intro k W hb;unfold World.setCells;exact ih _ _ (hb.setCell h.new _)
 have hl:(gJ o').toArray.toList=gJ o':=rfl;rw[hl];refine⟨fun i hi=>?_,fun i hi=>by rw[fz];exact h.free i hi,h.new,bl _ _ _ h.below⟩;have:=key (gJ o') 0 W (fun j _ hj=>by
  have hj:j<18:=by have:(gJ o').length=18:=rfl;omega
  rw[h.cell j hj];rfl) i (.int .u8 (o' i)) (by
   unfold gJ;rw[aG0,aRw hi];rfl)
 rw[aJU]at this;exact this
theorem Ar.others{p q:Nat}{o:Nat->Int}{w W:World}(h:Ar p o w W)(hne:q≠p)(hq:w.heap.size<=q): ∀(vs:List Value) (k:Nat),Ar p o w (W.setCells q k vs):=by
 intro vs
 induction vs generalizing W with
 |nil=>intro k;exact h
 |cons u r ih=>intro k;unfold World.setCells;exact ih (h.other hne hq k u) (k+1)
theorem Ar.alloc{p:Nat}{o:Nat->Int}{w W:World}(h:Ar p o w W)(ob:Obj):Ar p o w (W.alloc ob):=h.later (ba (aAL _ _) _)
def aD4(P:Int->Int->Prop)(w:World)(e:Ending)(w':World):Prop:= ∃v x,P v x/\e=.returned (.tuple #[.int .i64 v,.int .i64 x])/\Below w.heap.size w w'
def aD6(b:Nat->Int)(n:Int)(j:Nat)(o:Nat->Int):Prop:= ∀o':Nat->Int,(∀i,i<j->o' i=o i)->(∀i,j<=i->i<4->o' i=if b i=88 then 48 else b i)->
 (oO b (cZ o')/\n<=cZ o'/\ ∀f,oO b f->n<=f->cZ o'<=f)/\(∀i,i<4->48<=o' i/\o' i<=57)
def aD7(b:Nat->Int)(n:Int)(j:Nat)(o:Nat->Int):Prop:= ∀o':Nat->Int,(∀i,i<j->o' i=o i)->(∀i,j<=i->i<4->o' i=if b i=88 then 57 else b i)->
 (oO b (cZ o')/\cZ o'<=n/\ ∀f,oO b f->f<=n->f<=cZ o')/\(∀i,i<4->48<=o' i/\o' i<=57)
theorem F5{n:Int}(h0:0<=n)(h1:n<=9999)(i:Nat):0<=dg n i/\dg n i<=9:=by unfold dg;(repeat' split)<;>omega
theorem I9{b:Nat->Int}(hb:MOk b){x y:Int}{i:Nat}(hi:i<4)(hx:48<=x/\x<=57)(h:y=if b i=88 then x else b i):48<=y/\y<=57:=by
 have:=hb i hi;rw[h];split<;>omega
theorem aCc{b:Nat->Int}{n:Int}{k:Nat}(hb:MOk b)(h0:0<=n)(h1:n<=9999)(hk:k<4)(hf: ∀i,i<k->cO b n i)(hx:b k≠88)(hg:48+dg n k<b k):aD6 b n k (Dn n):=by
 intro o ho hr;have ho': ∀i,i<k->o i=48+dg n i:=fun i hi=>by rw[ho i hi];unfold Dn;rw[aFV (by omega)]
 refine⟨aLH hb h0 h1 hk hf hx hg ho' hr,fun i hi=>?_⟩
 by_cases c:i<k
 . rw[ho' i c];have:=F5 h0 h1 i;omega
 exact I9 hb hi (by omega) (hr i (by omega) hi)
theorem aCe{b:Nat->Int}{n:Int}{k:Nat}(hb:MOk b)(h0:0<=n)(h1:n<=9999)(hk:k<4)(hf: ∀i,i<k->cO b n i)(hx:b k≠88)(hg:b k<48+dg n k):aD7 b n k (Dn n):=by
 intro o ho hr;have ho': ∀i,i<k->o i=48+dg n i:=fun i hi=>by rw[ho i hi];unfold Dn;rw[aFV (by omega)]
 refine⟨aM9 hb h0 h1 hk hf hx hg ho' hr,fun i hi=>?_⟩
 by_cases c:i<k
 . rw[ho' i c];have:=F5 h0 h1 i;omega
 exact I9 hb hi (by omega) (hr i (by omega) hi)
theorem aCd{b:Nat->Int}{n:Int}{k j:Nat}(hb:MOk b)(h0:0<=n)(h1:n<=9999)(hk:k<4)(hf: ∀i,i<k->cO b n i)(hx:b k≠88)(hg:b k<48+dg n k)
 (hj:j<k) (hbx:b j=88) (hd:dg n j≠9) (hn: ∀i,j<i->i<k-> ¬(b i=88/\dg n i≠9)):aD6 b n (j+1) (fun i=>if i=j then 48+dg n j+1 else Dn n i):=by
 intro o ho hr;have ho': ∀i,i<j->o i=48+dg n i:=fun i hi=>by rw[ho i (by omega)];dsimp only;rw[aB9 (by omega)];unfold Dn;rw[aFV (by omega)]
 have hoj:o j=48+dg n j+1:=by rw[ho j (by omega)];dsimp only;rw[aFV rfl]
 have hr': ∀i,j<i->i<4->o i=if b i=88 then 48 else b i:=fun i h1 h2=>hr i (by omega) h2
 refine⟨aLI hb h0 h1 hk hf hx hg hj hbx hd hn ho' hoj hr',fun i hi=>?_⟩
 by_cases c:i<j
 . rw[ho' i c];have:=F5 h0 h1 i;omega
 by_cases e:i=j
 . subst e;rw[hoj];have:=F5 h0 h1 i;omega
 exact I9 hb hi (by omega) (hr i (by omega) hi)
theorem aCf{b:Nat->Int}{n:Int}{k j:Nat}(hb:MOk b)(h0:0<=n)(h1:n<=9999)(hk:k<4)(hf: ∀i,i<k->cO b n i)(hx:b k≠88)(hg:48+dg n k<b k)
 (hj:j<k) (hbx:b j=88) (hd:dg n j≠0) (hn: ∀i,j<i->i<k-> ¬(b i=88/\dg n i≠0)):aD7 b n (j+1) (fun i=>if i=j then 48+dg n j - 1 else Dn n i):=by
 intro o ho hr;have ho': ∀i,i<j->o i=48+dg n i:=fun i hi=>by rw[ho i (by omega)];dsimp only;rw[aB9 (by omega)];unfold Dn;rw[aFV (by omega)]
 have hoj:o j=48+dg n j - 1:=by rw[ho j (by omega)];dsimp only;rw[aFV rfl]
 have hr': ∀i,j<i->i<4->o i=if b i=88 then 57 else b i:=fun i h1 h2=>hr i (by omega) h2
 refine⟨aNa hb h0 h1 hk hf hx hg hj hbx hd hn ho' hoj hr',fun i hi=>?_⟩
 by_cases c:i<j
 . rw[ho' i c];have:=F5 h0 h1 i;omega
 by_cases e:i=j
 . subst e;rw[hoj];have:=F5 h0 h1 i;omega
 exact I9 hb hi (by omega) (hr i (by omega) hi)
theorem WI (s : ByteArray) (n:Int) (w:World) (h4:s.size=4) (hx:allB bU s=true) (h0:0<=n) (h1:n<=9999):
 Calls Tryz.prog 199 #[.string s,.int .i64 n,.bool true] w (aD4 (nZ (aY s) n) w):=by
 have hb:=zM h4 hx;have HS:Hid (∀w,Calls Tryz.prog 220 #[.string s,.int .i64 n] w fun r w'=>r=.returned (.agg (gJ (Dn n)).toArray)/\Below w.heap.size w w'):=GK (fun w=>by rw[BJ];exact QO s n w h4 h0 h1);have HV:Hid (∀(o:Nat->Int) (w:World),(∀i,i<4->48<=o i/\o i<=57)->Calls Tryz.prog 221 #[.string s,.agg (gJ o).toArray] w fun r w'=>r=.returned (.int .i64 (cZ o))/\Below w.heap.size w w'):=GK (fun o w hd=>by rw[BJ];exact QN s o w h4 hd);have H4:=GK h4;have HM:=GK hb;have HH:=GK (⟨h0,h1⟩:0<=n/\n<=9999);clear h4 hx hb
 go_enter Tryz.func199,Tryz.ntmps199
 go_upto_region 4 with(fail)
 go_cut [10] (fun s10 wx=> ∃pa,s10=.pointer (some ⟨pa,0,none⟩)/\Ar pa (Dn n) w wx)
 case first=>
  clear HV
  go_wp2_with (first
   |(go_at_call 220;with_reducible refine(HS.out _).mono ?_;rintro _ w1 ⟨rfl,hb1⟩;have z1:=Ar.fresh0 hb1 255)
   |(refine aRo rfl 255 (.tmp 10) (.tmp 19) rfl w1.heap.size 0 (gJ (Dn n)).toArray rfl rfl z1.there fF (YT (Dn n)) ?_))
  go_meet
  exact⟨_,rfl,z1.eU _⟩
 case rest =>
  obtain⟨pa,rfl,hA⟩:=hcut;clear HS
  go_upto_region 5 with(fail)
  go_cut [11] (fun s11 wx=> ∃pb,s11=.pointer (some ⟨pb,0,none⟩)/\pb≠pa/\Ar pa (Dn n) w wx/\Ar pb (Dn n) w wx)
  case first=>
   clear HV;have hR:=hA.range;have z1:=Ar.fresh0 hA.below 255;have hne:wc.heap.size≠pa:=by have:=aOK _ _ (hA.cell 0 (by omega));show wc.heap.size≠pa;have h2:pa<wc.heap.size:=this;omega
   have hA2:=GK ((hA.alloc (.cells #[.int .u8 0,.int .u8 0,.int .u8 0,.int .u8 0,.int .u8 0,.int .u8 0,.int .u8 0,.int .u8 0,.int .u8 0,.int .u8 0,.int .u8 0,.int .u8 0,.int .u8 0,.int .u8 0,.int .u8 0,.int .u8 0,.int .u8 0,.int .u8 0] 255)).others hne hA.below.size (gJ (Dn n)).toArray.toList 0);clear hA
   go_wp2_with (first
    |(refine aG6 rfl 255 (.tmp 10) rfl pa 0 rfl (gJ (Dn n)) _ hR Tryz.underlying255 rfl fF ?_)
    |(refine aRo rfl 255 (.tmp 11) (.tmp 20) rfl wc.heap.size 0 (gJ (Dn n)).toArray rfl rfl z1.there fF (YT (Dn n)) ?_))
   go_meet
   exact⟨_,rfl,hne,hA2.out,z1.eU _⟩
  case rest =>
   obtain⟨pb,rfl,hne,hA,hB⟩:=hcut;have HNE:=GK hne;clear hne
   go_upto_block 0 with(fail)
   go_wp2
   go_loopw [12] (fun i wx=> ∃k:Nat,k<=4/\i=.int .i64 k/\(∀i,i<k->cO (aY s) n i)/\Ar pa (Dn n) w wx/\Ar pb (Dn n) w wx) (fun i _=>4 - (intOf i).toNat)
   case atStart=>exact⟨0,aKS _,rfl,fun i hi=>by omega,hA,hB⟩
   case round =>
    obtain⟨k,hk,rfl,hf,hA2,hB2⟩:=hrel;clear hA hB;have HF:=GK hf;clear hf
    by_cases hlt:k<4
    . have hks : k < s.size:=by have:=H4.out;omega
      have aWq:(k:Int)<s.size:=by omega
      have hc:=hA2.cell k (by omega);have hd:Dn n k=48+dg n k:=by unfold Dn;rw[aFV hlt]
      have hbk:=bQ s k hks;rw[hd]at hc;have HC:=GK hbk;have aWs:(k:Int)<18:=by omega
      replace hA2:=GK hA2;replace hB2:=GK hB2;clear hd hbk;obtain⟨d,hdd⟩: ∃d,d=dg n k:=⟨_,rfl⟩;rw[<-hdd]at hc;replace hdd:=GK hdd
      by_cases c1:((s[k]'hks).toNat:Int)=88
      . as_aux_lemma=>
         have t1:(((s[k]'hks).toNat:Int)==88)=true:=by rw[c1];rfl
         have HFn: ∀i,i<k+1->cO (aY s) n i:=by
          intro i hi
          by_cases e:i=k
          . subst e;exact .inl (by rw[HC.out,c1])
          exact HF.out i (by omega)
         replace HFn:=GK HFn;clear c1
         go_wp2
         go_quiet (fail)
         go_wp2
         go_roundw
         case rel=>exact⟨k+1,by omega,by go_num,HFn.out,hA2.out.later (below_drewN (aAL _ _) _),hB2.out.later (below_drewN (aAL _ _) _)⟩
         case measure=>simp[intOf];omega
      have t1 : (((s[k]'hks).toNat:Int)==88)=false:=by rw[aAO];exact c1
      by_cases c2:((s[k]'hks).toNat:Int)=48+d
      . as_aux_lemma=>
         have t2:(((s[k]'hks).toNat:Int)==48+d)=true:=by rw[c2];exact aV8 _
         have HFn: ∀i,i<k+1->cO (aY s) n i:=by
          intro i hi
          by_cases e:i=k
          . subst e;exact .inr (by rw[HC.out,c2,hdd.out])
          exact HF.out i (by omega)
         replace HFn:=GK HFn;clear c1 c2
         go_wp2
         go_quiet (fail)
         go_wp2
         go_roundw
         case rel=>exact⟨k+1,by omega,by go_num,HFn.out,hA2.out.later (below_drewN (aAL _ _) _),hB2.out.later (below_drewN (aAL _ _) _)⟩
         case measure=>simp[intOf];omega
      as_aux_lemma =>
       have t2:(((s[k]'hks).toNat:Int)==48+d)=false:=by rw[aAO];exact c2
       have t3:((k:Int)==(s.size:Int))=false:=by rw[aAO];omega
       have C1:=GK c1;clear c1
       go_wp2
       go_quiet (fail)
       rename_i nq
       replace hA2:=GK (hA2.out.later (below_drewN (aAL wr.heap.size wr) nq));replace hB2:=GK (hB2.out.later (below_drewN (aAL wr.heap.size wr) nq));have hc2:(wr.drewN nq).cell? ⟨pa,k,none⟩=some (.int .u8 (48+d)):=hc;clear hc;generalize wr.drewN nq=W2 at *
       go_wp2
       obtain⟨BK,VN⟩: ∃b:Bool,b=decide (((s[k]'hks).toNat:Int)<48+d):=⟨_,rfl⟩
       go_upto_region 11 with(fail)
       go_cut [55] (fun s55 wx=>s55=.bool BK/\ ∃nq,wx=W2.drewN nq)
       case first=>
        as_aux_lemma=>
         by_cases hh:48+d<((s[k]'hks).toNat:Int)
         . obtain rfl:BK=false:=by rw[VN];exact aCw (by omega)
           clear VN;have hcmp:decide (48+d<((s[k]'hks).toNat:Int))=true:=by first|exact aAP (by omega)|exact aCw (by omega)
           go_quiet (fail)
           go_wp2
           go_meet
           exact⟨rfl,_,rfl⟩
         have hh2:((s[k]'hks).toNat:Int)<48+d:=by omega
         obtain rfl:BK=true:=by rw[VN];exact aAP hh2
         have hcmp:decide (48+d<((s[k]'hks).toNat:Int))=false:=by first|exact aAP (by omega)|exact aCw (by omega)
         clear VN hh
         go_quiet (fail)
         go_wp2
         go_meet
         exact⟨rfl,_,rfl⟩
       case rest =>
        obtain⟨rfl,nq2,rfl⟩:=hcut;replace hA2:=GK (hA2.out.later (below_drewN (aAL W2.heap.size W2) nq2));replace hB2:=GK (hB2.out.later (below_drewN (aAL W2.heap.size W2) nq2));clear hc2 t1 t2 t3;generalize W2.drewN nq2=W3 at *
        go_upto_if 55 with(fail)
        go_cut [12] (fun s12 wx=> ∃(j:Nat) (o:Nat->Int),j<=4/\s12=.int .i64 j/\Ar pb o w wx/\aD6 (aY s) n j o)
        case first =>
         as_aux_lemma=>
          clear HV
          cases BK
          . have hh:48+d<((s[k]'hks).toNat:Int):=by have:=aPA VN.symm;omega
            have HG:=aCc HM.out HH.out.1 HH.out.2 hlt HF.out (by rw[HC.out];exact C1.out) (by rw[HC.out,<-hdd.out];exact hh);replace HG:=GK HG;clear VN hh
            go_wp2
            go_meet
            exact⟨k,Dn n,by omega,rfl,hB2.out,HG.out⟩
          have hh :((s[k]'hks).toNat:Int)<48+d:=aK1 VN.symm;have hg2:=GK (show aY s k<48+dg n k by rw[HC.out,<-hdd.out];exact hh);clear VN hh hdd
          go_wp2
          go_step3
          go_wp2
          go_step3
          go_wp2
          go_loopw [12] (fun i wx=> ∃m:Nat,m<=k/\i=.int .i64 m/\(∀i,m<=i->i<k-> ¬(aY s i=88/\dg n i≠9))/\Ar pa (Dn n) w wx/\Ar pb (Dn n) w wx) (fun i _=>(intOf i).toNat)
          case atStart=>exact⟨k,aCU _,rfl,fun i h1 h2=>by omega,hA2.out,hB2.out⟩
          case round=>
           obtain⟨m,hm,hi,hno,hA3,hB3⟩:=hrel;clear hA2 hB2;have HNO:=GK hno;clear hno
           by_cases hm0:0<m
           . obtain⟨q,rfl⟩: ∃q,m=q+1:=⟨m - 1,by omega⟩;rw[show (((q+1:Nat)):Int)=(q:Int)+1 by omega]at hi;subst hi;have hq4:q<4:=by omega
             have hqs:q<s.size:=by omega
             have aWh:(q:Int)<s.size:=by omega
             have aWk:(q:Int)<18:=by omega
             have hca:=hA3.cell q (by omega);have hcb:=hB3.cell q (by omega);have hfb:=hB3.free q (by omega);have hDq:Dn n q=48+dg n q:=by unfold Dn;rw[aFV hq4]
             rw[hDq]at hca hcb;have hbq:=GK (bQ s q hqs);have hqb:=F5 HH.out.1 HH.out.2 q;obtain⟨e,he⟩: ∃e,e=dg n q:=⟨_,rfl⟩;rw[<-he]at hca hcb hqb;replace he:=GK he;obtain⟨b0,b1⟩:=hqb;clear hDq;have hX:=GK (hB3.set q (by omega) (48+e+1))
             by_cases g1:((s[q]'hqs).toNat:Int)=88
             . by_cases g2:e=9
               . as_aux_lemma=>
                  have u1:(((s[q]'hqs).toNat:Int)==88)=true:=by rw[g1];rfl
                  have u2:(48+e !=57)=false:=by rw[g2];rfl
                  have hN: ∀i,q<=i->i<k-> ¬(aY s i=88/\dg n i≠9):=by
                   intro i h1 h2
                   by_cases c:i=q
                   . subst c;rintro⟨_,h⟩;exact h (by rw[<-he.out];exact g2)
                   exact HNO.out i (by omega) h2
                  replace hN:=GK hN;replace hA3:=GK hA3;replace hB3:=GK hB3;clear g1 g2
                  go_wp2
                  go_roundw
                  case rel=>exact⟨q,by omega,rfl,hN.out,hA3.out,hB3.out⟩
                  case measure=>simp[intOf]
               as_aux_lemma=>
                have u1:(((s[q]'hqs).toNat:Int)==88)=true:=by rw[g1];rfl
                have u2:(48+e !=57)=true:=by rw[aLa];omega
                have hGd:aD6 (aY s) n (q+1) (fun i=>if i=q then 48+dg n q+1 else Dn n i):=aCd HM.out HH.out.1 HH.out.2 hlt HF.out (by rw[HC.out];exact C1.out) hg2.out (by omega) (by rw[hbq.out];exact g1) (by rw[<-he.out];exact g2) (fun i h1 h2=>HNO.out i (by omega) h2);rw[<-he.out]at hGd;replace hGd:=GK hGd;have ee:e<=8:=by omega
                replace hA3:=GK hA3;replace hB3:=GK hB3;clear g1 g2
                go_wp2
                rw[aUM]
                go_wp2
                go_meet
                exact⟨q+1,_,by omega,by go_num,hX.out,hGd.out⟩
             as_aux_lemma=>
              have u1:(((s[q]'hqs).toNat:Int)==88)=false:=by rw[aAO];exact g1
              have hN: ∀i,q<=i->i<k-> ¬(aY s i=88/\dg n i≠9):=by
               intro i h1 h2
               by_cases c:i=q
               . subst c;rintro⟨h,_⟩;exact g1 (by rw[<-hbq.out];exact h)
               exact HNO.out i (by omega) h2
              replace hN:=GK hN;replace hA3:=GK hA3;replace hB3:=GK hB3;clear g1
              go_wp2
              go_roundw
              case rel=>exact⟨q,by omega,rfl,hN.out,hA3.out,hB3.out⟩
              case measure=>simp[intOf]
           as_aux_lemma=>
            obtain rfl:m=0:=by omega
            subst hi;have hN:nZ (aY s) n 0 16:=.inr ⟨rfl,rfl,aLG HH.out.1 HH.out.2 hlt HF.out (by rw[HC.out];exact C1.out) hg2.out (fun i hi=>HNO.out i (by omega) hi)⟩;replace hN:=GK hN;have HB:=GK hA3.below;clear hA3 hB3
            go_wp2
            rw[aRN]
            go_wp2
            go_ret2
            exact⟨_,_,hN.out,rfl,HB.out⟩
        case rest=>
         as_aux_lemma=>
          obtain⟨j,o,hj,rfl,hO,hG⟩:=hcut;clear hA2 hB2 VN;have HG:=GK hG;clear hG
          go_wp2
          go_loopw [12] (fun i wx=> ∃(m:Nat) (o2:Nat->Int),m<=4/\j<=m/\i=.int .i64 m/\Ar pb o2 w wx/\(∀i,i<j->o2 i=o i)/\(∀i,j<=i->i<m->o2 i=if aY s i=88 then 48 else aY s i)) (fun i _=>4 - (intOf i).toNat)
          case atStart=>exact⟨j,o,hj,aCU _,rfl,hO,fun i _=>rfl,fun i h1 h2=>by omega⟩
          case round=>
           obtain⟨m,o2,hm,hjm,rfl,hO2,hlo,hfi⟩:=hrel;clear hO;have TK:=GK hlo;have HFI:=GK hfi;clear hlo hfi
           by_cases hm4:m<4
           . as_aux_lemma=>
              have hms:m<s.size:=by have:=H4.out;omega
              have aQs:(m:Int)<s.size:=by omega
              have hm18:(m:Int)<18:=by omega
              have hbm:=bQ s m hms;have hcm:=hO2.cell m (by omega);have hfm:=hO2.free m (by omega);have hX1:=hO2.set m (by omega) ((s[m]'hms).toNat:Int);have hc1:=hX1.cell m (by omega);have hf1:=hX1.free m (by omega)
              by_cases g1:((s[m]'hms).toNat:Int)=88
              . have u1:(((s[m]'hms).toNat:Int)==88)=true:=by rw[g1];rfl
                have hX2:=(hX1.set m (by omega) 48).congr (o':=fun i=>if i=m then(if aY s m=88 then 48 else aY s m)else o2 i) (fun i _=>by
                 (try dsimp only)
                 by_cases c:i=m
                 . rw[aFV c,aFV c,aFV (by rw[hbm];exact g1)]
                 rw[aB9 c,aB9 c,aB9 c])
                replace hX2:=GK hX2;replace hO2:=GK hO2;clear hX1 hc1 hbm g1
                go_wp2
                go_roundw
                case rel=>exact⟨m+1,_,by omega,by omega,by go_num,hX2.out,fun i hi=>by(try dsimp only);rw[aB9 (by omega)];exact TK.out i hi,fun i h1 h2=>by
                 (try dsimp only)
                 by_cases c:i=m
                 . subst c;rw[aFV rfl]
                 rw[aB9 c];exact HFI.out i h1 (by omega)⟩
                case measure=>simp[intOf];omega
              have u1:(((s[m]'hms).toNat:Int)==88)=false:=by rw[aAO];exact g1
              have hX2:=hX1.congr (o':=fun i=>if i=m then(if aY s m=88 then 48 else aY s m)else o2 i) (fun i _=>by
               (try dsimp only)
               by_cases c:i=m
               . rw[aFV c,aFV c,aB9 (by rw[hbm];exact g1),hbm]
               rw[aB9 c,aB9 c])
              replace hX2:=GK hX2;replace hO2:=GK hO2;clear hX1 hc1 hf1 hbm g1
              go_wp2
              go_roundw
              case rel=>exact⟨m+1,_,by omega,by omega,by go_num,hX2.out,fun i hi=>by(try dsimp only);rw[aB9 (by omega)];exact TK.out i hi,fun i h1 h2=>by
               (try dsimp only)
               by_cases c:i=m
               . subst c;rw[aFV rfl]
               rw[aB9 c];exact HFI.out i h1 (by omega)⟩
              case measure=>simp[intOf];omega
           as_aux_lemma=>
            obtain rfl:m=4:=by omega
            obtain⟨hv,hb⟩:=HG.out o2 TK.out HFI.out;have hV:=GK (fun w=>HV.out o2 w hb);have hN:nZ (aY s) n (cZ o2) 0:=.inl ⟨rfl,hv⟩;replace hN:=GK hN;have aQs:((4:Nat):Int)<s.size->False:=by have:=H4.out;omega
            have hR:=hO2.range;have HB:=GK hO2.below;have h4b:=H4.out;clear hO2 HG HFI TK hv hb
            go_wp2_with (first
             |(refine aG6 rfl 255 (.tmp 11) rfl pb 0 rfl (gJ o2) _ hR Tryz.underlying255 rfl fF ?_)
             |(go_at_call 221;with_reducible refine(hV.out _).mono ?_;rintro _ w9 ⟨rfl,hb9⟩))
            go_ret2
            exact⟨_,_,hN.out,rfl,bt HB.out hb9⟩
    as_aux_lemma=>
     obtain rfl:k=4:=by omega
     have hN:nZ (aY s) n n 0:=.inl ⟨rfl,LX HH.out.1 HH.out.2 HF.out,aRT _,fun f _ hf=>hf⟩;replace hN:=GK hN;have HB:=GK hA2.below;have h4b:=H4.out;clear hA2 hB2
     go_wp2
     go_quiet (fail)
     go_wp2
     go_ret2
     exact⟨_,_,hN.out,rfl,below_drewN HB.out _⟩
theorem WJ (s : ByteArray) (n:Int) (w:World) (h4:s.size=4) (hx:allB bU s=true) (h0:0<=n) (h1:n<=9999):
 Calls Tryz.prog 199 #[.string s,.int .i64 n,.bool false] w (aD4 (qA (aY s) n) w):=by
 have hb:=zM h4 hx;have HS:Hid (∀w,Calls Tryz.prog 220 #[.string s,.int .i64 n] w fun r w'=>r=.returned (.agg (gJ (Dn n)).toArray)/\Below w.heap.size w w'):=GK (fun w=>by rw[BJ];exact QO s n w h4 h0 h1);have HV:Hid (∀(o:Nat->Int) (w:World),(∀i,i<4->48<=o i/\o i<=57)->Calls Tryz.prog 221 #[.string s,.agg (gJ o).toArray] w fun r w'=>r=.returned (.int .i64 (cZ o))/\Below w.heap.size w w'):=GK (fun o w hd=>by rw[BJ];exact QN s o w h4 hd);have H4:=GK h4;have HM:=GK hb;have HH:=GK (⟨h0,h1⟩:0<=n/\n<=9999);clear h4 hx hb
 go_enter Tryz.func199,Tryz.ntmps199
 go_upto_region 4 with(fail)
 go_cut [10] (fun s10 wx=> ∃pa,s10=.pointer (some ⟨pa,0,none⟩)/\Ar pa (Dn n) w wx)
 case first=>
  clear HV
  go_wp2_with (first
   |(go_at_call 220;with_reducible refine(HS.out _).mono ?_;rintro _ w1 ⟨rfl,hb1⟩;have z1:=Ar.fresh0 hb1 255)
   |(refine aRo rfl 255 (.tmp 10) (.tmp 19) rfl w1.heap.size 0 (gJ (Dn n)).toArray rfl rfl z1.there fF (YT (Dn n)) ?_))
  go_meet
  exact⟨_,rfl,z1.eU _⟩
 case rest =>
  obtain⟨pa,rfl,hA⟩:=hcut;clear HS
  go_upto_region 5 with(fail)
  go_cut [11] (fun s11 wx=> ∃pb,s11=.pointer (some ⟨pb,0,none⟩)/\pb≠pa/\Ar pa (Dn n) w wx/\Ar pb (Dn n) w wx)
  case first=>
   clear HV;have hR:=hA.range;have z1:=Ar.fresh0 hA.below 255;have hne:wc.heap.size≠pa:=by have:=aOK _ _ (hA.cell 0 (by omega));show wc.heap.size≠pa;have h2:pa<wc.heap.size:=this;omega
   have hA2:=GK ((hA.alloc (.cells #[.int .u8 0,.int .u8 0,.int .u8 0,.int .u8 0,.int .u8 0,.int .u8 0,.int .u8 0,.int .u8 0,.int .u8 0,.int .u8 0,.int .u8 0,.int .u8 0,.int .u8 0,.int .u8 0,.int .u8 0,.int .u8 0,.int .u8 0,.int .u8 0] 255)).others hne hA.below.size (gJ (Dn n)).toArray.toList 0);clear hA
   go_wp2_with (first
    |(refine aG6 rfl 255 (.tmp 10) rfl pa 0 rfl (gJ (Dn n)) _ hR Tryz.underlying255 rfl fF ?_)
    |(refine aRo rfl 255 (.tmp 11) (.tmp 20) rfl wc.heap.size 0 (gJ (Dn n)).toArray rfl rfl z1.there fF (YT (Dn n)) ?_))
   go_meet
   exact⟨_,rfl,hne,hA2.out,z1.eU _⟩
  case rest =>
   obtain⟨pb,rfl,hne,hA,hB⟩:=hcut;have HNE:=GK hne;clear hne
   go_upto_block 0 with(fail)
   go_wp2
   go_loopw [12] (fun i wx=> ∃k:Nat,k<=4/\i=.int .i64 k/\(∀i,i<k->cO (aY s) n i)/\Ar pa (Dn n) w wx/\Ar pb (Dn n) w wx) (fun i _=>4 - (intOf i).toNat)
   case atStart=>exact⟨0,aKS _,rfl,fun i hi=>by omega,hA,hB⟩
   case round =>
    obtain⟨k,hk,rfl,hf,hA2,hB2⟩:=hrel;clear hA hB;have HF:=GK hf;clear hf
    by_cases hlt:k<4
    . have hks : k < s.size:=by have:=H4.out;omega
      have aWq:(k:Int)<s.size:=by omega
      have hc:=hA2.cell k (by omega);have hd:Dn n k=48+dg n k:=by unfold Dn;rw[aFV hlt]
      have hbk:=bQ s k hks;rw[hd]at hc;have HC:=GK hbk;have aWs:(k:Int)<18:=by omega
      replace hA2:=GK hA2;replace hB2:=GK hB2;clear hd hbk;obtain⟨d,hdd⟩: ∃d,d=dg n k:=⟨_,rfl⟩;rw[<-hdd]at hc;replace hdd:=GK hdd
      by_cases c1:((s[k]'hks).toNat:Int)=88
      . as_aux_lemma=>
         have t1:(((s[k]'hks).toNat:Int)==88)=true:=by rw[c1];rfl
         have HFn: ∀i,i<k+1->cO (aY s) n i:=by
          intro i hi
          by_cases e:i=k
          . subst e;exact .inl (by rw[HC.out,c1])
          exact HF.out i (by omega)
         replace HFn:=GK HFn;clear c1
         go_wp2
         go_quiet (fail)
         go_wp2
         go_roundw
         case rel=>exact⟨k+1,by omega,by go_num,HFn.out,hA2.out.later (below_drewN (aAL _ _) _),hB2.out.later (below_drewN (aAL _ _) _)⟩
         case measure=>simp[intOf];omega
      have t1 : (((s[k]'hks).toNat:Int)==88)=false:=by rw[aAO];exact c1
      by_cases c2:((s[k]'hks).toNat:Int)=48+d
      . as_aux_lemma=>
         have t2:(((s[k]'hks).toNat:Int)==48+d)=true:=by rw[c2];exact aV8 _
         have HFn: ∀i,i<k+1->cO (aY s) n i:=by
          intro i hi
          by_cases e:i=k
          . subst e;exact .inr (by rw[HC.out,c2,hdd.out])
          exact HF.out i (by omega)
         replace HFn:=GK HFn;clear c1 c2
         go_wp2
         go_quiet (fail)
         go_wp2
         go_roundw
         case rel=>exact⟨k+1,by omega,by go_num,HFn.out,hA2.out.later (below_drewN (aAL _ _) _),hB2.out.later (below_drewN (aAL _ _) _)⟩
         case measure=>simp[intOf];omega
      as_aux_lemma =>
       have t2:(((s[k]'hks).toNat:Int)==48+d)=false:=by rw[aAO];exact c2
       have t3:((k:Int)==(s.size:Int))=false:=by rw[aAO];omega
       have C1:=GK c1;clear c1
       go_wp2
       go_quiet (fail)
       rename_i nq
       replace hA2:=GK (hA2.out.later (below_drewN (aAL wr.heap.size wr) nq));replace hB2:=GK (hB2.out.later (below_drewN (aAL wr.heap.size wr) nq));have hc2:(wr.drewN nq).cell? ⟨pa,k,none⟩=some (.int .u8 (48+d)):=hc;clear hc;generalize wr.drewN nq=W2 at *
       go_wp2
       obtain⟨BK,VN⟩: ∃b:Bool,b=decide (48+d<((s[k]'hks).toNat:Int)):=⟨_,rfl⟩
       go_upto_region 11 with(fail)
       go_cut [55] (fun s55 wx=>s55=.bool BK/\ ∃nq,wx=W2.drewN nq)
       case first=>
        as_aux_lemma=>
         by_cases hh:((s[k]'hks).toNat:Int)<48+d
         . obtain rfl:BK=false:=by rw[VN];exact aCw (by omega)
           clear VN;have hcmp:decide (48+d<((s[k]'hks).toNat:Int))=false:=by first|exact aAP (by omega)|exact aCw (by omega)
           go_quiet (fail)
           go_wp2
           go_meet
           exact⟨rfl,_,rfl⟩
         have hh2:48+d<((s[k]'hks).toNat:Int):=by omega
         obtain rfl:BK=true:=by rw[VN];exact aAP hh2
         have hcmp:decide (48+d<((s[k]'hks).toNat:Int))=true:=by first|exact aAP (by omega)|exact aCw (by omega)
         clear VN hh
         go_quiet (fail)
         go_wp2
         go_meet
         exact⟨rfl,_,rfl⟩
       case rest =>
        obtain⟨rfl,nq2,rfl⟩:=hcut;replace hA2:=GK (hA2.out.later (below_drewN (aAL W2.heap.size W2) nq2));replace hB2:=GK (hB2.out.later (below_drewN (aAL W2.heap.size W2) nq2));clear hc2 t1 t2 t3;generalize W2.drewN nq2=W3 at *
        go_upto_if 55 with(fail)
        go_cut [12] (fun s12 wx=> ∃(j:Nat) (o:Nat->Int),j<=4/\s12=.int .i64 j/\Ar pb o w wx/\aD7 (aY s) n j o)
        case first =>
         as_aux_lemma=>
          clear HV
          cases BK
          . have hh:((s[k]'hks).toNat:Int)<48+d:=by have:=aPA VN.symm;omega
            have HG:=aCe HM.out HH.out.1 HH.out.2 hlt HF.out (by rw[HC.out];exact C1.out) (by rw[HC.out,<-hdd.out];exact hh);replace HG:=GK HG;clear VN hh
            go_wp2
            go_meet
            exact⟨k,Dn n,by omega,rfl,hB2.out,HG.out⟩
          have hh :48+d<((s[k]'hks).toNat:Int):=aK1 VN.symm;have hg2:=GK (show 48+dg n k<aY s k by rw[HC.out,<-hdd.out];exact hh);clear VN hh hdd
          go_wp2
          go_step3
          go_wp2
          go_step3
          go_wp2
          go_loopw [12] (fun i wx=> ∃m:Nat,m<=k/\i=.int .i64 m/\(∀i,m<=i->i<k-> ¬(aY s i=88/\dg n i≠0))/\Ar pa (Dn n) w wx/\Ar pb (Dn n) w wx) (fun i _=>(intOf i).toNat)
          case atStart=>exact⟨k,aCU _,rfl,fun i h1 h2=>by omega,hA2.out,hB2.out⟩
          case round=>
           obtain⟨m,hm,hi,hno,hA3,hB3⟩:=hrel;clear hA2 hB2;have HNO:=GK hno;clear hno
           by_cases hm0:0<m
           . obtain⟨q,rfl⟩: ∃q,m=q+1:=⟨m - 1,by omega⟩;rw[show (((q+1:Nat)):Int)=(q:Int)+1 by omega]at hi;subst hi;have hq4:q<4:=by omega
             have hqs:q<s.size:=by omega
             have aWh:(q:Int)<s.size:=by omega
             have aWk:(q:Int)<18:=by omega
             have hca:=hA3.cell q (by omega);have hcb:=hB3.cell q (by omega);have hfb:=hB3.free q (by omega);have hDq:Dn n q=48+dg n q:=by unfold Dn;rw[aFV hq4]
             rw[hDq]at hca hcb;have hbq:=GK (bQ s q hqs);have hqb:=F5 HH.out.1 HH.out.2 q;obtain⟨e,he⟩: ∃e,e=dg n q:=⟨_,rfl⟩;rw[<-he]at hca hcb hqb;replace he:=GK he;obtain⟨b0,b1⟩:=hqb;clear hDq;have hX:=GK (hB3.set q (by omega) (48+e - 1))
             by_cases g1:((s[q]'hqs).toNat:Int)=88
             . by_cases g2:e=0
               . as_aux_lemma=>
                  have u1:(((s[q]'hqs).toNat:Int)==88)=true:=by rw[g1];rfl
                  have u2:(48+e !=48)=false:=by rw[g2];rfl
                  have hN: ∀i,q<=i->i<k-> ¬(aY s i=88/\dg n i≠0):=by
                   intro i h1 h2
                   by_cases c:i=q
                   . subst c;rintro⟨_,h⟩;exact h (by rw[<-he.out];exact g2)
                   exact HNO.out i (by omega) h2
                  replace hN:=GK hN;replace hA3:=GK hA3;replace hB3:=GK hB3;clear g1 g2
                  go_wp2
                  go_roundw
                  case rel=>exact⟨q,by omega,rfl,hN.out,hA3.out,hB3.out⟩
                  case measure=>simp[intOf]
               as_aux_lemma=>
                have u1:(((s[q]'hqs).toNat:Int)==88)=true:=by rw[g1];rfl
                have u2:(48+e !=48)=true:=by rw[aLa];omega
                have hGd:aD7 (aY s) n (q+1) (fun i=>if i=q then 48+dg n q - 1 else Dn n i):=aCf HM.out HH.out.1 HH.out.2 hlt HF.out (by rw[HC.out];exact C1.out) hg2.out (by omega) (by rw[hbq.out];exact g1) (by rw[<-he.out];exact g2) (fun i h1 h2=>HNO.out i (by omega) h2);rw[<-he.out]at hGd;replace hGd:=GK hGd;have ee:1<=e:=by omega
                replace hA3:=GK hA3;replace hB3:=GK hB3;clear g1 g2
                go_wp2
                rw[aUM]
                go_wp2
                go_meet
                exact⟨q+1,_,by omega,by go_num,hX.out,hGd.out⟩
             as_aux_lemma=>
              have u1:(((s[q]'hqs).toNat:Int)==88)=false:=by rw[aAO];exact g1
              have hN: ∀i,q<=i->i<k-> ¬(aY s i=88/\dg n i≠0):=by
               intro i h1 h2
               by_cases c:i=q
               . subst c;rintro⟨h,_⟩;exact g1 (by rw[<-hbq.out];exact h)
               exact HNO.out i (by omega) h2
              replace hN:=GK hN;replace hA3:=GK hA3;replace hB3:=GK hB3;clear g1
              go_wp2
              go_roundw
              case rel=>exact⟨q,by omega,rfl,hN.out,hA3.out,hB3.out⟩
              case measure=>simp[intOf]
           as_aux_lemma=>
            obtain rfl:m=0:=by omega
            subst hi;have hN:qA (aY s) n 0 16:=.inr ⟨rfl,rfl,aM8 HH.out.1 HH.out.2 hlt HF.out (by rw[HC.out];exact C1.out) hg2.out (fun i hi=>HNO.out i (by omega) hi)⟩;replace hN:=GK hN;have HB:=GK hA3.below;clear hA3 hB3
            go_wp2
            rw[aRN]
            go_wp2
            go_ret2
            exact⟨_,_,hN.out,rfl,HB.out⟩
        case rest=>
         as_aux_lemma=>
          obtain⟨j,o,hj,rfl,hO,hG⟩:=hcut;clear hA2 hB2 VN;have HG:=GK hG;clear hG
          go_wp2
          go_loopw [12] (fun i wx=> ∃(m:Nat) (o2:Nat->Int),m<=4/\j<=m/\i=.int .i64 m/\Ar pb o2 w wx/\(∀i,i<j->o2 i=o i)/\(∀i,j<=i->i<m->o2 i=if aY s i=88 then 57 else aY s i)) (fun i _=>4 - (intOf i).toNat)
          case atStart=>exact⟨j,o,hj,aCU _,rfl,hO,fun i _=>rfl,fun i h1 h2=>by omega⟩
          case round=>
           obtain⟨m,o2,hm,hjm,rfl,hO2,hlo,hfi⟩:=hrel;clear hO;have TK:=GK hlo;have HFI:=GK hfi;clear hlo hfi
           by_cases hm4:m<4
           . as_aux_lemma=>
              have hms:m<s.size:=by have:=H4.out;omega
              have aQs:(m:Int)<s.size:=by omega
              have hm18:(m:Int)<18:=by omega
              have hbm:=bQ s m hms;have hcm:=hO2.cell m (by omega);have hfm:=hO2.free m (by omega);have hX1:=hO2.set m (by omega) ((s[m]'hms).toNat:Int);have hc1:=hX1.cell m (by omega);have hf1:=hX1.free m (by omega)
              by_cases g1:((s[m]'hms).toNat:Int)=88
              . have u1:(((s[m]'hms).toNat:Int)==88)=true:=by rw[g1];rfl
                have hX2:=(hX1.set m (by omega) 57).congr (o':=fun i=>if i=m then(if aY s m=88 then 57 else aY s m)else o2 i) (fun i _=>by
                 (try dsimp only)
                 by_cases c:i=m
                 . rw[aFV c,aFV c,aFV (by rw[hbm];exact g1)]
                 rw[aB9 c,aB9 c,aB9 c])
                replace hX2:=GK hX2;replace hO2:=GK hO2;clear hX1 hc1 hbm g1
                go_wp2
                go_roundw
                case rel=>exact⟨m+1,_,by omega,by omega,by go_num,hX2.out,fun i hi=>by(try dsimp only);rw[aB9 (by omega)];exact TK.out i hi,fun i h1 h2=>by
                 (try dsimp only)
                 by_cases c:i=m
                 . subst c;rw[aFV rfl]
                 rw[aB9 c];exact HFI.out i h1 (by omega)⟩
                case measure=>simp[intOf];omega
              have u1:(((s[m]'hms).toNat:Int)==88)=false:=by rw[aAO];exact g1
              have hX2:=hX1.congr (o':=fun i=>if i=m then(if aY s m=88 then 57 else aY s m)else o2 i) (fun i _=>by
               (try dsimp only)
               by_cases c:i=m
               . rw[aFV c,aFV c,aB9 (by rw[hbm];exact g1),hbm]
               rw[aB9 c,aB9 c])
              replace hX2:=GK hX2;replace hO2:=GK hO2;clear hX1 hc1 hf1 hbm g1
              go_wp2
              go_roundw
              case rel=>exact⟨m+1,_,by omega,by omega,by go_num,hX2.out,fun i hi=>by(try dsimp only);rw[aB9 (by omega)];exact TK.out i hi,fun i h1 h2=>by
               (try dsimp only)
               by_cases c:i=m
               . subst c;rw[aFV rfl]
               rw[aB9 c];exact HFI.out i h1 (by omega)⟩
              case measure=>simp[intOf];omega
           as_aux_lemma=>
            obtain rfl:m=4:=by omega
            obtain⟨hv,hb⟩:=HG.out o2 TK.out HFI.out;have hV:=GK (fun w=>HV.out o2 w hb);have hN:qA (aY s) n (cZ o2) 0:=.inl ⟨rfl,hv⟩;replace hN:=GK hN;have aQs:((4:Nat):Int)<s.size->False:=by have:=H4.out;omega
            have hR:=hO2.range;have HB:=GK hO2.below;have h4b:=H4.out;clear hO2 HG HFI TK hv hb
            go_wp2_with (first
             |(refine aG6 rfl 255 (.tmp 11) rfl pb 0 rfl (gJ o2) _ hR Tryz.underlying255 rfl fF ?_)
             |(go_at_call 221;with_reducible refine(hV.out _).mono ?_;rintro _ w9 ⟨rfl,hb9⟩))
            go_ret2
            exact⟨_,_,hN.out,rfl,bt HB.out hb9⟩
    as_aux_lemma=>
     obtain rfl:k=4:=by omega
     have hN:qA (aY s) n n 0:=.inl ⟨rfl,LX HH.out.1 HH.out.2 HF.out,aRT _,fun f _ hf=>hf⟩;replace hN:=GK hN;have HB:=GK hA2.below;have h4b:=H4.out;clear hA2 hB2
     go_wp2
     go_quiet (fail)
     go_wp2
     go_ret2
     exact⟨_,_,hN.out,rfl,below_drewN HB.out _⟩
end Bk
end
section
open Go.RowKit Go.Lib
namespace Bk
open Un (ba bt ri rb aU bF)
def fl(b:Nat->Int)(x:Int)(i:Nat):Int:=if b i=88 then x else b i
theorem aOy{b:Nat->Int}(hb:MOk b){x:Int}(h0:48<=x)(h1:x<=57)(i:Nat)(hi:i<4):48<=fl b x i/\fl b x i<=57:=by
 have:=hb i hi;unfold fl;split<;>omega
theorem aFQ(s:ByteArray)(w:World)(h4:s.size=4)(hx:allB bU s=true):
 Calls Tryz.prog 197 #[.string s] w fun r w'=>r=.returned (.tuple #[.int .i64 (cZ (fl (aY s) 48)),.int .i64 0])/\Below w.heap.size w w':=by
 have hb:=zM h4 hx;have HC:=GK (fun w=>tZ s w h4 hx);have HF:=GK (fun w=>zS s 48 (fl (aY s) 48) w h4 (fun i _=>rfl) (fun i hi=>aOy hb (by omega) (by omega) i hi));clear h4 hx hb;generalize cZ (fl (aY s) 48)=v at *
 go_enter Tryz.func197,Tryz.ntmps197
 go_wp2_with fail
 refine(HC.out _).mono ?_;rintro _ w1 ⟨rfl,hb1⟩
 go_wp2_with fail
 refine(HF.out _).mono ?_;rintro _ w2 ⟨rfl,hb2⟩
 go_wp2_with fail
 go_ret2
 exact⟨rfl,bt hb1 hb2⟩
theorem VO(s:ByteArray)(w:World)(h4:s.size=4)(hx:allB bU s=true):
 Calls Tryz.prog 200 #[.string s] w fun r w'=>r=.returned (.tuple #[.int .i64 (cZ (fl (aY s) 57)),.int .i64 0])/\Below w.heap.size w w':=by
 have hb:=zM h4 hx;have HC:=GK (fun w=>tZ s w h4 hx);have HF:=GK (fun w=>zS s 57 (fl (aY s) 57) w h4 (fun i _=>rfl) (fun i hi=>aOy hb (by omega) (by omega) i hi));clear h4 hx hb;generalize cZ (fl (aY s) 57)=v at *
 go_enter Tryz.func200,Tryz.ntmps200
 go_wp2_with fail
 refine(HC.out _).mono ?_;rintro _ w1 ⟨rfl,hb1⟩
 go_wp2_with fail
 refine(HF.out _).mono ?_;rintro _ w2 ⟨rfl,hb2⟩
 go_wp2_with fail
 go_ret2
 exact⟨rfl,bt hb1 hb2⟩
theorem RG(s:ByteArray)(n:Int)(w:World)(h4:s.size=4)(hx:allB bU s=true):
 Calls Tryz.prog 160 #[.string s,.int .i64 n] w (aD4 (nZ (aY s) n) w):=by
 have hb:=zM h4 hx;have HC:=GK (fun w=>tZ s w h4 hx)
 by_cases c:n<0
 . have HL:=GK (fun w=>aFQ s w h4 hx);have hN:nZ (aY s) n (cZ (fl (aY s) 48)) 0:=by
    obtain⟨g1,g2⟩:=RN hb (o:=fl (aY s) 48) (fun i _=>rfl);exact .inl ⟨rfl,g1,by have:=g1.1;omega,fun f hf _=>g2 f hf⟩
   replace hN:=GK hN;clear h4 hx hb;generalize cZ (fl (aY s) 48)=v at *
   go_enter Tryz.func160,Tryz.ntmps160
   go_wp2_with fail
   refine(HC.out _).mono ?_;rintro _ w1 ⟨rfl,hb1⟩
   go_wp2_with fail
   refine(HL.out _).mono ?_;rintro _ w2 ⟨rfl,hb2⟩
   go_wp2_with fail
   go_ret2
   exact⟨_,_,hN.out,rfl,bt hb1 hb2⟩
 by_cases c2:n<10000
 . have HW:Hid (∀w,Calls Tryz.prog 198 #[.string s,.int .i64 n] w fun r w'=>r=.returned (.bool true)/\w=w'):=GK (fun w=>by
    have:=sU s n w h4;rw[aAP (show 0<=n by omega),aAP c2]at this;exact this)
   have HB:=GK (fun w=>WI s n w h4 hx (by omega) (by omega));clear h4 hx hb
   go_enter Tryz.func160,Tryz.ntmps160
   go_wp2_with fail
   refine(HC.out _).mono ?_;rintro _ w1 ⟨rfl,hb1⟩
   go_wp2_with fail
   refine(HW.out _).mono ?_;rintro _ w2 ⟨rfl,rfl⟩
   go_wp2_with fail
   refine(HB.out _).mono ?_;rintro _ w2 ⟨v,x,hN,rfl,hb2⟩;replace hN:=GK hN
   go_wp2_with fail
   go_ret2
   exact⟨_,_,hN.out,rfl,bt hb1 hb2⟩
 have HW:Hid (∀w,Calls Tryz.prog 198 #[.string s,.int .i64 n] w fun r w'=>r=.returned (.bool false)/\w=w'):=GK (fun w=>by
  have:=sU s n w h4;rw[aCw c2,aRI]at this;exact this)
 have hN:nZ (aY s) n 0 16:=.inr ⟨rfl,rfl,fun f hf=>by have:=hf.2.1;omega⟩;replace hN:=GK hN;clear h4 hx hb
 go_enter Tryz.func160,Tryz.ntmps160
 go_wp2_with fail
 refine(HC.out _).mono ?_;rintro _ w1 ⟨rfl,hb1⟩
 go_wp2_with fail
 refine(HW.out _).mono ?_;rintro _ w2 ⟨rfl,rfl⟩
 go_wp2_with fail
 go_ret2
 exact⟨_,_,hN.out,rfl,hb1⟩
theorem Q9(s:ByteArray)(n:Int)(w:World)(h4:s.size=4)(hx:allB bU s=true):
 Calls Tryz.prog 161 #[.string s,.int .i64 n] w (aD4 (qA (aY s) n) w):=by
 have hb:=zM h4 hx;have HC:=GK (fun w=>tZ s w h4 hx)
 by_cases c:n<0
 . have hN:qA (aY s) n 0 16:=.inr ⟨rfl,rfl,fun f hf=>by have:=hf.1;omega⟩;replace hN:=GK hN;clear h4 hx hb
   go_enter Tryz.func161,Tryz.ntmps161
   go_wp2_with fail
   refine(HC.out _).mono ?_;rintro _ w1 ⟨rfl,hb1⟩
   go_wp2_with fail
   go_ret2
   exact⟨_,_,hN.out,rfl,hb1⟩
 by_cases c2:n<10000
 . have HW:Hid (∀w,Calls Tryz.prog 198 #[.string s,.int .i64 n] w fun r w'=>r=.returned (.bool true)/\w=w'):=GK (fun w=>by
    have:=sU s n w h4;rw[aAP (show 0<=n by omega),aAP c2]at this;exact this)
   have HB:=GK (fun w=>WJ s n w h4 hx (by omega) (by omega));clear h4 hx hb
   go_enter Tryz.func161,Tryz.ntmps161
   go_wp2_with fail
   refine(HC.out _).mono ?_;rintro _ w1 ⟨rfl,hb1⟩
   go_wp2_with fail
   refine(HW.out _).mono ?_;rintro _ w2 ⟨rfl,rfl⟩
   go_wp2_with fail
   refine(HB.out _).mono ?_;rintro _ w2 ⟨v,x,hN,rfl,hb2⟩;replace hN:=GK hN
   go_wp2_with fail
   go_ret2
   exact⟨_,_,hN.out,rfl,bt hb1 hb2⟩
 have HW:Hid (∀w,Calls Tryz.prog 198 #[.string s,.int .i64 n] w fun r w'=>r=.returned (.bool false)/\w=w'):=GK (fun w=>by
  have:=sU s n w h4;rw[aCw c2,aRI]at this;exact this)
 have HL:=GK (fun w=>VO s w h4 hx);have hN:qA (aY s) n (cZ (fl (aY s) 57)) 0:=by
  obtain⟨g1,g2⟩:=BN hb (o:=fl (aY s) 57) (fun i _=>rfl);exact .inl ⟨rfl,g1,by have:=g1.2.1;omega,fun f hf _=>g2 f hf⟩
 replace hN:=GK hN;clear h4 hx hb;generalize cZ (fl (aY s) 57)=v at *
 go_enter Tryz.func161,Tryz.ntmps161
 go_wp2_with fail
 refine(HC.out _).mono ?_;rintro _ w1 ⟨rfl,hb1⟩
 go_wp2_with fail
 refine(HW.out _).mono ?_;rintro _ w2 ⟨rfl,rfl⟩
 go_wp2_with fail
 refine(HL.out _).mono ?_;rintro _ w2 ⟨rfl,hb2⟩
 go_wp2_with fail
 go_ret2
 exact⟨_,_,hN.out,rfl,bt hb1 hb2⟩
def UpR(b:Nat->Int)(n least v:Int)(ok:Bool):Prop:=0<=v/\v<=9999/\((ok=true/\oO b v/\n<=v/\least<=v/\ ∀f,oO b f->n<=f->least<=f->v<=f)\/(ok=false/\ ∀f,oO b f->least<=f->f<n))
def DnR(b:Nat->Int)(n least v:Int)(ok:Bool):Prop:=0<=v/\v<=9999/\((ok=true/\oO b v/\v<=n/\least<=v/\ ∀f,oO b f->f<=n->f<=v)\/(ok=false/\ ∀f,oO b f->f<=n->f<least))
def TI(P:Int->Bool->Prop)(w:World)(e:Ending)(w':World):Prop:= ∃v x,P v x/\e=.returned (.tuple #[.int .i64 v,.bool x])/\Below w.heap.size w w'
theorem U7(s:ByteArray)(n:Int)(w:World)(h4:s.size=4)(hx:allB bU s=true)(n0: -9223372036854775808<=n)(n1:n<9223372036854775808):
 Calls Tryz.prog 137 #[.string s,.int .i64 n,.bool true,.int .i64 0] w (TI (UpR (aY s) n 0) w):=by
 have HN:=GK (fun w=>RG s (max n 0) w h4 hx);have HU: ∀v x,nZ (aY s) (max n 0) v x->UpR (aY s) n 0 v (x==0):=by
  intro v x h;obtain⟨b0,b1,_⟩:=ZE h;refine⟨b0,b1,?_⟩;rcases h with⟨rfl,h1,h2,h3⟩|⟨rfl,_,h3⟩
  . exact .inl ⟨rfl,h1,by omega,by omega,fun f hf g1 g2=>h3 f hf (by omega)⟩
  exact .inr ⟨rfl,fun f hf hl=>by have:=h3 f hf;have:=hf.1;omega⟩
 replace HU:=GK HU
 go_enter Tryz.func137,Tryz.ntmps137
 go_wp2_with fail
 refine(HN.out _).mono ?_;rintro _ w1 ⟨v,x,hN,rfl,hb1⟩;have hR:=GK (HU.out _ _ hN);clear hN
 go_wp2_with fail
 go_ret2
 exact⟨_,_,hR.out,rfl,hb1⟩
theorem U8(s:ByteArray)(n:Int)(w:World)(h4:s.size=4)(hx:allB bU s=true):
 Calls Tryz.prog 137 #[.string s,.int .i64 n,.bool false,.int .i64 1] w (TI (DnR (aY s) n 1) w):=by
 have HN:=GK (fun w=>Q9 s n w h4 hx);have HU: ∀v x,qA (aY s) n v x->DnR (aY s) n 1 v (x==0&&decide (1<=v)):=by
  intro v x h;obtain⟨b0,b1,_⟩:=A8 h;refine⟨b0,b1,?_⟩;rcases h with⟨rfl,h1,h2,h3⟩|⟨rfl,_,h3⟩
  . by_cases c:1<=v
    . exact .inl ⟨by rw[aAP c];rfl,h1,h2,c,h3⟩
    exact .inr ⟨by rw[aCw c];rfl,fun f hf hl=>by have:=h3 f hf hl;omega⟩
  exact .inr ⟨rfl,fun f hf hl=>by have:=h3 f hf;omega⟩
 replace HU:=GK HU
 go_enter Tryz.func137,Tryz.ntmps137
 go_wp2_with fail
 refine(HN.out _).mono ?_;rintro _ w1 ⟨v,x,hN,rfl,hb1⟩;have hR:=HU.out _ _ hN;have hx2:=(A8 hN).2.2;clear hN;rcases hx2 with rfl|rfl
 . have hR2:=GK (show DnR (aY s) n 1 v (decide (1<=v)) by rw[show ((0:Int)==0)=true from rfl,aQT]at hR;exact hR);clear hR
   go_wp2_with fail
   go_ret2
   exact⟨_,_,hR2.out,rfl,hb1⟩
 have hR2:=GK (show DnR (aY s) n 1 v false by rw[show ((16:Int)==0)=false from rfl,aRW]at hR;exact hR);clear hR
 go_wp2_with fail
 go_ret2
 exact⟨_,_,hR2.out,rfl,hb1⟩
end Bk
end
section
open Go.RowKit
namespace Un
open Cal
def rv(a lo b hi:Int):Value:=.agg #[.int .i8 a,.int .i64 lo,.int .i8 b,.int .i64 hi]
theorem gI(lo e hi f:Int)(w:World):
 Calls Tryz.prog 176 #[.int .i64 lo,.int .i64 e,.int .i64 hi,.int .i64 f] w fun r w'=>r=.returned (.tuple #[.int .i64 (if e=0 then(if f=0 then lo else 0)else 0),.int .i64 (if e=0 then(if f=0 then hi else 0)else 0),.int .i64 (if e=0 then f else e)])/\w=w':=by
 by_cases he:e=0
 . subst he
   by_cases hf:f=0
   . subst hf
     go_enter Tryz.func176,Tryz.ntmps176
     go_wp2
     go_ret3
     exact⟨gV (by simp) (by simp) (by simp),rfl⟩
   have t:(f !=0)=true:=by rw[aLa];exact hf
   have HF:=GK hf;clear hf
   go_enter Tryz.func176,Tryz.ntmps176
   go_wp2
   go_ret3
   exact⟨gV (by simp[HF.out]) (by simp[HF.out]) (by simp),rfl⟩
 have t:(e !=0)=true:=by rw[aLa];exact he
 have HE:=GK he;clear he
 go_enter Tryz.func176,Tryz.ntmps176
 go_wp2
 go_ret3
 exact⟨gV (by simp[HE.out]) (by simp[HE.out]) (by simp[HE.out]),rfl⟩
theorem TU(lo hi e:Int)(w:World):
 Calls Tryz.prog 119 #[.int .i64 lo,.int .i64 hi,.int .i64 e] w fun r w'=>r=.returned (.tuple #[if e=0 then rv 0 lo 0 hi else rv 0 0 0 0,.int .i64 e])/\Below w.heap.size w w':=by
 by_cases he:e=0
 . subst he
   go_enter Tryz.func119,Tryz.ntmps119
   go_wp2
   refine aG2 (v:=.tuple #[rv 0 lo 0 hi,.int .i64 0]) (by simp[results,Tryz.results119,go_sem,rv]) rfl ⟨by simp,ba (aAL _ _) _⟩
 have t:(e !=0)=true:=by rw[aLa];exact he
 have HE:=GK he;clear he
 go_enter Tryz.func119,Tryz.ntmps119
 go_wp2
 refine aG2 (v:=.tuple #[rv 0 0 0 0,.int .i64 e]) (by simp[results,Tryz.results119,go_sem,rv]) rfl ⟨by simp[HE.out],ba (aAL _ _) _⟩
theorem mY(y:Int)(w:World)(hs:fD w):
 Calls Tryz.prog 141 #[.int .i64 y] w fun r w'=>r=.returned (.tuple #[.int .i64 (if -10000000000000000<=y/\y<=10000000000000000 then st y else 0),.int .i64 (if -10000000000000000<=y/\y<=10000000000000000 then st (y+1) - 1 else 0),.int .i64 (if -10000000000000000<=y/\y<=10000000000000000 then 0 else 6)])/\Below w.heap.size w w':=by
 by_cases c: -10000000000000000<=y/\y<=10000000000000000
 . rw[aFV c,aFV c,aFV c];obtain⟨c0,c1⟩:=c
   go_enter Tryz.func141,Tryz.ntmps141
   go_wp2_with fail
   refine(qW _ _ hs.steps (by omega) (by omega)).mono ?_;rintro e w1 ⟨rfl,hb1⟩
   go_wp2_with fail
   refine(WY _ _ (hs.below hb1).steps (by omega) (by omega)).mono ?_;rintro e w2 ⟨rfl,hb2⟩
   go_wp2_with (go_at_call 176;refine(gI _ _ _ _ _).mono ?_;rintro e w' ⟨rfl,rfl⟩)
   go_ret3
   exact⟨gV (by simp) (by simp) (by simp),bt hb1 hb2⟩
 rw[aB9 c,aB9 c,aB9 c];have C:Hid (y< -10000000000000000\/10000000000000000<y):=GK (by omega);clear c
 go_enter Tryz.func141,Tryz.ntmps141
 go_wp2_with (first|(go_at_call 174;refine(OW _ _ C.out).mono ?_;rintro e w' ⟨rfl,rfl⟩)|(go_at_call 175;refine(WZ _ _ C.out).mono ?_;rintro e w' ⟨rfl,rfl⟩)|(go_at_call 176;refine(gI _ _ _ _ _).mono ?_;rintro e w' ⟨rfl,rfl⟩))
 go_ret3
 exact⟨gV (by simp) (by simp) (by simp),aAL _ _⟩
def pI(i:Int):Int × Int × Int:=if -10000000000000000<=i / 12/\i / 12<=10000000000000000 then(st (i / 12)+bY (i / 12) (i % 12+1),st (i / 12)+bY (i / 12) (i % 12+2) - 1,0)else(0,0,6)
theorem aEt(y m:Int)(m0:1<=m)(m1:m<=12):
 ∃sv ev er:Int,(∀W,fD W->Calls Tryz.prog 157 #[.int .i64 y,.int .i64 m] W fun e w'=>e=.returned (.tuple #[.int .i64 sv,.int .i64 er])/\Below W.heap.size W w')/\
  (∀W,fD W->Calls Tryz.prog 159 #[.int .i64 y,.int .i64 m] W fun e w'=>e=.returned (.tuple #[.int .i64 ev,.int .i64 er])/\Below W.heap.size W w')/\
  ((er=0/\(if -10000000000000000<=y/\y<=10000000000000000 then(st y+bY y m,st y+bY y (m+1) - 1,(0:Int))else(0,0,6))=(sv,ev,0))\/(er=6/\(if -10000000000000000<=y/\y<=10000000000000000 then(st y+bY y m,st y+bY y (m+1) - 1,(0:Int))else(0,0,6))=(0,0,6))):=by
 by_cases c: -10000000000000000<=y/\y<=10000000000000000
 . exact⟨_,_,0,fun W h=>iP y m W h c.1 c.2 m0 m1,fun W h=>BG y m W h c.1 c.2 m0 m1,Or.inl ⟨rfl,by rw[aFV c]⟩⟩
 have e:rW y m=6:=by unfold rW;rw[aB9 c]
 refine⟨0,0,6,fun W h=>(wB y m W (by rw[e];decide)).mono fun r w' ⟨h1,h2⟩=>⟨by rw[h1,e],by rw[<-h2];exact aAL _ _⟩,fun W h=>(UZ y m W (by rw[e];decide)).mono fun r w' ⟨h1,h2⟩=>⟨by rw[h1,e],by rw[<-h2];exact aAL _ _⟩,Or.inr ⟨rfl,by rw[aB9 c]⟩⟩
theorem LU(i sv ev er:Int)(w:World)(hs:fD w)(h0: -9223372036854775808<=i)(h1:i<9223372036854775808)
 (HS: ∀W,fD W->Calls Tryz.prog 157 #[.int .i64 (i / 12),.int .i64 (i % 12+1)] W fun e w'=>e=.returned (.tuple #[.int .i64 sv,.int .i64 er])/\Below W.heap.size W w')
 (HE: ∀W,fD W->Calls Tryz.prog 159 #[.int .i64 (i / 12),.int .i64 (i % 12+1)] W fun e w'=>e=.returned (.tuple #[.int .i64 ev,.int .i64 er])/\Below W.heap.size W w') (hz:er=0\/er=6):
 Calls Tryz.prog 144 #[.int .i64 i] w fun r w'=>r=.returned (.tuple #[.int .i64 (if er=0 then sv else 0),.int .i64 (if er=0 then ev else 0),.int .i64 er])/\Below w.heap.size w w':=by
 obtain⟨c1,c2,c3⟩:=@yA i 12 (by omega);have HW:=GK hs;clear hs
 by_cases hi:0<=i
 . have t: ¬i % 12<0:=by omega
   have HS:=GK HS;have HE:=GK HE;clear c1 c2 c3;rcases hz with rfl|rfl
   . go_enter Tryz.func144,Tryz.ntmps144
     go_wp2_with fail
     refine(HS.out _ HW.out).mono ?_;rintro e w1 ⟨rfl,hb1⟩
     go_wp2_with fail
     refine(HE.out _ (HW.out.below hb1)).mono ?_;rintro e w2 ⟨rfl,hb2⟩
     go_wp2_with (go_at_call 176;refine(gI _ _ _ _ _).mono ?_;rintro e w' ⟨rfl,rfl⟩)
     go_ret3
     exact⟨gV (by simp) (by simp) (by simp),bt hb1 hb2⟩
   go_enter Tryz.func144,Tryz.ntmps144
   go_wp2_with fail
   refine(HS.out _ HW.out).mono ?_;rintro e w1 ⟨rfl,hb1⟩
   go_wp2_with fail
   refine(HE.out _ (HW.out.below hb1)).mono ?_;rintro e w2 ⟨rfl,hb2⟩
   go_wp2_with (go_at_call 176;refine(gI _ _ _ _ _).mono ?_;rintro e w' ⟨rfl,rfl⟩)
   go_ret3
   exact⟨gV (by simp) (by simp) (by simp),bt hb1 hb2⟩
 by_cases hz':i.tmod 12=0
 . obtain⟨e1,e2⟩:=c2 (Or.inl hz');have t:decide (i.tmod 12<0)=false:=aCw (by omega);have k0: -768614336404564652<=i.tdiv 12:=by omega
   have k1:i.tdiv 12<=768614336404564651:=by omega
   rw[<-e1,<-e2]at HS HE;have k2: -12<=i.tmod 12:=by omega
   have k3:i.tmod 12<12:=by omega
   have HS:=GK HS;have HE:=GK HE;clear c1 c2 c3 hz' e1 e2;rcases hz with rfl|rfl
   . go_enter Tryz.func144,Tryz.ntmps144
     go_wp2_with fail
     refine(HS.out _ HW.out).mono ?_;rintro e w1 ⟨rfl,hb1⟩
     go_wp2_with fail
     refine(HE.out _ (HW.out.below hb1)).mono ?_;rintro e w2 ⟨rfl,hb2⟩
     go_wp2_with (go_at_call 176;refine(gI _ _ _ _ _).mono ?_;rintro e w' ⟨rfl,rfl⟩)
     go_ret3
     exact⟨gV (by simp) (by simp) (by simp),bt hb1 hb2⟩
   go_enter Tryz.func144,Tryz.ntmps144
   go_wp2_with fail
   refine(HS.out _ HW.out).mono ?_;rintro e w1 ⟨rfl,hb1⟩
   go_wp2_with fail
   refine(HE.out _ (HW.out.below hb1)).mono ?_;rintro e w2 ⟨rfl,hb2⟩
   go_wp2_with (go_at_call 176;refine(gI _ _ _ _ _).mono ?_;rintro e w' ⟨rfl,rfl⟩)
   go_ret3
   exact⟨gV (by simp) (by simp) (by simp),bt hb1 hb2⟩
 obtain⟨e1,e2⟩:=c1 ⟨hz',by omega⟩;have hneg:=(c3 hz').2 (by omega);have t:decide (i.tmod 12<0)=true:=aAP hneg;have k0: -768614336404564651<=i.tdiv 12:=by omega
 have k1:i.tdiv 12<=768614336404564651:=by omega
 rw[<-e1,<-e2]at HS HE;have k2: -12<=i.tmod 12:=by omega
 have k3:i.tmod 12<12:=by omega
 have HS:=GK HS;have HE:=GK HE;clear c1 c2 c3 hz' e1 e2;rcases hz with rfl|rfl
 . go_enter Tryz.func144,Tryz.ntmps144
   go_wp2_with fail
   refine(HS.out _ HW.out).mono ?_;rintro e w1 ⟨rfl,hb1⟩
   go_wp2_with fail
   refine(HE.out _ (HW.out.below hb1)).mono ?_;rintro e w2 ⟨rfl,hb2⟩
   go_wp2_with (go_at_call 176;refine(gI _ _ _ _ _).mono ?_;rintro e w' ⟨rfl,rfl⟩)
   go_ret3
   exact⟨gV (by simp) (by simp) (by simp),bt hb1 hb2⟩
 go_enter Tryz.func144,Tryz.ntmps144
 go_wp2_with fail
 refine(HS.out _ HW.out).mono ?_;rintro e w1 ⟨rfl,hb1⟩
 go_wp2_with fail
 refine(HE.out _ (HW.out.below hb1)).mono ?_;rintro e w2 ⟨rfl,hb2⟩
 go_wp2_with (go_at_call 176;refine(gI _ _ _ _ _).mono ?_;rintro e w' ⟨rfl,rfl⟩)
 go_ret3
 exact⟨gV (by simp) (by simp) (by simp),bt hb1 hb2⟩
theorem lJ(i:Int)(w:World)(hs:fD w)(h0: -9223372036854775808<=i)(h1:i<9223372036854775808):
 Calls Tryz.prog 144 #[.int .i64 i] w fun r w'=>r=.returned (.tuple #[.int .i64 (pI i).1,.int .i64 (pI i).2.1,.int .i64 (pI i).2.2])/\Below w.heap.size w w':=by
 obtain⟨sv,ev,er,HS,HE,HR⟩:=aEt (i / 12) (i % 12+1) (by omega) (by omega);rw[show i % 12+1+1=i % 12+2 by omega]at HR;unfold pI;rcases HR with⟨he,hC⟩|⟨he,hC⟩
 . rw[hC];have h:=LU i sv ev er w hs h0 h1 HS HE (Or.inl he);rw[aFV he,aFV he,he]at h;exact h
 rw[hC];have h:=LU i sv ev er w hs h0 h1 HS HE (Or.inr he);rw[aB9 (by omega),aB9 (by omega),he]at h;exact h
end Un
end
section
open Go.RowKit
namespace Un
open Cal
theorem gQ(p:Int)(w:World)(h0:0<=p)(h1:p<256):
 Calls Tryz.prog 117 #[.int .u8 p] w fun r w'=>r=.returned (.bool (decide (1<=p/\p<=3)))/\w=w':=by
 by_cases a:1<=p
 . go_enter Tryz.func117,Tryz.ntmps117
   go_wp2
   go_ret
   exact⟨by simp[a],rfl⟩
 have b:p<1:=by omega
 have e:p=0:=by omega
 subst e
 go_enter Tryz.func117,Tryz.ntmps117
 go_wp2
 go_ret
 exact⟨by simp,rfl⟩
theorem aB5(d:Int)(w:World):
 Calls Tryz.prog 145 #[.int .i64 d] w fun r w'=>r=.returned (.tuple #[.int .i64 d,.int .i64 0])/\w=w':=by
 go_enter Tryz.func145,Tryz.ntmps145
 go_wp2
 go_ret2
 exact⟨aU rfl rfl,rfl⟩
theorem aB4(d:Int)(w:World):
 Calls Tryz.prog 146 #[.int .i64 d] w fun r w'=>r=.returned (.tuple #[.int .i64 d,.int .i64 d,.int .i64 0])/\w=w':=by
 go_enter Tryz.func146,Tryz.ntmps146
 go_wp2
 go_ret3
 exact⟨gV rfl rfl rfl,rfl⟩
def kY:Value:=.agg #[.nilFunc,.nilFunc,.func (.func 140) #[] #[],.func (.func 141) #[] #[],.func (.func 142) #[] #[],.func (.func 144) #[] #[],.func (.func 145) #[] #[],.func (.func 146) #[] #[]]
theorem oV(w:World):
 Calls Tryz.prog 118 #[] w fun r w'=>r=.returned kY/\Below w.heap.size w w':=by
 go_enter Tryz.func118,Tryz.ntmps118
 go_wp2
 refine aG2 (v:=kY) (by simp[results,Tryz.results118,go_sem,kY]) rfl ⟨rfl,ba (aAL _ _) _⟩
theorem FP(d:Int): -10000000000000000<=(bZ d).1/\(bZ d).1<=10000000000000000/\0<=(bZ d).2.1/\(bZ d).2.1<=12:=by
 unfold bZ
 split
 . next h=>
   obtain⟨s1,s2⟩:=gK d;have:=@lS (bT d) (d - st (bT d)) (by omega) (by have:=st_succ (bT d);omega);exact⟨h.1,h.2,by dsimp only;omega,by dsimp only;omega⟩
 decide
theorem aB6(d:Int)(w:World)(hs:fD w)(h0: -9223372036854775808<=d)(h1:d<9223372036854775808):
 Calls Tryz.prog 142 #[.int .i64 d] w fun r w'=>r=.returned (.tuple #[.int .i64 (12 * (bZ d).1+(bZ d).2.1 - 1),.int .i64 (bZ d).2.2])/\Below w.heap.size w w':=by
 have HY:=GK (oK d w hs h0 h1);clear hs;have hk:=FP d;generalize bZ d=q at HY hk ⊢;obtain⟨y,m,e⟩:=q;obtain⟨k0,k1,k2,k3⟩:=hk;dsimp only at k0 k1 k2 k3 ⊢
 go_enter Tryz.func142,Tryz.ntmps142
 go_wp2_with fail
 refine HY.out.mono ?_;rintro e w1 ⟨rfl,hb1⟩
 go_wp2
 go_ret2
 exact⟨aU (by simp) rfl,hb1⟩
theorem aI4(w:World):(Instr.index 163 kY (.int .u8 1)).run Tryz.prog w=.ok (.agg #[.func (.func 140) #[] #[],.func (.func 141) #[] #[]]) w:=by kernel_rfl
theorem aI3(w:World):(Instr.index 163 kY (.int .u8 2)).run Tryz.prog w=.ok (.agg #[.func (.func 142) #[] #[],.func (.func 144) #[] #[]]) w:=by kernel_rfl
theorem aI2(w:World):(Instr.index 163 kY (.int .u8 3)).run Tryz.prog w=.ok (.agg #[.func (.func 145) #[] #[],.func (.func 146) #[] #[]]) w:=by kernel_rfl
theorem qY(lo hi e:Int)(w:World):
 Calls Tryz.prog 119 #[.int .i64 lo,.int .i64 hi,.int .i64 e] w fun r w'=>r=.returned (.tuple #[.agg #[.int .i8 0,.int .i64 (if e=0 then lo else 0),.int .i8 0,.int .i64 (if e=0 then hi else 0)],.int .i64 e])/\Below w.heap.size w w':=by
 refine(TU lo hi e w).mono fun r w' ⟨h1,h2⟩=>⟨?_,h2⟩;rw[h1]
 by_cases he:e=0
 . rw[aFV he,aFV he,aFV he];rfl
 rw[aB9 he,aB9 he,aB9 he];rfl
theorem dR{w W:World}{a lo b hi:Value}{t:TypeId}(h:Below (w.alloc (.cells #[a,lo,b,hi] t)).heap.size (w.alloc (.cells #[a,lo,b,hi] t)) W):
 W.cell? ⟨w.heap.size,0,none⟩=some a/\W.cell? ⟨w.heap.size,1,none⟩=some lo/\W.cell? ⟨w.heap.size,2,none⟩=some b/\W.cell? ⟨w.heap.size,3,none⟩=some hi/\
 W.frozen? ⟨w.heap.size,0,none⟩=false/\W.frozen? ⟨w.heap.size,1,none⟩=false/\W.frozen? ⟨w.heap.size,2,none⟩=false/\W.frozen? ⟨w.heap.size,3,none⟩=false:=by
 refine⟨?_,?_,?_,?_,?_,?_,?_,?_⟩
 . rw[h.cell (by simp)];simp[go_sem]
 . rw[h.cell (by simp)];simp[go_sem]
 . rw[h.cell (by simp)];simp[go_sem]
 . rw[h.cell (by simp)];simp[go_sem]
 . rw[h.frozen (by simp)];simp[go_sem]
 . rw[h.frozen (by simp)];simp[go_sem]
 . rw[h.frozen (by simp)];simp[go_sem]
 rw[h.frozen (by simp)];simp[go_sem]
theorem P9(d i e lo hi f:Int)(w:World)(hs:fD w)
 (HI: ∀W,fD W->Calls Tryz.prog 140 #[.int .i64 d] W fun r w'=>r=.returned (.tuple #[.int .i64 i,.int .i64 e])/\Below W.heap.size W w')
 (HA: ∀W,fD W->Calls Tryz.prog 141 #[.int .i64 i] W fun r w'=>r=.returned (.tuple #[.int .i64 lo,.int .i64 hi,.int .i64 f])/\Below W.heap.size W w'):
 Calls Tryz.prog 85 #[.int .i64 d,.int .u8 1] w fun r w'=>r=.returned (.tuple #[rv 0 (if e=0 then(if f=0 then lo else 0)else 0) 0 (if e=0 then(if f=0 then hi else 0)else 0),.int .i64 (if e=0 then f else e)])/\Below w.heap.size w w':=by
 replace HI:=GK HI;replace HA:=GK HA;have HS:=GK hs;clear hs;have K:=aI4;unfold kY at K
 by_cases he:e=0
 . subst he;rw[aFV rfl,aFV rfl,aFV rfl];have HR:=fun W=>qY lo hi f W;generalize (if f=0 then lo else 0)=L at HR ⊢;generalize (if f=0 then hi else 0)=H at HR ⊢;replace HR:=GK HR
   go_enter Tryz.func85,Tryz.ntmps85
   go_wp2_with (first|(go_at_call 117;refine(gQ _ _ (by omega) (by omega)).mono ?_;rintro e w' ⟨rfl,rfl⟩))
   refine(oV _).mono ?_;rintro e w1 ⟨rfl,hb1⟩;unfold kY
   go_wp2_with fail
   have c1:fD (w1.alloc (.cells #[.func (.func 140) #[] #[],.func (.func 141) #[] #[]] 162)):=HS.out.below (ba (bt (ba (aAL _ _) _) hb1) _);refine(HI.out _ c1).mono ?_;rintro e w2 ⟨rfl,hb2⟩;have r1:w2.cell? ⟨w1.heap.size,1,none⟩=some (.func (.func 141) #[] #[]):=by
    rw[hb2.cell (by simp)];simp[go_sem]
   go_wp2_with fail
   refine(HA.out _ (c1.below hb2)).mono ?_;rintro e w3 ⟨rfl,hb3⟩
   go_wp2_with fail
   refine(HR.out _).mono ?_;rintro e w4 ⟨rfl,hb4⟩;have hB:=bt (bt (bt (ba hb1 _) hb2) hb3) hb4;obtain⟨q0,q1,q2,q3,z0,z1,z2,z3⟩:=dR hB
   go_wp2_with fail
   refine aG2 (v:=.tuple #[rv 0 L 0 H,.int .i64 f]) (by simp[results,Tryz.results85,go_sem,rv,q0,q1,q2,q3]) rfl ⟨rfl,?_⟩;exact((((bt (ba (aAL _ _) _) hB).setCell (aCU _) _).setCell (aCU _) _).setCell (aCU _) _).setCell (aCU _) _
 have t:(e !=0)=true:=by rw[aLa];exact he
 rw[aB9 he,aB9 he,aB9 he]
 go_enter Tryz.func85,Tryz.ntmps85
 go_wp2_with (first|(go_at_call 117;refine(gQ _ _ (by omega) (by omega)).mono ?_;rintro e w' ⟨rfl,rfl⟩))
 refine(oV _).mono ?_;rintro _ w1 ⟨rfl,hb1⟩;unfold kY
 go_wp2_with fail
 have c1:fD (w1.alloc (.cells #[.func (.func 140) #[] #[],.func (.func 141) #[] #[]] 162)):=HS.out.below (ba (bt (ba (aAL _ _) _) hb1) _);refine(HI.out _ c1).mono ?_;rintro _ w2 ⟨rfl,hb2⟩;replace he:=GK he;have hB:=bt (ba hb1 _) hb2;obtain⟨q0,q1,q2,q3,z0,z1,z2,z3⟩:=dR hB
 go_wp2_with fail
 refine aG2 (v:=.tuple #[rv 0 0 0 0,.int .i64 e]) (by simp[results,Tryz.results85,go_sem,rv,q0,q1,q2,q3]) rfl ⟨rfl,?_⟩;exact((((bt (ba (aAL _ _) _) hB).setCell (aCU _) _).setCell (aCU _) _).setCell (aCU _) _).setCell (aCU _) _
theorem P8(d i e lo hi f:Int)(w:World)(hs:fD w)
 (HI: ∀W,fD W->Calls Tryz.prog 142 #[.int .i64 d] W fun r w'=>r=.returned (.tuple #[.int .i64 i,.int .i64 e])/\Below W.heap.size W w')
 (HA: ∀W,fD W->Calls Tryz.prog 144 #[.int .i64 i] W fun r w'=>r=.returned (.tuple #[.int .i64 lo,.int .i64 hi,.int .i64 f])/\Below W.heap.size W w'):
 Calls Tryz.prog 85 #[.int .i64 d,.int .u8 2] w fun r w'=>r=.returned (.tuple #[rv 0 (if e=0 then(if f=0 then lo else 0)else 0) 0 (if e=0 then(if f=0 then hi else 0)else 0),.int .i64 (if e=0 then f else e)])/\Below w.heap.size w w':=by
 replace HI:=GK HI;replace HA:=GK HA;have HS:=GK hs;clear hs;have K:=aI3;unfold kY at K
 by_cases he:e=0
 . subst he;rw[aFV rfl,aFV rfl,aFV rfl];have HR:=fun W=>qY lo hi f W;generalize (if f=0 then lo else 0)=L at HR ⊢;generalize (if f=0 then hi else 0)=H at HR ⊢;replace HR:=GK HR
   go_enter Tryz.func85,Tryz.ntmps85
   go_wp2_with (first|(go_at_call 117;refine(gQ _ _ (by omega) (by omega)).mono ?_;rintro e w' ⟨rfl,rfl⟩))
   refine(oV _).mono ?_;rintro e w1 ⟨rfl,hb1⟩;unfold kY
   go_wp2_with fail
   have c1:fD (w1.alloc (.cells #[.func (.func 142) #[] #[],.func (.func 144) #[] #[]] 162)):=HS.out.below (ba (bt (ba (aAL _ _) _) hb1) _);refine(HI.out _ c1).mono ?_;rintro e w2 ⟨rfl,hb2⟩;have r1:w2.cell? ⟨w1.heap.size,1,none⟩=some (.func (.func 144) #[] #[]):=by
    rw[hb2.cell (by simp)];simp[go_sem]
   go_wp2_with fail
   refine(HA.out _ (c1.below hb2)).mono ?_;rintro e w3 ⟨rfl,hb3⟩
   go_wp2_with fail
   refine(HR.out _).mono ?_;rintro e w4 ⟨rfl,hb4⟩;have hB:=bt (bt (bt (ba hb1 _) hb2) hb3) hb4;obtain⟨q0,q1,q2,q3,z0,z1,z2,z3⟩:=dR hB
   go_wp2_with fail
   refine aG2 (v:=.tuple #[rv 0 L 0 H,.int .i64 f]) (by simp[results,Tryz.results85,go_sem,rv,q0,q1,q2,q3]) rfl ⟨rfl,?_⟩;exact((((bt (ba (aAL _ _) _) hB).setCell (aCU _) _).setCell (aCU _) _).setCell (aCU _) _).setCell (aCU _) _
 have t:(e !=0)=true:=by rw[aLa];exact he
 rw[aB9 he,aB9 he,aB9 he]
 go_enter Tryz.func85,Tryz.ntmps85
 go_wp2_with (first|(go_at_call 117;refine(gQ _ _ (by omega) (by omega)).mono ?_;rintro e w' ⟨rfl,rfl⟩))
 refine(oV _).mono ?_;rintro _ w1 ⟨rfl,hb1⟩;unfold kY
 go_wp2_with fail
 have c1:fD (w1.alloc (.cells #[.func (.func 142) #[] #[],.func (.func 144) #[] #[]] 162)):=HS.out.below (ba (bt (ba (aAL _ _) _) hb1) _);refine(HI.out _ c1).mono ?_;rintro _ w2 ⟨rfl,hb2⟩;replace he:=GK he;have hB:=bt (ba hb1 _) hb2;obtain⟨q0,q1,q2,q3,z0,z1,z2,z3⟩:=dR hB
 go_wp2_with fail
 refine aG2 (v:=.tuple #[rv 0 0 0 0,.int .i64 e]) (by simp[results,Tryz.results85,go_sem,rv,q0,q1,q2,q3]) rfl ⟨rfl,?_⟩;exact((((bt (ba (aAL _ _) _) hB).setCell (aCU _) _).setCell (aCU _) _).setCell (aCU _) _).setCell (aCU _) _
theorem PZ(d i e lo hi f:Int)(w:World)(hs:fD w)
 (HI: ∀W,fD W->Calls Tryz.prog 145 #[.int .i64 d] W fun r w'=>r=.returned (.tuple #[.int .i64 i,.int .i64 e])/\Below W.heap.size W w')
 (HA: ∀W,fD W->Calls Tryz.prog 146 #[.int .i64 i] W fun r w'=>r=.returned (.tuple #[.int .i64 lo,.int .i64 hi,.int .i64 f])/\Below W.heap.size W w'):
 Calls Tryz.prog 85 #[.int .i64 d,.int .u8 3] w fun r w'=>r=.returned (.tuple #[rv 0 (if e=0 then(if f=0 then lo else 0)else 0) 0 (if e=0 then(if f=0 then hi else 0)else 0),.int .i64 (if e=0 then f else e)])/\Below w.heap.size w w':=by
 replace HI:=GK HI;replace HA:=GK HA;have HS:=GK hs;clear hs;have K:=aI2;unfold kY at K
 by_cases he:e=0
 . subst he;rw[aFV rfl,aFV rfl,aFV rfl];have HR:=fun W=>qY lo hi f W;generalize (if f=0 then lo else 0)=L at HR ⊢;generalize (if f=0 then hi else 0)=H at HR ⊢;replace HR:=GK HR
   go_enter Tryz.func85,Tryz.ntmps85
   go_wp2_with (first|(go_at_call 117;refine(gQ _ _ (by omega) (by omega)).mono ?_;rintro e w' ⟨rfl,rfl⟩))
   refine(oV _).mono ?_;rintro e w1 ⟨rfl,hb1⟩;unfold kY
   go_wp2_with fail
   have c1:fD (w1.alloc (.cells #[.func (.func 145) #[] #[],.func (.func 146) #[] #[]] 162)):=HS.out.below (ba (bt (ba (aAL _ _) _) hb1) _);refine(HI.out _ c1).mono ?_;rintro e w2 ⟨rfl,hb2⟩;have r1:w2.cell? ⟨w1.heap.size,1,none⟩=some (.func (.func 146) #[] #[]):=by
    rw[hb2.cell (by simp)];simp[go_sem]
   go_wp2_with fail
   refine(HA.out _ (c1.below hb2)).mono ?_;rintro e w3 ⟨rfl,hb3⟩
   go_wp2_with fail
   refine(HR.out _).mono ?_;rintro e w4 ⟨rfl,hb4⟩;have hB:=bt (bt (bt (ba hb1 _) hb2) hb3) hb4;obtain⟨q0,q1,q2,q3,z0,z1,z2,z3⟩:=dR hB
   go_wp2_with fail
   refine aG2 (v:=.tuple #[rv 0 L 0 H,.int .i64 f]) (by simp[results,Tryz.results85,go_sem,rv,q0,q1,q2,q3]) rfl ⟨rfl,?_⟩;exact((((bt (ba (aAL _ _) _) hB).setCell (aCU _) _).setCell (aCU _) _).setCell (aCU _) _).setCell (aCU _) _
 have t:(e !=0)=true:=by rw[aLa];exact he
 rw[aB9 he,aB9 he,aB9 he]
 go_enter Tryz.func85,Tryz.ntmps85
 go_wp2_with (first|(go_at_call 117;refine(gQ _ _ (by omega) (by omega)).mono ?_;rintro e w' ⟨rfl,rfl⟩))
 refine(oV _).mono ?_;rintro _ w1 ⟨rfl,hb1⟩;unfold kY
 go_wp2_with fail
 have c1:fD (w1.alloc (.cells #[.func (.func 145) #[] #[],.func (.func 146) #[] #[]] 162)):=HS.out.below (ba (bt (ba (aAL _ _) _) hb1) _);refine(HI.out _ c1).mono ?_;rintro _ w2 ⟨rfl,hb2⟩;replace he:=GK he;have hB:=bt (ba hb1 _) hb2;obtain⟨q0,q1,q2,q3,z0,z1,z2,z3⟩:=dR hB
 go_wp2_with fail
 refine aG2 (v:=.tuple #[rv 0 0 0 0,.int .i64 e]) (by simp[results,Tryz.results85,go_sem,rv,q0,q1,q2,q3]) rfl ⟨rfl,?_⟩;exact((((bt (ba (aAL _ _) _) hB).setCell (aCU _) _).setCell (aCU _) _).setCell (aCU _) _).setCell (aCU _) _
def kS(p d:Int):Int × Int × Int:=if p=3 then(d,d,0)else if -10000000000000000<=bT d/\bT d<=10000000000000000 then(if p=1 then(st (bT d),st (bT d+1) - 1,0)else(st (bT d)+bY (bT d) (AL (bT d) (d - st (bT d))),st (bT d)+bY (bT d) (AL (bT d) (d - st (bT d))+1) - 1,0))else(0,0,6)
theorem VJ(d:Int)(w:World)(hs:fD w):
 Calls Tryz.prog 85 #[.int .i64 d,.int .u8 3] w fun r w'=>r=.returned (.tuple #[rv 0 d 0 d,.int .i64 0])/\Below w.heap.size w w':=
 PZ d d 0 d d 0 w hs (fun W _=>(aB5 d W).mono fun r w' ⟨h1,h2⟩=>⟨h1,by rw[<-h2];exact aAL _ _⟩) (fun W _=>(aB4 d W).mono fun r w' ⟨h1,h2⟩=>⟨h1,by rw[<-h2];exact aAL _ _⟩)
theorem VL(d:Int)(w:World)(hs:fD w)(h0: -9223372036854775808<=d)(h1:d<9223372036854775808):
 Calls Tryz.prog 85 #[.int .i64 d,.int .u8 1] w fun r w'=>r=.returned (.tuple #[rv 0 (kS 1 d).1 0 (kS 1 d).2.1,.int .i64 (kS 1 d).2.2])/\Below w.heap.size w w':=by
 have h:=P9 d _ _ _ _ _ w hs (fun W c=>zB d W c.steps h0 h1) (fun W c=>mY _ W c);refine h.mono fun r w' ⟨e,b⟩=>⟨?_,b⟩;rw[e];unfold kS oI
 by_cases c: -10000000000000000<=bT d/\bT d<=10000000000000000
 . simp[c]
 simp[c]
theorem aFJ(d:Int)(c: -10000000000000000<=bT d/\bT d<=10000000000000000):
 pI (12 * (bZ d).1+(bZ d).2.1 - 1)=(st (bT d)+bY (bT d) (AL (bT d) (d - st (bT d))),st (bT d)+bY (bT d) (AL (bT d) (d - st (bT d))+1) - 1,0):=by
 have e:bZ d=(bT d,AL (bT d) (d - st (bT d)),0):=by unfold bZ;rw[aFV c]
 obtain⟨s1,s2⟩:=gK d;obtain⟨m0,m1,-,-⟩:=@lS (bT d) (d - st (bT d)) (by omega) (by have:=st_succ (bT d);omega);rw[e];dsimp only;generalize AL (bT d) (d - st (bT d))=m at m0 m1 ⊢;have q:(12 * bT d+m - 1) / 12=bT d:=by omega
 have r:(12 * bT d+m - 1) % 12=m - 1:=by omega
 unfold pI;rw[q,r,aFV c,show m - 1+1=m by omega,show m - 1+2=m+1 by omega]
theorem VK(d:Int)(w:World)(hs:fD w)(h0: -9223372036854775808<=d)(h1:d<9223372036854775808):
 Calls Tryz.prog 85 #[.int .i64 d,.int .u8 2] w fun r w'=>r=.returned (.tuple #[rv 0 (kS 2 d).1 0 (kS 2 d).2.1,.int .i64 (kS 2 d).2.2])/\Below w.heap.size w w':=by
 obtain⟨b1,b2,b3,b4⟩:=FP d;have h:=P8 d _ _ _ _ _ w hs (fun W c=>aB6 d W c h0 h1) (fun W c=>lJ _ W c (by omega) (by omega));refine h.mono fun r w' ⟨e,b⟩=>⟨?_,b⟩;rw[e]
 by_cases c: -10000000000000000<=bT d/\bT d<=10000000000000000
 . rw[aFJ d c];unfold kS bZ;simp[c]
 unfold kS bZ;simp[c]
theorem PY(d p:Int)(w:World)(h0:0<=p)(h1:p<256)(hp:p<1\/3<p):
 Calls Tryz.prog 85 #[.int .i64 d,.int .u8 p] w fun r w'=>r=.returned (.tuple #[rv 0 0 0 0,.int .i64 18])/\Below w.heap.size w w':=by
 have t:decide (1<=p/\p<=3)=false:=aCw (by omega);have HK:=fun W=>gQ p W h0 h1;rw[t]at HK;replace HK:=GK HK;clear t hp
 go_enter Tryz.func85,Tryz.ntmps85
 go_wp2_with (first|(go_at_call 117;refine(HK.out _).mono ?_;rintro e w' ⟨rfl,rfl⟩))
 refine aG2 (v:=.tuple #[rv 0 0 0 0,.int .i64 18]) (by simp[results,Tryz.results85,go_sem,rv]) rfl ⟨rfl,?_⟩;exact ba (aAL _ _) _
def aI(p d:Int):Int × Int × Int:=if p<1\/3<p then(0,0,18)else kS p d
theorem qP(d p:Int)(w:World)(hs:fD w)(h0: -9223372036854775808<=d)(h1:d<9223372036854775808)(p0:0<=p)(p1:p<256):
 Calls Tryz.prog 85 #[.int .i64 d,.int .u8 p] w fun r w'=>r=.returned (.tuple #[rv 0 (aI p d).1 0 (aI p d).2.1,.int .i64 (aI p d).2.2])/\Below w.heap.size w w':=by
 unfold aI
 by_cases hp:p<1\/3<p
 . rw[aFV hp];exact PY d p w p0 p1 hp
 rw[aB9 hp];obtain rfl|rfl|rfl:p=1\/p=2\/p=3:=by omega
 . exact VL d w hs h0 h1
 . exact VK d w hs h0 h1
 exact VJ d w hs
end Un
end
section
open Go.RowKit
namespace Un
open Cal
end Un
end
section
open Go.RowKit
namespace Un
open Cal
end Un
end
section
open Go.RowKit
namespace Un
open Cal
end Un
end
section
open Go.RowKit
namespace Un
open Cal
end Un
end
section
open Go.RowKit
namespace Un
open Cal
def QI(p i:Int):Int × Int × Int:=if p<1\/3<p then(0,0,18)else if p=3 then(i,i,0)else if p=1 then(if -10000000000000000<=i/\i<=10000000000000000 then(st i,st (i+1) - 1,0)else(0,0,6))else pI i
end Un
end
section
open Go.RowKit Go.Lib
namespace Bk
open Un (ba bt ri rb aU bF)
def yv(neg long:Bool)(s:ByteArray)(ex sig:Int):Value:=.agg #[.bool neg,.bool long,.string s,.int .i64 ex,.int .i64 sig]
structure Ym(p:Nat)(neg long:Bool)(s:ByteArray)(ex sig:Int)(w W:World):Prop where
 c0:W.cell? ⟨p,0,none⟩=some (.bool neg)
 c1:W.cell? ⟨p,1,none⟩=some (.bool long)
 c2:W.cell? ⟨p,2,none⟩=some (.string s)
 c3:W.cell? ⟨p,3,none⟩=some (.int .i64 ex)
 c4:W.cell? ⟨p,4,none⟩=some (.int .i64 sig)
 below:Below w.heap.size w W
theorem Ym.later{p:Nat}{neg long:Bool}{s:ByteArray}{ex sig:Int}{w W W2:World}(h:Ym p neg long s ex sig w W)(hb:Below W.heap.size W W2):Ym p neg long s ex sig w W2:=
 have g: ∀ {p:Addr} {v:Value},W.cell? p=some v->W2.cell? p=some v:=fun{p v} hc=>(hb.cell (aOK _ _ hc)).trans hc
 ⟨g h.c0,g h.c1,g h.c2,g h.c3,g h.c4,bt h.below hb⟩
theorem Ym.new(neg long:Bool)(s:ByteArray)(ex sig:Int)(w:World)(t:TypeId):Ym w.heap.size neg long s ex sig w (w.alloc (.cells #[.bool neg,.bool long,.string s,.int .i64 ex,.int .i64 sig] t)):=by
 refine⟨?_,?_,?_,?_,?_,ba (aAL _ _) _⟩<;>simp[go_sem]
theorem Ym.drew'{p:Nat}{neg long:Bool}{s:ByteArray}{ex sig:Int}{w W:World}(h:Ym p neg long s ex sig w W):Ym p neg long s ex sig w W.drew:=h.later (aAL _ _).drew
theorem nP(neg long:Bool)(s:ByteArray)(ex sig:Int)(w:World):
 Calls Tryz.prog 132 #[yv neg long s ex sig] w fun r w'=>r=.returned (.bool (hasB 88 s))/\Below w.heap.size w w':=by
 have HC: ∀W,Calls Tryz.prog 84 #[.string s,.string ⟨#[88]⟩] W fun e w'=>e=.returned (.bool (hasB 88 s))/\w'=W:=by
  intro W;have:=Tryz.strings_Contains_one s 88 W;rw[nH]at this;exact this
 replace HC:=GK HC;unfold yv
 go_enter Tryz.func132,Tryz.ntmps132
 go_wp2_with (go_at_call 84;with_reducible refine(HC.out _).mono ?_;rintro _ w' ⟨rfl,rfl⟩)
 go_ret
 exact⟨rfl,ba (aAL _ _) _⟩
def G8(m:Int):Int × Int:=if m<=10000000000000000 then(m,0)else(0,6)
theorem parse_any(s:ByteArray)(hd:allB bG s=true)(h1:1<=s.size)(h2:s.size<=17)(W:World):
 Calls Tryz.prog 193 #[.string s,.int .i64 10,.int .i64 64] W fun e w'=>e=.returned (.tuple #[.int .i64 (iT s),.nilIface])/\Below W.heap.size W w':=by
 have hl:s.data.toList.length=s.size:=by simp
 have hp:=UM s.data.toList (fun e=>by rw[e]at hl;have:([]:List UInt8).length=0:=rfl;omega) (yI hd) (by omega);refine(Tryz.strconv_ParseInt_10_at64_ok s (by omega) _ hp W).mono ?_;rintro e w' ⟨rfl,h⟩;refine⟨rfl,?_⟩;rcases h with rfl|⟨t,rfl⟩
 . exact aAL _ _
 exact aWU _ _ _
theorem uZ(neg long:Bool)(s:ByteArray)(e:Nat)(sig:Int)(w:World)(hd:allB bG s=true)(h1:1<=s.size)(h2:s.size<=17)(he:e<=16):
 Calls Tryz.prog 155 #[yv neg long s e sig] w fun r w'=>r=.returned (.tuple #[.int .i64 (G8 (fK s e)).1,.int .i64 (G8 (fK s e)).2])/\Below w.heap.size w w':=by
 have HP:=GK (fun w=>parse_any s hd h1 h2 w);have HT:=GK (fun w=>RF e w (by omega));have hs:=aDL hd h2;have hs0:=wW s;have hp:=aHW e (by omega);have hM:=fun w=>mul_any (iT s) (p10 e) w hs0 (by omega) (by omega) (by omega);have hv:fK s e=iT s * p10 e:=by unfold fK;rw[aPS]
 have hv0:=nS s e;have hx:mulC (iT s) (p10 e)=if fK s e<=9223372036854775807 then(fK s e,0)else(0,15):=by unfold mulC;rw[hv]
 rw[hx]at hM;clear hx hv hd;generalize fK s e=v at *;generalize iT s=n at *;generalize p10 e=p at *;unfold yv;have hY:=Ym.new neg long s e sig w 35
 by_cases c:v<=10000000000000000
 . have HM:Hid (∀w:World,Calls Tryz.prog 195 #[.int .i64 n,.int .i64 p] w fun r w'=>r=.returned (.tuple #[.int .i64 v,.int .i64 0])/\Below w.heap.size w w'):=GK (by intro w;have:=hM w;rw[aFV (by omega)]at this;exact this);clear hM;have hR:G8 v=(v,0):=by unfold G8;rw[aFV c]
   rw[hR]
   go_enter Tryz.func155,Tryz.ntmps155
   go_upto_region 1 with(fail)
   generalize w.alloc (.cells #[.bool neg,.bool long,.string s,.int .i64 e,.int .i64 sig] 35)=W0 at hY ⊢;obtain⟨q0,q1,q2,q3,q4,qB⟩:=id hY
   go_wp2_with (first
    |(go_at_call 193;with_reducible refine(HP.out _).mono ?_;rintro _ w' ⟨rfl,hb⟩;replace hY:=hY.later hb;clear hb;obtain⟨q0,q1,q2,q3,q4,qB⟩:=id hY)
    |(go_at_call 194;with_reducible refine(HT.out _).mono ?_;rintro _ w' ⟨rfl,rfl⟩)
    |(go_at_call 195;with_reducible refine(HM.out _).mono ?_;rintro _ w' ⟨rfl,hb⟩;replace hY:=hY.later hb;clear hb;obtain⟨q0,q1,q2,q3,q4,qB⟩:=id hY))
   go_ret2
   exact⟨rfl,hY.below⟩
 have HM:Hid (∀w:World,Calls Tryz.prog 195 #[.int .i64 n,.int .i64 p] w fun r w'=>(∃y x:Int,(x≠0\/10000000000000000<y)/\r=.returned (.tuple #[.int .i64 y,.int .i64 x]))/\Below w.heap.size w w'):=GK (by
  intro w;have:=hM w
  by_cases c2:v<=9223372036854775807
  . rw[aFV c2]at this;exact this.mono fun r w' ⟨h1,h2⟩=>⟨⟨v,0,Or.inr (by omega),h1⟩,h2⟩
  rw[aB9 c2]at this;exact this.mono fun r w' ⟨h1,h2⟩=>⟨⟨0,15,Or.inl (by omega),h1⟩,h2⟩)
 clear hM;have hR:G8 v=(0,6):=by unfold G8;rw[aB9 c]
 rw[hR]
 go_enter Tryz.func155,Tryz.ntmps155
 go_upto_region 1 with(fail)
 generalize w.alloc (.cells #[.bool neg,.bool long,.string s,.int .i64 e,.int .i64 sig] 35)=W0 at hY ⊢;obtain⟨q0,q1,q2,q3,q4,qB⟩:=id hY
 go_wp2_with (first
  |(go_at_call 193;with_reducible refine(HP.out _).mono ?_;rintro _ w' ⟨rfl,hb⟩;replace hY:=hY.later hb;clear hb;obtain⟨q0,q1,q2,q3,q4,qB⟩:=id hY)
  |(go_at_call 194;with_reducible refine(HT.out _).mono ?_;rintro _ w' ⟨rfl,rfl⟩)
  |(go_at_call 195;with_reducible refine(HM.out _).mono ?_;rintro _ w' ⟨⟨y,x,hxy,rfl⟩,hb⟩;replace hY:=hY.later hb;clear hb;obtain⟨q0,q1,q2,q3,q4,qB⟩:=id hY))
 all_goals go_ret2
 all_goals first|exact⟨rfl,hY.below⟩|(exfalso;omega)
theorem QH(neg long:Bool)(s:ByteArray)(ex sig:Int)(w:World)(hs:s.size<=1000):
 Calls Tryz.prog 154 #[yv neg long s ex sig] w fun r w'=>r=.returned (.bool (fM s ex))/\Below w.heap.size w w':=by
 have hY:=Ym.new neg long s ex sig w 35;have HO:=fun w=>YR s w;unfold CG at HO
 by_cases c1: ¬(1<=s.size)
 . have hF:fM s ex=false:=by
    unfold fM;simp;omega
   rw[hF];clear hF;clear HO;unfold yv
   go_enter Tryz.func154,Tryz.ntmps154
   go_upto_region 1 with(fail)
   generalize w.alloc (.cells #[.bool neg,.bool long,.string s,.int .i64 ex,.int .i64 sig] 35)=W0 at hY ⊢;obtain⟨q0,q1,q2,q3,q4,qB⟩:=id hY
   go_wp2_with fail
   go_ret
   exact⟨rfl,hY.below⟩
 replace c1:1<=s.size:=by omega
 by_cases c2: ¬(s.size<=17)
 . have hF:fM s ex=false:=by
    unfold fM;simp;omega
   rw[hF];clear hF;clear HO;unfold yv
   go_enter Tryz.func154,Tryz.ntmps154
   go_upto_region 1 with(fail)
   generalize w.alloc (.cells #[.bool neg,.bool long,.string s,.int .i64 ex,.int .i64 sig] 35)=W0 at hY ⊢;obtain⟨q0,q1,q2,q3,q4,qB⟩:=id hY
   go_wp2_with fail
   go_ret
   exact⟨rfl,hY.below⟩
 replace c2:s.size<=17:=by omega
 by_cases c3: ¬(allB bG s=true)
 . have hF:fM s ex=false:=by
    unfold fM;rw[aRC]at c3;simp[c3]
   rw[hF];clear hF;rw[show allB bG s=false by simpa using c3]at HO;replace HO:=GK HO;clear c3;unfold yv
   go_enter Tryz.func154,Tryz.ntmps154
   go_upto_region 1 with(fail)
   generalize w.alloc (.cells #[.bool neg,.bool long,.string s,.int .i64 ex,.int .i64 sig] 35)=W0 at hY ⊢;obtain⟨q0,q1,q2,q3,q4,qB⟩:=id hY
   go_wp2_with (first|(go_at_call 152;with_reducible refine(HO.out _).mono ?_;rintro _ w' ⟨rfl,hb⟩;replace hY:=hY.later hb;clear hb;obtain⟨q0,q1,q2,q3,q4,qB⟩:=id hY))
   go_ret
   exact⟨rfl,hY.below⟩
 have hd:allB bG s=true:=by simpa using c3
 rw[hd]at HO;replace HO:=GK HO;clear c3;have l0:0<s.size:=by omega
 by_cases c4: ¬(aY s 0≠48)
 . have hF:fM s ex=false:=by
    unfold fM;have:aY s 0=48:=by omega
    simp[this]
   have c4b:((s[0]'l0).toNat:Int)=48:=by rw[<-bQ s 0 l0];omega
   rw[hF];clear hF;unfold yv
   go_enter Tryz.func154,Tryz.ntmps154
   go_upto_region 1 with(fail)
   generalize w.alloc (.cells #[.bool neg,.bool long,.string s,.int .i64 ex,.int .i64 sig] 35)=W0 at hY ⊢;obtain⟨q0,q1,q2,q3,q4,qB⟩:=id hY
   go_wp2_with (first|(go_at_call 152;with_reducible refine(HO.out _).mono ?_;rintro _ w' ⟨rfl,hb⟩;replace hY:=hY.later hb;clear hb;obtain⟨q0,q1,q2,q3,q4,qB⟩:=id hY))
   go_ret
   exact⟨rfl,hY.below⟩
 have c4':aY s 0≠48:=by simpa using c4
 clear c4;have c4b: ¬(((s[0]'(by omega)).toNat:Int)=48):=by rw[<-bQ s 0 (by omega)];exact c4'
 have l0:0<s.size:=by omega
 by_cases c5: ¬(0<=ex)
 . have hF:fM s ex=false:=by
    unfold fM;simp;omega
   rw[hF];clear hF;unfold yv
   go_enter Tryz.func154,Tryz.ntmps154
   go_upto_region 1 with(fail)
   generalize w.alloc (.cells #[.bool neg,.bool long,.string s,.int .i64 ex,.int .i64 sig] 35)=W0 at hY ⊢;obtain⟨q0,q1,q2,q3,q4,qB⟩:=id hY
   go_wp2_with (first|(go_at_call 152;with_reducible refine(HO.out _).mono ?_;rintro _ w' ⟨rfl,hb⟩;replace hY:=hY.later hb;clear hb;obtain⟨q0,q1,q2,q3,q4,qB⟩:=id hY))
   go_ret
   exact⟨rfl,hY.below⟩
 replace c5:0<=ex:=by omega
 by_cases c6: ¬(ex<=16)
 . have hF:fM s ex=false:=by
    unfold fM;simp;omega
   rw[hF];clear hF;unfold yv
   go_enter Tryz.func154,Tryz.ntmps154
   go_upto_region 1 with(fail)
   generalize w.alloc (.cells #[.bool neg,.bool long,.string s,.int .i64 ex,.int .i64 sig] 35)=W0 at hY ⊢;obtain⟨q0,q1,q2,q3,q4,qB⟩:=id hY
   go_wp2_with (first|(go_at_call 152;with_reducible refine(HO.out _).mono ?_;rintro _ w' ⟨rfl,hb⟩;replace hY:=hY.later hb;clear hb;obtain⟨q0,q1,q2,q3,q4,qB⟩:=id hY))
   go_ret
   exact⟨rfl,hY.below⟩
 replace c6:ex<=16:=by omega
 by_cases c7: ¬(¬(ex=0/\s.size<5))
 . have hF:fM s ex=false:=by
    unfold fM;have h1:ex=0:=by omega
    have h2:s.size<5:=by omega
    simp[h1,h2]
   rw[hF];clear hF;unfold yv
   go_enter Tryz.func154,Tryz.ntmps154
   go_upto_region 1 with(fail)
   generalize w.alloc (.cells #[.bool neg,.bool long,.string s,.int .i64 ex,.int .i64 sig] 35)=W0 at hY ⊢;obtain⟨q0,q1,q2,q3,q4,qB⟩:=id hY;have c7a:ex=0:=by omega
   have c7b:s.size<5:=by omega
   go_wp2_with (first|(go_at_call 152;with_reducible refine(HO.out _).mono ?_;rintro _ w' ⟨rfl,hb⟩;replace hY:=hY.later hb;clear hb;obtain⟨q0,q1,q2,q3,q4,qB⟩:=id hY))
   go_ret
   exact⟨rfl,hY.below⟩
 replace c7: ¬(ex=0/\s.size<5):=by omega
 obtain⟨e,rfl⟩: ∃e:Nat,ex=e:=⟨ex.toNat,by omega⟩;have hG:=fun w=>uZ neg long s e sig w hd c1 c2 (by omega);have hL:fM s e=decide (fK s e<=10000000000000000):=by
  unfold fM;have h7:(decide ((e:Int)=0)&&decide (s.size<5))=false:=by
   rw[aMP];intro h;simp at h;omega
  rw[hd,h7];simp[c1,c2,c4',show(e:Int)<=16 by omega]
 rw[hL];clear hL;generalize fK s e=v at *;clear hd;have hE:(((e:Int)==0)=true/\ ¬(s.size:Int)<5)\/((e:Int)==0)=false:=by
  by_cases h0:(e:Int)=0
  . exact .inl ⟨by rw[h0];rfl,by omega⟩
  exact .inr (by rw[aAO];exact h0)
 rcases hE with⟨hE,hE2⟩|hE
 all_goals
  by_cases c:v<=10000000000000000
  . rw[show G8 v=(v,0) by unfold G8;rw[aFV c]]at hG;have HG:=GK hG;clear hG;unfold yv at HG;rw[aAP c];unfold yv
    go_enter Tryz.func154,Tryz.ntmps154
    go_upto_region 1 with(fail)
    generalize w.alloc (.cells #[.bool neg,.bool long,.string s,.int .i64 e,.int .i64 sig] 35)=W0 at hY ⊢;obtain⟨q0,q1,q2,q3,q4,qB⟩:=id hY
    go_wp2_with (first|(go_at_call 152;with_reducible refine(HO.out _).mono ?_;rintro _ w' ⟨rfl,hb⟩;replace hY:=hY.later hb;clear hb;obtain⟨q0,q1,q2,q3,q4,qB⟩:=id hY)|(go_at_call 155;with_reducible refine(HG.out _).mono ?_;rintro _ w' ⟨rfl,hb⟩;replace hY:=hY.later hb;clear hb;obtain⟨q0,q1,q2,q3,q4,qB⟩:=id hY))
    all_goals go_ret
    all_goals first|exact⟨rfl,hY.below⟩|(exfalso;omega)|(exfalso;rename_i h;simp only[aFZ]at h;omega)
  rw[show G8 v=(0,6) by unfold G8;rw[aB9 c]]at hG;have HG:=GK hG;clear hG;unfold yv at HG;rw[aCw c];unfold yv
  go_enter Tryz.func154,Tryz.ntmps154
  go_upto_region 1 with(fail)
  generalize w.alloc (.cells #[.bool neg,.bool long,.string s,.int .i64 e,.int .i64 sig] 35)=W0 at hY ⊢;obtain⟨q0,q1,q2,q3,q4,qB⟩:=id hY
  go_wp2_with (first|(go_at_call 152;with_reducible refine(HO.out _).mono ?_;rintro _ w' ⟨rfl,hb⟩;replace hY:=hY.later hb;clear hb;obtain⟨q0,q1,q2,q3,q4,qB⟩:=id hY)|(go_at_call 155;with_reducible refine(HG.out _).mono ?_;rintro _ w' ⟨rfl,hb⟩;replace hY:=hY.later hb;clear hb;obtain⟨q0,q1,q2,q3,q4,qB⟩:=id hY))
  all_goals go_ret
  all_goals first|exact⟨rfl,hY.below⟩|(exfalso;omega)|(exfalso;rename_i h;simp only[aFZ]at h;omega)
end Bk
end
section
open Go.RowKit Go.Lib
namespace Bk
open Un (ba bt ri rb aU bF)
theorem aEn(s:ByteArray):(Lib.trimB s.data.toList 48=[])↔allB ZO s=true:=by
 rw[<-trimS_one,aEm];unfold allB ZO;rw[aJL,aJL];constructor
 . intro h b hb;have:=h b hb;rw[aFZ]at this;subst this;rfl
 intro h b hb;have:=aK1 (h b hb);rw[aFZ];exact aWy.1 (by show b.toNat=48;omega)
theorem aEo(s:ByteArray)(hs:s.size<=1000)(W:World):
 Calls Tryz.prog 153 #[.string s,.string ⟨#[48]⟩] W fun e w'=>(∃t:List UInt8,(t=[]↔allB ZO s=true)/\e=.returned (.string ⟨t.toArray⟩))/\Below W.heap.size W w':=by
 refine(Tryz.strings_Trim_one s 48 (by decide) W (by omega)).mono ?_;rintro e w' ⟨rfl,h⟩;refine⟨⟨_,aEn s,rfl⟩,?_⟩;rcases h with rfl|rfl
 . exact aAL _ _
 exact(aAL _ _).drew
theorem JH (neg long:Bool) (s:ByteArray) (ex sig:Int) (w:World) (hs:s.size<=1000):
 Calls Tryz.prog 131 #[yv neg long s ex sig] w fun r w'=>r=.returned (.int .i64 (if GN neg long s ex sig then 0 else 6))/\Below w.heap.size w w':=by
 obtain⟨R,hR⟩: ∃R:Int,R=if GN neg long s ex sig then 0 else 6:=⟨_,rfl⟩
 rw[<-hR];replace hR:=GK hR;have hY:=Ym.new neg long s ex sig w 35;have hO:=fun w=>aE3 s w;unfold XC at hO;have hT:=fun w=>aEo s hs w;have HM:=GK (fun w=>nP neg long s ex sig w);have HL:=GK (fun w=>QH neg long s ex sig w hs);unfold yv at HM HL;unfold yv
 go_enter Tryz.func131,Tryz.ntmps131
 go_upto_region 1 with(fail)
 generalize w.alloc (.cells #[.bool neg,.bool long,.string s,.int .i64 ex,.int .i64 sig] 35)=W0 at hY ⊢;obtain⟨q0,q1,q2,q3,q4,qB⟩:=id hY;obtain⟨S,hS⟩: ∃S,S=gX neg s ex sig:=⟨_,rfl⟩;replace hS:=GK hS
 go_cut [3] (fun s3 wx=>s3=.bool S/\Ym w.heap.size neg long s ex sig w wx)
 case first=>
  clear HL
  by_cases c1: ¬s.size=4
  . have hF:gX neg s ex sig=false:=by unfold gX;simp[c1]
    obtain rfl:S=false:=hS.out.trans hF;clear hF hS hO hT HM
    go_wp2_with fail
    go_meet
    exact⟨rfl,hY⟩
  replace c1:s.size=4:=by omega
  by_cases c2:allB bU s=true
  case neg=>
   have hF:gX neg s ex sig=false:=by unfold gX;simp[c2]
   obtain rfl:S=false:=hS.out.trans hF;clear hF hS hT HM;rw[show allB bU s=false by simpa using c2]at hO;have HO:=GK hO;clear hO c2
   go_wp2_with (first|(go_at_call 152;with_reducible refine(HO.out _).mono ?_;rintro _ w' ⟨rfl,hb⟩;replace hY:=hY.later hb;clear hb;obtain⟨q0,q1,q2,q3,q4,qB⟩:=id hY))
   go_meet
   exact⟨rfl,hY⟩
  rw[c2]at hO;have HO:=GK hO;clear hO
  by_cases c3: ¬ex=0
  . have hF:gX neg s ex sig=false:=by unfold gX;simp[c3]
    obtain rfl:S=false:=hS.out.trans hF;clear hF hS hT HM c2
    go_wp2_with (first|(go_at_call 152;with_reducible refine(HO.out _).mono ?_;rintro _ w' ⟨rfl,hb⟩;replace hY:=hY.later hb;clear hb;obtain⟨q0,q1,q2,q3,q4,qB⟩:=id hY))
    go_meet
    exact⟨rfl,hY⟩
  obtain rfl:ex=0:=by omega
  have hF:gX neg s 0 sig=(!(neg&&allB ZO s)&& !(!decide (sig=0)&&hasB 88 s)):=by unfold gX;simp[c1,c2]
  have hV:=hS.out.trans hF;clear hF hS c2 c3;generalize hasB 88 s=x at HM hV
  cases neg
  . clear hT
    by_cases c4:sig=0
    . subst c4;obtain rfl:S=true:=by rw[hV];simp
      clear hV HM
      go_wp2_with (first|(go_at_call 152;with_reducible refine(HO.out _).mono ?_;rintro _ w' ⟨rfl,hb⟩;replace hY:=hY.later hb;clear hb;obtain⟨q0,q1,q2,q3,q4,qB⟩:=id hY))
      go_meet
      exact⟨rfl,hY⟩
    have c4b:(sig !=0)=true:=by rw[aLa];exact c4
    cases x
    . obtain rfl:S=true:=by rw[hV];simp
      clear hV
      go_wp2_with (first|(go_at_call 152;with_reducible refine(HO.out _).mono ?_;rintro _ w' ⟨rfl,hb⟩;replace hY:=hY.later hb;clear hb;obtain⟨q0,q1,q2,q3,q4,qB⟩:=id hY)|(go_at_call 132;with_reducible refine(HM.out _).mono ?_;rintro _ w' ⟨rfl,hb⟩;replace hY:=hY.later hb;clear hb;obtain⟨q0,q1,q2,q3,q4,qB⟩:=id hY))
      go_meet
      exact⟨rfl,hY⟩
    obtain rfl:S=false:=by rw[hV];simp[c4]
    clear hV
    go_wp2_with (first|(go_at_call 152;with_reducible refine(HO.out _).mono ?_;rintro _ w' ⟨rfl,hb⟩;replace hY:=hY.later hb;clear hb;obtain⟨q0,q1,q2,q3,q4,qB⟩:=id hY)|(go_at_call 132;with_reducible refine(HM.out _).mono ?_;rintro _ w' ⟨rfl,hb⟩;replace hY:=hY.later hb;clear hb;obtain⟨q0,q1,q2,q3,q4,qB⟩:=id hY))
    go_meet
    exact⟨rfl,hY⟩
  cases hz:allB ZO s
  . rw [hz]at hT hV;have HT:Hid (∀W,Calls Tryz.prog 153 #[.string s,.string ⟨#[48]⟩] W fun e w'=>(∃u:ByteArray,u.toList.isEmpty=false/\e=.returned (.string u))/\Below W.heap.size W w'):=GK (by
     intro W;refine(hT W).mono ?_;rintro e w' ⟨⟨t,ht,h⟩,hb⟩;refine⟨⟨_,?_,h⟩,hb⟩;rw[aVz]
     cases t with
     |nil=>exact absurd (ht.1 rfl) (by decide)
     |cons a b=>rfl)
    clear hT hz
    by_cases c4:sig=0
    . subst c4;obtain rfl:S=true:=by rw[hV];simp
      clear hV HM
      go_wp2_with (first|(go_at_call 152;with_reducible refine(HO.out _).mono ?_;rintro _ w' ⟨rfl,hb⟩;replace hY:=hY.later hb;clear hb;obtain⟨q0,q1,q2,q3,q4,qB⟩:=id hY)|(go_at_call 153;with_reducible refine(HT.out _).mono ?_;rintro _ w' ⟨⟨u,hu,rfl⟩,hb⟩;replace hY:=hY.later hb;clear hb;obtain⟨q0,q1,q2,q3,q4,qB⟩:=id hY))
      go_meet
      exact⟨rfl,hY⟩
    have c4b:(sig !=0)=true:=by rw[aLa];exact c4
    cases x
    . obtain rfl:S=true:=by rw[hV];simp
      clear hV
      go_wp2_with (first|(go_at_call 152;with_reducible refine(HO.out _).mono ?_;rintro _ w' ⟨rfl,hb⟩;replace hY:=hY.later hb;clear hb;obtain⟨q0,q1,q2,q3,q4,qB⟩:=id hY)|(go_at_call 153;with_reducible refine(HT.out _).mono ?_;rintro _ w' ⟨⟨u,hu,rfl⟩,hb⟩;replace hY:=hY.later hb;clear hb;obtain⟨q0,q1,q2,q3,q4,qB⟩:=id hY)|(go_at_call 132;with_reducible refine(HM.out _).mono ?_;rintro _ w' ⟨rfl,hb⟩;replace hY:=hY.later hb;clear hb;obtain⟨q0,q1,q2,q3,q4,qB⟩:=id hY))
      go_meet
      exact⟨rfl,hY⟩
    obtain rfl:S=false:=by rw[hV];simp[c4]
    clear hV
    go_wp2_with (first|(go_at_call 152;with_reducible refine(HO.out _).mono ?_;rintro _ w' ⟨rfl,hb⟩;replace hY:=hY.later hb;clear hb;obtain⟨q0,q1,q2,q3,q4,qB⟩:=id hY)|(go_at_call 153;with_reducible refine(HT.out _).mono ?_;rintro _ w' ⟨⟨u,hu,rfl⟩,hb⟩;replace hY:=hY.later hb;clear hb;obtain⟨q0,q1,q2,q3,q4,qB⟩:=id hY)|(go_at_call 132;with_reducible refine(HM.out _).mono ?_;rintro _ w' ⟨rfl,hb⟩;replace hY:=hY.later hb;clear hb;obtain⟨q0,q1,q2,q3,q4,qB⟩:=id hY))
    go_meet
    exact⟨rfl,hY⟩
  rw[hz]at hT hV;have HT:Hid (∀W,Calls Tryz.prog 153 #[.string s,.string ⟨#[48]⟩] W fun e w'=>e=.returned (.string ⟨#[]⟩)/\Below W.heap.size W w'):=GK (by
   intro W;refine(hT W).mono ?_;rintro e w' ⟨⟨t,ht,h⟩,hb⟩;obtain rfl:=ht.2 rfl;exact⟨h,hb⟩)
  clear hT hz;obtain rfl:S=false:=by rw[hV];rfl
  clear hV
  go_wp2_with (first|(go_at_call 152;with_reducible refine(HO.out _).mono ?_;rintro _ w' ⟨rfl,hb⟩;replace hY:=hY.later hb;clear hb;obtain⟨q0,q1,q2,q3,q4,qB⟩:=id hY)|(go_at_call 153;with_reducible refine(HT.out _).mono ?_;rintro _ w' ⟨rfl,hb⟩;replace hY:=hY.later hb;clear hb;obtain⟨q0,q1,q2,q3,q4,qB⟩:=id hY))
  go_meet
  exact⟨rfl,hY⟩
 case rest=>
  obtain⟨rfl,hY⟩:=hcut;obtain rfl:=hS.out;clear hS hO hT HM;obtain⟨q0,q1,q2,q3,q4,qB⟩:=id hY;have hR2:=hR.out;clear hR;unfold GN at hR2
  cases long
  . have hk:gX neg s ex sig=true->ex=0:=by unfold gX;intro h;simp at h;exact h.2.2.1
    simp only[aLe,aRv]at hR2;generalize gX neg s ex sig=ok at *;clear HL;have HR:=GK hR2;clear hR2
    cases ok
    . clear hk
      go_wp2_with fail
      go_ret
      exact⟨ri (by rw[HR.out];simp),hY.below⟩
    have hk2:ex=0:=hk rfl;clear hk
    by_cases d1:sig<0
    . go_wp2_with fail
      go_ret
      exact⟨ri (by rw[HR.out,show decide (0<=sig)=false from aCw (by omega)];rfl),hY.below⟩
    by_cases d2:sig<=s.size+ex
    . go_wp2_with fail
      go_ret
      exact⟨ri (by rw[HR.out,show decide (0<=sig)=true from aAP (by omega),show decide (sig<=s.size+ex)=true from aAP (by omega)];rfl),hY.below⟩
    go_wp2_with fail
    go_ret
    exact⟨ri (by rw[HR.out,show decide (sig<=s.size+ex)=false from aCw (by omega),aRI,aRI];rfl),hY.below⟩
  have hk:fM s ex=true->0<=ex/\ex<=16:=by unfold fM;intro h;simp at h;omega
  simp only[aTF]at hR2;generalize gX neg s ex sig=o2 at *;generalize fM s ex=ok at *;have HR:=GK hR2;clear hR2
  cases ok
  . clear hk
    go_wp2_with (first|(go_at_call 154;with_reducible refine(HL.out _).mono ?_;rintro _ w' ⟨rfl,hb⟩;replace hY:=hY.later hb;clear hb;obtain⟨q0,q1,q2,q3,q4,qB⟩:=id hY))
    go_ret
    exact⟨ri (by rw[HR.out];simp),hY.below⟩
  have hk2:=hk rfl;clear hk
  by_cases d1:sig<0
  . go_wp2_with (first|(go_at_call 154;with_reducible refine(HL.out _).mono ?_;rintro _ w' ⟨rfl,hb⟩;replace hY:=hY.later hb;clear hb;obtain⟨q0,q1,q2,q3,q4,qB⟩:=id hY))
    go_ret
    exact⟨ri (by rw[HR.out,show decide (0<=sig)=false from aCw (by omega)];rfl),hY.below⟩
  by_cases d2:sig<=s.size+ex
  . go_wp2_with (first|(go_at_call 154;with_reducible refine(HL.out _).mono ?_;rintro _ w' ⟨rfl,hb⟩;replace hY:=hY.later hb;clear hb;obtain⟨q0,q1,q2,q3,q4,qB⟩:=id hY))
    go_ret
    exact⟨ri (by rw[HR.out,show decide (0<=sig)=true from aAP (by omega),show decide (sig<=s.size+ex)=true from aAP (by omega)];rfl),hY.below⟩
  go_wp2_with (first|(go_at_call 154;with_reducible refine(HL.out _).mono ?_;rintro _ w' ⟨rfl,hb⟩;replace hY:=hY.later hb;clear hb;obtain⟨q0,q1,q2,q3,q4,qB⟩:=id hY))
  go_ret
  exact⟨ri (by rw[HR.out,show decide (sig<=s.size+ex)=false from aCw (by omega),aRI,aRI];rfl),hY.below⟩
def yVal(neg:Bool)(s:ByteArray)(ex:Int):Int:=if neg then -fK s ex else fK s ex
theorem zC(neg long:Bool)(s:ByteArray)(ex sig:Int)(w:World)(hs:s.size<=1000)(hk:GN neg long s ex sig=true)(hx:hasB 88 s=false):
 Calls Tryz.prog 133 #[yv neg long s ex sig] w fun r w'=>r=.returned (.tuple #[.int .i64 (yVal neg s ex),.int .i64 0])/\Below w.heap.size w w':=by
 have hK:=fun w=>JH neg long s ex sig w hs;have hM:=fun w=>nP neg long s ex sig w;rw[hk]at hK;rw[hx]at hM;have HK:=GK hK;have HM:=GK hM;clear hK hM;have hf: ∃e:Nat,ex=e/\e<=16/\allB bG s=true/\1<=s.size/\s.size<=17/\fK s ex<=10000000000000000:=by
  cases long
  . obtain⟨h1,h2,h3,_⟩:=iC hk;have hd:=(jV h2).1 hx;have:=nV hd h1;have hz:fK s 0=iT s:=by unfold fK p10;simp
    exact⟨0,h3,by omega,hd,by omega,by omega,by rw[h3,hz];omega⟩
  obtain⟨h1,h2,h3,h4,h5,h6,h7,_⟩:=jG hk;exact⟨ex.toNat,by omega,by omega,h3,h1,h2,h7⟩
 obtain⟨e,rfl,he,hd,h1,h2,hm⟩:=hf;have hG:=fun w=>uZ neg long s e sig w hd h1 h2 he;have hm0:=nS s e;unfold yVal;clear hd hk hx;generalize fK s e=v at *;rw[show G8 v=(v,0) by unfold G8;rw[aFV hm]]at hG;have HG:=GK hG;clear hG;unfold yv at HK HM HG;have hY:=Ym.new neg long s e sig w 35
 cases neg
 . unfold yv
   go_enter Tryz.func133,Tryz.ntmps133
   go_upto_region 1 with(fail)
   generalize w.alloc (.cells #[.bool false,.bool long,.string s,.int .i64 e,.int .i64 sig] 35)=W0 at hY ⊢;obtain⟨q0,q1,q2,q3,q4,qB⟩:=id hY
   go_wp2_with (first|(go_at_call 131;with_reducible refine(HK.out _).mono ?_;rintro _ w' ⟨rfl,hb⟩;replace hY:=hY.later hb;clear hb;obtain⟨q0,q1,q2,q3,q4,qB⟩:=id hY)|(go_at_call 132;with_reducible refine(HM.out _).mono ?_;rintro _ w' ⟨rfl,hb⟩;replace hY:=hY.later hb;clear hb;obtain⟨q0,q1,q2,q3,q4,qB⟩:=id hY)|(go_at_call 155;with_reducible refine(HG.out _).mono ?_;rintro _ w' ⟨rfl,hb⟩;replace hY:=hY.later hb;clear hb;obtain⟨q0,q1,q2,q3,q4,qB⟩:=id hY))
   go_ret2
   exact⟨rfl,hY.below⟩
 unfold yv
 go_enter Tryz.func133,Tryz.ntmps133
 go_upto_region 1 with(fail)
 generalize w.alloc (.cells #[.bool true,.bool long,.string s,.int .i64 e,.int .i64 sig] 35)=W0 at hY ⊢;obtain⟨q0,q1,q2,q3,q4,qB⟩:=id hY
 go_wp2_with (first|(go_at_call 131;with_reducible refine(HK.out _).mono ?_;rintro _ w' ⟨rfl,hb⟩;replace hY:=hY.later hb;clear hb;obtain⟨q0,q1,q2,q3,q4,qB⟩:=id hY)|(go_at_call 132;with_reducible refine(HM.out _).mono ?_;rintro _ w' ⟨rfl,hb⟩;replace hY:=hY.later hb;clear hb;obtain⟨q0,q1,q2,q3,q4,qB⟩:=id hY)|(go_at_call 155;with_reducible refine(HG.out _).mono ?_;rintro _ w' ⟨rfl,hb⟩;replace hY:=hY.later hb;clear hb;obtain⟨q0,q1,q2,q3,q4,qB⟩:=id hY))
 go_ret2
 exact⟨rfl,hY.below⟩
end Bk
end
section
open Go.RowKit Go.Lib
namespace Bk
open Un (ba bt ri rb aU bF gV fD)
open Cal
def dF(c:Int):Int:=if c=21\/c=25\/c=31 then 3 else if c=22\/c=26\/c=32 then 6 else if c=23\/c=27\/c=29\/c=39 then 9 else if c=24\/c=28\/c=30 then 12 else if c=34 then 4 else if c=35\/c=41 then 7 else if c=36 then 10 else if c=38 then 5 else 1
def eH(c:Int):Int:=if c<=36 then 3 else if c<=39 then 4 else 6
def qE(i:Nat):Int:=if i % 2=0 then dF (21+i / 2)else eH (21+i / 2)
structure lW(w:World):Prop where
 cal:fD w
 span: ∀i:Nat,i<42->w.cell? ⟨1,i,none⟩=some (.int .i64 (qE i))
 syn: ∃t p,w.cell? ⟨3,0,none⟩=some (.iface t p)
 ran: ∃t p,w.cell? ⟨4,0,none⟩=some (.iface t p)
theorem lW.below{w w':World}(h:lW w)(hb:Below w.heap.size w w'):lW w':=
 ⟨h.cal.below hb,fun i hi=>aRB hb (h.span i hi),by obtain⟨t,p,h⟩:=h.syn;exact⟨t,p,aRB hb h⟩,by obtain⟨t,p,h⟩:=h.ran;exact⟨t,p,aRB hb h⟩⟩
theorem aNk(s:ByteArray)(v:Int)(h:atoiAll s.data.toList=.ok v)(hs:s.size<=1000)(W:World):
 Calls Tryz.prog 129 #[.string s] W fun e w'=>e=.returned (.tuple #[.int .i64 v,.nilIface])/\Below W.heap.size W w':=by
 refine(Tryz.strconv_Atoi_ok s (by omega) v h W).mono ?_;rintro e w' ⟨rfl,h⟩;refine⟨rfl,?_⟩;rcases h with rfl|⟨t,rfl⟩
 . exact aAL _ _
 exact aWU _ _ _
theorem aJ8(s:ByteArray)(h: ∀v,atoiAll s.data.toList≠ .ok v)(hs:s.size<=1000)(W:World)(hk:lW W):
 Calls Tryz.prog 129 #[.string s] W fun e w'=>(∃x t p,e=.returned (.tuple #[.int .i64 x,.iface t p]))/\Below W.heap.size W w':=by
 obtain⟨t1,p1,h1⟩:=hk.syn;obtain⟨t2,p2,h2⟩:=hk.ran
 by_cases hh:atoiAll s.data.toList=.range
 . refine(Tryz.strconv_Atoi_range s (by omega) hh _ W h2 (.inr ⟨_,_,rfl⟩)).mono ?_;rintro e w' ⟨N,rfl,_,_,hb⟩;exact⟨⟨_,_,_,rfl⟩,hb⟩
 refine(Tryz.strconv_Atoi_syntax s (by omega) h hh _ W h1 (.inr ⟨_,_,rfl⟩)).mono ?_;rintro e w' ⟨N,rfl,_,_,hb⟩;exact⟨⟨_,_,_,rfl⟩,hb⟩
theorem aXt(pn pa pb pe:Addr)(n a b:Int)(u:FrameMode)(w:World)(hn:w.cell? pn=some (.int .i64 n))(ha:w.cell? pa=some (.int .i64 a))(hb:w.cell? pb=some (.int .i64 b))(h:decide (a<n)=decide (0<b)):
 CallsD Tryz.prog 177 #[.pointer (some pn),.pointer (some pa),.pointer (some pb),.pointer (some pe)] u w fun e u' w'=>u'=u/\(e=.returned (.tuple #[])/\w'=w):=by
 by_cases c:0<b
 . have c2:a<n:=by rw[aAP c]at h;exact aK1 h
   clear h
   go_enter_d Tryz.func177,Tryz.ntmps177
   go_wp2
   go_end0
   exact⟨rfl,rfl⟩
 have c2: ¬a<n:=by rw[aCw c]at h;exact aPA h
 clear h
 go_enter_d Tryz.func177,Tryz.ntmps177
 go_wp2
 go_end0
 exact⟨rfl,rfl⟩
theorem MO(a b:Int)(w:World)(a0: -9223372036854775808<=a)(a1:a<9223372036854775808)(b0:0<b)(b1:b<9223372036854775808)(h:a+b<9223372036854775808):
 Calls Tryz.prog 148 #[.int .i64 a,.int .i64 b] w fun r w'=>r=.returned (.tuple #[.int .i64 (a+b),.int .i64 0])/\Below w.heap.size w w':=by
 have hmf: ∀(fn:Fn) (first cap:Array Value) (w:World),(Instr.makeFunc fn first cap).run Tryz.prog w=.ok (.func fn first cap) w:=fun _ _ _ _=>rfl;have hb0: ¬b=0:=by omega
 go_enter_defers Tryz.func148,Tryz.ntmps148
 go_wp2
 refine leaves_cons (f:=177) (args:= #[.pointer (some ⟨w.heap.size+1+1,0,none⟩),.pointer (some ⟨w.heap.size,0,none⟩),.pointer (some ⟨w.heap.size+1,0,none⟩),.pointer (some ⟨w.heap.size+1+1+1,0,none⟩)]) (by simp) (by simp[go_sem]) ?_;refine(aXt _ _ _ _ (a+b) a b .returning _ (by simp[go_sem]) (by simp[go_sem]) (by simp[go_sem]) (by rw[aAP b0];exact aAP (by omega))).mono ?_;rintro e u' w'' ⟨rfl,rfl,rfl⟩;simp[Leaves,settle,results,Tryz.results148,go_sem];exact ba (ba (ba (ba (aAL _ _) _) _) _) _
def PL(y m k:Int):Int × Int:=((12 * y+(m - 1)+k) / 12,(12 * y+(m - 1)+k) % 12+1)
theorem U0(y m k:Int)(w:World)(h0: -10000000000000000<=y)(h1:y<=10000000000000000)(m0:1<=m)(m1:m<=12)(k0:0<k)(k1:k<=12)(hz:(PL y m k).1<=10000000000000000):
 Calls Tryz.prog 158 #[.int .i64 y,.int .i64 m,.int .i64 k] w fun r w'=>r=.returned (.tuple #[.int .i64 (PL y m k).1,.int .i64 (PL y m k).2,.int .i64 0])/\Below w.heap.size w w':=by
 have HC:Hid (∀w:World,Calls Tryz.prog 162 #[.int .i64 y,.int .i64 m] w fun e w'=>e=.returned (.int .i64 0)/\w=w'):=GK (by
  intro w;have:=Un.jH y m w;unfold Un.rW at this;rw[aFV ⟨h0,h1⟩,aFV ⟨m0,m1⟩]at this;exact this)
 have HA:=GK (fun w=>MO (12 * y+(m - 1)) k w (by omega) (by omega) k0 (by omega) (by omega));have hA1: -9223372036854775808<=12 * y+(m - 1)+k:=by omega
 have hA2:12 * y+(m - 1)+k<9223372036854775808:=by omega
 have HD:=GK (fun w=>Un.uG (12 * y+(m - 1)+k) 12 w (by omega) (by omega) hA1 hA2);have HM:=GK (fun w=>Un.I4 (12 * y+(m - 1)+k) 12 w (by omega) (by omega) hA1 hA2);unfold PL at *;have g0: -10000000000000000<=(12 * y+(m - 1)+k) / 12:=by omega
 have g1:(12 * y+(m - 1)+k) / 12<=10000000000000000:=hz;have HY:=GK (fun w=>Un.gG ((12 * y+(m - 1)+k) / 12) w g0 g1);have g2:0<=(12 * y+(m - 1)+k) % 12:=by omega
 have g3:(12 * y+(m - 1)+k) % 12<12:=by omega
 clear hz g0 g1 hA1 hA2;generalize (12 * y+(m - 1)+k) / 12=q at *;generalize (12 * y+(m - 1)+k) % 12=r at *
 go_enter Tryz.func158,Tryz.ntmps158
 go_wp2_with (first
  |(go_at_call 162;with_reducible refine(HC.out _).mono ?_;rintro _ w' ⟨rfl,rfl⟩)
  |(go_at_call 148;with_reducible refine(HA.out _).mono ?_;rintro _ w' ⟨rfl,hb⟩)
  |(go_at_call 168;with_reducible refine(HD.out _).mono ?_;rintro _ w' ⟨rfl,rfl⟩)
  |(go_at_call 169;with_reducible refine(HM.out _).mono ?_;rintro _ w' ⟨rfl,rfl⟩)
  |(go_at_call 173;with_reducible refine(HY.out _).mono ?_;rintro _ w' ⟨rfl,rfl⟩))
 go_ret3
 exact⟨rfl,hb⟩
theorem U1(y m k:Int)(w:World)(h0: -10000000000000000<=y)(h1:y<=10000000000000000)(m0:1<=m)(m1:m<=12)(k0:0<k)(k1:k<=12)(hz:10000000000000000<(PL y m k).1):
 Calls Tryz.prog 158 #[.int .i64 y,.int .i64 m,.int .i64 k] w fun r w'=>r=.returned (.tuple #[.int .i64 0,.int .i64 0,.int .i64 6])/\Below w.heap.size w w':=by
 have HC:Hid (∀w:World,Calls Tryz.prog 162 #[.int .i64 y,.int .i64 m] w fun e w'=>e=.returned (.int .i64 0)/\w=w'):=GK (by
  intro w;have:=Un.jH y m w;unfold Un.rW at this;rw[aFV ⟨h0,h1⟩,aFV ⟨m0,m1⟩]at this;exact this)
 have HA:=GK (fun w=>MO (12 * y+(m - 1)) k w (by omega) (by omega) k0 (by omega) (by omega));have hA1: -9223372036854775808<=12 * y+(m - 1)+k:=by omega
 have hA2:12 * y+(m - 1)+k<9223372036854775808:=by omega
 have HD:=GK (fun w=>Un.uG (12 * y+(m - 1)+k) 12 w (by omega) (by omega) hA1 hA2);have HM:=GK (fun w=>Un.I4 (12 * y+(m - 1)+k) 12 w (by omega) (by omega) hA1 hA2);unfold PL at *;have g1:10000000000000000<(12 * y+(m - 1)+k) / 12:=hz;have HY:=GK (fun w=>Un.kP ((12 * y+(m - 1)+k) / 12) w (.inr g1));clear hz g1 hA1 hA2;generalize (12 * y+(m - 1)+k) / 12=q at *;generalize (12 * y+(m - 1)+k) % 12=r at *
 go_enter Tryz.func158,Tryz.ntmps158
 go_wp2_with (first
  |(go_at_call 162;with_reducible refine(HC.out _).mono ?_;rintro _ w' ⟨rfl,rfl⟩)
  |(go_at_call 148;with_reducible refine(HA.out _).mono ?_;rintro _ w' ⟨rfl,hb⟩)
  |(go_at_call 168;with_reducible refine(HD.out _).mono ?_;rintro _ w' ⟨rfl,rfl⟩)
  |(go_at_call 169;with_reducible refine(HM.out _).mono ?_;rintro _ w' ⟨rfl,rfl⟩)
  |(go_at_call 173;with_reducible refine(HY.out _).mono ?_;rintro _ w' ⟨rfl,rfl⟩))
 go_ret3
 exact⟨rfl,hb⟩
theorem aPq{c:Int}(h0:21<=c)(h1:c<=41):qE ((c - 21).toNat * 2)=dF c/\qE ((c - 21).toNat * 2+1)=eH c:=by
 unfold qE;have e:((c - 21).toNat * 2) / 2=(c - 21).toNat:=by omega
 have e2:((c - 21).toNat * 2+1) / 2=(c - 21).toNat:=by omega
 have e3:(21:Int)+(((c - 21).toNat:Nat):Int)=c:=by omega
 constructor
 . rw[aFV (by omega),show(21:Int)+((((c - 21).toNat * 2:Nat):Int) / 2)=c by omega]
 rw[aB9 (by omega),show(21:Int)+((((c - 21).toNat * 2+1:Nat):Int) / 2)=c by omega]
theorem vI(c:Int)(w:World)(hk:lW w)(h0:21<=c)(h1:c<=41):
 Calls Tryz.prog 156 #[.int .i64 c] w fun r w'=>r=.returned (.tuple #[.int .i64 (dF c),.int .i64 (eH c),.int .i64 0])/\Below w.heap.size w w':=by
 have HC:Hid (∀w:World,Calls Tryz.prog 130 #[.int .i64 c] w fun e w'=>e=.returned (.int .i64 0)/\w=w'):=GK (by
  intro w;have:=yR c w;rw[aFV ⟨h0,h1⟩]at this;exact this)
 obtain⟨n,rfl⟩: ∃n:Nat,c=(n:Int)+21:=⟨(c - 21).toNat,by omega⟩;obtain⟨e0,e1⟩:=aPq h0 h1;rw[show ((n:Int)+21 - 21).toNat=n by omega]at e0 e1;have s0:=hk.span (n * 2) (by omega);have s1:=hk.span (n * 2+1) (by omega);rw[e0]at s0;rw[e1]at s1;clear e0 e1 hk;have l0:n<21:=by omega
 generalize dF ((n:Int)+21)=a at *;generalize eH ((n:Int)+21)=b at *
 go_enter Tryz.func156,Tryz.ntmps156
 go_wp2_with (go_at_call 130;with_reducible refine(HC.out _).mono ?_;rintro _ w' ⟨rfl,rfl⟩)
 go_quiet (fail)
 go_wp2
 go_ret3
 exact⟨rfl,below_drewN (ba (aAL _ _) _) _⟩
def DC(c:Int):Int:=if dF c+eH c - 1<=12 then dF c+eH c - 1 else dF c+eH c - 13
def iO(y c:Int):Int:=if dF c+eH c - 1<=12 then y else y+1
def rv(lo hi:Int):Value:=.agg #[.int .i8 0,.int .i64 lo,.int .i8 0,.int .i64 hi]
theorem KD(y c:Int)(w:World)(hk:lW w)(h0: -10000000000000000<=y)(h1:y<=10000000000000000)(c0:21<=c)(c1:c<=41)(hz:iO y c<=10000000000000000):
 Calls Tryz.prog 134 #[.int .i64 y,.int .i64 c] w fun r w'=>r=.returned (.tuple #[rv (st y+bY y (dF c)) (st (iO y c)+bY (iO y c) (DC c+1) - 1),.int .i64 0])/\Below w.heap.size w w':=by
 have hf:1<=dF c/\dF c<=12/\3<=eH c/\eH c<=6/\dF c+eH c<=15:=by unfold dF eH;(repeat' split)<;>omega
 have HM:=GK (fun W hb=>vI c W (hk.below (w':=W) hb) c0 c1);have HS:=GK (fun W hb=>Un.iP y (dF c) W (hk.below (w':=W) hb).cal h0 h1 hf.1 hf.2.1);have HA:Hid (∀w:World,Calls Tryz.prog 158 #[.int .i64 y,.int .i64 (dF c),.int .i64 (eH c - 1)] w fun r w'=>r=.returned (.tuple #[.int .i64 (iO y c),.int .i64 (DC c),.int .i64 0])/\Below w.heap.size w w'):=GK (by
  intro w;have e:PL y (dF c) (eH c - 1)=(iO y c,DC c):=by
   unfold PL iO DC
   split<;>(refine Prod.ext ?_ ?_<;>simp only[]<;>omega)
  have:=U0 y (dF c) (eH c - 1) w h0 h1 hf.1 hf.2.1 (by omega) (by omega) (by rw[e];exact hz);rw[e]at this;exact this)
 have y0: -10000000000000000<=iO y c:=by unfold iO;split<;>omega
 have t0:1<=DC c/\DC c<=12:=by unfold DC;split<;>omega
 have HE:=GK (fun W hb=>Un.BG (iO y c) (DC c) W (hk.below (w':=W) hb).cal y0 hz t0.1 t0.2);generalize st y+bY y (dF c)=lo at *;generalize st (iO y c)+bY (iO y c) (DC c+1) - 1=hi at *;obtain⟨f0,f1,f2,f3,f4⟩:=hf;generalize dF c=sf at *;generalize eH c=sm at *;generalize iO y c=sy at *;generalize DC c=so at *;clear hk hz y0 t0;unfold rv
 go_enter Tryz.func134,Tryz.ntmps134
 go_wp2_with fail
 refine(HM.out _ (ba (aAL _ _) _)).mono ?_;rintro _ w1 ⟨rfl,hb1⟩
 go_wp2_with fail
 refine(HS.out _ (bt (ba (aAL _ _) _) hb1)).mono ?_;rintro _ w2 ⟨rfl,hb2⟩
 go_wp2_with fail
 refine(HA.out _).mono ?_;rintro _ w3 ⟨rfl,hb3⟩
 go_wp2_with fail
 refine(HE.out _ (bt (bt (bt (ba (aAL _ _) _) hb1) hb2) hb3)).mono ?_;rintro _ w4 ⟨rfl,hb4⟩;have hB:=bt (bt (bt hb1 hb2) hb3) hb4;obtain⟨q0,q1,q2,q3,z0,z1,z2,z3⟩:=Un.dR hB
 go_wp2_with fail
 refine aG2 (v:=.tuple #[.agg #[.int .i8 0,.int .i64 lo,.int .i8 0,.int .i64 hi],.int .i64 0]) (by simp[results,Tryz.results134,go_sem,q0,q1,q2,q3]) rfl ⟨rfl,?_⟩;exact((((bt (ba (aAL _ _) _) hB).setCell (aCU _) _).setCell (aCU _) _).setCell (aCU _) _).setCell (aCU _) _
theorem aBa(y c:Int)(w:World)(hk:lW w)(h0: -10000000000000000<=y)(h1:y<=10000000000000000)(c0:21<=c)(c1:c<=41)(hz:10000000000000000<iO y c):
 Calls Tryz.prog 134 #[.int .i64 y,.int .i64 c] w fun r w'=>r=.returned (.tuple #[rv 0 0,.int .i64 6])/\Below w.heap.size w w':=by
 have hf:1<=dF c/\dF c<=12/\3<=eH c/\eH c<=6/\dF c+eH c<=15:=by unfold dF eH;(repeat' split)<;>omega
 have HM:=GK (fun W hb=>vI c W (hk.below (w':=W) hb) c0 c1);have HS:=GK (fun W hb=>Un.iP y (dF c) W (hk.below (w':=W) hb).cal h0 h1 hf.1 hf.2.1);have HA:Hid (∀w:World,Calls Tryz.prog 158 #[.int .i64 y,.int .i64 (dF c),.int .i64 (eH c - 1)] w fun r w'=>r=.returned (.tuple #[.int .i64 0,.int .i64 0,.int .i64 6])/\Below w.heap.size w w'):=GK (by
  intro w;have e:(PL y (dF c) (eH c - 1)).1=iO y c:=by
   unfold PL iO
   split<;>(simp only[];omega)
  exact U1 y (dF c) (eH c - 1) w h0 h1 hf.1 hf.2.1 (by omega) (by omega) (by rw[e];exact hz))
 generalize st y+bY y (dF c)=lo at *;obtain⟨f0,f1,f2,f3,f4⟩:=hf;generalize dF c=sf at *;generalize eH c=sm at *;clear hk hz;unfold rv
 go_enter Tryz.func134,Tryz.ntmps134
 go_wp2_with fail
 refine(HM.out _ (ba (aAL _ _) _)).mono ?_;rintro _ w1 ⟨rfl,hb1⟩
 go_wp2_with fail
 refine(HS.out _ (bt (ba (aAL _ _) _) hb1)).mono ?_;rintro _ w2 ⟨rfl,hb2⟩
 go_wp2_with fail
 refine(HA.out _).mono ?_;rintro _ w3 ⟨rfl,hb3⟩;have hB:=bt (bt hb1 hb2) hb3;obtain⟨q0,q1,q2,q3,z0,z1,z2,z3⟩:=Un.dR hB
 go_wp2_with fail
 refine aG2 (v:=.tuple #[.agg #[.int .i8 0,.int .i64 0,.int .i8 0,.int .i64 0],.int .i64 6]) (by simp[results,Tryz.results134,go_sem,q0,q1,q2,q3]) rfl ⟨rfl,?_⟩;exact((((bt (ba (aAL _ _) _) hB).setCell (aCU _) _).setCell (aCU _) _).setCell (aCU _) _).setCell (aCU _) _
end Bk
end
section
open Go.RowKit Go.Lib
namespace Bk
open Un (ba bt ri rb aU bF)
structure Dm(p:Nat)(d:Dt)(w W:World):Prop where
 c0:W.cell? ⟨p,0,none⟩=some (.bool d.neg)
 c1:W.cell? ⟨p,1,none⟩=some (.bool d.long)
 c2:W.cell? ⟨p,2,none⟩=some (.string d.dg)
 c3:W.cell? ⟨p,3,none⟩=some (.int .i64 d.ex)
 c4:W.cell? ⟨p,4,none⟩=some (.int .i64 d.sig)
 c5:W.cell? ⟨p,5,none⟩=some (.string d.mo)
 c6:W.cell? ⟨p,6,none⟩=some (.string d.da)
 c7:W.cell? ⟨p,7,none⟩=some (.int .u8 d.m0)
 c8:W.cell? ⟨p,8,none⟩=some (.int .u8 d.m1)
 c9:W.cell? ⟨p,9,none⟩=some (.int .u8 d.m2)
 below:Below w.heap.size w W
theorem Dm.later{p:Nat}{d:Dt}{w W W2:World}(h:Dm p d w W)(hb:Below W.heap.size W W2):Dm p d w W2:=
 have g: ∀ {p:Addr} {v:Value},W.cell? p=some v->W2.cell? p=some v:=fun{p v} hc=>(hb.cell (aOK _ _ hc)).trans hc
 ⟨g h.c0,g h.c1,g h.c2,g h.c3,g h.c4,g h.c5,g h.c6,g h.c7,g h.c8,g h.c9,bt h.below hb⟩
theorem Dm.new(d:Dt)(w:World)(t:TypeId):Dm w.heap.size d w (w.alloc (.cells #[.bool d.neg,.bool d.long,.string d.dg,.int .i64 d.ex,.int .i64 d.sig,.string d.mo,.string d.da,.int .u8 d.m0,.int .u8 d.m1,.int .u8 d.m2] t)):=by
 refine⟨?_,?_,?_,?_,?_,?_,?_,?_,?_,?_,ba (aAL _ _) _⟩<;>simp[go_sem]
theorem TD{s:ByteArray}(h: ¬s.size=2)(n:Int):jD s n=false:=by unfold jD;rw[aCw h,aRW]
theorem J6{s:ByteArray}(h: ¬s.size=2)(g:Nat):dP s g=false:=by
 unfold dP;rw[List.any_eq_false];intro i _;rw[TD h];decide
theorem aDX{s:ByteArray}(h:s.size=2)(n:Int):jD s n=((decide (((s[0]'(by omega)).toNat:Int)=88)||decide (((s[0]'(by omega)).toNat:Int)=48+n / 10))&&(decide (((s[1]'(by omega)).toNat:Int)=88)||decide (((s[1]'(by omega)).toNat:Int)=48+n % 10))):=by
 unfold jD;rw[aAP h,aQT,bQ s 0 (by omega),bQ s 1 (by omega)]
theorem TB{x0 x1:Int}{q r:Int}{a0 a1 b0 b1:Bool}(h0:(x0==88)=a0)(h1:(x0==48+q)=a1)(h2:(x1==88)=b0)(h3:(x1==48+r)=b1):
 ((decide (x0=88)||decide (x0=48+q))&&(decide (x1=88)||decide (x1=48+r)))=((a0||a1)&&(b0||b1)):=by
 subst h0 h1 h2 h3;rfl
theorem OD(s:ByteArray)(g:Nat)(w:World)(hg:g<=99):
 Calls Tryz.prog 107 #[.string s,.int .i64 g] w fun r w'=>r=.returned (.bool (dP s g))/\Below w.heap.size w w':=by
 by_cases c:s.size=2
 case neg=>
  rw[J6 c]
  go_enter Tryz.func107,Tryz.ntmps107
  go_wp2
  go_ret
  exact⟨rfl,aAL _ _⟩
 have HA:=GK (aDX c);have HM:=GK (fun(k:Nat) (h:k<g) (ht:jD s ((k:Int)+1)=true)=>(J7 (s:=s) (g:=k+1) (h:=g) (by omega) (by rw[tH,ht,aV7]):dP s g=true));have HN:=GK (fun(k:Nat) (h:dP s k=false) (ht:jD s ((k:Int)+1)=false)=>(by rw[tH,h,ht];rfl:dP s (k+1)=false));have l0:0<s.size:=by omega
 have l1:1<s.size:=by omega
 go_enter Tryz.func107,Tryz.ntmps107
 go_wp2
 go_loopw [5] (fun i wr=> ∃k:Nat,k<=g/\i=.int .i64 ((k:Int)+1)/\dP s k=false/\Below w.heap.size w wr) (fun i _=>g+1 - (intOf i).toNat)
 case atStart=>exact⟨0,aKS _,rfl,rfl,aAL _ _⟩
 case round=>
  obtain⟨k,hk,rfl,hz,hb⟩:=hrel
  by_cases hlt:k<g
  . have hA:=HA.out ((k:Int)+1);obtain⟨a0,g0⟩: ∃b,(((s[0]'l0).toNat:Int)==88)=b:=⟨_,rfl⟩;obtain⟨a1,g1⟩: ∃b,(((s[0]'l0).toNat:Int)==48+((k:Int)+1) / 10)=b:=⟨_,rfl⟩;obtain⟨b0,g2⟩: ∃b,(((s[1]'l1).toNat:Int)==88)=b:=⟨_,rfl⟩;obtain⟨b1,g3⟩: ∃b,(((s[1]'l1).toNat:Int)==48+((k:Int)+1) % 10)=b:=⟨_,rfl⟩;rw[TB g0 g1 g2 g3]at hA;have HB:=GK hb;have HZ:=GK hz;have HA2:=GK hA;clear hb hz hA;have q0:0<=((k:Int)+1) / 10:=by omega
    have q1:((k:Int)+1) / 10<=9:=by omega
    have r0:0<=((k:Int)+1) % 10:=by omega
    have r1:((k:Int)+1) % 10<=9:=by omega
    have HBt:=GK (fun W (h:Below wr.heap.size wr W)=>bt HB.out h)
    cases a0<;>cases a1<;>cases b0<;>cases b1
    all_goals
     as_aux_lemma=>
      go_wp2
      go_quiet (fail)
      go_wp2
      first
      | (go_ret
         exact⟨rb (HM.out k hlt HA2.out).symm,HBt.out _ (below_drewN (ba (aAL _ _) _) _)⟩)
      | (go_roundw
         case rel=>exact⟨k+1,by omega,by go_num,HN.out k HZ.out HA2.out,HBt.out _ (below_drewN (ba (aAL _ _) _) _)⟩
         case measure=>simp[intOf];omega)
  obtain rfl:k=g:=by omega
  have HB:=GK hb;have HZ:=GK hz;clear hb hz
  go_wp2
  go_ret
  exact⟨rb HZ.out.symm,HB.out⟩
theorem QD(s:ByteArray):(s.toList==(⟨#[]⟩:ByteArray).toList)=decide (s.size=0):=by
 rw[<-aM6,show(⟨#[]⟩:ByteArray).toList=[]from by kernel_rfl]
 cases s.toList<;>rfl
theorem aGg(d:Dt)(w:World):
 Calls Tryz.prog 109 #[aW d] w fun r w'=>r=.returned (.int .i64 (comps d.mo d.da))/\Below w.heap.size w w':=
 Sk.rJ (Sk.aOX d w) (by rw[QD,QD];unfold comps;simp only[aG3,aFK];(repeat' split)<;>rfl)
theorem zI(d:Dt)(w:World)(hk:lW w)(hs:d.mo.size<=1000):
 Calls Tryz.prog 105 #[aW d] w fun r w'=>r=.returned (.tuple #[.int .i64 d.aH,.bool (!decide (d.aH=0))])/\Below w.heap.size w w':=by
 have hD:=Dm.new d w 37;have HE:(∃v,atoiAll d.mo.data.toList=.ok v)\/ ∀v,atoiAll d.mo.data.toList≠ .ok v:=by
  cases h:atoiAll d.mo.data.toList
  . exact .inl ⟨_,rfl⟩
  . exact .inr (fun v e=>by cases e)
  exact .inr (fun v e=>by cases e)
 unfold Dt.aH aW;rcases HE with⟨v,hv⟩|hv
 . have HA:=GK (fun W=>aNk d.mo v hv hs W)
   by_cases c:d.mo.size=2
   . rw[aAy c hv];have HC:=fun W=>yR v W;clear hv
     by_cases cv:21<=v/\v<=41
     . rw[aFV cv]at HC ⊢;have ev:decide (v=0)=false:=aCw (by omega);rw[ev];replace HC:=GK HC;clear cv ev
       go_enter Tryz.func105,Tryz.ntmps105
       go_upto_region 1 with(fail)
       generalize w.alloc (.cells #[.bool d.neg,.bool d.long,.string d.dg,.int .i64 d.ex,.int .i64 d.sig,.string d.mo,.string d.da,.int .u8 d.m0,.int .u8 d.m1,.int .u8 d.m2] 37)=W0 at hD ⊢;obtain⟨q0,q1,q2,q3,q4,q5,q6,q7,q8,q9,qB⟩:=id hD
       go_wp2_with fail
       refine(HA.out _).mono ?_;rintro _ w1 ⟨rfl,hb⟩;replace hD:=hD.later hb;clear hb;obtain⟨q0,q1,q2,q3,q4,q5,q6,q7,q8,q9,qB⟩:=id hD
       go_wp2_with (go_at_call 130;with_reducible refine(HC.out _).mono ?_;rintro _ w' ⟨rfl,rfl⟩)
       go_ret2
       exact⟨rfl,hD.below⟩
     rw[aB9 cv]at HC ⊢;replace HC:=GK HC;clear cv
     go_enter Tryz.func105,Tryz.ntmps105
     go_upto_region 1 with(fail)
     generalize w.alloc (.cells #[.bool d.neg,.bool d.long,.string d.dg,.int .i64 d.ex,.int .i64 d.sig,.string d.mo,.string d.da,.int .u8 d.m0,.int .u8 d.m1,.int .u8 d.m2] 37)=W0 at hD ⊢;obtain⟨q0,q1,q2,q3,q4,q5,q6,q7,q8,q9,qB⟩:=id hD
     go_wp2_with fail
     refine(HA.out _).mono ?_;rintro _ w1 ⟨rfl,hb⟩;replace hD:=hD.later hb;clear hb;obtain⟨q0,q1,q2,q3,q4,q5,q6,q7,q8,q9,qB⟩:=id hD
     go_wp2_with (go_at_call 130;with_reducible refine(HC.out _).mono ?_;rintro _ w' ⟨rfl,rfl⟩)
     go_ret2
     exact⟨rfl,hD.below⟩
   rw[E5 c];clear hv;have c2:((d.mo.size:Int) !=2)=true:=by rw[aLa];omega
   clear c
   go_enter Tryz.func105,Tryz.ntmps105
   go_upto_region 1 with(fail)
   generalize w.alloc (.cells #[.bool d.neg,.bool d.long,.string d.dg,.int .i64 d.ex,.int .i64 d.sig,.string d.mo,.string d.da,.int .u8 d.m0,.int .u8 d.m1,.int .u8 d.m2] 37)=W0 at hD ⊢;obtain⟨q0,q1,q2,q3,q4,q5,q6,q7,q8,q9,qB⟩:=id hD
   go_wp2_with fail
   refine(HA.out _).mono ?_;rintro _ w1 ⟨rfl,hb⟩;replace hD:=hD.later hb;clear hb;obtain⟨q0,q1,q2,q3,q4,q5,q6,q7,q8,q9,qB⟩:=id hD
   go_wp2_with fail
   go_ret2
   exact⟨rfl,hD.below⟩
 have HA:=GK (fun W hb=>aJ8 d.mo hv hs W (hk.below (w':=W) hb));rw[aGo hv];clear hv
 go_enter Tryz.func105,Tryz.ntmps105
 go_upto_region 1 with(fail)
 generalize w.alloc (.cells #[.bool d.neg,.bool d.long,.string d.dg,.int .i64 d.ex,.int .i64 d.sig,.string d.mo,.string d.da,.int .u8 d.m0,.int .u8 d.m1,.int .u8 d.m2] 37)=W0 at hD ⊢;obtain⟨q0,q1,q2,q3,q4,q5,q6,q7,q8,q9,qB⟩:=id hD
 go_wp2_with fail
 refine(HA.out _ hD.below).mono ?_;rintro _ w1 ⟨⟨x,t,p,rfl⟩,hb⟩;replace hD:=hD.later hb;clear hb;obtain⟨q0,q1,q2,q3,q4,q5,q6,q7,q8,q9,qB⟩:=id hD
 go_wp2_with fail
 go_ret2
 exact⟨rfl,hD.below⟩
end Bk
end
section
open Go.RowKit Go.Lib
namespace Bk
open Un (ba bt ri rb aU bF)
theorem TP{neg long:Bool}{s:ByteArray}{ex sig:Int}(hk:GN neg long s ex sig=true)(hx:hasB 88 s=false): -10000000000000000<=yVal neg s ex/\yVal neg s ex<=10000000000000000:=by
 have h0:=nS s ex;have h1:fK s ex<=10000000000000000:=by
  cases long
  . obtain⟨h1,h2,h3,_⟩:=iC hk;have hd:=(jV h2).1 hx;have:=nV hd h1;have hz:fK s 0=iT s:=by unfold fK p10;simp
    rw[h3,hz];omega
  exact(jG hk).2.2.2.2.2.2.1
 unfold yVal
 split<;>omega
theorem QG(d:Dt)(w:World)(hk:lW w)(hs:d.mo.size<=1000)(hy:d.dg.size<=1000):
 Calls Tryz.prog 106 #[aW d] w fun r w'=>r=.returned (.bool d.lI)/\Below w.heap.size w w':=by
 have hK: ∀c:Int,(if d.JG then 0 else 6)=c->Sk.Same w 131 #[yv d.neg d.long d.dg d.ex d.sig] (.int .i64 c):=fun c e=>e ▸ fun W _=>JH d.neg d.long d.dg d.ex d.sig W hy;have hS:=fun W hb=>zI d W (hk.below (w':=W) hb) hs;have hM: ∀b,d.mask=b->Sk.Same w 132 #[yv d.neg d.long d.dg d.ex d.sig] (.bool b):=fun b e=>e ▸ fun W _=>nP d.neg d.long d.dg d.ex d.sig W;unfold Dt.lI Dt.far
 cases hok:d.JG
 . exact Sk.rJ (Sk.aR5 d w (hK 6 (by rw[hok];rfl))) rfl
 have h0:=hK 0 (by rw[hok];rfl)
 by_cases e1:d.aH=0
 . rw[e1]at hS;refine Sk.rJ (Sk.aR4 d w h0 hS) ?_;rw[QD,e1];by_cases c:0<d.sig<;>by_cases e:d.mo.size=0<;>simp[c,e]
 rw[aCw e1]at hS;have sb:21<=d.aH/\d.aH<=41:=(iZ d.mo).resolve_left e1
 cases hx:d.mask
 case true=>
  refine Sk.rJ (Sk.aR3 d d.aH w h0 hS (hM _ hx)) ?_;rw[QD];by_cases c:0<d.sig<;>by_cases e:d.mo.size=0<;>simp[c,e]
 have hy0: -10000000000000000<=yVal d.neg d.dg d.ex/\yVal d.neg d.dg d.ex<=10000000000000000:=TP hok hx;have hyv:(decide (d.mag=10000000000000000)&& !d.neg)=decide (yVal d.neg d.dg d.ex=10000000000000000):=by
  have:=nS d.dg d.ex;unfold yVal
  cases d.neg
  . rw[aTw,aUn];rfl
  rw[aVL,aRI];symm;apply aCw;simp only[aTF];omega
 have hV:=fun W (_:Below w.heap.size w W)=>zC d.neg d.long d.dg d.ex d.sig W hy hok hx;rw[hyv];generalize yVal d.neg d.dg d.ex=y at *;have aJk:((decide (d.aH=24)||(decide (d.aH=28)||decide (d.aH=30)))&&decide (y=10000000000000000))=decide (10000000000000000<iO y d.aH):=by
  unfold iO dF eH;generalize d.aH=c at *;rw[aKX];simp only[aFU,aJj,aFK];constructor
  . rintro⟨h|h|h,rfl⟩<;>subst h<;>decide
  intro h
  (repeat' split at h)<;>omega
 rw[aTw,aQT,aQT,aJk]
 by_cases cz:10000000000000000<iO y d.aH
 . refine Sk.rJ (Sk.aNP d d.aH y 6 0 0 0 0 w h0 hS (hM _ hx) hV (fun W hb=>aBa y d.aH W (hk.below hb) hy0.1 hy0.2 sb.1 sb.2 cz)) ?_;rw[QD];by_cases c:0<d.sig<;>by_cases e:d.mo.size=0<;>simp[c,e,cz]
 refine Sk.rJ (Sk.aNP d d.aH y 0 0 _ 0 _ w h0 hS (hM _ hx) hV (fun W hb=>KD y d.aH W (hk.below hb) hy0.1 hy0.2 sb.1 sb.2 (by omega))) ?_;rw[QD];by_cases c:0<d.sig<;>by_cases e:d.mo.size=0<;>simp[c,e,cz]
end Bk
end
section
open Go.RowKit Go.Lib
namespace Bk
open Un (ba bt ri rb aU bF)
theorem CQ(a b:ByteArray):1<=comps a b/\comps a b<=3:=by unfold comps;(repeat' split)<;>omega
theorem aCs(d:Dt)(w:World)(hk:lW w)(hs:d.mo.size<=1000)(hy:d.dg.size<=1000)(m0:0<=d.m0)(m1:0<=d.m1)(m2:0<=d.m2):
 Calls Tryz.prog 81 #[aW d] w fun r w'=>r=.returned (.int .i64 d.form)/\Below w.heap.size w w':=by
 refine Sk.rJ (Sk.aLv d d.aH (comps d.mo d.da) (jZ d.m0 d.m1 d.m2 (comps d.mo d.da)) _ d.lI (dP d.mo 12) (dP d.da 31) w (fun W hb=>zI d W (hk.below hb) hs) (fun W hb=>QG d W (hk.below hb) hs hy)
  (fun W _=>OD d.mo 12 W (by omega)) (fun W _=>OD d.da 31 W (by omega)) (fun W _=>aGg d W) (fun W _=>U9 d.m0 d.m1 d.m2 (comps d.mo d.da) W m0 m1 m2 (CQ _ _).1 (CQ _ _).2)) ?_
 rw[QD,QD];unfold Dt.form
 cases d.lI<;>cases dP d.mo 12<;>cases dP d.da 31<;>by_cases e1:d.mo.size=0<;>by_cases e2:d.da.size=0<;>by_cases e3:d.aH=0<;>simp[e1,e2,e3]
end Bk
end
section
open Go.RowKit Go.Lib
namespace Bk
open Un (ba bt ri rb aU bF)
def bD(W:World)(v:Value)(l:List Int):Prop:= ∃g cap,v=.slice (some ⟨g,0,none⟩) l.length cap/\g<W.heap.size/\ ∀i (h:i<l.length),W.cell? ⟨g,i,none⟩=some (.int .i64 (l[i]'h))
theorem bD.later{W W2:World}{v:Value}{l:List Int}(h:bD W v l)(hb:Below W.heap.size W W2):bD W2 v l:=by
 obtain⟨g,cap,rfl,hg,hc⟩:=h;exact⟨g,cap,rfl,by have:=hb.size;omega,fun i hi=>(hb.cell (p:=⟨g,i,none⟩) hg).trans (hc i hi)⟩
theorem bD.own{W:World}{base e:Nat}{v:Value}{l:List Int}(h:W.ownsRow base e 1 v l.length (l.map (.int .i64)))(hne:l≠[]):bD W v l:=by
 obtain⟨h1,⟨rfl,h2⟩|⟨g,cap,cur,rfl,hg,hh,hn,hc,hs,ht⟩⟩:=h
 . exact absurd (aUh.1 h2) hne
 refine⟨g,cap,rfl,?_,fun i hi=>?_⟩
 . by_cases c:g<W.heap.size
   . exact c
   rw[aKY (by omega)]at hh;cases hh
 have hown:W.ownsRow base e 1 (.slice (some ⟨g,0,none⟩) l.length cap) l.length (l.map (.int .i64)):=⟨h1,.inr ⟨g,cap,cur,rfl,hg,hh,hn,hc,hs,ht⟩⟩;rw[hown.cellAt i (by omega),aG0,aGX hi];rfl
theorem bD.one{W:World}{g cap:Nat}{n:Int}(hg:g<W.heap.size)(hc:W.cell? ⟨g,0,none⟩=some (.int .i64 n)):bD W (.slice (some ⟨g,0,none⟩) 1 cap) [n]:=
 ⟨g,cap,rfl,hg,fun i hi=>by
  have:i=0:=by simp at hi;omega
  subst this;exact hc⟩
def aOI(l:List Int)(w:World)(e:Ending)(w':World):Prop:= ∃v,e=.returned v/\bD w' v l/\Below w.heap.size w w'
theorem ZQ:(Tryz.prog.info? 3).map (fun i=>(i.zero,i.size,i.bytes))=some (some (.int .i64 0),1,8):=by kernel_rfl
theorem Z8(s:ByteArray)(n:Int)(w:World)(h2:s.size=2)(hx: ∀i,i<2->aY s i=88\/(48<=aY s i/\aY s i<=57))(n0:1<=n)(n1:n<=99):
 Calls Tryz.prog 136 #[.string s,.int .i64 n] w fun r w'=>r=.returned (.bool (jD s n))/\w=w':=by
 have l0:0<s.size:=by omega
 have l1:1<s.size:=by omega
 have hA:=aDX h2 n;have x0:=hx 0 (by omega);have x1:=hx 1 (by omega);rw[bQ s 0 l0]at x0;rw[bQ s 1 l1]at x1;have y0:48<=((s[0]'l0).toNat:Int):=by omega
 have y1:48<=((s[1]'l1).toNat:Int):=by omega
 have z0:((s[0]'l0).toNat:Int)<=88:=by omega
 have z1:((s[1]'l1).toNat:Int)<=88:=by omega
 have q0:0<=n / 10:=by omega
 have r0:0<=n % 10:=by omega
 obtain⟨a0,g0⟩: ∃b,(((s[0]'l0).toNat:Int)==88)=b:=⟨_,rfl⟩;obtain⟨a1,g1⟩: ∃b,(((s[0]'l0).toNat:Int) - 48==n / 10)=b:=⟨_,rfl⟩;obtain⟨b0,g2⟩: ∃b,(((s[1]'l1).toNat:Int)==88)=b:=⟨_,rfl⟩;obtain⟨b1,g3⟩: ∃b,(((s[1]'l1).toNat:Int) - 48==n % 10)=b:=⟨_,rfl⟩;have g1':(((s[0]'l0).toNat:Int)==48+n / 10)=a1:=by rw[<-g1,aKX];simp only[aFZ];omega
 have g3':(((s[1]'l1).toNat:Int)==48+n % 10)=b1:=by rw[<-g3,aKX];simp only[aFZ];omega
 rw[TB g0 g1' g2 g3']at hA;have HA:=GK hA;clear hA x0 x1 hx g1' g3' h2
 cases a0<;>cases a1<;>cases b0<;>cases b1
 all_goals
  as_aux_lemma=>
   go_enter Tryz.func136,Tryz.ntmps136
   go_wp2
   go_ret
   exact⟨rb HA.out.symm,rfl⟩
theorem aDD(s:ByteArray)(g:Nat):(dV s g).length<=g:=oW s g
theorem fits_any (s:ByteArray) (g:Nat) (w:World) (h2:s.size=2) (hx: ∀i,i<2->aY s i=88\/(48<=aY s i/\aY s i<=57)) (hg:g<=99) (hne:dV s g≠[]):
 Calls Tryz.prog 110 #[.string s,.int .i64 g] w (aOI (dV s g) w):=by
 obtain⟨i0,hi,hz0,hz1,hz2⟩:=info_parts ZQ;have HF:=GK (fun(k:Nat) (hk:k<g) (w:World)=>Z8 s ((k:Int)+1) w h2 hx (by omega) (by omega));have HNE:=GK hne;clear hx hne h2
 go_enter Tryz.func110,Tryz.ntmps110
 go_wp2
 go_loopw [5,8] (fun v i wr=> ∃k:Nat,k<=g/\i=.int .i64 k/\wr.ownsRow w.heap.size 3 1 v (dV s k).length ((dV s k).map (Value.int .i64))/\Below w.heap.size w wr) (fun _ i _=>g - (intOf i).toNat)
 case atStart=>exact⟨0,aKS _,rfl,aVV _ _ _ _,aAL _ _⟩
 case round=>
  obtain⟨k,hk,rfl,hown,hb⟩:=hrel
  by_cases hlt:k<g
  . have hf:=HF.out k hlt;have hle:=aDD s k
    cases ha:jD s ((k:Int)+1)
    . as_aux_lemma=>
       rw[ha]at hf;have HA:=GK hf;have HE:=GK (MZ ha);have HO:=GK hown;have HB:=GK hb;clear hf ha hown hb
       go_wp2_with (go_at_call 136;with_reducible refine(HA.out _).mono ?_;rintro _ w' ⟨rfl,rfl⟩)
       go_roundw
       case rel=>exact⟨k+1,by omega,by go_num,by rw[HE.out];exact HO.out,HB.out⟩
       case measure=>simp[intOf];omega
    as_aux_lemma=>
     rw[ha]at hf;have HA:=GK hf;have HE:=GK (EL ha);have HB:=GK hb;clear hf ha hb
     go_wp2_with (first
      |(go_at_call 136;with_reducible refine(HA.out _).mono ?_;rintro _ w' ⟨rfl,rfl⟩)
      |(at_builtin;refine aUQ _ rfl _ _ 114 rfl w.heap.size 3 i0 (.int .i64 0) 1 8 Tryz.underlying114 hi hz0 hz1 hz2 rfl (by decide) _ _ _ rfl (hown.alloc _) ⟨wr.heap.size,0,none⟩ 1 1 [.int .i64 ((k:Int)+1)] rfl rfl ?c1 ?c2 ?c3 ?c4 ?c5 ?_))
     case c1=>
      intro j u hj
      match j,hj with
      |0,hj=>simp at hj;subst hj;simp[Addr.add]
     case c2=>intro u hu;simp at hu;subst hu;rfl
     case c3=>unfold maxLen;omega
     case c4=>omega
     case c5=>have:=HB.out.size;simp;omega
     intro v' w1 hown' hgrow _;have hB2:=((HB.out).alloc (HB.out.size) (.cells #[.int .i64 ((k:Int)+1)] 3)).grown hgrow (by have:=HB.out.size;simp;omega) (fun j hj=>(hown.lt j hj).1);have hO2:w1.ownsRow w.heap.size 3 1 v' (dV s (k+1)).length ((dV s (k+1)).map (Value.int .i64)):=by rw[HE.out];simpa using hown'
     replace hB2:=GK hB2;replace hO2:=GK hO2;clear hown' hgrow hown HB
     go_wp2
     go_roundw
     case rel=>exact⟨k+1,by omega,by go_num,hO2.out,hB2.out⟩
     case measure=>simp[intOf];omega
  as_aux_lemma=>
   obtain rfl:k=g:=by omega
   have hS:=bD.own hown HNE.out;have HB:=GK hb;replace hS:=GK hS;clear hown hb HF
   go_wp2
   go_ret
   exact⟨_,rfl,hS.out,HB.out⟩
end Bk
end
section
open Go.RowKit Go.Lib
namespace Bk
open Un (ba bt ri rb aU bF)
theorem lH{s:ByteArray}{g:Nat}(hg:g<=99)(h:dP s g=true):s.size=2/\(∀i,i<2->aY s i=88\/(48<=aY s i/\aY s i<=57))/\dV s g≠[]:=by
 refine⟨?_,?_,(MX s g).1 h⟩
 . by_cases c:s.size=2
   . exact c
   rw[J6 c]at h;cases h
 obtain⟨n,h1,h2,h3⟩:=(DU s g).1 h;unfold jD at h3;simp only[aFU,aJj,aFK]at h3;intro i hi;obtain rfl|rfl:i=0\/i=1:=by omega
 all_goals omega
def bP(d:Dt):List Value:=[.bool d.neg,.bool d.long,.string d.dg,.int .i64 d.ex,.int .i64 d.sig,.string d.mo,.string d.da,.int .u8 d.m0,.int .u8 d.m1,.int .u8 d.m2]
def iE(d:Dt)(mv dv:Value):List Value:=[.bool d.neg,.bool d.long,.string d.dg,.int .i64 d.ex,.int .i64 d.sig,.string d.mo,.string d.da,.int .u8 d.m0,.int .u8 d.m1,.int .u8 d.m2,mv,dv]
def VB:List Value:=[.bool false,.bool false,.string ⟨#[]⟩,.int .i64 0,.int .i64 0,.string ⟨#[]⟩,.string ⟨#[]⟩,.int .u8 0,.int .u8 0,.int .u8 0,.slice none 0 0,.slice none 0 0]
theorem zT(d:Dt):aW d=.agg (bP d).toArray:=rfl
theorem dX:(Tryz.prog.info? 37).map (·.size)=some 10:=by kernel_rfl
theorem jM:(Tryz.prog.info? 116).map (·.size)=some 12:=by kernel_rfl
def aNH(d:Dt)(w:World)(e:Ending)(w':World):Prop:= ∃mv dv,e=.returned (.agg (iE d mv dv).toArray)/\bD w' mv d.ms/\bD w' dv d.ds/\Below w.heap.size w w'
theorem jB{d:Dt}(h:d.form=0):(d.aH≠0/\d.mo.size≠0/\d.da.size=0)\/(d.aH=0/\d.mo.size≠0/\dP d.mo 12=true/\(d.da.size=0\/dP d.da 31=true))\/(d.aH=0/\d.mo.size=0/\d.da.size=0):=by
 obtain⟨_,h1,h2,_⟩:=Dt.kN h
 by_cases c:d.aH=0
 . by_cases e:d.mo.size=0
   . refine .inr (.inr ⟨c,e,?_⟩);rcases h2 with h2|h2
     . exact h2
     exact absurd e h2.1
   refine .inr (.inl ⟨c,e,?_,?_⟩)
   . rcases h1 with h1|h1|h1
     . exact absurd h1 e
     . exact absurd c h1
     exact h1
   rcases h2 with h2|h2
   . exact .inl h2
   exact .inr h2.2.2
 refine .inl ⟨c,?_,?_⟩
 . intro e;exact c (E5 (by omega))
 rcases h2 with h2|h2
 . exact h2
 exact absurd h2.2.1 c
theorem fC(w:World)(o:Obj):(w.alloc o).heap.size=w.heap.size+1:=by show(w.heap.push o).size=_;simp
theorem aOj(d:Dt){mv dv:Value}(hm:mv.oneCell'=true)(hd:dv.oneCell'=true):(iE d mv dv).toArray.all (·.oneCell')=true:=
 all_oneCell_toArray (fun v hv=>by
  unfold iE at hv;simp only[aG4,aNL,aUG]at hv;rcases hv with rfl|rfl|rfl|rfl|rfl|rfl|rfl|rfl|rfl|rfl|rfl|rfl<;>first|rfl|assumption)
theorem bD.one'{W:World}{v:Value}{l:List Int}(h:bD W v l):v.oneCell'=true:=by obtain⟨g,cap,rfl,_⟩:=h;rfl
theorem bD.lit{w W:World}(n:Int):bD (W.alloc (.cells #[.int .i64 n] 3)) (.slice (some ⟨W.heap.size,0,none⟩) 1 1) [n]:=
 bD.one (by rw[fC];omega) (by simp[go_sem])
theorem Rw.rF{p:Nat}{d:Dt}{w W:World}(h:Rw p (bP d) w W):W.cell? ⟨p,0,none⟩=some (.bool d.neg)/\W.cell? ⟨p,1,none⟩=some (.bool d.long)/\W.cell? ⟨p,2,none⟩=some (.string d.dg)/\W.cell? ⟨p,3,none⟩=some (.int .i64 d.ex)/\W.cell? ⟨p,4,none⟩=some (.int .i64 d.sig)/\W.cell? ⟨p,5,none⟩=some (.string d.mo)/\W.cell? ⟨p,6,none⟩=some (.string d.da)/\W.cell? ⟨p,7,none⟩=some (.int .u8 d.m0)/\W.cell? ⟨p,8,none⟩=some (.int .u8 d.m1)/\W.cell? ⟨p,9,none⟩=some (.int .u8 d.m2):=
 ⟨h.cell _ _ rfl,h.cell _ _ rfl,h.cell _ _ rfl,h.cell _ _ rfl,h.cell _ _ rfl,h.cell _ _ rfl,h.cell _ _ rfl,h.cell _ _ rfl,h.cell _ _ rfl,h.cell _ _ rfl⟩
theorem aJx{w W0:World}{p1 p2:Nat}(d:Dt)(h1:Rw p1 (bP d) w W0)(h2:Rw p2 VB w W0):
 (((W0.alloc (.cells #[.int .i64 0] 3)).alloc (.cells #[.int .i64 0] 3)).alloc (.cells #[.bool false,.bool false,.string ⟨#[]⟩,.int .i64 0,.int .i64 0,.string ⟨#[]⟩,.string ⟨#[]⟩,.int .u8 0,.int .u8 0,.int .u8 0,.slice none 0 0,.slice none 0 0] 116)).there (W0.heap.size+1+1) 0 12/\
 ∀mv dv:Value,mv=.slice (some ⟨W0.heap.size,0,none⟩) 1 1->dv=.slice (some ⟨W0.heap.size+1,0,none⟩) 1 1-> ∀W3,W3=(((W0.alloc (.cells #[.int .i64 0] 3)).alloc (.cells #[.int .i64 0] 3)).alloc (.cells #[.bool false,.bool false,.string ⟨#[]⟩,.int .i64 0,.int .i64 0,.string ⟨#[]⟩,.string ⟨#[]⟩,.int .u8 0,.int .u8 0,.int .u8 0,.slice none 0 0,.slice none 0 0] 116)).setCells (W0.heap.size+1+1) 0 (iE d mv dv)->
  W0.heap.size+1+1≠p2/\W0.heap.size+1+1≠p1/\Rw (W0.heap.size+1+1) (iE d mv dv) w W3/\Rw p2 VB w W3/\Rw p1 (bP d) w W3/\bD W3 mv [0]/\bD W3 dv [0]:=by
 have b0:=h1.below;have e1:(W0.alloc (.cells #[.int .i64 0] 3)).heap.size=W0.heap.size+1:=fC _ _;have e2:((W0.alloc (.cells #[.int .i64 0] 3)).alloc (.cells #[.int .i64 0] 3)).heap.size=W0.heap.size+1+1:=by rw[fC,e1]
 have h3:Rw (W0.heap.size+1+1) VB w (((W0.alloc (.cells #[.int .i64 0] 3)).alloc (.cells #[.int .i64 0] 3)).alloc (.cells #[.bool false,.bool false,.string ⟨#[]⟩,.int .i64 0,.int .i64 0,.string ⟨#[]⟩,.string ⟨#[]⟩,.int .u8 0,.int .u8 0,.int .u8 0,.slice none 0 0,.slice none 0 0] 116)):=by
  have:=Rw.fresh (ba (ba b0 (.cells #[.int .i64 0] 3)) (.cells #[.int .i64 0] 3)) VB 116;rw[e2]at this;exact this
 refine⟨h3.there,?_⟩;rintro mv dv rfl rfl W3 rfl;have l1:=h1.lt;have l2:=h2.lt;have n1:=h1.new;have bA:Below W0.heap.size W0 (((W0.alloc (.cells #[.int .i64 0] 3)).alloc (.cells #[.int .i64 0] 3)).alloc (.cells #[.bool false,.bool false,.string ⟨#[]⟩,.int .i64 0,.int .i64 0,.string ⟨#[]⟩,.string ⟨#[]⟩,.int .u8 0,.int .u8 0,.int .u8 0,.slice none 0 0,.slice none 0 0] 116)):=ba (ba (ba (aAL _ _) _) _) _;have i1:bD (((W0.alloc (.cells #[.int .i64 0] 3)).alloc (.cells #[.int .i64 0] 3)).alloc (.cells #[.bool false,.bool false,.string ⟨#[]⟩,.int .i64 0,.int .i64 0,.string ⟨#[]⟩,.string ⟨#[]⟩,.int .u8 0,.int .u8 0,.int .u8 0,.slice none 0 0,.slice none 0 0] 116)) (.slice (some ⟨W0.heap.size,0,none⟩) 1 1) [0]:=
  ((bD.lit (w:=w) (W:=W0) 0).later (ba (aAL _ _) _)).later (ba (aAL _ _) _)
 have i2:bD (((W0.alloc (.cells #[.int .i64 0] 3)).alloc (.cells #[.int .i64 0] 3)).alloc (.cells #[.bool false,.bool false,.string ⟨#[]⟩,.int .i64 0,.int .i64 0,.string ⟨#[]⟩,.string ⟨#[]⟩,.int .u8 0,.int .u8 0,.int .u8 0,.slice none 0 0,.slice none 0 0] 116)) (.slice (some ⟨W0.heap.size+1,0,none⟩) 1 1) [0]:=by
  have:=(bD.lit (w:=w) (W:=W0.alloc (.cells #[.int .i64 0] 3)) 0).later (ba (aAL _ _) (.cells #[.bool false,.bool false,.string ⟨#[]⟩,.int .i64 0,.int .i64 0,.string ⟨#[]⟩,.string ⟨#[]⟩,.int .u8 0,.int .u8 0,.int .u8 0,.slice none 0 0,.slice none 0 0] 116));rw[e1]at this;exact this
 have keep: ∀ {g:Nat} {l:List Int} {v:Value},bD (((W0.alloc (.cells #[.int .i64 0] 3)).alloc (.cells #[.int .i64 0] 3)).alloc (.cells #[.bool false,.bool false,.string ⟨#[]⟩,.int .i64 0,.int .i64 0,.string ⟨#[]⟩,.string ⟨#[]⟩,.int .u8 0,.int .u8 0,.int .u8 0,.slice none 0 0,.slice none 0 0] 116)) v l->v.ownBlock≠some (W0.heap.size+1+1)->bD ((((W0.alloc (.cells #[.int .i64 0] 3)).alloc (.cells #[.int .i64 0] 3)).alloc (.cells #[.bool false,.bool false,.string ⟨#[]⟩,.int .i64 0,.int .i64 0,.string ⟨#[]⟩,.string ⟨#[]⟩,.int .u8 0,.int .u8 0,.int .u8 0,.slice none 0 0,.slice none 0 0] 116)).setCells (W0.heap.size+1+1) 0 (iE d (.slice (some ⟨W0.heap.size,0,none⟩) 1 1) (.slice (some ⟨W0.heap.size+1,0,none⟩) 1 1))) v l:=by
  rintro _ l v ⟨g,cap,rfl,hg,hc⟩ hne;refine⟨g,cap,rfl,by rw[setCells_size];exact hg,fun i hi=>?_⟩;rw[aRM _ _ _ _ _ (fun e _=>absurd (by rw[<-e];rfl) hne)];exact hc i hi
 refine⟨by omega,by omega,h3.eU _ rfl,(h2.later bA).others (by omega) (by omega) _ _,(h1.later bA).others (by omega) (by omega) _ _,keep (g:=0) i1 ?_,keep (g:=0) i2 ?_⟩
 . intro e;have e:W0.heap.size=W0.heap.size+1+1:=aLh e;omega
 intro e;have e:W0.heap.size+1=W0.heap.size+1+1:=aLh e;omega
theorem bD.set{W:World}{v u:Value}{l:List Int}{p k:Nat}(h:bD W v l)(hne:v.ownBlock≠some p):bD (W.setCell ⟨p,k,none⟩ u) v l:=by
 obtain⟨g,cap,rfl,hg,hc⟩:=h;refine⟨g,cap,rfl,by show g<(W.heap.modify _ _).size;rw[aV2];exact hg,fun i hi=>?_⟩;rw[aPE _ _ _ _ (fun e=>by injection e with e1 e2;exact hne (by rw[e1];rfl))];exact hc i hi
theorem bD.sets{W:World}{v:Value}{l:List Int}{p k:Nat}{us:List Value}(h:bD W v l)(hne:v.ownBlock≠some p):bD (W.setCells p k us) v l:=by
 obtain⟨g,cap,rfl,hg,hc⟩:=h;refine⟨g,cap,rfl,by rw[setCells_size];exact hg,fun i hi=>?_⟩;rw[aRM _ _ _ _ _ (fun e _=>absurd (by rw[<-e];rfl) hne)];exact hc i hi
theorem Rw.apart{p:Nat}{vs:List Value}{w W:World}(h:Rw p vs w W){v:Value}{l:List Int}(hv:bD W v l){x:Value}(hx:vs[0]? =some x)(hne: ∀n,x≠ .int .i64 n)(hl:l≠[]):v.ownBlock≠some p:=by
 obtain⟨g,cap,rfl,hg,hc⟩:=hv;intro e;have e:g=p:=aLh e;subst e;have h1:=h.cell 0 x hx;have h2:=hc 0 (by cases l with|nil=>exact absurd rfl hl|cons a b=>simp);rw[h1]at h2;exact hne _ (aLh h2)
theorem Dt.mM{d:Dt}(h:d.aH≠0):d.ms=[d.aH]:=by unfold Dt.ms;rw[aFV h]
theorem Dt.qN{d:Dt}(h:d.aH=0)(h2:d.mo.size≠0):d.ms=dV d.mo 12:=by unfold Dt.ms;rw[aB9 (by omega),aB9 h2]
theorem Dt.BF{d:Dt}(h:d.aH=0)(h2:d.mo.size=0):d.ms=[0]:=by unfold Dt.ms;rw[aB9 (by omega),aFV h2]
theorem Dt.V5{d:Dt}(h:d.da.size≠0):d.ds=dV d.da 31:=by unfold Dt.ds;rw[aB9 h]
theorem Dt.ds_none{d:Dt}(h:d.da.size=0):d.ds=[0]:=by unfold Dt.ds;rw[aFV h]
theorem Dt.aOq{d:Dt}(h:d.form=0):d.ms≠[]:=by
 rcases jB h with⟨h1,_⟩|⟨h1,h2,h3,_⟩|⟨h1,h2,_⟩
 . rw[Dt.mM h1];simp
 . rw[Dt.qN h1 h2];exact(lH (by omega) h3).2.2
 rw[Dt.BF h1 h2];simp
theorem Dt.aOC{d:Dt}(h:d.form=0):d.ds≠[]:=by
 by_cases c:d.da.size=0
 . rw[Dt.ds_none c];simp
 rw[Dt.V5 c];rcases jB h with⟨_,_,h3⟩|⟨_,_,_,h3⟩|⟨_,_,h3⟩
 . exact absurd h3 c
 . rcases h3 with h3|h3
   . exact absurd h3 c
   exact(lH (by omega) h3).2.2
 exact absurd h3 c
theorem zL(d:Dt)(w:World)(hk:lW w)(hs:d.mo.size<=1000)(hf:d.form=0):
 Calls Tryz.prog 82 #[aW d] w (aNH d w):=by
 have hS:=fun W hb=>zI d W (hk.below (w':=W) hb) hs;have hD:Rw w.heap.size (bP d) w ((w.alloc (.cells #[.bool d.neg,.bool d.long,.string d.dg,.int .i64 d.ex,.int .i64 d.sig,.string d.mo,.string d.da,.int .u8 d.m0,.int .u8 d.m1,.int .u8 d.m2] 37)).alloc (.cells #[.bool false,.bool false,.string ⟨#[]⟩,.int .i64 0,.int .i64 0,.string ⟨#[]⟩,.string ⟨#[]⟩,.int .u8 0,.int .u8 0,.int .u8 0,.slice none 0 0,.slice none 0 0] 116)):=(Rw.fresh (aAL _ _) (bP d) _).later (ba (aAL _ _) _);have hZ:Rw (w.heap.size+1) VB w ((w.alloc (.cells #[.bool d.neg,.bool d.long,.string d.dg,.int .i64 d.ex,.int .i64 d.sig,.string d.mo,.string d.da,.int .u8 d.m0,.int .u8 d.m1,.int .u8 d.m2] 37)).alloc (.cells #[.bool false,.bool false,.string ⟨#[]⟩,.int .i64 0,.int .i64 0,.string ⟨#[]⟩,.string ⟨#[]⟩,.int .u8 0,.int .u8 0,.int .u8 0,.slice none 0 0,.slice none 0 0] 116)):=by
  have:=Rw.fresh (ba (aAL w.heap.size w) (.cells #[.bool d.neg,.bool d.long,.string d.dg,.int .i64 d.ex,.int .i64 d.sig,.string d.mo,.string d.da,.int .u8 d.m0,.int .u8 d.m1,.int .u8 d.m2] 37)) VB 116;rw[fC]at this;exact this
 unfold aW at hS;obtain⟨z,hz⟩: ∃z,z=decide (d.aH=0):=⟨_,rfl⟩;rw[<-hz]at hS;have HZ0:=GK hz;clear hz;have HS0:=GK hS;have HNE:=GK (⟨Dt.aOq hf,Dt.aOC hf⟩:d.ms≠[]/\d.ds≠[]);have HF:=GK (jB hf);clear hS hf;unfold aW
 go_enter Tryz.func82,Tryz.ntmps82
 go_upto_region 1 with(fail)
 generalize (w.alloc (.cells #[.bool d.neg,.bool d.long,.string d.dg,.int .i64 d.ex,.int .i64 d.sig,.string d.mo,.string d.da,.int .u8 d.m0,.int .u8 d.m1,.int .u8 d.m2] 37)).alloc (.cells #[.bool false,.bool false,.string ⟨#[]⟩,.int .i64 0,.int .i64 0,.string ⟨#[]⟩,.string ⟨#[]⟩,.int .u8 0,.int .u8 0,.int .u8 0,.slice none 0 0,.slice none 0 0] 116)=W0 at hD hZ ⊢
 go_cut [3] (fun s3 wx=> ∃p3 mv dv,s3=.pointer (some ⟨p3,0,none⟩)/\p3≠w.heap.size+1/\p3≠w.heap.size/\Rw p3 (iE d mv dv) w wx/\Rw (w.heap.size+1) VB w wx/\Rw w.heap.size (bP d) w wx/\bD wx mv [0]/\bD wx dv [0])
 case first=>
  obtain⟨hT,hN⟩:=aJx d hD hZ;have HN:=GK (hN _ _ rfl rfl _ rfl);obtain⟨q0,q1,q2,q3,q4,q5,q6,q7,q8,q9⟩:=hD.rF;clear hN hZ hD HF HS0
  go_wp2_with (first
   |(refine aRo rfl 116 (.tmp 3) (.tmp 9) rfl (W0.heap.size+1+1) 0 (iE d (.slice (some ⟨W0.heap.size,0,none⟩) 1 1) (.slice (some ⟨W0.heap.size+1,0,none⟩) 1 1)).toArray rfl rfl hT jM (aOj d rfl rfl) ?_))
  go_meet
  obtain⟨g1,g2,g3,g4,g5,g6,g7⟩:=HN.out;exact⟨_,_,_,rfl,g1,g2,g3,g4,g5,g6,g7⟩
 case rest=>
  obtain⟨p3,mv,dv,rfl,n1,n2,hP,hZ,hD,hm,hv⟩:=hcut;obtain⟨q0,q1,q2,q3,q4,q5,q6,q7,q8,q9⟩:=hD.rF;have N1:=GK n1;have N2:=GK n2;clear n1 n2
  go_upto_if 15 with(go_at_call 105;with_reducible refine(HS0.out _ hD.below).mono ?_;rintro _ w2 ⟨rfl,hb⟩;replace hP:=hP.later hb;replace hZ:=hZ.later hb;replace hD:=hD.later hb;replace hm:=hm.later hb;replace hv:=hv.later hb;clear hb)
  clear q0 q1 q2 q3 q4 q5 q6 q7 q8 q9 HS0;obtain⟨q0,q1,q2,q3,q4,q5,q6,q7,q8,q9⟩:=hD.rF
  go_cut [] (fun wx=> ∃mv2,Rw p3 (iE d mv2 dv) w wx/\Rw (w.heap.size+1) VB w wx/\Rw w.heap.size (bP d) w wx/\bD wx mv2 d.ms/\bD wx dv [0])
  case first=>
   have aTk:w2.cell? ⟨p3,10,none⟩=some mv:=hP.cell 10 _ rfl;have aTh:=hP.free 10 (by show 10<12;omega);rcases HF.out with⟨h1,h2,h3⟩|⟨h1,h2,h3,h4⟩|⟨h1,h2,h3⟩
   . obtain rfl:z=false:=HZ0.out.trans (aCw h1);have hms:=Dt.mM h1;have es:(w2.setCell ⟨p3,10,none⟩ (.slice (some ⟨w2.heap.size,0,none⟩) 1 1)).heap.size=w2.heap.size:=by simp[World.setCell]
     have av:=hP.apart hv rfl (fun n e=>by cases e) (by simp);have bl:=ba (aAL (w2.setCell ⟨p3,10,none⟩ (.slice (some ⟨w2.heap.size,0,none⟩) 1 1)).heap.size (w2.setCell ⟨p3,10,none⟩ (.slice (some ⟨w2.heap.size,0,none⟩) 1 1))) (.cells #[.int .i64 d.aH] 3);have hX:Rw p3 (iE d (.slice (some ⟨w2.heap.size,0,none⟩) 1 1) dv) w _:=(hP.set 10 (by show 10<12;omega) (.slice (some ⟨w2.heap.size,0,none⟩) 1 1)).later bl;have hX2:bD ((w2.setCell ⟨p3,10,none⟩ (.slice (some ⟨w2.heap.size,0,none⟩) 1 1)).alloc (.cells #[.int .i64 d.aH] 3)) (.slice (some ⟨(w2.setCell ⟨p3,10,none⟩ (.slice (some ⟨w2.heap.size,0,none⟩) 1 1)).heap.size,0,none⟩) 1 1) [d.aH]:=bD.lit (w:=w) d.aH;rw[es]at hX2;have hX3:=(hv.set (k:=10) (u:=.slice (some ⟨w2.heap.size,0,none⟩) 1 1) av).later bl;have hX4:=(hZ.other N1.out hP.new 10 (.slice (some ⟨w2.heap.size,0,none⟩) 1 1)).later bl;have hX5:=(hD.other N2.out hP.new 10 (.slice (some ⟨w2.heap.size,0,none⟩) 1 1)).later bl;rw[<-hms]at hX2;have HX:=GK (⟨hX,hX4,hX5,hX2,hX3⟩:_/\_/\_/\_/\_);have hlt:=hP.lt;clear hms hX hX2 hX3 hX4 hX5 av bl es h1 h2 h3 HF hP hZ hD hm hv
     go_wp2
     go_meet
     exact⟨_,HX.out⟩
   . obtain rfl:z=true:=HZ0.out.trans (aAP h1);have hms:=Dt.qN h1 h2;obtain⟨s2,sx,sn⟩:=lH (by omega) h3;have HFi:=GK (fun w=>fits_any d.mo 12 w s2 sx (by omega) sn);have m0:=NH h2;have HMS:=GK hms;have SN:=GK sn;clear hms h1 h2 h3 h4 s2 sx sn HF;generalize dV d.mo 12=L at *
     go_wp2_with fail
     refine(HFi.out _).mono ?_;rintro _ w4 ⟨v,rfl,hi,hb⟩;clear aTk aTh;replace hP:=hP.later hb;replace hZ:=hZ.later hb;replace hD:=hD.later hb;replace hm:=hm.later hb;replace hv:=hv.later hb;clear hb;have aTk:w4.cell? ⟨p3,10,none⟩=some mv:=hP.cell 10 _ rfl;have aTh:=hP.free 10 (by show 10<12;omega);have hl:L≠[]:=SN.out;have ap:=hP.apart hi rfl (fun n e=>by cases e) hl;have hX:Rw p3 (iE d v dv) w _:=hP.set 10 (by show 10<12;omega) v;have hX2:=hi.set (k:=10) (u:=v) ap;rw[<-HMS.out]at hX2;have av:=hP.apart hv rfl (fun n e=>by cases e) (by simp);have hX3:=hv.set (k:=10) (u:=v) av;have HX:=GK (⟨hX,hZ.other N1.out hP.new 10 v,hD.other N2.out hP.new 10 v,hX2,hX3⟩:_/\_/\_/\_/\_);obtain⟨g,cap,rfl,_⟩:=hi;clear hX hX2 hX3 ap av hP hZ hD hm hv
     go_wp2
     go_meet
     exact⟨_,HX.out⟩
   obtain rfl:z=true:=HZ0.out.trans (aAP h1);have hms:=Dt.BF h1 h2;rw[<-hms]at hm;have m0:=V3 h2;have HX:=GK (⟨hP,hZ,hD,hm,hv⟩:_/\_/\_/\_/\_);clear hms h1 h2 h3 HF hP hZ hD hm hv
   go_wp2
   go_meet
   exact⟨_,HX.out⟩
  case rest=>
   obtain⟨mv2,hP,hZ,hD,hm,hv⟩:=hcut;clear q0 q1 q2 q3 q4 q5 q6 q7 q8 q9;obtain⟨q0,q1,q2,q3,q4,q5,q6,q7,q8,q9⟩:=hD.rF;obtain⟨de,hde⟩: ∃z,d.da.toList.isEmpty=z:=⟨_,rfl⟩;have HDE:Hid ((de=true/\d.da.size=0)\/(de=false/\ ¬d.da.size=0)):=GK (by
    rcases fA d.da with⟨c,e1⟩|⟨c,e1⟩
    . exact .inl ⟨hde.symm.trans e1,c⟩
    exact .inr ⟨hde.symm.trans e1,c⟩)
   go_upto_if 28 with(fail)
   clear hde
   go_cut [] (fun wx=> ∃dv2,Rw p3 (iE d mv2 dv2) w wx/\Rw (w.heap.size+1) VB w wx/\bD wx mv2 d.ms/\bD wx dv2 d.ds)
   case first=>
    have aTj:wc.cell? ⟨p3,11,none⟩=some dv:=hP.cell 11 _ rfl;have aTg:=hP.free 11 (by show 11<12;omega);rcases HDE.out with⟨rfl,c⟩|⟨rfl,c⟩
    . rw[<-Dt.ds_none c]at hv;have HX:=GK (⟨hP,hZ,hm,hv⟩:_/\_/\_/\_);clear hP hZ hD hm hv c HF HZ0
      go_wp2
      go_meet
      exact⟨_,HX.out⟩
    have h4:dP d.da 31=true:=by
     rcases HF.out with⟨_,_,h⟩|⟨_,_,_,h⟩|⟨_,_,h⟩
     . exact absurd h c
     . rcases h with h|h
       . exact absurd h c
       exact h
     exact absurd h c
    obtain⟨s2,sx,sn⟩:=lH (by omega) h4;have HFi:=GK (fun w=>fits_any d.da 31 w s2 sx (by omega) sn);have HDS:=GK (Dt.V5 c);have SN:=GK sn;have MN:=GK (⟨hm,by
     rcases HF.out with⟨h,_,_⟩|⟨h,h2,h3,_⟩|⟨h,h2,_⟩
     . rw[Dt.mM h];simp
     . rw[Dt.qN h h2];exact(lH (by omega) h3).2.2
     rw[Dt.BF h h2];simp⟩:bD wc mv2 d.ms/\d.ms≠[])
    clear h4 s2 sx sn c HF HZ0;generalize dV d.da 31=L at *
    go_wp2_with fail
    refine(HFi.out _).mono ?_;rintro _ w4 ⟨v,rfl,hi,hb⟩;clear aTj aTg;have hm2:=MN.out.1.later hb;have mne:=MN.out.2;clear MN hm;replace hP:=hP.later hb;replace hZ:=hZ.later hb;clear hb hD hv;have aTj:w4.cell? ⟨p3,11,none⟩=some dv:=hP.cell 11 _ rfl;have aTg:=hP.free 11 (by show 11<12;omega);have ap:=hP.apart hi rfl (fun n e=>by cases e) SN.out;have am:=hP.apart hm2 rfl (fun n e=>by cases e) mne;have hX:Rw p3 (iE d mv2 v) w _:=hP.set 11 (by show 11<12;omega) v;have hX2:=hi.set (k:=11) (u:=v) ap;rw[<-HDS.out]at hX2;have HX:=GK (⟨hX,hZ.other N1.out hP.new 11 v,hm2.set (k:=11) (u:=v) am,hX2⟩:_/\_/\_/\_);obtain⟨g,cap,rfl,_⟩:=hi;clear hX hX2 ap am hP hZ hm2 mne
    go_wp2
    go_meet
    exact⟨_,HX.out⟩
   case rest=>
    obtain⟨dv2,hP,hZ,hm,hv⟩:=hcut;clear q0 q1 q2 q3 q4 q5 q6 q7 q8 q9;have hR:=hP.range;have hT:=hZ.there;have o1:=aOj d hm.one' hv.one';have hX:=hZ.eU (iE d mv2 dv2) rfl;have hr:=aQl (P:=Tryz.prog) _ _ 0 116 (iE d mv2 dv2) _ hX.range Tryz.underlying116 rfl jM;have HX:=GK (⟨hm.sets (k:=0) (us:=iE d mv2 dv2) (hZ.apart hm rfl (fun n e=>by cases e) HNE.out.1),hv.sets (k:=0) (us:=iE d mv2 dv2) (hZ.apart hv rfl (fun n e=>by cases e) HNE.out.2),hX.below⟩:_/\_/\_);replace hr:=GK hr;clear hX hP hZ hm hv HF HZ0
    go_wp2_with (first
     |(refine aG6 rfl 116 (.tmp 3) rfl p3 0 rfl (iE d mv2 dv2) _ hR Tryz.underlying116 rfl jM ?_)
     |(refine aRo rfl 116 (.tmp 2) (.tmp 33) rfl (w.heap.size+1) 0 (iE d mv2 dv2).toArray rfl rfl hT jM o1 ?_))
    exact aG2 (v:=.agg (iE d mv2 dv2).toArray) (jA Tryz.results82 _ rfl hr.out) rfl ⟨mv2,dv2,rfl,HX.out⟩
end Bk
end
section
open Go.RowKit Go.Lib
namespace Bk
open Un (ba bt ri rb aU bF)
theorem PG(y m:Int)(w:World)(hk:lW w)(h0: -10000000000000000<=y)(h1:y<=10000000000000000)(m0:1<=m)(m1:m<=12):
 Calls Tryz.prog 138 #[.int .i64 y,.int .i64 m] w fun e w'=>e=.returned (.tuple #[.int .i64 (Cal.len y m),.int .i64 0])/\Below w.heap.size w w':=by
 have HC:Hid (∀w:World,Calls Tryz.prog 162 #[.int .i64 y,.int .i64 m] w fun e w'=>e=.returned (.int .i64 0)/\w=w'):=GK (by
  intro w;have:=Un.jH y m w;unfold Un.rW at this;rw[aFV ⟨h0,h1⟩,aFV ⟨m0,m1⟩]at this;exact this)
 have HL:=GK (Un.pO y m w hk.cal h0 h1 m0 m1);generalize Cal.len y m=n at *;clear hk
 go_enter Tryz.func138,Tryz.ntmps138
 go_wp2_with (first|(go_at_call 162;with_reducible refine(HC.out _).mono ?_;rintro _ w' ⟨rfl,rfl⟩)|(go_at_call 163;with_reducible refine HL.out.mono ?_;rintro _ w' ⟨rfl,hb⟩))
 go_ret2
 exact⟨rfl,hb⟩
def fmv(d:Dt)(mv dv:Value):Value:=.agg #[.bool d.neg,.bool d.long,.string d.dg,.int .i64 d.ex,.int .i64 d.sig,.string d.mo,.string d.da,.int .u8 d.m0,.int .u8 d.m1,.int .u8 d.m2,mv,dv]
theorem FX(d:Dt)(mv dv:Value)(y m:Int)(w:World)(hk:lW w)(h0: -10000000000000000<=y)(h1:y<=10000000000000000)(hm:d.da.size≠0->1<=m/\m<=12):
 Calls Tryz.prog 115 #[fmv d mv dv,.int .i64 y,.int .i64 m] w fun e w'=>e=.returned (.int .i64 (d.len y m))/\Below w.heap.size w w':=by
 have hF:Rw w.heap.size (iE d mv dv) w _:=Rw.fresh (aAL _ _) (iE d mv dv) 116;have q6:=hF.cell 6 _ rfl;have HB:=GK hF.below;clear hF;unfold fmv;unfold iE at q6 HB;unfold Dt.len;rcases fA d.da with⟨c,e1⟩|⟨c,e1⟩
 . rw[aFV c];clear c
   go_enter Tryz.func115,Tryz.ntmps115
   go_wp2
   go_ret
   exact⟨rfl,HB.out⟩
 rw[aB9 c];obtain⟨m0,m1⟩:=hm c;have HL:=GK (fun W hb=>PG y m W (hk.below (w':=W) hb) h0 h1 m0 m1);generalize Cal.len y m=n at *;clear c
 go_enter Tryz.func115,Tryz.ntmps115
 go_wp2_with (go_at_call 138;with_reducible refine(HL.out _ HB.out).mono ?_;rintro _ w' ⟨rfl,hb⟩)
 go_ret
 exact⟨rfl,bt HB.out hb⟩
theorem aEf{d:Dt}{n:Int}(hm:d.mask=false):d.Year n (yVal d.neg d.dg d.ex) (decide (n<=yVal d.neg d.dg d.ex)):=by
 have hin: ∀u,d.In u↔u=yVal d.neg d.dg d.ex:=fun u=>by
  unfold Dt.In yVal Dt.mag;rw[aB9 (by rw[hm];decide)]
 by_cases c:n<=yVal d.neg d.dg d.ex
 . exact .inl ⟨aAP c,(hin _).2 rfl,c,fun u hu _=>by rw[(hin u).1 hu];exact aRT _⟩
 exact .inr ⟨aCw c,fun u hu h=>by rw[(hin u).1 hu]at h;exact c h⟩
theorem aO0{d:Dt}{n v:Int}{ok:Bool}(hm:d.mask=true)(hn:d.neg=false)(h:UpR (aY d.dg) n 0 v ok):d.Year n v ok:=by
 have hin: ∀u,d.In u↔oO (aY d.dg) u:=fun u=>by
  unfold Dt.In;rw[aFV hm,aB9 (by rw[hn];decide)]
 rcases h.2.2 with⟨h1,h2,h3,_,h4⟩|⟨h1,h2⟩
 . exact .inl ⟨h1,(hin _).2 h2,h3,fun u hu hl=>h4 u ((hin u).1 hu) hl ((hin u).1 hu).1⟩
 exact .inr ⟨h1,fun u hu hl=>by have:=h2 u ((hin u).1 hu) ((hin u).1 hu).1;omega⟩
theorem aO1{d:Dt}{n v:Int}{ok:Bool}(hm:d.mask=true)(hn:d.neg=true)(h:DnR (aY d.dg) (-(max n (-9223372036854775807))) 1 v ok):d.Year n (-v) ok:=by
 have hin: ∀u,d.In u↔(oO (aY d.dg) (-u)/\u≠0):=fun u=>by
  unfold Dt.In;rw[aFV hm,aFV hn]
 rcases h.2.2 with⟨h1,h2,h3,h5,h4⟩|⟨h1,h2⟩
 . refine .inl ⟨h1,(hin _).2 ⟨by rw[Int.neg_neg];exact h2,by omega⟩,by omega,fun u hu hl=>?_⟩;obtain⟨g1,g2⟩:=(hin u).1 hu;have:=h4 (-u) g1 (by have:=g1.2.1;omega);omega
 refine .inr ⟨h1,fun u hu hl=>?_⟩;obtain⟨g1,g2⟩:=(hin u).1 hu;have:=h2 (-u) g1 (by have:=g1.2.1;omega);have:=g1.1;omega
theorem VX(d:Dt)(mv dv:Value)(n:Int)(w:World)(hy:d.dg.size<=1000)(hok:d.JG=true)(n0: -9223372036854775808<=n)(n1:n<9223372036854775808):
 Calls Tryz.prog 114 #[fmv d mv dv,.int .i64 n,.bool true] w (TI (fun v ok=>d.Year n v ok) w):=by
 have hF:Rw w.heap.size (iE d mv dv) w _:=Rw.fresh (aAL _ _) (iE d mv dv) 116;unfold iE at hF;have hM:=fun W=>nP d.neg d.long d.dg d.ex d.sig W;unfold yv at hM;unfold Dt.JG at hok;unfold fmv
 go_enter Tryz.func114,Tryz.ntmps114
 go_upto_region 1 with(fail)
 generalize w.alloc _=W0 at hF ⊢;obtain⟨r0,r1,r2,r3,r4⟩:=(⟨hF.cell 0 _ rfl,hF.cell 1 _ rfl,hF.cell 2 _ rfl,hF.cell 3 _ rfl,hF.cell 4 _ rfl⟩:_/\_/\_/\_/\_);have HB0:=GK hF.below;clear hF
 go_upto_region 2 with(fail)
 have hY:=Ym.new d.neg d.long d.dg d.ex d.sig W0 35;generalize W0.alloc _=W1 at hY ⊢;clear r0 r1 r2 r3 r4;obtain⟨q0,q1,q2,q3,q4,qB⟩:=id hY
 cases hx:hasB 88 d.dg
 . rw[hx]at hM;have HM:=GK hM;have hV:=fun W=>zC d.neg d.long d.dg d.ex d.sig W hy hok hx;unfold yv at hV;have HV:=GK hV;have HP:=GK (aEf (d:=d) (n:=n) (by unfold Dt.mask;exact hx));have hb:=TP hok hx;clear hM hV hok hx;generalize yVal d.neg d.dg d.ex=v at *
   go_wp2_with fail
   refine(HM.out _).mono ?_;rintro _ w1 ⟨rfl,hb⟩;replace hY:=hY.later hb;clear hb;obtain⟨q0,q1,q2,q3,q4,qB⟩:=id hY
   go_wp2_with fail
   refine(HV.out _).mono ?_;rintro _ w2 ⟨rfl,hb⟩;replace hY:=hY.later hb;clear hb;obtain⟨q0,q1,q2,q3,q4,qB⟩:=id hY;have HB2:=GK (bt HB0.out hY.below)
   by_cases cn:n<=v
   . rw[aAP cn]at HP
     go_wp2_with fail
     go_ret2
     exact⟨_,_,HP.out,rfl,HB2.out⟩
   go_wp2_with fail
   go_ret2
   exact⟨_,_,HP.out,rfl,HB2.out⟩
 have hs:d.long=false/\d.dg.size=4/\allB bU d.dg=true:=by
  rcases aRO d.long with hl|hl
  case inr=>
   rw[hl]at hok;obtain⟨h1,h2,_⟩:=iC hok;exact⟨hl,h1,h2⟩
  case inl=>
   rw[hl]at hok;have hd:=(jG hok).2.2.1;have:=(jV (pY hd)).2 hd;rw[hx]at this;cases this
 obtain⟨-,h4,hdx⟩:=hs;rw[hx]at hM;have HM:=GK hM;have hmk:d.mask=true:=by unfold Dt.mask;exact hx
 rcases aRO d.neg with hn|hn
 case inr=>
  as_aux_lemma=>
   have HU:=GK (fun w=>U7 d.dg n w h4 hdx n0 n1);have HP:=GK (fun v ok h=>aO0 (n:=n) (v:=v) (ok:=ok) hmk hn h);have HN:=GK hn;clear hM hok hx h4 hdx hmk hn
   go_wp2_with fail
   refine(HM.out _).mono ?_;rintro _ w1 ⟨rfl,hb⟩;replace hY:=hY.later hb;clear hb;obtain⟨q0,q1,q2,q3,q4,qB⟩:=id hY;rw[HN.out]at q0
   go_wp2_with fail
   refine(HU.out _).mono ?_;rintro _ w2 ⟨v,ok,hU,rfl,hb⟩;have HP2:=GK (HP.out _ _ hU);have HB2:=GK (bt (bt HB0.out hY.below) hb);clear hb hU
   go_wp2_with fail
   go_ret2
   exact⟨_,_,HP2.out,rfl,HB2.out⟩
 case inl=>
  as_aux_lemma=>
   have HU:=GK (fun w=>U8 d.dg (-(max n (-9223372036854775807))) w h4 hdx);have HP:=GK (fun v ok h=>aO1 (n:=n) (v:=v) (ok:=ok) hmk hn h);have HN:=GK hn;clear hM hok hx h4 hdx hmk hn
   go_wp2_with fail
   refine(HM.out _).mono ?_;rintro _ w1 ⟨rfl,hb⟩;replace hY:=hY.later hb;clear hb;obtain⟨q0,q1,q2,q3,q4,qB⟩:=id hY;rw[HN.out]at q0
   go_wp2_with fail
   refine(HU.out _).mono ?_;rintro _ w2 ⟨v,ok,hU,rfl,hb⟩;have HP2:=GK (HP.out _ _ hU);have hw:wrap64 (-v)= -v:=by
    have g0:=hU.1;have g1:=hU.2.1;unfold wrap64;omega
   have HB2:=GK (bt (bt HB0.out hY.below) hb);clear hb hU
   go_wp2_with fail
   rw[hw]
   go_ret2
   exact⟨_,_,HP2.out,rfl,HB2.out⟩
end Bk
end
section
open Go.RowKit Go.Lib
namespace Bk
open Un (ba bt ri rb aU bF)
theorem TA(a b:Int)(p:Nat)(w:World)(hc:w.cell? ⟨p,0,none⟩=some (.bool true)):
 Calls Tryz.prog 113 #[.int .i64 a,.int .i64 b,.pointer (some ⟨p,0,none⟩)] w fun r w'=>r=.returned (.bool (decide (a<b)))/\w=w':=by
 go_enter Tryz.func113,Tryz.ntmps113
 by_cases c:a<b
 . rw[aAP c]
   go_wp2_with fail
   go_ret
   exact⟨rfl,rfl⟩
 rw[aCw c]
 go_wp2_with fail
 go_ret
 exact⟨rfl,rfl⟩
def aP(y m k:Int):List Value:=[.int .i64 y,.int .i64 m,.int .i64 k]
def EW(d:Dt)(cy cm ck:Int)(w:World)(e:Ending)(w':World):Prop:= ∃y m k ok,d.jF cy cm ck y m k ok/\e=.returned (.tuple #[cvv y m k,.bool ok])/\Below w.heap.size w w'
structure Sk(d:Dt)(mv dv:Value)(cy cm ck:Int)(p3 p4 p5 p6:Nat)(w W:World):Prop where
 f:Rw p3 (iE d mv dv) w W
 c:Rw p4 (aP cy cm ck) w W
 u:Rw p5 [.bool true] w W
 o:Rw p6 (aP 0 0 0) w W
 m:bD W mv d.ms
 d:bD W dv d.ds
theorem Sk.later{d:Dt}{mv dv:Value}{cy cm ck:Int}{p3 p4 p5 p6:Nat}{w W W2:World}(h:Sk d mv dv cy cm ck p3 p4 p5 p6 w W)(hb:Below W.heap.size W W2):Sk d mv dv cy cm ck p3 p4 p5 p6 w W2:=
 ⟨h.f.later hb,h.c.later hb,h.u.later hb,h.o.later hb,h.m.later hb,h.d.later hb⟩
theorem Sk.new(d:Dt){mv dv:Value}(cy cm ck:Int)(w:World)(t1 t2 t3 t4:TypeId)(hm:bD w mv d.ms)(hd:bD w dv d.ds):
 Sk d mv dv cy cm ck w.heap.size (w.heap.size+1) (w.heap.size+1+1) (w.heap.size+1+1+1) w ((((w.alloc (.cells (iE d mv dv).toArray t1)).alloc (.cells (aP cy cm ck).toArray t2)).alloc (.cells #[.bool true] t3)).alloc (.cells (aP 0 0 0).toArray t4)):=by
 have f1:=Rw.fresh (aAL w.heap.size w) (iE d mv dv) t1;have f2:=Rw.fresh f1.below (aP cy cm ck) t2;have f3:=Rw.fresh f2.below [.bool true] t3;have f4:=Rw.fresh f3.below (aP 0 0 0) t4;simp only[fC]at f2 f3 f4;refine⟨?_,?_,?_,f4,?_,?_⟩
 . exact((f1.later (ba (aAL _ _) _)).later (ba (aAL _ _) _)).later (ba (aAL _ _) _)
 . exact(f2.later (ba (aAL _ _) _)).later (ba (aAL _ _) _)
 . exact f3.later (ba (aAL _ _) _)
 . exact hm.later f4.below
 exact hd.later f4.below
theorem aLS{d:Dt}{v m k cy cm ck:Int}{s2:Bool}(hmd:d.mo.size=0->d.da.size=0)(hle:cy<=v)(hns: ¬(v=cy/\d.mo.size≠0/\m<cm))(h2:s2=true↔v=cy/\(d.mo.size=0\/m=cm)):
 d.ge v m k cy cm ck↔ ¬(s2=true/\d.da.size≠0/\k<ck):=by
 unfold Dt.ge;rw[h2]
 by_cases c:cy<v
 . exact⟨fun _ h=>by omega,fun _=>.inl c⟩
 have e:v=cy:=by omega
 constructor
 . rintro(h|⟨_,h⟩) ⟨⟨_,g1⟩,g2,g3⟩
   . exact c h
   have:d.mo.size≠0:=fun h=>g2 (hmd h);omega
 intro h;refine .inr ⟨e,?_⟩
 by_cases c1:d.mo.size=0
 . exact .inl c1
 by_cases c2:m=cm
 . refine .inr (.inr ⟨c2,?_⟩)
   by_cases c3:d.da.size=0
   . exact .inl c3
   right
   by_cases c4:k<ck
   . exact absurd ⟨⟨e,.inr c2⟩,c3,c4⟩ h
   omega
 right;left;omega
theorem bD.at{W:World}{g n cap:Nat}{l:List Int}(h:bD W (.slice (some ⟨g,0,none⟩) n cap) l): ∀i (hi:i<l.length),W.cell? ⟨g,i,none⟩=some (.int .i64 (l[i]'hi)):=by
 obtain⟨g2,cap2,he,_,hc⟩:=h
 cases he
 exact hc
theorem pR:(Tryz.prog.info? 112).map (·.size)=some 3:=by kernel_rfl
theorem vP{fn:Func}{p q:Tmp}{ty:TypeId}(h:fn.results= #[.cell p ty,.tmp q])(tmps:Array Value){P:Program}{w:World}{a:Addr}{v u:Value}
 (hp:tmps.getD p undef=.pointer (some a)) (hq:tmps.getD q undef=u) (hl:(loadVar ty a).run P w=.ok v w):(results fn tmps).run P w=.ok (.tuple #[v,u]) w:=by
 have hp':tmps[p]?.getD undef=.pointer (some a):=by simpa using hp
 have hq':tmps[q]?.getD undef=u:=by simpa using hq
 simp[results,h,hp',hq',asAddr,hl]
theorem XW{d:Dt}{cy cm ck y m k:Int}{ok:Bool}{p6:Nat}{w wO:World}{tmps:Array Value}(ho:Rw p6 (aP 0 0 0) w wO)(h:d.jF cy cm ck y m k ok)
 (hp:tmps.getD 6 undef=.pointer (some ⟨p6,0,none⟩)) (hq:tmps.getD 7 undef=.bool ok):
 bodyPost Tryz.prog Tryz.f83 (EW d cy cm ck w) Exit.ret ⟨tmps,[]⟩ (((wO.setCell ⟨p6,0,none⟩ (.int .i64 y)).setCell ⟨p6,1,none⟩ (.int .i64 m)).setCell ⟨p6,2,none⟩ (.int .i64 k)):=by
 have hX:=ho.eU (aP y m k) rfl;have hr:=aQl (P:=Tryz.prog) _ p6 0 112 (aP y m k) _ hX.range Tryz.underlying112 rfl pR;exact aG2 (v:=.tuple #[cvv y m k,.bool ok]) (vP Tryz.results83 _ hp hq hr) rfl ⟨y,m,k,ok,h,rfl,hX.below⟩
def SK:Value->Nat
 | .bool true=>1
 |_=>0
def muY(y f:Value):Nat:=SK f * (10000000000000002 - intOf y).toNat
structure Yst(d:Dt)(cy cm ck:Int)(v:Int)(ok:Bool):Prop where
 yes:ok=true->d.In v/\cy<=v/\d.NoY v cy cm ck
 no:ok=false-> ∀z n j,d.Fill z n j-> ¬d.ge z n j cy cm ck
theorem Yst.start{d:Dt}{cy cm ck v:Int}{ok:Bool}(h:d.Year cy v ok):Yst d cy cm ck v ok:=by
 have hs:=Dt.aFz (cm:=cm) (ck:=ck) h;refine⟨fun e=>?_,hs.2⟩;rcases h with g|g
 . exact⟨g.2.1,g.2.2.1,hs.1 e⟩
 rw[g.1]at e;cases e
theorem Yst.next{d:Dt}{cy cm ck y v:Int}{ok:Bool}(hs:Yst d cy cm ck y true)(hm:d.NoM y cy cm ck d.ms.length)(h:d.Year (y+1) v ok):Yst d cy cm ck v ok/\(ok=true->y<v):=by
 obtain⟨h1,h2,h3⟩:=hs.yes rfl;have hn:=Dt.aIE h3 hm h;rcases h with g|g
 . exact⟨⟨fun e=>⟨g.2.1,by have:=g.2.2.1;omega,hn.1 e⟩,hn.2⟩,fun _=>by have:=g.2.2.1;omega⟩
 refine⟨⟨fun e=>?_,hn.2⟩,fun e=>?_⟩<;>(rw[g.1]at e;cases e)
theorem aHF (d : Dt) (mv dv:Value) (cy cm ck:Int) (w:World) (hk:lW w) (hy:d.dg.size<=1000) (hok:d.JG=true) (hmd:d.mo.size=0->d.da.size=0)
 (y0: -9223372036854775808<=cy) (y1:cy<9223372036854775808) (hm:bD w mv d.ms) (hd:bD w dv d.ds) (hmm:d.da.size≠0-> ∀m,m ∈ d.ms->1<=m/\m<=12):
 Calls Tryz.prog 83 #[fmv d mv dv,cvv cy cm ck,.bool true] w (EW d cy cm ck w):=by
 obtain⟨gm,xm,rfl,-,-⟩:=id hm;obtain⟨gd,xd,rfl,-,-⟩:=id hd;have hS:=Sk.new d cy cm ck w 116 112 4 112 hm hd;have HY:=GK (fun n W h0 h1=>VX d (.slice (some ⟨gm,0,none⟩) d.ms.length xm) (.slice (some ⟨gd,0,none⟩) d.ds.length xd) n W hy hok h0 h1);have HL:=GK (fun y m W hb h0 h1 hm=>FX d (.slice (some ⟨gm,0,none⟩) d.ms.length xm) (.slice (some ⟨gd,0,none⟩) d.ds.length xd) y m W (hk.below (w':=W) hb) h0 h1 hm);have HIN:=GK (fun y (h:d.In y)=>Dt.jU hok h);have HMM:=GK hmm;have HMD:=GK hmd;unfold fmv at HY HL;unfold fmv cvv;unfold iE aP at hS
 go_enter Tryz.func83,Tryz.ntmps83
 go_upto_region 1 with(fail)
 generalize World.alloc _ _=W0 at hS ⊢;generalize w.heap.size+1+1+1=p6 at *;generalize w.heap.size+1+1=p5 at *;generalize w.heap.size+1=p4 at *;clear hk hy hok hm hd hmm hmd;replace hS:Hid (Sk d (.slice (some ⟨gm,0,none⟩) d.ms.length xm) (.slice (some ⟨gd,0,none⟩) d.ds.length xd) cy cm ck w.heap.size p4 p5 p6 w W0):=GK hS;have HB0:=GK hS.out.f.below
 go_cut [8,9,10] (fun a b c wx=>a=.int .i64 1/\ .slice (some ⟨gm,0,none⟩) d.ms.length xm=b/\ .slice (some ⟨gd,0,none⟩) d.ds.length xd=c/\Sk d b c cy cm ck w.heap.size p4 p5 p6 w wx)
 case first=>
  have f0:=hS.out.f.cell 10 _ rfl;have f1:=hS.out.f.cell 11 _ rfl
  go_region_with (fail)
  all_goals (go_wp2_with fail)
  all_goals (go_meet;exact⟨rfl,rfl,rfl,hS.out.later (aAL W0.heap.size W0).drew⟩)
 case rest=>
 obtain⟨rfl,rfl,rfl,hS⟩:=hcut;have hu:=hS.u.cell 0 _ rfl;have g0:=hS.c.cell 0 _ rfl;have hR:=hS.f.range;replace hS:=GK hS
 go_wp2_with (first
  |(refine aG6 rfl 116 (.tmp 3) rfl w.heap.size 0 rfl (iE d (.slice (some ⟨gm,0,none⟩) d.ms.length xm) (.slice (some ⟨gd,0,none⟩) d.ds.length xd)) _ hR Tryz.underlying116 rfl jM ?_)
  |(go_at_call 114;refine(HY.out _ _ y0 y1).mono ?_;rintro _ w1 ⟨v,ok,hv,rfl,hb⟩))
 replace hS:Hid (Sk d (.slice (some ⟨gm,0,none⟩) d.ms.length xm) (.slice (some ⟨gd,0,none⟩) d.ds.length xd) cy cm ck w.heap.size p4 p5 p6 w w1):=GK (hS.out.later hb);have HV0:Hid (Yst d cy cm ck v ok):=GK (Yst.start hv);clear hu g0 hR hv hb HB0
 go_loopw [7,12,13] (fun r y f wr=> ∃v ok,r=.bool false/\y=.int .i64 v/\f=.bool ok/\Yst d cy cm ck v ok/\Sk d (.slice (some ⟨gm,0,none⟩) d.ms.length xm) (.slice (some ⟨gd,0,none⟩) d.ds.length xd) cy cm ck w.heap.size p4 p5 p6 w wr) (fun _ y f _=>muY y f)
 case atStart=>exact⟨v,ok,rfl,rfl,rfl,HV0.out,hS.out⟩
 case round =>
  obtain⟨v,ok,rfl,rfl,rfl,hV,hS⟩:=hrel;generalize wr=wO at *;have HV:=GK hV;have HS:=GK hS;clear hV hS
  cases ok
  . have HN:=GK (HV.out.no rfl);have f0:=HS.out.o.cell 0 _ rfl;have f1:=HS.out.o.cell 1 _ rfl;have f2:=HS.out.o.cell 2 _ rfl;have z0:=HS.out.o.free 0 (by unfold aP;simp);have z1:=HS.out.o.free 1 (by unfold aP;simp);have z2:=HS.out.o.free 2 (by unfold aP;simp)
    go_wp2_with fail
    exact XW HS.out.o (.inr ⟨rfl,rfl,rfl,rfl,HN.out⟩) rfl rfl
  obtain ⟨i1, i2, i3⟩:=HV.out.yes rfl;have HIV:=GK (HIN.out _ i1);have HLE:=GK i2;clear i1 i2 i3
  go_wp2_with fail
  go_step3
  go_wp2_with fail
  go_step3
  go_wp2_with fail
  have HM0:=GK (Dt.aIF d v cy cm ck)
  go_loopw [7,55] (fun r i wr=> ∃i':Nat,r=.bool false/\i=.int .i64 i'/\i'<=d.ms.length/\d.NoM v cy cm ck i'/\Sk d (.slice (some ⟨gm,0,none⟩) d.ms.length xm) (.slice (some ⟨gd,0,none⟩) d.ds.length xd) cy cm ck w.heap.size p4 p5 p6 w wr) (fun _ i _=>d.ms.length - (intOf i).toNat)
  case atStart=>exact⟨0,rfl,rfl,by omega,HM0.out,HS.out⟩
  case round =>
   obtain⟨i,rfl,rfl,hi,hM,hS⟩:=hrel;clear HS HM0;generalize wr=wO at *;have HS:=GK hS;have HM:=GK hM;clear hS hM;have ml:=d.UY
   by_cases hlt:i<d.ms.length
   . have hcell :=HS.out.m.at i hlt;generalize hme:d.ms[i]'hlt=m at hcell;have g0:=HS.out.c.cell 0 _ rfl
     go_upto_region 13 with(fail)
     go_cut [16] (fun s wx=> ∃b,s=.bool b/\(b=true↔v=cy)/\wO=wx)
     case first=>
      go_wp2_with fail
      go_meet
      exact⟨_,rfl,by simp,rfl⟩
     case rest=>
      obtain⟨sb,rfl,hsb,rfl⟩:=hcut;have IJ:=GK hsb;clear hsb g0 hcell
      go_upto_region 14 with(fail)
      go_cut [76] (fun s wx=> ∃b,s=.bool b/\(b=true↔(v=cy/\d.mo.size≠0/\m<cm))/\wO=wx)
      case first=>
       have g5:=HS.out.f.cell 5 _ rfl;have g1:=HS.out.c.cell 1 _ rfl;have hu:=HS.out.u.cell 0 _ rfl;have HA:=GK (TA m cm p5 wO hu)
       cases sb
       . have hne:v≠cy:=fun e=>by have:=IJ.out.2 e;cases this
         go_wp2_with fail
         go_meet
         exact⟨_,rfl,by simp[hne],rfl⟩
       have hve:=IJ.out.1 rfl;rcases fA d.mo with⟨c,e1⟩|⟨c,e1⟩
       . have HC:=GK c;clear c hve
         go_wp2_with fail
         go_meet
         exact⟨_,rfl,by simp[HC.out],rfl⟩
       have HC:=GK c;have HVE:=GK hve;clear c hve;generalize hmc:decide (m<cm)=mc at HA;have HMC:=GK hmc;clear hmc
       go_wp2_with (go_at_call 113;with_reducible refine HA.out.mono ?_;rintro _ w' ⟨rfl,rfl⟩)
       go_meet
       exact⟨_,rfl,by rw[<-HMC.out];simp[HC.out,HVE.out],rfl⟩
      case rest =>
       obtain⟨b,rfl,hb,rfl⟩:=hcut
       cases b
       . have HNS : Hid (¬(v=cy/\d.mo.size≠0/\m<cm)):=GK (fun h=>by have:=hb.2 h;cases this);clear hb;have hR:=HS.out.f.range;have hl:=HL.out v m wO HS.out.f.below HIV.out.1 HIV.out.2 (fun h=>HMM.out h m (by rw[<-hme];exact aRV hlt));have HLN:=GK hl;clear hl;obtain⟨n,hn⟩: ∃n,n=d.len v m:=⟨_,rfl⟩;rw[<-hn]at HLN;have HNN:=GK hn;clear hn
         go_upto_region 16 with(first
          |(refine aG6 rfl 116 (.tmp 3) rfl w.heap.size 0 rfl (iE d (.slice (some ⟨gm,0,none⟩) d.ms.length xm) (.slice (some ⟨gd,0,none⟩) d.ds.length xd)) _ hR Tryz.underlying116 rfl jM ?_)
          |(go_at_call 115;refine HLN.out.mono ?_;rintro _ w2 ⟨rfl,hb⟩))
         replace HS:=GK (HS.out.later hb);clear hb hR HLN
         go_cut [16] (fun s wx=> ∃b,s=.bool b/\(b=true↔(v=cy/\(d.mo.size=0\/m=cm)))/\w2=wx)
         case first=>
          have g5:=HS.out.f.cell 5 _ rfl;have g1:=HS.out.c.cell 1 _ rfl
          cases sb
          . have hne:v≠cy:=fun e=>by have:=IJ.out.2 e;cases this
            go_wp2_with fail
            go_meet
            exact⟨_,rfl,by simp[hne],rfl⟩
          have hve:=IJ.out.1 rfl;have HVE:=GK hve;clear hve;rcases fA d.mo with⟨c,e1⟩|⟨c,e1⟩
          . have HC:=GK c;clear c
            go_wp2_with fail
            go_meet
            exact⟨_,rfl,by simp[HC.out,HVE.out],rfl⟩
          have HC:=GK c;clear c
          go_wp2_with fail
          go_meet
          exact⟨_,rfl,by simp[HC.out,HVE.out],rfl⟩
         case rest=>
          obtain⟨s2,rfl,hs2,rfl⟩:=hcut;have HS2:=GK hs2;have HGE:=GK (fun k=>aLS (k:=k) (ck:=ck) HMD.out HLE.out HNS.out hs2);clear hs2 IJ;have HK0:=GK (Dt.aII d v m cy cm ck)
          go_wp2_with fail
          go_loopw [7,96] (fun r i wr=> ∃i':Nat,r=.bool false/\i=.int .i64 i'/\i'<=d.ds.length/\d.NoK v m cy cm ck i'/\Sk d (.slice (some ⟨gm,0,none⟩) d.ms.length xm) (.slice (some ⟨gd,0,none⟩) d.ds.length xd) cy cm ck w.heap.size p4 p5 p6 w wr) (fun _ i _=>d.ds.length - (intOf i).toNat)
          case atStart=>exact⟨0,rfl,rfl,by omega,HK0.out,HS.out⟩
          case round=>
           obtain⟨j,rfl,rfl,hj,hK,hS⟩:=hrel;clear HS HK0;generalize wr=wO at *;have HS:=GK hS;have HK:=GK hK;clear hS hK;have dl:=d.aCn
           by_cases hjt:j<d.ds.length
           . have hcell:=HS.out.d.at j hjt;generalize hke:d.ds[j]'hjt=k at hcell
             go_upto_region 20 with(fail)
             go_cut [119] (fun s wx=> ∃b,s=.bool b/\(b=true↔(k<=n/\ ¬(s2=true/\d.da.size≠0/\k<ck)))/\wO=wx)
             case first=>
              have g6:=HS.out.f.cell 6 _ rfl;have g2:=HS.out.c.cell 2 _ rfl;have hu:=HS.out.u.cell 0 _ rfl;have HA:=GK (TA k ck p5 wO hu)
              by_cases hkn:k<=n
              . cases s2
                . go_wp2_with fail
                  go_meet
                  exact⟨_,rfl,by simp[hkn],rfl⟩
                rcases fA d.da with⟨c,e1⟩|⟨c,e1⟩
                . have HC:=GK c;clear c
                  go_wp2_with fail
                  go_meet
                  exact⟨_,rfl,by simp[HC.out,hkn],rfl⟩
                have HC:=GK c;clear c;generalize hmc:decide (k<ck)=mc at HA;have HMC:=GK hmc;clear hmc
                go_wp2_with (go_at_call 113;with_reducible refine HA.out.mono ?_;rintro _ w' ⟨rfl,rfl⟩)
                go_meet
                exact⟨_,rfl,by rw[<-HMC.out];simp[HC.out,hkn],rfl⟩
              go_wp2_with fail
              go_meet
              exact⟨_,rfl,⟨fun h=>by simp[hkn]at h,fun h=>absurd h.1 (by omega)⟩,rfl⟩
             case rest=>
              obtain⟨b,rfl,hb,rfl⟩:=hcut
              cases b
              . have HK2:=GK (Dt.aIJ HK.out hjt (fun hle hg=>by
                 rw[hke]at hle hg;have:=hb.2 ⟨by rw[HNN.out];exact hle,(HGE.out k).1 hg⟩
                 cases this))
                clear hb HK hcell
                go_wp2_with fail
                go_roundw
                case rel=>exact⟨j+1,rfl,by go_num,by omega,HK2.out,HS.out⟩
                case measure=>simp[intOf];omega
              have hb:=hb.1 rfl;have HF:=GK (Dt.found (HV.out.yes rfl).1 (HV.out.yes rfl).2.2 HM.out hlt (by rw[hme];exact HK.out) hjt (by rw[hme,hke,<-HNN.out];exact hb.1) (by rw[hme,hke];exact(HGE.out k).2 hb.2));rw[hme,hke]at HF;clear hb HK hcell;have f0:=HS.out.o.cell 0 _ rfl;have f1:=HS.out.o.cell 1 _ rfl;have f2:=HS.out.o.cell 2 _ rfl;have z0:=HS.out.o.free 0 (by unfold aP;simp);have z1:=HS.out.o.free 1 (by unfold aP;simp);have z2:=HS.out.o.free 2 (by unfold aP;simp)
              go_wp2_with fail
              exact XW HS.out.o HF.out rfl rfl
           obtain rfl:j=d.ds.length:=by omega
           have HM2:=GK (Dt.aIG HM.out hlt (by rw[hme];exact HK.out));clear HK HM
           go_wp2_with fail
           go_roundw
           case rel=>exact⟨i+1,rfl,by go_num,by omega,HM2.out,HS.out⟩
           case measure=>simp[intOf];omega
       have hb:=hb.1 rfl;have HB:=GK hb;have HK:=GK (Dt.aIH HM.out hlt HB.out.1 HB.out.2.1 (by rw[hme];exact HB.out.2.2));clear hb HM
       go_wp2_with fail
       go_roundw
       case rel=>exact⟨i+1,rfl,by go_num,by omega,HK.out,HS.out⟩
       case measure=>simp[intOf];omega
   obtain rfl:i=d.ms.length:=by omega
   have hR:=HS.out.f.range;have hu:=HS.out.u.cell 0 _ rfl;have hwk:IntKind.i64.wrap (v+1)=v+1:=by rw[aGZ];have:=HIV.out;omega
   have hy:=HY.out (v+1) wO (by have:=HIV.out;omega) (by have:=HIV.out;omega);have HY1:=GK hy;clear hy
   go_wp2_with fail
   rw[aUM]
   go_wp2_with (first
    |(refine aG6 rfl 116 (.tmp 3) rfl w.heap.size 0 rfl (iE d (.slice (some ⟨gm,0,none⟩) d.ms.length xm) (.slice (some ⟨gd,0,none⟩) d.ds.length xd)) _ hR Tryz.underlying116 rfl jM ?_)
    |(go_at_call 114;refine HY1.out.mono ?_;rintro _ w2 ⟨v2,ok2,hv2,rfl,hb⟩))
   have HX:=GK (Yst.next HV.out HM.out hv2);have HS2:=GK (HS.out.later hb);clear hv2 hb hR hu
   go_roundw
   case rel=>exact⟨v2,ok2,rfl,rfl,rfl,HX.out.1,HS2.out⟩
   case measure=>
    have h1:=HIV.out;have h2:=HX.out.2;unfold muY
    cases ok2
    . simp[SK,intOf];omega
    have:=h2 rfl;simp[SK,intOf];omega
end Bk
end

section
open Go.RowKit Go.Lib
namespace Sk
open Ev (aV DT LG dQ aQ hp uY iW iV lT kR OJ FQ lY aN AV yJ rG dS aG aJ eG kX)
open Bk (Dt aW)
def aCI:DT:=(.node 0 (qi 17) qz (.node 0 (qu 0) (.v (.int .u8 1)) (.node 1 (.v (.int .i64 1)) (aN 8 .i64 [(lY 1)]) (.leaf (.v (.int .i64 14))) (.node 1 (.v (.int .u8 3)) (qu 0) DT.no (.leaf qz))) (.node 1 (.v (.int .u8 3)) (qu 0) (.leaf (.v (.int .i64 1))) (.leaf qz))) (.leaf (qi 17)))
theorem Y4(l:Value):aCI.ok dQ l [] [(22,[gY (qu 0)],(qi 17))] hp 60 LG 8 [gY (qu 0)] []=true:=by kernel_rfl
theorem aHI(k:Int)(bs:Option Addr)(n cp:Nat)(d:Dt)(p a lo b hi:Int)(c:Int){w0:World}(hst:SS w0) (H0:Same w0 22 #[(fam k (.slice bs n cp) d p a lo b hi)] (.int .i64 c)):Same w0 8 #[(fam k (.slice bs n cp) d p a lo b hi)] (cond (c==0) (cond (k==1) (cond (decide (1<((n:Nat):Int))) (.int .i64 14) (cond (decide (3<k)) (.bool false) (.int .i64 0))) (cond (decide (3<k)) (.int .i64 1) (.int .i64 0))) (.int .i64 c)):=
 aG (Y4 (lv (lF k (.slice bs n cp) d p a lo b hi) [.int .i64 c])) (aQ w0) hst .nil (.cons H0 .nil) (eG (by kernel_rfl:_=((((c==0)=true->(((k==1)=true->(((decide (1<((n:Nat):Int)))=true->True)/\((decide (1<((n:Nat):Int)))=false->(((decide (3<k))=true->False)/\((decide (3<k))=false->True)))))/\((k==1)=false->(((decide (3<k))=true->True)/\((decide (3<k))=false->True)))))/\((c==0)=false->True)))) (⟨fun h0=>⟨fun h1=>⟨fun h2=>trivial,fun h2=>⟨fun h3=>(by simp only[aFZ,aAO,aFK,aD5]at *;omega),fun h3=>trivial⟩⟩,fun h1=>⟨fun h2=>trivial,fun h2=>trivial⟩⟩,fun h0=>trivial⟩)) (by kernel_rfl)
def aCJ:DT:=(.node 1 qz (qi 17) (.leaf (qi 17)) (.node 0 (qu 0) (.v (.int .u8 1)) (.node 1 (.v (.int .i64 1)) (aN 8 .i64 [(lY 1)]) (.leaf (.v (.int .i64 14))) (.node 1 (.v (.int .u8 3)) (qu 0) DT.no (.leaf qz))) (.node 1 (.v (.int .u8 3)) (qu 0) (.leaf (.v (.int .i64 1))) (.leaf qz))))
theorem Y5(l:Value):aCJ.ok dQ l [] [(21,[gY (qu 0)],(qi 17))] hp 60 LG 7 [gY (qu 0)] []=true:=by kernel_rfl
theorem aHR(k:Int)(bs:Option Addr)(n cp:Nat)(d:Dt)(p a lo b hi:Int)(c:Int){w0:World}(hst:SS w0) (H0:Same w0 21 #[(fam k (.slice bs n cp) d p a lo b hi)] (.int .i64 c)):Same w0 7 #[(fam k (.slice bs n cp) d p a lo b hi)] (cond (decide (0<c)) (.int .i64 c) (cond (k==1) (cond (decide (1<((n:Nat):Int))) (.int .i64 14) (cond (decide (3<k)) (.bool false) (.int .i64 0))) (cond (decide (3<k)) (.int .i64 1) (.int .i64 0)))):=
 aG (Y5 (lv (lF k (.slice bs n cp) d p a lo b hi) [.int .i64 c])) (aQ w0) hst .nil (.cons H0 .nil) (eG (by kernel_rfl:_=((((decide (0<c))=true->True)/\((decide (0<c))=false->(((k==1)=true->(((decide (1<((n:Nat):Int)))=true->True)/\((decide (1<((n:Nat):Int)))=false->(((decide (3<k))=true->False)/\((decide (3<k))=false->True)))))/\((k==1)=false->(((decide (3<k))=true->True)/\((decide (3<k))=false->True)))))))) (⟨fun h0=>trivial,fun h0=>⟨fun h1=>⟨fun h2=>trivial,fun h2=>⟨fun h3=>(by simp only[aFZ,aAO,aFK,aD5]at *;omega),fun h3=>trivial⟩⟩,fun h1=>⟨fun h2=>trivial,fun h2=>trivial⟩⟩⟩)) (by kernel_rfl)
def aRm:DT:=(.node 0 (qi 9) qz (.node 1 (qi 10) qz (.leaf (.aS [(rK q8 qz q8 qz),qf])) (.node 1 qz (qi 11) (.leaf (.aS [(rK q8 qz q8 qz),qf])) (.leaf (.aS [(rK (qe 5) (qi 6) (qe 7) (qi 8)),qt])))) (.leaf (.aS [(rK q8 qz q8 qz),qf])))
theorem aMr(l:Value):aRm.ok dQ l [] [(78,[.agg [(qe 5),(qi 6)],.agg [(qe 0),(qi 1)]],(qi 10)),(78,[.agg [(qe 7),(qi 8)],.agg [(qe 2),(qi 3)]],(qi 11))] hp 60 LG 269 [.agg [(qe 0),(qi 1),(qe 2),(qi 3),(qu 4)],(rK (qe 5) (qi 6) (qe 7) (qi 8)),(qi 9)] []=true:=by kernel_rfl
theorem aWf(a lo b hi p ua ul ub uh e c1 c2:Int){w0:World}(hst:SS w0) (H0:Same w0 78 #[(ev ua ul),(ev a lo)] (.int .i64 c1))(H1:Same w0 78 #[(ev ub uh),(ev b hi)] (.int .i64 c2)):Same w0 269 #[(.agg #[(.int .i8 a),(.int .i64 lo),(.int .i8 b),(.int .i64 hi),(.int .u8 p)]),(r4 ua ul ub uh),(.int .i64 e)] (cond (e==0) (cond (decide (c1<0)) (.tuple #[(r4 0 0 0 0),(.bool false)]) (cond (decide (0<c2)) (.tuple #[(r4 0 0 0 0),(.bool false)]) (.tuple #[(r4 ua ul ub uh),(.bool true)]))) (.tuple #[(r4 0 0 0 0),(.bool false)])):=
 aG (aMr (.agg #[.int .i8 a,.int .i64 lo,.int .i8 b,.int .i64 hi,.int .u8 p,.int .i8 ua,.int .i64 ul,.int .i8 ub,.int .i64 uh,.int .i64 e,.int .i64 c1,.int .i64 c2])) (aQ w0) hst .nil (.cons H0 (.cons H1 .nil)) (aJ (by kernel_rfl)) (by kernel_rfl)
end Sk
end
section
open Go.RowKit Go.Lib
namespace Sk
open Ev (aV DT LG dQ aQ hp uY iW iV lT kR OJ FQ lY aN AV yJ rG dS aG aJ eG kX)
open Bk (Dt aW cvv)
theorem KF(a lo b hi c l d h:Int)(z:Bool)(hz:z=decide (a=c/\lo=l/\b=d/\hi=h)):OU 42 (r4 a lo b hi) (r4 c l d h) z:=by
 subst hz;unfold r4;refine⟨fun w=>?_,fun w=>?_⟩<;> · go_simp;(repeat' split)<;>simp_all
def yb0:AV:=.aS [(rK q8 qz q8 qz),qf]
def yb1:AV:=.agg [(qi 10),(qi 11),(qi 12)]
def yb2:AV:=rK (qe 14) (qi 15) (qe 16) (qi 17)
def yb3:AV:=rK (qe 18) (qi 19) (qe 20) (qi 21)
def yb4:AV:=rK (qe 57) (qi 58) (qe 59) (qi 60)
def yb5:AV:=rK (qe 47) (qi 48) (qe 49) (qi 50)
def yb6:AV:=rK (qe 37) (qi 38) (qe 39) (qi 40)
def yb7:AV:=rK (qe 27) (qi 28) (qe 29) (qi 30)
def yb8:AV:=rK (qe 11) (qi 12) (qe 13) (qi 14)
def yb9:AV:=rK (qe 31) (qi 32) (qe 33) (qi 34)
def aSl:AV:=rK (qe 41) (qi 42) (qe 43) (qi 44)
def aSk:AV:=rK (qe 51) (qi 52) (qe 53) (qi 54)
def aSj:AV:=rK (qe 10) (qi 11) (qe 12) (qi 13)
def aAT:AV:=rK (qe 16) (qi 17) (qe 18) (qi 19)
def aLE:AV:=rK (qe 21) (qi 22) (qe 23) (qi 24)
def aNA:DT:=(.node 3 (qb 13) (qb 13) (.node 0 (qi 16) qz (.leaf (.aS [(rK q8 (qi 14) q8 (qi 15)),qt])) (.leaf (.aS [(rK q8 (qi 14) q8 (qi 15)),qf]))) (.leaf yb0))
theorem aIn(l:Value):aNA.ok dQ l [] [(290,[iL,.agg [(qi 10),(qi 11),(qi 12)]],.aS [rK q8 (qi 14) q8 (qi 15),(qi 16)])] hp 60 LG 283 [iL,.agg [(qi 10),(qi 11),(qi 12)],(qb 13)] []=true:=by kernel_rfl
theorem aC7(d:Dt)(cy cm ck lo hi er:Int)(is:Bool){w0:World}(hst:SS w0) (H0:Same w0 290 #[(aW d),(cvv cy cm ck)] (.tuple #[(r4 0 lo 0 hi),(.int .i64 er)])):Same w0 283 #[(aW d),(cvv cy cm ck),(.bool is)] (cond is (cond (er==0) (.tuple #[(r4 0 lo 0 hi),(.bool true)]) (.tuple #[(r4 0 lo 0 hi),(.bool false)])) (.tuple #[(r4 0 0 0 0),(.bool false)])):=
 aG (aIn (lv (dL d) [.int .i64 cy,.int .i64 cm,.int .i64 ck,.bool is,.int .i64 lo,.int .i64 hi,.int .i64 er])) (aQ w0) hst .nil (.cons H0 .nil) (aJ (by kernel_rfl)) (by kernel_rfl)
def aGQ:DT:=(.node 0 (qi 13) qz (.leaf (.aS [yb2,(qb 22)])) (.leaf (.aS [yb3,(qb 23)])))
theorem aBP(l:Value):aGQ.ok dQ l [] [(282,[iL],.aS [.agg [(qi 10),(qi 11),(qi 12)],(qi 13)]),(283,[iL,.agg [(qi 10),(qi 11),(qi 12)],qt],.aS [yb2,(qb 22)]),(283,[iL,.agg [(qi 10),(qi 11),(qi 12)],qf],.aS [yb3,(qb 23)])] hp 60 LG 276 [iL] []=true:=by kernel_rfl
theorem aDF(d:Dt)(cy cm ck e ra rl rb rh qa ql qb qh:Int)(it if_:Bool){w0:World}(hst:SS w0) (H0:Same w0 282 #[(aW d)] (.tuple #[(cvv cy cm ck),(.int .i64 e)]))(H1:Same w0 283 #[(aW d),(cvv cy cm ck),(.bool true)] (.tuple #[(r4 ra rl rb rh),(.bool it)]))(H2:Same w0 283 #[(aW d),(cvv cy cm ck),(.bool false)] (.tuple #[(r4 qa ql qb qh),(.bool if_)])):Same w0 276 #[(aW d)] (cond (e==0) (.tuple #[(r4 ra rl rb rh),(.bool it)]) (.tuple #[(r4 qa ql qb qh),(.bool if_)])):=
 aG (aBP (lv (dL d) [.int .i64 cy,.int .i64 cm,.int .i64 ck,.int .i64 e,.int .i8 ra,.int .i64 rl,.int .i8 rb,.int .i64 rh,.int .i8 qa,.int .i64 ql,.int .i8 qb,.int .i64 qh,.bool it,.bool if_])) (aQ w0) hst .nil (.cons H0 (.cons H1 (.cons H2 .nil))) (aJ (by kernel_rfl)) (by kernel_rfl)
def aKP:DT:=(.node 0 (qi 13) qz (.leaf (.aS [yb2,(qb 22)])) (.leaf (.aS [yb3,(qb 23)])))
theorem aFv(l:Value):aKP.ok dQ l [] [(285,[iL],.aS [.agg [(qi 10),(qi 11),(qi 12)],(qi 13)]),(283,[iL,.agg [(qi 10),(qi 11),(qi 12)],qt],.aS [yb2,(qb 22)]),(283,[iL,.agg [(qi 10),(qi 11),(qi 12)],qf],.aS [yb3,(qb 23)])] hp 60 LG 278 [iL] []=true:=by kernel_rfl
theorem aB3(d:Dt)(cy cm ck e ra rl rb rh qa ql qb qh:Int)(it if_:Bool){w0:World}(hst:SS w0) (H0:Same w0 285 #[(aW d)] (.tuple #[(cvv cy cm ck),(.int .i64 e)]))(H1:Same w0 283 #[(aW d),(cvv cy cm ck),(.bool true)] (.tuple #[(r4 ra rl rb rh),(.bool it)]))(H2:Same w0 283 #[(aW d),(cvv cy cm ck),(.bool false)] (.tuple #[(r4 qa ql qb qh),(.bool if_)])):Same w0 278 #[(aW d)] (cond (e==0) (.tuple #[(r4 ra rl rb rh),(.bool it)]) (.tuple #[(r4 qa ql qb qh),(.bool if_)])):=
 aG (aFv (lv (dL d) [.int .i64 cy,.int .i64 cm,.int .i64 ck,.int .i64 e,.int .i8 ra,.int .i64 rl,.int .i8 rb,.int .i64 rh,.int .i8 qa,.int .i64 ql,.int .i8 qb,.int .i64 qh,.bool it,.bool if_])) (aQ w0) hst .nil (.cons H0 (.cons H1 (.cons H2 .nil))) (aJ (by kernel_rfl)) (by kernel_rfl)
def aCN:DT:=(.leaf (.aS [yb1,(qi 13)]))
theorem Y9(l:Value):aCN.ok dQ l [] [(289,[iL,.agg [.v (.int .i64 (-9223372036854775808)),qz,qz],qt],.aS [.agg [(qi 10),(qi 11),(qi 12)],(qi 13)])] hp 60 LG 282 [iL] []=true:=by kernel_rfl
theorem aJC(d:Dt)(cy cm ck e:Int){w0:World}(hst:SS w0) (H0:Same w0 289 #[(aW d),(cvv (-9223372036854775808) 0 0),(.bool true)] (.tuple #[(cvv cy cm ck),(.int .i64 e)])):Same w0 282 #[(aW d)] (.tuple #[(cvv cy cm ck),(.int .i64 e)]):=
 aG (Y9 (lv (dL d) [.int .i64 cy,.int .i64 cm,.int .i64 ck,.int .i64 e])) (aQ w0) hst .nil (.cons H0 .nil) (aJ (by kernel_rfl)) (by kernel_rfl)
def aGP:DT:=(.leaf (.aS [yb1,(qi 13)]))
theorem aBO(l:Value):aGP.ok dQ l [] [(289,[iL,.agg [.v (.int .i64 9223372036854775807),qz,qz],qf],.aS [.agg [(qi 10),(qi 11),(qi 12)],(qi 13)])] hp 60 LG 285 [iL] []=true:=by kernel_rfl
theorem aMV(d:Dt)(cy cm ck e:Int){w0:World}(hst:SS w0) (H0:Same w0 289 #[(aW d),(cvv 9223372036854775807 0 0),(.bool false)] (.tuple #[(cvv cy cm ck),(.int .i64 e)])):Same w0 285 #[(aW d)] (.tuple #[(cvv cy cm ck),(.int .i64 e)]):=
 aG (aBO (lv (dL d) [.int .i64 cy,.int .i64 cm,.int .i64 ck,.int .i64 e])) (aQ w0) hst .nil (.cons H0 .nil) (aJ (by kernel_rfl)) (by kernel_rfl)
def aNF:DT:=(.leaf (.aS [(.agg [(qi 1),(qi 2),(aN 1 .i64 [(aN 2 .i64 [(qi 0),(qi 3)]),(.v (.int .i64 1))])]),qz]))
theorem aIs(l:Value):aNF.ok dQ l [] [(143,[(qi 0)],.aS [(qi 1),(qi 2),qz]),(157,[(qi 1),(qi 2)],.aS [(qi 3),qz])] hp 60 LG 286 [(qi 0)] []=true:=by kernel_rfl
theorem aOE(day y m s:Int){w0:World}(hst:SS w0) (H0:Same w0 143 #[(.int .i64 day)] (.tuple #[(.int .i64 y),(.int .i64 m),(.int .i64 0)]))(H1:Same w0 157 #[(.int .i64 y),(.int .i64 m)] (.tuple #[(.int .i64 s),(.int .i64 0)])):Same w0 286 #[(.int .i64 day)] (.tuple #[(.agg #[(.int .i64 y),(.int .i64 m),(.int .i64 (IntKind.i64.wrap ((IntKind.i64.wrap (day - s))+1)))]),(.int .i64 0)]):=
 aG (aIs (.agg #[.int .i64 day,.int .i64 y,.int .i64 m,.int .i64 s])) (aQ w0) hst .nil (.cons H0 (.cons H1 .nil)) (aJ (by kernel_rfl)) (by kernel_rfl)
def aGU:DT:=(.leaf (.aS [(.agg [qz,qz,qz]),(.v (.int .i64 6))]))
theorem aBT(l:Value):aGU.ok dQ l [] [(143,[(qi 0)],.aS [qz,qz,.v (.int .i64 6)])] hp 60 LG 286 [(qi 0)] []=true:=by kernel_rfl
theorem aDP(day:Int){w0:World}(hst:SS w0) (H0:Same w0 143 #[(.int .i64 day)] (.tuple #[(.int .i64 0),(.int .i64 0),(.int .i64 6)])):Same w0 286 #[(.int .i64 day)] (.tuple #[(cvv 0 0 0),(.int .i64 6)]):=
 aG (aBT (.agg #[.int .i64 day])) (aQ w0) hst .nil (.cons H0 .nil) (aJ (by kernel_rfl)) (by kernel_rfl)
def aGV:DT:=(.node 3 (qb 15) (qb 15) (.node 1 (qi 10) (qi 12) (.node 0 (qi 19) qz (.node 0 (qu 21) (.v (.int .u8 0)) (.node 3 (qb 51) (qb 51) (.node 1 (qi 10) (qi 48) (.leaf (.aS [yb4,(qb 61)])) (.leaf (.aS [yb5,qt]))) (.leaf (.aS [yb5,qf]))) (.node 3 (qb 31) (qb 31) (.node 1 (qi 10) (qi 28) (.leaf (.aS [yb6,(qb 41)])) (.leaf (.aS [yb7,qt]))) (.leaf (.aS [yb7,qf])))) (.leaf yb0)) (.leaf (.aS [yb8,qt]))) (.leaf (.aS [yb8,qf])))
theorem aBU(l:Value):aGV.ok dQ l [] [(278,[iL],.aS [yb8,(qb 15)]),(286,[(qi 10)],.aS [.agg [(qi 16),(qi 17),(qi 18)],(qi 19)]),(288,[iL],.aS [(qu 21),(qi 20)]),(287,[iL,.agg [(qi 16),(qi 17),(qi 18)]],.aS [.agg [(qi 22),(qi 23),(qi 24)],(qb 26),(qi 25)]),(283,[iL,.agg [(qi 22),(qi 23),(qi 24)],(qb 26)],.aS [yb7,(qb 31)]),(287,[iL,.agg [aN 2 .i64 [(qi 22),.v (.int .i64 1)],.v (.int .i64 99),qz]],.aS [.agg [(qi 32),(qi 33),(qi 34)],(qb 36),(qi 35)]),(283,[iL,.agg [(qi 32),(qi 33),(qi 34)],(qb 36)],.aS [yb6,(qb 41)]),(287,[iL,.agg [(qi 16),.v (.int .i64 99),(qi 18)]],.aS [.agg [(qi 42),(qi 43),(qi 44)],(qb 46),(qi 45)]),(283,[iL,.agg [(qi 42),(qi 43),(qi 44)],(qb 46)],.aS [yb5,(qb 51)]),(287,[iL,.agg [aN 2 .i64 [(qi 42),.v (.int .i64 1)],.v (.int .i64 99),qz]],.aS [.agg [(qi 52),(qi 53),(qi 54)],(qb 56),(qi 55)]),(283,[iL,.agg [(qi 52),(qi 53),(qi 54)],(qb 56)],.aS [yb4,(qb 61)])] hp 60 LG 281 [iL,(qi 10)] []=true:=by kernel_rfl
theorem aNj(d:Dt)(day La Ll Lb Lh cy cm ck ce pe pp f1y f1m f1k f1e aM2 aJH aM1 aM0 f2y f2m f2k f2e aQK aQH aQJ aQI t1y t1m t1k t1e aLQ aHu aLP aLO t2y t2m t2k t2e aPn aPk aPm aPl:Int)(Lis f1o f1i f2o f2i t1o t1i t2o t2i:Bool){w0:World}(hst:SS w0) (H0:Same w0 278 #[(aW d)] (.tuple #[(r4 La Ll Lb Lh),(.bool Lis)]))(H1:Same w0 286 #[(.int .i64 day)] (.tuple #[(cvv cy cm ck),(.int .i64 ce)]))(H2:Same w0 288 #[(aW d)] (.tuple #[(.int .u8 pp),(.int .i64 pe)]))(H3:Same w0 287 #[(aW d),(cvv cy cm ck)] (.tuple #[(cvv f1y f1m f1k),(.bool f1o),(.int .i64 f1e)]))(H4:Same w0 283 #[(aW d),(cvv f1y f1m f1k),(.bool f1o)] (.tuple #[(r4 aM2 aJH aM1 aM0),(.bool f1i)]))(H5:Same w0 287 #[(aW d),(cvv (IntKind.i64.wrap (f1y - 1)) 99 0)] (.tuple #[(cvv f2y f2m f2k),(.bool f2o),(.int .i64 f2e)]))(H6:Same w0 283 #[(aW d),(cvv f2y f2m f2k),(.bool f2o)] (.tuple #[(r4 aQK aQH aQJ aQI),(.bool f2i)]))(H7:Same w0 287 #[(aW d),(cvv cy 99 ck)] (.tuple #[(cvv t1y t1m t1k),(.bool t1o),(.int .i64 t1e)]))(H8:Same w0 283 #[(aW d),(cvv t1y t1m t1k),(.bool t1o)] (.tuple #[(r4 aLQ aHu aLP aLO),(.bool t1i)]))(H9:Same w0 287 #[(aW d),(cvv (IntKind.i64.wrap (t1y - 1)) 99 0)] (.tuple #[(cvv t2y t2m t2k),(.bool t2o),(.int .i64 t2e)]))(H10:Same w0 283 #[(aW d),(cvv t2y t2m t2k),(.bool t2o)] (.tuple #[(r4 aPn aPk aPm aPl),(.bool t2i)])):Same w0 281 #[(aW d),(.int .i64 day)] (cond Lis (cond (decide (day<Ll)) (cond (ce==0) (cond (pp==0) (cond t1i (cond (decide (day<aHu)) (.tuple #[(r4 aPn aPk aPm aPl),(.bool t2i)]) (.tuple #[(r4 aLQ aHu aLP aLO),(.bool true)])) (.tuple #[(r4 aLQ aHu aLP aLO),(.bool false)])) (cond f1i (cond (decide (day<aJH)) (.tuple #[(r4 aQK aQH aQJ aQI),(.bool f2i)]) (.tuple #[(r4 aM2 aJH aM1 aM0),(.bool true)])) (.tuple #[(r4 aM2 aJH aM1 aM0),(.bool false)]))) (.tuple #[(r4 0 0 0 0),(.bool false)])) (.tuple #[(r4 La Ll Lb Lh),(.bool true)])) (.tuple #[(r4 La Ll Lb Lh),(.bool false)])):=
 aG (aBU (lv (dL d) (.int .i64 day:: .int .i8 La:: .int .i64 Ll:: .int .i8 Lb:: .int .i64 Lh:: .bool Lis:: .int .i64 cy:: .int .i64 cm:: .int .i64 ck:: .int .i64 ce:: .int .i64 pe:: .int .u8 pp:: .int .i64 f1y:: .int .i64 f1m:: .int .i64 f1k:: .int .i64 f1e:: .bool f1o:: .int .i8 aM2:: .int .i64 aJH:: .int .i8 aM1:: .int .i64 aM0:: .bool f1i:: .int .i64 f2y:: .int .i64 f2m:: .int .i64 f2k:: .int .i64 f2e:: .bool f2o:: .int .i8 aQK:: .int .i64 aQH:: .int .i8 aQJ:: .int .i64 aQI:: .bool f2i:: .int .i64 t1y:: .int .i64 t1m:: .int .i64 t1k:: .int .i64 t1e:: .bool t1o:: .int .i8 aLQ:: .int .i64 aHu:: .int .i8 aLP:: .int .i64 aLO:: .bool t1i:: .int .i64 t2y:: .int .i64 t2m:: .int .i64 t2k:: .int .i64 t2e:: .bool t2o:: .int .i8 aPn:: .int .i64 aPk:: .int .i8 aPm:: .int .i64 aPl:: .bool t2i::[]))) (aQ w0) hst .nil (.cons H0 (.cons H1 (.cons H2 (.cons H3 (.cons H4 (.cons H5 (.cons H6 (.cons H7 (.cons H8 (.cons H9 (.cons H10 .nil))))))))))) (aJ (by kernel_rfl)) (by kernel_rfl)
def aKN:DT:=(.node 3 (qb 18) (qb 18) (.node 3 (qb 25) (qb 25) (.leaf yb0) (.node 0 (qi 22) qz (.node 0 (qu 24) (.v (.int .u8 0)) (.leaf (.aS [yb9,(qb 35)])) (.node 0 (qu 24) (.v (.int .u8 1)) (.leaf (.aS [yb9,(qb 35)])) (.node 0 (qu 24) (.v (.int .u8 2)) (.leaf (.aS [aSl,(qb 45)])) (.leaf (.aS [aSk,(qb 55)]))))) (.leaf yb0))) (.leaf yb0))
theorem aFt(l:Value):aKN.ok dQ l [(42,yb2,aSj,(qb 25))] [(278,[iL],.aS [yb2,(qb 18)]),(286,[(qi 11)],.aS [.agg [(qi 19),(qi 20),(qi 21)],(qi 22)]),(288,[iL],.aS [(qu 24),(qi 23)]),(291,[iL,.agg [aN 1 .i64 [(qi 19),.v (.int .i64 1)],qz,qz]],.aS [.agg [(qi 26),(qi 27),(qi 28)],(qb 30),(qi 29)]),(283,[iL,.agg [(qi 26),(qi 27),(qi 28)],(qb 30)],.aS [yb9,(qb 35)]),(291,[iL,.agg [(qi 19),aN 1 .i64 [(qi 20),.v (.int .i64 1)],qz]],.aS [.agg [(qi 36),(qi 37),(qi 38)],(qb 40),(qi 39)]),(283,[iL,.agg [(qi 36),(qi 37),(qi 38)],(qb 40)],.aS [aSl,(qb 45)]),(291,[iL,.agg [(qi 19),(qi 20),aN 1 .i64 [(qi 21),.v (.int .i64 1)]]],.aS [.agg [(qi 46),(qi 47),(qi 48)],(qb 50),(qi 49)]),(283,[iL,.agg [(qi 46),(qi 47),(qi 48)],(qb 50)],.aS [aSk,(qb 55)])] hp 60 LG 284 [iL,aSj] []=true:=by kernel_rfl
theorem aIM(d:Dt)(ra rl rb rh La Ll Lb Lh cy cm ck ce pe pp nyy nym nyk nye aMy aMv aMx aMw nmy nmm nmk nme aPW aPT aPV aPU nky nkm nkk nke aP0 aPX aPZ aPY:Int)(Lis ze nyo nyi nmo nmi nko nki:Bool){w0:World}(hst:SS w0)(hz:ze=decide (La=ra/\Ll=rl/\Lb=rb/\Lh=rh))(H0:Same w0 278 #[(aW d)] (.tuple #[(r4 La Ll Lb Lh),(.bool Lis)]))(H1:Same w0 286 #[(.int .i64 rl)] (.tuple #[(cvv cy cm ck),(.int .i64 ce)]))(H2:Same w0 288 #[(aW d)] (.tuple #[(.int .u8 pp),(.int .i64 pe)]))(H3:Same w0 291 #[(aW d),(cvv (IntKind.i64.wrap (cy+1)) 0 0)] (.tuple #[(cvv nyy nym nyk),(.bool nyo),(.int .i64 nye)]))(H4:Same w0 283 #[(aW d),(cvv nyy nym nyk),(.bool nyo)] (.tuple #[(r4 aMy aMv aMx aMw),(.bool nyi)]))(H5:Same w0 291 #[(aW d),(cvv cy (IntKind.i64.wrap (cm+1)) 0)] (.tuple #[(cvv nmy nmm nmk),(.bool nmo),(.int .i64 nme)]))(H6:Same w0 283 #[(aW d),(cvv nmy nmm nmk),(.bool nmo)] (.tuple #[(r4 aPW aPT aPV aPU),(.bool nmi)]))(H7:Same w0 291 #[(aW d),(cvv cy cm (IntKind.i64.wrap (ck+1)))] (.tuple #[(cvv nky nkm nkk),(.bool nko),(.int .i64 nke)]))(H8:Same w0 283 #[(aW d),(cvv nky nkm nkk),(.bool nko)] (.tuple #[(r4 aP0 aPX aPZ aPY),(.bool nki)])):Same w0 284 #[(aW d),(r4 ra rl rb rh)] (cond Lis (cond ze (.tuple #[(r4 0 0 0 0),(.bool false)]) (cond (ce==0) (cond (pp==0) (.tuple #[(r4 aMy aMv aMx aMw),(.bool nyi)]) (cond (pp==1) (.tuple #[(r4 aMy aMv aMx aMw),(.bool nyi)]) (cond (pp==2) (.tuple #[(r4 aPW aPT aPV aPU),(.bool nmi)]) (.tuple #[(r4 aP0 aPX aPZ aPY),(.bool nki)])))) (.tuple #[(r4 0 0 0 0),(.bool false)]))) (.tuple #[(r4 0 0 0 0),(.bool false)])):=
 aG (aFt (lv (dL d) [.int .i8 ra,.int .i64 rl,.int .i8 rb,.int .i64 rh,.int .i8 La,.int .i64 Ll,.int .i8 Lb,.int .i64 Lh,.bool Lis,.int .i64 cy,.int .i64 cm,.int .i64 ck,.int .i64 ce,.int .i64 pe,.int .u8 pp,.bool ze,.int .i64 nyy,.int .i64 nym,.int .i64 nyk,.int .i64 nye,.bool nyo,.int .i8 aMy,.int .i64 aMv,.int .i8 aMx,.int .i64 aMw,.bool nyi,.int .i64 nmy,.int .i64 nmm,.int .i64 nmk,.int .i64 nme,.bool nmo,.int .i8 aPW,.int .i64 aPT,.int .i8 aPV,.int .i64 aPU,.bool nmi,.int .i64 nky,.int .i64 nkm,.int .i64 nkk,.int .i64 nke,.bool nko,.int .i8 aP0,.int .i64 aPX,.int .i8 aPZ,.int .i64 aPY,.bool nki])) (aQ w0) hst (.cons (KF _ _ _ _ _ _ _ _ _ hz) (fun _ _ _=>⟨by kernel_rfl,by kernel_rfl⟩) .nil) (.cons H0 (.cons H1 (.cons H2 (.cons H3 (.cons H4 (.cons H5 (.cons H6 (.cons H7 (.cons H8 .nil))))))))) (aJ (by kernel_rfl)) (by kernel_rfl)
def aKQ:DT:=(.node 3 (qb 15) (qb 15) (.node 1 (qi 12) (qi 10) (.node 3 (qb 20) (qb 20) (.node 0 (qi 17) (qi 10) (.leaf (.aS [aAT,qt])) (.leaf (.aS [aLE,(qb 25)]))) (.leaf (.aS [aAT,qf]))) (.leaf (.aS [yb8,qt]))) (.leaf (.aS [yb8,qf])))
theorem aFw(l:Value):aKQ.ok dQ l [] [(276,[iL],.aS [yb8,(qb 15)]),(281,[iL,(qi 10)],.aS [aAT,(qb 20)]),(284,[iL,aAT],.aS [aLE,(qb 25)])] hp 60 LG 277 [iL,(qi 10)] []=true:=by kernel_rfl
theorem aJo(d:Dt)(day Fa Fl Fb Fh ba bl bb bh na nl nb nh:Int)(Fi bi ni:Bool){w0:World}(hst:SS w0) (H0:Same w0 276 #[(aW d)] (.tuple #[(r4 Fa Fl Fb Fh),(.bool Fi)]))(H1:Same w0 281 #[(aW d),(.int .i64 day)] (.tuple #[(r4 ba bl bb bh),(.bool bi)]))(H2:Same w0 284 #[(aW d),(r4 ba bl bb bh)] (.tuple #[(r4 na nl nb nh),(.bool ni)])):Same w0 277 #[(aW d),(.int .i64 day)] (cond Fi (cond (decide (Fl<day)) (cond bi (cond (bl==day) (.tuple #[(r4 ba bl bb bh),(.bool true)]) (.tuple #[(r4 na nl nb nh),(.bool ni)])) (.tuple #[(r4 ba bl bb bh),(.bool false)])) (.tuple #[(r4 Fa Fl Fb Fh),(.bool true)])) (.tuple #[(r4 Fa Fl Fb Fh),(.bool false)])):=
 aG (aFw (lv (dL d) [.int .i64 day,.int .i8 Fa,.int .i64 Fl,.int .i8 Fb,.int .i64 Fh,.bool Fi,.int .i8 ba,.int .i64 bl,.int .i8 bb,.int .i64 bh,.bool bi,.int .i8 na,.int .i64 nl,.int .i8 nb,.int .i64 nh,.bool ni])) (aQ w0) hst .nil (.cons H0 (.cons H1 (.cons H2 .nil))) (aJ (by kernel_rfl)) (by kernel_rfl)
def aKA:DT:=(.node 3 (qb 15) (qb 15) (.node 1 (qi 10) (qi 14) (.node 3 (qb 20) (qb 20) (.node 1 (qi 10) (qi 19) (.node 0 (qi 17) (.v (.int .i64 (-9223372036854775808))) (.leaf yb0) (.leaf (.aS [aLE,(qb 25)]))) (.leaf (.aS [aAT,qt]))) (.leaf (.aS [aAT,qf]))) (.leaf (.aS [yb8,qt]))) (.leaf (.aS [yb8,qf])))
theorem aFj(l:Value):aKA.ok dQ l [] [(278,[iL],.aS [yb8,(qb 15)]),(281,[iL,(qi 10)],.aS [aAT,(qb 20)]),(281,[iL,aN 2 .i64 [(qi 17),.v (.int .i64 1)]],.aS [aLE,(qb 25)])] hp 60 LG 280 [iL,(qi 10)] []=true:=by kernel_rfl
theorem aO8(d:Dt)(day La Ll Lb Lh ba bl bb bh ca cl cb ch:Int)(Li bi ci:Bool){w0:World}(hst:SS w0) (H0:Same w0 278 #[(aW d)] (.tuple #[(r4 La Ll Lb Lh),(.bool Li)]))(H1:Same w0 281 #[(aW d),(.int .i64 day)] (.tuple #[(r4 ba bl bb bh),(.bool bi)]))(H2:Same w0 281 #[(aW d),(.int .i64 (IntKind.i64.wrap (bl - 1)))] (.tuple #[(r4 ca cl cb ch),(.bool ci)])):Same w0 280 #[(aW d),(.int .i64 day)] (cond Li (cond (decide (day<Lh)) (cond bi (cond (decide (day<bh)) (cond (bl==(-9223372036854775808)) (.tuple #[(r4 0 0 0 0),(.bool false)]) (.tuple #[(r4 ca cl cb ch),(.bool ci)])) (.tuple #[(r4 ba bl bb bh),(.bool true)])) (.tuple #[(r4 ba bl bb bh),(.bool false)])) (.tuple #[(r4 La Ll Lb Lh),(.bool true)])) (.tuple #[(r4 La Ll Lb Lh),(.bool false)])):=
 aG (aFj (lv (dL d) [.int .i64 day,.int .i8 La,.int .i64 Ll,.int .i8 Lb,.int .i64 Lh,.bool Li,.int .i8 ba,.int .i64 bl,.int .i8 bb,.int .i64 bh,.bool bi,.int .i8 ca,.int .i64 cl,.int .i8 cb,.int .i64 ch,.bool ci])) (aQ w0) hst .nil (.cons H0 (.cons H1 (.cons H2 .nil))) (aJ (by kernel_rfl)) (by kernel_rfl)
end Sk
end
section
open Go.RowKit Go.Lib
namespace Bk
open Un (ba bt ri rb aU bF)
theorem fmd{d:Dt}(h:d.form=0):d.mo.size=0->d.da.size=0:=fun e=>by
 rcases jB h with⟨_,h1,_⟩|⟨_,h1,_⟩|⟨_,_,h1⟩
 . exact absurd e h1
 . exact absurd e h1
 exact h1
theorem fmm{d:Dt}(h:d.form=0):d.da.size≠0-> ∀m,m ∈ d.ms->1<=m/\m<=12:=fun e m hm=>by
 rcases jB h with⟨_,_,h1⟩|⟨h1,h2,_⟩|⟨_,_,h1⟩
 . exact absurd h1 e
 . rw[Dt.qN h1 h2,eY]at hm;omega
 exact absurd h1 e
theorem KA(d:Dt)(mv dv:Value)(cy cm ck:Int)(w:World)(hk:lW w)(hy:d.dg.size<=1000)(hf:d.form=0)
 (y0: -9223372036854775808<=cy) (y1:cy<9223372036854775808) (hm:bD w mv d.ms) (hd:bD w dv d.ds):
 Calls Tryz.prog 83 #[fmv d mv dv,cvv cy cm ck,.bool true] w (EW d cy cm ck w):=
 aHF d mv dv cy cm ck w hk hy (Dt.iD (Dt.kN hf).1).1 (fmd hf) y0 y1 hm hd (fmm hf)
theorem wU{d:Dt}(h:d.form≠0):d.err=d.form:=by unfold Dt.err;rw[aFV h]
theorem SE{d:Dt}(h:d.form=0)(h2:d.da.size=0):d.err=0:=by unfold Dt.err;rw[aB9 (by omega),aB9 (fun c=>c.1 h2)]
theorem aJJ{d:Dt}{y m k:Int}{ok:Bool}(h:d.form=0)(h2: ¬d.da.size=0)(hs:d.jF (-9223372036854775808) 0 0 y m k ok):d.err=if ok=true then 0 else 8:=by
 have hx:=Dt.XR (fun u hu=>by have:=Dt.jU (Dt.iD (Dt.kN h).1).1 hu;omega) hs;unfold Dt.err;rw[aB9 (by omega)]
 cases ok
 . rw[aFV ⟨h2,fun hh=>by have:=hx.2 hh;cases this⟩];rfl
 rw[aB9 (fun hh=>hh.2 (hx.1 rfl))];rfl
theorem uO(d:Dt)(w:World)(hk:lW w)(hs:d.mo.size<=1000)(hy:d.dg.size<=1000)(m0:0<=d.m0)(m1:0<=d.m1)(m2:0<=d.m2):
 Calls Tryz.prog 51 #[aW d] w fun r w'=>r=.returned (.int .i64 d.err)/\Below w.heap.size w w':=by
 have hD:Rw w.heap.size (bP d) w _:=Rw.fresh (aAL _ _) (bP d) 37;have HC:=GK (fun W hb=>aCs d W (hk.below (w':=W) hb) hs hy m0 m1 m2);have HO:=GK (fun W hb hf=>zL d W (hk.below (w':=W) hb) hs hf);have HS:=GK (fun mv dv W hb hf hm hd=>KA d mv dv (-9223372036854775808) 0 0 W (hk.below (w':=W) hb) hy hf (by omega) (by omega) hm hd);unfold cvv fmv at HS;clear hk hs hy m0 m1 m2;rw[zT]at HC HO;obtain⟨er,her⟩: ∃er,er=d.err:=⟨_,rfl⟩;rw[<-her];replace her:=GK her;unfold aW
 go_enter Tryz.func51,Tryz.ntmps51
 unfold bP at hD
 go_upto_region 1 with(fail)
 generalize World.alloc _ _=W0 at hD ⊢;have HD:Hid (Rw w.heap.size (bP d) w W0):=GK hD;clear hD;have hR:=HD.out.range
 by_cases hf:d.form=0
 . have HF:=GK hf;rw[hf]at HC;clear hf
   go_upto_region 4 with(first
    |(refine aG6 rfl 37 (.tmp 1) rfl w.heap.size 0 rfl (bP d) _ hR Tryz.underlying37 rfl dX ?_)
    |(go_at_call 81;refine(HC.out _ HD.out.below).mono ?_;rintro _ w1 ⟨rfl,hb⟩))
   replace HD:=GK (HD.out.later hb);clear hR hb;have hR:=HD.out.range;have g6:=HD.out.cell 6 _ rfl;rcases fA d.da with⟨c,e1⟩|⟨c,e1⟩
   . have HE:=GK (her.out.trans (SE HF.out c));clear c
     go_wp2_with fail
     go_ret
     exact⟨by rw[HE.out];rfl,HD.out.below⟩
   have HE:Hid (∀y m k ok,d.jF (-9223372036854775808) 0 0 y m k ok->er=if ok=true then 0 else 8):=GK (fun y m k ok hs=>her.out.trans (aJJ HF.out c hs));clear c
   go_wp2_with (first
    |(refine aG6 rfl 37 (.tmp 1) rfl w.heap.size 0 rfl (bP d) _ hR Tryz.underlying37 rfl dX ?_)
    |(go_at_call 82;refine(HO.out _ HD.out.below HF.out).mono ?_;rintro _ w2 ⟨mv,dv,rfl,hm,hd,hb2⟩;have HBm:=GK (bt HD.out.below hb2);have HS2:=GK (HS.out mv dv w2 HBm.out HF.out hm hd);clear hm hd hb2))
   refine HS2.out.mono ?_;rintro _ w3 ⟨y,m,k,ok,hso,rfl,hb3⟩;have HB3:=GK (bt HBm.out hb3);have HE2:=GK (HE.out y m k ok hso);unfold cvv;clear hso hb3 HS2
   cases ok
   . go_wp2_with fail
     go_ret
     exact⟨by rw[HE2.out];rfl,ba HB3.out _⟩
   go_wp2_with fail
   go_ret
   exact⟨by rw[HE2.out];rfl,ba HB3.out _⟩
 have HE:=GK (her.out.trans (wU hf));generalize d.form=fo at *
 go_wp2_with (first
  |(refine aG6 rfl 37 (.tmp 1) rfl w.heap.size 0 rfl (bP d) _ hR Tryz.underlying37 rfl dX ?_)
  |(go_at_call 81;refine(HC.out _ HD.out.below).mono ?_;rintro _ w1 ⟨rfl,hb⟩))
 go_ret
 exact⟨by rw[HE.out];rfl,bt HD.out.below hb⟩
noncomputable def Dt.dO(d:Dt):Int:=if d.err≠0 then d.err else if 0<d.sig then 1 else 0
theorem uN(d:Dt)(w:World)(hk:lW w)(hs:d.mo.size<=1000)(hy:d.dg.size<=1000)(m0:0<=d.m0)(m1:0<=d.m1)(m2:0<=d.m2):
 Calls Tryz.prog 292 #[aW d] w fun r w'=>r=.returned (.int .i64 d.dO)/\Below w.heap.size w w':=by
 have hD:Rw w.heap.size (bP d) w _:=Rw.fresh (aAL _ _) (bP d) 37;have HC:=GK (fun W hb=>uO d W (hk.below (w':=W) hb) hs hy m0 m1 m2);clear hk hs hy m0 m1 m2;rw[zT]at HC;obtain⟨er,her⟩: ∃er,er=d.dO:=⟨_,rfl⟩;rw[<-her];unfold Dt.dO at her;replace her:=GK her;generalize d.err=fo at *;unfold aW
 go_enter Tryz.func292,Tryz.ntmps292
 unfold bP at hD
 go_upto_region 1 with(fail)
 generalize World.alloc _ _=W0 at hD ⊢;have HD:Hid (Rw w.heap.size (bP d) w W0):=GK hD;clear hD;have hR:=HD.out.range
 by_cases hf:fo=0
 . subst hf
   go_upto_region 4 with(first
    |(refine aG6 rfl 37 (.tmp 1) rfl w.heap.size 0 rfl (bP d) _ hR Tryz.underlying37 rfl dX ?_)
    |(go_at_call 51;refine(HC.out _ HD.out.below).mono ?_;rintro _ w1 ⟨rfl,hb⟩))
   replace HD:=GK (HD.out.later hb);clear hR hb;have g4:=HD.out.cell 4 _ rfl
   by_cases hg:0<d.sig
   . have HE:Hid (er=1):=GK (by rw[her.out,aB9 (by simp),aFV hg])
     go_wp2_with fail
     go_ret
     exact⟨by rw[HE.out];rfl,HD.out.below⟩
   have HE:Hid (er=0):=GK (by rw[her.out,aB9 (by simp),aB9 hg])
   go_wp2_with fail
   go_ret
   exact⟨by rw[HE.out];rfl,HD.out.below⟩
 have HE:Hid (er=fo):=GK (by rw[her.out,aFV hf])
 go_wp2_with (first
  |(refine aG6 rfl 37 (.tmp 1) rfl w.heap.size 0 rfl (bP d) _ hR Tryz.underlying37 rfl dX ?_)
  |(go_at_call 51;refine(HC.out _ HD.out.below).mono ?_;rintro _ w1 ⟨rfl,hb⟩))
 go_ret
 exact⟨by rw[HE.out];rfl,bt HD.out.below hb⟩
end Bk
end
section
open Go.RowKit Go.Lib
namespace Bk
open Un (ba bt ri rb aU bF)
def Dt.nZ(d:Dt)(cy cm ck:Int)(y m k:Int)(ok:Bool):Prop:=(d.dO=0/\d.jF cy cm ck y m k ok)\/(d.dO≠0/\y=0/\m=0/\k=0/\ok=false)
def aD3(d:Dt)(cy cm ck:Int)(w:World)(e:Ending)(w':World):Prop:= ∃y m k ok,d.nZ cy cm ck y m k ok/\e=.returned (.tuple #[cvv y m k,.bool ok,.int .i64 d.dO])/\Below w.heap.size w w'
theorem dZ{d:Dt}(h:d.dO=0):d.form=0:=by
 unfold Dt.dO at h
 by_cases c:d.form=0
 . exact c
 rw[wU c,aFV c]at h;exact absurd h c
theorem yT{fn:Func}{p q r:Tmp}{ty:TypeId}(h:fn.results= #[.cell p ty,.tmp q,.tmp r])(tmps:Array Value){P:Program}{w:World}{a:Addr}{v u x:Value}
 (hp:tmps.getD p undef=.pointer (some a)) (hq:tmps.getD q undef=u) (hr:tmps.getD r undef=x) (hl:(loadVar ty a).run P w=.ok v w):(results fn tmps).run P w=.ok (.tuple #[v,u,x]) w:=by
 have hp':tmps[p]?.getD undef=.pointer (some a):=by simpa using hp
 have hq':tmps[q]?.getD undef=u:=by simpa using hq
 have hr':tmps[r]?.getD undef=x:=by simpa using hr
 simp[results,h,hp',hq',hr',asAddr,hl]
theorem ZB{d:Dt}{cy cm ck y m k:Int}{ok:Bool}{p6:Nat}{w wO:World}{tmps:Array Value}(ho:Rw p6 (aP y m k) w wO)(h:d.nZ cy cm ck y m k ok)
 (hp:tmps.getD 4 undef=.pointer (some ⟨p6,0,none⟩)) (hq:tmps.getD 5 undef=.bool ok) (hr:tmps.getD 6 undef=.int .i64 d.dO):
 bodyPost Tryz.prog Tryz.f291 (aD3 d cy cm ck w) Exit.ret ⟨tmps,[]⟩ wO:=by
 have hv:=aQl (P:=Tryz.prog) _ p6 0 112 (aP y m k) _ ho.range Tryz.underlying112 rfl pR;exact aG2 (v:=.tuple #[cvv y m k,.bool ok,.int .i64 d.dO]) (yT Tryz.results291 _ hp hq hr hv) rfl ⟨y,m,k,ok,h,rfl,ho.below⟩
theorem EM(d:Dt)(cy cm ck:Int)(w:World)(hk:lW w)(hs:d.mo.size<=1000)(hy:d.dg.size<=1000)(m0:0<=d.m0)(m1:0<=d.m1)(m2:0<=d.m2)
 (y0: -9223372036854775808<=cy) (y1:cy<9223372036854775808):
 Calls Tryz.prog 291 #[aW d,cvv cy cm ck] w (aD3 d cy cm ck w):=by
 have hD:Rw w.heap.size (bP d) w _:=Rw.fresh (aAL _ _) (bP d) 37;have hD2:=Rw.fresh hD.below (aP cy cm ck) 112;have hD3:=Rw.fresh hD2.below (aP 0 0 0) 112;simp only[fC]at hD2 hD3;have hA:_/\_/\_:=⟨(hD.later (ba (aAL _ _) (.cells (aP cy cm ck).toArray 112))).later (ba (aAL _ _) (.cells (aP 0 0 0).toArray 112)),hD2.later (ba (aAL _ _) (.cells (aP 0 0 0).toArray 112)),hD3⟩;clear hD hD2 hD3;have HC:=GK (fun W hb=>uN d W (hk.below (w':=W) hb) hs hy m0 m1 m2);have HO:=GK (fun W hb hf=>zL d W (hk.below (w':=W) hb) hs hf);have HS:=GK (fun mv dv W hb hf hm hd=>KA d mv dv cy cm ck W (hk.below (w':=W) hb) hy hf y0 y1 hm hd);unfold cvv fmv at HS;clear hk hs hy m0 m1 m2;rw[zT]at HC HO;unfold aW cvv;unfold bP aP at hA
 go_enter Tryz.func291,Tryz.ntmps291
 go_upto_region 1 with(fail)
 generalize World.alloc _ _=W0 at hA ⊢;have HD:Hid (Rw w.heap.size (bP d) w W0):=GK hA.1;have HE:Hid (Rw (w.heap.size+1) (aP cy cm ck) w W0):=GK hA.2.1;have HF:Hid (Rw (w.heap.size+1+1) (aP 0 0 0) w W0):=GK hA.2.2;clear hA;have hR:=HD.out.range;generalize w.heap.size+1+1=p6 at *;generalize w.heap.size+1=p5 at *
 by_cases hc:d.dO=0
 . have HCE:=GK hc;have HFM:=GK (dZ hc);rw[hc]at HC;clear hc
   go_upto_region 4 with(first
    |(refine aG6 rfl 37 (.tmp 2) rfl w.heap.size 0 rfl (bP d) _ hR Tryz.underlying37 rfl dX ?_)
    |(go_at_call 292;refine(HC.out _ HD.out.below).mono ?_;rintro _ w1 ⟨rfl,hb⟩))
   replace HD:=GK (HD.out.later hb);replace HE:=GK (HE.out.later hb);replace HF:=GK (HF.out.later hb);clear hR hb HC
   go_cut [5] (fun s wx=> ∃y m k ok,s=.bool ok/\d.jF cy cm ck y m k ok/\Rw p6 (aP y m k) w wx)
   case first=>
    obtain⟨r0,r1,r2,r3,r4,r5,r6,r7,r8,r9⟩:=HD.out.rF;unfold bP at HO;have e0:=HE.out.cell 0 _ rfl;have e1:=HE.out.cell 1 _ rfl;have e2:=HE.out.cell 2 _ rfl
    go_region_with (first
     |(go_at_call 82;refine(HO.out _ (by first|exact HD.out.below|exact HD.out.below.drew|exact HD.out.below.drew.drew) HFM.out).mono ?_;rintro _ w2 ⟨mv,dv,rfl,hm,hd,hb2⟩;have hb2:Below w1.heap.size w1 w2:=(by first|exact hb2|exact bt (aAL _ _).drew hb2|exact bt (aAL _ _).drew.drew hb2);have HBm:=GK (bt HD.out.below hb2);have HS2:=GK (HS.out mv dv w2 HBm.out HFM.out hm hd);have HE2:=GK (HE.out.later hb2);have HF2:=GK (HF.out.later hb2);clear hm hd hb2;have e0:=HE2.out.cell 0 _ rfl;have e1:=HE2.out.cell 1 _ rfl;have e2:=HE2.out.cell 2 _ rfl)
     |(go_at_call 83;refine HS2.out.mono ?_;rintro _ w3 ⟨y,m,k,ok,hso,rfl,hb3⟩;unfold cvv;have HF3:=GK (HF2.out.later hb3);have HSO:=GK hso;clear hb3 hso;have f0:=HF3.out.cell 0 _ rfl;have f1:=HF3.out.cell 1 _ rfl;have f2:=HF3.out.cell 2 _ rfl;have z0:=HF3.out.free 0 (by unfold aP;simp);have z1:=HF3.out.free 1 (by unfold aP;simp);have z2:=HF3.out.free 2 (by unfold aP;simp)))
    all_goals (go_wp2_with fail)
    all_goals (go_meet;exact⟨_,_,_,_,rfl,HSO.out,HF3.out.eU (aP _ _ _) rfl⟩)
   case rest=>
    obtain⟨y,m,k,ok,rfl,hso,hX⟩:=hcut;have HN:Hid (d.nZ cy cm ck y m k ok):=GK (.inl ⟨HCE.out,hso⟩);have HX:=GK hX;clear hX hso HS HO HD HE HF;have f0:=HX.out.cell 0 _ rfl;have f1:=HX.out.cell 1 _ rfl;have f2:=HX.out.cell 2 _ rfl;have z0:=HX.out.free 0 (by unfold aP;simp);have z1:=HX.out.free 1 (by unfold aP;simp);have z2:=HX.out.free 2 (by unfold aP;simp)
    go_wp2_with fail
    exact ZB (HX.out.eU (aP y m k) rfl) HN.out rfl rfl (by rw[HCE.out];rfl)
 have HN:Hid (d.nZ cy cm ck 0 0 0 false):=GK (.inr ⟨hc,rfl,rfl,rfl,rfl⟩);obtain⟨er,her⟩: ∃er,er=d.dO:=⟨_,rfl⟩;rw[<-her]at HC hc;have QJ:=GK her;clear her
 go_wp2_with (first
  |(refine aG6 rfl 37 (.tmp 2) rfl w.heap.size 0 rfl (bP d) _ hR Tryz.underlying37 rfl dX ?_)
  |(go_at_call 292;refine(HC.out _ HD.out.below).mono ?_;rintro _ w1 ⟨rfl,hb⟩;have HF2:=GK (HF.out.later hb);have f0:=HF2.out.cell 0 _ rfl;have f1:=HF2.out.cell 1 _ rfl;have f2:=HF2.out.cell 2 _ rfl;have z0:=HF2.out.free 0 (by unfold aP;simp);have z1:=HF2.out.free 1 (by unfold aP;simp);have z2:=HF2.out.free 2 (by unfold aP;simp)))
 exact ZB (HF2.out.eU (aP 0 0 0) rfl) HN.out rfl rfl (by rw[<-QJ.out];rfl)
end Bk
end
section
open Go.RowKit Go.Lib
namespace Bk
open Un (ba bt ri rb aU bF)
def Dt.Has(d:Dt)(cy cm ck:Int):Prop:=d.dO=0/\ ∃n j,d.Fill cy n j/\(d.mo.size=0\/n=cm)/\(d.da.size=0\/j=ck)
theorem ZV{d:Dt}{cy cm ck y m k:Int}{ok:Bool}(h:d.nZ cy cm ck y m k ok):(d.dO=0/\ok=true/\y=cy/\(d.mo.size=0\/m=cm)/\(d.da.size=0\/k=ck))↔d.Has cy cm ck:=by
 unfold Dt.Has;rcases h with⟨h0,hs⟩|⟨h0,_,_,_,rfl⟩
 . have:=Dt.aA6 (fmd (dZ h0)) hs;rw[<-this];unfold Dt.Is;simp[h0]
 simp[h0]
def aRn(d:Dt)(cy cm ck:Int)(w:World)(e:Ending)(w':World):Prop:= ∃b:Bool,(b=true↔d.Has cy cm ck)/\e=.returned (.bool b)/\Below w.heap.size w w'
theorem aJG(d:Dt)(cy cm ck:Int)(w:World)(hk:lW w)(hs:d.mo.size<=1000)(hy:d.dg.size<=1000)(m0:0<=d.m0)(m1:0<=d.m1)(m2:0<=d.m2)
 (y0: -9223372036854775808<=cy) (y1:cy<9223372036854775808):
 Calls Tryz.prog 294 #[aW d,cvv cy cm ck] w (aRn d cy cm ck w):=by
 have hD:Rw w.heap.size (bP d) w _:=Rw.fresh (aAL _ _) (bP d) 37;have hD2:=Rw.fresh hD.below (aP cy cm ck) 112;simp only[fC]at hD2;have hA:_/\_:=⟨hD.later (ba (aAL _ _) (.cells (aP cy cm ck).toArray 112)),hD2⟩;clear hD hD2;have HN:=GK (fun W hb=>EM d cy cm ck W (hk.below (w':=W) hb) hs hy m0 m1 m2 y0 y1);unfold cvv at HN;clear hk hs hy m0 m1 m2;rw[zT]at HN;unfold aW cvv;unfold bP aP at hA
 go_enter Tryz.func294,Tryz.ntmps294
 go_upto_region 1 with(fail)
 generalize World.alloc _ _=W0 at hA ⊢;have HD:Hid (Rw w.heap.size (bP d) w W0):=GK hA.1;have HE:Hid (Rw (w.heap.size+1) (aP cy cm ck) w W0):=GK hA.2;clear hA;have hR:=HD.out.range;have e0:=HE.out.cell 0 _ rfl;have e1:=HE.out.cell 1 _ rfl;have e2:=HE.out.cell 2 _ rfl;generalize w.heap.size+1=p5 at *
 go_cut [5,6,7] (fun s5 s6 s7 wx=> ∃p y m k ok,s5=.pointer (some ⟨p,0,none⟩)/\s6=.bool ok/\s7=.int .i64 d.dO/\d.nZ cy cm ck y m k ok/\Rw p (aP y m k) w wx/\Rw w.heap.size (bP d) w wx/\Rw p5 (aP cy cm ck) w wx)
 case first=>
  go_wp2_with (first
   |(refine aG6 rfl 37 (.tmp 2) rfl w.heap.size 0 rfl (bP d) _ hR Tryz.underlying37 rfl dX ?_)
   |(go_at_call 291;refine(HN.out _ HD.out.below).mono ?_;rintro _ w1 ⟨y,m,k,ok,hx,rfl,hb⟩;have HX:=GK hx;unfold cvv;have HD2:=GK (HD.out.later hb);have HE2:=GK (HE.out.later hb);have hNb:=bt HD.out.below hb;have HF:=GK (Rw.fresh hNb (aP y m k) 112);clear hx hNb))
  go_meet
  have hb2:=ba (aAL w1.heap.size w1) (.cells (aP y m k).toArray 112);exact⟨_,_,_,_,_,rfl,rfl,rfl,HX.out,HF.out,HD2.out.later hb2,HE2.out.later hb2⟩
 case rest=>
  obtain⟨p,y,m,k,ok,rfl,rfl,rfl,hx,hF,hD,hE⟩:=hcut;have HX:=GK (ZV hx);clear e0 e1 e2 hR HN;have e0:=hE.cell 0 _ rfl;have e1:=hE.cell 1 _ rfl;have e2:=hE.cell 2 _ rfl;have f0:=hF.cell 0 _ rfl;have f1:=hF.cell 1 _ rfl;have f2:=hF.cell 2 _ rfl;obtain⟨q0,q1,q2,q3,q4,q5,q6,q7,q8,q9⟩:=hD.rF;have HB:=GK hD.below;generalize d.dO=er at *;rcases fA d.mo with⟨c0,x0⟩|⟨c0,x0⟩<;>rcases fA d.da with⟨c1,x1⟩|⟨c1,x1⟩<;>cases ok
  all_goals
   as_aux_lemma=>
    go_wp2
    all_goals go_ret
    all_goals
     refine⟨_,?_,rfl,HB.out⟩;rw[<-HX.out];clear HX HB
     (try simp only[aFZ,aLa,aAO,aFK,aD5,aRC,aFU,aJj,aVo]at *)
     first|(simp[*];done)|(simp;omega)
end Bk
end
end Go.Proofs.YtacggmlngekidaaGreatDoor
