import Derived.Test.YtebgcnnhokclaaaGreatDoorP0
import Derived.MapKept
import Derived.ChangeMaps4
import Derived.RangeFuncRecord
import Derived.Lib.MinMax
import Derived.BigFrame
import Derived.OrdersIn
import Derived.TacticsIn
import Derived.LoopNIn
import Derived.Scope
import Derived.Recover
import Derived.RangeFuncLeaves
import Derived.RecoverIn
import Derived.ChangeArms
import Derived.OpenShut
import Derived.DataReads
import GoSem.ClaimJoined
import Derived.LaidHandle
import Derived.WalkSpells
set_option linter.unusedSimpArgs false
set_option linter.unusedVariables false
set_option linter.unusedSectionVars false
set_option maxRecDepth 1000000
set_option maxHeartbeats 8000000
namespace Go.Proofs.YtebgcnnhokclaaaGreatDoor
noncomputable section
open Go.Proofs.Tryz
abbrev aBW:=@decide_eq_false
abbrev aDs:=@Go.wpIn_seq
abbrev aDx:=@decide_eq_true
abbrev aEH:=@Array.getElem?_eq_some_iff
abbrev aE5:=@List.getElem?_eq_getElem
abbrev aIC:=@List.mem_cons_self
abbrev aI3:=@beq_iff_eq
abbrev aJt:=@Go.wpIn_skip
abbrev aJT:=@Array.getElem?_eq_getElem
abbrev aKO:=@List.mem_cons_of_mem
abbrev aLs:=@Go.wpIn_block
abbrev aL8:=@List.mem_singleton
abbrev aMd:=@Go.callsIn_wide
abbrev aMu:=@Go.wpIn_ret
abbrev aMv:=@List.mem_range
abbrev aM8:=@Bool.or_eq_false_iff
abbrev aNt:=@Bool.eq_false_iff
abbrev aOw:=@Classical.not_not
abbrev aOY:=@Classical.byContradiction
abbrev aO5:=@List.length_eq_zero_iff
abbrev aO7:=@List.all_cons
abbrev aPb:=@Option.some.injEq
abbrev aPh:=@List.getElem?_take
abbrev aPi:=@Option.bind_some
abbrev aPq:=@Go.World.putObj_heap_same
abbrev aPs:=@UInt8.toNat_ofNat'
abbrev aPt:=@Nat.le_of_lt
abbrev aRf:=@Go.wpIn_exit
abbrev aSE:=@Go.World.putObj_heap_other
abbrev aSF:=@Option.bind_eq_some_iff
abbrev aSV:=@Go.cell_later
abbrev aTr:=@List.mem_filter
abbrev aTs:=@Array.getD_eq_getD_getElem?
abbrev aTY:=@Bool.and_true
abbrev aT2:=@Go.World.alloc_heap_new
abbrev aT5:=@List.mem_append_left
abbrev aT8:=@Option.getD_some
abbrev aUk:=@Go.World.cells?_some
abbrev aUz:=@Bool.or_false
abbrev aUA:=@Array.getElem?_setIfInBounds
abbrev aUK:=@List.map_set
abbrev aUO:=@false_and
abbrev aUW:=@List.getElem?_set
abbrev aUX:=@Nat.exists_eq_add_of_le
abbrev aUY:=@Nat.add_sub_cancel_left
abbrev aVb:=@Bool.false_or
abbrev aVf:=@Go.MapKept.run_getObj_map
abbrev aVF:=@Go.wpIn_region_any
abbrev aVG:=@decide_false
abbrev aVT:=@Go.Oper.apart_spec
abbrev aWo:=@List.getElem?_toArray
abbrev aWL:=@List.getElem?_of_mem
abbrev aWN:=@decide_true
abbrev aW7:=@Go.MapKept.run_findKey
abbrev aXb:=@Go.wpSIn_of_wpIn
abbrev aXy:=@Nat.pos_of_ne_zero
abbrev aXK:=@Nat.eq_zero_or_pos
abbrev aX2:=@Go.run_takeDeferred
abbrev aX3:=@Option.bind_none
abbrev aX6:=@Int.natCast_zero
abbrev aX9:=@UInt8.toNat_inj
abbrev aYd:=@List.cons.injEq
abbrev aYg:=@List.mem_or_eq_of_mem_set
abbrev aYi:=@Go.Lib.run_unsafeString_none
abbrev aYk:=@Go.DataW.trod_int
abbrev aYq:=@Go.Oper.semAt_eq
abbrev aYv:=@Go.MapKept.run_setObj_map
abbrev aYA:=@List.mem_append_right
abbrev aYB:=@List.map_nil
section
open Go.RowKit
variable[Gh]
section
variable{w0:World}{tb:Tab}{ρ:Env}{cx:Cx}{s s':Hs}{w:World}{a:Act}{t:TE}{call:fD}{v:AV}
 {dst:Option Tmp} {ty:TypeId} {pos:String} {af:Array Edge} {g:Option (Nat × Bool)}
omit[Gh]in
theorem MQ{kk q:IntKind}{m:Int}: ∀(ks:List AV) (l:List MapEntry) (i:Nat) (r:Option Nat),aCx (.v (.int q m)) ks=some r->l.map (·.key)=ks.map (den ρ)->
 (∀j,r=some j-> ∃e,l[j]? =some e/\e.key=.int q m)/\Instr.findNow (.int kk) (.int q m) l i=some (r.bind fun j=>(l[j]?).map fun e=>(i+j,e.val)):=by
 intro ks
 induction ks with
 |nil=>
  intro l i r h hl;cases h;cases l with
  |nil=>exact⟨fun j h=>(by cases h),rfl⟩
  |cons e l=>cases hl
 | cons x ks ih=>
  intro l i r h hl;cases l with
  |nil=>cases hl
  |cons e l=>
   obtain⟨b,h1,h2⟩:=aA.1 (show ob (aMa (.v (.int q m)) x) (fun b=>Bool.rec (motive:=fun _=>Option (Option Nat)) (ob (aCx (.v (.int q m)) ks) (fun r=>some (Option.rec (motive:=fun _=>Option Nat) none (fun i=>some (i+1)) r))) (some (some 0)) b)=some r from h);obtain⟨q1,m1,e1,h3⟩:=fH h1;cases e1;obtain⟨q2,m2,rfl,h4⟩:=fH h3;obtain⟨h5,h6⟩:=aF.1 h4;cases h6;rw[mX]at h5;subst h5;simp only[aOZ,aYd]at hl;have hk:e.key=.int q m2:=hl.1;have hs:Instr.sameNow (.int kk) (.int q m) e.key=some (m==m2):=by rw[hk];simp[Instr.sameNow]
   rw[uV]at h2;by_cases he:m=m2
   . subst he;rw[aDx rfl]at h2;cases h2;refine⟨fun j hj=>by cases hj;exact⟨e,rfl,hk⟩,?_⟩;simp[Instr.findNow,hs]
   rw[aBW he]at h2;obtain⟨r',h7,h8⟩:=aA.1 h2;cases h8;obtain⟨k1,k2⟩:=ih l (i+1) r' h7 hl.2;have hb:(m==m2)=false:=by simpa using he
   rw[hb]at hs;refine⟨fun j hj=>?_,?_⟩
   . cases r' with
     |none=>cases hj
     |some j'=>cases hj;obtain⟨e',e1,e2⟩:=k1 j' rfl;exact⟨e',by simpa using e1,e2⟩
   simp only[Instr.findNow,hs,k2];cases r' with
   |none=>rfl
   |some j'=>simp[aMR,Nat.add_comm 1 j']
omit[Gh]in
theorem E5{β:Type}{kt:TypeId}{k:Option β}{r:β}(hT: ∀t i,tb.ty.get t=some i->nG tb.p t i)(h:aNX tb kt k=some r):(∃kk,tb.p.underlying kt=some (.int kk))/\k=some r:=by
 obtain⟨i,h1,h2⟩:=aA.1 h;obtain⟨h3,h4⟩:=aF.1 h2;obtain⟨d,d1,_,d2⟩:=(hT kt i h1).desc;refine⟨?_,h4⟩;cases hk:i.k with
 |int kk=>rw[hk]at d2;obtain rfl:=kind_int d2;exact⟨kk,d1⟩
 |_=>rw[hk]at h3;cases h3
omit[Gh]in
theorem nP{P:Program}{kt:TypeId}{kk q:IntKind}{m:Int}(h:P.underlying kt=some (.int kk))(e:Bool):(Instr.checkKey e 10000 kt (.int q m)).run P w=.ok () w:=by
 show(Instr.checkKey e (9999+1) kt (.int q m)).run P w=.ok () w;unfold Instr.checkKey;simp only[aDt,aEG h,Result.andThen]
 rfl
theorem aAD{e:TypeId}{r:Option Operand}(h:aGw e r call cx t s=some (.ok v s'))(hs:aZ w0 ρ cx s w):
 gG tb.p w0 ρ cx s w (execOp a.eval ⟨dst,.makeMap e r,ty,pos,af,g⟩) v s':=by
 obtain⟨h1,h2⟩:=aF.1 h;obtain rfl:=nS.1 h1;obtain⟨rfl,rfl⟩:=aP h2;refine⟨_,_,.inl ?_,hs.alloc (.map #[] 0) (.mpo [] []) 0 ⟨Env.gY _ _ _ _,#[],0,by rw[Env.dG];exact aUc,rfl,rfl,trivial,trivial⟩,⟨⟨⟨aLq _,hs.good _ (aC4 _)⟩,trivial⟩,trivial⟩⟩;have hd:den (ρ.add s.n w.heap.size 0) (.fn (.methodOf 0 "") [.ptr s.n 0] [])=.map (some w.heap.size):=by
  show Value.map (some ((ρ.add s.n w.heap.size 0).blk s.n))=_;rw[Env.dG]
 rw[hd];simp[execOp,Instr.makeMap]
variable(hT: ∀t i,tb.ty.get t=some i->nG tb.p t i)
include hT
theorem aDD{xt:TypeId}{x i:Operand}{ok:Bool}(h:aLX tb xt x i ok call cx t s=some (.ok v s'))(hs:aZ w0 ρ cx s w)(hv:kM tb ρ s.n a t (.lookup xt x i ok)):
 gG tb.p w0 ρ cx s w (execOp a.eval ⟨dst,.lookup xt x i ok,ty,pos,af,g⟩) v s':=by
 obtain⟨kt,et,h1,h2⟩:=yI h;obtain⟨⟨kk,h3⟩,h4⟩:=E5 hT h2;obtain⟨X,h5,h6⟩:=aA.1 h4;obtain⟨key,h7,h8⟩:=aA.1 h6;obtain⟨_,_,b,o,fa,fc,rfl,h9⟩:=vH h8;obtain⟨ob',h10,h11⟩:=aA.1 h9;obtain⟨ks,vs,rfl,h12⟩:=vG h11;obtain⟨q,m,rfl,h13⟩:=fH h12;obtain⟨r,BL,h15⟩:=aA.1 h13;obtain⟨_,e1⟩:=hv x (by simp[Op.operands]) _ h5;obtain⟨_,e2⟩:=hv i (by simp[Op.operands]) _ h7;have e1:a.eval x=.map (some (ρ.blk b)):=e1;have e2:a.eval i=.int q m:=e2;obtain⟨q0,ms,clk,q1,q2,q3,q4,q5⟩:=hs.obj b _ h10;obtain⟨f1,f2⟩:=MQ (kk:=kk) ks ms.toList 0 r BL q2;have hget:=aVf (P:=tb.p) q1;have X9:=nP (w:=w) (q:=q) (m:=m) (P:=tb.p) h3 ms.isEmpty;have hfind:=aW7 (w:=w) h3 f2;cases r with
 | none=>
  obtain⟨ei,k1,k2⟩:=aA.1 h15;obtain⟨V,k3,k4⟩:=aA.1 k2;obtain⟨k5,k6⟩:=aP k4;have hz:den ρ V=zeroOf ei/\Sc s.n V:=by
   unfold aLu at k3;unfold zeroOf;cases ha:ei.agg with
   |true=>
    rw[ha]at k3;cases k3;refine⟨?_,scV _ _⟩;show Value.agg (kC ρ (qA ei.zero)).toArray=_;rw[fK,aBm];rfl
   |false=>
    rw[ha]at k3;cases hl:ei.zero with
    |nil=>rw[hl]at k3;cases k3
    |cons z l=>rw[hl]at k3;cases k3;exact⟨rfl,trivial⟩
  subst k5;subst k6;refine .pure hs ?_ (by cases ok;exact hz.2;exact⟨hz.2,trivial,trivial⟩);simp only[execOp,Instr.lookup,e1,e2,aDt,aEG h1 w,aBF,hget,aD0,X9,hfind,aX3,(hT et ei k1).wJ w];cases ok
  . show Result.ok (Next.value (zeroOf ei)) w=.ok (.value (den ρ V)) w;rw[hz.1]
  show Result.ok (Next.value (.tuple #[zeroOf ei,.bool false])) w=.ok (.value (.tuple #[den ρ V,.bool false])) w;rw[hz.1]
 | some j=>
  obtain⟨V,k3,k4⟩:=aA.1 h15;obtain⟨k5,k6⟩:=aP k4;rw[pO]at k3;obtain⟨e,g1,g2⟩:=f1 j rfl;have hval:e.val=den ρ V:=by
   have:=aPa (·[j]?) q3;simp only[aEC,g1,k3,aLw,aPb]at this;exact this
  have hsV:Sc s.n V:=(aY _ _).1 q5 V (aLH k3);subst k5;subst k6;refine .pure hs ?_ (by cases ok;exact hsV;exact⟨hsV,trivial,trivial⟩);simp only[execOp,Instr.lookup,e1,e2,aDt,aEG h1 w,aBF,hget,aD0,X9,hfind,aPi,g1,aLw];cases ok
  . show Result.ok (Next.value e.val) w=.ok (.value (den ρ V)) w;rw[hval]
  show Result.ok (Next.value (.tuple #[e.val,.bool true])) w=.ok (.value (.tuple #[den ρ V,.bool true])) w;rw[hval]
theorem RJ{mt:TypeId}{x k y:Operand}(h:RU tb mt x k y call cx t s=some (.ok v s'))(hs:aZ w0 ρ cx s w)(hv:kM tb ρ s.n a t (.mapUpdate mt x k y)):
 gG tb.p w0 ρ cx s w (execOp a.eval ⟨dst,.mapUpdate mt x k y,ty,pos,af,g⟩) v s':=by
 obtain⟨kt,et,h1,h2⟩:=yI h;obtain⟨⟨kk,h3⟩,h4⟩:=E5 hT h2;obtain⟨X,h5,h6⟩:=aA.1 h4;obtain⟨key,h7,h8⟩:=aA.1 h6;obtain⟨Y,h9,h10⟩:=aA.1 h8;obtain⟨_,_,b,o,fa,fc,rfl,h11⟩:=vH h10;obtain⟨hf,h12⟩:=aF.1 h11;rw[aK]at hf;obtain⟨ob',h13,BL⟩:=aA.1 h12;obtain⟨ks,vs,rfl,h15⟩:=vG BL;obtain⟨q,m,rfl,h16⟩:=fH h15;obtain⟨r,h17,h18⟩:=aA.1 h16;obtain⟨_,e1⟩:=hv x (by simp[Op.operands]) _ h5;obtain⟨_,e2⟩:=hv k (by simp[Op.operands]) _ h7;obtain⟨s3,e3⟩:=hv y (by simp[Op.operands]) _ h9;have e1:a.eval x=.map (some (ρ.blk b)):=e1;have e2:a.eval k=.int q m:=e2;obtain⟨q0,ms,clk,q1,q2,q3,q4,q5⟩:=hs.obj b _ h13;obtain⟨f1,f2⟩:=MQ (kk:=kk) ks ms.toList 0 r h17 q2;have hget:=aVf (P:=tb.p) q1;have hset:=fun o=>aYv (P:=tb.p) o q1;have X9:=nP (w:=w) (q:=q) (m:=m) (P:=tb.p) h3 false;have hfind:=aW7 (w:=w) h3 f2;have hlt:=(aEH.1 q1).1;have one: ∀o:Obj,qX (ρ.blk b) w { w with heap:=w.heap.setIfInBounds (ρ.blk b) o }:=fun o=>⟨rfl,rfl,rfl,by simp,fun c hc=>aJN (aPu hc)⟩;cases r with
 |none=>
  obtain⟨k5,k6⟩:=aP h18;subst k5;subst k6;refine⟨ρ,{ w with heap:=w.heap.setIfInBounds (ρ.blk b) (.map (ms.push ⟨.int q m,den ρ Y,clk⟩) (clk+1)) },.inr ⟨?_,rfl⟩,hs.put h13 hf (one _) ⟨q0,ms.push ⟨.int q m,den ρ Y,clk⟩,clk+1,?_,?_,?_,?_,?_⟩,trivial⟩
  . simp only[execOp,Instr.mapUpdate,e1,e2,e3,aDt,aEG h1 w,aBF,hget,X9,hfind,hset,aX3,aD0]
  . simp[hlt]
  . rw[iJ];simp[q2,den]
  . rw[iJ];simp[q3]
  . rw[iJ,aY];intro z hz;rcases aIK.1 hz with hz|hz
    . exact(aY _ _).1 q4 z hz
    cases aL8.1 hz;trivial
  rw[iJ,aY];intro z hz;rcases aIK.1 hz with hz|hz
  . exact(aY _ _).1 q5 z hz
  cases aL8.1 hz;exact s3
 | some j=>
  obtain⟨k5,k6⟩:=aP h18;subst k5;subst k6;obtain⟨e,g1,g2⟩:=f1 j rfl;have hj:ms[j]? =some e:=by simpa using g1
  have hjl:j<ms.size:=(aEH.1 hj).1;have hlv:vs.length=ms.size:=by rw[<-aMC (f:=den ρ),<-q3];simp
  have hput:putAt j [Y] vs=vs.set j Y:=by
   rw[oU _ _ _ (by simp;omega),aUe,aEo (by omega)];simp
  have hm:(ms.modify j fun e=>{ e with key:=.int q m,val:=den ρ Y }).toList=ms.toList.set j { e with key:=.int q m,val:=den ρ Y }:=by
   apply aRt;intro i;rw[aEt,aOc,aUW];by_cases hij:j=i
   . subst hij;rw[aEo rfl,aEo rfl,hj,aEo (by simpa using hjl)];rfl
   rw[aEg hij,aEg hij,aEt]
  have hkey:((((ms[j]?).map (·.key)).getD (Value.int q m)))=.int q m:=by rw[hj];exact g2
  have aHd:(Instr.keyThatStays (.int q m) (.int q m)).run tb.p w=.ok (.int q m) w:=by
   simp[Instr.keyThatStays,Instr.sameBits]
  refine⟨ρ,{ w with heap:=w.heap.setIfInBounds (ρ.blk b) (.map (ms.modify j fun e=>{ e with key:=.int q m,val:=den ρ Y }) clk) },.inr ⟨?_,rfl⟩,hs.put h13 hf (one _) ⟨q0,ms.modify j fun e=>{ e with key:=.int q m,val:=den ρ Y },clk,?_,?_,?_,q4,?_⟩,trivial⟩
  . simp only[execOp,Instr.mapUpdate,e1,e2,e3,aDt,aEG h1 w,aBF,hget,X9,hfind,hset,aPi,g1,aLw,aHG,hkey,aHd,aD0]
  . simp[hlt]
  . rw[hm,aUK,<-q2];apply aRt;intro i;rw[aUW];split
    . rename_i hij;subst hij;split
      . rw[aEC,g1];simp[g2]
      rename_i hn;simp at hn;omega
    rfl
  . rw[hm,aUK,q3,hput,aUK]
  rw[hput,aY];intro z hz;rcases aYg hz with hz|rfl
  . exact(aY _ _).1 q5 z hz
  exact s3
theorem aDE{mt:TypeId}{x k y:Operand}(h:RU tb mt x k y call cx t s=some (.ok v s'))(hs:aZ w0 ρ cx s w)(hv:kM tb ρ s.n a t (.insert mt x k y)):
 gG tb.p w0 ρ cx s w (execOp a.eval ⟨dst,.insert mt x k y,ty,pos,af,g⟩) v s':=by
 obtain⟨kt,et,h1,h2⟩:=yI h;obtain⟨⟨kk,h3⟩,h4⟩:=E5 hT h2;obtain⟨X,h5,h6⟩:=aA.1 h4;obtain⟨key,h7,h8⟩:=aA.1 h6;obtain⟨Y,h9,h10⟩:=aA.1 h8;obtain⟨_,_,b,o,fa,fc,rfl,h11⟩:=vH h10;obtain⟨hf,h12⟩:=aF.1 h11;rw[aK]at hf;obtain⟨ob',h13,BL⟩:=aA.1 h12;obtain⟨ks,vs,rfl,h15⟩:=vG BL;obtain⟨q,m,rfl,h16⟩:=fH h15;obtain⟨r,h17,h18⟩:=aA.1 h16;obtain⟨_,e1⟩:=hv x (by simp[Op.operands]) _ h5;obtain⟨_,e2⟩:=hv k (by simp[Op.operands]) _ h7;obtain⟨s3,e3⟩:=hv y (by simp[Op.operands]) _ h9;have e1:a.eval x=.map (some (ρ.blk b)):=e1;have e2:a.eval k=.int q m:=e2;obtain⟨q0,ms,clk,q1,q2,q3,q4,q5⟩:=hs.obj b _ h13;obtain⟨f1,f2⟩:=MQ (kk:=kk) ks ms.toList 0 r h17 q2;have hget:=aVf (P:=tb.p) q1;have hset:=fun o=>aYv (P:=tb.p) o q1;have X9:=nP (w:=w) (q:=q) (m:=m) (P:=tb.p) h3 false;have hfind:=aW7 (w:=w) h3 f2;have hlt:=(aEH.1 q1).1;have one: ∀o:Obj,qX (ρ.blk b) w { w with heap:=w.heap.setIfInBounds (ρ.blk b) o }:=fun o=>⟨rfl,rfl,rfl,by simp,fun c hc=>aJN (aPu hc)⟩;cases r with
 |none=>
  obtain⟨k5,k6⟩:=aP h18;subst k5;subst k6;refine⟨ρ,{ w with heap:=w.heap.setIfInBounds (ρ.blk b) (.map (ms.push ⟨.int q m,den ρ Y,clk⟩) (clk+1)) },.inr ⟨?_,rfl⟩,hs.put h13 hf (one _) ⟨q0,ms.push ⟨.int q m,den ρ Y,clk⟩,clk+1,?_,?_,?_,?_,?_⟩,trivial⟩
  . simp only[execOp,Instr.mapUpdate,e1,e2,e3,aDt,aEG h1 w,aBF,hget,X9,hfind,hset,aX3,aD0]
  . simp[hlt]
  . rw[iJ];simp[q2,den]
  . rw[iJ];simp[q3]
  . rw[iJ,aY];intro z hz;rcases aIK.1 hz with hz|hz
    . exact(aY _ _).1 q4 z hz
    cases aL8.1 hz;trivial
  rw[iJ,aY];intro z hz;rcases aIK.1 hz with hz|hz
  . exact(aY _ _).1 q5 z hz
  cases aL8.1 hz;exact s3
 | some j=>
  obtain⟨k5,k6⟩:=aP h18;subst k5;subst k6;obtain⟨e,g1,g2⟩:=f1 j rfl;have hj:ms[j]? =some e:=by simpa using g1
  have hjl:j<ms.size:=(aEH.1 hj).1;have hlv:vs.length=ms.size:=by rw[<-aMC (f:=den ρ),<-q3];simp
  have hput:putAt j [Y] vs=vs.set j Y:=by
   rw[oU _ _ _ (by simp;omega),aUe,aEo (by omega)];simp
  have hm:(ms.modify j fun e=>{ e with key:=.int q m,val:=den ρ Y }).toList=ms.toList.set j { e with key:=.int q m,val:=den ρ Y }:=by
   apply aRt;intro i;rw[aEt,aOc,aUW];by_cases hij:j=i
   . subst hij;rw[aEo rfl,aEo rfl,hj,aEo (by simpa using hjl)];rfl
   rw[aEg hij,aEg hij,aEt]
  have hkey:((((ms[j]?).map (·.key)).getD (Value.int q m)))=.int q m:=by rw[hj];exact g2
  have aHd:(Instr.keyThatStays (.int q m) (.int q m)).run tb.p w=.ok (.int q m) w:=by
   simp[Instr.keyThatStays,Instr.sameBits]
  refine⟨ρ,{ w with heap:=w.heap.setIfInBounds (ρ.blk b) (.map (ms.modify j fun e=>{ e with key:=.int q m,val:=den ρ Y }) clk) },.inr ⟨?_,rfl⟩,hs.put h13 hf (one _) ⟨q0,ms.modify j fun e=>{ e with key:=.int q m,val:=den ρ Y },clk,?_,?_,?_,q4,?_⟩,trivial⟩
  . simp only[execOp,Instr.mapUpdate,e1,e2,e3,aDt,aEG h1 w,aBF,hget,X9,hfind,hset,aPi,g1,aLw,aHG,hkey,aHd,aD0]
  . simp[hlt]
  . rw[hm,aUK,<-q2];apply aRt;intro i;rw[aUW];split
    . rename_i hij;subst hij;split
      . rw[aEC,g1];simp[g2]
      rename_i hn;simp at hn;omega
    rfl
  . rw[hm,aUK,q3,hput,aUK]
  rw[hput,aY];intro z hz;rcases aYg hz with hz|rfl
  . exact(aY _ _).1 q5 z hz
  exact s3
end
end
section
open Go.RowKit
def lJ (tb:Tab) (w0:World) (call:fD):Prop:=
 ∀ (_:Gh) fl hid f xs s v s',call fl hid f xs s=some (v,s')-> ∀ ρ w,aZ w0 ρ ⟨tb.g,tb.l,fl,hid⟩ s w->jM s.n xs->
  (Nat.ble yF f=false->Calls tb.p f (xs.map (den ρ)).toArray w fun e w'=> ∃ ρ',e=.returned (den ρ' v)/\Stp w0 ρ ρ' ⟨tb.g,tb.l,fl,hid⟩ s s' w w'/\Sc s'.n v)/\
  (Nat.ble yF f=true->Gd s.n (f - yF)-> ∃r:Loop,w.heap[ρ.blk (f - yF)]? =some (.loop r)/\xs.length=r.params.size/\ ∀n,RoundIn Fence.wide n tb.p (ρ.blk (f - yF)) r.fn
    ((r.params.zip (xs.map (den ρ)).toArray).foldl (fun t (p,v)=>t.setIfInBounds p v) r.tmps) r.assign r.body w fun e w'=> ∃ ρ',e=.returned (den ρ' v)/\Stp w0 ρ ρ' ⟨tb.g,tb.l,fl,hid⟩ s s' w w'/\Sc s'.n v)
def FF(r:Option Nat):Fence:={ Fence.wide with round:=r }
theorem xI{r:Option Nat}{p:Prop}(h:(FF r).depth.isSome=true):p:=absurd (show false=true from h) (by decide)
theorem aCK{r:Option Nat}{n:Nat}{P:Program}{f:FuncId}{args:Array Value}{w:World}{R:Ending->World->Prop}(h:Calls P f args w R):CallsIn (FF r) n P f args w R:=
 (aMd (n:=n)).2 h
theorem IW{P:Program}{r:Option Nat}{n:Nat}{o:Oper}{a:Act}{w:World}{next:Act->World->Prop}{Q:Exit->Act->World->Prop}(hr:r=none\/ ∀c,o.op≠ .defer c)(h:o.wp P a w next Q):
 o.wpIn (FF r) n P a w next Q:=by
 have aWp:o.semAt (FF r).round a.eval=execOp a.eval o:=by
  rcases hr with rfl|hr
  . rfl
  exact aYq _ _ _ hr
 refine⟨fun _ _=>trivial,?_⟩;rw[aWp];unfold Oper.wp at h;generalize (execOp a.eval o).run P w=res at *;cases res with
 | ok x w'=>
  cases x<;>simp only[Oper.upon,Oper.uponIn]at h ⊢ <;>first
   |exact h
   |exact⟨xI,aCK h⟩
   |exact⟨xI,fun c cs _=>let⟨v,w2,k1,k2⟩:=h c cs;⟨v,w2,k1,stepsIn_wide.2 k2⟩⟩
   |exact h.elim
 |halt x w'=>cases x<;>simp only[Oper.upon,Oper.uponIn]at h ⊢ <;>first|exact h|exact h.elim
structure jY(tb:Tab)(w0:World):Prop where
 ty: ∀t i,tb.ty.get t=some i->nG tb.p t i
 fn: ∀f fn,tb.fn.get f=some fn->tb.p.funcs[f]? =some fn/\ ∀args w,(callFunc f args).run tb.p w=.ok (.enter f args) w
 orc: ∀f xs v,tb.orc f xs=some v->(∀(_:Gh) n,(∀g,g<tb.g.n->Gd n g)->Sc n v)/\(∀args w,(callFunc f args).run tb.p w=.ok (.enter f args) w)/\
  ∀ ρ w,Lv tb ρ->Below w0.heap.size w0 w->Calls tb.p f (xs.map (den ρ)).toArray w fun e w'=>e=.returned (den ρ v)/\Below w.heap.size w w'
 BD:EI tb
 mixed:tb.p.follows .mixedOrders=true
 idn: ∀f,tb.idn f=true-> ∀x w,(callFunc f #[x]).run tb.p w=.ok (.value x) w
 mnz: ∀f e,tb.mnz f=some e-> ∀(n:Nat) w,n<=140737488355328-> ∃cs:Array Value,(callFunc f #[.int .i64 n]).run tb.p w=.ok (.value (.slice (some ⟨w.heap.size,0,none⟩) n cs.size)) (w.drew.drew.alloc (.cells cs e))/\n<=cs.size
 met: ∀t name f,tb.met t name=some f-> ∀(v:Value) (w:World),(method (tb.p.types.size+Made.depth) t v name).run tb.p w=.ok (f,v) w
variable[Gh]
def ZP(ρ:Env)(n:Nat)(p:FuncId × List AV)(d:Deferred):Prop:=
 jM n p.2/\((Nat.beq p.1 OZ=false/\ ∃cap args,d=⟨.fn (.func p.1) cap,args⟩/\args++cap=(p.2.map (den ρ)).toArray)\/(Nat.beq p.1 OZ=true/\ ∃b,p.2=[.ptr b 0]/\d=⟨.collected (ρ.blk b),#[]⟩))
section
variable{tb:Tab}{w0:World}{ρ:Env}{cx:Cx}{s s':Hs}{w:World}{a:Act}{t:TE}{call:fD}{v:AV}{P:Program}
theorem DJ{β:Type}{f:AV}{xs:List AV}{k:FuncId->List AV->Option β}{r:β}(h:fnV f xs k=some r)(ρ:Env){n:Nat}(hf:Sc n f)(hx:jM n xs):
 ∃g fi ca xs',k g xs'=some r/\den ρ f=.func (.func g) fi ca/\(fi++(xs.map (den ρ)).toArray)++ca=(xs'.map (den ρ)).toArray/\jM n xs':=by
 cases f with
 | v f =>
  cases f with
  |func f fi ca=>
   obtain⟨g,rfl,h2⟩:=xH h;refine⟨g,fi,ca,_,h2,rfl,?_,?_⟩
   . rw[iJ,iJ];apply aPm;simp only[aPf,aBm,aPc,aTB]
   rw[iJ,iJ,aY];rw[aY]at hx;intro x hx';rcases aIK.1 hx' with h|h
   . exact(aY _ _).1 (scV n _) x h
   rcases aIK.1 h with h|h
   . exact hx x h
   exact(aY _ _).1 (scV n _) x h
  |_=>cases h
 | fn f fi ca=>
  obtain⟨g,rfl,h2⟩:=xH h;refine⟨g,_,_,_,h2,rfl,?_,?_⟩
  . rw[iJ,iJ,fK,fK];apply aPm;simp only[aPf,aPc,aTB]
  rw[iJ,iJ,aY];rw[aY]at hx;have h1:=(aY _ _).1 hf.1;have h2:=(aY _ _).1 hf.2;intro x hx';rcases aIK.1 hx' with h|h
  . exact h1 x h
  rcases aIK.1 h with h|h
  . exact hx x h
  exact h2 x h
 |_=>cases h
omit[Gh]in
theorem LD{x:Option Next}{u:Value}(h:aCe x=some u):x=some (.value u):=by
 obtain⟨n,rfl,h2⟩:=aA.1 h;cases n<;>first|(cases h2;done)|(cases h2;rfl)
theorem bG{o:Oper}{next:Act->World->Prop}{Q:Exit->Act->World->Prop}(h:gG P w0 ρ cx s w (execOp a.eval o) v s')
 (hn: ∀ ρ' w',Stp w0 ρ ρ' cx s s' w w'->Sc s'.n v->next (a.put o.dst (den ρ' v)) w'):o.wp P a w next Q:=by
 obtain⟨ρ',w',h1,h2,h3⟩:=h;unfold Oper.wp;rcases h1 with h1|⟨h1,rfl⟩
 . rw[h1];exact hn ρ' w' h2 h3
 rw[h1];exact hn ρ' w' h2 h3
variable(hT:jY tb w0)
include hT
theorem aR4 (hcg:cx.g=tb.g) {o:Oper} {b:Builtin} {args:Array Operand} {ts:Array TypeId} (ho:o.op=.call ⟨.builtin b,args,ts⟩) {xs:List AV} (hx:lF (nH tb t) args.toList=some xs)
 (h:bi tb b ⟨.builtin b,args,ts⟩ xs cx s=some (.ok v s')) (hs:aZ w0 ρ cx s w) (hv:kM tb ρ s.n a t o.op):gG tb.p w0 ρ cx s w (execOp a.eval o) v s':=by
 obtain⟨dst,op,ty,pos,af,g⟩:=o;subst ho;obtain⟨e1,e2⟩:=nR hx hv (fun x hx=>by simp[Op.operands,Call.operands];simpa using hx);have e3:args.map a.eval=(xs.map (den ρ)).toArray:=by apply aPm;rw[aPl,e1]
 have hg: ∀u,aCe (OA tb.p (builtin b ts 0 #[] (xs.map (den ρ)).toArray))=some u->(∀ty' cs,builtin b ts ty' cs (xs.map (den ρ)).toArray=builtin b ts 0 #[] (xs.map (den ρ)).toArray)->
  (execOp a.eval ⟨dst,.call ⟨.builtin b,args,ts⟩,ty,pos,af,g⟩).run tb.p w=.ok (.value u) w:=by
  intro u hu hi;refine mJ ?_;rw[e3,hi];exact oN (LD hu) w
 have hG:biG tb b ⟨.builtin b,args,ts⟩ xs s=some (.ok v s')->(∀ty' cs vs,builtin b ts ty' cs vs=builtin b ts 0 #[] vs)->gG tb.p w0 ρ cx s w (execOp a.eval ⟨dst,.call ⟨.builtin b,args,ts⟩,ty,pos,af,g⟩) v s':=by
  intro h hi;obtain⟨vs,h1,h2⟩:=aA.1 h;obtain⟨u,h3,rfl,rfl⟩:=qF h2;rw[<-VI h1 ρ]at h3;exact .pure hs (hg u h3 (fun ty' cs=>hi ty' cs _)) trivial
 have hM: ∀mm,aON tb mm xs s=some (.ok v s')->(∀ty' cs q x y,(builtin b ts ty' cs #[.int q x,.int q y]).run tb.p w=.ok (.value (.int q (if decide (x<y)=mm then y else x))) w)->gG tb.p w0 ρ cx s w (execOp a.eval ⟨dst,.call ⟨.builtin b,args,ts⟩,ty,pos,af,g⟩) v s':=by
  intro mm h hi;obtain⟨x,y,rfl,h1⟩:=yA h;obtain⟨q,h2,d1⟩:=nN h1;obtain⟨q',h3,d2⟩:=nN h2;obtain⟨h4,h5⟩:=aF.1 h3;rw[mX]at h4;subst h4;obtain⟨c,h6,h7⟩:=aA.1 h5;obtain⟨rfl,rfl⟩:=aP h7;obtain⟨m,d1⟩:=d1 ρ;obtain⟨m',d2⟩:=d2 ρ;have hb:=hT.BD.BD _ _ _ _ h6 ρ (fun g hg'=>by rw[<-hcg];exact(hs.gl g (by rw[hcg];exact hg')).2.2);rw[d1,d2]at hb;have hb:decide (m<m')=c:=hb;obtain⟨s1,s2,_⟩:=e2;refine .pure hs (mJ ?_) (by cases ZB c mm;exact s1;exact s2);rw[e3];show(builtin b ts ty _ #[den ρ x,den ρ y]).run tb.p w=_;rw[d1,d2,hi,hb];cases c<;>cases mm<;>simp[ZB,lS,d1,d2]
 cases b with
 |append=>
  obtain⟨t1,t2,tr,ht,h1⟩:=wG h;obtain⟨x,y,xr,hxs,h2⟩:=wG h1;subst hxs;obtain⟨s1,s2,_⟩:=e2;change ts.toList=_ at ht;have hts:ts=(t1::t2::tr).toArray:=by rw[<-ht]
  obtain⟨ρ',w',k1,k2,k3⟩:=aDG (ty:=ty) (ts:=ts) (a1i:=args.map a.eval) hT.ty h2 hs s1 s2 (by rw[hts];rfl) (by rw[hts];rfl) (by rw[e3];rfl) (by rw[e3];rfl);refine⟨ρ',w',.inl (mJ ?_),k2,k3⟩;simp only[builtin,aDt,k1,aBF,aD0]
 | len =>
  change Y8 tb ts.toList xs s=some (.ok v s')at h;unfold Y8 at h;cases hts:ts.toList with
  |nil=>rw[hts]at h;cases h
  | cons t1 tr=>
   rw[hts]at h;cases xs with
   |nil=>cases h
   | cons x xr=>
    obtain⟨i,h1,h2⟩:=aA.1 h;obtain⟨d,d1,_,d2⟩:=(hT.ty t1 i h1).desc;have pR:ts[0]? =some t1:=by rw[<-aEt,hts];rfl
    have oW:(args.map a.eval)[0]? =some (den ρ x):=by rw[e3];rfl
    have fin: ∀n:Nat,v=.v (.int .i64 (Int.ofNat n))->s'=s->(Builtin.len_ ts ty (args.map a.eval)).run tb.p w=.ok (goInt n) w->gG tb.p w0 ρ cx s w (execOp a.eval ⟨dst,.call ⟨.builtin .len,args,ts⟩,ty,pos,af,g⟩) v s':=by
     intro n hv' hs' hr;subst hv';subst hs';refine .pure hs (mJ ?_) trivial;simp only[builtin,aDt,hr,aBF,aD0]
     rfl
    cases hk:i.k with
    | str=>
     rw[hk]at h2 d2;obtain rfl:=tK d2;rcases cO h2 with h2|h2
     case inr=>
      obtain⟨h2,h3⟩:=sQ h2;obtain⟨m,h3⟩:=h3 ρ;obtain⟨rfl,rfl⟩:=aP h2;refine .pure hs (mJ ?_) ⟨⟨trivial,e2.1,trivial⟩,trivial⟩;have hr:(Builtin.len_ ts ty (args.map a.eval)).run tb.p w=.ok (goInt m.size) w:=by
       simp only[Builtin.len_,pR,oW,h3,aDt,aEG d1 w,aBF,aD0]
      simp only[builtin,aDt,hr,aBF,aD0];simp[bH,den,kC,vU,JW,aAv,FQ,pK,h3,goInt]
     obtain⟨z,rfl,h3⟩:=iI h2;cases z with
     |string bs=>
      obtain⟨q1,q2⟩:=aP h3;refine fin _ q1 q2 ?_;simp only[Builtin.len_,pR,oW,aDt,aEG d1 w,aBF,den,aD0,len_eq]
      rfl
     |_=>cases h3
    | slice el=>
     rw[hk]at h2 d2;obtain rfl:=iP d2;rcases cO h2 with h2|h2
     case inr=>
      obtain⟨h2,h3⟩:=JX h2;obtain⟨ad,m,c,h3⟩:=h3 ρ;obtain⟨rfl,rfl⟩:=aP h2;refine .pure hs (mJ ?_) ⟨⟨trivial,e2.1,trivial⟩,trivial⟩;have hr:(Builtin.len_ ts ty (args.map a.eval)).run tb.p w=.ok (goInt m) w:=by
       simp only[Builtin.len_,pR,oW,h3,aDt,aEG d1 w,aBF,aD0]
      simp only[builtin,aDt,hr,aBF,aD0];simp[bH,den,kC,vU,JW,aAv,FQ,pK,h3,goInt]
     obtain⟨n,h3,h4⟩:=aA.1 h2;obtain⟨q1,q2⟩:=aP h4;refine fin n q1 q2 ?_;have hd: ∃ad c,den ρ x=.slice ad n c:=by
      cases x with
      |v x=>cases x<;>first|(cases h3;done)|(cases h3;exact⟨_,_,rfl⟩)
      |sl b off n c=>cases h3;exact⟨_,_,rfl⟩
      |y8 b off n c=>cases h3;exact⟨_,_,rfl⟩
      |_=>cases h3
     obtain⟨ad,c,hd⟩:=hd;simp only[Builtin.len_,pR,oW,hd,aDt,aEG d1 w,aBF,aD0]
    |_=>rw[hk]at h2;cases h2
 |min=>
  rcases cO h with h|h
  . exact hG h (fun _ _ _=>rfl)
  refine hM false h fun ty' cs q x y=>?_;simp only[BigFrame.builtin_min,aDt,Go.Lib.run_min_ints,aBF,aD0];by_cases c:x<y
  . rw[aEg (by simp[c]),Int.min_eq_left (by omega)]
  rw[aEo (by simp[c]),Int.min_eq_right (by omega)]
 |max=>
  rcases cO h with h|h
  . exact hG h (fun _ _ _=>rfl)
  refine hM true h fun ty' cs q x y=>?_;simp only[BigFrame.builtin_max,aDt,Go.Lib.run_max_ints,aBF,aD0];by_cases c:x<y
  . rw[aEo (by simp[c]),Int.max_eq_right (by omega)]
  rw[aEg (by simp[c]),Int.max_eq_left (by omega)]
 | cap=>
  change Y9 tb ts.toList xs s=some (.ok v s')at h;unfold Y9 at h;cases hts:ts.toList with
  |nil=>rw[hts]at h;cases h
  | cons t1 tr=>
   rw[hts]at h;cases xs with
   |nil=>cases h
   | cons x xr=>
    obtain⟨i,h1,h2⟩:=aA.1 h;obtain⟨e,hk,h3⟩:=kS h2;obtain⟨d,d1,_,d2⟩:=(hT.ty t1 i h1).desc;rw[hk]at d2;obtain rfl:=iP d2;have pR:ts[0]? =some t1:=by rw[<-aEt,hts];rfl
    have oW:(args.map a.eval)[0]? =some (den ρ x):=by rw[e3];rfl
    have fin: ∀ad n (c:Nat),den ρ x=.slice ad n c->den ρ v=.int .i64 c->Sc s.n v->s'=s->gG tb.p w0 ρ cx s w (execOp a.eval ⟨dst,.call ⟨.builtin .cap,args,ts⟩,ty,pos,af,g⟩) v s':=by
     intro ad n c hx hvd hvs hs';subst hs';refine .pure hs (mJ ?_) hvs;simp only[builtin,Builtin.cap_,pR,oW,hx,aDt,aEG d1 w,aBF,aD0,hvd]
     rfl
    cases x with
    |v x=>
     cases x with
     |slice ad n c=>obtain⟨rfl,q2⟩:=aP h3;exact fin ad n c rfl rfl trivial q2
     |_=>cases h3
    |sl b off n c=>obtain⟨rfl,q2⟩:=aP h3;exact fin _ n c rfl rfl trivial q2
    |y8 b off n dk=>obtain⟨rfl,q2⟩:=aP h3;exact fin _ n (ρ.cap b - dk) rfl rfl ⟨⟨e2.1,trivial⟩,trivial⟩ q2
    |_=>cases h3
 | copy=>
  change aBv tb ts.toList xs cx s=some (.ok v s')at h;obtain⟨t1,t2,tr,ht,h1⟩:=wG h;obtain⟨x,y,xr,hxs,h2⟩:=wG h1;subst hxs;obtain⟨i,h3,h4⟩:=aA.1 h2;obtain⟨e,hk,h5⟩:=kS h4;obtain⟨ei,h6,h7⟩:=aA.1 h5;obtain⟨d,d1,_,d2⟩:=(hT.ty t1 i h3).desc;rw[hk]at d2;obtain rfl:=iP d2;have pR:ts[0]? =some t1:=by rw[<-aEt,ht];rfl
  have oW:(args.map a.eval)[0]? =some (den ρ x):=by rw[e3];rfl
  have vX:(args.map a.eval)[1]? =some (den ρ y):=by rw[e3];rfl
  rcases cO h7 with h7|h7
  case inr=>
   obtain⟨w',k1,k2,k3⟩:=aJZ (ty:=ty) (ts:=ts) (a1i:=args.map a.eval) hT.ty d1 (hT.ty e ei h6) h7 hs e2.2.1 pR oW vX;exact⟨ρ,w',.inl (mJ (by simp only[builtin,aDt,k1,aBF,aD0])),k2,k3⟩
  obtain⟨h8,h9⟩:=aF.1 h7;obtain⟨m,h10,h11⟩:=aA.1 h9;obtain⟨rfl,rfl⟩:=aP h11;have hx: ∃ad c,den ρ x=.slice (some ad) 0 c:=by
   cases x with
   |sl b off n c=>have:=beq_iff.1 h8;subst this;exact⟨_,_,rfl⟩
   |y8 b off n dk=>have:=beq_iff.1 h8;subst this;exact⟨_,_,rfl⟩
   |_=>cases h8
  obtain⟨ad,c,hx⟩:=hx;have hy: ∃k,(Builtin.lenOf (den ρ y)).run tb.p w=.ok k w/\(Builtin.firstCells ei.size 0 (den ρ y)).run tb.p w=.ok #[] w:=by
   cases y with
   |v y=>
    cases y with
    |string bs=>exact⟨_,rfl,by simp[den,Builtin.firstCells]⟩
    |slice ad n c=>cases ad<;>exact⟨_,rfl,by simp[den,Builtin.firstCells,loadCells,loadCellsFrom]⟩
    |_=>cases h10
   |sl b off n c=>exact⟨_,rfl,by simp[den,Builtin.firstCells,loadCells,loadCellsFrom]⟩
   |y8 b off n c=>exact⟨_,rfl,by simp[den,Builtin.firstCells,loadCells,loadCellsFrom]⟩
   |_=>cases h10
  obtain⟨k,y1,y2⟩:=hy;refine .pure hs (mJ ?_) trivial;have hmin:Nat.min k 0=0:=Nat.min_zero k;simp only[builtin,Builtin.copy_,pR,oW,vX,hx,aDt,aEG d1 w,aBF,y1,(hT.ty e ei h6).jG w,hmin,y2,storeCells,aD0]
  rfl
 | unsafeSliceData=>
  change UL xs cx s=some (.ok v s')at h;obtain⟨x,rfl,h1⟩:=tC h;have e4:args.map a.eval= #[den ρ x]:=e3;have fin: ∀ad n (c:Nat),den ρ x=.slice (some ad) n c->c≠0->den ρ v=.pointer (some ad)->Sc s.n v->s'=s->gG tb.p w0 ρ cx s w (execOp a.eval ⟨dst,.call ⟨.builtin .unsafeSliceData,args,ts⟩,ty,pos,af,g⟩) v s':=by
   intro ad n c hx hc hvd hvs hs';subst hs';refine .pure hs (mJ ?_) hvs;simp only[builtin,e4,hx,aDt,Lib.run_unsafeSliceData_row w ts ty ad n c hc,aBF,aD0,hvd]
  cases x with
  | v x=>
   cases x with
   |slice ad n c=>
    obtain⟨q1,q2⟩:=aF.1 h1;obtain rfl:=nS.1 q1;obtain⟨rfl,rfl⟩:=aP q2;refine .pure hs (mJ ?_) trivial;simp only[builtin,e4,den,aDt,Lib.run_unsafeSliceData_nil w ts ty n c,aBF,aD0]
   |_=>cases h1
  |sl b off n c=>
   obtain⟨q1,q2⟩:=aF.1 h1;obtain⟨rfl,q3⟩:=aP q2;exact fin _ n c rfl (fun e=>by subst e;cases q1) rfl e2.1 q3
  |y8 b off n dk=>
   obtain⟨o,h2,h3⟩:=aA.1 h1;obtain⟨cs,es,el,rfl,h4⟩:=KD h3;obtain⟨h5,h6⟩:=aF.1 h4;obtain⟨rfl,q3⟩:=aP h6;rw[aK,len_eq]at h5;obtain⟨q0,q1,cc,fr,q2,_,q4,⟨rest,q5⟩,q6⟩:=hs.obj b _ h2;have hlen:cs.length<=ρ.cap b * es:=by rw[<-q4,<-aII,q5];simp
   have hlt:dk<ρ.cap b:=aYe (aG0 (Nat.lt_of_succ_le h5) hlen);exact fin _ n (ρ.cap b - dk) rfl (by omega) rfl e2.1 q3
  |_=>cases h1
 | unsafeString=>
  change aIb tb ts.toList xs cx s=some (.ok v s')at h;obtain⟨pt,it,hts,h1⟩:=yA h;obtain⟨p,N,rfl,h2⟩:=yA h1;obtain⟨k,z,rfl,h3⟩:=fH h2;obtain⟨h4,h5⟩:=aF.1 h3;rw[mX]at h4;subst h4;have aN4:ts= #[pt,it]:=by apply aPm;exact hts
  cases z with
  |negSucc z=>cases h5
  | ofNat n=>
   have e4:args.map a.eval= #[den ρ p,.int .i64 (n:Int)]:=e3;cases p with
   | v p=>
    obtain⟨h6,h7⟩:=aF.1 h5;obtain⟨z,h8,h9⟩:=aA.1 h7;obtain⟨h10,h11⟩:=aF.1 h9;obtain⟨rfl,rfl⟩:=aP h11;have:=beq_iff.1 h6;subst this;have:=beq_iff.1 h10;subst this;have hp:p=.pointer none:=by
     cases p with
     |pointer q=>cases q<;>first|rfl|cases h8
     |slice q _ _=>cases q<;>cases h8
     |_=>cases h8
    subst hp;refine .pure hs (mJ ?_) trivial;simp only[builtin,e4,aN4,den,aDt];have:=aYi (P:=tb.p) w pt it ty none;simp only[aMf,aX6]at *;simp only[this,aBF,aD0]
   | ptr b off=>
    cases hn:Nat.beq n 0 with
    |true=>
     have h5:(Bool.rec (motive:=fun _=>gZ) (aAe tb n b off pt cx s) (ret (.v (.string .empty)) s) (Nat.beq n 0):gZ)=some (.ok v s'):=h5;rw[hn]at h5;obtain⟨rfl,rfl⟩:=aP h5;have:=beq_iff.1 hn;subst this;refine .pure hs (mJ ?_) trivial;simp only[builtin,e4,aN4,den,aDt];have:=aYi (P:=tb.p) w pt it ty (some ⟨ρ.blk b,ρ.off b+off,none⟩);simp only[aX6]at *;simp only[this,aBF,aD0]
    | false=>
     have h5:(Bool.rec (motive:=fun _=>gZ) (aAe tb n b off pt cx s) (ret (.v (.string .empty)) s) (Nat.beq n 0):gZ)=some (.ok v s'):=h5;rw[hn]at h5;obtain⟨h6,h7⟩:=aF.1 h5;rw[bT,aEb,beq_iff,aK]at h6;obtain⟨rfl,hf⟩:=h6;obtain⟨o,h8,h9⟩:=aA.1 h7;have hne:n≠0:=fun e=>by rw[beq_iff.2 e]at hn;cases hn
     have fin: ∀(c:List AV) (el:TypeId) (cc:Array Value) (fr:Nat × Nat),w.heap[ρ.blk b]? =some (.cells cc el fr)->(∃rest,cc.toList=c.map (den ρ)++rest)->jM s.n c->ρ.off b=0->
      strRow tb n b pt s c el=some (.ok v s')->
      gG tb.p w0 ρ cx s w (execOp a.eval ⟨dst,.call ⟨.builtin .unsafeString,args,ts⟩,ty,pos,af,g⟩) v s':=by
      intro c el cc fr hw ⟨rest,hcc⟩ hsc h0 h;obtain⟨i,k1,k2⟩:=aA.1 h;obtain⟨e,k3,k4⟩:=sZ k2;obtain⟨k5,k6⟩:=aF.1 k4;obtain⟨l,k7,k8⟩:=aA.1 k6;obtain⟨bs,k9,k10⟩:=aA.1 k8;obtain⟨k11,k12⟩:=aF.1 k10;obtain⟨rfl,rfl⟩:=aP k12;rw[bT,aEb,beq_iff,beq_iff]at k5;obtain⟨rfl,k5⟩:=k5;rw[aK]at k11;rw[qI]at k7;obtain⟨k7,rfl⟩:=k7;obtain⟨m1,m2⟩:=aD3 k9;have hbl:bs.length=n:=by rw[<-m1,aUv];omega
      obtain⟨d,d1,_,d2⟩:=(hT.ty pt i k1).desc;rw[k3]at d2;obtain rfl:=wX d2;have hsz:n<=cc.size:=by
       have:cc.toList.length=c.length+rest.length:=by rw[hcc];simp
       rw[aII]at this;omega
      have hcell: ∀(j:Nat) (x:UInt8),bs[j]? =some x->w.cell? ((⟨ρ.blk b,0,none⟩:Addr).add j)=some (.int .u8 x.toNat):=by
       intro j x hx;have hj:j<n:=by rw[<-hbl];exact(aED.1 hx).1
       have hjc:j<c.length:=by omega
       obtain⟨y,y1,y2⟩:=m2 j c[j] (by rw[aPh,aEo hj];exact aE5 hjc);rw[hx]at y1;cases y1;obtain⟨k,z,hX,y3⟩:=fH y2;obtain⟨y4,y5⟩:=aF.1 y3;rw[bT,aEb,mX]at y4;obtain⟨rfl,y4⟩:=y4;cases y5;have hz:((UInt8.ofNat z.toNat).toNat:Int)=z:=by
        cases z with
        |negSucc m=>cases y4
        |ofNat m=>
         have hm:m<=255:=aK8 y4;have:(UInt8.ofNat m).toNat=m:=by rw[aPs];omega
         show(((UInt8.ofNat m).toNat:Nat):Int)=_;rw[this];rfl
       rw[hz,addr_add,aHG];have hcj:cc[j]? =some (.int .u8 z):=by
        rw[<-aEt,hcc,aIG (by simpa using hjc),aEC,aE5 hjc,hX];rfl
       simp[World.cell?,hw,hcj]
      have hrun:=Lib.run_unsafeString_row w pt it ty e d1 k5 (ρ.blk b) cc.size (by simp[World.shape?,hw]) bs (fun e=>hne (by rw[<-hbl,e];rfl)) (by omega) (by omega) hcell;rw[hbl]at hrun;have hfr: ∃fr',(w.freeze ⟨ρ.blk b,0,none⟩ n).heap[ρ.blk b]? =some (.cells cc e fr'):=by
       unfold World.freeze;rw[aEg hne];simp[aOc,hw]
      obtain⟨fr',hfr⟩:=hfr;have hone:qX (ρ.blk b) w (w.freeze ⟨ρ.blk b,0,none⟩ n):=by
       unfold World.freeze;rw[aEg hne];exact⟨rfl,rfl,rfl,by simp,fun k hk=>by simp[aOc,aPu hk]⟩
      refine⟨ρ,_,.inl (mJ ?_),hs.put h8 hf hone ⟨⟨_,hfr⟩,fun j x hx=>?_,hsc⟩,trivial⟩
      . simp only[builtin,e4,aN4,den,aDt,h0,aN6,aHG];rw[hrun];simp only[aBF,aD0]
      have hj:j<c.length:=(aED.1 hx).1;have hcj:cc[j]? =some (den ρ x):=by
       rw[<-aEt,hcc,aIG (by simpa using hj),aEC,hx];rfl
      rw[h0,aHG];simp[World.cell?,hfr,hcj]
     cases o with
     |row c el=>
      obtain⟨q0,cc,fr,q1,q2,q3,q4⟩:=hs.obj b _ h8;exact fin c el cc fr q1 ⟨[],by rw[q3];simp⟩ q4 q0 h9
     |mM c es el=>
      obtain⟨q0,q00,cc,fr,q1,q2,q3,q4,q5⟩:=hs.obj b _ h8;exact fin c el cc fr q1 q4 q5 q0 h9
     |_=>cases h9
   |_=>cases h5
 |_=>cases h
omit[Gh] hT in
theorem aDk{o:Oper}{f:Operand}{args:Array Operand}{ts:Array TypeId}(ho:o.op=.call ⟨.value f,args,ts⟩){xs:List AV}{l:Nat}{r:Loop}
 (hF:a.eval f=.func (.yield l) #[] #[]) (hx:args.map a.eval=(xs.map (den ρ)).toArray) (hl:w.heap[l]? =some (.loop r)) (hn:(xs.map (den ρ)).toArray.size=r.params.size):
 (execOp a.eval o).run P w=.ok (.round l r.fn ((r.params.zip (xs.map (den ρ)).toArray).foldl (fun t (p,v)=>t.setIfInBounds p v) r.tmps) r.assign r.body) w:=by
 obtain⟨dst,op,ty,pos,af,gg⟩:=o;subst ho;simp only[execOp,resolve,aDt,hF,Deferred.ofValue,aD0,aBF,invoke,hx];simpa using run_yield (P:=P) (w:=w) hl hn
omit[Gh]in
theorem aDl{o:Oper}{f:Operand}{args:Array Operand}{ts:Array TypeId}(ho:o.op=.call ⟨.value f,args,ts⟩){F:AV}{xs:List AV}{g:FuncId}{fi ca:Array Value}{xs':List AV}
 (hF:a.eval f=den ρ F) (hx:args.map a.eval=(xs.map (den ρ)).toArray) (hd:den ρ F=.func (.func g) fi ca) (he:(fi++(xs.map (den ρ)).toArray)++ca=(xs'.map (den ρ)).toArray):
 (execOp a.eval o).run P w=(callFunc g (xs'.map (den ρ)).toArray).run P w:=by
 obtain⟨dst,op,ty,pos,af,gg⟩:=o;subst ho;simp only[execOp,resolve,aDt,hF,hd,Deferred.ofValue,aD0,aBF,invoke,hx,he]
omit hT in
theorem NM{call:fD}{r:AV}{name:String}{xs:List AV}(h:QB tb call cx r name xs s=some (.ok v s'))(ρ:Env){n:Nat}(hr:Sc n r):
 ∃t x f fn,den ρ r=.iface t (den ρ x)/\tb.met t name=some f/\tb.fn.get f=some fn/\Nat.ble (f+1) yF=true/\GZ tb call cx f (x::xs) s=some (.ok v s')/\Sc n x:=by
 have key: ∀t x,ob (tb.met t name) (fun f=>ob (tb.fn.get f) (fun _=>gd (Nat.ble (f+1) yF) (GZ tb call cx f (x::xs) s)))=some (.ok v s')->
  ∃f fn,tb.met t name=some f/\tb.fn.get f=some fn/\Nat.ble (f+1) yF=true/\GZ tb call cx f (x::xs) s=some (.ok v s'):=by
  intro t x h;obtain⟨f,h1,h2⟩:=aA.1 h;obtain⟨fn,h3,h4⟩:=aA.1 h2;obtain⟨h5,h6⟩:=aF.1 h4;exact⟨f,fn,h1,h3,h5,h6⟩
 unfold QB aN0 at h;split at h
 . rename_i t x;obtain⟨f,fn,h1,h2,h3,h4⟩:=key _ _ h;exact⟨t,x,f,fn,by simp only[den],h1,h2,h3,h4,hr⟩
 . rename_i t u;obtain⟨f,fn,h1,h2,h3,h4⟩:=key _ _ h;exact⟨t,.v u,f,fn,by simp only[den],h1,h2,h3,h4,trivial⟩
 cases h
omit[Gh] hT in
theorem wM{t:TypeId}{u:Value}{name:String}{f:FuncId}{l:Array Value}(hm:(method (P.types.size+Made.depth) t u name).run P w=.ok (f,u) w):
 (callMethod (.iface t u) name l).run P w=(callFunc f (#[u]++l)).run P w:=by
 have hp:(program:Sem Program).run P w=.ok P w:=rfl;unfold callMethod;simp only[aDt,hp,aBF,hm]
omit[Gh] hT in
theorem YI(x:Value)(l:Array Value):(#[x]++l).extract 1 (#[x]++l).size=l:=by
 apply aPm;simp
omit[Gh] hT in
theorem aDm{o:Oper}{r:Operand}{name:String}{args:Array Operand}{ts:Array TypeId}(ho:o.op=.call ⟨.invoke r name,args,ts⟩){t:TypeId}{u:Value}{f:FuncId}{l:Array Value}
 (hr:a.eval r=.iface t u) (hx:args.map a.eval=l) (hm:(method (P.types.size+Made.depth) t u name).run P w=.ok (f,u) w):
 (execOp a.eval o).run P w=(callFunc f (#[u]++l)).run P w:=by
 obtain⟨dst,op,ty,pos,af,gg⟩:=o;subst ho;have h0:(#[Value.iface t u]++l)[0]? =some (.iface t u):=by rw[<-aEt,aPc];rfl
 simp only[execOp,resolve,aDt,hr,hx,aD0,aBF,invoke,h0,YI];exact wM hm
omit[Gh] hT in
theorem aAr{o:Oper}{r:Operand}{name:String}{args:Array Operand}{ts:Array TypeId}(ho:o.op=.call ⟨.value r,args,ts⟩){t U:TypeId}{u:Value}{f:FuncId}{l:Array Value}{ca:Array Value}
 (hr:a.eval r=.func (.methodOf U name) #[] ca) (hU: ∃d,P.underlying U=some (.interface d)) (hx:args.map a.eval= #[.iface t u]++l) (hm:(method (P.types.size+Made.depth) t u name).run P w=.ok (f,u) w):
 (execOp a.eval o).run P w=(callFunc f (#[u]++l)).run P w:=by
 obtain⟨dst,op,ty,pos,af,gg⟩:=o;subst ho;obtain⟨d,hU⟩:=hU;have h0:(#[Value.iface t u]++l)[0]? =some (.iface t u):=by rw[<-aEt,aPc];rfl
 simp only[execOp,resolve,aDt,hr,hx,Deferred.ofValue,aD0,aBF,invoke,aXO,h0,aEG hU,YI];exact wM hm
theorem Y1(hc:lJ tb w0 call)(hg:cx.g=tb.g)(hs:aZ w0 ρ cx s w){f:FuncId}{xs:List AV}(hx:jM s.n xs)(h:GZ tb call cx f xs s=some (.ok v s'))(hs':aZ w0 ρ ⟨tb.g,tb.l,cx.fl,cx.hid⟩ s w)(hy:Nat.ble yF f=false):
 Calls tb.p f (xs.map (den ρ)).toArray w fun e w'=> ∃ ρ',e=.returned (den ρ' v)/\Stp w0 ρ ρ' ⟨tb.g,tb.l,cx.fl,cx.hid⟩ s s' w w'/\Sc s'.n v:=by
 unfold GZ at h;cases aA0:tb.orc f xs with
 |none=>
  rw[aA0]at h;obtain⟨p,h1,h2⟩:=aA.1 h;cases h2;exact(hc _ cx.fl cx.hid f xs s p.1 p.2 h1 ρ w hs' hx).1 hy
 | some u=>
  rw[aA0]at h;obtain⟨rfl,rfl⟩:=aP h;obtain⟨o1,o2,o3⟩:=hT.orc f xs _ aA0;refine(o3 ρ w (fun g hg'=>by rw[<-hg];exact(hs.gl g (by rw[hg];exact hg')).2.2) hs.below).mono ?_;rintro e w' ⟨rfl,hb⟩;exact⟨ρ,rfl,hs'.world hb,o1 _ _ (fun g hg'=>by
   have hg':g<cx.g.n:=by rw[hg];exact hg'
   have:=hs.gn;have:=hs.ln;have:=hs.FC;exact⟨by omega,hs.YA g hg'⟩)⟩
theorem WR (hc:lJ tb w0 call) {o:Oper} (h:opv tb o.op call cx t s=some (.ok v s')) (hg:cx.g=tb.g) (hl:cx.l=tb.l) (hs:aZ w0 ρ cx s w) (hv:kM tb ρ s.n a t o.op)
 {next:Act->World->Prop} {Q:Exit->Act->World->Prop} {r:Option Nat} {nn:Nat} (hn: ∀ ρ' w',Stp w0 ρ ρ' cx s s' w w'->Sc s'.n v->next (a.put o.dst (den ρ' v)) w'):o.wpIn (FF r) nn tb.p a w next Q:=by
 obtain⟨dst,op,ty,pos,af,gg⟩:=o;dsimp only at h hv hn;have lift:(∀c,op≠ .defer c)->Oper.wp tb.p ⟨dst,op,ty,pos,af,gg⟩ a w next Q->Oper.wpIn (FF r) nn tb.p ⟨dst,op,ty,pos,af,gg⟩ a w next Q:=fun h1 h2=>IW (.inr h1) h2
 cases op with
 |move x=>exact lift (fun c h=>by cases h) (bG (aJX (call:=call) h hs hv) hn)
 |assign x=>exact lift (fun c h=>by cases h) (bG (aDF (call:=call) h hs hv) hn)
 |pick x y z=>exact lift (fun c h=>by cases h) (bG (aJV (call:=call) h hs hv) hn)
 |alloc e=>exact lift (fun c h=>by cases h) (bG (aF2 (call:=call) (t:=t) hT.ty h hs) hn)
 |box e x=>exact lift (fun c h=>by cases h) (bG (aNv (call:=call) hT.ty h hs hv) hn)
 |build e ps=>exact lift (fun c h=>by cases h) (bG (aF0 (call:=call) hT.ty h hs hv) hn)
 |buildSlice e n ps=>exact lift (fun c h=>by cases h) (bG (OG (call:=call) hT.ty h hs hv) hn)
 |load e x=>exact lift (fun c h=>by cases h) (bG (aJY (call:=call) hT.ty h hs hv) hn)
 |store e x y=>exact lift (fun c h=>by cases h) (bG (aFU (call:=call) hT.ty h hs hv) hn)
 |nilCheck x=>exact lift (fun c h=>by cases h) (bG (WS (call:=call) h hs hv) hn)
 |binOp b xt x y yt=>exact lift (fun c h=>by cases h) (bG (aF1 (call:=call) hT.ty h hs hv hT.BD (fun g hg'=>by rw[<-hg];exact(hs.gl g (by rw[hg];exact hg')).2.2)) hn)
 |unOp b xt x=>exact lift (fun c h=>by cases h) (bG (aJU (call:=call) h hs hv) hn)
 |convert a b x=>exact lift (fun c h=>by cases h) (bG (aAF (call:=call) hT.ty h hs hv) hn)
 |makeInterface e x=>exact lift (fun c h=>by cases h) (bG (EU (call:=call) hT.ty h hs hv) hn)
 |makeFunc f x y=>exact lift (fun c h=>by cases h) (bG (WT (call:=call) h hs hv) hn)
 |makeSlice e x y=>exact lift (fun c h=>by cases h) (bG (RN (call:=call) hT.ty h hs hv) hn)
 |slice e x lo hi mx=>exact lift (fun c h=>by cases h) (bG (aFV (call:=call) hT.ty h hs hv) hn)
 |fieldAddr e x f=>exact lift (fun c h=>by cases h) (bG (RQ (call:=call) hT.ty h hs hv) hn)
 |field e x f=>exact lift (fun c h=>by cases h) (bG (aFZ (call:=call) hT.ty h hs hv) hn)
 |indexAddr e x y=>exact lift (fun c h=>by cases h) (bG (RP (call:=call) hT.ty h hs hv) hn)
 |index e x y=>exact lift (fun c h=>by cases h) (bG (aFX (call:=call) hT.ty h hs hv) hn)
 |range e x=>exact lift (fun c h=>by cases h) (bG (aFW (call:=call) hT.ty h hs hv) hn)
 |next x b=>exact lift (fun c h=>by cases h) (bG (aJW (call:=call) hT.ty h hs hv) hn)
 |makeMap mt r=>exact lift (fun c h=>by cases h) (bG (aAD (call:=call) (t:=t) h hs) hn)
 |lookup xt x i ok=>exact lift (fun c h=>by cases h) (bG (aDD (call:=call) hT.ty h hs hv) hn)
 |insert mt m k v=>exact lift (fun c h=>by cases h) (bG (aDE (call:=call) hT.ty h hs hv) hn)
 |mapUpdate mt m k v=>exact lift (fun c h=>by cases h) (bG (RJ (call:=call) hT.ty h hs hv) hn)
 |extract x n=>exact lift (fun c h=>by cases h) (bG (aAE (call:=call) h hs hv) hn)
 | call c=>
  obtain⟨callee,args,ts⟩:=c;obtain⟨xs,h1,h2⟩:=aA.1 h;cases callee with
  |builtin b=>exact lift (fun c h=>by cases h) (bG (aR4 hT hg rfl h1 h2 hs hv) hn)
  |invoke rr m=>
   obtain⟨R,h3,h4⟩:=aA.1 h2;obtain⟨f1,f2⟩:=hv rr (by simp[Op.operands,Call.operands]) R h3;obtain⟨e1,e2⟩:=nR h1 hv (fun x hx=>by simp[Op.operands,Call.operands];exact .inr (by simpa using hx));have e3:args.map a.eval=(xs.map (den ρ)).toArray:=by apply aPm;rw[aPl,e1]
   have hcx:cx=⟨tb.g,tb.l,cx.fl,cx.hid⟩:=by cases cx;simp at hg hl;simp[hg,hl]
   have hs':aZ w0 ρ ⟨tb.g,tb.l,cx.fl,cx.hid⟩ s w:=hcx ▸ hs;refine lift (fun c h=>by cases h) ?_;obtain⟨ti,x,fi,fn,i1,i2,i3,i4,i5,i6⟩:=NM h4 ρ f1;have hrun:=aDm (P:=tb.p) (w:=w) (o:=⟨dst,.call ⟨.invoke rr m,args,ts⟩,ty,pos,af,gg⟩) rfl (f2.trans i1) e3 (hT.met _ _ _ i2 _ w);unfold Oper.wp;rw[hrun,(hT.fn fi fn i3).2,show(#[den ρ x]++(xs.map (den ρ)).toArray)=((x::xs).map (den ρ)).toArray by simp];refine(Y1 hT hc hg hs (show jM s.n (x::xs)from⟨i6,e2⟩) i5 (hcx ▸ hs') (by rw[aK]at i4;rw[aNt];intro h;rw[aK]at h;omega)).mono ?_;rintro e w' ⟨ρ',rfl,k1,k2⟩;exact hn ρ' w' (hcx ▸ k1) k2
  | value f=>
   obtain⟨F,h3,h4⟩:=aA.1 h2;obtain⟨f1,f2⟩:=hv f (by simp[Op.operands,Call.operands]) F h3;obtain⟨e1,e2⟩:=nR h1 hv (fun x hx=>by simp[Op.operands,Call.operands];exact .inr (by simpa using hx));have e3:args.map a.eval=(xs.map (den ρ)).toArray:=by apply aPm;rw[aPl,e1]
   have hcx:cx=⟨tb.g,tb.l,cx.fl,cx.hid⟩:=by cases cx;simp at hg hl;simp[hg,hl]
   have hs':aZ w0 ρ ⟨tb.g,tb.l,cx.fl,cx.hid⟩ s w:=hcx ▸ hs;rcases cO h4 with h4|h4
   case inr=>
    refine lift (fun c h=>by cases h) ?_;unfold UJ at h4;split at h4
    case h_2=>cases h4
    rename_i u nm fa fc r0 l _;obtain⟨j1,j2⟩:=aF.1 h4;obtain⟨j3,j4⟩:=aF.1 j2;have f3:fa= #[]:=aSu (beq_iff.1 j3);subst f3;obtain⟨ti,x,fi,fn,i1,i2,i3,i4,i5,i6⟩:=NM j4 ρ e2.1;have hU: ∃d,tb.p.underlying u=some (.interface d):=by
     unfold isIf at j1;split at j1
     . exact⟨_,by assumption⟩
     cases j1
    have hrun:=aAr (P:=tb.p) (w:=w) (o:=⟨dst,.call ⟨.value f,args,ts⟩,ty,pos,af,gg⟩) (t:=ti) (u:=den ρ x) (l:=(l.map (den ρ)).toArray) rfl f2 hU (by rw[e3];apply aPm;simp[i1]) (hT.met _ _ _ i2 _ w);unfold Oper.wp;rw[hrun,(hT.fn fi fn i3).2,show(#[den ρ x]++(l.map (den ρ)).toArray)=((x::l).map (den ρ)).toArray by simp];refine(Y1 hT hc hg hs (show jM s.n (x::l)from⟨i6,e2.2⟩) i5 hs' (by rw[aK]at i4;rw[aNt];intro h;rw[aK]at h;omega)).mono ?_;rintro e w' ⟨ρ',rfl,k1,k2⟩;exact hn ρ' w' (hcx ▸ k1) k2
   rcases cO h4 with h4|h4
   case inr=>
    obtain⟨l,b,o,fa,fc,rfl,h5⟩:=YG h4;obtain⟨p,h9,h10⟩:=aA.1 h5;cases h10;obtain⟨_,k1⟩:=hc _ cx.fl cx.hid (yF+b) xs s p.1 p.2 h9 ρ w hs' e2;obtain⟨rc,k2,k3,k4⟩:=k1 (by rw[Nat.ble_eq];omega) (by rw[aUY];exact f1.1.1);rw[aUY]at k2 k4;have hd:den ρ (.fn (.yield l) (.ptr b o::fa) fc)=.func (.yield (ρ.blk b)) #[] #[]:=rfl;rw[hd]at f2;have hrun:=aDk (P:=tb.p) (w:=w) (o:=⟨dst,.call ⟨.value f,args,ts⟩,ty,pos,af,gg⟩) rfl f2 e3 k2 (by simpa using k3);refine⟨fun _ _=>trivial,?_⟩;rw[aYq _ _ _ (fun c h=>by cases h),hrun];refine⟨xI,RoundIn.mono (k4 (nn - 1)) ?_⟩;rintro e w' ⟨ρ',rfl,q1,q2⟩;exact hn ρ' w' (hcx ▸ q1) q2
   refine lift (fun c h=>by cases h) ?_;obtain⟨g,fi,ca,xs',h5,h6,h7,h8⟩:=DJ h4 ρ f1 e2;have hrun:=aDl (P:=tb.p) (w:=w) (o:=⟨dst,.call ⟨.value f,args,ts⟩,ty,pos,af,gg⟩) hT rfl f2 e3 h6 h7;cases aA0:tb.orc g xs' with
   | some u=>
    rw[aA0]at h5;obtain⟨rfl,rfl⟩:=aP h5;obtain⟨o1,o2,o3⟩:=hT.orc g xs' _ aA0;unfold Oper.wp;rw[hrun,o2];refine(o3 ρ w (fun g hg'=>by rw[<-hg];exact(hs.gl g (by rw[hg];exact hg')).2.2) hs.below).mono ?_;rintro e w' ⟨rfl,hb⟩;exact hn ρ w' (hs.world hb) (o1 _ _ (fun g hg'=>by
     have hg':g<cx.g.n:=by rw[hg];exact hg'
     have:=hs.gn;have:=hs.ln;have:=hs.FC;exact⟨by omega,hs.YA g hg'⟩))
   | none=>
    rw[aA0]at h5;cases hfn:tb.fn.get g with
    | none=>
     rw[hfn]at h5;rcases cO h5 with h5|h5
     case inr=>
      rcases cO h5 with h5|h5
      . obtain⟨i1,i2⟩:=aF.1 h5;obtain⟨z,rfl,i3⟩:=tC i2;obtain⟨rfl,rfl⟩:=aP i3;exact bG (gG.pure hs (by rw[hrun];exact hT.idn g i1 _ w) h8.1) hn
      obtain⟨e,i1,i2⟩:=aA.1 h5;obtain⟨z,rfl,i3⟩:=tC i2;obtain⟨q,m,rfl,i4⟩:=fH i3;obtain⟨i5,i6⟩:=aF.1 i4;rw[mX]at i5;subst i5;cases m with
      |negSucc m=>cases i6
      |ofNat m=>
       obtain⟨i7,i8⟩:=aF.1 i6;obtain⟨rfl,rfl⟩:=aP i8;obtain⟨cs,i9,i10⟩:=hT.mnz g e i1 m w (aK.1 i7);have j1:=hs.world (w₁:=w.drew.drew) (((aDA _ _).drew).drew);have j2:=j1.sat.alloc (.cells cs e) (.mM [] 1 e) cs.size ⟨Env.gY _ _ _ _,by omega,cs,(0,0),by rw[Env.dG];exact aUc,fun i _ h=>by omega,by rw[Env.oL,aWS],⟨cs.toList,by simp⟩,trivial⟩;refine bG (v:=.y8 s.n 0 m 0) ⟨_,_,.inl ?_,j1.trans j2,⟨aLq _,hs.good _ (aC4 _)⟩⟩ hn;rw[hrun];have i9:(callFunc g #[.int .i64 (Int.ofNat m)]).run tb.p w=_:=i9;simp only[aOZ,aYB,den,i9,Env.dG,Env.gY,Env.oL,aN6,aUr]
       rfl
     obtain⟨vs,h9,h10⟩:=aA.1 h5;obtain⟨u,h11,rfl,rfl⟩:=qF h10;rw[<-VI h9 ρ]at h11;exact bG (gG.pure (v:=.v u) hs (by rw[hrun];exact oN (LD h11) w) trivial) hn
    |some fn=>
     rw[hfn]at h5;obtain⟨hlt,h5⟩:=aF.1 h5;obtain⟨p,h9,h10⟩:=aA.1 h5;cases h10;unfold Oper.wp;rw[hrun,(hT.fn g fn hfn).2];refine((hc _ cx.fl cx.hid g xs' s p.1 p.2 h9 ρ w hs' h8).1 (by rw[aK]at hlt;rw[aNt];intro h;rw[aK]at h;omega)).mono ?_;rintro e w' ⟨ρ',rfl,k1,k2⟩;exact hn ρ' w' (hcx ▸ k1) k2
 | defer c=>
  obtain⟨callee,args,ts⟩:=c;obtain⟨xs,h1,h2⟩:=aA.1 h;cases callee with
  |builtin b=>cases h2
  |invoke r m=>cases h2
  |value f=>
   obtain⟨F,h3,h4⟩:=aA.1 h2;obtain⟨f1,f2⟩:=hv f (by simp[Op.operands,Call.operands]) F h3;obtain⟨e1,e2⟩:=nR h1 hv (fun x hx=>by simp[Op.operands,Call.operands];exact .inr (by simpa using hx));obtain⟨g,fi,ca,xs',h5,_⟩:=DJ h4 ρ f1 e2;cases(aF.1 h5).2
 |_=>cases h
theorem LC{o:Oper}{f:FuncId}{xs:List AV}(hi:aSA o=true)(h:opv tb o.op call cx t s=some (.dfr f xs))(hs:aZ w0 ρ cx s w)(hv:kM tb ρ s.n a t o.op)
 {next:Act->World->Prop} {Q:Exit->Act->World->Prop} (hn: ∀d,ZP ρ s.n (f,xs) d->next ({ a with defers:=d::a.defers }.put o.dst undef) w):o.wp tb.p a w next Q:=by
 obtain⟨dst,op,ty,pos,af,gg⟩:=o;dsimp only at h hv hn;cases op with
 | defer c=>
  obtain⟨callee,args,ts⟩:=c;obtain⟨ys,h1,h2⟩:=aA.1 h;cases callee with
  |builtin b=>cases h2
  |invoke r m=>cases h2
  | value fo=>
   obtain⟨F,h3,h4⟩:=aA.1 h2;obtain⟨f1,f2⟩:=hv fo (by simp[Op.operands,Call.operands]) F h3;obtain⟨e1,e2⟩:=nR h1 hv (fun x hx=>by simp[Op.operands,Call.operands];exact .inr (by simpa using hx));have e3:args.map a.eval=(ys.map (den ρ)).toArray:=by apply aPm;rw[aPl,e1]
   obtain⟨g,fi,ca,xs',h5,h6,h7,h8⟩:=DJ h4 ρ f1 e2;obtain⟨hlt,h5⟩:=aF.1 h5;cases h5;unfold Oper.wp;have hr:(execOp a.eval ⟨dst,.defer ⟨.value fo,args,ts⟩,ty,pos,af,gg⟩).run tb.p w=.ok (.defer ⟨.fn (.func f) ca,fi++(ys.map (den ρ)).toArray⟩) w:=by
    simp only[execOp,resolve,aDt,f2,h6,Deferred.ofValue,aD0,aBF,e3]
   rw[hr];exact hn _ ⟨h8,.inl ⟨by rw[aK]at hlt;rw[aNt];intro h;rw[beq_iff]at h;unfold yF at hlt;unfold OZ at h;omega,ca,_,rfl,h7⟩⟩
 |_=>cases hi
end
end
section
open Go.RowKit
variable[Gh]
structure l9(N:Nat)(ρ:Env)(n:Nat)(a:Act)(t:TE):Prop where
 size:a.tmps.size=N
 val: ∀i v,rC t i=some v->Sc n v/\i<N/\a.tmps[i]? =some (den ρ v)
def kG(ρ:Env)(n:Nat):DL->List Deferred->Prop
 |[],[]=>True
 |x::l,d::ds=>ZP ρ n x d/\kG ρ n l ds
 |_,_=>False
section
variable{tb:Tab}{w0:World}{ρ ρ':Env}{cx:Cx}{s s':Hs}{w:World}{a:Act}{t t':TE}{call:fD}{v:AV}{N n m:Nat}
theorem DW(h:Ext n ρ ρ'){l:List AV}(hl:jM n l):l.map (den ρ')=l.map (den ρ):=by
 rw[<-fK,<-fK];exact lN h l hl
theorem ZP.ext(h:Ext n ρ ρ')(hm:n<=m){x:FuncId × List AV}{d:Deferred}(hd:ZP ρ n x d):ZP ρ' m x d:=by
 obtain⟨h1,⟨h0,cap,args,h2,h3⟩|⟨h0,b,h2,h3⟩⟩:=hd
 . exact⟨jM.mono hm _ h1,.inl ⟨h0,cap,args,h2,by rw[DW h h1];exact h3⟩⟩
 refine⟨jM.mono hm _ h1,.inr ⟨h0,b,h2,?_⟩⟩;rw[h2]at h1;rw[(h b h1.1.1).1];exact h3
theorem kG.ext(h:Ext n ρ ρ')(hm:n<=m): ∀ {dl:DL} {ds:List Deferred},kG ρ n dl ds->kG ρ' m dl ds
 |[],[],_=>trivial
 |_::_,_::_,hd=>⟨hd.1.ext h hm,kG.ext h hm hd.2⟩
 |[],_::_,hd=>hd.elim
 |_::_,[],hd=>hd.elim
theorem l9.ext(h:Ext n ρ ρ')(hm:n<=m)(ht:l9 N ρ n a t):l9 N ρ' m a t:=
 ⟨ht.size,fun i v hv=>by
  obtain⟨h1,h2,h3⟩:=ht.val i v hv;exact⟨Sc.mono hm _ h1,h2,by rw[oJ h _ h1];exact h3⟩⟩
omit[Gh]in
theorem KU{d:Option Tmp}(h:put N t d v=some t'):(d=none/\t'=t)\/ ∃k,d=some k/\k<N/\t'=VP t k v:=by
 cases d with
 |none=>cases h;exact .inl ⟨rfl,rfl⟩
 |some k=>
  obtain⟨h1,h2⟩:=aF.1 h;cases h2;exact .inr ⟨k,rfl,aK.1 h1,rfl⟩
theorem l9.put(ht:l9 N ρ n a t){d:Option Tmp}(h:put N t d v=some t')(hv:Sc n v):l9 N ρ n (a.put d (den ρ v)) t':=by
 rcases KU h with⟨rfl,rfl⟩|⟨k,rfl,hk,rfl⟩
 . exact ht
 refine⟨by simp[Act.put,ht.size],fun i u hu=>?_⟩;by_cases e:k=i
 . subst e;rw[DF]at hu;cases hu;exact⟨hv,hk,by simp[Act.put,aUA,ht.size,hk]⟩
 rw[rP _ _ e]at hu;obtain⟨h1,h2,h3⟩:=ht.val i u hu;exact⟨h1,h2,by simp only[Act.put];rw[aJN e];exact h3⟩
omit[Gh]in
theorem put_defers(a:Act)(d:Option Tmp)(v:Value):(a.put d v).defers=a.defers:=by cases d<;>rfl
theorem aZ.lv(hs:aZ w0 ρ cx s w)(hg:cx.g=tb.g):Lv tb ρ:=fun g hg'=>by rw[<-hg];exact(hs.gl g (by rw[hg];exact hg')).2.2
theorem l9.vals(hF:EI tb)(ht:l9 N ρ s.n a t)(hs:aZ w0 ρ cx s w)(hg:cx.g=tb.g)(o:Op):kM tb ρ s.n a t o:=by
 intro x _ v hv;cases x with
 |tmp i=>
  obtain⟨u,hu,hv⟩:=aA.1 hv;cases hv;obtain⟨h1,h2,h3⟩:=ht.val i u hu;exact⟨aL1 h1,by rw[aCf hF (hs.lv hg)];simp[Act.eval,h3]⟩
 |const u=>cases hv;exact⟨trivial,rfl⟩
 |global g=>
  obtain⟨h1,h2⟩:=aF.1 hv;cases h2;have h3:g<cx.g.n:=by rw[hg];have:=aK.1 h1;omega
  obtain⟨h4,h5,_⟩:=hs.gl g h3;refine⟨?_,?_⟩
  . show Gd s.n g;refine⟨?_,hs.YA g h3⟩;have:=hs.gn;have:=hs.ln;have:=hs.FC;omega
  simp[Act.eval,den,h4,h5]
 |func f=>cases hv;exact⟨trivial,rfl⟩
omit[Gh]in
theorem P6{want:Bool}{x:Value}{b:Bool}(h:aSX want x=some b):((match some x with|some (.bool b)=>some b|_=>none)==some want)=b:=by
 cases x with
 |bool c=>cases h;cases want<;>cases c<;>rfl
 |_=>cases h;rfl
theorem ZX{all:List Oper}{ops:Array Oper}{o:Oper}{b:Bool}(hF:EI tb)(hρ:Lv tb ρ)(hall:all=ops.toList)(h:JU tb all t o=some b)(ht:l9 N ρ n a t):Region.wanted o (yielded ops a.tmps)=b:=by
 subst hall;unfold JU at h;unfold Region.wanted;cases hg:o.guard with
 |none=>rw[hg]at h;cases h;rfl
 |some p=>
  rw[hg]at h;obtain⟨j,want⟩:=p;obtain⟨g,h1,h2⟩:=aA.1 h;obtain⟨d,h3,h4⟩:=aA.1 h2;obtain⟨x,h5,h6⟩:=aA.1 h4;obtain⟨u,hu,h7⟩:=iI h6;obtain⟨_,_,h8⟩:=ht.val d _ h5;rw[<-aCf hF hρ,hu]at h8;rw[pO,aEt]at h1;have:=P6 h7;simp only[yielded,h1,h3,aPi,h8,den];cases u<;>exact this
variable(hT:jY tb w0)
include hT
theorem QZ(hc:lJ tb w0 call)(hg:cx.g=tb.g)(hl:cx.l=tb.l){ops:Array Oper}{Q:Exit->Act->World->Prop}{st:St}{rd r:Option Nat}{nn:Nat}(hrd:rd=none->r=none)(l:List Oper):
 ∀(t:TE) (s:Hs) (dl:DL),aAl tb call cx N rd ops.toList l t s dl=some st-> ∀(ρ:Env) (w:World) (a:Act),aZ w0 ρ cx s w->l9 N ρ s.n a t->kG ρ s.n dl a.defers->
 (∀ ρ' w' a',Stp w0 ρ ρ' cx s st.s w w'->l9 N ρ' st.s.n a' st.t->kG ρ' st.s.n st.d a'.defers->Q .normal a' w')->wpListIn (FF r) nn tb.p ops Q l a w:=by
 induction l with
 |nil=>
  intro t s dl h ρ w a hs ht hd hq;cases h;exact hq ρ w a (Stp.refl hs) ht hd
 | cons o l ih=>
  intro t s dl h ρ w a hs ht hd hq;obtain⟨b,h1,h2⟩:=aA.1 h;have hw:=ZX hT.BD (hs.lv hg) rfl h1 ht;unfold wpListIn;rw[hw];cases b with
  |false=>
   obtain⟨t1,h3,h4⟩:=aA.1 h2;exact⟨fun _ _=>trivial,ih t1 s dl h4 ρ w _ hs (ht.put (v:=und) h3 trivial) (by rw[put_defers];exact hd) hq⟩
  | true=>
   obtain⟨r3,h3,h4⟩:=aA.1 h2;show Oper.wpIn _ _ _ _ _ _ _ _;cases r3 with
   |ok v s1=>
    obtain⟨t1,h5,h6⟩:=aA.1 h4;refine WR hT hc h3 hg hl hs (ht.vals hT.BD hs hg _) fun ρ1 w1 hst hv=>?_;refine ih t1 s1 dl h6 ρ1 w1 _ hst.sat ((ht.ext hst.ext hst.n).put h5 hv) (by rw[put_defers];exact hd.ext hst.ext hst.n) fun ρ2 w2 a2 hst2 ht2 hd2=>?_;exact hq ρ2 w2 a2 (hst.trans hst2) ht2 hd2
   |dfr f xs=>
    obtain⟨hn,h4⟩:=aF.1 h4;obtain⟨hi,hn⟩:=aU hn;obtain⟨t1,h5,h6⟩:=aA.1 h4;have hr:r=none:=hrd (by cases rd with|none=>rfl|some b=>cases hn);refine IW (.inl hr) (LC hT hi h3 hs (ht.vals hT.BD hs hg _) fun d hdk=>?_);refine ih t1 s _ h6 ρ w _ hs ?_ (by rw[put_defers];exact⟨hdk,hd⟩) hq;exact l9.put (a:={ a with defers:=d::a.defers }) (v:=und) ⟨ht.size,ht.val⟩ h5 trivial
theorem IC(hc:lJ tb w0 call)(hg:cx.g=tb.g)(hl:cx.l=tb.l){id:Nat}{ops:Array Oper}{Q:Exit->Act->World->Prop}{st st':St}{rd r:Option Nat}{nn:Nat}(hrd:rd=none->r=none)
 (h:region tb call cx N rd ops false st=some st') (hs:aZ w0 ρ cx st.s w) (ht:l9 N ρ st.s.n a st.t) (hd:kG ρ st.s.n st.d a.defers)
 (hq: ∀ ρ' w' a',Stp w0 ρ ρ' cx st.s st'.s w w'->l9 N ρ' st'.s.n a' st'.t->kG ρ' st'.s.n st'.d a'.defers->Q .normal a' w'):(Code.region id ops false).wpIn (FF r) nn tb.p Q a w:=
 wpIn_region_list (QZ hT hc hg hl hrd _ _ _ _ h ρ w a hs ht hd hq)
end
end
section
open Go.RowKit
def Fq(fl:Nat)(hid:aYJ)(s s':Hs):Prop:=
 s.n<=s'.n/\(∀b,b<s.n->(b<fl\/hidden hid b=true)->s'.h.get b=s.h.get b)/\(∀b o,s'.n<=b->s'.h.get b=some o-> ∃o',s.h.get b=some o')
theorem Fq.refl(fl:Nat)(hid:aYJ)(s:Hs):Fq fl hid s s:=⟨aC4 _,fun _ _ _=>rfl,fun _ o _ h=>⟨o,h⟩⟩
theorem Fq.trans{fl:Nat}{hid:aYJ}{s s1 s2:Hs}(h:Fq fl hid s s1)(h':Fq fl hid s1 s2):Fq fl hid s s2:=
 ⟨aKM h.1 h'.1,fun b hb hc=>by rw[h'.2.1 b (aG0 hb h.1) hc,h.2.1 b hb hc],fun b o hb ho=>by
  obtain⟨o1,h1⟩:=h'.2.2 b o hb ho;exact h.2.2 b o1 (aKM h'.1 hb) h1⟩
theorem Fq.mono{fl fl':Nat}{hid aSJ:aYJ}{s s':Hs}(h:Fq fl' aSJ s s')(hm: ∀b,b<s.n->(b<fl\/hidden hid b=true)->b<fl'\/hidden aSJ b=true):Fq fl hid s s':=
 ⟨h.1,fun b hb hc=>h.2.1 b hb (hm b hb hc),h.2.2⟩
theorem Fq.new(fl:Nat)(hid:aYJ)(s:Hs)(o:HO):Fq fl hid s ⟨s.h.set s.n o,s.n+1⟩:=
 ⟨aPj _,fun b hb _=>Tr.gU _ _ (by omega),fun b x hb hx=>by
  have hb:s.n+1<=b:=hb;have hx:(s.h.set s.n o).get b=some x:=hx;rw[Tr.gU _ _ (by omega)]at hx;exact⟨x,hx⟩⟩
theorem Fq.put{fl:Nat}{hid:aYJ}{s:Hs}{b:Nat}{o:HO}(o':HO)(hb:s.look hid b=some o)(hf:fl<=b):Fq fl hid s ⟨s.h.set b o',s.n⟩:=by
 obtain⟨h1,h2⟩:=Hs.dF.1 hb;refine⟨aC4 _,fun c hc hor=>Tr.gU _ _ (fun e=>?_),fun c x hc hx=>?_⟩
 . subst e;rcases hor with h|h
   . omega
   rw[h1]at h;cases h
 by_cases e:b=c
 . subst e;exact⟨o,h2⟩
 have hx:(s.h.set b o').get c=some x:=hx;rw[Tr.gU _ _ e]at hx;exact⟨x,hx⟩
theorem Fq.move{fl:Nat}{hid:aYJ}{s:Hs}{b:Nat}{o:HO}(o':HO)(hb:s.look hid b=some o)(hf:fl<=b):Fq fl hid s ⟨(s.h.del b).set s.n o',s.n+1⟩:=by
 obtain⟨h1,h2⟩:=Hs.dF.1 hb;refine⟨aPj _,fun c hc hor=>?_,fun c x hc hx=>?_⟩
 . show((s.h.del b).set s.n o').get c=_;rw[Tr.gU _ _ (by omega),Tr.kQ _ (fun e=>?_)];subst e;rcases hor with h|h
   . omega
   rw[h1]at h;cases h
 have hc:s.n+1<=c:=hc;have hx:((s.h.del b).set s.n o').get c=some x:=hx;rw[Tr.gU _ _ (by omega)]at hx;by_cases e:b=c
 . subst e;exact⟨o,h2⟩
 rw[Tr.kQ _ e]at hx;exact⟨x,hx⟩
def iR(cx:Cx)(s:Hs)(r:gZ):Prop:= ∀v s',r=some (.ok v s')->Fq cx.fl cx.hid s s'
def jB(call:fD):Prop:= ∀fl hid f xs s v s',call fl hid f xs s=some (v,s')->Fq fl hid s s'
section
variable{cx:Cx}{s:Hs}
theorem aB:iR cx s none:=fun _ _ h=>by cases h
theorem eG{x:AV}:iR cx s (ret x s):=fun _ _ h=>by cases h;exact Fq.refl _ _ _
theorem lX{x:AV}{y:Hs}(h:Fq cx.fl cx.hid s y):iR cx s (ret x y):=fun _ _ e=>by cases e;exact h
theorem aQ{α:Type}{x:Option α}{k:α->gZ}(h: ∀z,iR cx s (k z)):iR cx s (ob x k):=fun f xs e=>by obtain⟨z,_,e2⟩:=aA.1 e;exact h z f xs e2
theorem xB{α:Type}{x:Option α}{k:α->gZ}(h: ∀z,x=some z->iR cx s (k z)):iR cx s (ob x k):=fun f xs e=>by obtain⟨z,e1,e2⟩:=aA.1 e;exact h z e1 f xs e2
theorem xC{b:Bool}{x:gZ}(h:b=true->iR cx s x):iR cx s (gd b x):=fun f xs e=>h (aF.1 e).1 f xs (aF.1 e).2
theorem I7{x:AV}{k:IntKind->gZ}(h: ∀q,iR cx s (k q)):iR cx s (VK x k):=fun f xs e=>by obtain⟨q,e2,_⟩:=nN e;exact h q f xs e2
theorem aKS{x:AV}{k:gZ}(h:iR cx s k):iR cx s (aDb x k):=fun f xs e=>h f xs (sQ e).1
theorem aHj{x:AV}{k:gZ}(h:iR cx s k):iR cx s (aAb x (fun p=>FX bI iC bI (fun _ _ _=>k) nI bI bI none p)):=fun f xs e=>h f xs (JX e).1
theorem dB{b:Bool}{x:gZ}(h:iR cx s x):iR cx s (gd b x):=fun f xs e=>h f xs (aF.1 e).2
theorem kZ{x:Option AV}:iR cx s (IE x s):=aQ fun _=>eG
theorem uZ{x:Option Value}:iR cx s (WB x s):=aQ fun _=>eG
theorem TP{x:AV}{k:Value->gZ}(h: ∀z,iR cx s (k z)):iR cx s (ZT x k):=fun f xs e=>by obtain⟨z,_,e2⟩:=iI e;exact h z f xs e2
theorem tX{x:AV}{k:Nat->Nat->gZ}(h: ∀y z,iR cx s (k y z)):iR cx s (pW x k):=fun f xs e=>by obtain⟨y,z,_,e2⟩:=fZ e;exact h y z f xs e2
theorem aEf{x:AV}{k:Bool->gZ}(h: ∀z,iR cx s (k z)):iR cx s (aYQ x k):=fun f xs e=>by obtain⟨z,_,e2⟩:=pF e;exact h z f xs e2
theorem DI{x:AV}{k:Nat->gZ}(h: ∀z,iR cx s (k z)):iR cx s (asNat x k):=fun f xs e=>by obtain⟨_,z,_,e2⟩:=kE e;exact h z f xs e2
theorem aCs{x:HO}{k:List AV->gZ}(h: ∀z,iR cx s (k z)):iR cx s (OD x k):=fun f xs e=>by obtain⟨z,_,e2⟩:=qE e;exact h z f xs e2
theorem TK{x:HO}{k:List AV->gZ}(h: ∀z,iR cx s (k z)):iR cx s (aFq x k):=fun f xs e=>by obtain⟨z,_,e2⟩:=xZ e;exact h z f xs e2
theorem tV{x:uG}{k:TypeId->gZ}(h: ∀z,iR cx s (k z)):iR cx s (DN x k):=fun f xs e=>by obtain⟨z,_,e2⟩:=kS e;exact h z f xs e2
theorem MI{x:uG}{k:List (Nat × Nat × Bool)->gZ}(h: ∀z,iR cx s (k z)):iR cx s (IQ x k):=fun f xs e=>by obtain⟨z,_,e2⟩:=uJ e;exact h z f xs e2
theorem aHk{x:Fn}{k:FuncId->gZ}(h: ∀z,iR cx s (k z)):iR cx s (fnF x k):=fun f xs e=>by obtain⟨z,_,e2⟩:=xH e;exact h z f xs e2
theorem TJ{α:Type}{l:List α}{k:α->α->gZ}(h: ∀y z,iR cx s (k y z)):iR cx s (two l k):=fun f xs e=>by obtain⟨y,z,_,_,e2⟩:=wG e;exact h y z f xs e2
theorem zW{fv:Value->gZ}{fp:Nat->Nat->gZ}{fs fu:Nat->Nat->Nat->Nat->gZ}{ff:Fn->List AV->List AV->gZ}{fi:TypeId->AV->gZ}{fa ft:List AV->gZ}{fm:Nat->gZ}{x:AV}
 (h1: ∀a,iR cx s (fv a)) (h2: ∀a b,iR cx s (fp a b)) (h3: ∀a b c d,iR cx s (fs a b c d)) (h4: ∀a b c d,iR cx s (fu a b c d)) (h5: ∀a b c,iR cx s (ff a b c)) (h6: ∀a b,iR cx s (fi a b)) (h7: ∀a,iR cx s (fa a)) (h8: ∀a,iR cx s (ft a)) (h9: ∀a,iR cx s (fm a)):
 iR cx s (AV.el fv fp fs fu ff fi fa ft fm x):=by
 cases x
 . exact h1 _
 . exact h2 _ _
 . exact h3 _ _ _ _
 . exact h4 _ _ _ _
 . exact h5 _ _ _
 . exact h6 _ _
 . exact h7 _
 . exact h8 _
 exact h9 _
theorem sF{fb:Bool->gZ}{fi:IntKind->Int->gZ}{fs:ByteArray->gZ}{fsl:Option Addr->Nat->Nat->gZ}{ff:Fn->Array Value->Array Value->gZ}{fa ft:Array Value->gZ}{fo:gZ}{x:Value}
 (h1: ∀a,iR cx s (fb a)) (h2: ∀a b,iR cx s (fi a b)) (h3: ∀a,iR cx s (fs a)) (h4: ∀a b c,iR cx s (fsl a b c)) (h5: ∀a b c,iR cx s (ff a b c)) (h6: ∀a,iR cx s (fa a)) (h7: ∀a,iR cx s (ft a)) (h8:iR cx s fo):iR cx s (FX fb fi fs fsl ff fa ft fo x):=by
 cases x<;>first|exact h1 _|exact h2 _ _|exact h3 _|exact h4 _ _ _|exact h5 _ _ _|exact h6 _|exact h7 _|exact h8
theorem lH{x y:gZ}(h:iR cx s x)(h':iR cx s y):iR cx s (yB x y):=fun f xs e=>by rcases cO e with e|e;exact h f xs e;exact h' f xs e
theorem I9{b:Bool}{x y:gZ}(h:iR cx s x)(h':iR cx s y):iR cx s (Bool.rec (motive:=fun _=>gZ) x y b):=by cases b;exact h;exact h'
theorem aOg{f:AV}{xs:List AV}{k:FuncId->List AV->gZ}(h: ∀y z,iR cx s (k y z)):iR cx s (fnV f xs k):=
 zW (fun _=>sF (fun _=>aB) (fun _ _=>aB) (fun _=>aB) (fun _ _ _=>aB) (fun _ _ _=>aHk fun _=>h _ _) (fun _=>aB) (fun _=>aB) aB)
  (fun _ _=>aB) (fun _ _ _ _=>aB) (fun _ _ _ _=>aB) (fun _ _ _=>aHk fun _=>h _ _) (fun _ _=>aB) (fun _=>aB) (fun _=>aB) (fun _=>aB)
theorem aOf{f:AV}{k:Nat->gZ}(h: ∀b,iR cx s (k b)):iR cx s (fnY f k):=fun v s' e=>by
 obtain⟨_,b,_,_,_,_,h2⟩:=YG e;exact h b v s' h2
theorem Fq.del{fl:Nat}{hid:aYJ}{s:Hs}{b:Nat}{o:HO}(hb:s.look hid b=some o)(hf:fl<=b):Fq fl hid s ⟨s.h.del b,s.n⟩:=by
 obtain⟨h1,h2⟩:=Hs.dF.1 hb;refine⟨aC4 _,fun c hc hor=>Tr.kQ _ (fun e=>?_),fun c x hc hx=>?_⟩
 . subst e;rcases hor with h|h
   . omega
   rw[h1]at h;cases h
 by_cases e:b=c
 . subst e;exact⟨o,h2⟩
 have hx:(s.h.del b).get c=some x:=hx;rw[Tr.kQ _ e]at hx;exact⟨x,hx⟩
theorem TM{tb:Tab}{t:TypeId}{k:TypeId->TypeId->gZ}(h: ∀y z,iR cx s (k y z)):iR cx s (aGZ tb t k):=fun f xs e=>by obtain⟨y,z,_,e2⟩:=yI e;exact h y z f xs e2
theorem MK{x:AV}{k:Nat->gZ}(h: ∀z,iR cx s (k z)):iR cx s (aCR x k):=fun f xs e=>by obtain⟨_,_,b,_,_,_,_,e2⟩:=vH e;exact h b f xs e2
theorem MJ{x:HO}{k:List AV->List AV->gZ}(h: ∀y z,iR cx s (k y z)):iR cx s (aCQ x k):=fun f xs e=>by obtain⟨y,z,_,e2⟩:=vG e;exact h y z f xs e2
theorem aA6{α:Type}{l:List α}{k:α->gZ}(h: ∀y,iR cx s (k y)):iR cx s (one l k):=fun f xs e=>by obtain⟨y,_,e2⟩:=tC e;exact h y f xs e2
theorem I8{α:Type}{l:List α}{k:α->α->gZ}(h: ∀y z,iR cx s (k y z)):iR cx s (pair l k):=fun f xs e=>by obtain⟨y,z,_,e2⟩:=yA e;exact h y z f xs e2
theorem xE{x:AV}{k:IntKind->Int->gZ}(h: ∀q n,iR cx s (k q n)):iR cx s (asInt x k):=fun f xs e=>by obtain⟨q,n,_,e2⟩:=fH e;exact h q n f xs e2
theorem TL{x:uG}{k:TypeId->gZ}(h: ∀z,iR cx s (k z)):iR cx s (aDu x k):=fun f xs e=>by obtain⟨z,_,e2⟩:=sZ e;exact h z f xs e2
theorem sH{x:AV}{o:HO}:iR cx s (ret x ⟨s.h.set s.n o,s.n+1⟩):=lX (Fq.new _ _ _ _)
theorem TN{call:fD}(hc:jB call){f:FuncId}{xs:List AV}:iR cx s (aJx (call cx.fl cx.hid f xs s)):=fun v s' e=>by
 obtain⟨p,h1,h2⟩:=aA.1 e;cases h2;exact hc _ _ _ _ _ p.1 p.2 h1
end
theorem aFY{tb:Tab}{call:fD}{cx:Cx}{t:TE}{s:Hs}(hc:jB call)(op:Op):iR cx s (opv tb op call cx t s):=by
 cases op with
 |move x=>exact(kZ)
 |assign x=>exact(kZ)
 |pick x y z=>exact(aQ (fun _=>aEf fun _=>kZ))
 |alloc e=>exact(aQ (fun _=>sH))
 |box e x=>exact(aQ (fun _=>sH))
 |build e ps=>exact(aQ (fun _=>aQ fun _=>aQ fun _=>aQ fun _=>eG))
 |buildSlice e n ps=>exact(aQ (fun _=>tV fun _=>aQ fun _=>dB (aQ fun _=>aQ fun _=>sH)))
 |load e x=>exact(aQ (fun _=>aQ fun _=>tX fun _ _=>aQ fun _=>aCs fun _=>kZ))
 |store e x y=>exact(aQ (fun _=>aQ fun _=>aQ fun _=>tX fun _ _=>xC fun hb=>xB fun _ hl=>TK fun _=>dB (lX (Fq.put _ hl (aK.1 hb)))))
 |nilCheck x=>
  refine(aQ (fun y=>?_));exact zW (fun _=>sF (fun _=>aB) (fun _ _=>aB) (fun _=>aB) (fun _ _ _=>aB) (fun _ _ _=>dB eG) (fun _=>aB) (fun _=>aB) aB) (fun _ _=>eG) (fun _ _ _ _=>aB) (fun _ _ _ _=>aB) (fun _ _ _=>dB eG) (fun _ _=>aB) (fun _=>aB) (fun _=>aB) (fun _=>aB)
 |binOp b xt x y yt=>exact(aQ (fun _=>aQ fun _=>lH uZ kZ))
 |unOp b xt x=>exact(aQ (fun _=>lH uZ kZ))
 | convert a b x=>
  have hSB: ∀X,iR cx s (aH0 tb a b X s):=fun X=>aQ fun _=>dB (aQ fun _=>tV fun _=>aQ fun _=>dB (TP fun _=>sF (fun _=>aB) (fun _ _=>aB) (fun _=>sH) (fun _ _ _=>aB) (fun _ _ _=>aB) (fun _=>aB) (fun _=>aB) aB));have hP: ∀X,iR cx s (aH1 tb a b cx X s):=fun X=>tX fun b off=>aQ fun o=>by
   cases o with
   |row c el=>exact lH (dB (aQ fun _=>TL fun _=>aQ fun _=>dB eG)) (dB (aQ fun _=>TL fun _=>aQ fun _=>dB eG))
   |_=>exact aB
  exact aQ fun X=>lH uZ (lH (lH (hSB X) (hP X)) kZ)
 |makeInterface e x=>exact(aQ (fun _=>dB (aQ fun _=>eG)))
 |makeFunc f' x y=>
  refine lH (dB (aQ (fun _=>aQ fun _=>eG))) ?_;show iR cx s (RV f' x y s);unfold RV;split
  . exact dB (dB eG)
  exact aB
 |makeSlice e x y=>exact(aQ (fun _=>tV fun _=>aQ fun _=>aQ fun _=>aQ fun _=>DI fun _=>DI fun _=>dB sH))
 |slice e x lo hi mx=>exact(aQ (fun _=>aQ fun _=>kZ))
 |fieldAddr e x n=>exact(aQ (fun _=>MI fun _=>aQ fun _=>dB (aQ fun _=>tX fun _ _=>eG)))
 |field e x n=>
  refine(aQ (fun _=>MI fun _=>aQ fun _=>aQ fun y=>?_));exact zW (fun _=>sF (fun _=>aB) (fun _ _=>aB) (fun _=>aB) (fun _ _ _=>aB) (fun _ _ _=>aB) (fun _=>kZ) (fun _=>aB) aB) (fun _ _=>aB) (fun _ _ _ _=>aB) (fun _ _ _ _=>aB) (fun _ _ _=>aB) (fun _ _=>aB) (fun _=>kZ) (fun _=>aB) (fun _=>aB)
 |indexAddr e x y=>
  refine(aQ (fun i=>aQ fun X=>aQ fun _=>DI fun j=>?_));cases i.k with
  |slice el=>exact aQ fun _=>zW (fun _=>aB) (fun _ _=>aB) (fun _ _ _ _=>dB eG) (fun _ _ _ _=>dB eG) (fun _ _ _=>aB) (fun _ _=>aB) (fun _=>aB) (fun _=>aB) (fun _=>aB)
  |arr n el=>exact aQ fun _=>tX fun _ _=>dB eG
  |_=>exact aB
 | index e x y=>
  refine(aQ (fun i=>aQ fun X=>aQ fun _=>DI fun j=>?_));cases i.k with
  |str=>exact TP fun _=>uZ
  |arr n el=>
   refine aQ fun _=>dB ?_;exact zW (fun _=>sF (fun _=>aB) (fun _ _=>aB) (fun _=>aB) (fun _ _ _=>aB) (fun _ _ _=>aB) (fun _=>kZ) (fun _=>aB) aB) (fun _ _=>aB) (fun _ _ _ _=>aB) (fun _ _ _ _=>aB) (fun _ _ _=>aB) (fun _ _=>aB) (fun _=>kZ) (fun _=>aB) (fun _=>aB)
  |_=>exact aB
 |range e x=>exact(aQ (fun _=>dB (aQ fun _=>TP fun _=>sF (fun _=>aB) (fun _ _=>aB) (fun _=>sH) (fun _ _ _=>aB) (fun _ _ _=>aB) (fun _=>aB) (fun _=>aB) aB)))
 | next x b=>
  refine(dB (aQ fun _=>tX fun b _=>xC fun hb=>xB fun o hl=>?_));rw[bT,aEb]at hb;cases o with
  |iter bs p=>
   show iR cx s (XH bs p _ _);unfold XH;cases nth bs.data.toList p with
   |none=>exact dB eG
   |some c=>exact dB (lX (Fq.put _ hl (aK.1 hb.2)))
  |_=>exact aB
 |makeMap t r=>exact dB sH
 |lookup xt x i ok=>
  refine TM fun kt et=>aQ fun _=>dB (aQ fun _=>aQ fun key=>MK fun b=>aQ fun o=>MJ fun ks vs=>xE fun _ _=>aQ fun r=>?_);cases r with
  |none=>exact aQ fun _=>aQ fun _=>eG
  |some i=>exact aQ fun _=>eG
 |insert mt m k v=>
  refine TM fun kt et=>aQ fun _=>dB (aQ fun _=>aQ fun key=>aQ fun _=>MK fun b=>xC fun hb=>xB fun o hl=>MJ fun ks vs=>xE fun _ _=>aQ fun r=>?_);cases r with
  |none=>exact lX (Fq.put _ hl (aK.1 hb))
  |some i=>exact lX (Fq.put _ hl (aK.1 hb))
 |mapUpdate mt m k v=>
  refine TM fun kt et=>aQ fun _=>dB (aQ fun _=>aQ fun key=>aQ fun _=>MK fun b=>xC fun hb=>xB fun o hl=>MJ fun ks vs=>xE fun _ _=>aQ fun r=>?_);cases r with
  |none=>exact lX (Fq.put _ hl (aK.1 hb))
  |some i=>exact lX (Fq.put _ hl (aK.1 hb))
 |extract x n=>exact(aQ (fun _=>kZ))
 | call c=>
  obtain⟨callee,args,ts⟩:=c;refine aQ fun ys=>?_;have hO: ∀f xs,iR cx s (GZ tb call cx f xs s):=fun f xs=>by
   unfold GZ;cases tb.orc f xs with
   |none=>exact TN hc
   |some v=>exact eG
  have hI: ∀r m xs,iR cx s (QB tb call cx r m xs s):=fun r m xs=>by
   unfold QB aN0;split
   . exact aQ fun _=>aQ fun _=>dB (hO _ _)
   . exact aQ fun _=>aQ fun _=>dB (hO _ _)
   exact aB
  have hM: ∀f xs,iR cx s (UJ tb call cx f xs s):=fun f xs=>by
   unfold UJ;split
   . exact dB (dB (hI _ _ _))
   exact aB
  cases callee with
  |invoke r m=>exact aQ fun _=>hI _ _ _
  | value fo=>
   refine(aQ (fun F=>lH (lH (aOg fun y z=>?_) (aOf fun b=>TN hc)) (hM _ _)));cases tb.orc y z with
   |some u=>exact eG
   | none=>
    cases tb.fn.get y with
    |none=>
     refine lH (aQ fun _=>uZ) (lH (dB (aA6 fun _=>eG)) (aQ fun e=>aA6 fun _=>xE fun k n=>dB ?_));cases n with
     |ofNat n=>exact dB sH
     |negSucc n=>exact aB
    |some fn=>exact dB (TN hc)
  | builtin b=>
   cases b with
   |min=>exact lH (aQ fun _=>uZ) (I8 fun _ _=>I7 fun _=>I7 fun _=>dB (aQ fun _=>eG))
   |max=>exact lH (aQ fun _=>uZ) (I8 fun _ _=>I7 fun _=>I7 fun _=>dB (aQ fun _=>eG))
   | cap=>
    show iR cx s (Y9 tb ts.toList ys s);unfold Y9;cases ts.toList with
    |nil=>exact aB
    |cons t1 tr=>
     cases ys with
     |nil=>exact aB
     |cons y yr=>exact aQ fun i=>tV fun _=>zW (fun _=>sF (fun _=>aB) (fun _ _=>aB) (fun _=>aB) (fun _ _ _=>eG) (fun _ _ _=>aB) (fun _=>aB) (fun _=>aB) aB) (fun _ _=>aB) (fun _ _ _ _=>eG) (fun _ _ _ _=>eG) (fun _ _ _=>aB) (fun _ _=>aB) (fun _=>aB) (fun _=>aB) (fun _=>aB)
   | copy=>
    show iR cx s (aBv tb ts.toList ys cx s);have hp: ∀z b off n y,iR cx s (yR cx s z b off n y):=fun z b off n y=>aQ fun p=>xC fun hb=>xB fun _ hl=>TK fun _=>dB (lX (Fq.put _ hl (by
     rw[bT,aEb]at hb;exact aK.1 hb.2)))
    exact TJ fun _ _=>TJ fun _ _=>aQ fun _=>tV fun _=>aQ fun _=>lH (dB (aQ fun _=>eG))
     (zW (fun _=>aB) (fun _ _=>aB) (fun _ _ _ _=>hp _ _ _ _ _) (fun _ _ _ _=>hp _ _ _ _ _) (fun _ _ _=>aB) (fun _ _=>aB) (fun _=>aB) (fun _=>aB) (fun _=>aB))
   |unsafeSliceData=>
    show iR cx s (UL ys cx s);refine aA6 fun x=>zW (fun _=>sF (fun _=>aB) (fun _ _=>aB) (fun _=>aB) (fun _ _ _=>dB eG) (fun _ _ _=>aB) (fun _=>aB) (fun _=>aB) aB) (fun _ _=>aB) (fun _ _ _ _=>dB eG) (fun _ _ _ _=>aQ fun o=>?_) (fun _ _ _=>aB) (fun _ _=>aB) (fun _=>aB) (fun _=>aB) (fun _=>aB);cases o with
    |mM c es el=>exact dB eG
    |_=>exact aB
   | unsafeString=>
    show iR cx s (aIb tb ts.toList ys cx s);refine I8 fun _ _=>I8 fun p n=>xE fun k n=>dB ?_;cases n with
    |negSucc n=>exact aB
    | ofNat n=>
     refine zW (fun _=>dB (aQ fun _=>dB eG)) (fun b off=>I9 (xC fun hb=>xB fun o hl=>?_) eG) (fun _ _ _ _=>aB) (fun _ _ _ _=>aB) (fun _ _ _=>aB) (fun _ _=>aB) (fun _=>aB) (fun _=>aB) (fun _=>aB);rw[bT,aEb]at hb;have key: ∀(pt:TypeId) (c:List AV) (el:TypeId),iR cx s (strRow tb n b pt s c el):=fun pt c el=>
      aQ fun _=>TL fun _=>dB (aQ fun _=>aQ fun _=>dB (lX (Fq.put _ hl (aK.1 hb.2))))
     cases o with
     |row c el=>exact key _ c el
     |mM c es el=>exact key _ c el
     |_=>exact aB
   | append=>
    show iR cx s (ZA tb ts.toList ys cx s);refine(TJ (fun t1 t2=>TJ fun x y=>aQ fun i=>tV fun e=>aQ fun ei=>aQ fun i2=>dB (aQ fun p=>?_)));refine zW (fun _=>sF (fun _=>aB) (fun _ _=>aB) (fun _=>aB) (fun _ _ _=>dB (dB (I9 (dB sH) eG))) (fun _ _ _=>aB) (fun _=>aB) (fun _=>aB) aB) (fun _ _=>aB)
     (fun _ _ _ _=>dB (xB fun _ hl=>aCs fun _=>I9 (aQ fun _=>sH) (xC fun hb=>TK fun _=>dB (lX (Fq.put _ hl (aK.1 hb)))))) (fun _ _ _ _=>dB (xB fun o hl=>?_)) (fun _ _ _=>aB) (fun _ _=>aB) (fun _=>aB) (fun _=>aB) (fun _=>aB)
    cases o with
    |mM c es el=>
     refine xC fun hb=>?_;rw[bT,aEb]at hb;exact I9 (dB (aQ fun _=>lX (Fq.move _ hl (aK.1 hb.2)))) (dB (dB (lX (Fq.put _ hl (aK.1 hb.2)))))
    |_=>exact aB
   | len=>
    show iR cx s (Y8 tb ts.toList ys s);unfold Y8;cases ts.toList with
    |nil=>exact aB
    | cons t1 tr=>
     cases ys with
     |nil=>exact aB
     |cons y yr=>
      refine aQ (fun i=>?_);cases i.k with
      |str=>exact lH (TP fun _=>sF (fun _=>aB) (fun _ _=>aB) (fun _=>eG) (fun _ _ _=>aB) (fun _ _ _=>aB) (fun _=>aB) (fun _=>aB) aB) (aKS eG)
      |slice el=>exact lH (aQ fun _=>eG) (aHj eG)
      |_=>exact aB
   |_=>exact aB
 | defer c=>
  obtain⟨callee,args,ts⟩:=c;intro v s' h;obtain⟨xs,h1,h2⟩:=aA.1 h;cases callee with
  |builtin b=>cases h2
  |invoke r m=>cases h2
  | value f=>
   obtain⟨F,h3,h4⟩:=aA.1 h2
   letI:Gh:=⟨fun _=>False⟩
   cases F with
   |v F=>
    cases F with
    |func g fi ca=>obtain⟨g,rfl,h5⟩:=xH h4;cases(aF.1 h5).2
    |_=>cases h4
   |fn g fi ca=>obtain⟨g,rfl,h5⟩:=xH h4;cases(aF.1 h5).2
   |_=>cases h4
 |_=>exact aB
structure Md where
 skip:Bool
 fl:Nat
 hid:aYJ
 see:See
 wr:See
 v:AV
def SA(x:See)(b:Nat):Prop:=x=.all\/x=.one b\/ ∃l,x=.lst l/\b ∈ l
theorem RZ{b:Nat}{l:List Nat}(h:b ∈ l):aAO b l=true:=by
 induction l with
 |nil=>cases h
 |cons c l ih=>
  show bor (Nat.beq c b) (aAO b l)=true;rw[BG,aMi];rcases aLr.1 h with rfl|h
  . exact .inl (aYz _)
  exact .inr (ih h)
theorem aFb{b:Nat}{l m:List Nat}(h:b ∈ l)(h':b ∈ m):aFc l m=true:=by
 induction l with
 |nil=>cases h
 |cons c l ih=>
  show bor (aAO c m) (aFc l m)=true;rw[BG,aMi];rcases aLr.1 h with rfl|h
  . exact .inl (RZ h')
  exact .inr (ih h)
theorem XJ{x y:See}{b:Nat}(hx:SA x b)(hy:SA y b):meets x y=true:=by
 rcases hx with rfl|rfl|⟨l,rfl,hl⟩<;>rcases hy with rfl|rfl|⟨m,rfl,hm⟩<;>first|rfl|exact aYz b|exact RZ hm|exact RZ hl|exact aFb hl hm
theorem uX(h k:aYJ)(b:Nat):hidden (app h k) b=(hidden h b||hidden k b):=by
 induction h with
 |nil=>rfl
 |cons p h ih=>
  show hidden (p::app h k) b=_;rw[eF,eF,ih,Bool.or_assoc]
theorem X8(m:Nat)(h:aYJ)(b:Nat):hidden (aBr m h) b=(hidden h b&&decide (b≠m)):=by
 induction h with
 |nil=>rfl
 | cons p h ih=>
  show hidden (Bool.rec (motive:=fun _=>aYJ) (p::aBr m h) ((p.1,m)::(m+1,p.2)::aBr m h) (band (Nat.ble p.1 m) (Nat.ble (m+1) p.2))) b=_;cases hc:band (Nat.ble p.1 m) (Nat.ble (m+1) p.2)with
  |true=>
   rw[bT,aEb,aK,aK]at hc;show hidden ((p.1,m)::(m+1,p.2)::aBr m h) b=_;rw[eF,eF,eF,ih];by_cases e:b=m
   . subst e;simp;omega
   by_cases e2:p.1<=b/\b<p.2
   . have:(p.1<=b/\b<m)\/(m+1<=b/\b<p.2):=by omega
     rcases this with h|h<;>simp[h,e,e2]
   have h1: ¬(p.1<=b/\b<m):=by omega
   have h2: ¬(m+1<=b/\b<p.2):=by omega
   simp only[h1,h2,e2,e,aVG,aVb,ne_eq,not_false_eq_true,aWN,aTY]
  |false=>
   show hidden (p::aBr m h) b=_;rw[eF,eF,ih];by_cases e:b=m
   . subst e;have: ¬(p.1<=b/\b<p.2):=fun hh=>by
      have:band (Nat.ble p.1 b) (Nat.ble (b+1) p.2)=true:=by rw[bT,aEb,aK,aK];exact⟨hh.1,hh.2⟩
      rw[this]at hc;cases hc
     simp[this]
   simp[e]
theorem GX(ms:List Nat)(h:aYJ)(b:Nat):hidden (aHY ms h) b=(hidden h b&&decide (b ∉ ms)):=by
 induction ms with
 |nil=>show hidden h b=_;simp
 |cons m ms ih=>
  show hidden (aBr m (aHY ms h)) b=_;rw[X8,ih,Bool.and_assoc]
  congr 1
  by_cases e:b=m<;>by_cases e2:b ∈ ms<;>simp[e,e2]
theorem kK(a:Nat)(h:aYJ)(b:Nat)(iv:List (Nat × Nat × Nat)):
 hidden (others a iv h) b=true↔(∃p ∈ iv,bit a p.1=false/\p.2.1<=b/\b<p.2.2)\/hidden h b=true:=by
 induction iv with
 |nil=>exact⟨.inr,fun h=>h.elim (fun⟨_,h,_⟩=>by cases h) id⟩
 | cons p l ih=>
  show hidden (Bool.rec (motive:=fun _=>aYJ) (p.2::others a l h) (others a l h) (bit a p.1)) b=true↔_;cases hb:bit a p.1 with
  |true=>
   show hidden (others a l h) b=true↔_;rw[ih];constructor
   . rintro(⟨q,h1,h2⟩|h1)
     . exact .inl ⟨q,aKO _ h1,h2⟩
     exact .inr h1
   rintro(⟨q,h1,h2,h3⟩|h1)
   . rcases aLr.1 h1 with rfl|h1
     . rw[hb]at h2;cases h2
     exact .inl ⟨q,h1,h2,h3⟩
   exact .inr h1
  |false=>
   show hidden (p.2::others a l h) b=true↔_;rw[eF,aMi,ih,aNF];constructor
   . rintro(h1|⟨q,h1,h2⟩|h1)
     . exact .inl ⟨p,aIC,hb,h1⟩
     . exact .inl ⟨q,aKO _ h1,h2⟩
     exact .inr h1
   rintro(⟨q,h1,h2,h3⟩|h1)
   . rcases aLr.1 h1 with rfl|h1
     . exact .inl h3
     exact .inr (.inl ⟨q,h1,h2,h3⟩)
   exact .inr (.inr h1)
theorem iL{p:Nat × Nat}{l:aYJ}{b:Nat}(h:hidden (p::l) b=false): ¬(p.1<=b/\b<p.2)/\hidden l b=false:=by
 rw[eF,aM8,aFe]at h;exact h
section
variable{tb:Tab}{call:fD}{cx:Cx}{N:Nat}
structure Seen(cx:Cx)(a:Nat)(d:Ds)(m:Md):Prop where
 fl:cx.fl<=d.s.n->cx.fl<=m.fl/\m.fl<=d.s.n
 hid: ∀b,b<d.s.n->hidden m.hid b=false->hidden cx.hid b=false/\(∀p ∈ d.iv,p.2.1<=b->b<p.2.2->bit a p.1=true)/\(cx.fl<=b->SA m.see b)
 wr: ∀b,b<d.s.n->m.fl<=b->hidden m.hid b=false->SA m.wr b
 mono: ∀b,b<d.s.n->(b<cx.fl\/hidden cx.hid b=true)->b<m.fl\/hidden m.hid b=true
 up:(∀p ∈ d.iv,p.2.2<=d.s.n)->(∀b,d.s.n<=b->hidden cx.hid b=false)-> ∀b,d.s.n<=b->hidden m.hid b=false
theorem PG{a:Nat}{d:Ds}{m:Md}(h1:m.fl=d.s.n)(h2:m.hid=[(0,d.s.n)]):Seen cx a d m where
 fl:=fun h=>by rw[h1];exact⟨h,aC4 _⟩
 hid:=fun b hb hh=>by rw[h2]at hh;exact absurd ⟨aLp _,hb⟩ (iL hh).1
 wr:=fun b hb hf=>by rw[h1]at hf;omega
 mono:=fun b hb _=>by rw[h1];exact .inl hb
 up:=fun _ _ b hb=>by rw[h2,eF,aM8,aFe];exact⟨fun h=>absurd h.2 (by simp;omega),rfl⟩
theorem kX{a:Nat}{iv:List (Nat × Nat × Nat)}{h:aYJ}{b:Nat}(hh:hidden (others a iv h) b=false):
 hidden h b=false/\ ∀p ∈ iv,p.2.1<=b->b<p.2.2->bit a p.1=true:=by
 refine⟨?_,fun p hp h1 h2=>?_⟩
 . cases hc:hidden h b with
   |false=>rfl
   |true=>rw[(kK a h b iv).2 (.inr hc)]at hh;cases hh
 cases hc:bit a p.1 with
 |true=>rfl
 |false=>rw[(kK a h b iv).2 (.inl ⟨p,hp,hc,h1,h2⟩)]at hh;cases hh
theorem ET{a:Nat}{iv:List (Nat × Nat × Nat)}{h:aYJ}{b n:Nat}(h1: ∀p ∈ iv,p.2.2<=n)(h2:hidden h b=false)(hb:n<=b):hidden (others a iv h) b=false:=by
 cases hc:hidden (others a iv h) b with
 |false=>rfl
 |true=>
  rcases(kK a h b iv).1 hc with⟨p,hp,_,_,h4⟩|h3
  . have:=h1 p hp;omega
  rw[h2]at h3;cases h3
theorem aFh{a:Nat}{d:Ds}{m:Md}(h1:(m.fl=d.s.n/\m.wr=.no)\/(m.fl=cx.fl/\m.wr=.all))(h2:m.hid=others a d.iv cx.hid)(h3:m.see=.all):Seen cx a d m where
 fl:=fun h=>by rcases h1 with⟨h1,_⟩|⟨h1,_⟩<;>rw[h1]<;>simp[h]
 hid:=fun b hb hh=>by
  rw[h2]at hh;exact⟨(kX hh).1,(kX hh).2,fun _=>.inl h3⟩
 wr:=fun b hb hf hh=>by
  rcases h1 with⟨h1,_⟩|⟨_,h1⟩
  . omega
  exact .inl h1
 mono:=fun b hb hor=>by
  rcases h1 with⟨h1,_⟩|⟨h1,_⟩
  . rw[h1];exact .inl hb
  rcases hor with h4|h4
  . rw[h1];exact .inl h4
  rw[h2];exact .inr ((kK _ _ _ _).2 (.inr h4))
 up:=fun h4 h5 b hb=>by rw[h2];exact ET h4 (h5 b hb) hb
theorem VQ{a c:Nat}{d:Ds}{m:Md}(h1:(m.fl=d.s.n/\m.wr=.no)\/(m.fl=cx.fl/\m.wr=.one c))(h2:m.hid=(0,c)::(c+1,d.s.n)::others a d.iv cx.hid)(h3:m.see=.one c)(hc:c<d.s.n):Seen cx a d m where
 fl:=fun h=>by rcases h1 with⟨h1,_⟩|⟨h1,_⟩<;>rw[h1]<;>simp[h]
 hid:=fun b hb hh=>by
  rw[h2]at hh;obtain⟨k1,k2⟩:=iL hh;obtain⟨k3,k4⟩:=iL k2;have:b=c:=by simp at k1 k3;omega
  subst this;exact⟨(kX k4).1,(kX k4).2,fun _=>.inr (.inl h3)⟩
 wr :=fun b hb hf hh=>by
  rcases h1 with⟨h1,_⟩|⟨_,h1⟩
  . omega
  rw[h2]at hh;obtain⟨k1,k2⟩:=iL hh;obtain⟨k3,k4⟩:=iL k2;have:b=c:=by simp at k1 k3;omega
  subst this;exact .inr (.inl h1)
 mono:=fun b hb hor=>by
  rcases h1 with⟨h1,_⟩|⟨h1,_⟩
  . rw[h1];exact .inl hb
  rcases hor with h4|h4
  . rw[h1];exact .inl h4
  rw[h2,eF,eF,(kK _ _ _ _).2 (.inr h4)];simp
 up:=fun h4 h5 b hb=>by
  rw[h2,eF,aM8,aFe,eF,aM8,aFe];exact⟨fun h=>absurd h.2 (by simp;omega),fun h=>absurd h.2 (by simp;omega),ET h4 (h5 b hb) hb⟩
theorem VR{a:Nat}{ms:List Nat}{d:Ds}{m:Md}(h1:(m.fl=d.s.n/\m.wr=.no)\/(m.fl=cx.fl/\m.wr=.lst ms))(h2:m.hid=app (aHY ms [(cx.fl,d.s.n)]) (others a d.iv cx.hid))(h3:m.see=.lst ms):Seen cx a d m:=by
 have key: ∀b,b<d.s.n->cx.fl<=b->hidden m.hid b=false->b ∈ ms:=by
  intro b hb hf hh;rw[h2,uX,aM8,GX,eF,aUt]at hh;rcases hh.1 with h|h
  . rw[aM8,aFe]at h;exact absurd ⟨hf,hb⟩ h.1
  rw[aFe]at h;exact aOw.1 h
 have ko: ∀b,hidden m.hid b=false->hidden (others a d.iv cx.hid) b=false:=by
  intro b hh;rw[h2,uX,aM8]at hh;exact hh.2
 refine⟨fun h=>?_,fun b hb hh=>⟨(kX (ko b hh)).1,(kX (ko b hh)).2,fun hf=>.inr (.inr ⟨ms,h3,key b hb hf hh⟩)⟩,fun b hb hf hh=>?_,fun b hb hor=>?_,fun h4 h5 b hb=>?_⟩
 . rcases h1 with⟨h1,_⟩|⟨h1,_⟩<;>rw[h1]<;>simp[h]
 . rcases h1 with⟨h1,_⟩|⟨h0,h1⟩
   . omega
   exact .inr (.inr ⟨ms,h1,key b hb (h0 ▸ hf) hh⟩)
 . rcases h1 with⟨h1,_⟩|⟨h1,_⟩
   . rw[h1];exact .inl hb
   rcases hor with h4|h4
   . rw[h1];exact .inl h4
   rw[h2,uX,(kK _ _ _ _).2 (.inr h4)];simp
 rw[h2,uX,ET h4 (h5 b hb) hb,aUz,GX,eF,aUt];refine .inl ?_;rw[aM8,aFe];exact⟨fun h=>absurd h.2 (by simp;omega),rfl⟩
structure aIz(tb:Tab)(call:fD)(cx:Cx)(N:Nat)(all:List Oper)(o:Oper)(i a:Nat)(d d':Ds)(m:Md):Prop where
 want:JU tb all d.t o=some (!m.skip)
 put:put N d.t o.dst m.v=some d'.t
 seen:Seen cx a d m
 run:(m.skip=true/\m.v=und/\d'.s=d.s/\d'.iv=d.iv/\d'.es=d.es/\m.fl=d.s.n/\m.hid=[(0,d.s.n)])\/
  (m.skip=false/\opv tb o.op call ⟨cx.g,cx.l,m.fl,m.hid⟩ d.t d.s=some (.ok m.v d'.s)/\free a m.see m.wr d.es=true/\
    d'.iv=(if d.s.n<d'.s.n then(i,d.s.n,d'.s.n)::d.iv else d.iv)/\d'.es=⟨i,m.see,m.wr⟩::d.es)
theorem aF7{β:Type}{r:R3}{k:AV->Hs->Option β}{x:β}(h:okR r k=some x): ∃v s,r=.ok v s/\k v s=some x:=by
 cases r with
 |ok v s=>exact⟨v,s,rfl,h⟩
 |dfr f xs=>cases h
theorem Z4 {o:Oper} {i a:Nat} {d d':Ds} {fl:Nat} {hid:aYJ} {see wr:See} (h:rH tb call cx N o i a d fl hid see wr=some d'):
 ∃v,put N d.t o.dst v=some d'.t/\opv tb o.op call ⟨cx.g,cx.l,fl,hid⟩ d.t d.s=some (.ok v d'.s)/\free a see wr d.es=true/\
  d'.iv=(if d.s.n<d'.s.n then(i,d.s.n,d'.s.n)::d.iv else d.iv)/\d'.es=⟨i,see,wr⟩::d.es:=by
 obtain⟨h1,h2⟩:=aF.1 h;obtain⟨r,h3,h4⟩:=aA.1 h2;obtain⟨v,s',rfl,h5⟩:=aF7 h4;obtain⟨t,h6,h7⟩:=aA.1 h5;cases h7;refine⟨v,h6,h3,h1,?_,rfl⟩;dsimp only;cases hc:Nat.ble (d.s.n+1) s'.n with
 | true => have:d.s.n<s'.n:=aK.1 hc
           rw[aEo this]
 |false=>rw[aEg (fun hh=>by rw[aK.2 hh]at hc;cases hc)]
theorem NP{β:Type}{t:TE}{a:Option Operand}{k:Nat->Option β}{r:β}(h:Y5 tb t a k=some r): ∃b,k b=some r:=by
 obtain⟨x,_,h2⟩:=aA.1 h;obtain⟨y,_,h4⟩:=aA.1 h2;obtain⟨b,o,_,h5⟩:=fZ h4;exact⟨b,h5⟩
theorem YM{all:List Oper}{o:Oper}{i a:Nat}{d d':Ds}(h:aHO tb call cx N all o i a d=some d'): ∃m,aIz tb call cx N all o i a d d' m:=by
 obtain⟨w,h1,h2⟩:=aA.1 h;cases w with
 |false=>
  obtain⟨t,h3,h4⟩:=aA.1 h2;cases h4;exact⟨⟨true,d.s.n,[(0,d.s.n)],.no,.no,und⟩,h1,h3,PG rfl rfl,.inl ⟨rfl,rfl,rfl,rfl,rfl,rfl,rfl⟩⟩
 | true=>
  have h3 :(Bool.rec (motive:=fun _=>Option Ds)
   (Bool.rec (motive:=fun _=>Option Ds)
     (Bool.rec (motive:=fun _=>Option Ds)
       (yB (ob (lF (nH tb d.t) o.op.operands.toList) (fun xs=>(fun ms=>(fun h=>
         yB (rH tb call cx N o i a d d.s.n h (.lst ms) .no) (rH tb call cx N o i a d cx.fl h (.lst ms) (.lst ms)))
          (app (aHY ms [(cx.fl,d.s.n)]) (others a d.iv cx.hid))) (reach cx.fl d.s.h 200 (PN xs []) [])))
         (rH tb call cx N o i a d cx.fl (others a d.iv cx.hid) .all .all))
       (Y5 tb d.t (cls o.op).2 (fun b=>gd (Nat.ble (b+1) d.s.n) (rH tb call cx N o i a d cx.fl ((0,b)::(b+1,d.s.n)::others a d.iv cx.hid) (.one b) (.one b))))
       (Nat.beq (cls o.op).1 2))
     (Y5 tb d.t (cls o.op).2 (fun b=>gd (Nat.ble (b+1) d.s.n) (rH tb call cx N o i a d d.s.n ((0,b)::(b+1,d.s.n)::others a d.iv cx.hid) (.one b) .no)))
     (Nat.beq (cls o.op).1 1))
   (rH tb call cx N o i a d d.s.n [(0,d.s.n)] .no .no)
   (Nat.beq (cls o.op).1 0))=some d':=h2
  have fin: ∀fl hid see wr,rH tb call cx N o i a d fl hid see wr=some d'->(∀v,Seen cx a d ⟨false,fl,hid,see,wr,v⟩)-> ∃m,aIz tb call cx N all o i a d d' m:=by
   intro fl hid see wr h4 h5;obtain⟨v,k1,k2,k3,k4,k5⟩:=Z4 h4;exact⟨⟨false,fl,hid,see,wr,v⟩,h1,k1,h5 v,.inr ⟨rfl,k2,k3,k4,k5⟩⟩
  generalize hc0:Nat.beq (cls o.op).1 0=c0 at h3;generalize hc1:Nat.beq (cls o.op).1 1=c1 at h3;generalize hc2:Nat.beq (cls o.op).1 2=c2 at h3;cases c0 with
  |true=>exact fin _ _ _ _ h3 fun v=>PG rfl rfl
  | false=>
   cases c1 with
   |true=>
    obtain⟨b,h4⟩:=NP h3;obtain⟨h5,h6⟩:=aF.1 h4;exact fin _ _ _ _ h6 fun v=>VQ (.inl ⟨rfl,rfl⟩) rfl rfl (aK.1 h5)
   | false=>
    cases c2 with
    |true=>
     obtain⟨b,h4⟩:=NP h3;obtain⟨h5,h6⟩:=aF.1 h4;exact fin _ _ _ _ h6 fun v=>VQ (.inr ⟨rfl,rfl⟩) rfl rfl (aK.1 h5)
    |false=>
     rcases cO h3 with h4|h4
     . obtain⟨xs,_,h5⟩:=aA.1 h4;rcases cO h5 with h6|h6
       . exact fin _ _ _ _ h6 fun v=>VR (.inl ⟨rfl,rfl⟩) rfl rfl
       exact fin _ _ _ _ h6 fun v=>VR (.inr ⟨rfl,rfl⟩) rfl rfl
     exact fin _ _ _ _ h4 fun v=>aFh (.inr ⟨rfl,rfl⟩) rfl rfl
theorem MZ(all:List Oper)(l:List Oper): ∀(a1i:List Nat) (i:Nat) (d d':Ds),aHP tb call cx N all l a1i i d=some d'->
 ∃(D:Nat->Ds) (M:Nat->Md),D i=d/\D (i+l.length)=d'/\l.length<=a1i.length/\
  ∀k o a,l[k]? =some o->a1i[k]? =some a->aIz tb call cx N all o (i+k) a (D (i+k)) (D (i+k+1)) (M (i+k)):=by
 induction l with
 |nil=>intro a1i i d d' h;cases h;exact⟨fun _=>d,fun _=>⟨true,0,[],.no,.no,und⟩,rfl,rfl,aLp _,fun k o a h=>by simp at h⟩
 | cons o l ih=>
  intro a1i i d d' h;cases a1i with
  |nil=>cases h
  |cons a a1i=>
   obtain⟨d1,h1,h2⟩:=aA.1 h;obtain⟨m,h3⟩:=YM h1;obtain⟨D,M,k1,k2,k3,k4⟩:=ih a1i (i+1) d1 d' h2;refine⟨fun k=>if k=i then d else D k,fun k=>if k=i then m else M k,by simp,?_,by simpa using k3,?_⟩
   . dsimp only;rw[aEg (by simp),<-k2,aPk];congr 1;omega
   intro k o' a' ho ha;dsimp only;cases k with
   |zero=>
    simp at ho ha;subst ho;subst ha;rw[aEo (by omega),aEg (by omega),aEo (by omega)];simpa[k1]using h3
   |succ k=>
    rw[aEg (by omega),aEg (by omega),aEg (by omega)];have:=k4 k o' a' (by simpa using ho) (by simpa using ha);rwa[show i+1+k=i+(k+1) by omega]at this
end
theorem NQ(n i:Nat):bit n i=n.testBit i:=by
 unfold bit;rw[Nat.testBit_eq_decide_div_mod_eq];have e1:Nat.land (Nat.shiftRight n i) 1=n / 2 ^ i % 2:=by
  show(n >>> i) &&& 1=_;rw[Nat.and_one_is_mod,Nat.shiftRight_eq_div_pow]
 rw[e1];by_cases h:n / 2 ^ i % 2=1
 . rw[h];rfl
 rw[aBW h];cases hb:Nat.beq (n / 2 ^ i % 2) 1 with
 |false=>rfl
 |true=>exact absurd (beq_iff.1 hb) h
theorem aCM(a b i:Nat):bit (Nat.lor a b) i=(bit a i||bit b i):=by
 rw[NQ,NQ,NQ];exact Nat.testBit_or a b i
theorem aLe(a i:Nat):bit (Nat.pow 2 a) i=decide (a=i):=by rw[NQ];exact Nat.testBit_two_pow
theorem Y6(i:Nat):bit 0 i=false:=by rw[NQ];exact Nat.zero_testBit i
theorem ZI(acc:List Nat)(j:Nat)(after:List Edge):
 bit (List.rec (motive:=fun _=>Nat) 0 (fun e _ ih=>Bool.rec (motive:=fun _=>Nat) ih (Nat.lor ih (Nat.lor (Nat.pow 2 e.on) (Option.rec (motive:=fun _=>Nat) 0 (fun n=>n) (nth acc e.on)))) (binding e)) after) j=true↔
  ∃e ∈ after,binding e=true/\(j=e.on\/ ∃m,acc[e.on]? =some m/\bit m j=true):=by
 induction after with
 |nil=>exact⟨fun h=>(by rw[show bit _ j=bit 0 j from rfl,Y6]at h;cases h),fun⟨_,h,_⟩=>(by cases h)⟩
 | cons e l ih=>
  generalize hX:(List.rec (motive:=fun _=>Nat) 0 (fun e _ ih=>Bool.rec (motive:=fun _=>Nat) ih (Nat.lor ih (Nat.lor (Nat.pow 2 e.on) (Option.rec (motive:=fun _=>Nat) 0 (fun n=>n) (nth acc e.on)))) (binding e)) l)=X at ih;show bit (Bool.rec (motive:=fun _=>Nat) (List.rec (motive:=fun _=>Nat) 0 (fun e _ ih=>Bool.rec (motive:=fun _=>Nat) ih (Nat.lor ih (Nat.lor (Nat.pow 2 e.on) (Option.rec (motive:=fun _=>Nat) 0 (fun n=>n) (nth acc e.on)))) (binding e)) l) (Nat.lor (List.rec (motive:=fun _=>Nat) 0 (fun e _ ih=>Bool.rec (motive:=fun _=>Nat) ih (Nat.lor ih (Nat.lor (Nat.pow 2 e.on) (Option.rec (motive:=fun _=>Nat) 0 (fun n=>n) (nth acc e.on)))) (binding e)) l) (Nat.lor (Nat.pow 2 e.on) (Option.rec (motive:=fun _=>Nat) 0 (fun n=>n) (nth acc e.on)))) (binding e)) j=true↔_;rw[hX];cases hb:binding e with
  |false=>
   show bit X j=true↔_;rw[ih];constructor
   . rintro⟨x,h1,h2⟩;exact⟨x,aKO _ h1,h2⟩
   rintro⟨x,h1,h2,h3⟩;rcases aLr.1 h1 with rfl|h1
   . rw[hb]at h2;cases h2
   exact⟨x,h1,h2,h3⟩
  | true=>
   show bit (Nat.lor X (Nat.lor (Nat.pow 2 e.on) (Option.rec (motive:=fun _=>Nat) 0 (fun n=>n) (nth acc e.on)))) j=true↔_;rw[aCM,aCM,aLe,aMi,aMi,aNF,ih,pO];have aWu:bit (Option.rec (motive:=fun _=>Nat) 0 (fun n=>n) acc[e.on]?) j=true↔ ∃m,acc[e.on]? =some m/\bit m j=true:=by
    cases acc[e.on]? with
    |none=>exact⟨fun h=>(by rw[show bit _ j=bit 0 j from rfl,Y6]at h;cases h),fun⟨_,h,_⟩=>(by cases h)⟩
    |some m=>exact⟨fun h=>⟨m,rfl,h⟩,fun⟨_,h,h'⟩=>by cases h;exact h'⟩
   rw[aWu];constructor
   . rintro(⟨x,h1,h2⟩|h1|h1)
     . exact⟨x,aKO _ h1,h2⟩
     . exact⟨e,aIC,hb,.inl h1.symm⟩
     exact⟨e,aIC,hb,.inr h1⟩
   rintro⟨x,h1,h2,h3⟩;rcases aLr.1 h1 with rfl|h1
   . rcases h3 with h3|h3
     . exact .inr (.inl h3.symm)
     exact .inr (.inr h3)
   exact .inl ⟨x,h1,h2,h3⟩
theorem QG: ∀(l:List Oper) (acc:List Nat),∃r,lT l acc=acc++r/\r.length=l.length/\ ∀k o,l[k]? =some o->r[k]? =some (aIm (acc++r.take k) o):=by
 intro l
 induction l with
 |nil=>intro acc;exact⟨[],(aO6 _).symm,rfl,fun k o h=>by simp at h⟩
 |cons o l ih=>
  intro acc;obtain⟨r,h1,h2,h3⟩:=ih (app acc [aIm acc o]);refine⟨aIm acc o::r,?_,by simp[h2],fun k x hx=>?_⟩
  . show lT l (app acc [aIm acc o])=_;rw[h1,iJ,aTB];rfl
  cases k with
  |zero=>simp at hx;subst hx;simp
  |succ k=>
   have:=h3 k x (by simpa using hx);rw[iJ,aTB]at this;simpa using this
def An(a1i:List Nat)(i j:Nat):Prop:= ∃a,a1i[i]? =some a/\bit a j=true
theorem rQ: ∀(l:List Oper) (i:Nat),backOk l i=true-> ∀k o,l[k]? =some o-> ∀e ∈ o.after.toList,binding e=true->e.on<i+k:=by
 intro l
 induction l with
 |nil=>intro i _ k o h;simp at h
 | cons x l ih=>
  intro i h k o ho e he hb;change band (allB (fun e=>bor (lS (binding e)) (Nat.ble (e.on+1) i)) x.after.toList) (backOk l (i+1))=true at h;rw[bT,aEb,JK]at h;cases k with
  |zero=>
   simp at ho;subst ho;have:=aIJ.1 h.1 e he;rw[BG,kD,hb]at this;have:=aK.1 (by simpa using this);omega
  |succ k=>have:=ih (i+1) h.2 k o (by simpa using ho) e he hb;omega
theorem NT{ops:Array Oper}(hb:backOk ops.toList 0=true){i j:Nat}{o:Oper}(ho:ops[i]? =some o):
 An (lT ops.toList []) i j↔ ∃e ∈ o.after.toList,binding e=true/\(j=e.on\/An (lT ops.toList []) e.on j):=by
 obtain⟨r,h1,h2,h3⟩:=QG ops.toList [];rw[aVU]at h1;rw[h1];have ho':ops.toList[i]? =some o:=by rw[aEt];exact ho
 have h4:=h3 i o ho';have hback:=rQ _ _ hb i o ho';rw[aVU]at h4;unfold An;constructor
 . rintro⟨a,h5,h6⟩;rw[h4]at h5;cases h5;obtain⟨e,k1,k2,k3⟩:=(ZI (r.take i) j o.after.toList).1 h6;refine⟨e,k1,k2,k3.imp id ?_⟩;rintro⟨m,k4,k5⟩;rw[aPh]at k4;split at k4
   . exact⟨m,k4,k5⟩
   cases k4
 rintro⟨e,k1,k2,k3⟩;refine⟨_,h4,(ZI (r.take i) j o.after.toList).2 ⟨e,k1,k2,k3.imp id ?_⟩⟩;rintro⟨m,k4,k5⟩;have:=hback e k1 k2;refine⟨m,?_,k5⟩;rw[aPh,aEo (by omega)];exact k4
theorem aIf(ops:Array Oper):(lT ops.toList []).length=ops.size:=by
 obtain⟨r,h1,h2,_⟩:=QG ops.toList [];rw[aVU]at h1;rw[h1,h2,aII]
theorem aIp{ops:Array Oper}{i j:Nat}(h:An (lT ops.toList []) i j): ∃o,ops[i]? =some o:=by
 obtain⟨a,h1,_⟩:=h;have:i<ops.size:=by
  rw[<-aIf];rcases aKQ i (lT ops.toList []).length with h|h
  . exact h
  rw[aUs h]at h1;cases h1
 exact⟨_,aJT this⟩
theorem aIo{ops:Array Oper}(hb:backOk ops.toList 0=true): ∀(i j:Nat),An (lT ops.toList []) i j->j<i:=by
 intro i
 induction i using Nat.strongRecOn with
 |ind i ih=>
  intro j h;obtain⟨o,ho⟩:=aIp h;obtain⟨e,k1,k2,k3⟩:=(NT hb ho).1 h;have:=rQ _ _ hb i o (by rw[aEt];exact ho) e k1 k2;rcases k3 with rfl|k3
  . omega
  have:=ih e.on (by omega) j k3;omega
theorem aIn{ops:Array Oper}(hb:backOk ops.toList 0=true): ∀(i j k:Nat),An (lT ops.toList []) i j->An (lT ops.toList []) j k->An (lT ops.toList []) i k:=by
 intro i
 induction i using Nat.strongRecOn with
 |ind i ih=>
  intro j k h h';obtain⟨o,ho⟩:=aIp h;obtain⟨e,k1,k2,k3⟩:=(NT hb ho).1 h;have:=rQ _ _ hb i o (by rw[aEt];exact ho) e k1 k2;rcases k3 with rfl|k3
  . exact(NT hb ho).2 ⟨e,k1,k2,.inr h'⟩
  exact(NT hb ho).2 ⟨e,k1,k2,.inr (ih e.on (by omega) j k k3 h')⟩
theorem aDa{ops:Array Oper}{i:Nat}{o:Oper}: ∀(l:List Oper) (a1i:List Nat),aJl ops i o l a1i=true-> ∀(y:Nat) (p:Oper) (a:Nat),l[y]? =some p->a1i[y]? =some a->o.apart ops p=true\/bit a i=true:=by
 intro l
 induction l with
 |nil=>intro a1i _ y p a h;simp at h
 | cons p l ih=>
  intro a1i h y q a hq ha;cases a1i with
  |nil=>cases h
  |cons b a1i=>
   change band (bor (o.apart ops p) (bit b i)) (aJl ops i o l a1i)=true at h;rw[bT,aEb,BG,aMi]at h;cases y with
   |zero=>simp at hq ha;subst hq;subst ha;exact h.1
   |succ y=>exact ih a1i h.2 y q a (by simpa using hq) (by simpa using ha)
theorem aE7{ops:Array Oper}: ∀(l:List Oper) (i:Nat) (a1i:List Nat),tOk ops l i a1i=true-> ∀(x y:Nat) (o p:Oper) (a:Nat),x<y->l[x]? =some o->l[y]? =some p->a1i[y]? =some a->o.apart ops p=true\/bit a (i+x)=true:=by
 intro l
 induction l with
 |nil=>intro i a1i _ x y o p a _ h;simp at h
 | cons q l ih=>
  intro i a1i h x y o p a hxy ho hp ha;cases a1i with
  |nil=>cases h
  | cons b a1i=>
   change band (aJl ops i q l a1i) (tOk ops l (i+1) a1i)=true at h;rw[bT,aEb]at h;cases y with
   |zero=>omega
   | succ y=>
    cases x with
    |zero=>simp at ho;subst ho;exact aDa l a1i h.1 y p a (by simpa using hp) (by simpa using ha)
    |succ x=>
     have:=ih (i+1) a1i h.2 x y o p a (by omega) (by simpa using ho) (by simpa using hp) (by simpa using ha);rwa[show i+1+x=i+(x+1) by omega]at this
structure Run(tb:Tab)(call:fD)(cx:Cx)(N:Nat)(ops:Array Oper)(D:Nat->Ds)(M:Nat->Md):Prop where
 at_: ∀k o a,ops[k]? =some o->(lT ops.toList [])[k]? =some a->aIz tb call cx N ops.toList o k a (D k) (D (k+1)) (M k)
 iv0:(D 0).iv=[]
 es0:(D 0).es=[]
 FC:cx.fl<=(D 0).s.n
 vW: ∀b,(D 0).s.n<=b->hidden cx.hid b=false
 back:backOk ops.toList 0=true
 tok:tOk ops ops.toList 0 (lT ops.toList [])=true
 fr:jB call
def Wr(D:Nat->Ds)(M:Nat->Md)(k b:Nat):Prop:=((D k).s.n<=b/\b<(D (k+1)).s.n)\/(b<(D k).s.n/\(M k).fl<=b/\hidden (M k).hid b=false)
def Vi(D:Nat->Ds)(M:Nat->Md)(k b:Nat):Prop:=b<(D k).s.n/\hidden (M k).hid b=false
section
variable{tb:Tab}{call:fD}{cx:Cx}{N:Nat}{ops:Array Oper}{D:Nat->Ds}{M:Nat->Md}(hR:Run tb call cx N ops D M)
include hR
theorem Run.at'{k:Nat}(hk:k<ops.size): ∃o a,ops[k]? =some o/\(lT ops.toList [])[k]? =some a/\aIz tb call cx N ops.toList o k a (D k) (D (k+1)) (M k):=by
 have h1:ops[k]? =some ops[k]:=aJT hk;have h2:k<(lT ops.toList []).length:=by rw[aIf];exact hk
 exact⟨_,_,h1,aE5 h2,hR.at_ k _ _ h1 (aE5 h2)⟩
theorem Run.fq{k:Nat}(hk:k<ops.size):Fq (M k).fl (M k).hid (D k).s (D (k+1)).s:=by
 obtain⟨o,a,h1,h2,h3⟩:=hR.at' hk;rcases h3.run with⟨_,_,h4,_⟩|⟨_,h4,_⟩
 . rw[h4];exact Fq.refl _ _ _
 exact aFY (cx:=⟨cx.g,cx.l,(M k).fl,(M k).hid⟩) hR.fr o.op _ _ h4
theorem Run.aGP{k:Nat}(hk:k<ops.size):(D k).s.n<=(D (k+1)).s.n:=(hR.fq hk).1
theorem Run.mono{k k':Nat}(hk:k<=k')(hk':k'<=ops.size):(D k).s.n<=(D k').s.n:=by
 obtain⟨j,rfl⟩:=aUX hk;clear hk
 induction j with
 |zero=>exact aC4 _
 |succ j ih=>exact aKM (ih (by omega)) (hR.aGP (k:=k+j) (by omega))
theorem Run.iv {k:Nat} (hk:k<=ops.size):(∀p ∈ (D k).iv,∃j,j<k/\p=(j,(D j).s.n,(D (j+1)).s.n))/\ ∀j,j<k->(D j).s.n<(D (j+1)).s.n->(j,(D j).s.n,(D (j+1)).s.n) ∈ (D k).iv:=by
 induction k with
 |zero=>rw[hR.iv0];exact⟨fun p h=>(by cases h),fun j h=>(by omega)⟩
 | succ k ih=>
  obtain⟨i1,i2⟩:=ih (by omega);obtain⟨o,a,h1,h2,h3⟩:=hR.at' (k:=k) (by omega);rcases h3.run with⟨_,_,h4,h5,_⟩|⟨_,_,_,h5,_⟩
  . rw[h5];refine⟨fun p hp=>?_,fun j hj hlt=>?_⟩
    . obtain⟨j,h6,h7⟩:=i1 p hp;exact⟨j,by omega,h7⟩
    by_cases e:j=k
    . subst e;rw[h4]at hlt;omega
    exact i2 j (by omega) hlt
  rw [h5];by_cases hlt:(D k).s.n<(D (k+1)).s.n
  . rw[aEo hlt];refine⟨fun p hp=>?_,fun j hj hlt=>?_⟩
    . rcases aLr.1 hp with rfl|hp
      . exact⟨k,by omega,rfl⟩
      obtain⟨j,h6,h7⟩:=i1 p hp;exact⟨j,by omega,h7⟩
    by_cases e:j=k
    . subst e;exact aIC
    exact aKO _ (i2 j (by omega) hlt)
  rw[aEg hlt];refine⟨fun p hp=>?_,fun j hj hlt'=>?_⟩
  . obtain⟨j,h6,h7⟩:=i1 p hp;exact⟨j,by omega,h7⟩
  by_cases e:j=k
  . subst e;exact absurd hlt' hlt
  exact i2 j (by omega) hlt'
theorem Run.es{k:Nat}(hk:k<=ops.size): ∀j,j<k->(M j).skip=false->(⟨j,(M j).see,(M j).wr⟩:En) ∈ (D k).es:=by
 induction k with
 |zero=>intro j h;omega
 |succ k ih=>
  intro j hj hs;obtain⟨o,a,h1,h2,h3⟩:=hR.at' (k:=k) (by omega);rcases h3.run with⟨h4,_,_,_,h5,_⟩|⟨_,_,_,_,h5⟩
  . rw[h5];by_cases e:j=k
    . subst e;rw[h4]at hs;cases hs
    exact ih (by omega) j (by omega) hs
  rw[h5];by_cases e:j=k
  . subst e;exact aIC
  exact aKO _ (ih (by omega) j (by omega) hs)
theorem Run.flk{k:Nat}(hk:k<ops.size):cx.fl<=(M k).fl/\(M k).fl<=(D k).s.n:=by
 obtain⟨o,a,h1,h2,h3⟩:=hR.at' hk;exact h3.seen.fl (aKM hR.FC (hR.mono (aLp _) (by omega)))
theorem Run.aBQ{k b:Nat}(hk:k<ops.size)(hv:Vi D M k b):(M k).skip=false:=by
 obtain⟨o,a,h1,h2,h3⟩:=hR.at' hk;rcases h3.run with⟨_,_,_,_,_,_,h4⟩|⟨h4,_⟩
 . have h5:=hv.2;rw[h4]at h5;exact absurd ⟨aLp _,hv.1⟩ (iL h5).1
 exact h4
theorem Run.upk{k:Nat}(hk:k<ops.size){b:Nat}(hb:(D k).s.n<=b):hidden (M k).hid b=false:=by
 obtain⟨o,a,h1,h2,h3⟩:=hR.at' hk;refine h3.seen.up (fun p hp=>?_) (fun c hc=>hR.vW c (aKM (hR.mono (aLp _) (by omega)) hc)) b hb;obtain⟨j,h4,rfl⟩:=(hR.iv (aPt hk)).1 p hp;exact hR.mono (k:=j+1) (by omega) (by omega)
theorem free_spec{a:Nat}{see wr:See}{l:List En}(h:free a see wr l=true){e:En}(he:e ∈ l)(hm:meets e.wr see=true\/meets wr e.see=true):bit a e.i=true:=by
 unfold free at h;rw[JK]at h;have:=aIJ.1 h e he;rw[BG,kD,BG]at this;rcases hm with hm|hm<;>simpa[hm]using this
theorem Run.f1{i j b:Nat}(hij:i<j)(hj:j<ops.size)(hw:Wr D M i b)(hv:Vi D M j b):An (lT ops.toList []) j i:=by
 obtain⟨o,a,h1,h2,h3⟩:=hR.at' hj;obtain⟨_,s2,s3⟩:=h3.seen.hid b hv.1 hv.2;refine⟨a,h2,?_⟩;rcases hw with⟨w1,w2⟩|⟨w1,w2,w3⟩
 . exact s2 _ ((hR.iv (aPt hj)).2 i hij (Nat.lt_of_le_of_lt w1 w2)) w1 w2
 have ns:=hR.aBQ hj hv;have ni:=hR.aBQ (k:=i) (by omega) ⟨w1,w3⟩;rcases h3.run with⟨h4,_⟩|⟨_,_,h4,_⟩
 . rw[ns]at h4;cases h4
 obtain⟨o',a',q1,q2,q3⟩:=hR.at' (k:=i) (by omega);exact free_spec hR h4 (hR.es (aPt hj) i hij ni) (.inl (XJ (q3.seen.wr b w1 w2 w3) (s3 (aKM (hR.flk (k:=i) (by omega)).1 w2))))
theorem Run.f2{i j b:Nat}(hij:i<j)(hj:j<ops.size)(hv:Vi D M i b)(hw:Wr D M j b):An (lT ops.toList []) j i:=by
 obtain⟨o,a,h1,h2,h3⟩:=hR.at' hj;have hm:=hR.mono (k:=i) (k':=j) (by omega) (by omega);have hb:=hv.1;refine⟨a,h2,?_⟩;rcases hw with⟨w1,w2⟩|⟨w1,w2,w3⟩
 . omega
 have ns:=hR.aBQ hj ⟨w1,w3⟩;have ni:=hR.aBQ (k:=i) (by omega) hv;rcases h3.run with⟨h4,_⟩|⟨_,_,h4,_⟩
 . rw[ns]at h4;cases h4
 obtain⟨o',a',q1,q2,q3⟩:=hR.at' (k:=i) (by omega);exact free_spec hR h4 (hR.es (aPt hj) i hij ni) (.inr (XJ (h3.seen.wr b w1 w2 w3) ((q3.seen.hid b hv.1 hv.2).2.2 (aKM (hR.flk hj).1 w2))))
theorem Run.f3{i j b:Nat}(hij:i<j)(hj:j<ops.size)(hw:Wr D M i b)(hw':Wr D M j b):An (lT ops.toList []) j i:=by
 rcases hw' with⟨w1,w2⟩|⟨w1,w2,w3⟩
 . have:=hR.mono (k:=i+1) (k':=j) (by omega) (by omega);have:=hR.mono (k:=i) (k':=j) (by omega) (by omega);rcases hw with⟨v1,v2⟩|⟨v1,v2⟩<;>omega
 exact hR.f1 hij hj hw ⟨w1,w3⟩
theorem Run.vis{k b:Nat}(hk:k<ops.size)(hv:Vi D M k b):hidden cx.hid b=false:=by
 obtain⟨o,a,h1,h2,h3⟩:=hR.at' hk;exact(h3.seen.hid b hv.1 hv.2).1
theorem Run.wis{k b:Nat}(hk:k<ops.size)(hw:Wr D M k b):hidden cx.hid b=false/\cx.fl<=b/\hidden (M k).hid b=false/\(M k).fl<=b/\b<(D (k+1)).s.n:=by
 have h1:=hR.flk hk;have h2:=hR.mono (k:=0) (k':=k) (aLp _) (by omega);have h3:=hR.aGP hk;rcases hw with⟨w1,w2⟩|⟨w1,w2,w3⟩
 . exact⟨hR.vW b (by omega),by omega,hR.upk hk w1,by omega,w2⟩
 exact⟨hR.vis hk ⟨w1,w3⟩,by omega,w3,w2,by omega⟩
theorem Run.keep{k k' b:Nat}(hk:k<=k')(hk':k'<=ops.size)(hb:b<(D k).s.n)(hn: ∀j,k<=j->j<k'-> ¬Wr D M j b):(D k').s.h.get b=(D k).s.h.get b:=by
 obtain⟨d,rfl⟩:=aUX hk;clear hk
 induction d with
 |zero=>rfl
 |succ d ih=>
  rw[<-ih (by omega) (fun j h1 h2=>hn j h1 (by omega))];have hlt:=hR.mono (k:=k) (k':=k+d) (by omega) (by omega);refine(hR.fq (k:=k+d) (by omega)).2.1 b (by omega) ?_;have:=hn (k+d) (by omega) (by omega);rcases aKQ b (M (k+d)).fl with h|h
  . exact .inl h
  cases hc:hidden (M (k+d)).hid b with
  |true=>exact .inr rfl
  |false=>exact absurd (.inr ⟨by omega,h,hc⟩) this
theorem Run.above{k b:Nat}{o:HO}(hk:k<=ops.size)(hb:(D k).s.n<=b)(ho:(D k).s.h.get b=some o): ∃o',(D 0).s.h.get b=some o':=by
 induction k generalizing o with
 |zero=>exact⟨o,ho⟩
 |succ k ih=>
  obtain⟨o1,h1⟩:=(hR.fq (k:=k) (by omega)).2.2 b o hb ho;exact ih (by omega) (aKM (hR.aGP (k:=k) (by omega)) hb) h1
theorem Run.aMW{k t:Nat}(hk:k<ops.size)(hn: ∀o,ops[k]? =some o->o.dst≠some t):rC (D (k+1)).t t=rC (D k).t t:=by
 obtain⟨o,a,h1,h2,h3⟩:=hR.at' hk;rcases KU h3.put with⟨_,h4⟩|⟨j,h4,_,h5⟩
 . rw[h4]
 rw[h5];exact rP _ _ (fun e=>hn o h1 (by rw[h4,e]))
theorem Run.aLC{k k' t:Nat}(hk:k<=k')(hk':k'<=ops.size)(hn: ∀j,k<=j->j<k'-> ∀o,ops[j]? =some o->o.dst≠some t):rC (D k').t t=rC (D k).t t:=by
 obtain⟨d,rfl⟩:=aUX hk;clear hk
 induction d with
 |zero=>rfl
 |succ d ih=>
  rw[<-ih (by omega) (fun j h1 h2=>hn j h1 (by omega))];exact hR.aMW (k:=k+d) (by omega) (hn (k+d) (by omega) (by omega))
theorem Run.aVC{k t:Nat}{o:Oper}(hk:k<ops.size)(ho:ops[k]? =some o)(hd:o.dst=some t):rC (D (k+1)).t t=some (M k).v/\t<N:=by
 obtain⟨o',a,h1,h2,h3⟩:=hR.at' hk;rw[ho]at h1;cases h1;rcases KU h3.put with⟨h4,_⟩|⟨j,h4,h5,h6⟩
 . rw[hd]at h4;cases h4
 rw[hd]at h4;cases h4;rw[h6];exact⟨DF _ _ _,h5⟩
theorem Run.t1{i j:Nat}{o p:Oper}(hij:i<j)(ho:ops[i]? =some o)(hp:ops[j]? =some p)(hap:o.apart ops p=false):An (lT ops.toList []) j i:=by
 have hj:j<ops.size:=by
  rcases aKQ j ops.size with h|h
  . exact h
  rw[aL9 h]at hp;cases hp
 obtain⟨p',a,h1,h2,_⟩:=hR.at' hj;rcases aE7 _ _ _ hR.tok i j o p a hij (by rw[aEt];exact ho) (by rw[aEt];exact hp) h2 with h3|h3
 . rw[h3]at hap;cases hap
 rw[aHG]at h3;exact⟨a,h2,h3⟩
end
def oM(ρ ρ':Env)(b:Nat):Prop:=ρ'.blk b=ρ.blk b/\ρ'.off b=ρ.off b/\ρ'.cp b=ρ.cp b
mutual
theorem AB{G G':Gh}{n n':Nat}(h: ∀b,@Gd G n b->@Gd G' n' b):(x:AV)->@Sc G n x->@Sc G' n' x
 | .v _,_=>trivial
 | .ptr b off,hs=>h b hs
 | .sl b _ _ _,hs=>h b hs
 | .y8 b _ _ _,hs=>h b hs
 | .fn _ first caps,hs=>⟨oD h first hs.1,oD h caps hs.2⟩
 | .EJ _ x,hs=>AB h x hs
 | .agg l,hs=>oD h l hs
 | .eP l,hs=>oD h l hs
 | .mp b,hs=>h b hs
theorem oD{G G':Gh}{n n':Nat}(h: ∀b,@Gd G n b->@Gd G' n' b):(l:List AV)->@jM G n l->@jM G' n' l
 |[],_=>trivial
 |x::l,hs=>⟨AB h x hs.1,oD h l hs.2⟩
end
mutual
theorem FI{G:Gh}{n:Nat}{ρ ρ':Env}(h: ∀b,@Gd G n b->oM ρ ρ' b):(x:AV)->@Sc G n x->den ρ' x=den ρ x
 | .v _,_=>rfl
 | .ptr b off,hs=>by simp only[den,(h b hs).1,(h b hs).2.1]
 | .sl b _ _ _,hs=>by simp only[den,(h b hs).1,(h b hs).2.1]
 | .y8 b _ _ _,hs=>by simp only[den,Env.cap,(h b hs).1,(h b hs).2.1,(h b hs).2.2]
 | .fn _ first caps,hs=>by simp only[den,yQ h first hs.1,yQ h caps hs.2]
 | .EJ _ x,hs=>by simp only[den,FI h x hs]
 | .agg l,hs=>by simp only[den,yQ h l hs]
 | .eP l,hs=>by simp only[den,yQ h l hs]
 | .mp b,hs=>by simp only[den,(h b hs).2.2]
theorem yQ{G:Gh}{n:Nat}{ρ ρ':Env}(h: ∀b,@Gd G n b->oM ρ ρ' b):(l:List AV)->@jM G n l->kC ρ' l=kC ρ l
 |[],_=>rfl
 |x::l,hs=>by simp only[kC,FI h x hs.1,yQ h l hs.2]
end
theorem wY{G G':Gh}{n n' b:Nat}{ρ ρ':Env}{w w':World}{o:HO}(h:@HO.Holds G ρ n b w o)(hi: ∀b,@Gd G n b->@Gd G' n' b)(he: ∀b,@Gd G n b->oM ρ ρ' b)
 (hb:oM ρ ρ' b) (hw:w'.heap[ρ.blk b]? =w.heap[ρ.blk b]?):@HO.Holds G' ρ' n' b w' o:=by
 have hden: ∀l:List AV,@jM G n l->l.map (den ρ')=l.map (den ρ):=fun l hl=>by rw[<-fK,<-fK];exact yQ he l hl
 cases o with
 |ro cells=>
  obtain⟨⟨x,h1⟩,h2,h3⟩:=h;refine⟨⟨x,by rw[hb.1,hw];exact h1⟩,fun i x hx=>?_,oD hi _ h3⟩;have hd:den ρ' x=den ρ x:=FI he x ((@aY G _ _).1 h3 x (aLH hx));rw[hd,<-h2 i x hx,hb.1,hb.2.1];simp only[World.cell?,hw]
 |row cells el=>
  obtain⟨h0,c,fr,h1,h2,h3,h4⟩:=h;exact⟨by rw[hb.2.1];exact h0,c,fr,by rw[hb.1,hw];exact h1,h2,by rw[hden _ h4];exact h3,oD hi _ h4⟩
 |mM cells es el=>
  obtain⟨h0,h00,c,fr,h1,h2,h3,⟨rest,h4⟩,h5⟩:=h;exact⟨by rw[hb.2.1];exact h0,h00,c,fr,by rw[hb.1,hw];exact h1,h2,by unfold Env.cap;rw[hb.2.2];exact h3,⟨rest,by rw[hden _ h5];exact h4⟩,oD hi _ h5⟩
 |iter s pos=>exact⟨by rw[hb.2.1];exact h.1,by rw[hb.1,hw];exact h.2⟩
 |lp st jm N t ps a1i bd d=>
  obtain⟨h0,r,h1,⟨h2,h3,h4,h5,h6,h7⟩,h8,h9,h10⟩:=h;refine⟨by rw[hb.2.1];exact h0,r,by rw[hb.1,hw];exact h1,⟨h2,h3,h4,h5,h6,by rw[(he d h8).1];exact h7⟩,hi d h8,h9,fun i v hv=>?_⟩;obtain⟨k1,k2,k3⟩:=h10 i v hv;exact⟨AB hi _ k1,k2,by rw[FI he _ k1];exact k3⟩
 |df=>exact⟨by rw[hb.2.1];exact h.1,by rw[hb.1,hw];exact h.2⟩
 |mpo ks vs=>
  obtain⟨h0,ms,clk,h1,h2,h3,h4,h5⟩:=h;exact⟨by rw[hb.2.1];exact h0,ms,clk,by rw[hb.1,hw];exact h1,by rw[hden _ h4];exact h2,by rw[hden _ h5];exact h3,oD hi _ h4,oD hi _ h5⟩
section
variable(G0:Gh)(w0 ws:World)(cx:Cx)(N:Nat)(ops:Array Oper)(D:Nat->Ds)(M:Nat->Md)(ρ0:Env)(ds:List Deferred)
def Iv(j b:Nat):Prop:=(D j).s.n<=b/\b<(D (j+1)).s.n
def Sj(j b:Nat):Prop:= ∃j',(j'=j\/An (lT ops.toList []) j j')/\Iv D j' b
def Old(b:Nat):Prop:=b<(D 0).s.n/\ ¬G0.bad b
def wrT(j t:Nat):Prop:= ∃o,ops[j]? =some o/\o.dst=some t
@[instance_reducible] def GT(t k:Nat):Gh:=⟨fun b=> ¬(Old G0 D b\/ ∃j,j<k/\wrT ops j t/\Sj ops D j b)⟩
@[instance_reducible] def GM(c k:Nat):Gh:=⟨fun b=> ¬(Old G0 D b\/ ∃j,j<k/\Wr D M j c/\Sj ops D j b)⟩
@[instance_reducible] def GI(i:Nat):Gh:=⟨fun b=>G0.bad b\/((D 0).s.n<=b/\b<(D i).s.n/\ ¬ ∃j,An (lT ops.toList []) i j/\Iv D j b)⟩
variable(Dn:Nat->Prop)
def CT(t k:Nat):Prop:=(∀j,j<k->wrT ops j t->Dn j)/\ ∀j,k<=j->wrT ops j t-> ¬Dn j
def CM(b k:Nat):Prop:=(∀j,j<k->Wr D M j b->Dn j)/\ ∀j,k<=j->j<ops.size->Wr D M j b-> ¬Dn j
def Live(b k:Nat)(o:HO):Prop:=k<=ops.size/\CM ops D M Dn b k/\hidden cx.hid b=false/\(D k).s.h.get b=some o
structure Inv(ρ:Env)(w:World)(a:Act):Prop where
 size:a.tmps.size=N
 defers:a.defers=ds
 ext:Ext (D 0).s.n ρ0 ρ
 below:Below w0.heap.size w0 w
 tmp: ∀t k v,k<=ops.size->CT ops Dn t k->rC (D k).t t=some v->t<N/\a.tmps[t]? =some (den ρ v)/\@Sc (GT G0 ops D t k) (D ops.size).s.n v
 obj: ∀b k o,Live cx ops D M Dn b k o->b<(D k).s.n/\@HO.Holds (GM G0 ops D M b k) ρ (D ops.size).s.n b w o/\(cx.l<=b->w0.heap.size<=ρ.blk b)/\(b<cx.l->ρ.blk b<w0.heap.size)
 inj: ∀b b' k k' o o',Live cx ops D M Dn b k o->Live cx ops D M Dn b' k' o'->cx.l<=b->cx.l<=b'->ρ.blk b=ρ.blk b'->b=b'
 fr:Fr ρ0 cx (D 0).s ws w
 new: ∀b k o,Live cx ops D M Dn b k o->cx.fl<=b->ws.heap.size<=ρ.blk b\/ ∃b0 o0,cx.fl<=b0/\(D 0).s.look cx.hid b0=some o0/\ρ0.blk b0=ρ.blk b
end
theorem VE{all:List Oper}{ops:Array Oper}{o:Oper}{b:Bool}{tb:Tab}{ρ:Env}{a:Act}{t:TE}(hF:EI tb)(hρ:Lv tb ρ)(hall:all=ops.toList)(h:JU tb all t o=some b)
 (ht: ∀d v,d ∈ o.looksAt ops->rC t d=some v->a.tmps[d]? =some (den ρ v)):Region.wanted o (yielded ops a.tmps)=b:=by
 subst hall;unfold JU at h;unfold Region.wanted;cases hg:o.guard with
 |none=>rw[hg]at h;cases h;rfl
 |some p=>
  rw[hg]at h;obtain⟨j,want⟩:=p;obtain⟨g,h1,h2⟩:=aA.1 h;obtain⟨d,h3,h4⟩:=aA.1 h2;obtain⟨x,h5,h6⟩:=aA.1 h4;obtain⟨u,hu,h7⟩:=iI h6;rw[pO,aEt]at h1;have h8:=ht d _ (by simp[Oper.looksAt,hg,h1,h3]) h5;rw[<-aCf hF hρ,hu]at h8;have:=P6 h7;simp only[yielded,h1,h3,aPi,h8,den];cases u<;>exact this
section
variable{G0:Gh}{w0 ws:World}{tb:Tab}{call:fD}{cx:Cx}{N:Nat}{ops:Array Oper}{D:Nat->Ds}{M:Nat->Md}{ρ0 ρ:Env}{ds:List Deferred}{Dn:Nat->Prop}{w:World}{a:Act}{i:Nat}{o:Oper}
structure Now(tb:Tab)(call:fD)(G0:Gh)(w0 ws:World)(cx:Cx)(N:Nat)(ops:Array Oper)(D:Nat->Ds)(M:Nat->Md)(ρ0:Env)(ds:List Deferred)(Dn:Nat->Prop)(ρ:Env)(w:World)(a:Act)(i:Nat)(o:Oper):Prop where
 run:Run tb call cx N ops D M
 ini:@aZ G0 w0 ρ0 cx (D 0).s ws
 inv:Inv G0 w0 ws cx N ops D M ρ0 ds Dn ρ w a
 get:ops[i]? =some o
 nd: ¬Dn i
 anc: ∀j,An (lT ops.toList []) i j->Dn j
 cl: ∀j k,Dn j->An (lT ops.toList []) j k->Dn k
variable(h:Now tb call G0 w0 ws cx N ops D M ρ0 ds Dn ρ w a i o)
include h
theorem Now.lt:i<ops.size:=by
 rcases aKQ i ops.size with h1|h1
 . exact h1
 have:=h.get;rw[aL9 h1]at this;cases this
theorem Now.ct{t:Nat}(h1: ∀(j:Nat) (p:Oper),j<i->ops[j]? =some p->p.dst=some t->p.apart ops o=false)(h2: ∀(j:Nat) (p:Oper),i<j->ops[j]? =some p->p.dst=some t->o.apart ops p=false):CT ops Dn t i:=by
 refine⟨fun j hj ⟨p,hp,hd⟩=>?_,fun j hj ⟨p,hp,hd⟩ hn=>?_⟩
 . exact h.anc j (h.run.t1 hj hp h.get (h1 j p hj hp hd))
 rcases aKQ i j with h3|h3
 . exact h.nd (h.cl j i hn (h.run.t1 h3 h.get hp (h2 j p h3 hp hd)))
 have:j=i:=by omega
 subst this;exact h.nd hn
theorem Now.aOC{t:Nat}(ht:t ∈ o.looksAt ops):CT ops Dn t i:=by
 refine h.ct (fun j p hj hp hd=>?_) (fun j p hj hp hd=>?_)
 . cases hc:p.apart ops o with
   |false=>rfl
   |true=>exact absurd ht ((aVT hc).1 t hd)
 cases hc:o.apart ops p with
 |false=>rfl
 |true=>exact absurd ht ((aVT hc).2.2 t hd)
theorem Now.cmV{b:Nat}(hv:Vi D M i b):CM ops D M Dn b i:=by
 refine⟨fun j hj hw=>h.anc j (h.run.f1 hj h.lt hw hv),fun j hj hjs hw hn=>?_⟩;rcases aKQ i j with h3|h3
 . exact h.nd (h.cl j i hn (h.run.f2 h3 hjs hv hw))
 have:j=i:=by omega
 subst this;exact h.nd hn
theorem Now.n0:(D 0).s.n<=(D i).s.n:=h.run.mono (aLp _) (aPt h.lt)
theorem Now.live{b:Nat}{x:HO}(hb:(D i).s.look (M i).hid b=some x):b<(D i).s.n/\Vi D M i b/\Live cx ops D M Dn b i x:=by
 obtain⟨h1,h2⟩:=Hs.dF.1 hb;have hlt:b<(D i).s.n:=by
  rcases aKQ b (D i).s.n with h3|h3
  . exact h3
  obtain⟨x',h4⟩:=h.run.above (aPt h.lt) h3 h2;have:=h.n0;exact absurd (@aZ.lt G0 _ _ _ _ _ h.ini b x' (Hs.dF.2 ⟨h.run.vW b (by omega),h4⟩)) (by omega)
 exact⟨hlt,⟨hlt,h1⟩,aPt h.lt,h.cmV ⟨hlt,h1⟩,h.run.vis h.lt ⟨hlt,h1⟩,h2⟩
theorem Now.aMg{j b:Nat}(hj:An (lT ops.toList []) i j)(hs:Sj ops D j b):@Gd (GI G0 ops D i) (D i).s.n b:=by
 obtain⟨j',h1,h2,h3⟩:=hs;have hja:An (lT ops.toList []) i j':=by
  rcases h1 with rfl|h1
  . exact hj
  exact aIn h.run.back _ _ _ hj h1
 have hlt:=aIo h.run.back _ _ hja;have h4:=h.run.mono (k:=0) (k':=j') (aLp _) (by have:=h.lt;omega);have h5:=h.run.mono (k:=j'+1) (k':=i) (by omega) (aPt h.lt);refine⟨by omega,?_⟩;rintro(h6|⟨_,_,h6⟩)
 . exact @aZ.good G0 _ _ _ _ _ h.ini b (by omega) h6
 exact h6 ⟨j',hja,h2,h3⟩
theorem Now.aMh{b:Nat}(hs:Old G0 D b):@Gd (GI G0 ops D i) (D i).s.n b:=by
 have h1:=h.n0;have h2:=hs.1;refine⟨by omega,?_⟩;rintro(h6|⟨h7,_,_⟩)
 . exact hs.2 h6
 omega
theorem Now.sat:@aZ (GI G0 ops D i) w0 ρ ⟨cx.g,cx.l,(M i).fl,(M i).hid⟩ (D i).s w:=by
 have hfl:=h.run.flk h.lt;have hi:=h.ini;have gn:=@aZ.gn G0 _ _ _ _ _ hi;have ln:=@aZ.ln G0 _ _ _ _ _ hi;have FC:=h.run.FC;have n0:=h.n0;refine @aZ.mk (GI G0 ops D i) _ _ _ _ _ ?_ ?_ ?_ ?_ ?_ ?_ ?_ ?_ ?_ ?_ ?_ ?_ ?_
 . exact fun g hg=>by
    have:=h.inv.ext g (by have hg:g<cx.g.n:=hg;omega);rw[this.1,this.2.1,this.2.2];exact @aZ.gl G0 _ _ _ _ _ hi g hg
 . exact fun g hg=>by
    have hg:g<cx.g.n:=hg;rintro(h6|⟨h7,_,_⟩)
    . exact @aZ.YA G0 _ _ _ _ _ hi g hg h6
    omega
 . exact fun b hb=>by
    rintro(h6|⟨h7,h8,_⟩)
    . exact @aZ.good G0 _ _ _ _ _ hi b (by omega) h6
    omega
 . exact gn
 . show cx.l<=(M i).fl;omega
 . exact hfl.2
 . exact fun b hb=>h.run.upk h.lt hb
 . exact h.inv.below
 . exact fun b x hb=>(h.live hb).1
 . exact fun b x hb=>by
    obtain⟨k1,k2,k3⟩:=h.live hb;obtain⟨j1,j2,_,_⟩:=h.inv.obj b i x k3;refine wY j2 (fun c hc=>?_) (fun c hc=>⟨rfl,rfl,rfl⟩) ⟨rfl,rfl,rfl⟩ rfl;rcases aOw.1 hc.2 with h6|⟨j,h6,h7,h8⟩
    . exact h.aMh h6
    exact h.aMg (h.run.f1 h6 h.lt h7 k2) h8
 . exact fun b x hb hl=>(h.inv.obj b i x (h.live hb).2.2).2.2.1 hl
 . exact fun b x hb hl=>(h.inv.obj b i x (h.live hb).2.2).2.2.2 hl
 exact fun b b' x x' hb hb' hl hl' e=>h.inv.inj b b' i i x x' (h.live hb).2.2 (h.live hb').2.2 hl hl' e
theorem Now.slot{t:Nat}{v:AV}(ht:t ∈ o.looksAt ops)(hv:rC (D i).t t=some v):@Sc (GI G0 ops D i) (D i).s.n v/\a.tmps[t]? =some (den ρ v):=by
 obtain⟨h1,h2,h3⟩:=h.inv.tmp t i v (aPt h.lt) (h.aOC ht) hv;refine⟨AB (fun c hc=>?_) v h3,h2⟩;rcases aOw.1 hc.2 with h6|⟨j,h6,⟨p,h7,h8⟩,h9⟩
 . exact h.aMh h6
 refine h.aMg (h.run.t1 h6 h7 h.get ?_) h9;cases hc:p.apart ops o with
 |false=>rfl
 |true=>exact absurd ht ((aVT hc).1 t h8)
theorem Now.vals(hF:EI tb)(hg:cx.g=tb.g):@kM (GI G0 ops D i) tb ρ (D i).s.n a (D i).t o.op:=by
 intro x hx v hv;cases x with
 |tmp t=>
  obtain⟨u,hu,hv⟩:=aA.1 hv;cases hv;obtain⟨h1,h2⟩:=h.slot (t:=t) (aT5 _ (List.mem_filterMap.2 ⟨.tmp t,by simpa using hx,rfl⟩)) hu;exact⟨@aL1 (GI G0 ops D i) _ _ _ h1,by rw[aCf hF (@aZ.lv (GI G0 ops D i) _ _ _ _ _ _ h.sat hg)];simp[Act.eval,h2]⟩
 |const u=>cases hv;exact⟨trivial,rfl⟩
 |global g=>
  obtain⟨h1,h2⟩:=aF.1 hv;cases h2;have h3:g<cx.g.n:=by rw[hg];have:=aK.1 h1;omega
  have hs:=h.sat;obtain⟨h4,h5,_⟩:=@aZ.gl (GI G0 ops D i) _ _ _ _ _ hs g h3;refine⟨⟨?_,@aZ.YA (GI G0 ops D i) _ _ _ _ _ hs g h3⟩,?_⟩
  . have:=@aZ.gn G0 _ _ _ _ _ h.ini;have:=@aZ.ln G0 _ _ _ _ _ h.ini;have:=h.run.FC;have:=h.n0;omega
  simp[Act.eval,den,h4,h5]
 |func f=>cases hv;exact⟨trivial,rfl⟩
end
def mix(ρ ρ':Env)(lo hi:Nat):Env:=
 ⟨fun b=>if lo<=b/\b<hi then ρ'.blk b else ρ.blk b,fun b=>if lo<=b/\b<hi then ρ'.off b else ρ.off b,fun b=>if lo<=b/\b<hi then ρ'.cp b else ρ.cp b⟩
theorem aNO{ρ ρ':Env}{lo hi b:Nat}(h:Ext lo ρ ρ')(hb:b<hi):oM ρ' (mix ρ ρ' lo hi) b:=by
 unfold oM mix;by_cases hl:lo<=b
 . simp only[hl,hb,and_self,aUj]
 have:=h b (by omega);simp only[hl,aUO,aPv];exact⟨this.1.symm,this.2.1.symm,this.2.2.symm⟩
theorem aKz{ρ ρ':Env}{lo hi b:Nat}(hb: ¬(lo<=b/\b<hi)):oM ρ (mix ρ ρ' lo hi) b:=by
 unfold oM mix;simp only[hb,aPv,and_self]
section
variable{G0:Gh}{w0 ws:World}{tb:Tab}{call:fD}{cx:Cx}{N:Nat}{ops:Array Oper}{D:Nat->Ds}{M:Nat->Md}{ρ0 ρ ρ':Env}{ds:List Deferred}{Dn:Nat->Prop}{w w':World}{a:Act}{i:Nat}{o:Oper}
variable(h:Now tb call G0 w0 ws cx N ops D M ρ0 ds Dn ρ w a i o)
variable(hst:@Stp (GI G0 ops D i) w0 ρ ρ' ⟨cx.g,cx.l,(M i).fl,(M i).hid⟩ (D i).s (D (i+1)).s w w')
include h
theorem Now.aSw{j b:Nat}(hj:Dn j)(hjs:j<ops.size)(hb:Iv D j b): ¬((D i).s.n<=b/\b<(D (i+1)).s.n):=by
 rintro⟨h1,h2⟩;obtain⟨h3,h4⟩:=hb;have hi:=h.lt;rcases Nat.lt_trichotomy j i with h5|h5|h5
 . have:=h.run.mono (k:=j+1) (k':=i) (by omega) (by omega);omega
 . subst h5;exact h.nd hj
 have:=h.run.mono (k:=i+1) (k':=j) (by omega) (by omega);omega
theorem Now.aLF{j b:Nat}(hj:Dn j)(hjs:j<ops.size)(hs:Sj ops D j b): ¬((D i).s.n<=b/\b<(D (i+1)).s.n):=by
 obtain⟨j',h1,h2⟩:=hs;rcases h1 with rfl|h1
 . exact h.aSw hj hjs h2
 exact h.aSw (h.cl _ _ hj h1) (by have:=aIo h.run.back _ _ h1;omega) h2
theorem Now.aF4{b:Nat}(hs:Old G0 D b): ¬((D i).s.n<=b/\b<(D (i+1)).s.n):=by
 have:=h.n0;have:=hs.1;omega
theorem Now.sizeOf{j:Nat}{p:Oper}(hp:ops[j]? =some p):j<ops.size:=by
 rcases aKQ j ops.size with h1|h1
 . exact h1
 rw[aL9 h1]at hp;cases hp
theorem Now.aRj{b:Nat}(hb:@Gd (GI G0 ops D i) (D (i+1)).s.n b):b<(D ops.size).s.n/\(Old G0 D b\/Sj ops D i b):=by
 have hi:=h.lt;have h1:=h.run.mono (k:=i+1) (k':=ops.size) (by omega) (by omega);obtain⟨h2,h3⟩:=hb;refine⟨by omega,?_⟩;by_cases h4:b<(D 0).s.n
 . exact .inl ⟨h4,fun hb=>h3 (.inl hb)⟩
 right
 by_cases h5:(D i).s.n<=b
 . exact⟨i,.inl rfl,h5,h2⟩
 by_cases h6: ∃j,An (lT ops.toList []) i j/\Iv D j b
 . obtain⟨j,h7,h8⟩:=h6;exact⟨j,.inr h7,h8⟩
 exact absurd (.inr ⟨by omega,by omega,h6⟩) h3
theorem Now.aTt{t k:Nat}(hw: ¬wrT ops i t)(hc:CT ops (fun j=>Dn j\/j=i) t k):CT ops Dn t k:=by
 refine⟨fun j hj hp=>?_,fun j hj hp hn=>hc.2 j hj hp (.inl hn)⟩;rcases hc.1 j hj hp with h1|rfl
 . exact h1
 exact absurd hp hw
theorem Now.aTz{b k:Nat}(hw: ¬Wr D M i b)(hc:CM ops D M (fun j=>Dn j\/j=i) b k):CM ops D M Dn b k:=by
 refine⟨fun j hj hp=>?_,fun j hj hjs hp hn=>hc.2 j hj hjs hp (.inl hn)⟩;rcases hc.1 j hj hp with h1|rfl
 . exact h1
 exact absurd hp hw
theorem Now.aTu{t k:Nat}(hw:wrT ops i t)(hc:CT ops (fun j=>Dn j\/j=i) t k)(hk:k<=ops.size):i<k/\rC (D k).t t=some (M i).v/\t<N:=by
 obtain⟨o',h1,h2⟩:=hw;have hi:=h.lt;rw[h.get]at h1;cases h1;have hik:i<k:=by
  rcases aKQ i k with h3|h3
  . exact h3
  exact absurd (.inr rfl) (hc.2 i h3 ⟨o,h.get,h2⟩)
 obtain⟨h3,h4⟩:=h.run.aVC hi h.get h2;refine⟨hik,?_,h4⟩;rw[<-h3];refine h.run.aLC (by omega) hk (fun j hj hjk p hp hd=>?_);have hap:o.apart ops p=false:=by
  cases hx:o.apart ops p with
  |false=>rfl
  |true=>exact absurd hd ((aVT hx).2.1 t h2)
 have han:=h.run.t1 (by omega) h.get hp hap;rcases hc.1 j hjk ⟨p,hp,hd⟩with h5|h5
 . exact h.nd (h.cl _ _ h5 han)
 omega
theorem Now.YZ{b k:Nat}{x:HO}(hw:Wr D M i b)(hl:Live cx ops D M (fun j=>Dn j\/j=i) b k x):i<k/\(D (i+1)).s.look (M i).hid b=some x:=by
 obtain⟨hk,hc,h1,h2⟩:=hl;have hi:=h.lt;obtain⟨_,_,w3,_,w5⟩:=h.run.wis hi hw;have hik:i<k:=by
  rcases aKQ i k with h3|h3
  . exact h3
  exact absurd (.inr rfl) (hc.2 i h3 hi hw)
 refine⟨hik,Hs.dF.2 ⟨w3,?_⟩⟩;rw[<-h.run.keep (k:=i+1) (by omega) hk w5 (fun j hj hjk hwj=>?_)]
 . exact h2
 have han:=h.run.f3 (i:=i) (j:=j) (by omega) (by omega) hw hwj;rcases hc.1 j hjk hwj with h5|h5
 . exact h.nd (h.cl _ _ h5 han)
 omega
include hst
theorem Now.ZW{c:Nat}{x:HO}(hf:(M i).fl<=c)(hb:(D i).s.look (M i).hid c=some x):Wr D M i c/\Live cx ops D M Dn c i x:=by
 obtain⟨k1,k2,k3⟩:=h.live hb;exact⟨.inr ⟨k1,hf,k2.2⟩,k3⟩
theorem Now.lfl:cx.l<=(M i).fl:=aKM (@aZ.ln G0 _ _ _ _ _ h.ini) (h.run.flk h.lt).1
theorem Now.step (hv:@Sc (GI G0 ops D i) (D (i+1)).s.n (M i).v):
 Inv G0 w0 ws cx N ops D M ρ0 ds (fun j=>Dn j\/j=i) (mix ρ ρ' (D i).s.n (D (i+1)).s.n) w' (a.put o.dst (den ρ' (M i).v)):=by
 have hi:=h.lt;have n0:=h.n0;have hext:=@Stp.ext (GI G0 ops D i) _ _ _ _ _ _ _ _ hst;have OX:=@Stp.sat (GI G0 ops D i) _ _ _ _ _ _ _ _ hst;have hfr:=@Stp.fr (GI G0 ops D i) _ _ _ _ _ _ _ _ hst;have hnew:=@Stp.new (GI G0 ops D i) _ _ _ _ _ _ _ _ hst;have aWw:=h.lfl hst;have aSL:=h.run.flk hi;have ZK: ∀b,b<(D (i+1)).s.n->oM ρ' (mix ρ ρ' (D i).s.n (D (i+1)).s.n) b:=fun b hb=>aNO hext hb;have G6: ∀b,¬((D i).s.n<=b/\b<(D (i+1)).s.n)->oM ρ (mix ρ ρ' (D i).s.n (D (i+1)).s.n) b:=fun b hb=>aKz hb;have noW: ∀b,¬Wr D M i b-> ¬((D i).s.n<=b/\b<(D (i+1)).s.n):=fun b hw hb=>hw (.inl hb);have JR: ∀ {b k x},¬Wr D M i b->Live cx ops D M (fun j=>Dn j\/j=i) b k x->Live cx ops D M Dn b k x:=
  fun hw hl=>⟨hl.1,h.aTz hw hl.2.1,hl.2.2⟩
 have apart: ∀ {b k x},¬Wr D M i b->Live cx ops D M Dn b k x-> ∀c x',(M i).fl<=c->(D i).s.look (M i).hid c=some x'->ρ.blk c≠ρ.blk b:=by
  intro b k x hw hl c x' hf hc e;obtain⟨k1,k2⟩:=h.ZW hst hf hc;have hlc:cx.l<=c:=aKM aWw hf;rcases aKQ b cx.l with hb|hb
  . have:=(h.inv.obj b k x hl).2.2.2 hb;have:=(h.inv.obj c i x' k2).2.2.1 hlc;omega
  have:=h.inv.inj c b i k x' x k2 hl hlc hb e;subst this;exact hw k1
 refine⟨?_,?_,?_,@aZ.below (GI G0 ops D i) _ _ _ _ _ OX,?_,?_,?_,?_,?_⟩
 . have:=h.inv.size;cases hd:o.dst<;>simp[Act.put,this]
 . rw[put_defers];exact h.inv.defers
 . intro b hb;have h1:=h.inv.ext b hb;have h2:=G6 b (by omega);exact⟨h2.1.trans h1.1,h2.2.1.trans h1.2.1,h2.2.2.trans h1.2.2⟩
 ·
  intro t k v hk hc hg;by_cases hw:wrT ops i t
  . obtain⟨h1,h2,h3⟩:=h.aTu hw hc hk;rw[h2]at hg;cases hg;obtain⟨o',k1,k2⟩:=id hw;rw[h.get]at k1;cases k1;refine⟨h3,?_,AB (fun b hb=>?_) _ hv⟩
    . rw[k2];have hden:den (mix ρ ρ' (D i).s.n (D (i+1)).s.n) (M i).v=den ρ' (M i).v:=FI (fun b hb=>ZK b hb.1) _ hv;rw[hden];simp[Act.put,aUA,h.inv.size,h3]
    obtain⟨h4,h5⟩:=h.aRj hb;refine⟨h4,aOw.2 ?_⟩;rcases h5 with h5|h5
    . exact .inl h5
    exact .inr ⟨i,h1,hw,h5⟩
  have hc':=h.aTt hw hc;obtain⟨h1,h2,h3⟩:=h.inv.tmp t k v hk hc' hg;refine⟨h1,?_,h3⟩;have hden:den (mix ρ ρ' (D i).s.n (D (i+1)).s.n) v=den ρ v:=FI (fun b hb=>G6 b (by
   rcases aOw.1 hb.2 with h6|⟨j,h6,h7,h8⟩
   . exact h.aF4 h6
   obtain⟨p,h9,_⟩:=id h7;exact h.aLF (hc'.1 j h6 h7) (h.sizeOf h9) h8)) _ h3
  rw[hden,<-h2];cases hd:o.dst with
  |none=>rfl
  |some d=>
   have:d≠t:=fun e=>hw ⟨o,h.get,by rw[hd,e]⟩;simp only[Act.put];rw[aJN this]
 ·
  intro b k x hl;by_cases hw:Wr D M i b
  . obtain⟨h1,h2⟩:=h.YZ hw hl;obtain⟨_,_,_,w4,w5⟩:=h.run.wis hi hw;have hm:=h.run.mono (k:=i+1) (k':=k) (by omega) hl.1;refine⟨by omega,?_,?_,?_⟩
    . refine wY (@aZ.obj (GI G0 ops D i) _ _ _ _ _ OX b x h2) (fun c hc=>?_) (fun c hc=>ZK c hc.1) (ZK b w5) rfl;obtain⟨h4,h5⟩:=h.aRj hc;refine⟨h4,aOw.2 ?_⟩;rcases h5 with h5|h5
      . exact .inl h5
      exact .inr ⟨i,h1,hw,h5⟩
    . intro hl';rw[(ZK b w5).1];exact @aZ.new (GI G0 ops D i) _ _ _ _ _ OX b x h2 hl'
    intro hl';omega
  have hl':=JR hw hl;obtain⟨h1,h2,h3,h4⟩:=h.inv.obj b k x hl';have hag:=G6 b (noW b hw);refine⟨h1,?_,?_,?_⟩
  . refine wY h2 (fun c hc=>hc) (fun c hc=>G6 c ?_) hag ?_
    . rcases aOw.1 hc.2 with h6|⟨j,h6,h7,h8⟩
      . exact h.aF4 h6
      exact h.aLF (hl'.2.1.1 j h6 h7) (by have:=hl.1;omega) h8
    exact hfr.block _ (@HO.Holds.lt (GM G0 ops D M b k) _ _ _ _ _ h2) (apart hw hl')
  . intro q;rw[hag.1];exact h3 q
  intro q;rw[hag.1];exact h4 q
 ·
  intro b b' k k' x x' hl hl' hb hb' e;have mixed: ∀ {b b' k k' x x'},Live cx ops D M (fun j=>Dn j\/j=i) b k x->Live cx ops D M (fun j=>Dn j\/j=i) b' k' x'->cx.l<=b->cx.l<=b'->Wr D M i b-> ¬Wr D M i b'->
   (mix ρ ρ' (D i).s.n (D (i+1)).s.n).blk b≠(mix ρ ρ' (D i).s.n (D (i+1)).s.n).blk b':=by
   intro b b' k k' x x' hl hl' hb hb' hw hw' e;obtain⟨_,_,_,w4,w5⟩:=h.run.wis hi hw;have hl'':=JR hw' hl';rw[(ZK b w5).1,(G6 b' (noW b' hw')).1]at e;obtain⟨_,h2,_⟩:=h.inv.obj b' k' x' hl'';have hlt:=@HO.Holds.lt (GM G0 ops D M b' k') _ _ _ _ _ h2;rcases hnew b x (h.YZ hw hl).2 w4 with h5|⟨b0,o0,h5,h6,h7⟩
   . omega
   exact apart hw' hl'' b0 o0 h5 h6 (h7.trans e)
  by_cases hw:Wr D M i b<;>by_cases hw':Wr D M i b'
  . obtain⟨_,_,_,w4,w5⟩:=h.run.wis hi hw;obtain⟨_,_,_,w4',w5'⟩:=h.run.wis hi hw';rw[(ZK b w5).1,(ZK b' w5').1]at e;exact @aZ.inj (GI G0 ops D i) _ _ _ _ _ OX b b' x x' (h.YZ hw hl).2 (h.YZ hw' hl').2 hb hb' e
  . exact absurd e (mixed hl hl' hb hb' hw hw')
  . exact absurd e.symm (mixed hl' hl hb' hb hw' hw)
  rw[(G6 b (noW b hw)).1,(G6 b' (noW b' hw')).1]at e;exact h.inv.inj b b' k k' x x' (JR hw hl) (JR hw' hl') hb hb' e
 ·
  refine⟨hfr.os.trans h.inv.fr.os,hfr.tape.trans h.inv.fr.tape,hfr.output.trans h.inv.fr.output,aKM h.inv.fr.size hfr.size,fun r hr hn=>?_⟩;rw[hfr.block r (aG0 hr h.inv.fr.size) (fun c x hf hc e=>?_)]
  . exact h.inv.fr.block r hr hn
  obtain⟨k1,k2⟩:=h.ZW hst hf hc;rcases h.inv.new c i x k2 (aKM aSL.1 hf)with h5|⟨b0,o0,h5,h6,h7⟩
  . omega
  exact hn b0 o0 h5 h6 (h7.trans e)
 . intro b k x hl hf;by_cases hw:Wr D M i b
   . obtain⟨_,_,_,w4,w5⟩:=h.run.wis hi hw;rw[(ZK b w5).1];rcases hnew b x (h.YZ hw hl).2 w4 with h5|⟨b0,o0,h5,h6,h7⟩
     . exact .inl (aKM h.inv.fr.size h5)
     obtain⟨k1,k2⟩:=h.ZW hst h5 h6;rw[<-h7];exact h.inv.new b0 i o0 k2 (aKM aSL.1 h5)
   rw[(G6 b (noW b hw)).1];exact h.inv.new b k x (JR hw hl) hf
end
theorem Y7(e:Edge):Region.binds .any e=binding e:=by
 obtain⟨on,g⟩:=e;cases g<;>rfl
section
variable{G0:Gh}{w0 ws:World}{tb:Tab}{call:fD}{cx:Cx}{N:Nat}{ops:Array Oper}{D:Nat->Ds}{M:Nat->Md}{ρ0 ρ:Env}{ds:List Deferred}{Dn:Nat->Prop}{w:World}{a:Act}{i:Nat}{o:Oper}
 {Q:Exit->Act->World->Prop}
theorem Now.op(h:Now tb call G0 w0 ws cx N ops D M ρ0 ds Dn ρ w a i o)(hT:jY tb w0)(hc:lJ tb w0 call)(hg:cx.g=tb.g)(hl:cx.l=tb.l){K:Act->World->Prop}{r:Option Nat}{nn:Nat}
 (hK: ∀ ρ' w' a',Inv G0 w0 ws cx N ops D M ρ0 ds (fun j=>Dn j\/j=i) ρ' w' a'->K a' w'):wpOpIn (FF r) nn tb.p ops Q i K a w:=by
 obtain⟨o',an,k1,k2,k3⟩:=h.run.at' h.lt;have k4:=k1;rw[h.get]at k1;cases k1;have hw:=VE (ρ:=ρ) (a:=a) (ops:=ops) hT.BD (@aZ.lv (GI G0 ops D i) _ _ _ _ _ _ h.sat hg) rfl k3.want (fun d v hd hv=>(h.slot hd hv).2);unfold wpOpIn;rw[k4];dsimp only;rw[hw];rcases k3.run with⟨s1,s2,s3,_⟩|⟨s1,s2,_⟩
 . rw[s1];refine⟨fun _ _=>trivial,hK _ w _ (?_:Inv G0 w0 ws cx N ops D M ρ0 ds (fun j=>Dn j\/j=i) (mix ρ ρ (D i).s.n (D (i+1)).s.n) w (a.put o.dst undef))⟩;have hst:=@Stp.refl (GI G0 ops D i) _ _ _ _ _ h.sat;have:=h.step (ρ':=ρ) (w':=w) (by rw[s3];exact hst) (by rw[s2];trivial);rw[s2]at this;exact this
 rw[s1];show Oper.wpIn _ _ _ _ _ _ _ _;refine @WR (GI G0 ops D i) tb w0 ρ ⟨cx.g,cx.l,(M i).fl,(M i).hid⟩ (D i).s (D (i+1)).s w a (D i).t call (M i).v hT hc o s2 hg hl h.sat (h.vals hT.BD hg) _ _ r nn (fun ρ' w' hst hv=>?_);exact hK _ w' _ (h.step hst hv)
theorem aG9(hR:Run tb call cx N ops D M)(hs:@aZ G0 w0 ρ0 cx (D 0).s ws)(ht:@l9 G0 N ρ0 (D 0).s.n a (D 0).t)(hn: ∀j,¬Dn j):
 Inv G0 w0 ws cx N ops D M ρ0 a.defers Dn ρ0 ws a:=by
 have hiv: ∀k b,k<=ops.size->(D 0).s.n<=b->b<(D k).s.n-> ∃j,j<k/\Iv D j b:=by
  intro k b hk h1
  induction k with
  |zero=>intro h2;omega
  |succ k ih=>
   intro h2;rcases aKQ b (D k).s.n with h3|h3
   . obtain⟨j,h4,h5⟩:=ih (by omega) h3;exact⟨j,by omega,h5⟩
   exact⟨k,by omega,h3,h2⟩
 have hold: ∀ {b k o},Live cx ops D M Dn b k o->(D 0).s.look cx.hid b=some o/\b<(D 0).s.n:=by
  rintro b k o ⟨hk,hc,h1,h2⟩;have hnw: ∀j,j<k-> ¬Wr D M j b:=fun j hj hw=>hn j (hc.1 j hj hw);have hb:b<(D 0).s.n:=by
   rcases aKQ b (D 0).s.n with h3|h3
   . exact h3
   rcases aKQ b (D k).s.n with h4|h4
   . obtain⟨j,h5,h6⟩:=hiv k b hk h3 h4;exact absurd (.inl h6) (hnw j h5)
   obtain⟨o',h5⟩:=hR.above hk h4 h2;exact @aZ.lt G0 _ _ _ _ _ hs b o' (Hs.dF.2 ⟨h1,h5⟩)
  exact⟨Hs.dF.2 ⟨h1,by rw[<-hR.keep (aLp k) hk hb (fun j _ hj=>hnw j hj)];exact h2⟩,hb⟩
 refine⟨@l9.size G0 _ _ _ _ _ ht,rfl,Ext.refl _ _,@aZ.below G0 _ _ _ _ _ hs,fun t k v hk hc hv=>?_,fun b k o hl=>?_,fun b b' k k' o o' hl hl'=>?_,Fr.refl _ _ _ _,fun b k o hl hf=>?_⟩
 . rw[hR.aLC (aLp k) hk (fun j _ hj o ho hd=>hn j (hc.1 j hj ⟨o,ho,hd⟩))]at hv;obtain⟨h1,h2,h3⟩:=@l9.val G0 _ _ _ _ _ ht t v hv;refine⟨h2,h3,AB (G:=G0) (G':=GT G0 ops D t k) (fun b hb=>?_) v h1⟩;exact⟨aG0 hb.1 (hR.mono (aLp _) (aC4 _)),aOw.2 (.inl hb)⟩
 . obtain⟨h1,h2⟩:=hold hl;refine⟨aG0 h2 (hR.mono (aLp _) hl.1),?_,fun q=>@aZ.new G0 _ _ _ _ _ hs b o h1 q,fun q=>@aZ.old G0 _ _ _ _ _ hs b o h1 q⟩;refine wY (@aZ.obj G0 _ _ _ _ _ hs b o h1) (fun c hc=>?_) (fun c hc=>⟨rfl,rfl,rfl⟩) ⟨rfl,rfl,rfl⟩ rfl;exact⟨aG0 hc.1 (hR.mono (aLp _) (aC4 _)),aOw.2 (.inl hc)⟩
 . exact @aZ.inj G0 _ _ _ _ _ hs b b' o o' (hold hl).1 (hold hl').1
 exact .inr ⟨b,o,hf,(hold hl).1,rfl⟩
theorem aCm(hR:Run tb call cx N ops D M)(hs:@aZ G0 w0 ρ0 cx (D 0).s ws)(hn: ∀j,j<ops.size->Dn j)(h:Inv G0 w0 ws cx N ops D M ρ0 ds Dn ρ w a):
 @Stp G0 w0 ρ0 ρ cx (D 0).s (D ops.size).s ws w/\@l9 G0 N ρ (D ops.size).s.n a (D ops.size).t:=by
 have hmono:=hR.mono (aLp _) (aC4 ops.size);have hsj: ∀ {j b},j<ops.size->Sj ops D j b-> ¬G0.bad b:=by
  rintro j b hj ⟨j',h1,h2,h3⟩;have hlt:j'<=j:=by
   rcases h1 with rfl|h1
   . exact aC4 _
   exact aPt (aIo hR.back _ _ h1)
  exact @aZ.good G0 _ _ _ _ _ hs b (aKM (hR.mono (aLp _) (by omega)) h2)
 have hlive: ∀ {b o},(D ops.size).s.look cx.hid b=some o->Live cx ops D M Dn b ops.size o:=by
  intro b o hb;obtain⟨h1,h2⟩:=Hs.dF.1 hb;exact⟨aC4 _,⟨fun j hj _=>hn j hj,fun j hj hjs=>by omega⟩,h1,h2⟩
 have FC:=hR.FC;have gn:=@aZ.gn G0 _ _ _ _ _ hs;have ln:=@aZ.ln G0 _ _ _ _ _ hs;have OX:@aZ G0 w0 ρ cx (D ops.size).s w:=by
  refine @aZ.mk G0 _ _ _ _ _ ?_ (@aZ.YA G0 _ _ _ _ _ hs) ?_ gn ln (by omega) ?_ h.below ?_ ?_ ?_ ?_ ?_
  . intro g hg;have:=h.ext g (by omega);rw[this.1,this.2.1,this.2.2];exact @aZ.gl G0 _ _ _ _ _ hs g hg
  . exact fun b hb=>@aZ.good G0 _ _ _ _ _ hs b (by omega)
  . exact fun b hb=>hR.vW b (by omega)
  . exact fun b o hb=>(h.obj b _ o (hlive hb)).1
  . intro b o hb;refine wY (G':=G0) (h.obj b _ o (hlive hb)).2.1 (fun c hc=>⟨hc.1,?_⟩) (fun c hc=>⟨rfl,rfl,rfl⟩) ⟨rfl,rfl,rfl⟩ rfl;rcases aOw.1 hc.2 with h6|⟨j,h6,_,h8⟩
    . exact h6.2
    exact hsj h6 h8
  . exact fun b o hb=>(h.obj b _ o (hlive hb)).2.2.1
  . exact fun b o hb=>(h.obj b _ o (hlive hb)).2.2.2
  exact fun b b' o o' hb hb'=>h.inj b b' _ _ o o' (hlive hb) (hlive hb')
 refine⟨@Stp.mk G0 _ _ _ _ _ _ _ _ h.ext OX hmono h.fr ?_ ?_,@l9.mk G0 _ _ _ _ _ h.size ?_⟩
 . intro b hb hor;refine hR.keep (aLp _) (aC4 _) hb (fun j _ hj hw=>?_);obtain⟨h1,h2,_⟩:=hR.wis hj hw;rcases hor with h3|h3
   . omega
   rw[h1]at h3;cases h3
 . exact fun b o hb hf=>h.new b _ o (hlive hb) hf
 intro t v hv;obtain⟨h1,h2,h3⟩:=h.tmp t ops.size v (aC4 _) ⟨fun j hj _=>hn j hj,fun j hj ⟨p,hp,_⟩=>by rw[aL9 hj]at hp;cases hp⟩ hv;refine⟨AB (G':=G0) (fun c hc=>⟨hc.1,?_⟩) v h3,h1,h2⟩;rcases aOw.1 hc.2 with h6|⟨j,h6,_,h8⟩
 . exact h6.2
 exact hsj h6 h8
def Ls(listed:Array Bool)(j:Nat):Prop:=listed.getD j false=true
theorem aG1{listed:Array Bool}{j:Nat}(h:Ls listed j):j<listed.size:=by
 unfold Ls at h;rcases aKQ j listed.size with h1|h1
 . exact h1
 simp[Array.getD,Nat.not_lt.2 h1]at h
theorem qN{listed:Array Bool}{i:Nat}(hi:i<listed.size):Ls (listed.setIfInBounds i true)=fun j=>Ls listed j\/j=i:=by
 funext j
 apply propext;unfold Ls;by_cases e:i=j
 . subst e;simp[hi]
 simp[aJN e,aPu e]
theorem count_set{listed:Array Bool}{i n:Nat}(hi:i<listed.size)(h: ¬Ls listed i)(hc:listed.toList.count false<=n+1):(listed.setIfInBounds i true).toList.count false<=n:=by
 rw[aYf,List.count_set (by simpa using hi)];have:listed[i]=false:=by
  unfold Ls at h;simpa[Array.getD,hi]using h
 have h2:(listed.toList[i]'(by simpa using hi)==false)=true:=by simp[this]
 have h3:((true:Bool)==false)=false:=rfl;simp only[h2,h3,aUj,aMB,aPv];omega
theorem kT{listed:Array Bool}(h:listed.toList.count false=0){i:Nat}(hi:i<listed.size):Ls listed i:=by
 unfold Ls;rw[List.count_eq_zero]at h;cases hb:listed[i]with
 |true=>simp[Array.getD,hi,hb]
 |false=>exact absurd (by rw[<-hb];simp) h
theorem kW{listed:Array Bool}(hsz:listed.size=ops.size){i:Nat}:i ∈ Region.ready .any ops listed↔ ∃o,ops[i]? =some o/\ ¬Ls listed i/\ ∀e ∈ o.after.toList,binding e=true->Ls listed e.on:=by
 unfold Region.ready Ls;rw[aTr,aMv,aEb];constructor
 . rintro⟨h1,h2,h3⟩;have ho:ops[i]? =some ops[i]:=aJT h1;refine⟨_,ho,?_,?_⟩
   . have hi:i<listed.size:=by omega
     simpa[Array.getD,hi]using h2
   rw[ho]at h3;simp only[aLw,aT8,Array.all_eq_true']at h3;intro e he hb;have:=h3 e (by simpa using he);rw[Y7,hb]at this;simpa using this
 rintro⟨o,ho,h2,h3⟩;have h1:i<ops.size:=by
  rcases aKQ i ops.size with h1|h1
  . exact h1
  rw[aL9 h1]at ho;cases ho
 have hi:i<listed.size:=by omega
 refine⟨h1,by simpa[Array.getD,hi]using h2,?_⟩;rw[ho];simp only[aLw,aT8,Array.all_eq_true'];intro e he;rw[Y7];cases hb:binding e with
 |false=>rfl
 |true=>simpa using h3 e (by simpa using he) hb
theorem oC(hb:backOk ops.toList 0=true){listed:Array Bool}(hsz:listed.size=ops.size)(hr:Region.ready .any ops listed=[]): ∀i,i<ops.size->Ls listed i:=by
 intro i
 induction i using Nat.strongRecOn with
 | ind i ih=>
  intro hi;apply aOY;intro hn;have:i ∈ Region.ready .any ops listed:=(kW hsz).2 ⟨ops[i],aJT hi,hn,fun e he heb=>by
   have:=rQ _ _ hb i ops[i] (by rw[aEt];exact aJT hi) e he heb;exact ih e.on (by omega) (by omega)⟩
  rw[hr]at this;cases this
theorem aEw{r:Option Nat}{nn:Nat}(hT:jY tb w0)(hc:lJ tb w0 call)(hg:cx.g=tb.g)(hl:cx.l=tb.l)(hR:Run tb call cx N ops D M)(hs:@aZ G0 w0 ρ0 cx (D 0).s ws)
 (hq: ∀ ρ w a,@Stp G0 w0 ρ0 ρ cx (D 0).s (D ops.size).s ws w->@l9 G0 N ρ (D ops.size).s.n a (D ops.size).t->a.defers=ds->Q .normal a w):
 ∀(fuel:Nat) (listed:Array Bool) (ρ:Env) (w:World) (a:Act),listed.size=ops.size->listed.toList.count false<=fuel->(∀j k,Ls listed j->An (lT ops.toList []) j k->Ls listed k)->
  Inv G0 w0 ws cx N ops D M ρ0 ds (Ls listed) ρ w a->wpAnyIn (FF r) nn tb.p .any ops Q fuel listed a w:=by
 intro fuel
 induction fuel with
 |zero=>
  intro listed ρ w a hsz hcnt hcl hinv;have hall: ∀i,i<ops.size->Ls listed i:=fun i hi=>kT (Nat.le_zero.1 hcnt) (by omega);refine⟨?_,?_⟩
  . cases hr:Region.ready .any ops listed with
    |nil=>rfl
    | cons i r=>
     obtain⟨o,ho,hn,_⟩:=(kW hsz).1 (show i ∈ Region.ready .any ops listed by rw[hr];exact aIC);have hi:i<ops.size:=by
      rcases aKQ i ops.size with h1|h1
      . exact h1
      rw[aL9 h1]at ho;cases ho
     exact absurd (hall i hi) hn
  obtain⟨h1,h2⟩:=aCm hR hs hall hinv;exact hq ρ w a h1 h2 hinv.defers
 |succ fuel ih=>
  intro listed ρ w a hsz hcnt hcl hinv;refine⟨fun hr=>?_,fun i hi=>?_⟩
  . obtain⟨h1,h2⟩:=aCm hR hs (oC hR.back hsz hr) hinv;exact hq ρ w a h1 h2 hinv.defers
  obtain⟨o,ho,hn,he⟩:=(kW hsz).1 hi;have hilt:i<listed.size:=by
   rcases aKQ i ops.size with h1|h1
   . omega
   rw[aL9 h1]at ho;cases ho
  have aST: ∀j,An (lT ops.toList []) i j->Ls listed j:=fun j hj=>by
   obtain⟨e,k1,k2,k3⟩:=(NT hR.back ho).1 hj;rcases k3 with rfl|k3
   . exact he e k1 k2
   exact hcl _ _ (he e k1 k2) k3
  have aWv:Now tb call G0 w0 ws cx N ops D M ρ0 ds (Ls listed) ρ w a i o:=⟨hR,hs,hinv,ho,hn,aST,hcl⟩;refine aWv.op hT hc hg hl (fun ρ' w' a' hinv'=>?_);refine ih (listed.setIfInBounds i true) ρ' w' a' (by simp[hsz]) (count_set hilt hn hcnt) ?_ (by rw[qN hilt];exact hinv');rw[qN hilt];rintro j k (hj|rfl) hjk
  . exact .inl (hcl j k hj hjk)
  exact .inl (aST k hjk)
end
section
variable[Gh]{w0:World}{tb:Tab}{call:fD}{cx:Cx}{N:Nat}{ops:Array Oper}{ρ:Env}{w:World}{a:Act}{Q:Exit->Act->World->Prop}{st st':St}
theorem Q8(hT:jY tb w0)(hc:lJ tb w0 call)(hf:jB call)(hg:cx.g=tb.g)(hl:cx.l=tb.l){id:Nat}{dr:Bool}{rd r:Option Nat}{nn:Nat}(hrd:rd=none->r=none)
 (h:region tb call cx N rd ops dr st=some st') (hs:aZ w0 ρ cx st.s w) (ht:l9 N ρ st.s.n a st.t) (hd:kG ρ st.s.n st.d a.defers)
 (hq: ∀ ρ' w' a',Stp w0 ρ ρ' cx st.s st'.s w w'->l9 N ρ' st'.s.n a' st'.t->kG ρ' st'.s.n st'.d a'.defers->Q .normal a' w'):(Code.region id ops dr).wpIn (FF r) nn tb.p Q a w:=by
 cases dr with
 |false=>exact IC hT hc hg hl hrd h hs ht hd hq
 | true=>
  obtain⟨h1,h2⟩:=aF.1 h;obtain⟨d,h3,h4⟩:=aA.1 h2;cases h4;have h1':band (backOk ops.toList 0) (tOk ops ops.toList 0 (lT ops.toList []))=true:=h1;rw[bT,aEb]at h1';obtain⟨D,M,k1,k2,k3,k4⟩:=MZ _ _ _ _ _ _ h3;rw[aHG,aII]at k2;have hs0:aZ w0 ρ cx (D 0).s w:=by rw[k1];exact hs
  have hR:Run tb call cx N ops D M:={
   at_:=fun k o an ho ha=>by
    have:=k4 k o an (by rw[aEt];exact ho) ha;rwa[aHG]at this
   iv0:=by rw[k1]
   es0:=by rw[k1]
   FC:=by rw[k1];exact hs.FC
   vW:=by rw[k1];exact hs.vW
   back:=h1'.1
   tok:=h1'.2
   fr:=hf }
  have aHf:Stp w0 ρ ρ cx (D 0).s (D 0).s w { w with drawn:=w.drawn+1 }:=hs0.world ⟨rfl,rfl,rfl,aC4 _,fun _ _=>rfl⟩;refine aVF hT.mixed ?_;have hinit: ∀j,¬Ls (Array.replicate ops.size false) j:=fun j hj=>by
   have hlt:=aG1 hj;unfold Ls at hj;simp at hlt;simp[Array.getD,hlt]at hj
  refine aEw hT hc hg hl hR aHf.sat (ds:=a.defers) (fun ρ' w' a' g1 g2 g3=>?_) _ _ ρ _ a (by simp) ?_ (fun j k hj=>absurd hj (hinit j)) (aG9 hR aHf.sat (by rw[k1];exact ht) hinit)
  . have g4:=aHf.trans g1;rw[k1,k2]at g4;rw[k2]at g2;exact hq ρ' w' a' g4 g2 (by rw[g3];exact hd.ext g4.ext g4.n)
  simp
end
theorem qG{k:St->CR}{r:CR}{e:Ex}{st:St}(h:SQ k r=some (e,st)):(∃st1,r=some (.normal,st1)/\k st1=some (e,st))\/(r=some (e,st)/\e≠ .normal):=by
 obtain⟨⟨e1,st1⟩,rfl,h2⟩:=aA.1 h;cases e1 with
 |normal=>exact .inl ⟨st1,rfl,h2⟩
 |exit i=>cases h2;exact .inr ⟨rfl,fun h=>by cases h⟩
 |ret=>cases h2;exact .inr ⟨rfl,fun h=>by cases h⟩
theorem GU{id:Nat}{r:CR}{e:Ex}{st:St}(h:aG5 id r=some (e,st)): ∃e1,r=some (e1,st)/\((e1=.normal/\e=.normal)\/(e1=.exit id/\e=.normal)\/(∃i,i≠id/\e1=.exit i/\e=.exit i)\/(e1=.ret/\e=.ret)):=by
 obtain⟨⟨e1,st1⟩,rfl,h2⟩:=aA.1 h;cases e1 with
 |normal=>cases h2;exact⟨_,rfl,.inl ⟨rfl,rfl⟩⟩
 | exit i=>
  cases hb:Nat.beq i id with
  |true=>
   have h3:Bool.rec (motive:=fun _=>CR) (some (.exit i,st1)) (some (.normal,st1)) (Nat.beq i id)=some (e,st):=h2;rw[hb]at h3;cases h3;have:=beq_iff.1 hb;subst this;exact⟨_,rfl,.inr (.inl ⟨rfl,rfl⟩)⟩
  |false=>
   have h3:Bool.rec (motive:=fun _=>CR) (some (.exit i,st1)) (some (.normal,st1)) (Nat.beq i id)=some (e,st):=h2;rw[hb]at h3;cases h3;exact⟨_,rfl,.inr (.inr (.inl ⟨i,fun h=>(by rw[beq_iff.2 h]at hb;cases hb),rfl,rfl⟩))⟩
 |ret=>cases h2;exact⟨_,rfl,.inr (.inr (.inr ⟨rfl,rfl⟩))⟩
section
variable{tb:Tab}{call:fD}{cx:Cx}{N:Nat}{rd:Option Nat}
theorem aDf(hf:jB call){all:List Oper}(l:List Oper): ∀(t:TE) (s:Hs) (dl:DL) (st:St),aAl tb call cx N rd all l t s dl=some st->Fq cx.fl cx.hid s st.s:=by
 induction l with
 |nil=>intro t s dl st h;cases h;exact Fq.refl _ _ _
 | cons o l ih=>
  intro t s dl st h;obtain⟨b,h1,h2⟩:=aA.1 h;cases b with
  |false=>obtain⟨t1,h3,h4⟩:=aA.1 h2;exact ih _ _ _ _ h4
  | true=>
   obtain⟨r,h3,h4⟩:=aA.1 h2;cases r with
   |ok v s1=>
    obtain⟨t1,h5,h6⟩:=aA.1 h4;exact(aFY hf o.op v s1 h3).trans (ih _ _ _ _ h6)
   |dfr f xs=>obtain⟨_,h4⟩:=aF.1 h4;obtain⟨t1,h5,h6⟩:=aA.1 h4;exact ih _ _ _ _ h6
theorem aDq(hf:jB call){os:Array Oper}{dr:Bool}{st st':St}(h:region tb call cx N rd os dr st=some st'):Fq cx.fl cx.hid st.s st'.s:=by
 cases dr with
 |false=>exact aDf hf _ _ _ _ _ h
 | true=>
  obtain⟨h1,h2⟩:=aF.1 h;obtain⟨d,h3,h4⟩:=aA.1 h2;cases h4;obtain⟨D,M,k1,k2,k3,k4⟩:=MZ _ _ _ _ _ _ h3;have key: ∀k,k<=os.toList.length->Fq cx.fl cx.hid (D 0).s (D k).s:=by
   intro k
   induction k with
   |zero=>intro _;exact Fq.refl _ _ _
   |succ k ih=>
    intro hk;refine(ih (by omega)).trans ?_;have h5:os.toList[k]? =some os.toList[k]:=aE5 (by omega);have h6:k<(lT os.toList []).length:=by omega
    have h7:=k4 k _ _ h5 (aE5 h6);rw[aHG]at h7;rcases h7.run with⟨_,_,h8,_⟩|⟨_,h8,_⟩
    . rw[h8];exact Fq.refl _ _ _
    exact(aFY (cx:=⟨cx.g,cx.l,(M k).fl,(M k).hid⟩) hf _ _ _ h8).mono h7.seen.mono
  have:=key _ (aC4 _);rw[aHG]at k2;rw[k1,k2]at this;exact this
theorem WA{st:St}{K:Nat->Hs->DL->CR}{x:Ex × St}(h:rgD cx rd st K=some x):(rd=none/\K st.s.n ⟨st.s.h.set st.s.n .df,st.s.n+1⟩ ((OZ,[.ptr st.s.n 0])::st.d)=some x)\/
 ∃l s0 jm N t ps a1i bd d,rd=some l/\st.s.look cx.hid l=some (.lp s0 jm N t ps a1i bd d)/\K d st.s st.d=some x:=by
 cases rd with
 |none=>exact .inl ⟨rfl,h⟩
 |some l=>
  obtain⟨o,h1,h2⟩:=aA.1 h;obtain⟨s0,jm,N,t,ps,a1i,bd,d,rfl,h3⟩:=uU h2;exact .inr ⟨l,s0,jm,N,t,ps,a1i,bd,d,rfl,h1,h3⟩
theorem KE{L:Nat}{t:TE}{d:DL}{s:Hs}{x:Ex × St}(h:aBX cx L t d s=some x):cx.fl<=L/\ ∃s0 jm N t' ps a1i bd D,s.look cx.hid L=some (.lp s0 jm N t' ps a1i bd D)/\aCd s0=true/\
 x=(Option.rec (motive:=fun _=>Ex) .normal jmE jm,⟨t,⟨s.h.del L,s.n⟩,d⟩):=by
 obtain⟨h1,h2⟩:=aF.1 h;obtain⟨o,h3,h4⟩:=aA.1 h2;obtain⟨s0,jm,N,t',ps,a1i,bd,D,rfl,h5⟩:=uU h4;obtain⟨h6,h7⟩:=aF.1 h5;cases h7;exact⟨aK.1 h1,s0,jm,N,t',ps,a1i,bd,D,h3,h6,rfl⟩
theorem DZ(hf:jB call)(f:Nat): ∀(c:Code) (st:St) (e:Ex) (st':St),code tb call cx N rd f c st=some (e,st')->Fq cx.fl cx.hid st.s st'.s:=by
 induction f with
 |zero=>intro c st e st' h;cases h
 | succ f ih=>
  intro c st e st' h;have seq: ∀ {x y:Code},SQ (code tb call cx N rd f y) (code tb call cx N rd f x st)=some (e,st')->Fq cx.fl cx.hid st.s st'.s:=by
   intro x y h;rcases qG h with⟨st1,h1,h2⟩|⟨h1,_⟩
   . exact(ih _ _ _ _ h1).trans (ih _ _ _ _ h2)
   exact ih _ _ _ _ h1
  cases c with
  |skip=>cases h;exact Fq.refl _ _ _
  |region id os d=>obtain⟨t,h1,h2⟩:=aA.1 h;cases h2;exact aDq hf h1
  |seq a b=>exact seq h
  |cond c a b=>
   obtain⟨x,_,h2⟩:=aA.1 h;obtain⟨b,_,h3⟩:=pF h2;exact ih _ _ _ _ h3
  |block id c=>obtain⟨e1,h1,_⟩:=GU h;exact ih _ _ _ _ h1
  |loop c=>exact seq h
  |exit id=>cases h;exact Fq.refl _ _ _
  |scope c=>exact ih _ _ _ _ h
  |label l=>cases h;exact Fq.refl _ _ _
  |ret=>cases h;exact Fq.refl _ _ _
  | rangeFunc g ps a1i bd=>
   obtain⟨gv,_,h2⟩:=aA.1 h;have tail: ∀ {D:Nat} {s1:Hs} {d1:DL},Fq cx.fl cx.hid st.s s1->fnV gv [.fn (.yield 0) [.ptr s1.n 0] []] (fun f xs=>gd (Nat.ble (f+1) yF) (ob (tb.fn.get f) (fun _=>
    ob (call cx.fl cx.hid f xs ⟨setH s1.h s1.n (.lp .ready none N st.t ps a1i bd D),s1.n+1⟩) (fun p=>aBX cx s1.n st.t d1 p.2))))=some (e,st')->Fq cx.fl cx.hid st.s st'.s:=by
    intro D s1 d1 h0 h;obtain⟨f,xs,h3⟩:=aHy h;obtain⟨_,h4⟩:=aF.1 h3;obtain⟨_,_,h5⟩:=aA.1 h4;obtain⟨p,h6,h7⟩:=aA.1 h5;obtain⟨h8,s0,jm,N',t',ps',as',bd',D',h9,_,h10⟩:=KE h7;cases h10;exact(h0.trans (Fq.new _ _ _ _)).trans ((hf _ _ _ _ _ p.1 p.2 h6).trans (Fq.del h9 h8))
   rcases WA h2 with⟨_,h3⟩|⟨l,s0,jm,N',t,ps',as',bd',d,_,_,h3⟩
   . exact tail (Fq.new _ _ _ _) h3
   exact tail (Fq.refl _ _ _) h3
  |_=>cases h
end
def aBg:Ex->Exit
 | .normal=>.normal
 | .exit i=>.exit i
 | .ret=>.ret
section
variable[Gh]{w0:World}{tb:Tab}{call:fD}{cx:Cx}{N:Nat}
def Post(w0:World)(cx:Cx)(N:Nat)(st st':St)(ρ:Env)(w:World)(K:Act->World->Prop):Prop:=
 ∀ ρ' w' a',Stp w0 ρ ρ' cx st.s st'.s w w'->l9 N ρ' st'.s.n a' st'.t->kG ρ' st'.s.n st'.d a'.defers->K a' w'
def ZO(ρ:Env)(n:Nat):Option Nat->Option Nat->Prop
 |none,none=>True
 |some b,some l=>Gd n b/\ρ.blk b=l
 |_,_=>False
theorem ZO.ext{ρ ρ':Env}{n m:Nat}(h:Ext n ρ ρ')(hm:n<=m): ∀ {rd r:Option Nat},ZO ρ n rd r->ZO ρ' m rd r
 |none,none,_=>trivial
 |some b,some l,hd=>⟨⟨aG0 hd.1.1 hm,hd.1.2⟩,(h b hd.1.1).1.trans hd.2⟩
 |none,some _,hd=>hd.elim
 |some _,none,hd=>hd.elim
theorem ZO.none{ρ:Env}{n:Nat}{rd r:Option Nat}(h:ZO ρ n rd r)(e:rd=none):r=none:=by
 subst e;cases r with
 |none=>rfl
 |some l=>exact h.elim
omit[Gh]in
theorem yZ{F:Fence}{n:Nat}{P:Program}{a:Act}{w:World}{Q:Exit->Act->World->Prop}{c:Code}(h:c.wpIn F n P (Exit.noGoto Q) a w):(Code.scope c).wpIn F n P Q a w:=by
 intro b k cs hro hb hr;have st1:step P (lone (b.atR a (.code (.scope c)::k)) cs w)=.next (lone (b.atR a (.code c:: .inScope c::k)) cs w):=step_lone_go (by simp[stepG,stepG.exec,Frame.atR]);have st2: ∀a w,step P (lone (b.atR a (.inScope c::k)) cs w)=.next (lone (b.atR a k) cs w):=fun a w=>step_lone_go (by simp[stepG,stepG.exec,Frame.atR]);have h0:(lone (b.atR a (.code (.scope c)::k)) cs w).fenced P F:=fenced_calm hb hr rfl;obtain⟨e,a₁,w₁,hq,harr⟩:=h b (.inScope c::k) cs hro hb hr;cases e with
 |normal=>exact⟨.normal,a₁,w₁,hq,.head h0 st1 (StepsIn.trans harr (.one (fenced_calm hb hr rfl) (st2 _ _)))⟩
 |exit id=>
  have hx:exitTo id (.inScope c::k)=exitTo id k:=by simp[exitTo]
  exact⟨.exit id,a₁,w₁,hq,fun k' hk=>.head h0 st1 (harr.1 k' (by rw[hx];exact hk)),fun hr' hk=>let⟨k₁,h1,h2⟩:=harr.2 hr' (by rw[hx];exact hk);⟨k₁,h1,.head h0 st1 h2⟩⟩
 |goto l=>exact hq.elim
 |ret=>exact⟨.ret,a₁,w₁,hq,.of_steps (.one h0 st1) ⟨harr.1,harr.2⟩⟩
 |panic ch=>exact⟨.panic ch,a₁,w₁,hq,.of_steps (.one h0 st1) (show ArrivesIn _ P _ b k cs (.panic ch) a₁ w₁ from harr)⟩
 |outgrown=>exact⟨.outgrown,a₁,w₁,hq,.of_steps (.one h0 st1) (show ArrivesIn _ P _ b k cs .outgrown a₁ w₁ from harr)⟩
omit[Gh]in
theorem lU{w:World}{r:Nat}{o:Obj}:qX r w (w.putObj r o):=⟨rfl,rfl,rfl,by simp,fun k hk=>aSE hk⟩
theorem ZN.ext{ρ ρ':Env}{n m N:Nat}{tm:Array Value}{t:TE}(h:Ext n ρ ρ')(hm:n<=m)(ht:ZN ρ n N tm t):ZN ρ' m N tm t:=
 ⟨ht.1,fun i v hv=>by obtain⟨k1,k2,k3⟩:=ht.2 i v hv;exact⟨Sc.mono hm _ k1,k2,by rw[oJ h _ k1];exact k3⟩⟩
omit[Gh]in
theorem run_enterLoop_inner{P:Program}{w:World}{l:Nat}{r:Loop}(h:w.heap[l]? =some (.loop r))(fn:FuncId)(tmps:Array Value)(ps:Array Tmp)(assign body:Code):
 (Instr.enterLoop fn tmps ps assign body (some l)).run P w=.ok (w.heap.size,[]) (w.alloc (.loop { state:=.ready,pending:=none,fn,tmps,params:=ps,assign,body,defers:=r.defers })):=by
 unfold Instr.enterLoop;simp only[aDt,run_getLoop h,run_newObj_alloc,Result.andThen,aD0]
theorem KI(hT:jY tb w0)(hc:lJ tb w0 call)(hg:cx.g=tb.g)(hl:cx.l=tb.l){r:Option Nat}{nn:Nat}{g:Operand}{gv:AV}{ps:Array Tmp}{a1i bd:Code}{st:St}{s1:Hs}{d1:DL}{D:Nat}{e:Ex}{st':St}
 (h:fnV gv [.fn (.yield 0) [.ptr s1.n 0] []] (fun f xs=>gd (Nat.ble (f+1) yF) (ob (tb.fn.get f) (fun _=>
   ob (call cx.fl cx.hid f xs ⟨setH s1.h s1.n (.lp .ready none N st.t ps a1i bd D),s1.n+1⟩) (fun p=>aBX cx s1.n st.t d1 p.2))))=some (e,st'))
 {ρ ρ1:Env} {w w1:World} {a:Act} {Q:Exit->Act->World->Prop} (h1:Stp w0 ρ ρ1 cx st.s s1 w w1) (hgv:Sc st.s.n gv/\a.eval g=den ρ gv) (ht:l9 N ρ st.s.n a st.t) {mark:List Deferred} (hd:kG ρ1 s1.n d1 (mark++a.defers)) (hD:Gd s1.n D)
 (henter: ∀fn,(Instr.enterLoop fn a.tmps ps a1i bd r).run tb.p w=.ok (w1.heap.size,mark) (w1.alloc (.loop { state:=.ready,pending:=none,fn,tmps:=a.tmps,params:=ps,assign:=a1i,body:=bd,defers:=ρ1.blk D })))
 (hq:Post w0 cx N st st' ρ w (Q (aBg e))):(Code.rangeFunc g ps a1i bd).wpIn (FF r) nn tb.p Q a w:=by
 have aSK:=Sc.mono h1.n _ hgv.1;refine wpIn_rangeFunc (fun fn _=>?_);obtain⟨rec,hrec⟩: ∃rec:Loop,rec={ state:=.ready,pending:=none,fn,tmps:=a.tmps,params:=ps,assign:=a1i,body:=bd,defers:=ρ1.blk D }:=⟨_,rfl⟩;have h2:Stp w0 ρ1 (ρ1.add s1.n w1.heap.size 0) cx s1 ⟨s1.h.set s1.n (.lp .ready none N st.t ps a1i bd D),s1.n+1⟩ w1 (w1.alloc (.loop rec)):=by
  refine h1.sat.alloc _ _ 0 ⟨Env.gY _ _ _ _,rec,?_,?_,⟨aUV hD.1,hD.2⟩,?_⟩
  . rw[Env.dG];exact aT2 _ _
  . subst hrec;refine⟨rfl,rfl,rfl,rfl,rfl,?_⟩;exact(Env.aBx _ (Nat.ne_of_lt hD.1)).symm
  subst hrec;exact ZN.ext (Env.yV _ _ _ _) (aPj _) (ZN.ext h1.ext h1.n ⟨ht.size,ht.val⟩)
 obtain⟨ρ2,hρ2⟩: ∃ ρ2,ρ2=ρ1.add s1.n w1.heap.size 0:=⟨_,rfl⟩;have hL:ρ2.blk s1.n=w1.heap.size:=by rw[hρ2];exact Env.dG _ _ _ _
 rw[<-hρ2]at h2;obtain⟨W,hW⟩: ∃W,W=w1.alloc (.loop rec):=⟨_,rfl⟩;rw[<-hW]at h2;have hy:den ρ2 (.fn (.yield 0) [.ptr s1.n 0] [])=.func (.yield w1.heap.size) #[] #[]:=by
  show Value.func (.yield (ρ2.blk s1.n)) #[] #[]=_;rw[hL]
 have aWB:Sc (s1.n+1) gv:=Sc.mono (aPj _) _ aSK;have aSO:a.eval g=den ρ2 gv:=by
  rw[hgv.2,<-oJ h1.ext _ hgv.1,<-oJ h2.ext _ aSK]
 have hys:jM (s1.n+1) [.fn (.yield 0) [.ptr s1.n 0] []]:=⟨⟨⟨⟨aLq _,h1.sat.good _ (aC4 _)⟩,trivial⟩,trivial⟩,trivial⟩;obtain⟨gf,fi,ca,xs',h5,h6,h7,h8⟩:=DJ h ρ2 aWB hys;obtain⟨hlt,h5⟩:=aF.1 h5;obtain⟨fn',hfn,h5⟩:=aA.1 h5;obtain⟨p,h9,h10⟩:=aA.1 h5;obtain⟨h11,s0,jm,N',t',ps',as',bd',D',h12,h13,BL⟩:=KE h10;cases BL;have hcx:cx=⟨tb.g,tb.l,cx.fl,cx.hid⟩:=by cases cx;simp at hg hl;simp[hg,hl]
 have hcall:=(hc _ cx.fl cx.hid gf xs' _ p.1 p.2 h9 ρ2 W (hcx ▸ h2.sat) h8).1 (by rw[aK]at hlt;rw[aNt];intro h;rw[aK]at h;omega);rw[aSO.symm]at h6;have h7':(fi++ #[Value.func (.yield w1.heap.size) #[] #[]])++ca=(xs'.map (den ρ2)).toArray:=by
  rw[<-h7,aOZ,aYB,hy]
 refine⟨w1.heap.size,mark,W,⟨.fn (.func gf) ca,fi++ #[.func (.yield w1.heap.size) #[] #[]]⟩,W,gf,(xs'.map (den ρ2)).toArray,W,?_,?_,fun _ _=>trivial,?_,xI,?_⟩
 . rw[hW,hrec];exact henter fn
 . simp only[resolve,h6];simp[go_sem]
 . simp only[invoke];rw[h7'];exact(hT.fn gf fn' hfn).2 _ W
 refine aCK (hcall.mono ?_);rintro e w3 ⟨ρ3,rfl,h3,_⟩;have h3:Stp w0 ρ2 ρ3 cx ⟨s1.h.set s1.n (.lp .ready none N st.t ps a1i bd D),s1.n+1⟩ p.2 W w3:=by rw[hcx];exact h3
 have hL3:ρ3.blk s1.n=w1.heap.size:=by rw[(h3.ext s1.n (aLq _)).1];exact hL
 obtain⟨o0,rr,o1,⟨o2,o3,o4,o5,o6,o7⟩,o8,o9⟩:=h3.sat.obj _ _ h12;rw[hL3]at o1;have aSR:rr.state≠ .busy:=by rw[o2];intro e;subst e;cases h13
 refine⟨rr.pending,_,run_endLoop o1 aSR,?_⟩;have h4:Stp w0 ρ3 ρ3 cx p.2 ⟨p.2.h.set s1.n (.lp .exhausted jm N' t' ps' as' bd' D'),p.2.n⟩ w3 (w3.putObj w1.heap.size (.loop { rr with state:=.exhausted })):=by
  refine h3.sat.put h12 h11 (hL3 ▸ lU) ⟨o0,{ rr with state:=.exhausted },?_,⟨rfl,o3,o4,o5,o6,o7⟩,o8,o9⟩;rw[hL3];exact aPq (aEH.1 o1).1
 have h5:=h4.sat.del (b:=s1.n) (o:=.lp .exhausted jm N' t' ps' as' bd' D') (Hs.dF.2 ⟨(Hs.dF.1 h12).1,Tr.uY _ _ _⟩) h11;have hdel:((p.2.h.set s1.n (.lp .exhausted jm N' t' ps' as' bd' D')).del s1.n)=p.2.h.del s1.n:=Tr.PU _ _ _ _;have h5:Stp w0 ρ3 ρ3 cx _ ⟨p.2.h.del s1.n,p.2.n⟩ _ _:=hdel ▸ h5;have hall:=((h1.trans h2).trans h3).trans (h4.trans h5);have hpost:=hq ρ3 _ { a with defers:=mark++a.defers } hall
  ⟨ht.size,fun i v hv=>(ht.ext hall.ext hall.n).val i v hv⟩ (hd.ext ((h2.trans h3).ext) ((h2.trans h3).n))
 revert hpost;generalize w3.putObj w1.heap.size (.loop { rr with state:=.exhausted })=W4;intro hpost;rw[o3];cases jm with
 |none=>exact hpost
 |some j=>
  cases j with
  |none=>exact aMu hpost
  |some i=>exact aRf hpost
theorem lZ(hT:jY tb w0)(hc:lJ tb w0 call)(hf:jB call)(hg:cx.g=tb.g)(hl:cx.l=tb.l){rd:Option Nat}(f:Nat):
 (∀(c:Code) (st:St) (e:Ex) (st':St),code tb call cx N rd f c st=some (e,st')-> ∀(ρ:Env) (w:World) (a:Act) (Q:Exit->Act->World->Prop) (r:Option Nat) (nn:Nat),ZO ρ st.s.n rd r->
   aZ w0 ρ cx st.s w->l9 N ρ st.s.n a st.t->kG ρ st.s.n st.d a.defers->Post w0 cx N st st' ρ w (Q (aBg e))->c.wpIn (FF r) nn tb.p Q a w)/\
 (∀(c:Code) (st:St) (e:Ex) (st':St),code tb call cx N rd f (.loop c) st=some (e,st')-> ∀(ρ:Env) (w:World) (a:Act) (Q:Exit->Act->World->Prop) (r:Option Nat) (nn:Nat),ZO ρ st.s.n rd r->
   aZ w0 ρ cx st.s w->l9 N ρ st.s.n a st.t->kG ρ st.s.n st.d a.defers->Post w0 cx N st st' ρ w (Q (aBg e))->Code.roundsIn (FF r) nn tb.p c Q f a w):=by
 induction f with
 |zero=>exact⟨fun c st e st' h=>(by cases h),fun c st e st' h=>(by cases h)⟩
 | succ f ih=>
  obtain⟨ih1,ih2⟩:=ih;have loops: ∀(c:Code) (st:St) (e:Ex) (st':St),code tb call cx N rd (f+1) (.loop c) st=some (e,st')-> ∀(ρ:Env) (w:World) (a:Act) (Q:Exit->Act->World->Prop) (r:Option Nat) (nn:Nat),ZO ρ st.s.n rd r->
   aZ w0 ρ cx st.s w->l9 N ρ st.s.n a st.t->kG ρ st.s.n st.d a.defers->Post w0 cx N st st' ρ w (Q (aBg e))->Code.roundsIn (FF r) nn tb.p c Q (f+1) a w:=by
   intro c st e st' h ρ w a Q r nn hrd hs ht hd hq;rw[roundsIn_succ];rcases qG (show SQ (code tb call cx N rd f (.loop c)) (code tb call cx N rd f c st)=some (e,st')from h)with⟨st1,h1,h2⟩|⟨h1,hne⟩
   . refine ih1 _ _ _ _ h1 ρ w a _ r nn hrd hs ht hd (fun ρ1 w1 a1 s1 t1 d1=>?_);exact ih2 _ _ _ _ h2 ρ1 w1 a1 Q r nn (hrd.ext s1.ext s1.n) s1.sat t1 d1 (fun ρ2 w2 a2 s2 t2 d2=>hq ρ2 w2 a2 (s1.trans s2) t2 d2)
   refine ih1 _ _ _ _ h1 ρ w a _ r nn hrd hs ht hd (fun ρ1 w1 a1 s1 t1 d1=>?_);have:=hq ρ1 w1 a1 s1 t1 d1;cases e with
   |normal=>exact absurd rfl hne
   |exit i=>exact this
   |ret=>exact this
  refine⟨fun c st e st' h ρ w a Q r nn hrd hs ht hd hq=>?_,loops⟩;cases c with
  |skip=>cases h;exact aJt (hq ρ w a (Stp.refl hs) ht hd)
  |label l=>cases h;exact wpIn_label (hq ρ w a (Stp.refl hs) ht hd)
  |exit id=>cases h;exact aRf (hq ρ w a (Stp.refl hs) ht hd)
  |ret=>cases h;exact aMu (hq ρ w a (Stp.refl hs) ht hd)
  |region id os dr=>
   obtain⟨t,h1,h2⟩:=aA.1 h;cases h2;exact Q8 hT hc hf hg hl hrd.none h1 hs ht hd hq
  |seq x y=>
   refine aDs ?_;rcases qG (show SQ (code tb call cx N rd f y) (code tb call cx N rd f x st)=some (e,st')from h)with⟨st1,h1,h2⟩|⟨h1,hne⟩
   . refine ih1 _ _ _ _ h1 ρ w a _ r nn hrd hs ht hd (fun ρ1 w1 a1 s1 t1 d1=>?_);exact ih1 _ _ _ _ h2 ρ1 w1 a1 Q r nn (hrd.ext s1.ext s1.n) s1.sat t1 d1 (fun ρ2 w2 a2 s2 t2 d2=>hq ρ2 w2 a2 (s1.trans s2) t2 d2)
   refine ih1 _ _ _ _ h1 ρ w a _ r nn hrd hs ht hd (fun ρ1 w1 a1 s1 t1 d1=>?_);have:=hq ρ1 w1 a1 s1 t1 d1;cases e with
   |normal=>exact absurd rfl hne
   |exit i=>exact this
   |ret=>exact this
  |cond c x y=>
   obtain⟨v,h1,h2⟩:=aA.1 h;obtain⟨b,rfl,h3⟩:=pF h2;have hv:=(ht.vals hT.BD hs hg (.move c) c (by simp[Op.operands]) _ h1).2;refine wpIn_cond (t:=b) hv ?_;cases b with
   |true=>exact ih1 _ _ _ _ h3 ρ w a Q r nn hrd hs ht hd hq
   |false=>exact ih1 _ _ _ _ h3 ρ w a Q r nn hrd hs ht hd hq
  |block id c=>
   obtain⟨e1,h1,h2⟩:=GU h;refine aLs (ih1 _ _ _ _ h1 ρ w a _ r nn hrd hs ht hd (fun ρ1 w1 a1 s1 t1 d1=>?_));have:=hq ρ1 w1 a1 s1 t1 d1;rcases h2 with⟨rfl,rfl⟩|⟨rfl,rfl⟩|⟨i,hi,rfl,rfl⟩|⟨rfl,rfl⟩
   . exact this
   . show Exit.inBlock id Q (.exit id) a1 w1;simp only[Exit.inBlock,aUj];exact this
   . show Exit.inBlock id Q (.exit i) a1 w1;simp only[Exit.inBlock,hi,aPv];exact this
   exact this
  |loop c=>exact wpIn_loop_rounds (f+1) (loops c st e st' h ρ w a Q r nn hrd hs ht hd hq)
  |scope c=>
   refine yZ (ih1 _ _ _ _ h ρ w a _ r nn hrd hs ht hd (fun ρ1 w1 a1 s1 t1 d1=>?_));have:=hq ρ1 w1 a1 s1 t1 d1;cases e<;>exact this
  |rangeFunc g ps a1i bd=>
   obtain⟨gv,h1,h2⟩:=aA.1 h;have hv:=ht.vals hT.BD hs hg (.move g) g (by simp[Op.operands]) _ h1;rcases WA h2 with⟨rfl,h3⟩|⟨l,s0,jm,N',t',ps',as',bd',D,rfl,h4,h3⟩
   . obtain rfl:=hrd.none rfl;have k1:Stp w0 ρ (ρ.add st.s.n w.heap.size 0) cx st.s ⟨st.s.h.set st.s.n .df,st.s.n+1⟩ w (w.alloc (.deferred (some []))):=
      hs.alloc _ .df 0 ⟨Env.gY _ _ _ _,by rw[Env.dG];exact aT2 _ _⟩
     have hgd:Gd (st.s.n+1) st.s.n:=⟨aLq _,hs.good _ (aC4 _)⟩;refine KI hT hc hg hl (s1:=⟨st.s.h.set st.s.n .df,st.s.n+1⟩) h3 k1 hv ht (mark:=[{ target:=.collected w.heap.size,args:= #[] }]) ⟨⟨⟨hgd,trivial⟩,.inr ⟨rfl,_,rfl,by rw[Env.dG]⟩⟩,hd.ext k1.ext k1.n⟩ hgd (fun fn=>?_) hq;rw[Env.dG,World.size_alloc];exact run_enterLoop_outer _ _ _ _ _
   cases r with
   |none=>exact hrd.elim
   |some rl=>
    obtain⟨hgd,hrl⟩:=hrd;obtain⟨o0,rr,o1,⟨o2,o3,o4,o5,o6,o7⟩,o8,o9⟩:=hs.obj _ _ h4;refine KI hT hc hg hl h3 (Stp.refl hs) hv ht (mark:=[]) hd o8 (fun fn=>?_) hq;rw[<-o7,<-hrl];exact run_enterLoop_inner o1 _ _ _ _ _
  |_=>cases h
end
theorem aDg{α:Type}{P:Program}{w:World}{ρ:Env}{f:α->Sem Value}{g:α->Option AV}: ∀(l:List α) (r:List AV),lF g l=some r->
 (∀x ∈ l,∀v,g x=some v->(f x).run P w=.ok (den ρ v) w)->(l.mapM f).run P w=.ok (r.map (den ρ)) w:=by
 intro l
 induction l with
 |nil=>intro r h _;cases h;simp
 |cons x l ih=>
  intro r h hf;obtain⟨v,h1,h2⟩:=aA.1 (show ob (g x) (fun v=>ob (lF g l) (fun vs=>some (v::vs)))=some r from h);obtain⟨vs,h3,h4⟩:=aA.1 h2;cases h4;have e1:=hf x aIC v h1;have e2:=ih vs h3 (fun y hy=>hf y (aKO _ hy));simp only[List.mapM_cons,aDt,e1,aBF,e2,aD0,aOZ]
theorem aEv: ∀(l:List AV) (n:Nat) (t:TE) (i:Nat),rC (G5 n l t) i=if n<=i/\i<n+l.length then l[i - n]? else rC t i:=by
 intro l
 induction l with
 |nil=>intro n t i;rw[aEg (fun h=>by have:=h.1;have:=h.2;simp at this;omega)];rfl
 |cons v l ih=>
  intro n t i;show rC (G5 (n+1) l (VP t n v)) i=_;rw[ih];by_cases h1:n=i
  . subst h1;rw[aEg (by omega),DF,aEo (by simp)];simp
  rw[rP _ _ h1];by_cases h2:n+1<=i/\i<n+1+l.length
  . rw[aEo h2,aEo (by simp;omega)];rw[show i - n=(i - (n+1))+1 by omega];rfl
  rw[aEg h2,aEg (by simp;omega)]
section
variable[Gh]{w0:World}{tb:Tab}{call:fD}{cx:Cx}{N:Nat}{ρ:Env}{s:Hs}{w:World}{a:Act}{t:TE}
theorem ZH{n:Nat}{xs:List AV}(h:xs.length<=N)(hx:jM n xs):
 l9 N ρ n ⟨(xs.map (den ρ)).toArray++Array.replicate (N - (xs.map (den ρ)).toArray.size) undef,[]⟩ (G5 0 xs nilA):=by
 refine⟨by simp;omega,fun i v hv=>?_⟩;rw[aEv,aHh]at hv;split at hv
 . rename_i hi;have hi:i<xs.length:=by omega
   rw[aUr]at hv;refine⟨(aY _ _).1 hx v (aLH hv),by omega,?_⟩;have h2:i<(xs.map (den ρ)).toArray.size:=by simp;exact hi
   rw[Array.getElem?_append_left h2,aWo,aEC,hv];rfl
 cases hv
def aFt(tmps:Array Value):ResultVar->Sem Value
 | .tmp t=>pure (tmps.getD t undef)
 | .cell b ty=>do loadVar ty (<-asAddr (tmps.getD b undef))
omit[Gh]in
theorem aAu(fn:Func)(tmps:Array Value):results fn tmps=(do let vs<-fn.results.mapM (aFt tmps);pure (if h:vs.size=1 then vs[0]else .tuple vs)):=rfl
theorem KF(hT:jY tb w0)(hs:aZ w0 ρ cx s w)(ht:l9 N ρ s.n a t){r:ResultVar}{v:AV}(h:aRw tb t cx s r=some v):
 (aFt a.tmps r).run tb.p w=.ok (den ρ v) w/\Sc s.n v:=by
 cases r with
 |tmp k=>
  obtain⟨h1,h2,h3⟩:=ht.val k v h;refine⟨?_,h1⟩;simp only[aFt,aD0,aTs,h3,aT8]
 |cell b ty=>
  obtain⟨i,h1,h2⟩:=aA.1 h;obtain⟨y,h3,h4⟩:=aA.1 h2;obtain⟨c,off,rfl,h5⟩:=fZ h4;obtain⟨o,h6,h7⟩:=aA.1 h5;obtain⟨cells,ho,h8⟩:=qE h7;obtain⟨_,_,h9⟩:=ht.val b _ h3;obtain⟨h11,h12⟩:=F6 (hT.ty ty i h1) (hs.obj c o h6) ho h8;refine⟨?_,h12⟩;simp only[aFt,aTs,h9,aT8,den,asAddr,aDt,aD0,aBF,h11]
theorem aAj(l:List AV):den ρ (single l)=(if h:(l.map (den ρ)).toArray.size=1 then(l.map (den ρ)).toArray[0]else .tuple (l.map (den ρ)).toArray):=by
 cases l with
 |nil=>simp[single,den,fK]
 | cons x l=>
  cases l with
  |nil=>rfl
  |cons y l=>
   rw[dif_neg (by simp)];show den ρ (.eP (x::y::l))=_;rw[den,fK]
theorem aDe{n:Nat}{l:List AV}(h:jM n l):Sc n (single l):=by
 cases l with
 |nil=>exact trivial
 |cons x l=>
  cases l with
  |nil=>exact h.1
  |cons y l=>exact h
theorem zM(hT:jY tb w0)(hs:aZ w0 ρ cx s w)(ht:l9 N ρ s.n a t){fn:Func}{v:AV}(h:sW tb fn t cx s=some v):
 (results fn a.tmps).run tb.p w=.ok (den ρ v) w/\Sc s.n v:=by
 obtain⟨l,h1,h2⟩:=aA.1 h;cases h2;refine⟨?_,aDe ((aY _ _).2 (LU h1 (fun r _ v hv=>(KF hT hs ht hv).2)))⟩;have key:=aDg (P:=tb.p) (w:=w) (ρ:=ρ) (f:=aFt a.tmps) _ _ h1
  (fun r _ v hv=>(KF hT hs ht hv).1)
 rw[aAu];simp only[aDt,Array.mapM_eq_mapM_toList,Sem.run_map,key,aBF,aD0,aAj]
end
theorem WE{c:Code}{d:Option Tmp}(h:KH c=some d): ∃id os args ts ty pos af,c=.region id os false/\os.toList=[⟨d,.call ⟨.builtin .recover,args,ts⟩,ty,pos,af,none⟩]:=by
 unfold KH at h;split at h
 . rename_i i os;split at h
   . rename_i hos;cases h;exact⟨i,os,_,_,_,_,_,rfl,hos⟩
   cases h
 cases h
theorem xJ{tb:Tab}{call:fD}{cx:Cx}{f:FuncId}{xs:List AV}{s s':Hs}(h:FK tb call cx f xs s=some s'):
 ∃fn x y e st v,tb.fn.get f=some fn/\fn.body=some (.seq x y)/\xs.length<=fn.ntmps/\SQ (code tb call cx fn.ntmps none fuel y) (YW tb call cx fn.ntmps fuel x ⟨G5 0 xs nilA,s,[]⟩)=some (e,st)/\
  aGI e=true/\st.d=[]/\sW tb fn st.t cx st.s=some v/\s'=st.s:=by
 obtain⟨fn,h1,h2⟩:=aA.1 h;obtain⟨c,h3,h4⟩:=aA.1 h2;obtain⟨h5,h6⟩:=aF.1 h4;obtain⟨⟨e,st⟩,h7,h8⟩:=aA.1 h6;obtain⟨h9,h10⟩:=aF.1 h8;obtain⟨h11,h12⟩:=aF.1 h10;obtain⟨v,h13,BL⟩:=aA.1 h12;cases BL;cases c with
 |seq x y=>
  refine⟨fn,x,y,e,st,v,h1,h3,?_,h7,h9,?_,h13,rfl⟩
  . have:=aK.1 h5;rwa[len_eq]at this
  change isNil st.d=true at h11;cases hd:st.d with
  |nil=>rfl
  |cons d dl=>rw[hd]at h11;cases h11
 |_=>cases h7
section
variable{tb:Tab}{call:fD}{cx:Cx}{N:Nat}
theorem YV(hf:jB call){f:Nat}{c:Code}{st st':St}{e:Ex}(h:YW tb call cx N f c st=some (e,st')):Fq cx.fl cx.hid st.s st'.s:=by
 unfold YW at h;cases hr:KH c with
 |none=>rw[hr]at h;exact DZ hf _ _ _ _ _ h
 |some d=>
  rw[hr]at h;obtain⟨t,_,h2⟩:=aA.1 h;cases h2;exact Fq.refl _ _ _
theorem aEl(hf:jB call){f:FuncId}{xs:List AV}{s s':Hs}(h:FK tb call cx f xs s=some s'):Fq cx.fl cx.hid s s':=by
 obtain⟨fn,x,y,e,st,v,_,_,_,h1,_,_,_,rfl⟩:=xJ h;rcases qG h1 with⟨st1,h2,h3⟩|⟨h2,_⟩
 . exact(YV hf h2).trans (DZ hf _ _ _ _ _ h3)
 exact YV hf h2
theorem NH{xs:List AV}{s s':Hs}(h:aCH cx xs s=some s'): ∃b o r,xs=.ptr b o::r/\cx.fl<=b/\s.look cx.hid b=some .df/\s'=⟨s.h.del b,s.n⟩:=by
 cases xs with
 |nil=>cases h
 |cons x r=>
  obtain⟨b,o,rfl,h2⟩:=fZ h;obtain⟨h3,h4⟩:=aF.1 h2;obtain⟨ob,h5,h6⟩:=aA.1 h4;cases ob<;>first|(cases h6;done)|(cases h6;exact⟨b,o,r,rfl,aK.1 h3,h5,rfl⟩)
theorem aBo{f:FuncId}{xs:List AV}{s s':Hs}(h:(Bool.rec (motive:=fun _=>Option Hs) (FK tb call cx f xs s) (aCH cx xs s) (Nat.beq f OZ):Option Hs)=some s'):
 (Nat.beq f OZ=false/\FK tb call cx f xs s=some s')\/(Nat.beq f OZ=true/\aCH cx xs s=some s'):=by
 cases hb:Nat.beq f OZ with
 |false=>rw[hb]at h;exact .inl ⟨rfl,h⟩
 |true=>rw[hb]at h;exact .inr ⟨rfl,h⟩
theorem aBn(hf:jB call): ∀(dl:DL) (s s':Hs),DX tb call cx dl s=some s'->Fq cx.fl cx.hid s s':=by
 intro dl
 induction dl with
 |nil=>intro s s' h;cases h;exact Fq.refl _ _ _
 |cons d dl ih=>
  intro s s' h;obtain⟨s1,h1,h2⟩:=aA.1 h;refine Fq.trans ?_ (ih _ _ h2);rcases aBo h1 with⟨_,h1⟩|⟨_,h1⟩
  . exact aEl hf h1
  obtain⟨b,o,r,_,h3,h4,rfl⟩:=NH h1;exact Fq.del h4 h3
def aBO(tb:Tab)(call:fD):fD:=fun fl hid f xs s=>
 ob (tb.fn.get f) (fun fn=>ob fn.body (fun c=>ob (aMp tb call ⟨tb.g,tb.l,fl,hid⟩ fn c xs s) (fun st=>ob (DX tb call ⟨tb.g,tb.l,fl,hid⟩ st.d st.s) (fun s'=>ob (sW tb fn st.t ⟨tb.g,tb.l,fl,hid⟩ s') (fun v=>some (v,s'))))))
theorem JY{fl:Nat}{hid:aYJ}{f:FuncId}{xs:List AV}{s s':Hs}{v:AV}(h:aBO tb call fl hid f xs s=some (v,s')):
 ∃fn c e st,tb.fn.get f=some fn/\fn.body=some c/\xs.length<=fn.ntmps/\code tb call ⟨tb.g,tb.l,fl,hid⟩ fn.ntmps none fuel c ⟨G5 0 xs nilA,s,[]⟩=some (e,st)/\aGI e=true/\
  DX tb call ⟨tb.g,tb.l,fl,hid⟩ st.d st.s=some s'/\sW tb fn st.t ⟨tb.g,tb.l,fl,hid⟩ s'=some v:=by
 obtain⟨fn,h1,h2⟩:=aA.1 h;obtain⟨c,h3,h4⟩:=aA.1 h2;obtain⟨st,h5,h6⟩:=aA.1 h4;obtain⟨s1,h7,h8⟩:=aA.1 h6;obtain⟨v1,h9,h10⟩:=aA.1 h8;cases h10;obtain⟨h11,h12⟩:=aF.1 h5;obtain⟨⟨e,st1⟩,h13,BL⟩:=aA.1 h12;obtain⟨h15,h16⟩:=aF.1 BL;cases h16;refine⟨fn,c,e,st1,h1,h3,?_,h13,h15,h7,h9⟩;have:=aK.1 h11;rwa[len_eq]at this
theorem aE9(ih:jB call):jB (aBO tb call):=by
 intro fl hid f xs s v s' h;obtain⟨fn,c,e,st,h1,h2,h3,h4,h5,h6,h7⟩:=JY h;exact(DZ (cx:=⟨tb.g,tb.l,fl,hid⟩) ih _ _ _ _ _ h4).trans (aBn (cx:=⟨tb.g,tb.l,fl,hid⟩) ih _ _ _ h6)
theorem uN{b:Nat}{need:LoopState->Bool}{st':LoopState}{j:Option (Option Nat)->Option (Option Nat)}{s s':Hs}(h:setSt cx b need st' j s=some s'):
 ∃st jm N t ps a1i bd d,s.look cx.hid b=some (.lp st jm N t ps a1i bd d)/\need st=true/\s'=⟨s.h.set b (.lp st' (j jm) N t ps a1i bd d),s.n⟩:=by
 obtain⟨o,h1,h2⟩:=aA.1 h;obtain⟨st,jm,N,t,ps,a1i,bd,d,rfl,h3⟩:=uU h2;obtain⟨h4,h5⟩:=aF.1 h3;cases h5;exact⟨st,jm,N,t,ps,a1i,bd,d,h1,h4,rfl⟩
theorem F8{b:Nat}{xs:List AV}{s s':Hs}{v:AV}(h:ES tb call cx b xs s=some (v,s')):
 cx.fl<=b/\ ∃st jm N t ps a1i bd d t1 p s2 q,s.look cx.hid b=some (.lp st jm N t ps a1i bd d)/\aIh N ps.toList xs t=some t1/\code tb call cx N (some b) fuel a1i ⟨t1,s,[]⟩=some (.normal,p)/\p.d=[]/\
  setSt cx b isReady .busy (fun j=>j) p.s=some s2/\code tb call cx N (some b) fuel bd ⟨p.t,s2,[]⟩=some q/\
  setSt cx b (fun _=>true) (Option.rec (motive:=fun _=>LoopState) .ready (fun _=>.done) (exJ q.1)) (fun _=>exJ q.1) q.2.s=some s'/\v=.v (.bool (isNone (exJ q.1))):=by
 obtain⟨h1,h2⟩:=aF.1 h;obtain⟨o,h3,h4⟩:=aA.1 h2;obtain⟨st,jm,N,t,ps,a1i,bd,d,rfl,h5⟩:=uU h4;obtain⟨t1,h6,h7⟩:=aA.1 h5;obtain⟨⟨e,p⟩,h8,h9⟩:=aA.1 h7;obtain⟨h10,h11⟩:=aF.1 h9;obtain⟨h12,h13⟩:=aF.1 h11;obtain⟨s2,BL,h15⟩:=aA.1 h13;obtain⟨q,h16,h17⟩:=aA.1 h15;obtain⟨h18,h19⟩:=aF.1 h17;obtain⟨s4,h20,h21⟩:=aA.1 h19;cases h21;refine⟨aK.1 h1,st,jm,N,t,ps,a1i,bd,d,t1,p,s2,q,h3,h6,?_,?_,BL,h16,h20,rfl⟩
 . cases e with
   |normal=>exact h8
   |exit i=>cases h10
   |ret=>cases h10
 change isNil p.d=true at h12;cases hd:p.d with
 |nil=>rfl
 |cons d dl=>rw[hd]at h12;cases h12
theorem aDo(ih:jB call){b:Nat}{xs:List AV}{s s':Hs}{v:AV}(h:ES tb call cx b xs s=some (v,s')):Fq cx.fl cx.hid s s':=by
 obtain⟨h1,st,jm,N,t,ps,a1i,bd,d,t1,p,s2,q,h2,h3,h4,_,h5,h6,h7,_⟩:=F8 h;obtain⟨_,_,_,_,_,_,_,_,k1,_,rfl⟩:=uN h5;obtain⟨_,_,_,_,_,_,_,_,k2,_,rfl⟩:=uN h7;obtain⟨e,q⟩:=q;exact((DZ ih _ _ _ _ _ h4).trans (Fq.put _ k1 h1)).trans ((DZ ih _ _ _ _ _ h6).trans (Fq.put _ k2 h1))
def VG(tb:Tab)(first rest:fD):fD:=fun fl hid f xs s=>
 Bool.rec (motive:=fun _=>Option (AV × Hs)) (first fl hid f xs s) (ES tb rest ⟨tb.g,tb.l,fl,hid⟩ (f - yF) xs s) (Nat.ble yF f)
theorem JV{first rest:fD}{fl:Nat}{hid:aYJ}{f:FuncId}{xs:List AV}{s:Hs}{r:AV × Hs}(h:VG tb first rest fl hid f xs s=some r):
 (Nat.ble yF f=false/\first fl hid f xs s=some r)\/(Nat.ble yF f=true/\ES tb rest ⟨tb.g,tb.l,fl,hid⟩ (f - yF) xs s=some r):=by
 unfold VG at h;cases hb:Nat.ble yF f with
 |false=>rw[hb]at h;exact .inl ⟨rfl,h⟩
 |true=>rw[hb]at h;exact .inr ⟨rfl,h⟩
theorem aE3{first rest:fD}(h1:jB first)(h2:jB rest):jB (VG tb first rest):=by
 intro fl hid f xs s v s' h;rcases JV h with⟨_,h⟩|⟨_,h⟩
 . exact h1 _ _ _ _ _ _ _ h
 exact aDo (cx:=⟨tb.g,tb.l,fl,hid⟩) h2 h
theorem Y3(n:Nat):D7 tb (n+1)=VG tb (aBO tb (D7 tb n)) (D7 tb n):=rfl
theorem Y2(n:Nat):jB (D7 tb n):=by
 induction n with
 |zero=>intro fl hid f xs s v s' h;cases h
 |succ n ih=>rw[Y3];exact aE3 (aE9 ih) ih
end
section
variable[Gh]{w0:World}{tb:Tab}{call:fD}{cx:Cx}{N:Nat}{ρ:Env}{s s':Hs}{w:World}
theorem P8{e:Ex}(h:aGI e=true):aBg e=.normal\/aBg e=.ret:=by
 cases e with
 |normal=>exact .inl rfl
 |exit i=>cases h
 |ret=>exact .inr rfl
theorem YP(hT:jY tb w0)(hc:lJ tb w0 call)(hf:jB call)(hg:cx.g=tb.g)(hl:cx.l=tb.l){f:FuncId}{xs:List AV}(h:FK tb call cx f xs s=some s')
 (hs:aZ w0 ρ cx s w) (hx:jM s.n xs) {R:Ending->FrameMode->World->Prop} (hR: ∀ ρ' w' v,Stp w0 ρ ρ' cx s s' w w'->R (.returned v) .returning w'):
 CallsDIn Fence.wide 0 tb.p f (xs.map (den ρ)).toArray .returning w R:=by
 obtain⟨fn,x,y,e,st,v,h1,h2,h3,h4,h5,h6,h7,rfl⟩:=xJ h;refine callsDIn_of_wpSIn (hT.fn f fn h1).1 h2 trivial (fun c₀ cs hm=>?_);have OX:=ZH (N:=fn.ntmps) (ρ:=ρ) h3 hx;have hd0:kG ρ s.n [] ([]:List Deferred):=trivial;have hc0:({ c₀ with mode:=.returning }:Frame)=c₀:=by rw[<-hm]
 have fin: ∀ ρ' w' a',Stp w0 ρ ρ' cx s st.s w w'->l9 fn.ntmps ρ' st.s.n a' st.t->kG ρ' st.s.n st.d a'.defers->bodyPostS tb.p fn c₀ cs R (aBg e) a' (c₀::cs) w':=by
  intro ρ' w' a' k1 k2 k3;have hde:a'.defers=[]:=by
   rw[h6]at k3;cases hd:a'.defers with
   |nil=>rfl
   |cons d ds=>rw[hd]at k3;exact k3.elim
  have hr:=(zM hT k1.sat k2 h7).1;rcases P8 h5 with he|he<;>rw[he]<;>exact⟨hde,.returning,by rw[hc0],_,hr,hR ρ' w' _ k1⟩
 refine wpSIn_seq ?_;unfold YW at h4;cases hr:KH x with
 |none=>
  rw[hr]at h4;rcases qG h4 with⟨st1,h8,h9⟩|⟨h8,hne⟩
  . refine aXb rfl ((lZ hT hc hf hg hl _).1 _ _ _ _ h8 ρ w _ _ none 0 trivial hs OX hd0 (fun ρ1 w1 a1 s1 t1 d1=>?_));refine aXb rfl ((lZ hT hc hf hg hl _).1 _ _ _ _ h9 ρ1 w1 a1 _ none 0 trivial s1.sat t1 d1 (fun ρ2 w2 a2 s2 t2 d2=>?_));exact fin ρ2 w2 a2 (s1.trans s2) t2 d2
  refine aXb rfl ((lZ hT hc hf hg hl _).1 _ _ _ _ h8 ρ w _ _ none 0 trivial hs OX hd0 (fun ρ1 w1 a1 s1 t1 d1=>?_));have:=fin ρ1 w1 a1 s1 t1 d1;cases e with
  |normal=>exact absurd rfl hne
  |exit i=>exact this
  |ret=>exact this
 |some d=>
  rw[hr]at h4;obtain⟨id,os,args,ts,ty,pos,af,rfl,hos⟩:=WE hr;have ho0:os[0]? =some ⟨d,.call ⟨.builtin .recover,args,ts⟩,ty,pos,af,none⟩:=by rw[<-aEt,hos];rfl
  have hsz:os.size=1:=by rw[<-aII,hos];rfl
  have h4':SQ (code tb call cx fn.ntmps none fuel y) (ob (put fn.ntmps (G5 0 xs nilA) d (.v .nilIface)) (fun t=>some (.normal,⟨t,s,[]⟩)))=some (e,st):=h4;rcases qG h4' with⟨st1,h8,h9⟩|⟨h8,hne⟩
  . obtain⟨t,h10,h11⟩:=aA.1 h8;cases h11;refine wpSIn_region ?_;rw[hsz];show wpOpsSIn Fence.wide 0 tb.p os _ [0] _ _ _;unfold wpOpsSIn;rw[ho0];refine⟨fun _ _=>trivial,?_⟩;have hrun: ∀(g:Operand->Value),(execOp g ⟨d,.call ⟨.builtin .recover,args,ts⟩,ty,pos,af,none⟩).run tb.p w=.ok .recover w:=by
     intro g;simp only[execOp,resolve,aDt,aD0,aBF,invoke,builtin]
    have hrec:recoverD (c₀::cs)=none:=by
     simp only[recoverD,hm]
    simp only[Region.wanted,aUj,hrun,hrec];unfold wpOpsSIn;refine aXb rfl ((lZ hT hc hf hg hl _).1 _ _ _ _ h9 ρ w _ _ none 0 trivial hs (OX.put (v:=.v .nilIface) h10 trivial) ?_ (fun ρ2 w2 a2 s2 t2 d2=>?_))
    . rw[put_defers];exact hd0
    exact fin ρ2 w2 a2 s2 t2 d2
  obtain⟨t,h10,h11⟩:=aA.1 h8;cases h11;exact absurd rfl hne
theorem UF(hT:jY tb w0)(hc:lJ tb w0 call)(hf:jB call)(hg:cx.g=tb.g)(hl:cx.l=tb.l){fn:Func}{tmps:Array Value}{R:Ending->World->Prop}{s':Hs}: ∀(dl:DL) (s:Hs),
 DX tb call cx dl s=some s'-> ∀(ρ:Env) (w:World) (ds:List Deferred),aZ w0 ρ cx s w->kG ρ s.n dl ds->
  (∀ ρ' w',Stp w0 ρ ρ' cx s s' w w'->LeavesInM Fence.wide 0 tb.p fn tmps R [] .returning w')->LeavesInM Fence.wide 0 tb.p fn tmps R ds .returning w:=by
 intro dl
 induction dl with
 |nil=>
  intro s h ρ w ds hs hd hq;cases h;cases ds with
  |nil=>exact hq ρ w (Stp.refl hs)
  |cons d ds=>exact hd.elim
 | cons p dl ih=>
  intro s h ρ w ds hs hd hq;obtain⟨s1,h1,h2⟩:=aA.1 h;cases ds with
  |nil=>exact hd.elim
  | cons d ds=>
   obtain⟨⟨k1,kd⟩,k3⟩:=hd;rcases kd with⟨kf,cap,args,rfl,k2⟩|⟨kf,b,k2,rfl⟩
   case inr=>
    rcases aBo h1 with⟨q1,_⟩|⟨_,h1⟩
    . rw[kf]at q1;cases q1
    obtain⟨b',o',r',q1,q2,q3,rfl⟩:=NH h1;rw[k2]at q1;cases q1;obtain⟨q4,q5⟩:=hs.obj b _ q3;have p1:Stp w0 ρ ρ cx s ⟨s.h.set b (.ro []),s.n⟩ w (w.putObj (ρ.blk b) (.deferred none)):=
     hs.put q3 q2 lU ⟨⟨_,aPq (hs.obj b _ q3).lt⟩,fun i x hx=>by simp at hx,trivial⟩
    have p2:=p1.sat.del (b:=b) (o:=.ro []) (Hs.dF.2 ⟨(Hs.dF.1 q3).1,Tr.uY _ _ _⟩) q2;have hdel:(s.h.set b (.ro [])).del b=s.h.del b:=Tr.PU _ _ _ _;have p3:Stp w0 ρ ρ cx s ⟨s.h.del b,s.n⟩ w _:=hdel ▸ p1.trans p2;exact⟨(by intro h;cases h),.inl ⟨ρ.blk b,_,rfl,aX2 q5,ih _ h2 ρ _ ds p3.sat k3 (fun ρ2 w2 hst2=>hq ρ2 w2 (p3.trans hst2))⟩⟩
   rcases aBo h1 with⟨_,h1⟩|⟨q1,_⟩
   case inr=>rw[kf]at q1;cases q1
   have hfn: ∃fn',tb.fn.get p.1=some fn':=by
    obtain⟨fn',_,_,_,_,_,q,_⟩:=xJ h1;exact⟨fn',q⟩
   obtain⟨fn',hfn⟩:=hfn;refine⟨(by intro h;cases h),.inr ⟨xI (r:=none),_,_,p.1,(p.2.map (den ρ)).toArray,rfl,?_,fun _ _=>trivial,?_⟩⟩
   . simp only[invoke,k2];exact(hT.fn p.1 fn' hfn).2 _ w
   refine YP hT hc hf hg hl h1 hs k1 (fun ρ' w' v hst=>?_);exact ih s1 h2 ρ' w' ds hst.sat (k3.ext hst.ext hst.n) (fun ρ2 w2 hst2=>hq ρ2 w2 (hst.trans hst2))
theorem aE8(hT:jY tb w0)(ih:lJ tb w0 call)(ihf:jB call){fl:Nat}{hid:aYJ}{f:FuncId}{xs:List AV}{v:AV}(h:aBO tb call fl hid f xs s=some (v,s'))(hs:aZ w0 ρ ⟨tb.g,tb.l,fl,hid⟩ s w)(hx:jM s.n xs):
 Calls tb.p f (xs.map (den ρ)).toArray w fun e w'=> ∃ ρ',e=.returned (den ρ' v)/\Stp w0 ρ ρ' ⟨tb.g,tb.l,fl,hid⟩ s s' w w'/\Sc s'.n v:=by
 obtain⟨fn,c,e,st,h1,h2,h3,h4,h5,h6,h7⟩:=JY h;refine aMd.1 (callsIn_of_wp_marks (n:=0) (hT.fn f fn h1).1 h2 trivial ?_);refine(lZ (cx:=⟨tb.g,tb.l,fl,hid⟩) hT ih ihf rfl rfl _).1 _ _ _ _ h4 ρ w _ _ none 0 trivial hs (ZH h3 hx) trivial (fun ρ1 w1 a1 s1 t1 d1=>?_);have key:LeavesInM Fence.wide 0 tb.p fn a1.tmps (fun e w'=> ∃ ρ',e=.returned (den ρ' v)/\Stp w0 ρ ρ' ⟨tb.g,tb.l,fl,hid⟩ s s' w w'/\Sc s'.n v) a1.defers .returning w1:=by
  refine UF hT ih ihf rfl rfl _ _ h6 ρ1 w1 _ s1.sat d1 (fun ρ2 w2 s2=>?_);obtain⟨k1,k2⟩:=zM hT s2.sat (t1.ext s2.ext s2.n) h7;exact⟨_,k1,ρ2,rfl,s1.trans s2,k2⟩
 rcases P8 h5 with he|he<;>rw[he]<;>exact key
theorem aIg{n:Nat}: ∀(ps:List Tmp) (xs:List AV) (t t1:TE) (tm:Array Value),aIh N ps xs t=some t1->jM n xs->ZN ρ n N tm t->
 xs.length=ps.length/\ZN ρ n N ((ps.zip (xs.map (den ρ))).foldl (fun t (p,v)=>t.setIfInBounds p v) tm) t1:=by
 intro ps
 induction ps with
 |nil=>
  intro xs t t1 tm h _ ht;cases xs with
  |nil=>cases h;exact⟨rfl,ht⟩
  |cons x r=>cases h
 | cons p ps ih=>
  intro xs t t1 tm h hx ht;cases xs with
  |nil=>cases h
  | cons x r=>
   obtain⟨h1,h2⟩:=aF.1 h;have hp:=aK.1 h1;obtain⟨k1,k2⟩:=ih r _ t1 (tm.setIfInBounds p (den ρ x)) h2 hx.2 ⟨by simp[ht.1],fun i v hv=>by
    have hv:rC (VP t p x) i=some v:=hv;by_cases e:p=i
    . subst e;rw[DF]at hv;cases hv;exact⟨hx.1,hp,by simp[aUA,ht.1];omega⟩
    rw[rP _ _ e]at hv;obtain⟨q1,q2,q3⟩:=ht.2 i v hv;exact⟨q1,q2,by rw[aJN e];exact q3⟩⟩
   exact⟨by simp[k1],k2⟩
omit[Gh]in
theorem aHC{e:Ex}:(exJ e=none/\e=.normal)\/(∃j,exJ e=some j/\e=jmE j):=by
 cases e with
 |normal=>exact .inl ⟨rfl,rfl⟩
 |exit i=>exact .inr ⟨some i,rfl,rfl⟩
 |ret=>exact .inr ⟨none,rfl,rfl⟩
theorem aFr(hT:jY tb w0)(ih:lJ tb w0 call)(ihf:jB call){fl:Nat}{hid:aYJ}{b:Nat}{xs:List AV}{v:AV}(h:ES tb call ⟨tb.g,tb.l,fl,hid⟩ b xs s=some (v,s'))(hgd:Gd s.n b)(hs:aZ w0 ρ ⟨tb.g,tb.l,fl,hid⟩ s w)(hx:jM s.n xs):
 ∃r:Loop,w.heap[ρ.blk b]? =some (.loop r)/\xs.length=r.params.size/\ ∀n,RoundIn Fence.wide n tb.p (ρ.blk b) r.fn
  ((r.params.zip (xs.map (den ρ)).toArray).foldl (fun t (p,v)=>t.setIfInBounds p v) r.tmps) r.assign r.body w fun e w'=> ∃ ρ',e=.returned (den ρ' v)/\Stp w0 ρ ρ' ⟨tb.g,tb.l,fl,hid⟩ s s' w w'/\Sc s'.n v:=by
 obtain⟨h1,st,jm,N,t,ps,a1i,bd,d,t1,p,s2,q,h2,h3,h4,hpd,h5,h6,h7,rfl⟩:=F8 h;have hbn:=hs.lt b _ h2;obtain⟨o0,r,o1,⟨o2,o3,o4,o5,o6,o7⟩,o8,o9⟩:=hs.obj _ _ h2;obtain⟨a1,a2⟩:=aIg ps.toList xs t t1 r.tmps h3 hx o9;subst o4;subst o5;subst o6;refine⟨r,o1,a1.trans (aII ..),fun n=>?_⟩;have hfold:(r.params.zip (xs.map (den ρ)).toArray).foldl (fun t (p,v)=>t.setIfInBounds p v) r.tmps=(r.params.toList.zip (xs.map (den ρ))).foldl (fun t (p,v)=>t.setIfInBounds p v) r.tmps:=by
  rw[<-Array.foldl_toList,Array.toList_zip]
 rw[hfold];obtain⟨l,hl⟩: ∃l,ρ.blk b=l:=⟨_,rfl⟩;rw[hl];refine roundIn_of_wpIn trivial ?_;refine(lZ (cx:=⟨tb.g,tb.l,fl,hid⟩) hT ih ihf rfl rfl fuel).1 _ _ _ _ h4 ρ w _ _ (some l) n ⟨hgd,hl⟩ hs ⟨a2.1,a2.2⟩ trivial (fun ρ1 w1 c1 S1 T1 D1=>?_);obtain⟨st1,jm1,N1,t1',ps1,as1,bd1,d1,k1,k2,rfl⟩:=uN h5;obtain⟨p0,r1,p1,⟨p2,p3,p4,p5,p6,p7⟩,p8,p9⟩:=S1.sat.obj _ _ k1;have hl1:ρ1.blk b=l:=(S1.ext b hbn).1.trans hl;rw[hl1]at p1;have aN5:r1.state=.ready:=by
  rw[p2];cases st1<;>first|rfl|(cases k2;done)
 refine⟨_,run_beginRound p1 aN5,?_⟩;have S2:Stp w0 ρ1 ρ1 ⟨tb.g,tb.l,fl,hid⟩ p.s ⟨p.s.h.set b (.lp .busy jm1 N1 t1' ps1 as1 bd1 d1),p.s.n⟩ w1 (w1.putObj l (.loop { r1 with state:=.busy })):=by
  refine S1.sat.put k1 h1 (hl1 ▸ lU) ⟨p0,{ r1 with state:=.busy },?_,⟨rfl,p3,p4,p5,p6,p7⟩,p8,p9⟩;rw[hl1];exact aPq (aEH.1 p1).1
 have hgd1:Gd p.s.n b:=⟨aG0 hbn S1.n,hgd.2⟩;have hdef:c1.defers=[]:=by
  rw[hpd]at D1;cases hd:c1.defers with
  |nil=>rfl
  |cons d ds=>rw[hd]at D1;exact D1.elim
 obtain⟨e,q⟩:=q;refine(lZ (cx:=⟨tb.g,tb.l,fl,hid⟩) hT ih ihf rfl rfl fuel).1 _ _ _ _ h6 ρ1 _ _ _ (some l) n ⟨hgd1,hl1⟩ S2.sat T1 (by rw[hdef];trivial) (fun ρ2 w2 c2 S3 T3 D3=>?_);obtain⟨st2,jm2,N2,t2',ps2,as2,bd2,d2,m1,_,rfl⟩:=uN h7;obtain⟨n0,r2,n1,⟨n2,n3,n4,n5,n6,n7⟩,n8,n9⟩:=S3.sat.obj _ _ m1;have hl2:ρ2.blk b=l:=(S3.ext b (aG0 hbn S1.n)).1.trans hl1;rw[hl2]at n1;have fin: ∀(j:Option (Option Nat)),exJ e=j-> ∃v w',(Instr.endRound l (j.map jmC)).run tb.p w2=.ok v w'/\(∃ ρ',Ending.returned v=.returned (den ρ' (.v (.bool (isNone (exJ e)))))/\
  Stp w0 ρ ρ' ⟨tb.g,tb.l,fl,hid⟩ s ⟨q.s.h.set b (.lp (Option.rec (motive:=fun _=>LoopState) .ready (fun _=>.done) (exJ e)) (exJ e) N2 t2' ps2 as2 bd2 d2),q.s.n⟩ w w'/\Sc q.s.n (.v (.bool (isNone (exJ e))))):=by
  intro j hj;refine⟨_,_,run_endRound _ n1,ρ2,?_,(S1.trans (S2.trans S3)).trans (S3.sat.put m1 h1 (hl2 ▸ lU) ⟨n0,{ r2 with state:=if(j.map jmC).isNone then .ready else .done,pending:=j.map jmC },by rw[hl2];exact aPq (aEH.1 n1).1,⟨?_,?_,n4,n5,n6,n7⟩,n8,n9⟩),trivial⟩
  . rw[hj];cases j<;>rfl
  . rw[hj];cases j<;>rfl
  rw[hj]
 rcases aHC (e:=e)with⟨k,rfl⟩|⟨j,k,rfl⟩
 . exact fin none k
 cases j with
 |none=>exact fin (some none) k
 |some i=>exact fin (some (some i)) k
omit[Gh]in
theorem aE2(hT:jY tb w0){first rest:fD}(h1: ∀(_:Gh) fl hid f xs s v s',Nat.ble yF f=false->first fl hid f xs s=some (v,s')-> ∀ ρ w,aZ w0 ρ ⟨tb.g,tb.l,fl,hid⟩ s w->jM s.n xs->
 Calls tb.p f (xs.map (den ρ)).toArray w fun e w'=> ∃ ρ',e=.returned (den ρ' v)/\Stp w0 ρ ρ' ⟨tb.g,tb.l,fl,hid⟩ s s' w w'/\Sc s'.n v) (h2:lJ tb w0 rest) (h3:jB rest):lJ tb w0 (VG tb first rest):=by
 intro G fl hid f xs s v s' h ρ w hs hx;rcases JV h with⟨hb,h⟩|⟨hb,h⟩
 . exact⟨fun _=>h1 G _ _ _ _ _ _ _ hb h ρ w hs hx,fun hb'=>(by rw[hb]at hb';cases hb')⟩
 exact⟨fun hb'=>(by rw[hb]at hb';cases hb'),fun _ hgd=>aFr hT h2 h3 h hgd hs hx⟩
end
theorem aH8{w0:World}{tb:Tab}(hT:jY tb w0)(n:Nat):lJ tb w0 (D7 tb n):=by
 induction n with
 |zero=>intro G fl hid f xs s v s' h;cases h
 |succ n ih=>
  rw[Y3];exact aE2 hT (fun G fl hid f xs s v s' _ h ρ w hs hx=>aE8 hT ih (Y2 n) h hs hx) ih (Y2 n)
theorem Tr.aEy{α:Type}{c:Nat->α->Prop}{k s:Nat}{l r:Tr α}(h1:l.zC c (k+s) (2 * s))(h2:r.zC c (k+2 * s) (2 * s)):(Tr.node none l r).zC c k s:=⟨trivial,h1,h2⟩
theorem Tr.aEx{α:Type}{c:Nat->α->Prop}{k s:Nat}{x:α}{l r:Tr α}(h:c k x)(h1:l.zC c (k+s) (2 * s))(h2:r.zC c (k+2 * s) (2 * s)):(Tr.node (some x) l r).zC c k s:=⟨h,h1,h2⟩
structure aLt(P:Program)(k:Nat)(f:Func):Prop where
 get:(P.funcs[k]?)=some f
 name:(f.name== "runtime.NumGoroutine")=false
 body:f.body.isNone=false
theorem aLt.run{P:Program}{k:Nat}{f:Func}(h:aLt P k f)(args:Array Value)(w:World):(callFunc k args).run P w=.ok (.enter k args) w:=by
 have h1:=h.name;have h2:=h.body;have hp:(program:Sem Program).run P w=.ok P w:=rfl;unfold callFunc;rw[aDt,hp,aBF,h.get];dsimp only;rw[h1,h2]
 rfl
def aKC(P:Program)(t:TypeId)(name:String)(f:FuncId):Bool:=
 match P.info? t with
 |none=>false
 | some i=>match i.methods.find? (·.name==name)with
  |none=>false
  |some m=>match m.path.toList,m.func,P.underlying t with
   |[],some (g,false),some (.pointer _)=>false
   |[],some (g,false),some _=>Nat.beq g f
   |[],some (g,true),some (.pointer _)=>Nat.beq g f
   |_,_,_=>false
theorem aGV{P:Program}{t:TypeId}{name:String}{f:FuncId}(h:aKC P t name f=true)(v:Value)(w:World):(method (P.types.size+Made.depth) t v name).run P w=.ok (f,v) w:=by
 have hd:1<=Made.depth:=by decide
 obtain⟨n,hn⟩: ∃n,P.types.size+Made.depth=n+1:=⟨P.types.size+(Made.depth - 1),by omega⟩;rw[hn];unfold aKC at h;cases hi:P.info? t with
 |none=>rw[hi]at h;cases h
 | some i=>
  rw[hi]at h;dsimp only at h;cases hm:i.methods.find? (·.name==name)with
  |none=>rw[hm]at h;cases h
  | some m=>
   rw[hm]at h;dsimp only at h;have ht:(typeInfo t).run P w=.ok i w:=by simp[typeInfo,hi]
   have key: ∀(pr:Bool) (d:TypeDesc),m.path.toList=[]->m.func=some (f,pr)->P.underlying t=some d->((∃e,d=.pointer e)/\pr=true\/(∀e,d≠ .pointer e)/\pr=false)->
    (method (n+1) t v name).run P w=.ok (f,v) w:=by
    intro pr d h1 h2 h3 h4;have hr:(receiverAt t (.val v) pr (if m.path.isEmpty then some ((name.splitOn ".").getLastD name)else none)).run P w=.ok v w:=by
     unfold receiverAt;rw[aDt,aEG h3,aBF];rcases h4 with⟨⟨e,rfl⟩,rfl⟩|⟨h4,rfl⟩
     . rfl
     cases d<;>first|rfl|exact absurd rfl (h4 _)
    unfold method;simp only[aDt,ht,aBF,hm,h1,follow,aD0,h2,hr]
   split at h
   . cases h
   . rename_i g d hd hp hf hu;obtain rfl:=aEE h;exact key _ _ hp hf hu (.inr ⟨fun e he=>hd e he,rfl⟩)
   . rename_i g e hp hf hu;obtain rfl:=aEE h;exact key _ _ hp hf hu (.inl ⟨⟨e,rfl⟩,rfl⟩)
   cases h
def aKB(l:List (TypeId × String × FuncId))(t:TypeId)(name:String):Option FuncId:=
 List.rec (motive:=fun _=>Option FuncId) none (fun e _ ih=>Bool.rec (motive:=fun _=>Option FuncId) ih (Bool.rec (motive:=fun _=>Option FuncId) ih (some e.2.2) (e.2.1==name)) (Nat.beq e.1 t)) l
theorem aCi{P:Program}{l:List (TypeId × String × FuncId)}(h:l.all (fun e=>aKC P e.1 e.2.1 e.2.2)=true): ∀t name f,aKB l t name=some f-> ∀(v:Value) (w:World),(method (P.types.size+Made.depth) t v name).run P w=.ok (f,v) w:=by
 induction l with
 |nil=>intro t name f h;cases h
 | cons e l ih=>
  rw[aO7,aEb]at h;intro t name f hm;have hm:Bool.rec (motive:=fun _=>Option FuncId) (aKB l t name) (Bool.rec (motive:=fun _=>Option FuncId) (aKB l t name) (some e.2.2) (e.2.1==name)) (Nat.beq e.1 t)=some f:=hm;cases h1:Nat.beq e.1 t with
  |false=>rw[h1]at hm;exact ih h.2 t name f hm
  | true=>
   rw[h1]at hm;cases h2:(e.2.1==name)with
   |false=>rw[h2]at hm;exact ih h.2 t name f hm
   |true=>
    rw[h2]at hm;cases hm;have h1:=aEE h1;rw[aI3]at h2;subst h1;subst h2;exact aGV h.1
theorem aE6{tb:Tab}{w0:World}(h1:tb.ty.zC (fun k i=>nG tb.p k i) 0 1)(h2:tb.fn.zC (fun k f=>aLt tb.p k f) 0 1)(h3:tb.p.follows .mixedOrders=true)
 (h4: ∀f xs v,tb.orc f xs=some v->(∀(_:Gh) n,(∀g,g<tb.g.n->Gd n g)->Sc n v)/\(∀args w,(callFunc f args).run tb.p w=.ok (.enter f args) w)/\
   ∀ ρ w,Lv tb ρ->Below w0.heap.size w0 w->Calls tb.p f (xs.map (den ρ)).toArray w fun e w'=>e=.returned (den ρ v)/\Below w.heap.size w w')
 (h8:EI tb)
 (h5: ∀f,tb.idn f=true-> ∀x w,(callFunc f #[x]).run tb.p w=.ok (.value x) w)
 (h6: ∀f e,tb.mnz f=some e-> ∀(n:Nat) w,n<=140737488355328-> ∃cs:Array Value,(callFunc f #[.int .i64 n]).run tb.p w=.ok (.value (.slice (some ⟨w.heap.size,0,none⟩) n cs.size)) (w.drew.drew.alloc (.cells cs e))/\n<=cs.size)
 (h7: ∀t name f,tb.met t name=some f-> ∀(v:Value) (w:World),(method (tb.p.types.size+Made.depth) t v name).run tb.p w=.ok (f,v) w):jY tb w0 where
 ty:=fun t i h=>Tr.NV h1 h
 fn:=fun f fn h=>⟨(Tr.NV h2 h).get,(Tr.NV h2 h).run⟩
 orc:=h4
 BD:=h8
 mixed:=h3
 idn:=h5
 mnz:=h6
 met:=h7
end
section
def Tr.lst{α:Type}(t:Tr α):Nat->Nat->List (Nat × α):=
 Tr.rec (motive:=fun _=>Nat->Nat->List (Nat × α)) (fun _ _=>[])
  (fun v _ _ il ir k s=>Option.rec (motive:=fun _=>List (Nat × α)) (il (k+s) (2 * s)++ir (k+2 * s) (2 * s)) (fun x=>(k,x)::(il (k+s) (2 * s)++ir (k+2 * s) (2 * s))) v) t
theorem Tr.NU{α:Type}{c:Nat->α->Prop}: ∀ {t:Tr α} {k s:Nat},(∀e ∈ t.lst k s,c e.1 e.2)->t.zC c k s:=by
 intro t
 induction t with
 |nil=>intro k s _;trivial
 |node v l r il ir=>
  intro k s h;cases v with
  |none=>exact Tr.aEy (il fun e he=>h e (aT5 _ he)) (ir fun e he=>h e (aYA _ he))
  |some x=>exact Tr.aEx (h (k,x) (aIC ..)) (il fun e he=>h e (aKO _ (aT5 _ he))) (ir fun e he=>h e (aKO _ (aYA _ he)))
theorem kP{β γ:Type}{f g:β->γ}: ∀ {l:List β},l.map f=l.map g-> ∀e ∈ l,f e=g e:=by
 intro l h e he
 induction l with
 |nil=>cases he
 |cons x l ih=>
  rw[aOZ,aOZ,aYd]at h;rcases aLr.1 he with rfl|he
  . exact h.1
  exact ih h.2 he
theorem ty_1:(tys.lst 0 1).map (fun e=>(prog.info? e.1).map fun j=>(j.size,j.bytes,j.zero))=(tys.lst 0 1).map fun e=>some (e.2.size,e.2.bytes,some (zeroOf e.2)):=by kernel_rfl
theorem ty_2:(tys.lst 0 1).map (fun e=>(prog.underlying e.1).map fun d=>(L9 d,kindOf prog d))=(tys.lst 0 1).map fun e=>some (e.2.agg,e.2.k):=by kernel_rfl
theorem aVh:(tys.lst 0 1).map (fun e=>(zeroOf e.2).cells.toList)=(tys.lst 0 1).map fun e=>e.2.zero:=by kernel_rfl
theorem aVg:(tys.lst 0 1).map (fun e=>e.2.zero.length)=(tys.lst 0 1).map fun e=>e.2.size:=by kernel_rfl
theorem aMV:tys.zC (fun k i=>nG prog k i) 0 1:=Tr.NU fun e he=>⟨kP ty_1 e he,kP ty_2 e he,kP aVh e he,kP aVg e he⟩
theorem aWJ:(fns.lst 0 1).map (fun e=>prog.funcs[e.1]?)=(fns.lst 0 1).map fun e=>some e.2:=by kernel_rfl
theorem aWI:(fns.lst 0 1).map (fun e=>(e.2.name== "runtime.NumGoroutine"))=(fns.lst 0 1).map fun e=>false:=by kernel_rfl
theorem aWH:(fns.lst 0 1).map (fun e=>e.2.body.isNone)=(fns.lst 0 1).map fun e=>false:=by kernel_rfl
theorem aHx:fns.zC (fun k f=>aLt prog k f) 0 1:=Tr.NU fun e he=>⟨kP aWJ e he,kP aWI e he,kP aWH e he⟩
end
section
open Go.RowKit
abbrev IL:=List AV × List (Nat × List AV) × Nat
def aD9{α:Type}(g:α->Nat->Option IL):List α->Nat->Option IL
 |[],n=>some ([],[],n)
 |x::l,n=>(g x n).bind fun a=>(aD9 g l a.2.2).map fun b=>(a.1++b.1,a.2.1++b.2.1,b.2.2)
def aBN(P:Program):List Field->Nat->Option Nat
 |[],o=>some o
 |f::l,o=>if f.offset=o then aBN P l (o+P.cellsOf f.type)else none
def aAU(P:Program):Nat->TypeId->DataW Unit->Nat->Option IL
 |0,_,_,_=>none
 | f+1,t,d,n=>
  match P.underlying t,d with
  |some .bool,.lit (.bool b)=>some ([.v (.bool b)],[],n)
  |some (.int k),.lit (.int _ z)=>some ([.v (.int k z)],[],n)
  |some .string,.lit (.string s)=>some ([.v (.string ⟨s.toArray⟩)],[],n)
  |some (.pointer e),.ptr d=>if P.cellsOf e=0 then none else(aAU P f e d (n+1)).map fun a=>([.ptr n 0],(n,a.1)::a.2.1,a.2.2)
  |some (.slice e),.slice es sp=>if P.cellsOf e=0\/es.isEmpty then none else
   (aD9 (fun d n=>aAU P f e d n) (es++sp) (n+1)).map fun a=>([.sl n 0 es.length (es.length+sp.length)],(n,a.1)::a.2.1,a.2.2)
  |some (.struct fs),.agg ps=>if fs.size=ps.length/\aBN P fs.toList 0=some (P.cellsOf t)then aD9 (fun(p:Field × DataW Unit) n=>aAU P f p.1.type p.2 n) (fs.toList.zip ps) n else none
  |some (.array m e),.agg ps=>if ps.length=m/\P.cellsOf t=m * P.cellsOf e then aD9 (fun d n=>aAU P f e d n) ps n else none
  |_,_=>none
section
variable[Gh](w:World)
structure aIA(ρ:Env)(n:Nat)(r:IL)(cs:List Value):Prop where
 le:n<=r.2.2
 cells:cs=r.1.map (den ρ)
 sc:jM r.2.2 r.1
 blks: ∀q ∈ r.2.1,n<=q.1/\q.1<r.2.2/\jM r.2.2 q.2/\(∃x,w.heap[ρ.blk q.1]? =some x)/\ ∀i x,q.2[i]? =some x->w.cell? ⟨ρ.blk q.1,ρ.off q.1+i,none⟩=some (den ρ x)
def qY(n:Nat)(r:IL)(cs:List Value):Prop:= ∀ ρ,∃ ρ',Ext n ρ ρ'/\aIA w ρ' n r cs
variable{w}
theorem aIA.ext{ρ ρ':Env}{n m:Nat}{r:IL}{cs:List Value}(h:aIA w ρ n r cs)(he:Ext r.2.2 ρ ρ')(hm:r.2.2<=m):
 cs=r.1.map (den ρ')/\jM m r.1/\ ∀q ∈ r.2.1,n<=q.1/\q.1<r.2.2/\jM m q.2/\(∃x,w.heap[ρ'.blk q.1]? =some x)/\ ∀i x,q.2[i]? =some x->w.cell? ⟨ρ'.blk q.1,ρ'.off q.1+i,none⟩=some (den ρ' x):=by
 refine⟨by rw[DW he h.sc];exact h.cells,jM.mono hm _ h.sc,fun q hq=>?_⟩;obtain⟨h1,h2,h3,h4,h5⟩:=h.blks q hq;have hb:=he q.1 h2;refine⟨h1,h2,jM.mono hm _ h3,by rw[hb.1];exact h4,fun i x hx=>?_⟩;rw[hb.1,hb.2.1,h5 i x hx,oJ he x ((aY _ _).1 h3 x (aLH hx))]
theorem AU{α:Type}{g:α->Nat->Option IL}{S:α->List Value->Prop}(hg: ∀x n r,g x n=some r-> ∀cs,S x cs->qY w n r cs):
 ∀(l:List α) (n:Nat) (r:IL),aD9 g l n=some r-> ∀css:List (List Value),css.length=l.length->(∀(i:Nat) (x:α) (c:List Value),l[i]? =some x->css[i]? =some c->S x c)->qY w n r css.flatten:=by
 intro l
 induction l with
 |nil=>
  intro n r h css hl hs ρ;cases h;cases css with
  |nil=>exact⟨ρ,Ext.refl _ _,aC4 _,rfl,trivial,fun q hq=>by cases hq⟩
  |cons c css=>cases hl
 | cons x l ih=>
  intro n r h css hl hs ρ;cases css with
  |nil=>cases hl
  |cons c css=>
   simp only[aD9,aSF,aLk]at h;obtain⟨a,h1,b,h2,rfl⟩:=h;obtain⟨ρ1,e1,k1⟩:=hg x n a h1 c (hs 0 x c rfl rfl) ρ;obtain⟨ρ2,e2,k2⟩:=ih a.2.2 b h2 css (by simpa using hl) (fun i y d hy hd=>hs (i+1) y d (by simpa using hy) (by simpa using hd)) ρ1;obtain⟨q1,q2,q3⟩:=k1.ext e2 k2.le;refine⟨ρ2,e1.trans e2 k1.le,aKM k1.le k2.le,?_,?_,fun q hq=>?_⟩
   . rw[aUm,aPf,<-q1,<-k2.cells]
   . rw[aY];intro y hy;rcases aIK.1 hy with hy|hy
     . exact(aY _ _).1 q2 y hy
     exact(aY _ _).1 k2.sc y hy
   rcases aIK.1 hq with hq|hq
   . obtain⟨j1,j2,j3,j4,j5⟩:=q3 q hq;exact⟨j1,aG0 j2 k2.le,j3,j4,j5⟩
   obtain⟨j1,j2,j3,j4,j5⟩:=k2.blks q hq;exact⟨aKM k1.le j1,j2,j3,j4,j5⟩
end
def Env.at'(ρ:Env)(n r o:Nat):Env:=⟨fun b=>if b=n then r else ρ.blk b,fun b=>if b=n then o else ρ.off b,ρ.cp⟩
theorem Env.aLg(ρ:Env)(n r o:Nat):Ext n ρ (ρ.at' n r o):=fun b hb=>by
 have:b≠n:=by omega
 simp[Env.at',this]
theorem flat_get{α:Type}{z:Nat}(hz:0<z): ∀(css:List (List α)),(∀c ∈ css,c.length=z)-> ∀j,css.flatten[j]? =(css[j / z]?).bind (·[j % z]?):=by
 intro css
 induction css with
 |nil=>intro _ j;simp
 |cons c css ih=>
  intro h j;have hc:=h c aIC;rw[aUm];by_cases hj:j<z
  . rw[aIG (by omega),Nat.div_eq_of_lt hj,Nat.mod_eq_of_lt hj];rfl
  rw[aJk (by omega),hc,ih (fun d hd=>h d (aKO _ hd))];have e1:j / z=(j - z) / z+1:=by rw[Nat.div_eq_sub_div hz (by omega)]
  have e2:j % z=(j - z) % z:=by rw[Nat.mod_eq_sub_mod (by omega)]
  rw[e1,e2,List.getElem?_cons_succ]
section
variable[Gh]{w:World}{P:Program}
theorem ER(n:Nat)(v:Value):qY w n ([.v v],[],n) [v]:=fun ρ=>⟨ρ,Ext.refl _ _,aC4 _,rfl,⟨trivial,trivial⟩,fun q hq=>by cases hq⟩
theorem sound_row{n:Nat}{a:IL}{row:List Value}{A:Addr}(h:qY w (n+1) a row)(hrow: ∀j v,row[j]? =some v->w.cell? (A.add j)=some v)(hne:row≠[])(mk:Addr->Value)(mkA:AV)
 (hA: ∀ ρ:Env,ρ.blk n=A.block->ρ.off n=A.off->den ρ mkA=mk ⟨A.block,A.off,none⟩) (hs: ∀m,n<m-> ¬Gh.bad n->Sc m mkA) (hg: ¬Gh.bad n):
 qY w n ([mkA],(n,a.1)::a.2.1,a.2.2) [mk A]:=by
 have hspot:A.spot=none:=by
  obtain⟨v,r,rfl⟩: ∃v r,row=v::r:=by cases row with|nil=>exact absurd rfl hne|cons v r=>exact⟨v,r,rfl⟩
  have:=hrow 0 v rfl;have e:A.add 0=A:=rfl;rw[e]at this;unfold World.cell? at this;split at this
  . split at this
    . cases this
    rename_i hn;cases hx:A.spot with
    |none=>rfl
    |some k=>rw[hx]at hn;exact absurd rfl hn
  cases this
 have hadd: ∀j,A.add j=⟨A.block,A.off+j,none⟩:=by
  intro j;unfold Addr.add;split
  . rename_i h0;subst h0;cases A;simp at hspot;simp[hspot]
  rfl
 have hA0:A=⟨A.block,A.off,none⟩:=by cases A;simp at hspot;simp[hspot]
 intro ρ;obtain⟨ρ',e1,k1⟩:=h (ρ.at' n A.block A.off);have hn:=e1 n (aLq n);have b1:ρ'.blk n=A.block:=by rw[hn.1];simp[Env.at']
 have b2:ρ'.off n=A.off:=by rw[hn.2.1];simp[Env.at']
 refine⟨ρ',(Env.aLg ρ n A.block A.off).trans (e1.mono (aPj n)) (aC4 _),aKM (aPj n) k1.le,?_,⟨hs _ (aG0 (aLq n) k1.le) hg,trivial⟩,fun q hq=>?_⟩
 . show[mk A]=[den ρ' mkA];rw[hA ρ' b1 b2,<-hA0]
 rcases aLr.1 hq with rfl|hq
 . refine⟨aC4 _,aG0 (aLq n) k1.le,k1.sc,?_,fun i x hx=>?_⟩
   . obtain⟨v,r,hr⟩: ∃v r,row=v::r:=by cases row with|nil=>exact absurd rfl hne|cons v r=>exact⟨v,r,rfl⟩
     have:=hrow 0 v (by rw[hr];rfl);rw[hadd]at this;unfold World.cell? at this;dsimp only;rw[b1];cases hx:w.heap[A.block]? with
     |none=>rw[hx]at this;cases this
     |some x=>exact⟨x,rfl⟩
   dsimp only;rw[b1,b2,<-hadd];apply hrow;rw[k1.cells,aEC,hx];rfl
 obtain⟨j1,j2,j3⟩:=k1.blks q hq;exact⟨aUl j1,j2,j3⟩
end
section
variable[Gh]{w:World}{P:Program}
def Reads(P:Program)(w:World)(t:TypeId)(d:DataW Unit)(cs:List Value):Prop:= ∃fuel p,DataW.trod (fun _=>()) P w 0 (fun _=>true) false fuel t cs=some (d,p)
omit[Gh]in
theorem chop{α:Type}{z:Nat}: ∀(m:Nat) (cs:List α),cs.length=m * z->((List.range m).map fun i=>(cs.drop (i * z)).take z).flatten=cs:=by
 intro m
 induction m with
 |zero=>intro cs h;simp at h;subst h;rfl
 | succ m ih=>
  intro cs h;rw[List.range_succ_eq_map,aOZ,aUm,aV7];have h2:(cs.drop z).length=m * z:=by rw[List.length_drop,h,aYy];omega
  have:=ih (cs.drop z) h2;have e:((fun i=>(cs.drop (i * z)).take z) ∘ Nat.succ)=fun i=>((cs.drop z).drop (i * z)).take z:=by
   funext i;simp only[Function.comp,aYh];congr 2;rw[aYy,Nat.add_comm]
  rw[e,this];simp
omit[Gh]in
theorem Z9{α:Type}: ∀(fs:List Field) (o e:Nat) (cs:List α),aBN P fs o=some e->cs.length=e->o<=e/\(fs.map fun f=>(cs.drop f.offset).take (P.cellsOf f.type)).flatten=cs.drop o:=by
 intro fs
 induction fs with
 |nil=>intro o e cs h hl;cases h;exact⟨aC4 _,by simp[hl]⟩
 |cons f fs ih=>
  intro o e cs h hl;unfold aBN at h;split at h
  . rename_i ho;obtain⟨h1,h2⟩:=ih _ _ cs h hl;refine⟨by omega,?_⟩;rw[aOZ,aUm,h2,ho,<-aYh,List.take_append_drop]
  cases h
theorem aAT (hG: ∀n,¬Gh.bad n) (f:Nat): ∀(t:TypeId) (d:DataW Unit) (n:Nat) (r:IL),aAU P f t d n=some r-> ∀cs,Reads P w t d cs->qY w n r cs:=by
 induction f with
 |zero=>intro t d n r h;cases h
 | succ f ih=>
  intro t d n r h cs hr;obtain⟨fuel,p,hr⟩:=hr;unfold aAU at h;split at h
  . rename_i ht;obtain⟨b,rfl,hx⟩:=DataW.trod_bool ht hr;cases h;cases hx;exact ER n _
  . rename_i ht;obtain⟨z,rfl,hx,_⟩:=aYk ht hr;cases h;cases hx;exact ER n _
  . rename_i ht;obtain⟨s,rfl,hx,_⟩:=DataW.trod_string ht hr;cases h;cases hx;exact ER n _
  . rename_i e d' ht;split at h
    . cases h
    rename_i hz;obtain⟨a,h1,rfl⟩:=aLk.1 h;rcases DataW.trod_pointer ht hr with⟨_,hx⟩|⟨A,cs',y,m,rfl,rfl,hx,hc,hy⟩
    . cases hx
    cases hx;obtain⟨_,hl,hg⟩:=aUk hc;refine sound_row (row:=cs') (A:=A) (mk:=fun A=>.pointer (some A)) (ih e _ (n+1) a h1 cs' ⟨m,y.2,hy⟩) (fun j v hv=>?_) (fun h0=>?_) (.ptr n 0) (fun ρ b1 b2=>?_) (fun m hm hb=>⟨hm,hb⟩) (hG n)
    . have hj:j<P.cellsOf e:=by rw[<-hl];exact(aED.1 hv).1
      rw[hg j hj,hv]
    . rw[h0]at hl;exact hz hl.symm
    simp only[den,b1,b2,aN6]
  . rename_i e es sp ht;split at h
    . cases h
    rename_i hz;obtain⟨a,h1,rfl⟩:=aLk.1 h;rcases DataW.trod_slice ht hr with⟨_,hx⟩|⟨A,len,cap,elems,rest,m,rfl,rfl,hx,_,hlc,_,hel,hE,hR,_⟩
    . cases hx
    cases hx;obtain⟨hrl,hR⟩:=hR rfl;have hz0:0<P.cellsOf e:=aXy (fun h=>hz (.inl h));have hlen0:0<len:=by
     rcases aXK len with h0|h0
     . rw[h0]at hel;have:elems=[]:=aO5.1 hel;subst this;exact absurd (.inr rfl) hz
     exact h0
    have hall: ∀i,i<elems.length+rest.length-> ∃c,w.cells? 0 (A.add (i * P.cellsOf e)) (P.cellsOf e)=some c/\ ∃y,(elems++rest)[i]? =some y/\DataW.trod (fun _=>()) P w 0 (fun _=>true) false m e c=some y:=by
     intro i hi;have key:(w.cells? 0 (A.add (i * P.cellsOf e)) (P.cellsOf e)).bind (DataW.trod (fun _=>()) P w 0 (fun _=>true) false m e)=(elems++rest)[i]? :=by
      by_cases hlt:i<len
      . rw[hE i hlt,aIG (by omega)]
      have:=hR (i - len) (by omega);rw[show len+(i - len)=i by omega]at this;rw[this,aJk (by omega),hel]
     obtain⟨y,hy⟩: ∃y,(elems++rest)[i]? =some y:=⟨_,aE5 (by rw[aLx];exact hi)⟩;rw[hy]at key;obtain⟨c,hc,hcy⟩:=aSF.1 key;exact⟨c,hc,y,hy,hcy⟩
    let css:List (List Value):=(List.range (elems.length+rest.length)).map fun i=>(w.cells? 0 (A.add (i * P.cellsOf e)) (P.cellsOf e)).getD []
    have hcl:css.length=elems.length+rest.length:=by simp[css]
    have hget: ∀(i:Nat) (c:List Value),css[i]? =some c->i<elems.length+rest.length/\w.cells? 0 (A.add (i * P.cellsOf e)) (P.cellsOf e)=some c:=by
     intro i c hc;have hi:i<elems.length+rest.length:=by rw[<-hcl];exact(aED.1 hc).1
     obtain⟨c',h2,_⟩:=hall i hi;simp only[css,aEC,aPp hi,aLw,aPb]at hc;rw[h2]at hc ⊢;exact⟨hi,aPa some hc⟩
    have aMe: ∀c ∈ css,c.length=P.cellsOf e:=by
     intro c hc;obtain⟨i,hi⟩:=aWL hc;exact(aUk (hget i c hi).2).2.1
    have hs:=AU (S:=fun d c=>Reads P w e d c) (fun x n r hx cs hcs=>ih e x n r hx cs hcs) _ (n+1) a h1 css (by rw[hcl];simp) (fun i x c hx hc=>by
     obtain⟨hi,h2⟩:=hget i c hc;obtain⟨c',h3,y,h4,h5⟩:=hall i hi;rw[h2]at h3;cases h3;rw[<-aPf,aEC,h4]at hx;cases hx;exact⟨m,y.2,h5⟩)
    have e1:(elems.map (·.1)).length=len:=by simp[hel]
    have e2:(elems.map (·.1)).length+(rest.map (·.1)).length=cap:=by simp;omega
    rw[e2,e1];refine sound_row (row:=css.flatten) (A:=A) (mk:=fun A=>.slice (some A) len cap) hs (fun j v hv=>?_) (fun h0=>?_) (.sl n 0 len cap) (fun ρ b1 b2=>?_) (fun m hm hb=>⟨hm,hb⟩) (hG n)
    . rw[flat_get hz0 css aMe]at hv;obtain⟨c,hc,hcv⟩:=aSF.1 hv;obtain⟨_,h2⟩:=hget _ c hc;have h3:=(aUk h2).2.2 (j % P.cellsOf e) (Nat.mod_lt _ hz0);rw[hcv]at h3;have hj:j / P.cellsOf e * P.cellsOf e+j % P.cellsOf e=j:=by rw[aUJ];exact Nat.div_add_mod j _
      rw[Addr.add_add,hj]at h3;exact h3
    . have:css.flatten.length=0:=by rw[h0];rfl
      have hc0: ∃c,css[0]? =some c:=⟨_,aE5 (by omega)⟩;obtain⟨c,hc⟩:=hc0;have h2:=aMe c (aLH hc);have h3:c.length<=css.flatten.length:=by
       cases hcs:css with
       |nil=>rw[hcs]at hc;cases hc
       |cons c0 cr=>rw[hcs]at hc;cases hc;simp
      omega
    simp only[den,b1,b2,aN6]
  . rename_i fs ps ht;split at h
    . rename_i hcond;obtain⟨xs,m,rfl,hx,hl,hxl,hall⟩:=DataW.trod_struct ht hr;cases hx;have hch:=(Z9 fs.toList 0 _ cs hcond.2 hl).2;rw[List.drop_zero]at hch;rw[<-hch];refine AU (S:=fun(p:Field × DataW Unit) c=>Reads P w p.1.type p.2 c) (fun x n r hx cs hcs=>ih _ x.2 n r hx cs hcs) _ n r h _ (by simp[hxl]) (fun i x c hx hc=>?_);rw[List.getElem?_zip_eq_some]at hx;obtain⟨h1,h2⟩:=hx;rw[aEC,h1]at hc;cases hc;have h3:=hall i x.1 (by rw[<-aEt];exact h1);rw[aEC]at h2;obtain⟨y,h4,h5⟩:=aLk.1 h2;rw[h4]at h3;exact⟨m,y.2,by rw[h3,<-h5]⟩
    cases h
  . rename_i m e ps ht;split at h
    . rename_i hcond;obtain⟨xs,m',rfl,hx,hl,hxl,hall⟩:=DataW.trod_array ht hr;cases hx;rw[hcond.2]at hl;rw[<-chop m cs hl];refine AU (S:=fun d c=>Reads P w e d c) (fun x n r hx cs hcs=>ih e x n r hx cs hcs) _ n r h _ (by simp[hxl]) (fun i x c hx hc=>?_);rw[aEC]at hx;obtain⟨y,h4,h5⟩:=aLk.1 hx;have hi:i<m:=by rw[<-hxl];exact(aED.1 h4).1
      rw[aEC,aPp hi]at hc;cases hc;exact⟨m',y.2,by rw[hall i hi,h4,<-h5]⟩
    cases h
  cases h
end
theorem Z5{H:Type}{enc:TypeId × Value->H}{P:Program}{w:World}{base:Nat}{sp:Nat->Bool}{fuel:Nat}{t:TypeId}{cs:List Value}{x:DataW H × List MemPlace}{ms}(ht:P.underlying t=some (.interface ms))
 (h:DataW.trod enc P w base sp false fuel t cs=some x):(cs=[.nilIface]/\x=(.nil,[]))\/ ∃u v name y n,fuel=n+1/\cs=[.iface u v]/\P.typeName? 3 u=some name/\DataW.trod enc P w base sp false n u v.cells.toList=some y/\x=(.iface name y.1,y.2):=by
 cases fuel with
 |zero=>simp[DataW.trod]at h
 | succ n=>
  unfold DataW.trod at h;rw[ht]at h
  match cs,h with
  |[],h=>cases h
  | [v],h=>
   cases v<;>first
    |(cases h;done)
    |(cases h;exact .inl ⟨rfl,rfl⟩)
    |skip
   rename_i u v;dsimp only at h;cases hn:P.typeName? 3 u with
   |none=>rw[hn]at h;cases h
   |some name=>
    rw[hn]at h;obtain⟨y,h1,h2⟩:=aLk.1 h;exact .inr ⟨u,v,name,y,n,rfl,rfl,hn,h1,h2.symm⟩
  |a::b::l,h=>simp at h
def aNU(P:Program)(f:Nat)(t:TypeId)(d:DataW Unit)(n:Nat):Option IL:=
 match P.underlying t,d with
 |some (.interface _),.iface _ _=>some ([.mp n],[],n+1)
 |_,_=>aAU P f t d n
def layVars(P:Program)(G:Nat):List (String × DataW Unit)->Nat->Option (List (Nat × List AV) × Nat)
 |[],n=>some ([],n)
 |x::r,n=>(P.globalNamed x.1).bind fun g=>if g<G then((P.globals[g]?).map (·.type)).bind fun t=>(aNU P 50 t x.2 n).bind fun a=>(layVars P G r a.2.2).map fun b=>((g,a.1)::(a.2.1++b.1),b.2)else none
def Env.atC(ρ:Env)(n:Nat)(u:TypeId)(v:Value):Env:=⟨ρ.blk,ρ.off,fun b=>if b=n then⟨0,u,v⟩else ρ.cp b⟩
section
variable[Gh]{w:World}{P:Program}
theorem aAS(hG: ∀n,¬Gh.bad n){f:Nat}{t:TypeId}{d:DataW Unit}{n:Nat}{r:IL}(h:aNU P f t d n=some r){cs:List Value}(hr:Reads P w t d cs):qY w n r cs:=by
 unfold aNU at h;split at h
 . rename_i ms a b ht;obtain⟨fuel,p,hr⟩:=hr;rcases Z5 ht hr with⟨_,hx⟩|⟨u,v,name,y,m,_,rfl,_,_,hx⟩
   . cases hx
   cases h;intro ρ;refine⟨ρ.atC n u v,fun b hb=>?_,aPj n,?_,⟨⟨aLq n,hG n⟩,trivial⟩,fun q hq=>by cases hq⟩
   . have:b≠n:=by omega
     simp[Env.atC,this]
   simp[den,Env.atC]
 exact aAT hG f t _ n r h cs hr
def QM(w:World)(ρ:Env)(n:Nat)(q:Nat × List AV):Prop:=
 q.1<n/\jM n q.2/\(∃x,w.heap[ρ.blk q.1]? =some x)/\ ∀i x,q.2[i]? =some x->w.cell? ⟨ρ.blk q.1,ρ.off q.1+i,none⟩=some (den ρ x)
theorem QM.ext{ρ ρ':Env}{n m:Nat}{q:Nat × List AV}(h:QM w ρ n q)(he:Ext n ρ ρ')(hm:n<=m):QM w ρ' m q:=by
 obtain⟨h1,h2,h3,h4⟩:=h;have hb:=he q.1 h1;refine⟨aG0 h1 hm,jM.mono hm _ h2,by rw[hb.1];exact h3,fun i x hx=>?_⟩;rw[hb.1,hb.2.1,h4 i x hx,oJ he x ((aY _ _).1 h2 x (aLH hx))]
theorem OQ (hG: ∀n,¬Gh.bad n) {G:Nat}: ∀(L:List (String × DataW Unit)) (ps:List MemPlace) (n:Nat) (r:List (Nat × List AV) × Nat),DataW.LaidVars P w L ps->layVars P G L n=some r->G<=n->
 ∀ ρ:Env,(∀g,g<G->ρ.blk g=g/\ρ.off g=0)-> ∃ ρ',Ext n ρ ρ'/\n<=r.2/\ ∀q ∈ r.1,QM w ρ' r.2 q:=by
 intro L
 induction L with
 |nil=>intro ps n r _ h _ ρ _;cases h;exact⟨ρ,Ext.refl _ _,aC4 _,fun q hq=>by cases hq⟩
 | cons x L ih=>
  intro ps n r hl h hn ρ hρ;obtain⟨nm,d⟩:=x;obtain⟨g,t,cs,fuel,p,q,h1,h2,h3,h4,h5,_⟩:=hl;simp only[layVars,aSF]at h;obtain⟨g',k1,k2⟩:=h;rw[h1]at k1;cases k1;by_cases hg:g<G
  . rw [aEo hg]at k2;simp only[aSF]at k2;obtain⟨t',k3,k4⟩:=k2;rw[h2]at k3;cases k3;obtain⟨a,k5,k6⟩:=k4;obtain⟨b,k7,rfl⟩:=aLk.1 k6;obtain⟨ρ1,e1,j1⟩:=aAS hG k5 ⟨fuel,p,h4⟩ ρ;have hρ1: ∀g,g<G->ρ1.blk g=g/\ρ1.off g=0:=fun g hg=>by
     have:=e1 g (by omega);rw[this.1,this.2.1];exact hρ g hg
    obtain⟨ρ2,e2,j2,j3⟩:=ih q a.2.2 b h5 k7 (aKM hn j1.le) ρ1 hρ1;refine⟨ρ2,e1.trans e2 j1.le,aKM j1.le j2,fun y hy=>?_⟩;rcases aLr.1 hy with rfl|hy
    . have hc:QM w ρ1 a.2.2 (g,a.1):=by
       have hw: ∃ty fr,w.heap[g]? =some (.cells cs ty fr):=by
        unfold World.var? at h3;rw[h1]at h3;simp only[aPi]at h3;split at h3
        . rename_i c ty fr hx;cases h3;exact⟨ty,fr,hx⟩
        cases h3
       obtain⟨ty,fr,hw⟩:=hw;refine⟨aG0 (by omega) j1.le,j1.sc,by rw[(hρ1 g hg).1];exact⟨_,hw⟩,fun i z hz=>?_⟩;rw[(hρ1 g hg).1,(hρ1 g hg).2,aHG];have:=aPa (·[i]?) j1.cells;simp only[aEC,hz,aLw]at this;simp only[World.cell?,hw,Option.isSome_none,aMB,aPv];rw[<-this,aEt]
      exact hc.ext e2 j2
    rcases aIK.1 hy with hy|hy
    . obtain⟨i1,i2,i3,i4,i5⟩:=j1.blks y hy;exact QM.ext ⟨i2,i3,i4,i5⟩ e2 j2
    exact j3 y hy
  rw[aEg hg]at k2;cases k2
end
@[instance_reducible] def G0:Gh:=⟨fun _=>False⟩
def E8(bs:List (Nat × List AV)):Tr HO:=bs.foldr (fun q t=>t.set q.1 (.ro q.2)) .nil
theorem aA1{bs:List (Nat × List AV)}{b:Nat}{o:HO}(h:(E8 bs).get b=some o): ∃q ∈ bs,q.1=b/\o=.ro q.2:=by
 induction bs with
 |nil=>exact absurd (show(Tr.nil:Tr HO).get b=some o from h) (by rw[Tr.get_nil];intro h;cases h)
 |cons q bs ih=>
  have h:((E8 bs).set q.1 (.ro q.2)).get b=some o:=h;by_cases e:q.1=b
  . subst e;rw[Tr.uY]at h;cases h;exact⟨q,aIC,rfl,rfl⟩
  rw[Tr.gU _ _ e]at h;obtain⟨r,h1,h2⟩:=ih h;exact⟨r,aKO _ h1,h2⟩
def G8(G:Nat)(w0:World)(fs:List (Nat × List Value)):Prop:=
 ∀q ∈ fs,q.1<G/\(∃x,w0.heap[q.1]? =some x)/\ ∀(i:Nat) (v:Value),q.2[i]? =some v->w0.cell? ⟨q.1,i,none⟩=some v
def fixed(fs:List (Nat × List Value)):List (Nat × List AV):=fs.map fun q=>(q.1,q.2.map AV.v)
theorem aAf(lv:Nat->Cp){P:Program}{L:List (String × DataW Unit)}{G n:Nat}{bs:List (Nat × List AV)}{w0 w:World}(hl:laidMet P L w0){fs:List (Nat × List Value)}(hf:G8 G w0 fs)(hw:Below w0.heap.size w0 w)(h:layVars P G L G=some (bs,n)):
 ∃ ρ,@aZ G0 w0 ρ ⟨⟨G,lv⟩,n,n,[]⟩ ⟨E8 (bs++fixed fs),n⟩ w:=by
 obtain⟨ps,h1,_⟩:=hl;obtain⟨ρ,e1,e2,e3⟩:=@OQ G0 w0 P (fun _ h=>h) G L ps G (bs,n) h1 h (aC4 _) ⟨fun b=>b,fun _=>0,lv⟩ (fun g _=>⟨rfl,rfl⟩);have e3: ∀q ∈ bs++fixed fs,q.1<n/\@jM G0 n q.2/\(∃x,w0.heap[ρ.blk q.1]? =some x)/\ ∀i x,q.2[i]? =some x->w0.cell? ⟨ρ.blk q.1,ρ.off q.1+i,none⟩=some (den ρ x):=by
  intro q hq;rcases aIK.1 hq with hq|hq
  . exact e3 q hq
  obtain⟨r,hr,rfl⟩:=aLQ.1 hq;obtain⟨k1,k2,k3⟩:=hf r hr;have hb:=e1 r.1 k1;refine⟨aG0 k1 e2,?_,by rw[hb.1];exact k2,fun i x hx=>?_⟩
  . rw[@aY G0];intro x hx;obtain⟨v,_,rfl⟩:=aLQ.1 hx;trivial
  rw[aEC]at hx;obtain⟨v,hv,rfl⟩:=aLk.1 hx;rw[hb.1,hb.2.1,aHG];exact k3 i v hv
 have key: ∀b o,(Hs.mk (E8 (bs++fixed fs)) n).look [] b=some o->b<n/\@HO.Holds G0 ρ n b w o/\@HO.Holds G0 ρ n b w0 o:=by
  intro b o hb;obtain⟨q,h2,rfl,rfl⟩:=aA1 (Hs.dF.1 hb).2;obtain⟨k1,k2,k3,k4⟩:=e3 q h2;refine⟨k1,⟨?_,fun i x hx=>aSV hw (k4 i x hx),k2⟩,k3,k4,k2⟩;obtain⟨x,hx⟩:=k3;have hlt:ρ.blk q.1<w0.heap.size:=by
   rcases aKQ (ρ.blk q.1) w0.heap.size with h|h
   . exact h
   rw[aL9 h]at hx;cases hx
  have:=aG0 hlt hw.size;exact⟨_,aJT this⟩
 refine⟨ρ,@aZ.mk G0 _ _ _ _ _ (fun g hg=>?_) (fun _ _ h=>h) (fun _ _ h=>h) e2 (aC4 _) (aC4 _) (fun _ _=>rfl) hw (fun b o hb=>(key b o hb).1) (fun b o hb=>(key b o hb).2.1) ?_ ?_ ?_⟩
 . exact e1 g hg
 . intro b o hb hl;have:=(key b o hb).1;exact absurd hl (Nat.not_le.2 this)
 . intro b o hb _;exact @HO.Holds.lt G0 _ _ _ _ _ (key b o hb).2.2
 intro b b' o o' hb _ hl;have:=(key b o hb).1;exact absurd hl (Nat.not_le.2 this)
theorem OU{P:Program}{l:List (String × DataW Unit)}{w:World}(h:laidMetH P l w):laidMet P (l.filter fun x=>x.2.handleName?.isNone) w:=by
 unfold laidMetH at h;generalize hfl:(l.filter fun x=>x.2.handleName?.isSome)=fl at h;cases fl with
 | nil=>
  have e:(l.filter fun x=>x.2.handleName?.isNone)=l:=by
   rw[List.filter_eq_self];intro x hx;have:=(List.filter_eq_nil_iff.1 hfl) x hx;cases hn:x.2.handleName? with
   |none=>rfl
   |some s=>rw[hn]at this;exact absurd rfl this
  rw[e];exact h
 |cons a a1i=>exact h.1
def aKW(a b:List UInt8):Bool:=
 List.rec (motive:=fun _=>List UInt8->Bool) (fun l=>List.rec (motive:=fun _=>Bool) true (fun _ _ _=>false) l) (fun x _ ih l=>List.rec (motive:=fun _=>Bool) false (fun y t _=>band (Nat.beq x.toNat y.toNat) (ih t)) l) a b
theorem aKV: ∀ {a b:List UInt8},aKW a b=true->a=b:=by
 intro a
 induction a with
 |nil=>intro b h;cases b with
  |nil=>rfl
  |cons y t=>cases h
 | cons x a ih=>
  intro b h;cases b with
  |nil=>cases h
  | cons y t=>
   have h:band (Nat.beq x.toNat y.toNat) (aKW a t)=true:=h;have h1:Nat.beq x.toNat y.toNat=true/\aKW a t=true:=by
    cases hx:Nat.beq x.toNat y.toNat with
    |true=>rw[hx]at h;exact⟨rfl,h⟩
    |false=>rw[hx]at h;cases h
   rw[ih h1.2,aX9.1 (aEE h1.1)]
def aCA(a b:Value):Bool:=
 match a,b with
 | .int k x,.int k' y=>band (kEq k k') (ieq x y)
 | .bool x,.bool y=>ZB x y
 | .string x,.string y=>aKW x.data.toList y.data.toList
 | .float .f64 x,.float .f64 y=>Nat.beq x y
 | .slice none n m,.slice none n' m'=>band (Nat.beq n n') (Nat.beq m m')
 |_,_=>false
theorem aKH{a b:IntKind}(h:kEq a b=true):a=b:=by
 cases a<;>cases b<;>first|rfl|cases h
theorem aKN{a b:Int}(h:ieq a b=true):a=b:=by
 cases a<;>cases b
 . exact aPa Int.ofNat (aEE h)
 . cases h
 . cases h
 exact aPa Int.negSucc (aEE (h:Nat.beq _ _=true)).symm
theorem aHF{a b:Value}(h:aCA a b=true):a=b:=by
 unfold aCA at h;split at h
 . obtain⟨h1,h2⟩:=aU h;rw[aKH h1,aKN h2]
 . rename_i x y;cases x<;>cases y<;>first|rfl|cases h
 . exact aPa Value.string (ByteArray.ext (Array.toList_inj.1 (aKV h)))
 . rw[aEE h]
 . obtain⟨h1,h2⟩:=aU h;rw[aEE h1,aEE h2]
 cases h
end




section
open Go.RowKit
theorem G8.nil{G:Nat}{w0:World}:G8 G w0 []:=fun q hq=>by cases hq
end
end
end Go.Proofs.YtebgcnnhokclaaaGreatDoor
