import Derived.Test.YtacggmlngekidaaGreatDoorRows
import Derived.Test.YtacggmlngekidaaGreatDoorP0
import Derived.RangeFuncRecord
import Derived.OrdersIn
import Derived.TacticsIn
import Derived.LoopNIn
import Derived.Scope
import Derived.Recover
import Derived.RangeFuncLeaves
import Derived.RecoverIn
import Derived.ChangeArms
import Derived.OpenShut
import Derived.DataReads
import GoSem.ClaimJoined
import Derived.LaidHandle
import Derived.WalkSpells
import Derived.Lib.MakeNoZero
import Derived.Laws.Externs
set_option linter.unusedSimpArgs false
set_option linter.unusedVariables false
set_option linter.unusedSectionVars false
set_option maxRecDepth 1000000
set_option maxHeartbeats 8000000
namespace Go.Proofs.YtacggmlngekidaaGreatDoor
abbrev aCw:=@decide_eq_false
abbrev aFZ:=@beq_iff_eq
abbrev aGX:=@List.getElem?_eq_getElem
abbrev aG1:=@List.mem_cons_self
abbrev aHg:=@List.mem_cons_of_mem
abbrev aJj:=@Bool.or_eq_true
abbrev aLd:=@Array.getElem?_eq_getElem
abbrev aLh:=@Option.some.inj
abbrev aLw:=@Go.DataW.trod_int
abbrev aMP:=@Bool.eq_false_iff
abbrev aOr:=@Classical.not_not
abbrev aOx:=@List.all_cons
abbrev aOL:=@Prod.mk.injEq
abbrev aPy:=@Bool.or_eq_false_iff
abbrev aRB:=@Go.cell_later
abbrev aRF:=@Nat.le_of_lt
abbrev aRH:=@List.mem_range
abbrev aRR:=@Option.bind_eq_some_iff
abbrev aRS:=@List.mem_map_of_mem
abbrev aR6:=@Array.getElem?_setIfInBounds
abbrev aTn:=@Array.getElem?_eq_some_iff
abbrev aUh:=@List.length_eq_zero_iff
abbrev aUn:=@Bool.and_true
abbrev aUo:=@Go.World.putObj_heap_same
abbrev aUq:=@Go.World.cells?_some
abbrev aUx:=@Option.getD_some
abbrev aUy:=@List.mem_append_left
abbrev aUz:=@Bool.or_false
abbrev aUH:=@decide_false
abbrev aUR:=@false_and
abbrev aUV:=@decide_true
abbrev aUW:=@Nat.exists_eq_add_of_le
abbrev aU5:=@Go.Oper.apart_spec
abbrev aU9:=@Go.World.alloc_heap_new
abbrev aVa:=@List.getElem?_of_mem
abbrev aVn:=@List.nodup_nil
abbrev aVo:=@ne_eq
abbrev aVB:=@Go.wpSIn_of_wpIn
abbrev aVG:=@Nat.pos_of_ne_zero
abbrev aVR:=@Bool.false_or
abbrev aVU:=@not_false_eq_true
abbrev aWd:=@Option.bind_some
abbrev aWy:=@UInt8.toNat_inj
abbrev aWD:=@Array.getD_eq_getD_getElem?
abbrev aWK:=@Nat.not_le
abbrev aWM:=@Nat.add_sub_cancel_left
abbrev aWN:=@List.getElem?_cons_succ
abbrev aXx:=@List.mem_append_right
abbrev aXy:=@List.map_nil
section
open Go.RowKit
namespace Ev
def jS (tb:Tab) (w0:World) (call:dK):Prop:=
 ∀ (_:Gh) fl hid f xs s v s',call fl hid f xs s=some (v,s')-> ∀ ρ w,aO w0 ρ ⟨tb.g,tb.l,fl,hid⟩ s w->iH s.n xs->
  (Nat.ble yF f=false->Calls tb.p f (xs.map (den ρ)).toArray w fun e w'=> ∃ ρ',e=.returned (den ρ' v)/\Stp w0 ρ ρ' ⟨tb.g,tb.l,fl,hid⟩ s s' w w'/\Sc s'.n v)/\
  (Nat.ble yF f=true->Gd s.n (f - yF)-> ∃r:Loop,w.heap[ρ.blk (f - yF)]? =some (.loop r)/\xs.length=r.params.size/\ ∀n,RoundIn Fence.wide n tb.p (ρ.blk (f - yF)) r.fn
    ((r.params.zip (xs.map (den ρ)).toArray).foldl (fun t (p,v)=>t.setIfInBounds p v) r.tmps) r.assign r.body w fun e w'=> ∃ ρ',e=.returned (den ρ' v)/\Stp w0 ρ ρ' ⟨tb.g,tb.l,fl,hid⟩ s s' w w'/\Sc s'.n v)
def FF(r:Option Nat):Fence:={ Fence.wide with round:=r }
theorem wS{r:Option Nat}{p:Prop}(h:(FF r).depth.isSome=true):p:=absurd (show false=true from h) (by decide)
theorem aDR{r:Option Nat}{n:Nat}{P:Program}{f:FuncId}{args:Array Value}{w:World}{R:Ending->World->Prop}(h:Calls P f args w R):CallsIn (FF r) n P f args w R:=
 (callsIn_wide (n:=n)).2 h
theorem aDf{P:Program}{r:Option Nat}{n:Nat}{o:Oper}{a:Act}{w:World}{next:Act->World->Prop}{Q:Exit->Act->World->Prop}(hr:r=none\/ ∀c,o.op≠ .defer c)(h:o.wp P a w next Q):
 o.wpIn (FF r) n P a w next Q:=by
 have aWg:o.semAt (FF r).round a.eval=execOp a.eval o:=by
  rcases hr with rfl|hr
  . rfl
  exact Oper.semAt_eq _ _ _ hr
 refine⟨fun _ _=>trivial,?_⟩;rw[aWg];unfold Oper.wp at h;generalize (execOp a.eval o).run P w=res at *
 cases res with
 | ok x w'=>
  cases x<;>simp only[Oper.upon,Oper.uponIn]at h ⊢ <;>first
   |exact h
   |exact⟨wS,aDR h⟩
   |exact⟨wS,fun c cs _=>let⟨v,w2,k1,k2⟩:=h c cs;⟨v,w2,k1,stepsIn_wide.2 k2⟩⟩
   |exact h.elim
 |halt x w'=>cases x<;>simp only[Oper.upon,Oper.uponIn]at h ⊢ <;>first|exact h|exact h.elim
structure fG(tb:Tab)(w0:World):Prop where
 ty: ∀t i,tb.ty.get t=some i->mW tb.p t i
 fn: ∀f fn,tb.fn.get f=some fn->tb.p.funcs[f]? =some fn/\ ∀args w,(callFunc f args).run tb.p w=.ok (.enter f args) w
 orc: ∀f xs v,tb.orc f xs=some v->(∀(_:Gh) n,(∀g,g<tb.g.n->Gd n g)->Sc n v)/\(∀args w,(callFunc f args).run tb.p w=.ok (.enter f args) w)/\
  ∀ ρ w,Lv tb ρ->Below w0.heap.size w0 w->Calls tb.p f (xs.map (den ρ)).toArray w fun e w'=>e=.returned (den ρ v)/\Below w.heap.size w w'
 y9:CZ tb
 mixed:tb.p.follows .mixedOrders=true
 idn: ∀f,tb.idn f=true-> ∀x w,(callFunc f #[x]).run tb.p w=.ok (.value x) w
 mnz: ∀f e,tb.mnz f=some e-> ∀(n:Nat) w,n<=140737488355328-> ∃cs:Array Value,(callFunc f #[.int .i64 n]).run tb.p w=.ok (.value (.slice (some ⟨w.heap.size,0,none⟩) n cs.size)) (w.drew.drew.alloc (.cells cs e))/\n<=cs.size
 met: ∀t name f,tb.met t name=some f-> ∀(v:Value) (w:World),(method (tb.p.types.size+Made.depth) t v name).run tb.p w=.ok (f,v) w
variable[Gh]
def aAK(ρ:Env)(n:Nat)(p:FuncId × List AV)(d:Deferred):Prop:=
 iH n p.2/\((Nat.beq p.1 QF=false/\ ∃cap args,d=⟨.fn (.func p.1) cap,args⟩/\args++cap=(p.2.map (den ρ)).toArray)\/(Nat.beq p.1 QF=true/\ ∃b,p.2=[.ptr b 0]/\d=⟨.collected (ρ.blk b),#[]⟩))
section
variable{tb:Tab}{w0:World}{ρ:Env}{cx:Cx}{s s':Hs}{w:World}{a:Act}{t:TE}{call:dK}{v:AV}{P:Program}
theorem BP{β:Type}{f:AV}{xs:List AV}{k:FuncId->List AV->Option β}{r:β}(h:fnV f xs k=some r)(ρ:Env){n:Nat}(hf:Sc n f)(hx:iH n xs):
 ∃g fi ca xs',k g xs'=some r/\den ρ f=.func (.func g) fi ca/\(fi++(xs.map (den ρ)).toArray)++ca=(xs'.map (den ρ)).toArray/\iH n xs':=by
 cases f with
 | v f =>
  cases f with
  |func f fi ca=>
   obtain⟨g,rfl,h2⟩:=wR h;refine⟨g,fi,ca,_,h2,rfl,?_,?_⟩
   . rw[jR,jR];apply aRD;simp only[aQQ,aJS,aRr,aS0]
   rw[jR,jR,bI];rw[bI]at hx;intro x hx';rcases aLf.1 hx' with h|h
   . exact(bI _ _).1 (scV n _) x h
   rcases aLf.1 h with h|h
   . exact hx x h
   exact(bI _ _).1 (scV n _) x h
  |_=>cases h
 | fn f fi ca=>
  obtain⟨g,rfl,h2⟩:=wR h;refine⟨g,_,_,_,h2,rfl,?_,?_⟩
  . rw[jR,jR,dD,dD];apply aRD;simp only[aQQ,aRr,aS0]
  rw[jR,jR,bI];rw[bI]at hx;have h1:=(bI _ _).1 hf.1;have h2:=(bI _ _).1 hf.2;intro x hx';rcases aLf.1 hx' with h|h
  . exact h1 x h
  rcases aLf.1 h with h|h
  . exact hx x h
  exact h2 x h
 |_=>cases h
omit[Gh]in
theorem LJ{x:Option Next}{u:Value}(h:aDk x=some u):x=some (.value u):=by
 obtain⟨n,rfl,h2⟩:=aA.1 h
 cases n<;>first|(cases h2;done)|(cases h2;rfl)
theorem bJ{o:Oper}{next:Act->World->Prop}{Q:Exit->Act->World->Prop}(h:gW P w0 ρ cx s w (execOp a.eval o) v s')
 (hn: ∀ ρ' w',Stp w0 ρ ρ' cx s s' w w'->Sc s'.n v->next (a.put o.dst (den ρ' v)) w'):o.wp P a w next Q:=by
 obtain⟨ρ',w',h1,h2,h3⟩:=h;unfold Oper.wp;rcases h1 with h1|⟨h1,rfl⟩
 . rw[h1];exact hn ρ' w' h2 h3
 rw[h1];exact hn ρ' w' h2 h3
variable(hT:fG tb w0)
include hT
theorem aST{o:Oper}{b:Builtin}{args:Array Operand}{ts:Array TypeId}(ho:o.op=.call ⟨.builtin b,args,ts⟩){xs:List AV}(hx:oD (sJ tb t) args.toList=some xs)
 (h:bi tb b ⟨.builtin b,args,ts⟩ xs cx s=some (.ok v s')) (hs:aO w0 ρ cx s w) (hv:lZ tb ρ s.n a t o.op):gW tb.p w0 ρ cx s w (execOp a.eval o) v s':=by
 obtain⟨dst,op,ty,pos,af,g⟩:=o;subst ho;obtain⟨e1,e2⟩:=mO hx hv (fun x hx=>by simp[Op.operands,Call.operands];simpa using hx);have e3:args.map a.eval=(xs.map (den ρ)).toArray:=by apply aRD;rw[aRu,e1]
 have hg: ∀u,aDk (UC tb.p (builtin b ts 0 #[] (xs.map (den ρ)).toArray))=some u->(∀ty' cs,builtin b ts ty' cs (xs.map (den ρ)).toArray=builtin b ts 0 #[] (xs.map (den ρ)).toArray)->
  (execOp a.eval ⟨dst,.call ⟨.builtin b,args,ts⟩,ty,pos,af,g⟩).run tb.p w=.ok (.value u) w:=by
  intro u hu hi;refine KH ?_;rw[e3,hi];exact oZ (LJ hu) w
 have hG:biG tb b ⟨.builtin b,args,ts⟩ xs s=some (.ok v s')->(∀ty' cs vs,builtin b ts ty' cs vs=builtin b ts 0 #[] vs)->gW tb.p w0 ρ cx s w (execOp a.eval ⟨dst,.call ⟨.builtin b,args,ts⟩,ty,pos,af,g⟩) v s':=by
  intro h hi;obtain⟨vs,h1,h2⟩:=aA.1 h;obtain⟨u,h3,rfl,rfl⟩:=oU h2;rw[<-XK h1 ρ]at h3;exact .pure hs (hg u h3 (fun ty' cs=>hi ty' cs _)) trivial
 cases b with
 |append=>
  obtain⟨t1,t2,tr,ht,h1⟩:=JL h;obtain⟨x,y,xr,hxs,h2⟩:=JL h1;subst hxs;obtain⟨s1,s2,_⟩:=e2;change ts.toList=_ at ht;have hts:ts=(t1::t2::tr).toArray:=by rw[<-ht]
  obtain⟨ρ',w',k1,k2,k3⟩:=aE1 (ty:=ty) (ts:=ts) (a0t:=args.map a.eval) hT.ty h2 hs s1 s2 (by rw[hts];rfl) (by rw[hts];rfl) (by rw[e3];rfl) (by rw[e3];rfl);refine⟨ρ',w',.inl (KH ?_),k2,k3⟩;simp only[builtin,aFW,k1,aCR,aGf]
 | len =>
  change aAv tb ts.toList xs s=some (.ok v s')at h;unfold aAv at h
  cases hts:ts.toList with
  |nil=>rw[hts]at h;cases h
  | cons t1 tr=>
   rw[hts]at h
   cases xs with
   |nil=>cases h
   | cons x xr=>
    obtain⟨i,h1,h2⟩:=aA.1 h;obtain⟨d,d1,_,d2⟩:=(hT.ty t1 i h1).desc;have rY:ts[0]? =some t1:=by rw[<-aGY,hts];rfl
    have rE:(args.map a.eval)[0]? =some (den ρ x):=by rw[e3];rfl
    have fin: ∀n:Nat,v=.v (.int .i64 (Int.ofNat n))->s'=s->(Builtin.len_ ts ty (args.map a.eval)).run tb.p w=.ok (goInt n) w->gW tb.p w0 ρ cx s w (execOp a.eval ⟨dst,.call ⟨.builtin .len,args,ts⟩,ty,pos,af,g⟩) v s':=by
     intro n hv' hs' hr;subst hv';subst hs';refine .pure hs (KH ?_) trivial;simp only[builtin,aFW,hr,aCR,aGf]
     rfl
    cases hk:i.k with
    | str=>
     rw[hk]at h2 d2;obtain rfl:=rX d2;rcases dH h2 with h2|h2
     case inr=>
      obtain⟨h2,h3⟩:=rO h2;obtain⟨m,h3⟩:=h3 ρ;obtain⟨rfl,rfl⟩:=aX h2;refine .pure hs (KH ?_) ⟨⟨trivial,e2.1,trivial⟩,trivial⟩;have hr:(Builtin.len_ ts ty (args.map a.eval)).run tb.p w=.ok (goInt m.size) w:=by
       simp only[Builtin.len_,rY,rE,h3,aFW,aG5 d1 w,aCR,aGf]
      simp only[builtin,aFW,hr,aCR,aGf];simp[aN,den,jI,uX,JX,KW,wY,oC,h3,goInt]
     obtain⟨z,rfl,h3⟩:=fQ h2
     cases z with
     |string bs=>
      obtain⟨q1,q2⟩:=aX h3;refine fin _ q1 q2 ?_;simp only[Builtin.len_,rY,rE,aFW,aG5 d1 w,aCR,den,aGf,len_eq]
      rfl
     |_=>cases h3
    | slice el=>
     rw[hk]at h2 d2;obtain rfl:=kD d2;rcases dH h2 with h2|h2
     case inr=>
      obtain⟨h2,h3⟩:=JY h2;obtain⟨ad,m,c,h3⟩:=h3 ρ;obtain⟨rfl,rfl⟩:=aX h2;refine .pure hs (KH ?_) ⟨⟨trivial,e2.1,trivial⟩,trivial⟩;have hr:(Builtin.len_ ts ty (args.map a.eval)).run tb.p w=.ok (goInt m) w:=by
       simp only[Builtin.len_,rY,rE,h3,aFW,aG5 d1 w,aCR,aGf]
      simp only[builtin,aFW,hr,aCR,aGf];simp[aN,den,jI,uX,JX,KW,wY,oC,h3,goInt]
     obtain⟨n,h3,h4⟩:=aA.1 h2;obtain⟨q1,q2⟩:=aX h4;refine fin n q1 q2 ?_;have hd: ∃ad c,den ρ x=.slice ad n c:=by
      cases x with
      |v x=>cases x<;>first|(cases h3;done)|(cases h3;exact⟨_,_,rfl⟩)
      |sl b off n c=>cases h3;exact⟨_,_,rfl⟩
      |DV b off n c=>cases h3;exact⟨_,_,rfl⟩
      |_=>cases h3
     obtain⟨ad,c,hd⟩:=hd;simp only[Builtin.len_,rY,rE,hd,aFW,aG5 d1 w,aCR,aGf]
    |_=>rw[hk]at h2;cases h2
 |min=>exact hG h (fun _ _ _=>rfl)
 |max=>exact hG h (fun _ _ _=>rfl)
 |_=>cases h
omit[Gh] hT in
theorem aEJ{o:Oper}{f:Operand}{args:Array Operand}{ts:Array TypeId}(ho:o.op=.call ⟨.value f,args,ts⟩){xs:List AV}{l:Nat}{r:Loop}
 (hF:a.eval f=.func (.yield l) #[] #[]) (hx:args.map a.eval=(xs.map (den ρ)).toArray) (hl:w.heap[l]? =some (.loop r)) (hn:(xs.map (den ρ)).toArray.size=r.params.size):
 (execOp a.eval o).run P w=.ok (.round l r.fn ((r.params.zip (xs.map (den ρ)).toArray).foldl (fun t (p,v)=>t.setIfInBounds p v) r.tmps) r.assign r.body) w:=by
 obtain⟨dst,op,ty,pos,af,gg⟩:=o;subst ho;simp only[execOp,resolve,aFW,hF,Deferred.ofValue,aGf,aCR,invoke,hx];simpa using run_yield (P:=P) (w:=w) hl hn
omit[Gh]in
theorem aEK{o:Oper}{f:Operand}{args:Array Operand}{ts:Array TypeId}(ho:o.op=.call ⟨.value f,args,ts⟩){F:AV}{xs:List AV}{g:FuncId}{fi ca:Array Value}{xs':List AV}
 (hF:a.eval f=den ρ F) (hx:args.map a.eval=(xs.map (den ρ)).toArray) (hd:den ρ F=.func (.func g) fi ca) (he:(fi++(xs.map (den ρ)).toArray)++ca=(xs'.map (den ρ)).toArray):
 (execOp a.eval o).run P w=(callFunc g (xs'.map (den ρ)).toArray).run P w:=by
 obtain⟨dst,op,ty,pos,af,gg⟩:=o;subst ho;simp only[execOp,resolve,aFW,hF,hd,Deferred.ofValue,aGf,aCR,invoke,hx,he]
omit hT in
theorem NT{call:dK}{r:AV}{name:String}{xs:List AV}(h:SI tb call cx r name xs s=some (.ok v s'))(ρ:Env){n:Nat}(hr:Sc n r):
 ∃t x f fn,den ρ r=.iface t (den ρ x)/\tb.met t name=some f/\tb.fn.get f=some fn/\Nat.ble (f+1) yF=true/\F6 tb call cx f (x::xs) s=some (.ok v s')/\Sc n x:=by
 have key: ∀t x,ob (tb.met t name) (fun f=>ob (tb.fn.get f) (fun _=>gd (Nat.ble (f+1) yF) (F6 tb call cx f (x::xs) s)))=some (.ok v s')->
  ∃f fn,tb.met t name=some f/\tb.fn.get f=some fn/\Nat.ble (f+1) yF=true/\F6 tb call cx f (x::xs) s=some (.ok v s'):=by
  intro t x h;obtain⟨f,h1,h2⟩:=aA.1 h;obtain⟨fn,h3,h4⟩:=aA.1 h2;obtain⟨h5,h6⟩:=aC.1 h4;exact⟨f,fn,h1,h3,h5,h6⟩
 unfold SI aQn at h
 split at h
 . rename_i t x
   obtain⟨f,fn,h1,h2,h3,h4⟩:=key _ _ h;exact⟨t,x,f,fn,by simp only[den],h1,h2,h3,h4,hr⟩
 . rename_i t u
   obtain⟨f,fn,h1,h2,h3,h4⟩:=key _ _ h;exact⟨t,.v u,f,fn,by simp only[den],h1,h2,h3,h4,trivial⟩
 cases h
omit[Gh] hT in
theorem vN{t:TypeId}{u:Value}{name:String}{f:FuncId}{l:Array Value}(hm:(method (P.types.size+Made.depth) t u name).run P w=.ok (f,u) w):
 (callMethod (.iface t u) name l).run P w=(callFunc f (#[u]++l)).run P w:=by
 have hp:(program:Sem Program).run P w=.ok P w:=rfl;unfold callMethod;simp only[aFW,hp,aCR,hm]
omit[Gh] hT in
theorem aAa(x:Value)(l:Array Value):(#[x]++l).extract 1 (#[x]++l).size=l:=by
 apply aRD;simp
omit[Gh] hT in
theorem aEL{o:Oper}{r:Operand}{name:String}{args:Array Operand}{ts:Array TypeId}(ho:o.op=.call ⟨.invoke r name,args,ts⟩){t:TypeId}{u:Value}{f:FuncId}{l:Array Value}
 (hr:a.eval r=.iface t u) (hx:args.map a.eval=l) (hm:(method (P.types.size+Made.depth) t u name).run P w=.ok (f,u) w):
 (execOp a.eval o).run P w=(callFunc f (#[u]++l)).run P w:=by
 obtain⟨dst,op,ty,pos,af,gg⟩:=o;subst ho;have h0:(#[Value.iface t u]++l)[0]? =some (.iface t u):=by rw[<-aGY,aRr];rfl
 simp only[execOp,resolve,aFW,hr,hx,aGf,aCR,invoke,h0,aAa];exact vN hm
omit[Gh] hT in
theorem aBf{o:Oper}{r:Operand}{name:String}{args:Array Operand}{ts:Array TypeId}(ho:o.op=.call ⟨.value r,args,ts⟩){t U:TypeId}{u:Value}{f:FuncId}{l:Array Value}{ca:Array Value}
 (hr:a.eval r=.func (.methodOf U name) #[] ca) (hU: ∃d,P.underlying U=some (.interface d)) (hx:args.map a.eval= #[.iface t u]++l) (hm:(method (P.types.size+Made.depth) t u name).run P w=.ok (f,u) w):
 (execOp a.eval o).run P w=(callFunc f (#[u]++l)).run P w:=by
 obtain⟨dst,op,ty,pos,af,gg⟩:=o;subst ho;obtain⟨d,hU⟩:=hU;have h0:(#[Value.iface t u]++l)[0]? =some (.iface t u):=by rw[<-aGY,aRr];rfl
 simp only[execOp,resolve,aFW,hr,hx,Deferred.ofValue,aGf,aCR,invoke,Array.empty_append,h0,aG5 hU,aAa];exact vN hm
theorem aAp(hc:jS tb w0 call)(hg:cx.g=tb.g)(hs:aO w0 ρ cx s w){f:FuncId}{xs:List AV}(hx:iH s.n xs)(h:F6 tb call cx f xs s=some (.ok v s'))(hs':aO w0 ρ ⟨tb.g,tb.l,cx.fl,cx.hid⟩ s w)(hy:Nat.ble yF f=false):
 Calls tb.p f (xs.map (den ρ)).toArray w fun e w'=> ∃ ρ',e=.returned (den ρ' v)/\Stp w0 ρ ρ' ⟨tb.g,tb.l,cx.fl,cx.hid⟩ s s' w w'/\Sc s'.n v:=by
 unfold F6 at h
 cases aCa:tb.orc f xs with
 |none=>
  rw[aCa]at h;obtain⟨p,h1,h2⟩:=aA.1 h
  cases h2
  exact(hc _ cx.fl cx.hid f xs s p.1 p.2 h1 ρ w hs' hx).1 hy
 | some u=>
  rw[aCa]at h;obtain⟨rfl,rfl⟩:=aX h;obtain⟨o1,o2,o3⟩:=hT.orc f xs _ aCa;refine(o3 ρ w (fun g hg'=>by rw[<-hg];exact(hs.gl g (by rw[hg];exact hg')).2.2) hs.below).mono ?_;rintro e w' ⟨rfl,hb⟩;exact⟨ρ,rfl,hs'.world hb,o1 _ _ (fun g hg'=>by
   have hg':g<cx.g.n:=by rw[hg];exact hg'
   have:=hs.gn;have:=hs.ln;have:=hs.y8;exact⟨by omega,hs.QA g hg'⟩)⟩
theorem YN (hc:jS tb w0 call) {o:Oper} (h:opv tb o.op call cx t s=some (.ok v s')) (hg:cx.g=tb.g) (hl:cx.l=tb.l) (hs:aO w0 ρ cx s w) (hv:lZ tb ρ s.n a t o.op)
 {next:Act->World->Prop} {Q:Exit->Act->World->Prop} {r:Option Nat} {nn:Nat} (hn: ∀ ρ' w',Stp w0 ρ ρ' cx s s' w w'->Sc s'.n v->next (a.put o.dst (den ρ' v)) w'):o.wpIn (FF r) nn tb.p a w next Q:=by
 obtain⟨dst,op,ty,pos,af,gg⟩:=o;dsimp only at h hv hn;have lift:(∀c,op≠ .defer c)->Oper.wp tb.p ⟨dst,op,ty,pos,af,gg⟩ a w next Q->Oper.wpIn (FF r) nn tb.p ⟨dst,op,ty,pos,af,gg⟩ a w next Q:=fun h1 h2=>aDf (.inr h1) h2
 cases op with
 |move x=>exact lift (fun c h=>by cases h) (bJ (aL3 (call:=call) h hs hv) hn)
 |assign x=>exact lift (fun c h=>by cases h) (bJ (aE0 (call:=call) h hs hv) hn)
 |pick x y z=>exact lift (fun c h=>by cases h) (bJ (aL1 (call:=call) h hs hv) hn)
 |alloc e=>exact lift (fun c h=>by cases h) (bJ (aH7 (call:=call) (t:=t) hT.ty h hs) hn)
 |box e x=>exact lift (fun c h=>by cases h) (bJ (aPC (call:=call) hT.ty h hs hv) hn)
 |build e ps=>exact lift (fun c h=>by cases h) (bJ (aH5 (call:=call) hT.ty h hs hv) hn)
 |buildSlice e n ps=>exact lift (fun c h=>by cases h) (bJ (PE (call:=call) hT.ty h hs hv) hn)
 |load e x=>exact lift (fun c h=>by cases h) (bJ (aL4 (call:=call) hT.ty h hs hv) hn)
 |store e x y=>exact lift (fun c h=>by cases h) (bJ (aH0 (call:=call) hT.ty h hs hv) hn)
 |nilCheck x=>exact lift (fun c h=>by cases h) (bJ (YO (call:=call) h hs hv) hn)
 |binOp b xt x y yt=>exact lift (fun c h=>by cases h) (bJ (aH6 (call:=call) hT.ty h hs hv hT.y9 (fun g hg'=>by rw[<-hg];exact(hs.gl g (by rw[hg];exact hg')).2.2)) hn)
 |unOp b xt x=>exact lift (fun c h=>by cases h) (bJ (aL0 (call:=call) h hs hv) hn)
 |convert a b x=>exact lift (fun c h=>by cases h) (bJ (aBt (call:=call) hT.ty h hs hv) hn)
 |makeInterface e x=>exact lift (fun c h=>by cases h) (bJ (D8 (call:=call) hT.ty h hs hv) hn)
 |makeFunc f x y=>exact lift (fun c h=>by cases h) (bJ (YP (call:=call) h hs hv) hn)
 |makeSlice e x y=>cases(show(none:fH)=some _ from h)
 |slice e x lo hi mx=>cases(show(none:fH)=some _ from h)
 |fieldAddr e x f=>exact lift (fun c h=>by cases h) (bJ (UQ (call:=call) hT.ty h hs hv) hn)
 |field e x f=>exact lift (fun c h=>by cases h) (bJ (aH4 (call:=call) hT.ty h hs hv) hn)
 |indexAddr e x y=>exact lift (fun c h=>by cases h) (bJ (UO (call:=call) hT.ty h hs hv) hn)
 |index e x y=>exact lift (fun c h=>by cases h) (bJ (aH2 (call:=call) hT.ty h hs hv) hn)
 |range e x=>exact lift (fun c h=>by cases h) (bJ (aH1 (call:=call) hT.ty h hs hv) hn)
 |next x b=>exact lift (fun c h=>by cases h) (bJ (aL2 (call:=call) hT.ty h hs hv) hn)
 |makeMap mt r=>cases(show(none:fH)=some _ from h)
 |lookup xt x i ok=>cases(show(none:fH)=some _ from h)
 |insert mt m k v=>cases(show(none:fH)=some _ from h)
 |mapUpdate mt m k v=>cases(show(none:fH)=some _ from h)
 |extract x n=>exact lift (fun c h=>by cases h) (bJ (aBs (call:=call) h hs hv) hn)
 | call c=>
  obtain⟨callee,args,ts⟩:=c;obtain⟨xs,h1,h2⟩:=aA.1 h
  cases callee with
  |builtin b=>exact lift (fun c h=>by cases h) (bJ (aST hT rfl h1 h2 hs hv) hn)
  |invoke rr m=>
   obtain⟨R,h3,h4⟩:=aA.1 h2;obtain⟨f1,f2⟩:=hv rr (by simp[Op.operands,Call.operands]) R h3;obtain⟨e1,e2⟩:=mO h1 hv (fun x hx=>by simp[Op.operands,Call.operands];exact .inr (by simpa using hx));have e3:args.map a.eval=(xs.map (den ρ)).toArray:=by apply aRD;rw[aRu,e1]
   have hcx:cx=⟨tb.g,tb.l,cx.fl,cx.hid⟩:=by cases cx;simp at hg hl;simp[hg,hl]
   have hs':aO w0 ρ ⟨tb.g,tb.l,cx.fl,cx.hid⟩ s w:=hcx ▸ hs;refine lift (fun c h=>by cases h) ?_;obtain⟨ti,x,fi,fn,i1,i2,i3,i4,i5,i6⟩:=NT h4 ρ f1;have hrun:=aEL (P:=tb.p) (w:=w) (o:=⟨dst,.call ⟨.invoke rr m,args,ts⟩,ty,pos,af,gg⟩) rfl (f2.trans i1) e3 (hT.met _ _ _ i2 _ w);unfold Oper.wp;rw[hrun,(hT.fn fi fn i3).2,show(#[den ρ x]++(xs.map (den ρ)).toArray)=((x::xs).map (den ρ)).toArray by simp];refine(aAp hT hc hg hs (show iH s.n (x::xs)from⟨i6,e2⟩) i5 (hcx ▸ hs') (by rw[aK]at i4;rw[aMP];intro h;rw[aK]at h;omega)).mono ?_;rintro e w' ⟨ρ',rfl,k1,k2⟩;exact hn ρ' w' (hcx ▸ k1) k2
  | value f=>
   obtain⟨F,h3,h4⟩:=aA.1 h2;obtain⟨f1,f2⟩:=hv f (by simp[Op.operands,Call.operands]) F h3;obtain⟨e1,e2⟩:=mO h1 hv (fun x hx=>by simp[Op.operands,Call.operands];exact .inr (by simpa using hx));have e3:args.map a.eval=(xs.map (den ρ)).toArray:=by apply aRD;rw[aRu,e1]
   have hcx:cx=⟨tb.g,tb.l,cx.fl,cx.hid⟩:=by cases cx;simp at hg hl;simp[hg,hl]
   have hs':aO w0 ρ ⟨tb.g,tb.l,cx.fl,cx.hid⟩ s w:=hcx ▸ hs;rcases dH h4 with h4|h4
   case inr=>
    refine lift (fun c h=>by cases h) ?_;unfold WG at h4
    split at h4
    case h_2=>cases h4
    rename_i u nm fa fc r0 l _
    obtain⟨j1,j2⟩:=aC.1 h4;obtain⟨j3,j4⟩:=aC.1 j2;have f3:fa= #[]:=aRQ (beq_iff.1 j3);subst f3;obtain⟨ti,x,fi,fn,i1,i2,i3,i4,i5,i6⟩:=NT j4 ρ e2.1;have hU: ∃d,tb.p.underlying u=some (.interface d):=by
     unfold isIf at j1
     split at j1
     . exact⟨_,by assumption⟩
     cases j1
    have hrun:=aBf (P:=tb.p) (w:=w) (o:=⟨dst,.call ⟨.value f,args,ts⟩,ty,pos,af,gg⟩) (t:=ti) (u:=den ρ x) (l:=(l.map (den ρ)).toArray) rfl f2 hU (by rw[e3];apply aRD;simp[i1]) (hT.met _ _ _ i2 _ w);unfold Oper.wp;rw[hrun,(hT.fn fi fn i3).2,show(#[den ρ x]++(l.map (den ρ)).toArray)=((x::l).map (den ρ)).toArray by simp];refine(aAp hT hc hg hs (show iH s.n (x::l)from⟨i6,e2.2⟩) i5 hs' (by rw[aK]at i4;rw[aMP];intro h;rw[aK]at h;omega)).mono ?_;rintro e w' ⟨ρ',rfl,k1,k2⟩;exact hn ρ' w' (hcx ▸ k1) k2
   rcases dH h4 with h4|h4
   case inr=>
    obtain⟨l,b,o,fa,fc,rfl,h5⟩:=Z4 h4;obtain⟨p,h9,h10⟩:=aA.1 h5
    cases h10
    obtain⟨_,k1⟩:=hc _ cx.fl cx.hid (yF+b) xs s p.1 p.2 h9 ρ w hs' e2;obtain⟨rc,k2,k3,k4⟩:=k1 (by rw[Nat.ble_eq];omega) (by rw[aWM];exact f1.1.1);rw[aWM]at k2 k4;have hd:den ρ (.fn (.yield l) (.ptr b o::fa) fc)=.func (.yield (ρ.blk b)) #[] #[]:=rfl;rw[hd]at f2;have hrun:=aEJ (P:=tb.p) (w:=w) (o:=⟨dst,.call ⟨.value f,args,ts⟩,ty,pos,af,gg⟩) rfl f2 e3 k2 (by simpa using k3);refine⟨fun _ _=>trivial,?_⟩;rw[Oper.semAt_eq _ _ _ (fun c h=>by cases h),hrun];refine⟨wS,RoundIn.mono (k4 (nn - 1)) ?_⟩;rintro e w' ⟨ρ',rfl,q1,q2⟩;exact hn ρ' w' (hcx ▸ q1) q2
   refine lift (fun c h=>by cases h) ?_;obtain⟨g,fi,ca,xs',h5,h6,h7,h8⟩:=BP h4 ρ f1 e2;have hrun:=aEK (P:=tb.p) (w:=w) (o:=⟨dst,.call ⟨.value f,args,ts⟩,ty,pos,af,gg⟩) hT rfl f2 e3 h6 h7
   cases aCa:tb.orc g xs' with
   | some u=>
    rw[aCa]at h5;obtain⟨rfl,rfl⟩:=aX h5;obtain⟨o1,o2,o3⟩:=hT.orc g xs' _ aCa;unfold Oper.wp;rw[hrun,o2];refine(o3 ρ w (fun g hg'=>by rw[<-hg];exact(hs.gl g (by rw[hg];exact hg')).2.2) hs.below).mono ?_;rintro e w' ⟨rfl,hb⟩;exact hn ρ w' (hs.world hb) (o1 _ _ (fun g hg'=>by
     have hg':g<cx.g.n:=by rw[hg];exact hg'
     have:=hs.gn;have:=hs.ln;have:=hs.y8;exact⟨by omega,hs.QA g hg'⟩))
   | none=>
    rw[aCa]at h5
    cases hfn:tb.fn.get g with
    | none=>
     rw[hfn]at h5;rcases dH h5 with h5|h5
     case inr=>
      rcases dH h5 with h5|h5
      . obtain⟨i1,i2⟩:=aC.1 h5;obtain⟨z,rfl,i3⟩:=xM i2;obtain⟨rfl,rfl⟩:=aX i3;exact bJ (gW.pure hs (by rw[hrun];exact hT.idn g i1 _ w) h8.1) hn
      obtain⟨e,i1,i2⟩:=aA.1 h5;obtain⟨z,rfl,i3⟩:=xM i2;obtain⟨q,m,rfl,i4⟩:=iJ i3;obtain⟨i5,i6⟩:=aC.1 i4;rw[uF]at i5;subst i5
      cases m with
      |negSucc m=>cases i6
      |ofNat m=>
       obtain⟨i7,i8⟩:=aC.1 i6;obtain⟨rfl,rfl⟩:=aX i8;obtain⟨cs,i9,i10⟩:=hT.mnz g e i1 m w (aK.1 i7);have j1:=hs.world (w₁:=w.drew.drew) (((aAL _ _).drew).drew);have j2:=j1.sat.alloc (.cells cs e) (.mJ [] 1 e) cs.size ⟨Env.fE _ _ _ _,by omega,cs,(0,0),by rw[Env.bM];exact aUU,fun i _ h=>by omega,by rw[Env.nM,Nat.mul_one],⟨cs.toList,by simp⟩,trivial⟩;refine bJ (v:=.DV s.n 0 m 0) ⟨_,_,.inl ?_,j1.trans j2,⟨aKZ _,hs.good _ (aCU _)⟩⟩ hn;rw[hrun];have i9:(callFunc g #[.int .i64 (Int.ofNat m)]).run tb.p w=_:=i9;simp only[aQw,aXy,den,i9,Env.bM,Env.fE,Env.nM,aLx,aUu]
       rfl
     obtain⟨vs,h9,h10⟩:=aA.1 h5;obtain⟨u,h11,rfl,rfl⟩:=oU h10;rw[<-XK h9 ρ]at h11;exact bJ (gW.pure (v:=.v u) hs (by rw[hrun];exact oZ (LJ h11) w) trivial) hn
    |some fn=>
     rw[hfn]at h5;obtain⟨hlt,h5⟩:=aC.1 h5;obtain⟨p,h9,h10⟩:=aA.1 h5
     cases h10
     unfold Oper.wp;rw[hrun,(hT.fn g fn hfn).2];refine((hc _ cx.fl cx.hid g xs' s p.1 p.2 h9 ρ w hs' h8).1 (by rw[aK]at hlt;rw[aMP];intro h;rw[aK]at h;omega)).mono ?_;rintro e w' ⟨ρ',rfl,k1,k2⟩;exact hn ρ' w' (hcx ▸ k1) k2
 | defer c=>
  obtain⟨callee,args,ts⟩:=c;obtain⟨xs,h1,h2⟩:=aA.1 h
  cases callee with
  |builtin b=>cases h2
  |invoke r m=>cases h2
  |value f=>
   obtain⟨F,h3,h4⟩:=aA.1 h2;obtain⟨f1,f2⟩:=hv f (by simp[Op.operands,Call.operands]) F h3;obtain⟨e1,e2⟩:=mO h1 hv (fun x hx=>by simp[Op.operands,Call.operands];exact .inr (by simpa using hx));obtain⟨g,fi,ca,xs',h5,_⟩:=BP h4 ρ f1 e2
   cases(aC.1 h5).2
 |_=>cases h
theorem LH{o:Oper}{f:FuncId}{xs:List AV}(hi:aS9 o=true)(h:opv tb o.op call cx t s=some (.dfr f xs))(hs:aO w0 ρ cx s w)(hv:lZ tb ρ s.n a t o.op)
 {next:Act->World->Prop} {Q:Exit->Act->World->Prop} (hn: ∀d,aAK ρ s.n (f,xs) d->next ({ a with defers:=d::a.defers }.put o.dst undef) w):o.wp tb.p a w next Q:=by
 obtain⟨dst,op,ty,pos,af,gg⟩:=o;dsimp only at h hv hn
 cases op with
 | defer c=>
  obtain⟨callee,args,ts⟩:=c;obtain⟨ys,h1,h2⟩:=aA.1 h
  cases callee with
  |builtin b=>cases h2
  |invoke r m=>cases h2
  | value fo=>
   obtain⟨F,h3,h4⟩:=aA.1 h2;obtain⟨f1,f2⟩:=hv fo (by simp[Op.operands,Call.operands]) F h3;obtain⟨e1,e2⟩:=mO h1 hv (fun x hx=>by simp[Op.operands,Call.operands];exact .inr (by simpa using hx));have e3:args.map a.eval=(ys.map (den ρ)).toArray:=by apply aRD;rw[aRu,e1]
   obtain⟨g,fi,ca,xs',h5,h6,h7,h8⟩:=BP h4 ρ f1 e2;obtain⟨hlt,h5⟩:=aC.1 h5
   cases h5
   unfold Oper.wp;have hr:(execOp a.eval ⟨dst,.defer ⟨.value fo,args,ts⟩,ty,pos,af,gg⟩).run tb.p w=.ok (.defer ⟨.fn (.func f) ca,fi++(ys.map (den ρ)).toArray⟩) w:=by
    simp only[execOp,resolve,aFW,f2,h6,Deferred.ofValue,aGf,aCR,e3]
   rw[hr];exact hn _ ⟨h8,.inl ⟨by rw[aK]at hlt;rw[aMP];intro h;rw[beq_iff]at h;unfold yF at hlt;unfold QF at h;omega,ca,_,rfl,h7⟩⟩
 |_=>cases hi
end
end Ev
end
section
open Go.RowKit
namespace Ev
variable[Gh]
structure iU(N:Nat)(ρ:Env)(n:Nat)(a:Act)(t:TE):Prop where
 size:a.tmps.size=N
 val: ∀i v,nU t i=some v->Sc n v/\i<N/\a.tmps[i]? =some (den ρ v)
def iK(ρ:Env)(n:Nat):DL->List Deferred->Prop
 |[],[]=>True
 |x::l,d::ds=>aAK ρ n x d/\iK ρ n l ds
 |_,_=>False
section
variable{tb:Tab}{w0:World}{ρ ρ':Env}{cx:Cx}{s s':Hs}{w:World}{a:Act}{t t':TE}{call:dK}{v:AV}{N n m:Nat}
theorem CJ(h:Ext n ρ ρ'){l:List AV}(hl:iH n l):l.map (den ρ')=l.map (den ρ):=by
 rw[<-dD,<-dD];exact kT h l hl
theorem aAK.ext(h:Ext n ρ ρ')(hm:n<=m){x:FuncId × List AV}{d:Deferred}(hd:aAK ρ n x d):aAK ρ' m x d:=by
 obtain⟨h1,⟨h0,cap,args,h2,h3⟩|⟨h0,b,h2,h3⟩⟩:=hd
 . exact⟨iH.mono hm _ h1,.inl ⟨h0,cap,args,h2,by rw[CJ h h1];exact h3⟩⟩
 refine⟨iH.mono hm _ h1,.inr ⟨h0,b,h2,?_⟩⟩;rw[h2]at h1;rw[(h b h1.1.1).1];exact h3
theorem iK.ext(h:Ext n ρ ρ')(hm:n<=m): ∀ {dl:DL} {ds:List Deferred},iK ρ n dl ds->iK ρ' m dl ds
 |[],[],_=>trivial
 |_::_,_::_,hd=>⟨hd.1.ext h hm,iK.ext h hm hd.2⟩
 |[],_::_,hd=>hd.elim
 |_::_,[],hd=>hd.elim
theorem iU.ext(h:Ext n ρ ρ')(hm:n<=m)(ht:iU N ρ n a t):iU N ρ' m a t:=
 ⟨ht.size,fun i v hv=>by
  obtain⟨h1,h2,h3⟩:=ht.val i v hv;exact⟨Sc.mono hm _ h1,h2,by rw[nJ h _ h1];exact h3⟩⟩
omit[Gh]in
theorem KZ{d:Option Tmp}(h:put N t d v=some t'):(d=none/\t'=t)\/ ∃k,d=some k/\k<N/\t'=OY t k v:=by
 cases d with
 |none=>cases h;exact .inl ⟨rfl,rfl⟩
 |some k=>
  obtain⟨h1,h2⟩:=aC.1 h
  cases h2
  exact .inr ⟨k,rfl,aK.1 h1,rfl⟩
theorem iU.put(ht:iU N ρ n a t){d:Option Tmp}(h:put N t d v=some t')(hv:Sc n v):iU N ρ n (a.put d (den ρ v)) t':=by
 rcases KZ h with⟨rfl,rfl⟩|⟨k,rfl,hk,rfl⟩
 . exact ht
 refine⟨by simp[Act.put,ht.size],fun i u hu=>?_⟩
 by_cases e:k=i
 . subst e;rw[wL]at hu;cases hu;exact⟨hv,hk,by simp[Act.put,aR6,ht.size,hk]⟩
 rw[nT _ _ e]at hu;obtain⟨h1,h2,h3⟩:=ht.val i u hu;exact⟨h1,h2,by simp only[Act.put];rw[aO7 e];exact h3⟩
omit[Gh]in
theorem put_defers(a:Act)(d:Option Tmp)(v:Value):(a.put d v).defers=a.defers:=by cases d<;>rfl
theorem aO.lv(hs:aO w0 ρ cx s w)(hg:cx.g=tb.g):Lv tb ρ:=fun g hg'=>by rw[<-hg];exact(hs.gl g (by rw[hg];exact hg')).2.2
theorem iU.vals(hF:CZ tb)(ht:iU N ρ s.n a t)(hs:aO w0 ρ cx s w)(hg:cx.g=tb.g)(o:Op):lZ tb ρ s.n a t o:=by
 intro x _ v hv
 cases x with
 |tmp i=>
  obtain⟨u,hu,hv⟩:=aA.1 hv
  cases hv
  obtain⟨h1,h2,h3⟩:=ht.val i u hu;exact⟨aOp h1,by rw[aDl hF (hs.lv hg)];simp[Act.eval,h3]⟩
 |const u=>cases hv;exact⟨trivial,rfl⟩
 |global g=>
  obtain⟨h1,h2⟩:=aC.1 hv
  cases h2
  have h3:g<cx.g.n:=by rw[hg];have:=aK.1 h1;omega
  obtain⟨h4,h5,_⟩:=hs.gl g h3;refine⟨?_,?_⟩
  . show Gd s.n g;refine⟨?_,hs.QA g h3⟩;have:=hs.gn;have:=hs.ln;have:=hs.y8;omega
  simp[Act.eval,den,h4,h5]
 |func f=>cases hv;exact⟨trivial,rfl⟩
omit[Gh]in
theorem RX{want:Bool}{x:Value}{b:Bool}(h:aTp want x=some b):((match some x with|some (.bool b)=>some b|_=>none)==some want)=b:=by
 cases x with
 |bool c=>cases h;cases want<;>cases c<;>rfl
 |_=>cases h;rfl
theorem aAV{all:List Oper}{ops:Array Oper}{o:Oper}{b:Bool}(hF:CZ tb)(hρ:Lv tb ρ)(hall:all=ops.toList)(h:JK tb all t o=some b)(ht:iU N ρ n a t):Region.wanted o (yielded ops a.tmps)=b:=by
 subst hall;unfold JK at h;unfold Region.wanted
 cases hg:o.guard with
 |none=>rw[hg]at h;cases h;rfl
 |some p=>
  rw[hg]at h;obtain⟨j,want⟩:=p;obtain⟨g,h1,h2⟩:=aA.1 h;obtain⟨d,h3,h4⟩:=aA.1 h2;obtain⟨x,h5,h6⟩:=aA.1 h4;obtain⟨u,hu,h7⟩:=fQ h6;obtain⟨_,_,h8⟩:=ht.val d _ h5;rw[<-aDl hF hρ,hu]at h8;rw[pG,aGY]at h1;have:=RX h7;simp only[yielded,h1,h3,aWd,h8,den]
  cases u<;>exact this
variable(hT:fG tb w0)
include hT
theorem UA(hc:jS tb w0 call)(hg:cx.g=tb.g)(hl:cx.l=tb.l){ops:Array Oper}{Q:Exit->Act->World->Prop}{st:St}{rd r:Option Nat}{nn:Nat}(hrd:rd=none->r=none)(l:List Oper):
 ∀(t:TE) (s:Hs) (dl:DL),aA9 tb call cx N rd ops.toList l t s dl=some st-> ∀(ρ:Env) (w:World) (a:Act),aO w0 ρ cx s w->iU N ρ s.n a t->iK ρ s.n dl a.defers->
 (∀ ρ' w' a',Stp w0 ρ ρ' cx s st.s w w'->iU N ρ' st.s.n a' st.t->iK ρ' st.s.n st.d a'.defers->Q .normal a' w')->wpListIn (FF r) nn tb.p ops Q l a w:=by
 induction l with
 |nil=>
  intro t s dl h ρ w a hs ht hd hq
  cases h
  exact hq ρ w a (Stp.refl hs) ht hd
 | cons o l ih=>
  intro t s dl h ρ w a hs ht hd hq;obtain⟨b,h1,h2⟩:=aA.1 h;have hw:=aAV hT.y9 (hs.lv hg) rfl h1 ht;unfold wpListIn;rw[hw]
  cases b with
  |false=>
   obtain⟨t1,h3,h4⟩:=aA.1 h2;exact⟨fun _ _=>trivial,ih t1 s dl h4 ρ w _ hs (ht.put (v:=und) h3 trivial) (by rw[put_defers];exact hd) hq⟩
  | true=>
   obtain⟨r3,h3,h4⟩:=aA.1 h2;show Oper.wpIn _ _ _ _ _ _ _ _
   cases r3 with
   |ok v s1=>
    obtain⟨t1,h5,h6⟩:=aA.1 h4;refine YN hT hc h3 hg hl hs (ht.vals hT.y9 hs hg _) fun ρ1 w1 hst hv=>?_;refine ih t1 s1 dl h6 ρ1 w1 _ hst.sat ((ht.ext hst.ext hst.n).put h5 hv) (by rw[put_defers];exact hd.ext hst.ext hst.n) fun ρ2 w2 a2 hst2 ht2 hd2=>?_;exact hq ρ2 w2 a2 (hst.trans hst2) ht2 hd2
   |dfr f xs=>
    obtain⟨hn,h4⟩:=aC.1 h4;obtain⟨hi,hn⟩:=aF hn;obtain⟨t1,h5,h6⟩:=aA.1 h4;have hr:r=none:=hrd (by cases rd with|none=>rfl|some b=>cases hn);refine aDf (.inl hr) (LH hT hi h3 hs (ht.vals hT.y9 hs hg _) fun d hdk=>?_);refine ih t1 s _ h6 ρ w _ hs ?_ (by rw[put_defers];exact⟨hdk,hd⟩) hq;exact iU.put (a:={ a with defers:=d::a.defers }) (v:=und) ⟨ht.size,ht.val⟩ h5 trivial
theorem GR(hc:jS tb w0 call)(hg:cx.g=tb.g)(hl:cx.l=tb.l){id:Nat}{ops:Array Oper}{Q:Exit->Act->World->Prop}{st st':St}{rd r:Option Nat}{nn:Nat}(hrd:rd=none->r=none)
 (h:region tb call cx N rd ops false st=some st') (hs:aO w0 ρ cx st.s w) (ht:iU N ρ st.s.n a st.t) (hd:iK ρ st.s.n st.d a.defers)
 (hq: ∀ ρ' w' a',Stp w0 ρ ρ' cx st.s st'.s w w'->iU N ρ' st'.s.n a' st'.t->iK ρ' st'.s.n st'.d a'.defers->Q .normal a' w'):(Code.region id ops false).wpIn (FF r) nn tb.p Q a w:=
 wpIn_region_list (UA hT hc hg hl hrd _ _ _ _ h ρ w a hs ht hd hq)
end
end Ev
end
section
open Go.RowKit
namespace Ev
def Fq(fl:Nat)(hid:Hid)(s s':Hs):Prop:=
 s.n<=s'.n/\(∀b,b<s.n->(b<fl\/hidden hid b=true)->s'.h.get b=s.h.get b)/\(∀b o,s'.n<=b->s'.h.get b=some o-> ∃o',s.h.get b=some o')
theorem Fq.refl(fl:Nat)(hid:Hid)(s:Hs):Fq fl hid s s:=⟨aCU _,fun _ _ _=>rfl,fun _ o _ h=>⟨o,h⟩⟩
theorem Fq.trans{fl:Nat}{hid:Hid}{s s1 s2:Hs}(h:Fq fl hid s s1)(h':Fq fl hid s1 s2):Fq fl hid s s2:=
 ⟨aI6 h.1 h'.1,fun b hb hc=>by rw[h'.2.1 b (aF7 hb h.1) hc,h.2.1 b hb hc],fun b o hb ho=>by
  obtain⟨o1,h1⟩:=h'.2.2 b o hb ho;exact h.2.2 b o1 (aI6 h'.1 hb) h1⟩
theorem Fq.mono{fl fl':Nat}{hid aTc:Hid}{s s':Hs}(h:Fq fl' aTc s s')(hm: ∀b,b<s.n->(b<fl\/hidden hid b=true)->b<fl'\/hidden aTc b=true):Fq fl hid s s':=
 ⟨h.1,fun b hb hc=>h.2.1 b hb (hm b hb hc),h.2.2⟩
theorem Fq.new(fl:Nat)(hid:Hid)(s:Hs)(o:HO):Fq fl hid s ⟨s.h.set s.n o,s.n+1⟩:=
 ⟨aQm _,fun b hb _=>Tr.dN _ _ (by omega),fun b x hb hx=>by
  have hb:s.n+1<=b:=hb;have hx:(s.h.set s.n o).get b=some x:=hx;rw[Tr.dN _ _ (by omega)]at hx;exact⟨x,hx⟩⟩
theorem Fq.put{fl:Nat}{hid:Hid}{s:Hs}{b:Nat}{o:HO}(o':HO)(hb:s.look hid b=some o)(hf:fl<=b):Fq fl hid s ⟨s.h.set b o',s.n⟩:=by
 obtain⟨h1,h2⟩:=Hs.bV.1 hb;refine⟨aCU _,fun c hc hor=>Tr.dN _ _ (fun e=>?_),fun c x hc hx=>?_⟩
 . subst e;rcases hor with h|h
   . omega
   rw[h1]at h;cases h
 by_cases e:b=c
 . subst e;exact⟨o,h2⟩
 have hx:(s.h.set b o').get c=some x:=hx;rw[Tr.dN _ _ e]at hx;exact⟨x,hx⟩
theorem Fq.move{fl:Nat}{hid:Hid}{s:Hs}{b:Nat}{o:HO}(o':HO)(hb:s.look hid b=some o)(hf:fl<=b):Fq fl hid s ⟨(s.h.del b).set s.n o',s.n+1⟩:=by
 obtain⟨h1,h2⟩:=Hs.bV.1 hb;refine⟨aQm _,fun c hc hor=>?_,fun c x hc hx=>?_⟩
 . show((s.h.del b).set s.n o').get c=_;rw[Tr.dN _ _ (by omega),Tr.kE _ (fun e=>?_)];subst e;rcases hor with h|h
   . omega
   rw[h1]at h;cases h
 have hc:s.n+1<=c:=hc;have hx:((s.h.del b).set s.n o').get c=some x:=hx;rw[Tr.dN _ _ (by omega)]at hx
 by_cases e:b=c
 . subst e;exact⟨o,h2⟩
 rw[Tr.kE _ e]at hx;exact⟨x,hx⟩
def iM(cx:Cx)(s:Hs)(r:fH):Prop:= ∀v s',r=some (.ok v s')->Fq cx.fl cx.hid s s'
def fO(call:dK):Prop:= ∀fl hid f xs s v s',call fl hid f xs s=some (v,s')->Fq fl hid s s'
section
variable{cx:Cx}{s:Hs}
theorem aB:iM cx s none:=fun _ _ h=>by cases h
theorem gZ{x:AV}:iM cx s (ret x s):=fun _ _ h=>by cases h;exact Fq.refl _ _ _
theorem xY{x:AV}{y:Hs}(h:Fq cx.fl cx.hid s y):iM cx s (ret x y):=fun _ _ e=>by cases e;exact h
theorem aZ{α:Type}{x:Option α}{k:α->fH}(h: ∀z,iM cx s (k z)):iM cx s (ob x k):=fun f xs e=>by obtain⟨z,_,e2⟩:=aA.1 e;exact h z f xs e2
theorem VQ{α:Type}{x:Option α}{k:α->fH}(h: ∀z,x=some z->iM cx s (k z)):iM cx s (ob x k):=fun f xs e=>by obtain⟨z,e1,e2⟩:=aA.1 e;exact h z e1 f xs e2
theorem VR{b:Bool}{x:fH}(h:b=true->iM cx s x):iM cx s (gd b x):=fun f xs e=>h (aC.1 e).1 f xs (aC.1 e).2
theorem aMU{x:AV}{k:fH}(h:iM cx s k):iM cx s (aEr x k):=fun f xs e=>h f xs (rO e).1
theorem aJr{x:AV}{k:fH}(h:iM cx s k):iM cx s (aA2 x (fun p=>EY bC fP bC (fun _ _ _=>k) mD bC bC none p)):=fun f xs e=>h f xs (JY e).1
theorem eP{b:Bool}{x:fH}(h:iM cx s x):iM cx s (gd b x):=fun f xs e=>h f xs (aC.1 e).2
theorem kW{x:Option AV}:iM cx s (KN x s):=aZ fun _=>gZ
theorem uK{x:Option Value}:iM cx s (X8 x s):=aZ fun _=>gZ
theorem VW{x:AV}{k:Value->fH}(h: ∀z,iM cx s (k z)):iM cx s (asV x k):=fun f xs e=>by obtain⟨z,_,e2⟩:=fQ e;exact h z f xs e2
theorem wQ{x:AV}{k:Nat->Nat->fH}(h: ∀y z,iM cx s (k y z)):iM cx s (qR x k):=fun f xs e=>by obtain⟨y,z,_,e2⟩:=fB e;exact h y z f xs e2
theorem aF2{x:AV}{k:Bool->fH}(h: ∀z,iM cx s (k z)):iM cx s (asBool x k):=fun f xs e=>by obtain⟨z,_,e2⟩:=nY e;exact h z f xs e2
theorem ZY{x:AV}{k:Nat->fH}(h: ∀z,iM cx s (k z)):iM cx s (asNat x k):=fun f xs e=>by obtain⟨_,z,_,e2⟩:=zY e;exact h z f xs e2
theorem aDB{x:HO}{k:List AV->fH}(h: ∀z,iM cx s (k z)):iM cx s (O5 x k):=fun f xs e=>by obtain⟨z,_,e2⟩:=oP e;exact h z f xs e2
theorem aDA{x:HO}{k:List AV->fH}(h: ∀z,iM cx s (k z)):iM cx s (aHL x k):=fun f xs e=>by obtain⟨z,_,e2⟩:=xJ e;exact h z f xs e2
theorem MV{x:sO}{k:TypeId->fH}(h: ∀z,iM cx s (k z)):iM cx s (FZ x k):=fun f xs e=>by obtain⟨z,_,e2⟩:=pX e;exact h z f xs e2
theorem MS{x:sO}{k:List (Nat × Nat × Bool)->fH}(h: ∀z,iM cx s (k z)):iM cx s (IL x k):=fun f xs e=>by obtain⟨z,_,e2⟩:=tC e;exact h z f xs e2
theorem aJt{x:Fn}{k:FuncId->fH}(h: ∀z,iM cx s (k z)):iM cx s (fnF x k):=fun f xs e=>by obtain⟨z,_,e2⟩:=wR e;exact h z f xs e2
theorem aJq{α:Type}{l:List α}{k:α->α->fH}(h: ∀y z,iM cx s (k y z)):iM cx s (two l k):=fun f xs e=>by obtain⟨y,z,_,_,e2⟩:=JL e;exact h y z f xs e2
theorem SA{fv:Value->fH}{fp:Nat->Nat->fH}{fs fu:Nat->Nat->Nat->Nat->fH}{ff:Fn->List AV->List AV->fH}{fi:TypeId->AV->fH}{fa ft:List AV->fH}{fm:Nat->fH}{x:AV}
 (h1: ∀a,iM cx s (fv a)) (h2: ∀a b,iM cx s (fp a b)) (h3: ∀a b c d,iM cx s (fs a b c d)) (h4: ∀a b c d,iM cx s (fu a b c d)) (h5: ∀a b c,iM cx s (ff a b c)) (h6: ∀a b,iM cx s (fi a b)) (h7: ∀a,iM cx s (fa a)) (h8: ∀a,iM cx s (ft a)) (h9: ∀a,iM cx s (fm a)):
 iM cx s (AV.el fv fp fs fu ff fi fa ft fm x):=by
 cases x
 . exact h1 _
 . exact h2 _ _
 . exact h3 _ _ _ _
 . exact h4 _ _ _ _
 . exact h5 _ _ _
 . exact h6 _ _
 . exact h7 _
 . exact h8 _
 exact h9 _
theorem wM{fb:Bool->fH}{fi:IntKind->Int->fH}{fs:ByteArray->fH}{fsl:Option Addr->Nat->Nat->fH}{ff:Fn->Array Value->Array Value->fH}{fa ft:Array Value->fH}{fo:fH}{x:Value}
 (h1: ∀a,iM cx s (fb a)) (h2: ∀a b,iM cx s (fi a b)) (h3: ∀a,iM cx s (fs a)) (h4: ∀a b c,iM cx s (fsl a b c)) (h5: ∀a b c,iM cx s (ff a b c)) (h6: ∀a,iM cx s (fa a)) (h7: ∀a,iM cx s (ft a)) (h8:iM cx s fo):iM cx s (EY fb fi fs fsl ff fa ft fo x):=by
 cases x<;>first|exact h1 _|exact h2 _ _|exact h3 _|exact h4 _ _ _|exact h5 _ _ _|exact h6 _|exact h7 _|exact h8
theorem pU{x y:fH}(h:iM cx s x)(h':iM cx s y):iM cx s (DF x y):=fun f xs e=>by rcases dH e with e|e;exact h f xs e;exact h' f xs e
theorem VU{b:Bool}{x y:fH}(h:iM cx s x)(h':iM cx s y):iM cx s (Bool.rec (motive:=fun _=>fH) x y b):=by cases b;exact h;exact h'
theorem aQy{f:AV}{xs:List AV}{k:FuncId->List AV->fH}(h: ∀y z,iM cx s (k y z)):iM cx s (fnV f xs k):=
 SA (fun _=>wM (fun _=>aB) (fun _ _=>aB) (fun _=>aB) (fun _ _ _=>aB) (fun _ _ _=>aJt fun _=>h _ _) (fun _=>aB) (fun _=>aB) aB)
  (fun _ _=>aB) (fun _ _ _ _=>aB) (fun _ _ _ _=>aB) (fun _ _ _=>aJt fun _=>h _ _) (fun _ _=>aB) (fun _=>aB) (fun _=>aB) (fun _=>aB)
theorem aQx{f:AV}{k:Nat->fH}(h: ∀b,iM cx s (k b)):iM cx s (fnY f k):=fun v s' e=>by
 obtain⟨_,b,_,_,_,_,h2⟩:=Z4 e;exact h b v s' h2
theorem Fq.del{fl:Nat}{hid:Hid}{s:Hs}{b:Nat}{o:HO}(hb:s.look hid b=some o)(hf:fl<=b):Fq fl hid s ⟨s.h.del b,s.n⟩:=by
 obtain⟨h1,h2⟩:=Hs.bV.1 hb;refine⟨aCU _,fun c hc hor=>Tr.kE _ (fun e=>?_),fun c x hc hx=>?_⟩
 . subst e;rcases hor with h|h
   . omega
   rw[h1]at h;cases h
 by_cases e:b=c
 . subst e;exact⟨o,h2⟩
 have hx:(s.h.del b).get c=some x:=hx;rw[Tr.kE _ e]at hx;exact⟨x,hx⟩
theorem aJs{α:Type}{l:List α}{k:α->fH}(h: ∀y,iM cx s (k y)):iM cx s (one l k):=fun f xs e=>by obtain⟨y,_,e2⟩:=xM e;exact h y f xs e2
theorem aUK{α:Type}{l:List α}{k:α->α->fH}(h: ∀y z,iM cx s (k y z)):iM cx s (pair l k):=fun f xs e=>by obtain⟨y,z,_,e2⟩:=aEY e;exact h y z f xs e2
theorem aJu{x:AV}{k:IntKind->Int->fH}(h: ∀q n,iM cx s (k q n)):iM cx s (asInt x k):=fun f xs e=>by obtain⟨q,n,_,e2⟩:=iJ e;exact h q n f xs e2
theorem aUJ{x:sO}{k:TypeId->fH}(h: ∀z,iM cx s (k z)):iM cx s (aEU x k):=fun f xs e=>by obtain⟨z,_,e2⟩:=xK e;exact h z f xs e2
theorem wP{x:AV}{o:HO}:iM cx s (ret x ⟨s.h.set s.n o,s.n+1⟩):=xY (Fq.new _ _ _ _)
theorem VT{call:dK}(hc:fO call){f:FuncId}{xs:List AV}:iM cx s (aLU (call cx.fl cx.hid f xs s)):=fun v s' e=>by
 obtain⟨p,h1,h2⟩:=aA.1 e
 cases h2
 exact hc _ _ _ _ _ p.1 p.2 h1
end
theorem aH3{tb:Tab}{call:dK}{cx:Cx}{t:TE}{s:Hs}(hc:fO call)(op:Op):iM cx s (opv tb op call cx t s):=by
 cases op with
 |move x=>exact(kW)
 |assign x=>exact(kW)
 |pick x y z=>exact(aZ (fun _=>aF2 fun _=>kW))
 |alloc e=>exact(aZ (fun _=>wP))
 |box e x=>exact(aZ (fun _=>wP))
 |build e ps=>exact(aZ (fun _=>aZ fun _=>aZ fun _=>aZ fun _=>gZ))
 |buildSlice e n ps=>exact(aZ (fun _=>MV fun _=>aZ fun _=>eP (aZ fun _=>aZ fun _=>wP)))
 |load e x=>exact(aZ (fun _=>aZ fun _=>wQ fun _ _=>aZ fun _=>aDB fun _=>kW))
 |store e x y=>exact(aZ (fun _=>aZ fun _=>aZ fun _=>wQ fun _ _=>VR fun hb=>VQ fun _ hl=>aDA fun _=>eP (xY (Fq.put _ hl (aK.1 hb)))))
 |nilCheck x=>
  refine(aZ (fun y=>?_));exact SA (fun _=>wM (fun _=>aB) (fun _ _=>aB) (fun _=>aB) (fun _ _ _=>aB) (fun _ _ _=>eP gZ) (fun _=>aB) (fun _=>aB) aB) (fun _ _=>gZ) (fun _ _ _ _=>aB) (fun _ _ _ _=>aB) (fun _ _ _=>eP gZ) (fun _ _=>aB) (fun _=>aB) (fun _=>aB) (fun _=>aB)
 |binOp b xt x y yt=>exact(aZ (fun _=>aZ fun _=>pU uK kW))
 |unOp b xt x=>exact(aZ (fun _=>pU uK kW))
 |convert a b x=>
  have hSB: ∀X,iM cx s (aJX tb a b X s):=fun X=>aZ fun _=>eP (aZ fun _=>MV fun _=>aZ fun _=>eP (VW fun _=>wM (fun _=>aB) (fun _ _=>aB) (fun _=>wP) (fun _ _ _=>aB) (fun _ _ _=>aB) (fun _=>aB) (fun _=>aB) aB));exact aZ fun X=>pU uK (pU (hSB X) kW)
 |makeInterface e x=>exact(aZ (fun _=>eP (aZ fun _=>gZ)))
 |makeFunc f' x y=>
  refine pU (eP (aZ (fun _=>aZ fun _=>gZ))) ?_;show iM cx s (UR f' x y s);unfold UR
  split
  . exact eP (eP gZ)
  exact aB
 |makeSlice e x y=>exact aB
 |slice e x lo hi mx=>exact aB
 |fieldAddr e x n=>exact(aZ (fun _=>MS fun _=>aZ fun _=>eP (aZ fun _=>wQ fun _ _=>gZ)))
 |field e x n=>
  refine(aZ (fun _=>MS fun _=>aZ fun _=>aZ fun y=>?_));exact SA (fun _=>wM (fun _=>aB) (fun _ _=>aB) (fun _=>aB) (fun _ _ _=>aB) (fun _ _ _=>aB) (fun _=>kW) (fun _=>aB) aB) (fun _ _=>aB) (fun _ _ _ _=>aB) (fun _ _ _ _=>aB) (fun _ _ _=>aB) (fun _ _=>aB) (fun _=>kW) (fun _=>aB) (fun _=>aB)
 |indexAddr e x y=>
  refine(aZ (fun i=>aZ fun X=>aZ fun _=>ZY fun j=>?_))
  cases i.k with
  |slice el=>exact aZ fun _=>SA (fun _=>aB) (fun _ _=>aB) (fun _ _ _ _=>eP gZ) (fun _ _ _ _=>eP gZ) (fun _ _ _=>aB) (fun _ _=>aB) (fun _=>aB) (fun _=>aB) (fun _=>aB)
  |arr n el=>exact aZ fun _=>wQ fun _ _=>eP gZ
  |_=>exact aB
 | index e x y=>
  refine(aZ (fun i=>aZ fun X=>aZ fun _=>ZY fun j=>?_))
  cases i.k with
  |str=>exact VW fun _=>uK
  |arr n el=>
   refine aZ fun _=>eP ?_;exact SA (fun _=>wM (fun _=>aB) (fun _ _=>aB) (fun _=>aB) (fun _ _ _=>aB) (fun _ _ _=>aB) (fun _=>kW) (fun _=>aB) aB) (fun _ _=>aB) (fun _ _ _ _=>aB) (fun _ _ _ _=>aB) (fun _ _ _=>aB) (fun _ _=>aB) (fun _=>kW) (fun _=>aB) (fun _=>aB)
  |_=>exact aB
 |range e x=>exact(aZ (fun _=>eP (aZ fun _=>VW fun _=>wM (fun _=>aB) (fun _ _=>aB) (fun _=>wP) (fun _ _ _=>aB) (fun _ _ _=>aB) (fun _=>aB) (fun _=>aB) aB)))
 | next x b=>
  refine(eP (aZ fun _=>wQ fun b _=>VR fun hb=>VQ fun o hl=>?_));rw[dI,aFU]at hb
  cases o with
  |iter bs p=>
   show iM cx s (ZC bs p _ _);unfold ZC
   cases nth bs.data.toList p with
   |none=>exact eP gZ
   |some c=>exact eP (xY (Fq.put _ hl (aK.1 hb.2)))
  |_=>exact aB
 |makeMap t r=>exact aB
 |lookup xt x i ok=>exact aB
 |insert mt m k v=>exact aB
 |mapUpdate mt m k v=>exact aB
 |extract x n=>exact(aZ (fun _=>kW))
 | call c=>
  obtain⟨callee,args,ts⟩:=c;refine aZ fun ys=>?_;have hO: ∀f xs,iM cx s (F6 tb call cx f xs s):=fun f xs=>by
   unfold F6
   cases tb.orc f xs with
   |none=>exact VT hc
   |some v=>exact gZ
  have hI: ∀r m xs,iM cx s (SI tb call cx r m xs s):=fun r m xs=>by
   unfold SI aQn
   split
   . exact aZ fun _=>aZ fun _=>eP (hO _ _)
   . exact aZ fun _=>aZ fun _=>eP (hO _ _)
   exact aB
  have hM: ∀f xs,iM cx s (WG tb call cx f xs s):=fun f xs=>by
   unfold WG
   split
   . exact eP (eP (hI _ _ _))
   exact aB
  cases callee with
  |invoke r m=>exact aZ fun _=>hI _ _ _
  | value fo=>
   refine(aZ (fun F=>pU (pU (aQy fun y z=>?_) (aQx fun b=>VT hc)) (hM _ _)))
   cases tb.orc y z with
   |some u=>exact gZ
   | none=>
    cases tb.fn.get y with
    |none=>
     refine pU (aZ fun _=>uK) (pU (eP (aJs fun _=>gZ)) (aZ fun e=>aJs fun _=>aJu fun k n=>eP ?_))
     cases n with
     |ofNat n=>exact eP wP
     |negSucc n=>exact aB
    |some fn=>exact eP (VT hc)
  | builtin b=>
   cases b with
   |min=>exact(aZ (fun _=>uK))
   |max=>exact(aZ (fun _=>uK))
   | append=>
    show iM cx s (aAw tb ts.toList ys cx s);refine(aJq (fun t1 t2=>aJq fun x y=>aZ fun i=>MV fun e=>aZ fun ei=>aZ fun i2=>eP (aZ fun p=>?_)));refine SA (fun _=>wM (fun _=>aB) (fun _ _=>aB) (fun _=>aB) (fun _ _ _=>eP (eP (VU (eP wP) gZ))) (fun _ _ _=>aB) (fun _=>aB) (fun _=>aB) aB) (fun _ _=>aB)
     (fun _ _ _ _=>eP (VQ fun _ hl=>aDB fun _=>VU (aZ fun _=>wP) (VR fun hb=>aDA fun _=>eP (xY (Fq.put _ hl (aK.1 hb)))))) (fun _ _ _ _=>eP (VQ fun o hl=>?_)) (fun _ _ _=>aB) (fun _ _=>aB) (fun _=>aB) (fun _=>aB) (fun _=>aB)
    cases o with
    |mJ c es el=>
     refine VR fun hb=>?_;rw[dI,aFU]at hb;exact VU (eP (aZ fun _=>xY (Fq.move _ hl (aK.1 hb.2)))) (eP (eP (xY (Fq.put _ hl (aK.1 hb.2)))))
    |_=>exact aB
   | len=>
    show iM cx s (aAv tb ts.toList ys s);unfold aAv
    cases ts.toList with
    |nil=>exact aB
    | cons t1 tr=>
     cases ys with
     |nil=>exact aB
     |cons y yr=>
      refine aZ (fun i=>?_)
      cases i.k with
      |str=>exact pU (VW fun _=>wM (fun _=>aB) (fun _ _=>aB) (fun _=>gZ) (fun _ _ _=>aB) (fun _ _ _=>aB) (fun _=>aB) (fun _=>aB) aB) (aMU gZ)
      |slice el=>exact pU (aZ fun _=>gZ) (aJr gZ)
      |_=>exact aB
   |_=>exact aB
 | defer c=>
  obtain⟨callee,args,ts⟩:=c;intro v s' h;obtain⟨xs,h1,h2⟩:=aA.1 h
  cases callee with
  |builtin b=>cases h2
  |invoke r m=>cases h2
  | value f=>
   obtain⟨F,h3,h4⟩:=aA.1 h2
   letI:Gh:=⟨fun _=>False⟩
   cases F with
   |v F=>
    cases F with
    |func g fi ca=>obtain⟨g,rfl,h5⟩:=wR h4;cases(aC.1 h5).2
    |_=>cases h4
   |fn g fi ca=>obtain⟨g,rfl,h5⟩:=wR h4;cases(aC.1 h5).2
   |_=>cases h4
 |_=>exact aB
end Ev
end
section
open Go.RowKit
namespace Ev
structure Md where
 skip:Bool
 fl:Nat
 hid:Hid
 see:See
 wr:See
 v:AV
def U6(x:See)(b:Nat):Prop:=x=.all\/x=.one b\/ ∃l,x=.lst l/\b ∈ l
theorem U5{b:Nat}{l:List Nat}(h:b ∈ l):aBY b l=true:=by
 induction l with
 |nil=>cases h
 |cons c l ih=>
  show bor (Nat.beq c b) (aBY b l)=true;rw[EU,aJj];rcases aG4.1 h with rfl|h
  . exact .inl (aXw _)
  exact .inr (ih h)
theorem aHB{b:Nat}{l m:List Nat}(h:b ∈ l)(h':b ∈ m):aHC l m=true:=by
 induction l with
 |nil=>cases h
 |cons c l ih=>
  show bor (aBY c m) (aHC l m)=true;rw[EU,aJj];rcases aG4.1 h with rfl|h
  . exact .inl (U5 h')
  exact .inr (ih h)
theorem ZH{x y:See}{b:Nat}(hx:U6 x b)(hy:U6 y b):meets x y=true:=by
 rcases hx with rfl|rfl|⟨l,rfl,hl⟩<;>rcases hy with rfl|rfl|⟨m,rfl,hm⟩<;>first|rfl|exact aXw b|exact U5 hm|exact U5 hl|exact aHB hl hm
theorem uJ(h k:Hid)(b:Nat):hidden (app h k) b=(hidden h b||hidden k b):=by
 induction h with
 |nil=>rfl
 |cons p h ih=>
  show hidden (p::app h k) b=_;rw[dG,dG,ih,Bool.or_assoc]
theorem ZU(m:Nat)(h:Hid)(b:Nat):hidden (aCt m h) b=(hidden h b&&decide (b≠m)):=by
 induction h with
 |nil=>rfl
 | cons p h ih=>
  show hidden (Bool.rec (motive:=fun _=>Hid) (p::aCt m h) ((p.1,m)::(m+1,p.2)::aCt m h) (band (Nat.ble p.1 m) (Nat.ble (m+1) p.2))) b=_
  cases hc:band (Nat.ble p.1 m) (Nat.ble (m+1) p.2)with
  |true=>
   rw[dI,aFU,aK,aK]at hc;show hidden ((p.1,m)::(m+1,p.2)::aCt m h) b=_;rw[dG,dG,dG,ih]
   by_cases e:b=m
   . subst e;simp;omega
   by_cases e2:p.1<=b/\b<p.2
   . have:(p.1<=b/\b<m)\/(m+1<=b/\b<p.2):=by omega
     rcases this with h|h<;>simp[h,e,e2]
   have h1: ¬(p.1<=b/\b<m):=by omega
   have h2: ¬(m+1<=b/\b<p.2):=by omega
   simp only[h1,h2,e2,e,aUH,aVR,aVo,aVU,aUV,aUn]
  |false=>
   show hidden (p::aCt m h) b=_;rw[dG,dG,ih]
   by_cases e:b=m
   . subst e;have: ¬(p.1<=b/\b<p.2):=fun hh=>by
      have:band (Nat.ble p.1 b) (Nat.ble (b+1) p.2)=true:=by rw[dI,aFU,aK,aK];exact⟨hh.1,hh.2⟩
      rw[this]at hc;cases hc
     simp[this]
   simp[e]
theorem FW(ms:List Nat)(h:Hid)(b:Nat):hidden (aJV ms h) b=(hidden h b&&decide (b ∉ ms)):=by
 induction ms with
 |nil=>show hidden h b=_;simp
 |cons m ms ih=>
  show hidden (aCt m (aJV ms h)) b=_;rw[ZU,ih,Bool.and_assoc]
  congr 1
  by_cases e:b=m<;>by_cases e2:b ∈ ms<;>simp[e,e2]
theorem jO(a:Nat)(h:Hid)(b:Nat)(iv:List (Nat × Nat × Nat)):
 hidden (others a iv h) b=true↔(∃p ∈ iv,bit a p.1=false/\p.2.1<=b/\b<p.2.2)\/hidden h b=true:=by
 induction iv with
 |nil=>exact⟨.inr,fun h=>h.elim (fun⟨_,h,_⟩=>by cases h) id⟩
 | cons p l ih=>
  show hidden (Bool.rec (motive:=fun _=>Hid) (p.2::others a l h) (others a l h) (bit a p.1)) b=true↔_
  cases hb:bit a p.1 with
  |true=>
   show hidden (others a l h) b=true↔_;rw[ih];constructor
   . rintro(⟨q,h1,h2⟩|h1)
     . exact .inl ⟨q,aHg _ h1,h2⟩
     exact .inr h1
   rintro(⟨q,h1,h2,h3⟩|h1)
   . rcases aG4.1 h1 with rfl|h1
     . rw[hb]at h2;cases h2
     exact .inl ⟨q,h1,h2,h3⟩
   exact .inr h1
  |false=>
   show hidden (p.2::others a l h) b=true↔_;rw[dG,aJj,ih,aNo];constructor
   . rintro(h1|⟨q,h1,h2⟩|h1)
     . exact .inl ⟨p,aG1,hb,h1⟩
     . exact .inl ⟨q,aHg _ h1,h2⟩
     exact .inr h1
   rintro(⟨q,h1,h2,h3⟩|h1)
   . rcases aG4.1 h1 with rfl|h1
     . exact .inl h3
     exact .inr (.inl ⟨q,h1,h2,h3⟩)
   exact .inr (.inr h1)
theorem fJ{p:Nat × Nat}{l:Hid}{b:Nat}(h:hidden (p::l) b=false): ¬(p.1<=b/\b<p.2)/\hidden l b=false:=by
 rw[dG,aPy,aD5]at h;exact h
section
variable{tb:Tab}{call:dK}{cx:Cx}{N:Nat}
structure Seen(cx:Cx)(a:Nat)(d:Ds)(m:Md):Prop where
 fl:cx.fl<=d.s.n->cx.fl<=m.fl/\m.fl<=d.s.n
 hid: ∀b,b<d.s.n->hidden m.hid b=false->hidden cx.hid b=false/\(∀p ∈ d.iv,p.2.1<=b->b<p.2.2->bit a p.1=true)/\(cx.fl<=b->U6 m.see b)
 wr: ∀b,b<d.s.n->m.fl<=b->hidden m.hid b=false->U6 m.wr b
 mono: ∀b,b<d.s.n->(b<cx.fl\/hidden cx.hid b=true)->b<m.fl\/hidden m.hid b=true
 up:(∀p ∈ d.iv,p.2.2<=d.s.n)->(∀b,d.s.n<=b->hidden cx.hid b=false)-> ∀b,d.s.n<=b->hidden m.hid b=false
theorem QW{a:Nat}{d:Ds}{m:Md}(h1:m.fl=d.s.n)(h2:m.hid=[(0,d.s.n)]):Seen cx a d m where
 fl:=fun h=>by rw[h1];exact⟨h,aCU _⟩
 hid:=fun b hb hh=>by rw[h2]at hh;exact absurd ⟨aKS _,hb⟩ (fJ hh).1
 wr:=fun b hb hf=>by rw[h1]at hf;omega
 mono:=fun b hb _=>by rw[h1];exact .inl hb
 up:=fun _ _ b hb=>by rw[h2,dG,aPy,aD5];exact⟨fun h=>absurd h.2 (by simp;omega),rfl⟩
theorem kM{a:Nat}{iv:List (Nat × Nat × Nat)}{h:Hid}{b:Nat}(hh:hidden (others a iv h) b=false):
 hidden h b=false/\ ∀p ∈ iv,p.2.1<=b->b<p.2.2->bit a p.1=true:=by
 refine⟨?_,fun p hp h1 h2=>?_⟩
 . cases hc:hidden h b with
   |false=>rfl
   |true=>rw[(jO a h b iv).2 (.inr hc)]at hh;cases hh
 cases hc:bit a p.1 with
 |true=>rfl
 |false=>rw[(jO a h b iv).2 (.inl ⟨p,hp,hc,h1,h2⟩)]at hh;cases hh
theorem D7{a:Nat}{iv:List (Nat × Nat × Nat)}{h:Hid}{b n:Nat}(h1: ∀p ∈ iv,p.2.2<=n)(h2:hidden h b=false)(hb:n<=b):hidden (others a iv h) b=false:=by
 cases hc:hidden (others a iv h) b with
 |false=>rfl
 |true=>
  rcases(jO a h b iv).1 hc with⟨p,hp,_,_,h4⟩|h3
  . have:=h1 p hp;omega
  rw[h2]at h3;cases h3
theorem aHE{a:Nat}{d:Ds}{m:Md}(h1:(m.fl=d.s.n/\m.wr=.no)\/(m.fl=cx.fl/\m.wr=.all))(h2:m.hid=others a d.iv cx.hid)(h3:m.see=.all):Seen cx a d m where
 fl:=fun h=>by rcases h1 with⟨h1,_⟩|⟨h1,_⟩<;>rw[h1]<;>simp[h]
 hid:=fun b hb hh=>by
  rw[h2]at hh;exact⟨(kM hh).1,(kM hh).2,fun _=>.inl h3⟩
 wr:=fun b hb hf hh=>by
  rcases h1 with⟨h1,_⟩|⟨_,h1⟩
  . omega
  exact .inl h1
 mono:=fun b hb hor=>by
  rcases h1 with⟨h1,_⟩|⟨h1,_⟩
  . rw[h1];exact .inl hb
  rcases hor with h4|h4
  . rw[h1];exact .inl h4
  rw[h2];exact .inr ((jO _ _ _ _).2 (.inr h4))
 up:=fun h4 h5 b hb=>by rw[h2];exact D7 h4 (h5 b hb) hb
theorem XU{a c:Nat}{d:Ds}{m:Md}(h1:(m.fl=d.s.n/\m.wr=.no)\/(m.fl=cx.fl/\m.wr=.one c))(h2:m.hid=(0,c)::(c+1,d.s.n)::others a d.iv cx.hid)(h3:m.see=.one c)(hc:c<d.s.n):Seen cx a d m where
 fl:=fun h=>by rcases h1 with⟨h1,_⟩|⟨h1,_⟩<;>rw[h1]<;>simp[h]
 hid:=fun b hb hh=>by
  rw[h2]at hh;obtain⟨k1,k2⟩:=fJ hh;obtain⟨k3,k4⟩:=fJ k2;have:b=c:=by simp at k1 k3;omega
  subst this;exact⟨(kM k4).1,(kM k4).2,fun _=>.inr (.inl h3)⟩
 wr :=fun b hb hf hh=>by
  rcases h1 with⟨h1,_⟩|⟨_,h1⟩
  . omega
  rw[h2]at hh;obtain⟨k1,k2⟩:=fJ hh;obtain⟨k3,k4⟩:=fJ k2;have:b=c:=by simp at k1 k3;omega
  subst this;exact .inr (.inl h1)
 mono:=fun b hb hor=>by
  rcases h1 with⟨h1,_⟩|⟨h1,_⟩
  . rw[h1];exact .inl hb
  rcases hor with h4|h4
  . rw[h1];exact .inl h4
  rw[h2,dG,dG,(jO _ _ _ _).2 (.inr h4)];simp
 up:=fun h4 h5 b hb=>by
  rw[h2,dG,aPy,aD5,dG,aPy,aD5];exact⟨fun h=>absurd h.2 (by simp;omega),fun h=>absurd h.2 (by simp;omega),D7 h4 (h5 b hb) hb⟩
theorem XV{a:Nat}{ms:List Nat}{d:Ds}{m:Md}(h1:(m.fl=d.s.n/\m.wr=.no)\/(m.fl=cx.fl/\m.wr=.lst ms))(h2:m.hid=app (aJV ms [(cx.fl,d.s.n)]) (others a d.iv cx.hid))(h3:m.see=.lst ms):Seen cx a d m:=by
 have key: ∀b,b<d.s.n->cx.fl<=b->hidden m.hid b=false->b ∈ ms:=by
  intro b hb hf hh;rw[h2,uJ,aPy,FW,dG,aUv]at hh;rcases hh.1 with h|h
  . rw[aPy,aD5]at h;exact absurd ⟨hf,hb⟩ h.1
  rw[aD5]at h;exact aOr.1 h
 have ko: ∀b,hidden m.hid b=false->hidden (others a d.iv cx.hid) b=false:=by
  intro b hh;rw[h2,uJ,aPy]at hh;exact hh.2
 refine⟨fun h=>?_,fun b hb hh=>⟨(kM (ko b hh)).1,(kM (ko b hh)).2,fun hf=>.inr (.inr ⟨ms,h3,key b hb hf hh⟩)⟩,fun b hb hf hh=>?_,fun b hb hor=>?_,fun h4 h5 b hb=>?_⟩
 . rcases h1 with⟨h1,_⟩|⟨h1,_⟩<;>rw[h1]<;>simp[h]
 . rcases h1 with⟨h1,_⟩|⟨h0,h1⟩
   . omega
   exact .inr (.inr ⟨ms,h1,key b hb (h0 ▸ hf) hh⟩)
 . rcases h1 with⟨h1,_⟩|⟨h1,_⟩
   . rw[h1];exact .inl hb
   rcases hor with h4|h4
   . rw[h1];exact .inl h4
   rw[h2,uJ,(jO _ _ _ _).2 (.inr h4)];simp
 rw[h2,uJ,D7 h4 (h5 b hb) hb,aUz,FW,dG,aUv];refine .inl ?_;rw[aPy,aD5];exact⟨fun h=>absurd h.2 (by simp;omega),rfl⟩
structure aKT(tb:Tab)(call:dK)(cx:Cx)(N:Nat)(all:List Oper)(o:Oper)(i a:Nat)(d d':Ds)(m:Md):Prop where
 want:JK tb all d.t o=some (!m.skip)
 put:put N d.t o.dst m.v=some d'.t
 seen:Seen cx a d m
 run:(m.skip=true/\m.v=und/\d'.s=d.s/\d'.iv=d.iv/\d'.es=d.es/\m.fl=d.s.n/\m.hid=[(0,d.s.n)])\/
  (m.skip=false/\opv tb o.op call ⟨cx.g,cx.l,m.fl,m.hid⟩ d.t d.s=some (.ok m.v d'.s)/\free a m.see m.wr d.es=true/\
    d'.iv=(if d.s.n<d'.s.n then(i,d.s.n,d'.s.n)::d.iv else d.iv)/\d'.es=⟨i,m.see,m.wr⟩::d.es)
theorem aIt{β:Type}{r:R3}{k:AV->Hs->Option β}{x:β}(h:okR r k=some x): ∃v s,r=.ok v s/\k v s=some x:=by
 cases r with
 |ok v s=>exact⟨v,s,rfl,h⟩
 |dfr f xs=>cases h
theorem aAX{o:Oper}{i a:Nat}{d d':Ds}{fl:Nat}{hid:Hid}{see wr:See}(h:qJ tb call cx N o i a d fl hid see wr=some d'):
 ∃v,put N d.t o.dst v=some d'.t/\opv tb o.op call ⟨cx.g,cx.l,fl,hid⟩ d.t d.s=some (.ok v d'.s)/\free a see wr d.es=true/\
  d'.iv=(if d.s.n<d'.s.n then(i,d.s.n,d'.s.n)::d.iv else d.iv)/\d'.es=⟨i,see,wr⟩::d.es:=by
 obtain⟨h1,h2⟩:=aC.1 h;obtain⟨r,h3,h4⟩:=aA.1 h2;obtain⟨v,s',rfl,h5⟩:=aIt h4;obtain⟨t,h6,h7⟩:=aA.1 h5
 cases h7
 refine⟨v,h6,h3,h1,?_,rfl⟩;dsimp only
 cases hc:Nat.ble (d.s.n+1) s'.n with
 | true => have:d.s.n<s'.n:=aK.1 hc
           rw[aFV this]
 |false=>rw[aB9 (fun hh=>by rw[aK.2 hh]at hc;cases hc)]
theorem NW{β:Type}{t:TE}{a:Option Operand}{k:Nat->Option β}{r:β}(h:aAs tb t a k=some r): ∃b,k b=some r:=by
 obtain⟨x,_,h2⟩:=aA.1 h;obtain⟨y,_,h4⟩:=aA.1 h2;obtain⟨b,o,_,h5⟩:=fB h4;exact⟨b,h5⟩
theorem aAd{all:List Oper}{o:Oper}{i a:Nat}{d d':Ds}(h:aJN tb call cx N all o i a d=some d'): ∃m,aKT tb call cx N all o i a d d' m:=by
 obtain⟨w,h1,h2⟩:=aA.1 h
 cases w with
 |false=>
  obtain⟨t,h3,h4⟩:=aA.1 h2
  cases h4
  exact⟨⟨true,d.s.n,[(0,d.s.n)],.no,.no,und⟩,h1,h3,QW rfl rfl,.inl ⟨rfl,rfl,rfl,rfl,rfl,rfl,rfl⟩⟩
 | true=>
  have h3 :(Bool.rec (motive:=fun _=>Option Ds)
   (Bool.rec (motive:=fun _=>Option Ds)
     (Bool.rec (motive:=fun _=>Option Ds)
       (DF (ob (oD (sJ tb d.t) o.op.operands.toList) (fun xs=>(fun ms=>(fun h=>
         DF (qJ tb call cx N o i a d d.s.n h (.lst ms) .no) (qJ tb call cx N o i a d cx.fl h (.lst ms) (.lst ms)))
          (app (aJV ms [(cx.fl,d.s.n)]) (others a d.iv cx.hid))) (reach cx.fl d.s.h 200 (Q5 xs []) [])))
         (qJ tb call cx N o i a d cx.fl (others a d.iv cx.hid) .all .all))
       (aAs tb d.t (cls o.op).2 (fun b=>gd (Nat.ble (b+1) d.s.n) (qJ tb call cx N o i a d cx.fl ((0,b)::(b+1,d.s.n)::others a d.iv cx.hid) (.one b) (.one b))))
       (Nat.beq (cls o.op).1 2))
     (aAs tb d.t (cls o.op).2 (fun b=>gd (Nat.ble (b+1) d.s.n) (qJ tb call cx N o i a d d.s.n ((0,b)::(b+1,d.s.n)::others a d.iv cx.hid) (.one b) .no)))
     (Nat.beq (cls o.op).1 1))
   (qJ tb call cx N o i a d d.s.n [(0,d.s.n)] .no .no)
   (Nat.beq (cls o.op).1 0))=some d':=h2
  have fin: ∀fl hid see wr,qJ tb call cx N o i a d fl hid see wr=some d'->(∀v,Seen cx a d ⟨false,fl,hid,see,wr,v⟩)-> ∃m,aKT tb call cx N all o i a d d' m:=by
   intro fl hid see wr h4 h5;obtain⟨v,k1,k2,k3,k4,k5⟩:=aAX h4;exact⟨⟨false,fl,hid,see,wr,v⟩,h1,k1,h5 v,.inr ⟨rfl,k2,k3,k4,k5⟩⟩
  generalize hc0:Nat.beq (cls o.op).1 0=c0 at h3;generalize hc1:Nat.beq (cls o.op).1 1=c1 at h3;generalize hc2:Nat.beq (cls o.op).1 2=c2 at h3
  cases c0 with
  |true=>exact fin _ _ _ _ h3 fun v=>QW rfl rfl
  | false=>
   cases c1 with
   |true=>
    obtain⟨b,h4⟩:=NW h3;obtain⟨h5,h6⟩:=aC.1 h4;exact fin _ _ _ _ h6 fun v=>XU (.inl ⟨rfl,rfl⟩) rfl rfl (aK.1 h5)
   | false=>
    cases c2 with
    |true=>
     obtain⟨b,h4⟩:=NW h3;obtain⟨h5,h6⟩:=aC.1 h4;exact fin _ _ _ _ h6 fun v=>XU (.inr ⟨rfl,rfl⟩) rfl rfl (aK.1 h5)
    |false=>
     rcases dH h3 with h4|h4
     . obtain⟨xs,_,h5⟩:=aA.1 h4;rcases dH h5 with h6|h6
       . exact fin _ _ _ _ h6 fun v=>XV (.inl ⟨rfl,rfl⟩) rfl rfl
       exact fin _ _ _ _ h6 fun v=>XV (.inr ⟨rfl,rfl⟩) rfl rfl
     exact fin _ _ _ _ h4 fun v=>aHE (.inr ⟨rfl,rfl⟩) rfl rfl
theorem NJ(all:List Oper)(l:List Oper): ∀(a0t:List Nat) (i:Nat) (d d':Ds),aJO tb call cx N all l a0t i d=some d'->
 ∃(D:Nat->Ds) (M:Nat->Md),D i=d/\D (i+l.length)=d'/\l.length<=a0t.length/\
  ∀k o a,l[k]? =some o->a0t[k]? =some a->aKT tb call cx N all o (i+k) a (D (i+k)) (D (i+k+1)) (M (i+k)):=by
 induction l with
 |nil=>intro a0t i d d' h;cases h;exact⟨fun _=>d,fun _=>⟨true,0,[],.no,.no,und⟩,rfl,rfl,aKS _,fun k o a h=>by simp at h⟩
 | cons o l ih=>
  intro a0t i d d' h
  cases a0t with
  |nil=>cases h
  |cons a a0t=>
   obtain⟨d1,h1,h2⟩:=aA.1 h;obtain⟨m,h3⟩:=aAd h1;obtain⟨D,M,k1,k2,k3,k4⟩:=ih a0t (i+1) d1 d' h2;refine⟨fun k=>if k=i then d else D k,fun k=>if k=i then m else M k,by simp,?_,by simpa using k3,?_⟩
   . dsimp only;rw[aB9 (by simp),<-k2,aRU];congr 1;omega
   intro k o' a' ho ha;dsimp only
   cases k with
   |zero=>
    simp at ho ha;subst ho;subst ha;rw[aFV (by omega),aB9 (by omega),aFV (by omega)];simpa[k1]using h3
   |succ k=>
    rw[aB9 (by omega),aB9 (by omega),aB9 (by omega)];have:=k4 k o' a' (by simpa using ho) (by simpa using ha);rwa[show i+1+k=i+(k+1) by omega]at this
end
end Ev
end
section
open Go.RowKit
namespace Ev
theorem NY(n i:Nat):bit n i=n.testBit i:=by
 unfold bit;rw[Nat.testBit_eq_decide_div_mod_eq];have e1:Nat.land (Nat.shiftRight n i) 1=n / 2 ^ i % 2:=by
  show(n >>> i) &&& 1=_;rw[Nat.and_one_is_mod,Nat.shiftRight_eq_div_pow]
 rw[e1]
 by_cases h:n / 2 ^ i % 2=1
 . rw[h];rfl
 rw[aCw h]
 cases hb:Nat.beq (n / 2 ^ i % 2) 1 with
 |false=>rfl
 |true=>exact absurd (beq_iff.1 hb) h
theorem aDS(a b i:Nat):bit (Nat.lor a b) i=(bit a i||bit b i):=by
 rw[NY,NY,NY];exact Nat.testBit_or a b i
theorem aNi(a i:Nat):bit (Nat.pow 2 a) i=decide (a=i):=by rw[NY];exact Nat.testBit_two_pow
theorem aAt(i:Nat):bit 0 i=false:=by rw[NY];exact Nat.zero_testBit i
theorem aAC(acc:List Nat)(j:Nat)(after:List Edge):
 bit (List.rec (motive:=fun _=>Nat) 0 (fun e _ ih=>Bool.rec (motive:=fun _=>Nat) ih (Nat.lor ih (Nat.lor (Nat.pow 2 e.on) (Option.rec (motive:=fun _=>Nat) 0 (fun n=>n) (nth acc e.on)))) (binding e)) after) j=true↔
  ∃e ∈ after,binding e=true/\(j=e.on\/ ∃m,acc[e.on]? =some m/\bit m j=true):=by
 induction after with
 |nil=>exact⟨fun h=>(by rw[show bit _ j=bit 0 j from rfl,aAt]at h;cases h),fun⟨_,h,_⟩=>(by cases h)⟩
 | cons e l ih=>
  generalize hX:(List.rec (motive:=fun _=>Nat) 0 (fun e _ ih=>Bool.rec (motive:=fun _=>Nat) ih (Nat.lor ih (Nat.lor (Nat.pow 2 e.on) (Option.rec (motive:=fun _=>Nat) 0 (fun n=>n) (nth acc e.on)))) (binding e)) l)=X at ih;show bit (Bool.rec (motive:=fun _=>Nat) (List.rec (motive:=fun _=>Nat) 0 (fun e _ ih=>Bool.rec (motive:=fun _=>Nat) ih (Nat.lor ih (Nat.lor (Nat.pow 2 e.on) (Option.rec (motive:=fun _=>Nat) 0 (fun n=>n) (nth acc e.on)))) (binding e)) l) (Nat.lor (List.rec (motive:=fun _=>Nat) 0 (fun e _ ih=>Bool.rec (motive:=fun _=>Nat) ih (Nat.lor ih (Nat.lor (Nat.pow 2 e.on) (Option.rec (motive:=fun _=>Nat) 0 (fun n=>n) (nth acc e.on)))) (binding e)) l) (Nat.lor (Nat.pow 2 e.on) (Option.rec (motive:=fun _=>Nat) 0 (fun n=>n) (nth acc e.on)))) (binding e)) j=true↔_;rw[hX]
  cases hb:binding e with
  |false=>
   show bit X j=true↔_;rw[ih];constructor
   . rintro⟨x,h1,h2⟩;exact⟨x,aHg _ h1,h2⟩
   rintro⟨x,h1,h2,h3⟩;rcases aG4.1 h1 with rfl|h1
   . rw[hb]at h2;cases h2
   exact⟨x,h1,h2,h3⟩
  | true=>
   show bit (Nat.lor X (Nat.lor (Nat.pow 2 e.on) (Option.rec (motive:=fun _=>Nat) 0 (fun n=>n) (nth acc e.on)))) j=true↔_;rw[aDS,aDS,aNi,aJj,aJj,aNo,ih,pG];have aWl:bit (Option.rec (motive:=fun _=>Nat) 0 (fun n=>n) acc[e.on]?) j=true↔ ∃m,acc[e.on]? =some m/\bit m j=true:=by
    cases acc[e.on]? with
    |none=>exact⟨fun h=>(by rw[show bit _ j=bit 0 j from rfl,aAt]at h;cases h),fun⟨_,h,_⟩=>(by cases h)⟩
    |some m=>exact⟨fun h=>⟨m,rfl,h⟩,fun⟨_,h,h'⟩=>by cases h;exact h'⟩
   rw[aWl];constructor
   . rintro(⟨x,h1,h2⟩|h1|h1)
     . exact⟨x,aHg _ h1,h2⟩
     . exact⟨e,aG1,hb,.inl h1.symm⟩
     exact⟨e,aG1,hb,.inr h1⟩
   rintro⟨x,h1,h2,h3⟩;rcases aG4.1 h1 with rfl|h1
   . rcases h3 with h3|h3
     . exact .inr (.inl h3.symm)
     exact .inr (.inr h3)
   exact .inl ⟨x,h1,h2,h3⟩
theorem S9: ∀(l:List Oper) (acc:List Nat),∃r,kU l acc=acc++r/\r.length=l.length/\ ∀k o,l[k]? =some o->r[k]? =some (aKg (acc++r.take k) o):=by
 intro l
 induction l with
 |nil=>intro acc;exact⟨[],(aSJ _).symm,rfl,fun k o h=>by simp at h⟩
 |cons o l ih=>
  intro acc;obtain⟨r,h1,h2,h3⟩:=ih (app acc [aKg acc o]);refine⟨aKg acc o::r,?_,by simp[h2],fun k x hx=>?_⟩
  . show kU l (app acc [aKg acc o])=_;rw[h1,jR,aS0];rfl
  cases k with
  |zero=>simp at hx;subst hx;simp
  |succ k=>
   have:=h3 k x (by simpa using hx);rw[jR,aS0]at this;simpa using this
def An(a0t:List Nat)(i j:Nat):Prop:= ∃a,a0t[i]? =some a/\bit a j=true
theorem qQ: ∀(l:List Oper) (i:Nat),backOk l i=true-> ∀k o,l[k]? =some o-> ∀e ∈ o.after.toList,binding e=true->e.on<i+k:=by
 intro l
 induction l with
 |nil=>intro i _ k o h;simp at h
 | cons x l ih=>
  intro i h k o ho e he hb;change band (allB (fun e=>bor (lG (binding e)) (Nat.ble (e.on+1) i)) x.after.toList) (backOk l (i+1))=true at h;rw[dI,aFU,JD]at h
  cases k with
  |zero=>
   simp at ho;subst ho;have:=aJL.1 h.1 e he;rw[EU,jC,hb]at this;have:=aK.1 (by simpa using this);omega
  |succ k=>have:=ih (i+1) h.2 k o (by simpa using ho) e he hb;omega
theorem N8{ops:Array Oper}(hb:backOk ops.toList 0=true){i j:Nat}{o:Oper}(ho:ops[i]? =some o):
 An (kU ops.toList []) i j↔ ∃e ∈ o.after.toList,binding e=true/\(j=e.on\/An (kU ops.toList []) e.on j):=by
 obtain⟨r,h1,h2,h3⟩:=S9 ops.toList [];rw[aU6]at h1;rw[h1];have ho':ops.toList[i]? =some o:=by rw[aGY];exact ho
 have h4:=h3 i o ho';have hback:=qQ _ _ hb i o ho';rw[aU6]at h4;unfold An;constructor
 . rintro⟨a,h5,h6⟩;rw[h4]at h5;cases h5;obtain⟨e,k1,k2,k3⟩:=(aAC (r.take i) j o.after.toList).1 h6;refine⟨e,k1,k2,k3.imp id ?_⟩;rintro⟨m,k4,k5⟩;rw[List.getElem?_take]at k4
   split at k4
   . exact⟨m,k4,k5⟩
   cases k4
 rintro⟨e,k1,k2,k3⟩;refine⟨_,h4,(aAC (r.take i) j o.after.toList).2 ⟨e,k1,k2,k3.imp id ?_⟩⟩;rintro⟨m,k4,k5⟩;have:=hback e k1 k2;refine⟨m,?_,k5⟩;rw[List.getElem?_take,aFV (by omega)];exact k4
theorem aKc(ops:Array Oper):(kU ops.toList []).length=ops.size:=by
 obtain⟨r,h1,h2,_⟩:=S9 ops.toList [];rw[aU6]at h1;rw[h1,h2,aJm]
theorem aKj{ops:Array Oper}{i j:Nat}(h:An (kU ops.toList []) i j): ∃o,ops[i]? =some o:=by
 obtain⟨a,h1,_⟩:=h;have:i<ops.size:=by
  rw[<-aKc];rcases aLb i (kU ops.toList []).length with h|h
  . exact h
  rw[aRG h]at h1;cases h1
 exact⟨_,aLd this⟩
theorem aKi{ops:Array Oper}(hb:backOk ops.toList 0=true): ∀(i j:Nat),An (kU ops.toList []) i j->j<i:=by
 intro i
 induction i using Nat.strongRecOn with
 |ind i ih=>
  intro j h;obtain⟨o,ho⟩:=aKj h;obtain⟨e,k1,k2,k3⟩:=(N8 hb ho).1 h;have:=qQ _ _ hb i o (by rw[aGY];exact ho) e k1 k2;rcases k3 with rfl|k3
  . omega
  have:=ih e.on (by omega) j k3;omega
theorem aKh{ops:Array Oper}(hb:backOk ops.toList 0=true): ∀(i j k:Nat),An (kU ops.toList []) i j->An (kU ops.toList []) j k->An (kU ops.toList []) i k:=by
 intro i
 induction i using Nat.strongRecOn with
 |ind i ih=>
  intro j k h h';obtain⟨o,ho⟩:=aKj h;obtain⟨e,k1,k2,k3⟩:=(N8 hb ho).1 h;have:=qQ _ _ hb i o (by rw[aGY];exact ho) e k1 k2;rcases k3 with rfl|k3
  . exact(N8 hb ho).2 ⟨e,k1,k2,.inr h'⟩
  exact(N8 hb ho).2 ⟨e,k1,k2,.inr (ih e.on (by omega) j k k3 h')⟩
theorem aEq{ops:Array Oper}{i:Nat}{o:Oper}: ∀(l:List Oper) (a0t:List Nat),aLN ops i o l a0t=true-> ∀(y:Nat) (p:Oper) (a:Nat),l[y]? =some p->a0t[y]? =some a->o.apart ops p=true\/bit a i=true:=by
 intro l
 induction l with
 |nil=>intro a0t _ y p a h;simp at h
 | cons p l ih=>
  intro a0t h y q a hq ha
  cases a0t with
  |nil=>cases h
  |cons b a0t=>
   change band (bor (o.apart ops p) (bit b i)) (aLN ops i o l a0t)=true at h;rw[dI,aFU,EU,aJj]at h
   cases y with
   |zero=>simp at hq ha;subst hq;subst ha;exact h.1
   |succ y=>exact ih a0t h.2 y q a (by simpa using hq) (by simpa using ha)
theorem aHt{ops:Array Oper}: ∀(l:List Oper) (i:Nat) (a0t:List Nat),tOk ops l i a0t=true-> ∀(x y:Nat) (o p:Oper) (a:Nat),x<y->l[x]? =some o->l[y]? =some p->a0t[y]? =some a->o.apart ops p=true\/bit a (i+x)=true:=by
 intro l
 induction l with
 |nil=>intro i a0t _ x y o p a _ h;simp at h
 | cons q l ih=>
  intro i a0t h x y o p a hxy ho hp ha
  cases a0t with
  |nil=>cases h
  | cons b a0t=>
   change band (aLN ops i q l a0t) (tOk ops l (i+1) a0t)=true at h;rw[dI,aFU]at h
   cases y with
   |zero=>omega
   | succ y=>
    cases x with
    |zero=>simp at ho;subst ho;exact aEq l a0t h.1 y p a (by simpa using hp) (by simpa using ha)
    |succ x=>
     have:=ih (i+1) a0t h.2 x y o p a (by omega) (by simpa using ho) (by simpa using hp) (by simpa using ha);rwa[show i+1+x=i+(x+1) by omega]at this
end Ev
end
section
open Go.RowKit
namespace Ev
structure Run(tb:Tab)(call:dK)(cx:Cx)(N:Nat)(ops:Array Oper)(D:Nat->Ds)(M:Nat->Md):Prop where
 at_: ∀k o a,ops[k]? =some o->(kU ops.toList [])[k]? =some a->aKT tb call cx N ops.toList o k a (D k) (D (k+1)) (M k)
 iv0:(D 0).iv=[]
 es0:(D 0).es=[]
 y8:cx.fl<=(D 0).s.n
 rD: ∀b,(D 0).s.n<=b->hidden cx.hid b=false
 back:backOk ops.toList 0=true
 tok:tOk ops ops.toList 0 (kU ops.toList [])=true
 fr:fO call
def Wr(D:Nat->Ds)(M:Nat->Md)(k b:Nat):Prop:=((D k).s.n<=b/\b<(D (k+1)).s.n)\/(b<(D k).s.n/\(M k).fl<=b/\hidden (M k).hid b=false)
def Vi(D:Nat->Ds)(M:Nat->Md)(k b:Nat):Prop:=b<(D k).s.n/\hidden (M k).hid b=false
section
variable{tb:Tab}{call:dK}{cx:Cx}{N:Nat}{ops:Array Oper}{D:Nat->Ds}{M:Nat->Md}(hR:Run tb call cx N ops D M)
include hR
theorem Run.at'{k:Nat}(hk:k<ops.size): ∃o a,ops[k]? =some o/\(kU ops.toList [])[k]? =some a/\aKT tb call cx N ops.toList o k a (D k) (D (k+1)) (M k):=by
 have h1:ops[k]? =some ops[k]:=aLd hk;have h2:k<(kU ops.toList []).length:=by rw[aKc];exact hk
 exact⟨_,_,h1,aGX h2,hR.at_ k _ _ h1 (aGX h2)⟩
theorem Run.fq{k:Nat}(hk:k<ops.size):Fq (M k).fl (M k).hid (D k).s (D (k+1)).s:=by
 obtain⟨o,a,h1,h2,h3⟩:=hR.at' hk;rcases h3.run with⟨_,_,h4,_⟩|⟨_,h4,_⟩
 . rw[h4];exact Fq.refl _ _ _
 exact aH3 (cx:=⟨cx.g,cx.l,(M k).fl,(M k).hid⟩) hR.fr o.op _ _ h4
theorem Run.aIP{k:Nat}(hk:k<ops.size):(D k).s.n<=(D (k+1)).s.n:=(hR.fq hk).1
theorem Run.mono{k k':Nat}(hk:k<=k')(hk':k'<=ops.size):(D k).s.n<=(D k').s.n:=by
 obtain⟨j,rfl⟩:=aUW hk;clear hk
 induction j with
 |zero=>exact aCU _
 |succ j ih=>exact aI6 (ih (by omega)) (hR.aIP (k:=k+j) (by omega))
theorem Run.iv {k:Nat} (hk:k<=ops.size):(∀p ∈ (D k).iv,∃j,j<k/\p=(j,(D j).s.n,(D (j+1)).s.n))/\ ∀j,j<k->(D j).s.n<(D (j+1)).s.n->(j,(D j).s.n,(D (j+1)).s.n) ∈ (D k).iv:=by
 induction k with
 |zero=>rw[hR.iv0];exact⟨fun p h=>(by cases h),fun j h=>(by omega)⟩
 | succ k ih=>
  obtain⟨i1,i2⟩:=ih (by omega);obtain⟨o,a,h1,h2,h3⟩:=hR.at' (k:=k) (by omega);rcases h3.run with⟨_,_,h4,h5,_⟩|⟨_,_,_,h5,_⟩
  . rw[h5];refine⟨fun p hp=>?_,fun j hj hlt=>?_⟩
    . obtain⟨j,h6,h7⟩:=i1 p hp;exact⟨j,by omega,h7⟩
    by_cases e:j=k
    . subst e;rw[h4]at hlt;omega
    exact i2 j (by omega) hlt
  rw [h5]
  by_cases hlt:(D k).s.n<(D (k+1)).s.n
  . rw[aFV hlt];refine⟨fun p hp=>?_,fun j hj hlt=>?_⟩
    . rcases aG4.1 hp with rfl|hp
      . exact⟨k,by omega,rfl⟩
      obtain⟨j,h6,h7⟩:=i1 p hp;exact⟨j,by omega,h7⟩
    by_cases e:j=k
    . subst e;exact aG1
    exact aHg _ (i2 j (by omega) hlt)
  rw[aB9 hlt];refine⟨fun p hp=>?_,fun j hj hlt'=>?_⟩
  . obtain⟨j,h6,h7⟩:=i1 p hp;exact⟨j,by omega,h7⟩
  by_cases e:j=k
  . subst e;exact absurd hlt' hlt
  exact i2 j (by omega) hlt'
theorem Run.es{k:Nat}(hk:k<=ops.size): ∀j,j<k->(M j).skip=false->(⟨j,(M j).see,(M j).wr⟩:En) ∈ (D k).es:=by
 induction k with
 |zero=>intro j h;omega
 |succ k ih=>
  intro j hj hs;obtain⟨o,a,h1,h2,h3⟩:=hR.at' (k:=k) (by omega);rcases h3.run with⟨h4,_,_,_,h5,_⟩|⟨_,_,_,_,h5⟩
  . rw[h5]
    by_cases e:j=k
    . subst e;rw[h4]at hs;cases hs
    exact ih (by omega) j (by omega) hs
  rw[h5]
  by_cases e:j=k
  . subst e;exact aG1
  exact aHg _ (ih (by omega) j (by omega) hs)
theorem Run.flk{k:Nat}(hk:k<ops.size):cx.fl<=(M k).fl/\(M k).fl<=(D k).s.n:=by
 obtain⟨o,a,h1,h2,h3⟩:=hR.at' hk;exact h3.seen.fl (aI6 hR.y8 (hR.mono (aKS _) (by omega)))
theorem Run.aC4{k b:Nat}(hk:k<ops.size)(hv:Vi D M k b):(M k).skip=false:=by
 obtain⟨o,a,h1,h2,h3⟩:=hR.at' hk;rcases h3.run with⟨_,_,_,_,_,_,h4⟩|⟨h4,_⟩
 . have h5:=hv.2;rw[h4]at h5;exact absurd ⟨aKS _,hv.1⟩ (fJ h5).1
 exact h4
theorem Run.upk{k:Nat}(hk:k<ops.size){b:Nat}(hb:(D k).s.n<=b):hidden (M k).hid b=false:=by
 obtain⟨o,a,h1,h2,h3⟩:=hR.at' hk;refine h3.seen.up (fun p hp=>?_) (fun c hc=>hR.rD c (aI6 (hR.mono (aKS _) (by omega)) hc)) b hb;obtain⟨j,h4,rfl⟩:=(hR.iv (aRF hk)).1 p hp;exact hR.mono (k:=j+1) (by omega) (by omega)
theorem free_spec{a:Nat}{see wr:See}{l:List En}(h:free a see wr l=true){e:En}(he:e ∈ l)(hm:meets e.wr see=true\/meets wr e.see=true):bit a e.i=true:=by
 unfold free at h;rw[JD]at h;have:=aJL.1 h e he;rw[EU,jC,EU]at this;rcases hm with hm|hm<;>simpa[hm]using this
theorem Run.f1{i j b:Nat}(hij:i<j)(hj:j<ops.size)(hw:Wr D M i b)(hv:Vi D M j b):An (kU ops.toList []) j i:=by
 obtain⟨o,a,h1,h2,h3⟩:=hR.at' hj;obtain⟨_,s2,s3⟩:=h3.seen.hid b hv.1 hv.2;refine⟨a,h2,?_⟩;rcases hw with⟨w1,w2⟩|⟨w1,w2,w3⟩
 . exact s2 _ ((hR.iv (aRF hj)).2 i hij (Nat.lt_of_le_of_lt w1 w2)) w1 w2
 have ns:=hR.aC4 hj hv;have ni:=hR.aC4 (k:=i) (by omega) ⟨w1,w3⟩;rcases h3.run with⟨h4,_⟩|⟨_,_,h4,_⟩
 . rw[ns]at h4;cases h4
 obtain⟨o',a',q1,q2,q3⟩:=hR.at' (k:=i) (by omega);exact free_spec hR h4 (hR.es (aRF hj) i hij ni) (.inl (ZH (q3.seen.wr b w1 w2 w3) (s3 (aI6 (hR.flk (k:=i) (by omega)).1 w2))))
theorem Run.f2{i j b:Nat}(hij:i<j)(hj:j<ops.size)(hv:Vi D M i b)(hw:Wr D M j b):An (kU ops.toList []) j i:=by
 obtain⟨o,a,h1,h2,h3⟩:=hR.at' hj;have hm:=hR.mono (k:=i) (k':=j) (by omega) (by omega);have hb:=hv.1;refine⟨a,h2,?_⟩;rcases hw with⟨w1,w2⟩|⟨w1,w2,w3⟩
 . omega
 have ns:=hR.aC4 hj ⟨w1,w3⟩;have ni:=hR.aC4 (k:=i) (by omega) hv;rcases h3.run with⟨h4,_⟩|⟨_,_,h4,_⟩
 . rw[ns]at h4;cases h4
 obtain⟨o',a',q1,q2,q3⟩:=hR.at' (k:=i) (by omega);exact free_spec hR h4 (hR.es (aRF hj) i hij ni) (.inr (ZH (h3.seen.wr b w1 w2 w3) ((q3.seen.hid b hv.1 hv.2).2.2 (aI6 (hR.flk hj).1 w2))))
theorem Run.f3{i j b:Nat}(hij:i<j)(hj:j<ops.size)(hw:Wr D M i b)(hw':Wr D M j b):An (kU ops.toList []) j i:=by
 rcases hw' with⟨w1,w2⟩|⟨w1,w2,w3⟩
 . have:=hR.mono (k:=i+1) (k':=j) (by omega) (by omega);have:=hR.mono (k:=i) (k':=j) (by omega) (by omega);rcases hw with⟨v1,v2⟩|⟨v1,v2⟩<;>omega
 exact hR.f1 hij hj hw ⟨w1,w3⟩
theorem Run.vis{k b:Nat}(hk:k<ops.size)(hv:Vi D M k b):hidden cx.hid b=false:=by
 obtain⟨o,a,h1,h2,h3⟩:=hR.at' hk;exact(h3.seen.hid b hv.1 hv.2).1
theorem Run.wis{k b:Nat}(hk:k<ops.size)(hw:Wr D M k b):hidden cx.hid b=false/\cx.fl<=b/\hidden (M k).hid b=false/\(M k).fl<=b/\b<(D (k+1)).s.n:=by
 have h1:=hR.flk hk;have h2:=hR.mono (k:=0) (k':=k) (aKS _) (by omega);have h3:=hR.aIP hk;rcases hw with⟨w1,w2⟩|⟨w1,w2,w3⟩
 . exact⟨hR.rD b (by omega),by omega,hR.upk hk w1,by omega,w2⟩
 exact⟨hR.vis hk ⟨w1,w3⟩,by omega,w3,w2,by omega⟩
theorem Run.keep{k k' b:Nat}(hk:k<=k')(hk':k'<=ops.size)(hb:b<(D k).s.n)(hn: ∀j,k<=j->j<k'-> ¬Wr D M j b):(D k').s.h.get b=(D k).s.h.get b:=by
 obtain⟨d,rfl⟩:=aUW hk;clear hk
 induction d with
 |zero=>rfl
 |succ d ih=>
  rw[<-ih (by omega) (fun j h1 h2=>hn j h1 (by omega))];have hlt:=hR.mono (k:=k) (k':=k+d) (by omega) (by omega);refine(hR.fq (k:=k+d) (by omega)).2.1 b (by omega) ?_;have:=hn (k+d) (by omega) (by omega);rcases aLb b (M (k+d)).fl with h|h
  . exact .inl h
  cases hc:hidden (M (k+d)).hid b with
  |true=>exact .inr rfl
  |false=>exact absurd (.inr ⟨by omega,h,hc⟩) this
theorem Run.above{k b:Nat}{o:HO}(hk:k<=ops.size)(hb:(D k).s.n<=b)(ho:(D k).s.h.get b=some o): ∃o',(D 0).s.h.get b=some o':=by
 induction k generalizing o with
 |zero=>exact⟨o,ho⟩
 |succ k ih=>
  obtain⟨o1,h1⟩:=(hR.fq (k:=k) (by omega)).2.2 b o hb ho;exact ih (by omega) (aI6 (hR.aIP (k:=k) (by omega)) hb) h1
theorem Run.aPj{k t:Nat}(hk:k<ops.size)(hn: ∀o,ops[k]? =some o->o.dst≠some t):nU (D (k+1)).t t=nU (D k).t t:=by
 obtain⟨o,a,h1,h2,h3⟩:=hR.at' hk;rcases KZ h3.put with⟨_,h4⟩|⟨j,h4,_,h5⟩
 . rw[h4]
 rw[h5];exact nT _ _ (fun e=>hn o h1 (by rw[h4,e]))
theorem Run.aOd{k k' t:Nat}(hk:k<=k')(hk':k'<=ops.size)(hn: ∀j,k<=j->j<k'-> ∀o,ops[j]? =some o->o.dst≠some t):nU (D k').t t=nU (D k).t t:=by
 obtain⟨d,rfl⟩:=aUW hk;clear hk
 induction d with
 |zero=>rfl
 |succ d ih=>
  rw[<-ih (by omega) (fun j h1 h2=>hn j h1 (by omega))];exact hR.aPj (k:=k+d) (by omega) (hn (k+d) (by omega) (by omega))
theorem Run.aVx{k t:Nat}{o:Oper}(hk:k<ops.size)(ho:ops[k]? =some o)(hd:o.dst=some t):nU (D (k+1)).t t=some (M k).v/\t<N:=by
 obtain⟨o',a,h1,h2,h3⟩:=hR.at' hk;rw[ho]at h1;cases h1;rcases KZ h3.put with⟨h4,_⟩|⟨j,h4,h5,h6⟩
 . rw[hd]at h4;cases h4
 rw[hd]at h4;cases h4;rw[h6];exact⟨wL _ _ _,h5⟩
theorem Run.t1{i j:Nat}{o p:Oper}(hij:i<j)(ho:ops[i]? =some o)(hp:ops[j]? =some p)(hap:o.apart ops p=false):An (kU ops.toList []) j i:=by
 have hj:j<ops.size:=by
  rcases aLb j ops.size with h|h
  . exact h
  rw[aKY h]at hp;cases hp
 obtain⟨p',a,h1,h2,_⟩:=hR.at' hj;rcases aHt _ _ _ hR.tok i j o p a hij (by rw[aGY];exact ho) (by rw[aGY];exact hp) h2 with h3|h3
 . rw[h3]at hap;cases hap
 rw[aJU]at h3;exact⟨a,h2,h3⟩
end
end Ev
end
section
open Go.RowKit
namespace Ev
def nO(ρ ρ':Env)(b:Nat):Prop:=ρ'.blk b=ρ.blk b/\ρ'.off b=ρ.off b/\ρ'.cp b=ρ.cp b
mutual
theorem zJ{G G':Gh}{n n':Nat}(h: ∀b,@Gd G n b->@Gd G' n' b):(x:AV)->@Sc G n x->@Sc G' n' x
 | .v _,_=>trivial
 | .ptr b off,hs=>h b hs
 | .sl b _ _ _,hs=>h b hs
 | .DV b _ _ _,hs=>h b hs
 | .fn _ first caps,hs=>⟨mZ h first hs.1,mZ h caps hs.2⟩
 | .y7 _ x,hs=>zJ h x hs
 | .agg l,hs=>mZ h l hs
 | .aS l,hs=>mZ h l hs
 | .mp b,hs=>h b hs
theorem mZ{G G':Gh}{n n':Nat}(h: ∀b,@Gd G n b->@Gd G' n' b):(l:List AV)->@iH G n l->@iH G' n' l
 |[],_=>trivial
 |x::l,hs=>⟨zJ h x hs.1,mZ h l hs.2⟩
end
mutual
theorem EO{G:Gh}{n:Nat}{ρ ρ':Env}(h: ∀b,@Gd G n b->nO ρ ρ' b):(x:AV)->@Sc G n x->den ρ' x=den ρ x
 | .v _,_=>rfl
 | .ptr b off,hs=>by simp only[den,(h b hs).1,(h b hs).2.1]
 | .sl b _ _ _,hs=>by simp only[den,(h b hs).1,(h b hs).2.1]
 | .DV b _ _ _,hs=>by simp only[den,Env.cap,(h b hs).1,(h b hs).2.1,(h b hs).2.2]
 | .fn _ first caps,hs=>by simp only[den,yE h first hs.1,yE h caps hs.2]
 | .y7 _ x,hs=>by simp only[den,EO h x hs]
 | .agg l,hs=>by simp only[den,yE h l hs]
 | .aS l,hs=>by simp only[den,yE h l hs]
 | .mp b,hs=>by simp only[den,(h b hs).2.2]
theorem yE{G:Gh}{n:Nat}{ρ ρ':Env}(h: ∀b,@Gd G n b->nO ρ ρ' b):(l:List AV)->@iH G n l->jI ρ' l=jI ρ l
 |[],_=>rfl
 |x::l,hs=>by simp only[jI,EO h x hs.1,yE h l hs.2]
end
theorem wI{G G':Gh}{n n' b:Nat}{ρ ρ':Env}{w w':World}{o:HO}(h:@HO.Holds G ρ n b w o)(hi: ∀b,@Gd G n b->@Gd G' n' b)(he: ∀b,@Gd G n b->nO ρ ρ' b)
 (hb:nO ρ ρ' b) (hw:w'.heap[ρ.blk b]? =w.heap[ρ.blk b]?):@HO.Holds G' ρ' n' b w' o:=by
 have hden: ∀l:List AV,@iH G n l->l.map (den ρ')=l.map (den ρ):=fun l hl=>by rw[<-dD,<-dD];exact yE he l hl
 cases o with
 |ro cells=>
  obtain⟨⟨x,h1⟩,h2,h3⟩:=h;refine⟨⟨x,by rw[hb.1,hw];exact h1⟩,fun i x hx=>?_,mZ hi _ h3⟩;have hd:den ρ' x=den ρ x:=EO he x ((@bI G _ _).1 h3 x (aOt hx));rw[hd,<-h2 i x hx,hb.1,hb.2.1];simp only[World.cell?,hw]
 |row cells el=>
  obtain⟨h0,c,fr,h1,h2,h3,h4⟩:=h;exact⟨by rw[hb.2.1];exact h0,c,fr,by rw[hb.1,hw];exact h1,h2,by rw[hden _ h4];exact h3,mZ hi _ h4⟩
 |mJ cells es el=>
  obtain⟨h0,h00,c,fr,h1,h2,h3,⟨rest,h4⟩,h5⟩:=h;exact⟨by rw[hb.2.1];exact h0,h00,c,fr,by rw[hb.1,hw];exact h1,h2,by unfold Env.cap;rw[hb.2.2];exact h3,⟨rest,by rw[hden _ h5];exact h4⟩,mZ hi _ h5⟩
 |iter s pos=>exact⟨by rw[hb.2.1];exact h.1,by rw[hb.1,hw];exact h.2⟩
 |lp st jm N t ps a0t bd d=>
  obtain⟨h0,r,h1,⟨h2,h3,h4,h5,h6,h7⟩,h8,h9,h10⟩:=h;refine⟨by rw[hb.2.1];exact h0,r,by rw[hb.1,hw];exact h1,⟨h2,h3,h4,h5,h6,by rw[(he d h8).1];exact h7⟩,hi d h8,h9,fun i v hv=>?_⟩;obtain⟨k1,k2,k3⟩:=h10 i v hv;exact⟨zJ hi _ k1,k2,by rw[EO he _ k1];exact k3⟩
 |df=>exact⟨by rw[hb.2.1];exact h.1,by rw[hb.1,hw];exact h.2⟩
 |mpo ks vs=>
  obtain⟨h0,ms,clk,h1,h2,h3,h4,h5⟩:=h;exact⟨by rw[hb.2.1];exact h0,ms,clk,by rw[hb.1,hw];exact h1,by rw[hden _ h4];exact h2,by rw[hden _ h5];exact h3,mZ hi _ h4,mZ hi _ h5⟩
section
variable(G0:Gh)(w0 ws:World)(cx:Cx)(N:Nat)(ops:Array Oper)(D:Nat->Ds)(M:Nat->Md)(ρ0:Env)(ds:List Deferred)
def Iv(j b:Nat):Prop:=(D j).s.n<=b/\b<(D (j+1)).s.n
def Sj(j b:Nat):Prop:= ∃j',(j'=j\/An (kU ops.toList []) j j')/\Iv D j' b
def Old(b:Nat):Prop:=b<(D 0).s.n/\ ¬G0.bad b
def wrT(j t:Nat):Prop:= ∃o,ops[j]? =some o/\o.dst=some t
@[instance_reducible] def GT(t k:Nat):Gh:=⟨fun b=> ¬(Old G0 D b\/ ∃j,j<k/\wrT ops j t/\Sj ops D j b)⟩
@[instance_reducible] def GM(c k:Nat):Gh:=⟨fun b=> ¬(Old G0 D b\/ ∃j,j<k/\Wr D M j c/\Sj ops D j b)⟩
@[instance_reducible] def GI(i:Nat):Gh:=⟨fun b=>G0.bad b\/((D 0).s.n<=b/\b<(D i).s.n/\ ¬ ∃j,An (kU ops.toList []) i j/\Iv D j b)⟩
variable(Dn:Nat->Prop)
def CT(t k:Nat):Prop:=(∀j,j<k->wrT ops j t->Dn j)/\ ∀j,k<=j->wrT ops j t-> ¬Dn j
def CM(b k:Nat):Prop:=(∀j,j<k->Wr D M j b->Dn j)/\ ∀j,k<=j->j<ops.size->Wr D M j b-> ¬Dn j
def Live(b k:Nat)(o:HO):Prop:=k<=ops.size/\CM ops D M Dn b k/\hidden cx.hid b=false/\(D k).s.h.get b=some o
structure Inv(ρ:Env)(w:World)(a:Act):Prop where
 size:a.tmps.size=N
 defers:a.defers=ds
 ext:Ext (D 0).s.n ρ0 ρ
 below:Below w0.heap.size w0 w
 tmp: ∀t k v,k<=ops.size->CT ops Dn t k->nU (D k).t t=some v->t<N/\a.tmps[t]? =some (den ρ v)/\@Sc (GT G0 ops D t k) (D ops.size).s.n v
 obj: ∀b k o,Live cx ops D M Dn b k o->b<(D k).s.n/\@HO.Holds (GM G0 ops D M b k) ρ (D ops.size).s.n b w o/\(cx.l<=b->w0.heap.size<=ρ.blk b)/\(b<cx.l->ρ.blk b<w0.heap.size)
 inj: ∀b b' k k' o o',Live cx ops D M Dn b k o->Live cx ops D M Dn b' k' o'->cx.l<=b->cx.l<=b'->ρ.blk b=ρ.blk b'->b=b'
 fr:Fr ρ0 cx (D 0).s ws w
 new: ∀b k o,Live cx ops D M Dn b k o->cx.fl<=b->ws.heap.size<=ρ.blk b\/ ∃b0 o0,cx.fl<=b0/\(D 0).s.look cx.hid b0=some o0/\ρ0.blk b0=ρ.blk b
end
theorem XD{all:List Oper}{ops:Array Oper}{o:Oper}{b:Bool}{tb:Tab}{ρ:Env}{a:Act}{t:TE}(hF:CZ tb)(hρ:Lv tb ρ)(hall:all=ops.toList)(h:JK tb all t o=some b)
 (ht: ∀d v,d ∈ o.looksAt ops->nU t d=some v->a.tmps[d]? =some (den ρ v)):Region.wanted o (yielded ops a.tmps)=b:=by
 subst hall;unfold JK at h;unfold Region.wanted
 cases hg:o.guard with
 |none=>rw[hg]at h;cases h;rfl
 |some p=>
  rw[hg]at h;obtain⟨j,want⟩:=p;obtain⟨g,h1,h2⟩:=aA.1 h;obtain⟨d,h3,h4⟩:=aA.1 h2;obtain⟨x,h5,h6⟩:=aA.1 h4;obtain⟨u,hu,h7⟩:=fQ h6;rw[pG,aGY]at h1;have h8:=ht d _ (by simp[Oper.looksAt,hg,h1,h3]) h5;rw[<-aDl hF hρ,hu]at h8;have:=RX h7;simp only[yielded,h1,h3,aWd,h8,den]
  cases u<;>exact this
end Ev
end
section
open Go.RowKit
namespace Ev
section
variable{G0:Gh}{w0 ws:World}{tb:Tab}{call:dK}{cx:Cx}{N:Nat}{ops:Array Oper}{D:Nat->Ds}{M:Nat->Md}{ρ0 ρ:Env}{ds:List Deferred}{Dn:Nat->Prop}{w:World}{a:Act}{i:Nat}{o:Oper}
structure Now(tb:Tab)(call:dK)(G0:Gh)(w0 ws:World)(cx:Cx)(N:Nat)(ops:Array Oper)(D:Nat->Ds)(M:Nat->Md)(ρ0:Env)(ds:List Deferred)(Dn:Nat->Prop)(ρ:Env)(w:World)(a:Act)(i:Nat)(o:Oper):Prop where
 run:Run tb call cx N ops D M
 ini:@aO G0 w0 ρ0 cx (D 0).s ws
 inv:Inv G0 w0 ws cx N ops D M ρ0 ds Dn ρ w a
 get:ops[i]? =some o
 nd: ¬Dn i
 anc: ∀j,An (kU ops.toList []) i j->Dn j
 cl: ∀j k,Dn j->An (kU ops.toList []) j k->Dn k
variable(h:Now tb call G0 w0 ws cx N ops D M ρ0 ds Dn ρ w a i o)
include h
theorem Now.lt:i<ops.size:=by
 rcases aLb i ops.size with h1|h1
 . exact h1
 have:=h.get;rw[aKY h1]at this;cases this
theorem Now.ct{t:Nat}(h1: ∀(j:Nat) (p:Oper),j<i->ops[j]? =some p->p.dst=some t->p.apart ops o=false)(h2: ∀(j:Nat) (p:Oper),i<j->ops[j]? =some p->p.dst=some t->o.apart ops p=false):CT ops Dn t i:=by
 refine⟨fun j hj ⟨p,hp,hd⟩=>?_,fun j hj ⟨p,hp,hd⟩ hn=>?_⟩
 . exact h.anc j (h.run.t1 hj hp h.get (h1 j p hj hp hd))
 rcases aLb i j with h3|h3
 . exact h.nd (h.cl j i hn (h.run.t1 h3 h.get hp (h2 j p h3 hp hd)))
 have:j=i:=by omega
 subst this;exact h.nd hn
theorem Now.aQU{t:Nat}(ht:t ∈ o.looksAt ops):CT ops Dn t i:=by
 refine h.ct (fun j p hj hp hd=>?_) (fun j p hj hp hd=>?_)
 . cases hc:p.apart ops o with
   |false=>rfl
   |true=>exact absurd ht ((aU5 hc).1 t hd)
 cases hc:o.apart ops p with
 |false=>rfl
 |true=>exact absurd ht ((aU5 hc).2.2 t hd)
theorem Now.cmV{b:Nat}(hv:Vi D M i b):CM ops D M Dn b i:=by
 refine⟨fun j hj hw=>h.anc j (h.run.f1 hj h.lt hw hv),fun j hj hjs hw hn=>?_⟩;rcases aLb i j with h3|h3
 . exact h.nd (h.cl j i hn (h.run.f2 h3 hjs hv hw))
 have:j=i:=by omega
 subst this;exact h.nd hn
theorem Now.n0:(D 0).s.n<=(D i).s.n:=h.run.mono (aKS _) (aRF h.lt)
theorem Now.live{b:Nat}{x:HO}(hb:(D i).s.look (M i).hid b=some x):b<(D i).s.n/\Vi D M i b/\Live cx ops D M Dn b i x:=by
 obtain⟨h1,h2⟩:=Hs.bV.1 hb;have hlt:b<(D i).s.n:=by
  rcases aLb b (D i).s.n with h3|h3
  . exact h3
  obtain⟨x',h4⟩:=h.run.above (aRF h.lt) h3 h2;have:=h.n0;exact absurd (@aO.lt G0 _ _ _ _ _ h.ini b x' (Hs.bV.2 ⟨h.run.rD b (by omega),h4⟩)) (by omega)
 exact⟨hlt,⟨hlt,h1⟩,aRF h.lt,h.cmV ⟨hlt,h1⟩,h.run.vis h.lt ⟨hlt,h1⟩,h2⟩
theorem Now.aOv{j b:Nat}(hj:An (kU ops.toList []) i j)(hs:Sj ops D j b):@Gd (GI G0 ops D i) (D i).s.n b:=by
 obtain⟨j',h1,h2,h3⟩:=hs;have hja:An (kU ops.toList []) i j':=by
  rcases h1 with rfl|h1
  . exact hj
  exact aKh h.run.back _ _ _ hj h1
 have hlt:=aKi h.run.back _ _ hja;have h4:=h.run.mono (k:=0) (k':=j') (aKS _) (by have:=h.lt;omega);have h5:=h.run.mono (k:=j'+1) (k':=i) (by omega) (aRF h.lt);refine⟨by omega,?_⟩;rintro(h6|⟨_,_,h6⟩)
 . exact @aO.good G0 _ _ _ _ _ h.ini b (by omega) h6
 exact h6 ⟨j',hja,h2,h3⟩
theorem Now.aOw{b:Nat}(hs:Old G0 D b):@Gd (GI G0 ops D i) (D i).s.n b:=by
 have h1:=h.n0;have h2:=hs.1;refine⟨by omega,?_⟩;rintro(h6|⟨h7,_,_⟩)
 . exact hs.2 h6
 omega
theorem Now.sat:@aO (GI G0 ops D i) w0 ρ ⟨cx.g,cx.l,(M i).fl,(M i).hid⟩ (D i).s w:=by
 have hfl:=h.run.flk h.lt;have hi:=h.ini;have gn:=@aO.gn G0 _ _ _ _ _ hi;have ln:=@aO.ln G0 _ _ _ _ _ hi;have y8:=h.run.y8;have n0:=h.n0;refine @aO.mk (GI G0 ops D i) _ _ _ _ _ ?_ ?_ ?_ ?_ ?_ ?_ ?_ ?_ ?_ ?_ ?_ ?_ ?_
 . exact fun g hg=>by
    have:=h.inv.ext g (by have hg:g<cx.g.n:=hg;omega);rw[this.1,this.2.1,this.2.2];exact @aO.gl G0 _ _ _ _ _ hi g hg
 . exact fun g hg=>by
    have hg:g<cx.g.n:=hg;rintro(h6|⟨h7,_,_⟩)
    . exact @aO.QA G0 _ _ _ _ _ hi g hg h6
    omega
 . exact fun b hb=>by
    rintro(h6|⟨h7,h8,_⟩)
    . exact @aO.good G0 _ _ _ _ _ hi b (by omega) h6
    omega
 . exact gn
 . show cx.l<=(M i).fl;omega
 . exact hfl.2
 . exact fun b hb=>h.run.upk h.lt hb
 . exact h.inv.below
 . exact fun b x hb=>(h.live hb).1
 . exact fun b x hb=>by
    obtain⟨k1,k2,k3⟩:=h.live hb;obtain⟨j1,j2,_,_⟩:=h.inv.obj b i x k3;refine wI j2 (fun c hc=>?_) (fun c hc=>⟨rfl,rfl,rfl⟩) ⟨rfl,rfl,rfl⟩ rfl;rcases aOr.1 hc.2 with h6|⟨j,h6,h7,h8⟩
    . exact h.aOw h6
    exact h.aOv (h.run.f1 h6 h.lt h7 k2) h8
 . exact fun b x hb hl=>(h.inv.obj b i x (h.live hb).2.2).2.2.1 hl
 . exact fun b x hb hl=>(h.inv.obj b i x (h.live hb).2.2).2.2.2 hl
 exact fun b b' x x' hb hb' hl hl' e=>h.inv.inj b b' i i x x' (h.live hb).2.2 (h.live hb').2.2 hl hl' e
theorem Now.slot{t:Nat}{v:AV}(ht:t ∈ o.looksAt ops)(hv:nU (D i).t t=some v):@Sc (GI G0 ops D i) (D i).s.n v/\a.tmps[t]? =some (den ρ v):=by
 obtain⟨h1,h2,h3⟩:=h.inv.tmp t i v (aRF h.lt) (h.aQU ht) hv;refine⟨zJ (fun c hc=>?_) v h3,h2⟩;rcases aOr.1 hc.2 with h6|⟨j,h6,⟨p,h7,h8⟩,h9⟩
 . exact h.aOw h6
 refine h.aOv (h.run.t1 h6 h7 h.get ?_) h9
 cases hc:p.apart ops o with
 |false=>rfl
 |true=>exact absurd ht ((aU5 hc).1 t h8)
theorem Now.vals(hF:CZ tb)(hg:cx.g=tb.g):@lZ (GI G0 ops D i) tb ρ (D i).s.n a (D i).t o.op:=by
 intro x hx v hv
 cases x with
 |tmp t=>
  obtain⟨u,hu,hv⟩:=aA.1 hv
  cases hv
  obtain⟨h1,h2⟩:=h.slot (t:=t) (aUy _ (List.mem_filterMap.2 ⟨.tmp t,by simpa using hx,rfl⟩)) hu;exact⟨@aOp (GI G0 ops D i) _ _ _ h1,by rw[aDl hF (@aO.lv (GI G0 ops D i) _ _ _ _ _ _ h.sat hg)];simp[Act.eval,h2]⟩
 |const u=>cases hv;exact⟨trivial,rfl⟩
 |global g=>
  obtain⟨h1,h2⟩:=aC.1 hv
  cases h2
  have h3:g<cx.g.n:=by rw[hg];have:=aK.1 h1;omega
  have hs:=h.sat;obtain⟨h4,h5,_⟩:=@aO.gl (GI G0 ops D i) _ _ _ _ _ hs g h3;refine⟨⟨?_,@aO.QA (GI G0 ops D i) _ _ _ _ _ hs g h3⟩,?_⟩
  . have:=@aO.gn G0 _ _ _ _ _ h.ini;have:=@aO.ln G0 _ _ _ _ _ h.ini;have:=h.run.y8;have:=h.n0;omega
  simp[Act.eval,den,h4,h5]
 |func f=>cases hv;exact⟨trivial,rfl⟩
end
end Ev
end
section
open Go.RowKit
namespace Ev
def mix(ρ ρ':Env)(lo hi:Nat):Env:=
 ⟨fun b=>if lo<=b/\b<hi then ρ'.blk b else ρ.blk b,fun b=>if lo<=b/\b<hi then ρ'.off b else ρ.off b,fun b=>if lo<=b/\b<hi then ρ'.cp b else ρ.cp b⟩
theorem aP8{ρ ρ':Env}{lo hi b:Nat}(h:Ext lo ρ ρ')(hb:b<hi):nO ρ' (mix ρ ρ' lo hi) b:=by
 unfold nO mix
 by_cases hl:lo<=b
 . simp only[hl,hb,and_self,aTF]
 have:=h b (by omega);simp only[hl,aUR,aRv];exact⟨this.1.symm,this.2.1.symm,this.2.2.symm⟩
theorem aMD{ρ ρ':Env}{lo hi b:Nat}(hb: ¬(lo<=b/\b<hi)):nO ρ (mix ρ ρ' lo hi) b:=by
 unfold nO mix;simp only[hb,aRv,and_self]
section
variable{G0:Gh}{w0 ws:World}{tb:Tab}{call:dK}{cx:Cx}{N:Nat}{ops:Array Oper}{D:Nat->Ds}{M:Nat->Md}{ρ0 ρ ρ':Env}{ds:List Deferred}{Dn:Nat->Prop}{w w':World}{a:Act}{i:Nat}{o:Oper}
variable(h:Now tb call G0 w0 ws cx N ops D M ρ0 ds Dn ρ w a i o)
variable(hst:@Stp (GI G0 ops D i) w0 ρ ρ' ⟨cx.g,cx.l,(M i).fl,(M i).hid⟩ (D i).s (D (i+1)).s w w')
include h
theorem Now.aS7{j b:Nat}(hj:Dn j)(hjs:j<ops.size)(hb:Iv D j b): ¬((D i).s.n<=b/\b<(D (i+1)).s.n):=by
 rintro⟨h1,h2⟩;obtain⟨h3,h4⟩:=hb;have hi:=h.lt;rcases Nat.lt_trichotomy j i with h5|h5|h5
 . have:=h.run.mono (k:=j+1) (k':=i) (by omega) (by omega);omega
 . subst h5;exact h.nd hj
 have:=h.run.mono (k:=i+1) (k':=j) (by omega) (by omega);omega
theorem Now.aOf{j b:Nat}(hj:Dn j)(hjs:j<ops.size)(hs:Sj ops D j b): ¬((D i).s.n<=b/\b<(D (i+1)).s.n):=by
 obtain⟨j',h1,h2⟩:=hs;rcases h1 with rfl|h1
 . exact h.aS7 hj hjs h2
 exact h.aS7 (h.cl _ _ hj h1) (by have:=aKi h.run.back _ _ h1;omega) h2
theorem Now.aIc{b:Nat}(hs:Old G0 D b): ¬((D i).s.n<=b/\b<(D (i+1)).s.n):=by
 have:=h.n0;have:=hs.1;omega
theorem Now.sizeOf{j:Nat}{p:Oper}(hp:ops[j]? =some p):j<ops.size:=by
 rcases aLb j ops.size with h1|h1
 . exact h1
 rw[aKY h1]at hp;cases hp
theorem Now.aSM{b:Nat}(hb:@Gd (GI G0 ops D i) (D (i+1)).s.n b):b<(D ops.size).s.n/\(Old G0 D b\/Sj ops D i b):=by
 have hi:=h.lt;have h1:=h.run.mono (k:=i+1) (k':=ops.size) (by omega) (by omega);obtain⟨h2,h3⟩:=hb;refine⟨by omega,?_⟩
 by_cases h4:b<(D 0).s.n
 . exact .inl ⟨h4,fun hb=>h3 (.inl hb)⟩
 right
 by_cases h5:(D i).s.n<=b
 . exact⟨i,.inl rfl,h5,h2⟩
 by_cases h6: ∃j,An (kU ops.toList []) i j/\Iv D j b
 . obtain⟨j,h7,h8⟩:=h6;exact⟨j,.inr h7,h8⟩
 exact absurd (.inr ⟨by omega,by omega,h6⟩) h3
theorem Now.aTG{t k:Nat}(hw: ¬wrT ops i t)(hc:CT ops (fun j=>Dn j\/j=i) t k):CT ops Dn t k:=by
 refine⟨fun j hj hp=>?_,fun j hj hp hn=>hc.2 j hj hp (.inl hn)⟩;rcases hc.1 j hj hp with h1|rfl
 . exact h1
 exact absurd hp hw
theorem Now.aTN{b k:Nat}(hw: ¬Wr D M i b)(hc:CM ops D M (fun j=>Dn j\/j=i) b k):CM ops D M Dn b k:=by
 refine⟨fun j hj hp=>?_,fun j hj hjs hp hn=>hc.2 j hj hjs hp (.inl hn)⟩;rcases hc.1 j hj hp with h1|rfl
 . exact h1
 exact absurd hp hw
theorem Now.aTH{t k:Nat}(hw:wrT ops i t)(hc:CT ops (fun j=>Dn j\/j=i) t k)(hk:k<=ops.size):i<k/\nU (D k).t t=some (M i).v/\t<N:=by
 obtain⟨o',h1,h2⟩:=hw;have hi:=h.lt;rw[h.get]at h1;cases h1;have hik:i<k:=by
  rcases aLb i k with h3|h3
  . exact h3
  exact absurd (.inr rfl) (hc.2 i h3 ⟨o,h.get,h2⟩)
 obtain⟨h3,h4⟩:=h.run.aVx hi h.get h2;refine⟨hik,?_,h4⟩;rw[<-h3];refine h.run.aOd (by omega) hk (fun j hj hjk p hp hd=>?_);have hap:o.apart ops p=false:=by
  cases hx:o.apart ops p with
  |false=>rfl
  |true=>exact absurd hd ((aU5 hx).2.1 t h2)
 have han:=h.run.t1 (by omega) h.get hp hap;rcases hc.1 j hjk ⟨p,hp,hd⟩with h5|h5
 . exact h.nd (h.cl _ _ h5 han)
 omega
theorem Now.aAn{b k:Nat}{x:HO}(hw:Wr D M i b)(hl:Live cx ops D M (fun j=>Dn j\/j=i) b k x):i<k/\(D (i+1)).s.look (M i).hid b=some x:=by
 obtain⟨hk,hc,h1,h2⟩:=hl;have hi:=h.lt;obtain⟨_,_,w3,_,w5⟩:=h.run.wis hi hw;have hik:i<k:=by
  rcases aLb i k with h3|h3
  . exact h3
  exact absurd (.inr rfl) (hc.2 i h3 hi hw)
 refine⟨hik,Hs.bV.2 ⟨w3,?_⟩⟩;rw[<-h.run.keep (k:=i+1) (by omega) hk w5 (fun j hj hjk hwj=>?_)]
 . exact h2
 have han:=h.run.f3 (i:=i) (j:=j) (by omega) (by omega) hw hwj;rcases hc.1 j hjk hwj with h5|h5
 . exact h.nd (h.cl _ _ h5 han)
 omega
include hst
theorem Now.aAU{c:Nat}{x:HO}(hf:(M i).fl<=c)(hb:(D i).s.look (M i).hid c=some x):Wr D M i c/\Live cx ops D M Dn c i x:=by
 obtain⟨k1,k2,k3⟩:=h.live hb;exact⟨.inr ⟨k1,hf,k2.2⟩,k3⟩
theorem Now.lfl:cx.l<=(M i).fl:=aI6 (@aO.ln G0 _ _ _ _ _ h.ini) (h.run.flk h.lt).1
theorem Now.step (hv:@Sc (GI G0 ops D i) (D (i+1)).s.n (M i).v):
 Inv G0 w0 ws cx N ops D M ρ0 ds (fun j=>Dn j\/j=i) (mix ρ ρ' (D i).s.n (D (i+1)).s.n) w' (a.put o.dst (den ρ' (M i).v)):=by
 have hi:=h.lt;have n0:=h.n0;have hext:=@Stp.ext (GI G0 ops D i) _ _ _ _ _ _ _ _ hst;have PX:=@Stp.sat (GI G0 ops D i) _ _ _ _ _ _ _ _ hst;have hfr:=@Stp.fr (GI G0 ops D i) _ _ _ _ _ _ _ _ hst;have hnew:=@Stp.new (GI G0 ops D i) _ _ _ _ _ _ _ _ hst;have aWo:=h.lfl hst;have aTf:=h.run.flk hi;have aAD: ∀b,b<(D (i+1)).s.n->nO ρ' (mix ρ ρ' (D i).s.n (D (i+1)).s.n) b:=fun b hb=>aP8 hext hb;have F9: ∀b,¬((D i).s.n<=b/\b<(D (i+1)).s.n)->nO ρ (mix ρ ρ' (D i).s.n (D (i+1)).s.n) b:=fun b hb=>aMD hb;have noW: ∀b,¬Wr D M i b-> ¬((D i).s.n<=b/\b<(D (i+1)).s.n):=fun b hw hb=>hw (.inl hb);have JJ: ∀ {b k x},¬Wr D M i b->Live cx ops D M (fun j=>Dn j\/j=i) b k x->Live cx ops D M Dn b k x:=
  fun hw hl=>⟨hl.1,h.aTN hw hl.2.1,hl.2.2⟩
 have apart: ∀ {b k x},¬Wr D M i b->Live cx ops D M Dn b k x-> ∀c x',(M i).fl<=c->(D i).s.look (M i).hid c=some x'->ρ.blk c≠ρ.blk b:=by
  intro b k x hw hl c x' hf hc e;obtain⟨k1,k2⟩:=h.aAU hst hf hc;have hlc:cx.l<=c:=aI6 aWo hf;rcases aLb b cx.l with hb|hb
  . have:=(h.inv.obj b k x hl).2.2.2 hb;have:=(h.inv.obj c i x' k2).2.2.1 hlc;omega
  have:=h.inv.inj c b i k x' x k2 hl hlc hb e;subst this;exact hw k1
 refine⟨?_,?_,?_,@aO.below (GI G0 ops D i) _ _ _ _ _ PX,?_,?_,?_,?_,?_⟩
 . have:=h.inv.size
   cases hd:o.dst<;>simp[Act.put,this]
 . rw[put_defers];exact h.inv.defers
 . intro b hb;have h1:=h.inv.ext b hb;have h2:=F9 b (by omega);exact⟨h2.1.trans h1.1,h2.2.1.trans h1.2.1,h2.2.2.trans h1.2.2⟩
 ·
  intro t k v hk hc hg
  by_cases hw:wrT ops i t
  . obtain⟨h1,h2,h3⟩:=h.aTH hw hc hk;rw[h2]at hg;cases hg;obtain⟨o',k1,k2⟩:=id hw;rw[h.get]at k1;cases k1;refine⟨h3,?_,zJ (fun b hb=>?_) _ hv⟩
    . rw[k2];have hden:den (mix ρ ρ' (D i).s.n (D (i+1)).s.n) (M i).v=den ρ' (M i).v:=EO (fun b hb=>aAD b hb.1) _ hv;rw[hden];simp[Act.put,aR6,h.inv.size,h3]
    obtain⟨h4,h5⟩:=h.aSM hb;refine⟨h4,aOr.2 ?_⟩;rcases h5 with h5|h5
    . exact .inl h5
    exact .inr ⟨i,h1,hw,h5⟩
  have hc':=h.aTG hw hc;obtain⟨h1,h2,h3⟩:=h.inv.tmp t k v hk hc' hg;refine⟨h1,?_,h3⟩;have hden:den (mix ρ ρ' (D i).s.n (D (i+1)).s.n) v=den ρ v:=EO (fun b hb=>F9 b (by
   rcases aOr.1 hb.2 with h6|⟨j,h6,h7,h8⟩
   . exact h.aIc h6
   obtain⟨p,h9,_⟩:=id h7;exact h.aOf (hc'.1 j h6 h7) (h.sizeOf h9) h8)) _ h3
  rw[hden,<-h2]
  cases hd:o.dst with
  |none=>rfl
  |some d=>
   have:d≠t:=fun e=>hw ⟨o,h.get,by rw[hd,e]⟩;simp only[Act.put];rw[aO7 this]
 ·
  intro b k x hl
  by_cases hw:Wr D M i b
  . obtain⟨h1,h2⟩:=h.aAn hw hl;obtain⟨_,_,_,w4,w5⟩:=h.run.wis hi hw;have hm:=h.run.mono (k:=i+1) (k':=k) (by omega) hl.1;refine⟨by omega,?_,?_,?_⟩
    . refine wI (@aO.obj (GI G0 ops D i) _ _ _ _ _ PX b x h2) (fun c hc=>?_) (fun c hc=>aAD c hc.1) (aAD b w5) rfl;obtain⟨h4,h5⟩:=h.aSM hc;refine⟨h4,aOr.2 ?_⟩;rcases h5 with h5|h5
      . exact .inl h5
      exact .inr ⟨i,h1,hw,h5⟩
    . intro hl';rw[(aAD b w5).1];exact @aO.new (GI G0 ops D i) _ _ _ _ _ PX b x h2 hl'
    intro hl';omega
  have hl':=JJ hw hl;obtain⟨h1,h2,h3,h4⟩:=h.inv.obj b k x hl';have hag:=F9 b (noW b hw);refine⟨h1,?_,?_,?_⟩
  . refine wI h2 (fun c hc=>hc) (fun c hc=>F9 c ?_) hag ?_
    . rcases aOr.1 hc.2 with h6|⟨j,h6,h7,h8⟩
      . exact h.aIc h6
      exact h.aOf (hl'.2.1.1 j h6 h7) (by have:=hl.1;omega) h8
    exact hfr.block _ (@HO.Holds.lt (GM G0 ops D M b k) _ _ _ _ _ h2) (apart hw hl')
  . intro q;rw[hag.1];exact h3 q
  intro q;rw[hag.1];exact h4 q
 ·
  intro b b' k k' x x' hl hl' hb hb' e;have mixed: ∀ {b b' k k' x x'},Live cx ops D M (fun j=>Dn j\/j=i) b k x->Live cx ops D M (fun j=>Dn j\/j=i) b' k' x'->cx.l<=b->cx.l<=b'->Wr D M i b-> ¬Wr D M i b'->
   (mix ρ ρ' (D i).s.n (D (i+1)).s.n).blk b≠(mix ρ ρ' (D i).s.n (D (i+1)).s.n).blk b':=by
   intro b b' k k' x x' hl hl' hb hb' hw hw' e;obtain⟨_,_,_,w4,w5⟩:=h.run.wis hi hw;have hl'':=JJ hw' hl';rw[(aAD b w5).1,(F9 b' (noW b' hw')).1]at e;obtain⟨_,h2,_⟩:=h.inv.obj b' k' x' hl'';have hlt:=@HO.Holds.lt (GM G0 ops D M b' k') _ _ _ _ _ h2;rcases hnew b x (h.aAn hw hl).2 w4 with h5|⟨b0,o0,h5,h6,h7⟩
   . omega
   exact apart hw' hl'' b0 o0 h5 h6 (h7.trans e)
  by_cases hw:Wr D M i b<;>by_cases hw':Wr D M i b'
  . obtain⟨_,_,_,w4,w5⟩:=h.run.wis hi hw;obtain⟨_,_,_,w4',w5'⟩:=h.run.wis hi hw';rw[(aAD b w5).1,(aAD b' w5').1]at e;exact @aO.inj (GI G0 ops D i) _ _ _ _ _ PX b b' x x' (h.aAn hw hl).2 (h.aAn hw' hl').2 hb hb' e
  . exact absurd e (mixed hl hl' hb hb' hw hw')
  . exact absurd e.symm (mixed hl' hl hb' hb hw' hw)
  rw[(F9 b (noW b hw)).1,(F9 b' (noW b' hw')).1]at e;exact h.inv.inj b b' k k' x x' (JJ hw hl) (JJ hw' hl') hb hb' e
 ·
  refine⟨hfr.os.trans h.inv.fr.os,hfr.tape.trans h.inv.fr.tape,hfr.output.trans h.inv.fr.output,aI6 h.inv.fr.size hfr.size,fun r hr hn=>?_⟩;rw[hfr.block r (aF7 hr h.inv.fr.size) (fun c x hf hc e=>?_)]
  . exact h.inv.fr.block r hr hn
  obtain⟨k1,k2⟩:=h.aAU hst hf hc;rcases h.inv.new c i x k2 (aI6 aTf.1 hf)with h5|⟨b0,o0,h5,h6,h7⟩
  . omega
  exact hn b0 o0 h5 h6 (h7.trans e)
 . intro b k x hl hf
   by_cases hw:Wr D M i b
   . obtain⟨_,_,_,w4,w5⟩:=h.run.wis hi hw;rw[(aAD b w5).1];rcases hnew b x (h.aAn hw hl).2 w4 with h5|⟨b0,o0,h5,h6,h7⟩
     . exact .inl (aI6 h.inv.fr.size h5)
     obtain⟨k1,k2⟩:=h.aAU hst h5 h6;rw[<-h7];exact h.inv.new b0 i o0 k2 (aI6 aTf.1 h5)
   rw[(F9 b (noW b hw)).1];exact h.inv.new b k x (JJ hw hl) hf
end
end Ev
end
section
open Go.RowKit
namespace Ev
theorem aAu(e:Edge):Region.binds .any e=binding e:=by
 obtain⟨on,g⟩:=e
 cases g<;>rfl
section
variable{G0:Gh}{w0 ws:World}{tb:Tab}{call:dK}{cx:Cx}{N:Nat}{ops:Array Oper}{D:Nat->Ds}{M:Nat->Md}{ρ0 ρ:Env}{ds:List Deferred}{Dn:Nat->Prop}{w:World}{a:Act}{i:Nat}{o:Oper}
 {Q:Exit->Act->World->Prop}
theorem Now.op(h:Now tb call G0 w0 ws cx N ops D M ρ0 ds Dn ρ w a i o)(hT:fG tb w0)(hc:jS tb w0 call)(hg:cx.g=tb.g)(hl:cx.l=tb.l){K:Act->World->Prop}{r:Option Nat}{nn:Nat}
 (hK: ∀ ρ' w' a',Inv G0 w0 ws cx N ops D M ρ0 ds (fun j=>Dn j\/j=i) ρ' w' a'->K a' w'):wpOpIn (FF r) nn tb.p ops Q i K a w:=by
 obtain⟨o',an,k1,k2,k3⟩:=h.run.at' h.lt;have k4:=k1;rw[h.get]at k1;cases k1;have hw:=XD (ρ:=ρ) (a:=a) (ops:=ops) hT.y9 (@aO.lv (GI G0 ops D i) _ _ _ _ _ _ h.sat hg) rfl k3.want (fun d v hd hv=>(h.slot hd hv).2);unfold wpOpIn;rw[k4];dsimp only;rw[hw];rcases k3.run with⟨s1,s2,s3,_⟩|⟨s1,s2,_⟩
 . rw[s1];refine⟨fun _ _=>trivial,hK _ w _ (?_:Inv G0 w0 ws cx N ops D M ρ0 ds (fun j=>Dn j\/j=i) (mix ρ ρ (D i).s.n (D (i+1)).s.n) w (a.put o.dst undef))⟩;have hst:=@Stp.refl (GI G0 ops D i) _ _ _ _ _ h.sat;have:=h.step (ρ':=ρ) (w':=w) (by rw[s3];exact hst) (by rw[s2];trivial);rw[s2]at this;exact this
 rw[s1];show Oper.wpIn _ _ _ _ _ _ _ _;refine @YN (GI G0 ops D i) tb w0 ρ ⟨cx.g,cx.l,(M i).fl,(M i).hid⟩ (D i).s (D (i+1)).s w a (D i).t call (M i).v hT hc o s2 hg hl h.sat (h.vals hT.y9 hg) _ _ r nn (fun ρ' w' hst hv=>?_);exact hK _ w' _ (h.step hst hv)
theorem aJc(hR:Run tb call cx N ops D M)(hs:@aO G0 w0 ρ0 cx (D 0).s ws)(ht:@iU G0 N ρ0 (D 0).s.n a (D 0).t)(hn: ∀j,¬Dn j):
 Inv G0 w0 ws cx N ops D M ρ0 a.defers Dn ρ0 ws a:=by
 have hiv: ∀k b,k<=ops.size->(D 0).s.n<=b->b<(D k).s.n-> ∃j,j<k/\Iv D j b:=by
  intro k b hk h1
  induction k with
  |zero=>intro h2;omega
  |succ k ih=>
   intro h2;rcases aLb b (D k).s.n with h3|h3
   . obtain⟨j,h4,h5⟩:=ih (by omega) h3;exact⟨j,by omega,h5⟩
   exact⟨k,by omega,h3,h2⟩
 have hold: ∀ {b k o},Live cx ops D M Dn b k o->(D 0).s.look cx.hid b=some o/\b<(D 0).s.n:=by
  rintro b k o ⟨hk,hc,h1,h2⟩;have hnw: ∀j,j<k-> ¬Wr D M j b:=fun j hj hw=>hn j (hc.1 j hj hw);have hb:b<(D 0).s.n:=by
   rcases aLb b (D 0).s.n with h3|h3
   . exact h3
   rcases aLb b (D k).s.n with h4|h4
   . obtain⟨j,h5,h6⟩:=hiv k b hk h3 h4;exact absurd (.inl h6) (hnw j h5)
   obtain⟨o',h5⟩:=hR.above hk h4 h2;exact @aO.lt G0 _ _ _ _ _ hs b o' (Hs.bV.2 ⟨h1,h5⟩)
  exact⟨Hs.bV.2 ⟨h1,by rw[<-hR.keep (aKS k) hk hb (fun j _ hj=>hnw j hj)];exact h2⟩,hb⟩
 refine⟨@iU.size G0 _ _ _ _ _ ht,rfl,Ext.refl _ _,@aO.below G0 _ _ _ _ _ hs,fun t k v hk hc hv=>?_,fun b k o hl=>?_,fun b b' k k' o o' hl hl'=>?_,Fr.refl _ _ _ _,fun b k o hl hf=>?_⟩
 . rw[hR.aOd (aKS k) hk (fun j _ hj o ho hd=>hn j (hc.1 j hj ⟨o,ho,hd⟩))]at hv;obtain⟨h1,h2,h3⟩:=@iU.val G0 _ _ _ _ _ ht t v hv;refine⟨h2,h3,zJ (G:=G0) (G':=GT G0 ops D t k) (fun b hb=>?_) v h1⟩;exact⟨aF7 hb.1 (hR.mono (aKS _) (aCU _)),aOr.2 (.inl hb)⟩
 . obtain⟨h1,h2⟩:=hold hl;refine⟨aF7 h2 (hR.mono (aKS _) hl.1),?_,fun q=>@aO.new G0 _ _ _ _ _ hs b o h1 q,fun q=>@aO.old G0 _ _ _ _ _ hs b o h1 q⟩;refine wI (@aO.obj G0 _ _ _ _ _ hs b o h1) (fun c hc=>?_) (fun c hc=>⟨rfl,rfl,rfl⟩) ⟨rfl,rfl,rfl⟩ rfl;exact⟨aF7 hc.1 (hR.mono (aKS _) (aCU _)),aOr.2 (.inl hc)⟩
 . exact @aO.inj G0 _ _ _ _ _ hs b b' o o' (hold hl).1 (hold hl').1
 exact .inr ⟨b,o,hf,(hold hl).1,rfl⟩
theorem aDu(hR:Run tb call cx N ops D M)(hs:@aO G0 w0 ρ0 cx (D 0).s ws)(hn: ∀j,j<ops.size->Dn j)(h:Inv G0 w0 ws cx N ops D M ρ0 ds Dn ρ w a):
 @Stp G0 w0 ρ0 ρ cx (D 0).s (D ops.size).s ws w/\@iU G0 N ρ (D ops.size).s.n a (D ops.size).t:=by
 have hmono:=hR.mono (aKS _) (aCU ops.size);have hsj: ∀ {j b},j<ops.size->Sj ops D j b-> ¬G0.bad b:=by
  rintro j b hj ⟨j',h1,h2,h3⟩;have hlt:j'<=j:=by
   rcases h1 with rfl|h1
   . exact aCU _
   exact aRF (aKi hR.back _ _ h1)
  exact @aO.good G0 _ _ _ _ _ hs b (aI6 (hR.mono (aKS _) (by omega)) h2)
 have hlive: ∀ {b o},(D ops.size).s.look cx.hid b=some o->Live cx ops D M Dn b ops.size o:=by
  intro b o hb;obtain⟨h1,h2⟩:=Hs.bV.1 hb;exact⟨aCU _,⟨fun j hj _=>hn j hj,fun j hj hjs=>by omega⟩,h1,h2⟩
 have y8:=hR.y8;have gn:=@aO.gn G0 _ _ _ _ _ hs;have ln:=@aO.ln G0 _ _ _ _ _ hs;have PX:@aO G0 w0 ρ cx (D ops.size).s w:=by
  refine @aO.mk G0 _ _ _ _ _ ?_ (@aO.QA G0 _ _ _ _ _ hs) ?_ gn ln (by omega) ?_ h.below ?_ ?_ ?_ ?_ ?_
  . intro g hg;have:=h.ext g (by omega);rw[this.1,this.2.1,this.2.2];exact @aO.gl G0 _ _ _ _ _ hs g hg
  . exact fun b hb=>@aO.good G0 _ _ _ _ _ hs b (by omega)
  . exact fun b hb=>hR.rD b (by omega)
  . exact fun b o hb=>(h.obj b _ o (hlive hb)).1
  . intro b o hb;refine wI (G':=G0) (h.obj b _ o (hlive hb)).2.1 (fun c hc=>⟨hc.1,?_⟩) (fun c hc=>⟨rfl,rfl,rfl⟩) ⟨rfl,rfl,rfl⟩ rfl;rcases aOr.1 hc.2 with h6|⟨j,h6,_,h8⟩
    . exact h6.2
    exact hsj h6 h8
  . exact fun b o hb=>(h.obj b _ o (hlive hb)).2.2.1
  . exact fun b o hb=>(h.obj b _ o (hlive hb)).2.2.2
  exact fun b b' o o' hb hb'=>h.inj b b' _ _ o o' (hlive hb) (hlive hb')
 refine⟨@Stp.mk G0 _ _ _ _ _ _ _ _ h.ext PX hmono h.fr ?_ ?_,@iU.mk G0 _ _ _ _ _ h.size ?_⟩
 . intro b hb hor;refine hR.keep (aKS _) (aCU _) hb (fun j _ hj hw=>?_);obtain⟨h1,h2,_⟩:=hR.wis hj hw;rcases hor with h3|h3
   . omega
   rw[h1]at h3;cases h3
 . exact fun b o hb hf=>h.new b _ o (hlive hb) hf
 intro t v hv;obtain⟨h1,h2,h3⟩:=h.tmp t ops.size v (aCU _) ⟨fun j hj _=>hn j hj,fun j hj ⟨p,hp,_⟩=>by rw[aKY hj]at hp;cases hp⟩ hv;refine⟨zJ (G':=G0) (fun c hc=>⟨hc.1,?_⟩) v h3,h1,h2⟩;rcases aOr.1 hc.2 with h6|⟨j,h6,_,h8⟩
 . exact h6.2
 exact hsj h6 h8
def Ls(listed:Array Bool)(j:Nat):Prop:=listed.getD j false=true
theorem aS4{listed:Array Bool}{j:Nat}(h:Ls listed j):j<listed.size:=by
 unfold Ls at h;rcases aLb j listed.size with h1|h1
 . exact h1
 simp[Array.getD,Nat.not_lt.2 h1]at h
theorem aI0{listed:Array Bool}{i:Nat}(hi:i<listed.size):Ls (listed.setIfInBounds i true)=fun j=>Ls listed j\/j=i:=by
 funext j
 apply propext;unfold Ls
 by_cases e:i=j
 . subst e;simp[hi]
 simp[aO7 e,aUO e]
theorem count_set{listed:Array Bool}{i n:Nat}(hi:i<listed.size)(h: ¬Ls listed i)(hc:listed.toList.count false<=n+1):(listed.setIfInBounds i true).toList.count false<=n:=by
 rw[aWE,List.count_set (by simpa using hi)];have:listed[i]=false:=by
  unfold Ls at h;simpa[Array.getD,hi]using h
 have h2:(listed.toList[i]'(by simpa using hi)==false)=true:=by simp[this]
 have h3:((true:Bool)==false)=false:=rfl;simp only[h2,h3,aTF,aLe,aRv];omega
theorem aCu{listed:Array Bool}(h:listed.toList.count false=0){i:Nat}(hi:i<listed.size):Ls listed i:=by
 unfold Ls;rw[List.count_eq_zero]at h
 cases hb:listed[i]with
 |true=>simp[Array.getD,hi,hb]
 |false=>exact absurd (by rw[<-hb];simp) h
theorem D6{listed:Array Bool}(hsz:listed.size=ops.size){i:Nat}:i ∈ Region.ready .any ops listed↔ ∃o,ops[i]? =some o/\ ¬Ls listed i/\ ∀e ∈ o.after.toList,binding e=true->Ls listed e.on:=by
 unfold Region.ready Ls;rw[List.mem_filter,aRH,aFU];constructor
 . rintro⟨h1,h2,h3⟩;have ho:ops[i]? =some ops[i]:=aLd h1;refine⟨_,ho,?_,?_⟩
   . have hi:i<listed.size:=by omega
     simpa[Array.getD,hi]using h2
   rw[ho]at h3;simp only[aUD,aUx,Array.all_eq_true']at h3;intro e he hb;have:=h3 e (by simpa using he);rw[aAu,hb]at this;simpa using this
 rintro⟨o,ho,h2,h3⟩;have h1:i<ops.size:=by
  rcases aLb i ops.size with h1|h1
  . exact h1
  rw[aKY h1]at ho;cases ho
 have hi:i<listed.size:=by omega
 refine⟨h1,by simpa[Array.getD,hi]using h2,?_⟩;rw[ho];simp only[aUD,aUx,Array.all_eq_true'];intro e he;rw[aAu]
 cases hb:binding e with
 |false=>rfl
 |true=>simpa using h3 e (by simpa using he) hb
theorem aCy(hb:backOk ops.toList 0=true){listed:Array Bool}(hsz:listed.size=ops.size)(hr:Region.ready .any ops listed=[]): ∀i,i<ops.size->Ls listed i:=by
 intro i
 induction i using Nat.strongRecOn with
 | ind i ih=>
  intro hi;apply Classical.byContradiction;intro hn;have:i ∈ Region.ready .any ops listed:=(D6 hsz).2 ⟨ops[i],aLd hi,hn,fun e he heb=>by
   have:=qQ _ _ hb i ops[i] (by rw[aGY];exact aLd hi) e he heb;exact ih e.on (by omega) (by omega)⟩
  rw[hr]at this;cases this
theorem aGq{r:Option Nat}{nn:Nat}(hT:fG tb w0)(hc:jS tb w0 call)(hg:cx.g=tb.g)(hl:cx.l=tb.l)(hR:Run tb call cx N ops D M)(hs:@aO G0 w0 ρ0 cx (D 0).s ws)
 (hq: ∀ ρ w a,@Stp G0 w0 ρ0 ρ cx (D 0).s (D ops.size).s ws w->@iU G0 N ρ (D ops.size).s.n a (D ops.size).t->a.defers=ds->Q .normal a w):
 ∀(fuel:Nat) (listed:Array Bool) (ρ:Env) (w:World) (a:Act),listed.size=ops.size->listed.toList.count false<=fuel->(∀j k,Ls listed j->An (kU ops.toList []) j k->Ls listed k)->
  Inv G0 w0 ws cx N ops D M ρ0 ds (Ls listed) ρ w a->wpAnyIn (FF r) nn tb.p .any ops Q fuel listed a w:=by
 intro fuel
 induction fuel with
 |zero=>
  intro listed ρ w a hsz hcnt hcl hinv;have hall: ∀i,i<ops.size->Ls listed i:=fun i hi=>aCu (Nat.le_zero.1 hcnt) (by omega);refine⟨?_,?_⟩
  . cases hr:Region.ready .any ops listed with
    |nil=>rfl
    | cons i r=>
     obtain⟨o,ho,hn,_⟩:=(D6 hsz).1 (show i ∈ Region.ready .any ops listed by rw[hr];exact aG1);have hi:i<ops.size:=by
      rcases aLb i ops.size with h1|h1
      . exact h1
      rw[aKY h1]at ho;cases ho
     exact absurd (hall i hi) hn
  obtain⟨h1,h2⟩:=aDu hR hs hall hinv;exact hq ρ w a h1 h2 hinv.defers
 |succ fuel ih=>
  intro listed ρ w a hsz hcnt hcl hinv;refine⟨fun hr=>?_,fun i hi=>?_⟩
  . obtain⟨h1,h2⟩:=aDu hR hs (aCy hR.back hsz hr) hinv;exact hq ρ w a h1 h2 hinv.defers
  obtain⟨o,ho,hn,he⟩:=(D6 hsz).1 hi;have hilt:i<listed.size:=by
   rcases aLb i ops.size with h1|h1
   . omega
   rw[aKY h1]at ho;cases ho
  have aTm: ∀j,An (kU ops.toList []) i j->Ls listed j:=fun j hj=>by
   obtain⟨e,k1,k2,k3⟩:=(N8 hR.back ho).1 hj;rcases k3 with rfl|k3
   . exact he e k1 k2
   exact hcl _ _ (he e k1 k2) k3
  have aWm:Now tb call G0 w0 ws cx N ops D M ρ0 ds (Ls listed) ρ w a i o:=⟨hR,hs,hinv,ho,hn,aTm,hcl⟩;refine aWm.op hT hc hg hl (fun ρ' w' a' hinv'=>?_);refine ih (listed.setIfInBounds i true) ρ' w' a' (by simp[hsz]) (count_set hilt hn hcnt) ?_ (by rw[aI0 hilt];exact hinv');rw[aI0 hilt];rintro j k (hj|rfl) hjk
  . exact .inl (hcl j k hj hjk)
  exact .inl (aTm k hjk)
end
section
variable[Gh]{w0:World}{tb:Tab}{call:dK}{cx:Cx}{N:Nat}{ops:Array Oper}{ρ:Env}{w:World}{a:Act}{Q:Exit->Act->World->Prop}{st st':St}
theorem UG(hT:fG tb w0)(hc:jS tb w0 call)(hf:fO call)(hg:cx.g=tb.g)(hl:cx.l=tb.l){id:Nat}{dr:Bool}{rd r:Option Nat}{nn:Nat}(hrd:rd=none->r=none)
 (h:region tb call cx N rd ops dr st=some st') (hs:aO w0 ρ cx st.s w) (ht:iU N ρ st.s.n a st.t) (hd:iK ρ st.s.n st.d a.defers)
 (hq: ∀ ρ' w' a',Stp w0 ρ ρ' cx st.s st'.s w w'->iU N ρ' st'.s.n a' st'.t->iK ρ' st'.s.n st'.d a'.defers->Q .normal a' w'):(Code.region id ops dr).wpIn (FF r) nn tb.p Q a w:=by
 cases dr with
 |false=>exact GR hT hc hg hl hrd h hs ht hd hq
 | true=>
  obtain⟨h1,h2⟩:=aC.1 h;obtain⟨d,h3,h4⟩:=aA.1 h2
  cases h4
  have h1':band (backOk ops.toList 0) (tOk ops ops.toList 0 (kU ops.toList []))=true:=h1;rw[dI,aFU]at h1';obtain⟨D,M,k1,k2,k3,k4⟩:=NJ _ _ _ _ _ _ h3;rw[aJU,aJm]at k2;have hs0:aO w0 ρ cx (D 0).s w:=by rw[k1];exact hs
  have hR:Run tb call cx N ops D M:={
   at_:=fun k o an ho ha=>by
    have:=k4 k o an (by rw[aGY];exact ho) ha;rwa[aJU]at this
   iv0:=by rw[k1]
   es0:=by rw[k1]
   y8:=by rw[k1];exact hs.y8
   rD:=by rw[k1];exact hs.rD
   back:=h1'.1
   tok:=h1'.2
   fr:=hf }
  have aJl:Stp w0 ρ ρ cx (D 0).s (D 0).s w { w with drawn:=w.drawn+1 }:=hs0.world ⟨rfl,rfl,rfl,aCU _,fun _ _=>rfl⟩;refine wpIn_region_any hT.mixed ?_;have hinit: ∀j,¬Ls (Array.replicate ops.size false) j:=fun j hj=>by
   have hlt:=aS4 hj;unfold Ls at hj;simp at hlt;simp[Array.getD,hlt]at hj
  refine aGq hT hc hg hl hR aJl.sat (ds:=a.defers) (fun ρ' w' a' g1 g2 g3=>?_) _ _ ρ _ a (by simp) ?_ (fun j k hj=>absurd hj (hinit j)) (aJc hR aJl.sat (by rw[k1];exact ht) hinit)
  . have g4:=aJl.trans g1;rw[k1,k2]at g4;rw[k2]at g2;exact hq ρ' w' a' g4 g2 (by rw[g3];exact hd.ext g4.ext g4.n)
  simp
end
end Ev
end
section
open Go.RowKit
namespace Ev
theorem mP{k:St->CR}{r:CR}{e:Ex}{st:St}(h:MI k r=some (e,st)):(∃st1,r=some (.normal,st1)/\k st1=some (e,st))\/(r=some (e,st)/\e≠ .normal):=by
 obtain⟨⟨e1,st1⟩,rfl,h2⟩:=aA.1 h
 cases e1 with
 |normal=>exact .inl ⟨st1,rfl,h2⟩
 |exit i=>cases h2;exact .inr ⟨rfl,fun h=>by cases h⟩
 |ret=>cases h2;exact .inr ⟨rfl,fun h=>by cases h⟩
theorem FU{id:Nat}{r:CR}{e:Ex}{st:St}(h:aI8 id r=some (e,st)): ∃e1,r=some (e1,st)/\((e1=.normal/\e=.normal)\/(e1=.exit id/\e=.normal)\/(∃i,i≠id/\e1=.exit i/\e=.exit i)\/(e1=.ret/\e=.ret)):=by
 obtain⟨⟨e1,st1⟩,rfl,h2⟩:=aA.1 h
 cases e1 with
 |normal=>cases h2;exact⟨_,rfl,.inl ⟨rfl,rfl⟩⟩
 | exit i=>
  cases hb:Nat.beq i id with
  |true=>
   have h3:Bool.rec (motive:=fun _=>CR) (some (.exit i,st1)) (some (.normal,st1)) (Nat.beq i id)=some (e,st):=h2;rw[hb]at h3;cases h3;have:=beq_iff.1 hb;subst this;exact⟨_,rfl,.inr (.inl ⟨rfl,rfl⟩)⟩
  |false=>
   have h3:Bool.rec (motive:=fun _=>CR) (some (.exit i,st1)) (some (.normal,st1)) (Nat.beq i id)=some (e,st):=h2;rw[hb]at h3;cases h3;exact⟨_,rfl,.inr (.inr (.inl ⟨i,fun h=>(by rw[beq_iff.2 h]at hb;cases hb),rfl,rfl⟩))⟩
 |ret=>cases h2;exact⟨_,rfl,.inr (.inr (.inr ⟨rfl,rfl⟩))⟩
section
variable{tb:Tab}{call:dK}{cx:Cx}{N:Nat}{rd:Option Nat}
theorem aEx(hf:fO call){all:List Oper}(l:List Oper): ∀(t:TE) (s:Hs) (dl:DL) (st:St),aA9 tb call cx N rd all l t s dl=some st->Fq cx.fl cx.hid s st.s:=by
 induction l with
 |nil=>intro t s dl st h;cases h;exact Fq.refl _ _ _
 | cons o l ih=>
  intro t s dl st h;obtain⟨b,h1,h2⟩:=aA.1 h
  cases b with
  |false=>obtain⟨t1,h3,h4⟩:=aA.1 h2;exact ih _ _ _ _ h4
  | true=>
   obtain⟨r,h3,h4⟩:=aA.1 h2
   cases r with
   |ok v s1=>
    obtain⟨t1,h5,h6⟩:=aA.1 h4;exact(aH3 hf o.op v s1 h3).trans (ih _ _ _ _ h6)
   |dfr f xs=>obtain⟨_,h4⟩:=aC.1 h4;obtain⟨t1,h5,h6⟩:=aA.1 h4;exact ih _ _ _ _ h6
theorem aEP(hf:fO call){os:Array Oper}{dr:Bool}{st st':St}(h:region tb call cx N rd os dr st=some st'):Fq cx.fl cx.hid st.s st'.s:=by
 cases dr with
 |false=>exact aEx hf _ _ _ _ _ h
 | true=>
  obtain⟨h1,h2⟩:=aC.1 h;obtain⟨d,h3,h4⟩:=aA.1 h2
  cases h4
  obtain⟨D,M,k1,k2,k3,k4⟩:=NJ _ _ _ _ _ _ h3;have key: ∀k,k<=os.toList.length->Fq cx.fl cx.hid (D 0).s (D k).s:=by
   intro k
   induction k with
   |zero=>intro _;exact Fq.refl _ _ _
   |succ k ih=>
    intro hk;refine(ih (by omega)).trans ?_;have h5:os.toList[k]? =some os.toList[k]:=aGX (by omega);have h6:k<(kU os.toList []).length:=by omega
    have h7:=k4 k _ _ h5 (aGX h6);rw[aJU]at h7;rcases h7.run with⟨_,_,h8,_⟩|⟨_,h8,_⟩
    . rw[h8];exact Fq.refl _ _ _
    exact(aH3 (cx:=⟨cx.g,cx.l,(M k).fl,(M k).hid⟩) hf _ _ _ h8).mono h7.seen.mono
  have:=key _ (aCU _);rw[aJU]at k2;rw[k1,k2]at this;exact this
theorem X7{st:St}{K:Nat->Hs->DL->CR}{x:Ex × St}(h:rgD cx rd st K=some x):(rd=none/\K st.s.n ⟨st.s.h.set st.s.n .df,st.s.n+1⟩ ((QF,[.ptr st.s.n 0])::st.d)=some x)\/
 ∃l s0 jm N t ps a0t bd d,rd=some l/\st.s.look cx.hid l=some (.lp s0 jm N t ps a0t bd d)/\K d st.s st.d=some x:=by
 cases rd with
 |none=>exact .inl ⟨rfl,h⟩
 |some l=>
  obtain⟨o,h1,h2⟩:=aA.1 h;obtain⟨s0,jm,N,t,ps,a0t,bd,d,rfl,h3⟩:=uD h2;exact .inr ⟨l,s0,jm,N,t,ps,a0t,bd,d,rfl,h1,h3⟩
theorem KL{L:Nat}{t:TE}{d:DL}{s:Hs}{x:Ex × St}(h:aC9 cx L t d s=some x):cx.fl<=L/\ ∃s0 jm N t' ps a0t bd D,s.look cx.hid L=some (.lp s0 jm N t' ps a0t bd D)/\aDj s0=true/\
 x=(Option.rec (motive:=fun _=>Ex) .normal jmE jm,⟨t,⟨s.h.del L,s.n⟩,d⟩):=by
 obtain⟨h1,h2⟩:=aC.1 h;obtain⟨o,h3,h4⟩:=aA.1 h2;obtain⟨s0,jm,N,t',ps,a0t,bd,D,rfl,h5⟩:=uD h4;obtain⟨h6,h7⟩:=aC.1 h5
 cases h7
 exact⟨aK.1 h1,s0,jm,N,t',ps,a0t,bd,D,h3,h6,rfl⟩
theorem CU(hf:fO call)(f:Nat): ∀(c:Code) (st:St) (e:Ex) (st':St),code tb call cx N rd f c st=some (e,st')->Fq cx.fl cx.hid st.s st'.s:=by
 induction f with
 |zero=>intro c st e st' h;cases h
 | succ f ih=>
  intro c st e st' h;have seq: ∀ {x y:Code},MI (code tb call cx N rd f y) (code tb call cx N rd f x st)=some (e,st')->Fq cx.fl cx.hid st.s st'.s:=by
   intro x y h;rcases mP h with⟨st1,h1,h2⟩|⟨h1,_⟩
   . exact(ih _ _ _ _ h1).trans (ih _ _ _ _ h2)
   exact ih _ _ _ _ h1
  cases c with
  |skip=>cases h;exact Fq.refl _ _ _
  |region id os d=>obtain⟨t,h1,h2⟩:=aA.1 h;cases h2;exact aEP hf h1
  |seq a b=>exact seq h
  |cond c a b=>
   obtain⟨x,_,h2⟩:=aA.1 h;obtain⟨b,_,h3⟩:=nY h2;exact ih _ _ _ _ h3
  |block id c=>obtain⟨e1,h1,_⟩:=FU h;exact ih _ _ _ _ h1
  |loop c=>exact seq h
  |exit id=>cases h;exact Fq.refl _ _ _
  |scope c=>exact ih _ _ _ _ h
  |label l=>cases h;exact Fq.refl _ _ _
  |ret=>cases h;exact Fq.refl _ _ _
  | rangeFunc g ps a0t bd=>
   obtain⟨gv,_,h2⟩:=aA.1 h;have tail: ∀ {D:Nat} {s1:Hs} {d1:DL},Fq cx.fl cx.hid st.s s1->fnV gv [.fn (.yield 0) [.ptr s1.n 0] []] (fun f xs=>gd (Nat.ble (f+1) yF) (ob (tb.fn.get f) (fun _=>
    ob (call cx.fl cx.hid f xs ⟨setH s1.h s1.n (.lp .ready none N st.t ps a0t bd D),s1.n+1⟩) (fun p=>aC9 cx s1.n st.t d1 p.2))))=some (e,st')->Fq cx.fl cx.hid st.s st'.s:=by
    intro D s1 d1 h0 h;obtain⟨f,xs,h3⟩:=aJz h;obtain⟨_,h4⟩:=aC.1 h3;obtain⟨_,_,h5⟩:=aA.1 h4;obtain⟨p,h6,h7⟩:=aA.1 h5;obtain⟨h8,s0,jm,N',t',ps',as',bd',D',h9,_,h10⟩:=KL h7
    cases h10
    exact(h0.trans (Fq.new _ _ _ _)).trans ((hf _ _ _ _ _ p.1 p.2 h6).trans (Fq.del h9 h8))
   rcases X7 h2 with⟨_,h3⟩|⟨l,s0,jm,N',t,ps',as',bd',d,_,_,h3⟩
   . exact tail (Fq.new _ _ _ _) h3
   exact tail (Fq.refl _ _ _) h3
  |_=>cases h
end
def ND:Ex->Exit
 | .normal=>.normal
 | .exit i=>.exit i
 | .ret=>.ret
section
variable[Gh]{w0:World}{tb:Tab}{call:dK}{cx:Cx}{N:Nat}
def Post(w0:World)(cx:Cx)(N:Nat)(st st':St)(ρ:Env)(w:World)(K:Act->World->Prop):Prop:=
 ∀ ρ' w' a',Stp w0 ρ ρ' cx st.s st'.s w w'->iU N ρ' st'.s.n a' st'.t->iK ρ' st'.s.n st'.d a'.defers->K a' w'
def aAI(ρ:Env)(n:Nat):Option Nat->Option Nat->Prop
 |none,none=>True
 |some b,some l=>Gd n b/\ρ.blk b=l
 |_,_=>False
theorem aAI.ext{ρ ρ':Env}{n m:Nat}(h:Ext n ρ ρ')(hm:n<=m): ∀ {rd r:Option Nat},aAI ρ n rd r->aAI ρ' m rd r
 |none,none,_=>trivial
 |some b,some l,hd=>⟨⟨aF7 hd.1.1 hm,hd.1.2⟩,(h b hd.1.1).1.trans hd.2⟩
 |none,some _,hd=>hd.elim
 |some _,none,hd=>hd.elim
theorem aAI.none{ρ:Env}{n:Nat}{rd r:Option Nat}(h:aAI ρ n rd r)(e:rd=none):r=none:=by
 subst e
 cases r with
 |none=>rfl
 |some l=>exact h.elim
omit[Gh]in
theorem yM{F:Fence}{n:Nat}{P:Program}{a:Act}{w:World}{Q:Exit->Act->World->Prop}{c:Code}(h:c.wpIn F n P (Exit.noGoto Q) a w):(Code.scope c).wpIn F n P Q a w:=by
 intro b k cs hro hb hr;have st1:step P (lone (b.atR a (.code (.scope c)::k)) cs w)=.next (lone (b.atR a (.code c:: .inScope c::k)) cs w):=step_lone_go (by simp[stepG,stepG.exec,Frame.atR]);have st2: ∀a w,step P (lone (b.atR a (.inScope c::k)) cs w)=.next (lone (b.atR a k) cs w):=fun a w=>step_lone_go (by simp[stepG,stepG.exec,Frame.atR]);have h0:(lone (b.atR a (.code (.scope c)::k)) cs w).fenced P F:=fenced_calm hb hr rfl;obtain⟨e,a₁,w₁,hq,harr⟩:=h b (.inScope c::k) cs hro hb hr
 cases e with
 |normal=>exact⟨.normal,a₁,w₁,hq,.head h0 st1 (StepsIn.trans harr (.one (fenced_calm hb hr rfl) (st2 _ _)))⟩
 |exit id=>
  have hx:exitTo id (.inScope c::k)=exitTo id k:=by simp[exitTo]
  exact⟨.exit id,a₁,w₁,hq,fun k' hk=>.head h0 st1 (harr.1 k' (by rw[hx];exact hk)),fun hr' hk=>let⟨k₁,h1,h2⟩:=harr.2 hr' (by rw[hx];exact hk);⟨k₁,h1,.head h0 st1 h2⟩⟩
 |goto l=>exact hq.elim
 |ret=>exact⟨.ret,a₁,w₁,hq,.of_steps (.one h0 st1) ⟨harr.1,harr.2⟩⟩
 |panic ch=>exact⟨.panic ch,a₁,w₁,hq,.of_steps (.one h0 st1) (show ArrivesIn _ P _ b k cs (.panic ch) a₁ w₁ from harr)⟩
 |outgrown=>exact⟨.outgrown,a₁,w₁,hq,.of_steps (.one h0 st1) (show ArrivesIn _ P _ b k cs .outgrown a₁ w₁ from harr)⟩
omit[Gh]in
theorem kV{w:World}{r:Nat}{o:Obj}:CY r w (w.putObj r o):=⟨rfl,rfl,rfl,by simp,fun k hk=>World.putObj_heap_other hk⟩
theorem aAG.ext{ρ ρ':Env}{n m N:Nat}{tm:Array Value}{t:TE}(h:Ext n ρ ρ')(hm:n<=m)(ht:aAG ρ n N tm t):aAG ρ' m N tm t:=
 ⟨ht.1,fun i v hv=>by obtain⟨k1,k2,k3⟩:=ht.2 i v hv;exact⟨Sc.mono hm _ k1,k2,by rw[nJ h _ k1];exact k3⟩⟩
omit[Gh]in
theorem run_enterLoop_inner{P:Program}{w:World}{l:Nat}{r:Loop}(h:w.heap[l]? =some (.loop r))(fn:FuncId)(tmps:Array Value)(ps:Array Tmp)(assign body:Code):
 (Instr.enterLoop fn tmps ps assign body (some l)).run P w=.ok (w.heap.size,[]) (w.alloc (.loop { state:=.ready,pending:=none,fn,tmps,params:=ps,assign,body,defers:=r.defers })):=by
 unfold Instr.enterLoop;simp only[aFW,run_getLoop h,run_newObj_alloc,Result.andThen,aGf]
theorem KX(hT:fG tb w0)(hc:jS tb w0 call)(hg:cx.g=tb.g)(hl:cx.l=tb.l){r:Option Nat}{nn:Nat}{g:Operand}{gv:AV}{ps:Array Tmp}{a0t bd:Code}{st:St}{s1:Hs}{d1:DL}{D:Nat}{e:Ex}{st':St}
 (h:fnV gv [.fn (.yield 0) [.ptr s1.n 0] []] (fun f xs=>gd (Nat.ble (f+1) yF) (ob (tb.fn.get f) (fun _=>
   ob (call cx.fl cx.hid f xs ⟨setH s1.h s1.n (.lp .ready none N st.t ps a0t bd D),s1.n+1⟩) (fun p=>aC9 cx s1.n st.t d1 p.2))))=some (e,st'))
 {ρ ρ1:Env} {w w1:World} {a:Act} {Q:Exit->Act->World->Prop} (h1:Stp w0 ρ ρ1 cx st.s s1 w w1) (hgv:Sc st.s.n gv/\a.eval g=den ρ gv) (ht:iU N ρ st.s.n a st.t) {mark:List Deferred} (hd:iK ρ1 s1.n d1 (mark++a.defers)) (hD:Gd s1.n D)
 (henter: ∀fn,(Instr.enterLoop fn a.tmps ps a0t bd r).run tb.p w=.ok (w1.heap.size,mark) (w1.alloc (.loop { state:=.ready,pending:=none,fn,tmps:=a.tmps,params:=ps,assign:=a0t,body:=bd,defers:=ρ1.blk D })))
 (hq:Post w0 cx N st st' ρ w (Q (ND e))):(Code.rangeFunc g ps a0t bd).wpIn (FF r) nn tb.p Q a w:=by
 have aTe:=Sc.mono h1.n _ hgv.1;refine wpIn_rangeFunc (fun fn _=>?_);obtain⟨rec,hrec⟩: ∃rec:Loop,rec={ state:=.ready,pending:=none,fn,tmps:=a.tmps,params:=ps,assign:=a0t,body:=bd,defers:=ρ1.blk D }:=⟨_,rfl⟩;have h2:Stp w0 ρ1 (ρ1.add s1.n w1.heap.size 0) cx s1 ⟨s1.h.set s1.n (.lp .ready none N st.t ps a0t bd D),s1.n+1⟩ w1 (w1.alloc (.loop rec)):=by
  refine h1.sat.alloc _ _ 0 ⟨Env.fE _ _ _ _,rec,?_,?_,⟨aVW hD.1,hD.2⟩,?_⟩
  . rw[Env.bM];exact aU9 _ _
  . subst hrec;refine⟨rfl,rfl,rfl,rfl,rfl,?_⟩;exact(Env.OE _ (Nat.ne_of_lt hD.1)).symm
  subst hrec;exact aAG.ext (Env.qU _ _ _ _) (aQm _) (aAG.ext h1.ext h1.n ⟨ht.size,ht.val⟩)
 obtain⟨ρ2,hρ2⟩: ∃ ρ2,ρ2=ρ1.add s1.n w1.heap.size 0:=⟨_,rfl⟩;have hL:ρ2.blk s1.n=w1.heap.size:=by rw[hρ2];exact Env.bM _ _ _ _
 rw[<-hρ2]at h2;obtain⟨W,hW⟩: ∃W,W=w1.alloc (.loop rec):=⟨_,rfl⟩;rw[<-hW]at h2;have hy:den ρ2 (.fn (.yield 0) [.ptr s1.n 0] [])=.func (.yield w1.heap.size) #[] #[]:=by
  show Value.func (.yield (ρ2.blk s1.n)) #[] #[]=_;rw[hL]
 have aWu:Sc (s1.n+1) gv:=Sc.mono (aQm _) _ aTe;have aTi:a.eval g=den ρ2 gv:=by
  rw[hgv.2,<-nJ h1.ext _ hgv.1,<-nJ h2.ext _ aTe]
 have hys:iH (s1.n+1) [.fn (.yield 0) [.ptr s1.n 0] []]:=⟨⟨⟨⟨aKZ _,h1.sat.good _ (aCU _)⟩,trivial⟩,trivial⟩,trivial⟩;obtain⟨gf,fi,ca,xs',h5,h6,h7,h8⟩:=BP h ρ2 aWu hys;obtain⟨hlt,h5⟩:=aC.1 h5;obtain⟨fn',hfn,h5⟩:=aA.1 h5;obtain⟨p,h9,h10⟩:=aA.1 h5;obtain⟨h11,s0,jm,N',t',ps',as',bd',D',h12,h13,WU⟩:=KL h10
 cases WU
 have hcx:cx=⟨tb.g,tb.l,cx.fl,cx.hid⟩:=by cases cx;simp at hg hl;simp[hg,hl]
 have hcall:=(hc _ cx.fl cx.hid gf xs' _ p.1 p.2 h9 ρ2 W (hcx ▸ h2.sat) h8).1 (by rw[aK]at hlt;rw[aMP];intro h;rw[aK]at h;omega);rw[aTi.symm]at h6;have h7':(fi++ #[Value.func (.yield w1.heap.size) #[] #[]])++ca=(xs'.map (den ρ2)).toArray:=by
  rw[<-h7,aQw,aXy,hy]
 refine⟨w1.heap.size,mark,W,⟨.fn (.func gf) ca,fi++ #[.func (.yield w1.heap.size) #[] #[]]⟩,W,gf,(xs'.map (den ρ2)).toArray,W,?_,?_,fun _ _=>trivial,?_,wS,?_⟩
 . rw[hW,hrec];exact henter fn
 . simp only[resolve,h6];simp[go_sem]
 . simp only[invoke];rw[h7'];exact(hT.fn gf fn' hfn).2 _ W
 refine aDR (hcall.mono ?_);rintro e w3 ⟨ρ3,rfl,h3,_⟩;have h3:Stp w0 ρ2 ρ3 cx ⟨s1.h.set s1.n (.lp .ready none N st.t ps a0t bd D),s1.n+1⟩ p.2 W w3:=by rw[hcx];exact h3
 have hL3:ρ3.blk s1.n=w1.heap.size:=by rw[(h3.ext s1.n (aKZ _)).1];exact hL
 obtain⟨o0,rr,o1,⟨o2,o3,o4,o5,o6,o7⟩,o8,o9⟩:=h3.sat.obj _ _ h12;rw[hL3]at o1;have aTl:rr.state≠ .busy:=by rw[o2];intro e;subst e;cases h13
 refine⟨rr.pending,_,run_endLoop o1 aTl,?_⟩;have h4:Stp w0 ρ3 ρ3 cx p.2 ⟨p.2.h.set s1.n (.lp .exhausted jm N' t' ps' as' bd' D'),p.2.n⟩ w3 (w3.putObj w1.heap.size (.loop { rr with state:=.exhausted })):=by
  refine h3.sat.put h12 h11 (hL3 ▸ kV) ⟨o0,{ rr with state:=.exhausted },?_,⟨rfl,o3,o4,o5,o6,o7⟩,o8,o9⟩;rw[hL3];exact aUo (aTn.1 o1).1
 have h5:=h4.sat.del (b:=s1.n) (o:=.lp .exhausted jm N' t' ps' as' bd' D') (Hs.bV.2 ⟨(Hs.bV.1 h12).1,Tr.oL _ _ _⟩) h11;have hdel:((p.2.h.set s1.n (.lp .exhausted jm N' t' ps' as' bd' D')).del s1.n)=p.2.h.del s1.n:=Tr.Q8 _ _ _ _;have h5:Stp w0 ρ3 ρ3 cx _ ⟨p.2.h.del s1.n,p.2.n⟩ _ _:=hdel ▸ h5;have hall:=((h1.trans h2).trans h3).trans (h4.trans h5);have hpost:=hq ρ3 _ { a with defers:=mark++a.defers } hall
  ⟨ht.size,fun i v hv=>(ht.ext hall.ext hall.n).val i v hv⟩ (hd.ext ((h2.trans h3).ext) ((h2.trans h3).n))
 revert hpost;generalize w3.putObj w1.heap.size (.loop { rr with state:=.exhausted })=W4;intro hpost;rw[o3]
 cases jm with
 |none=>exact hpost
 |some j=>
  cases j with
  |none=>exact wpIn_ret hpost
  |some i=>exact wpIn_exit hpost
theorem iI(hT:fG tb w0)(hc:jS tb w0 call)(hf:fO call)(hg:cx.g=tb.g)(hl:cx.l=tb.l){rd:Option Nat}(f:Nat):
 (∀(c:Code) (st:St) (e:Ex) (st':St),code tb call cx N rd f c st=some (e,st')-> ∀(ρ:Env) (w:World) (a:Act) (Q:Exit->Act->World->Prop) (r:Option Nat) (nn:Nat),aAI ρ st.s.n rd r->
   aO w0 ρ cx st.s w->iU N ρ st.s.n a st.t->iK ρ st.s.n st.d a.defers->Post w0 cx N st st' ρ w (Q (ND e))->c.wpIn (FF r) nn tb.p Q a w)/\
 (∀(c:Code) (st:St) (e:Ex) (st':St),code tb call cx N rd f (.loop c) st=some (e,st')-> ∀(ρ:Env) (w:World) (a:Act) (Q:Exit->Act->World->Prop) (r:Option Nat) (nn:Nat),aAI ρ st.s.n rd r->
   aO w0 ρ cx st.s w->iU N ρ st.s.n a st.t->iK ρ st.s.n st.d a.defers->Post w0 cx N st st' ρ w (Q (ND e))->Code.roundsIn (FF r) nn tb.p c Q f a w):=by
 induction f with
 |zero=>exact⟨fun c st e st' h=>(by cases h),fun c st e st' h=>(by cases h)⟩
 | succ f ih=>
  obtain⟨ih1,ih2⟩:=ih;have loops: ∀(c:Code) (st:St) (e:Ex) (st':St),code tb call cx N rd (f+1) (.loop c) st=some (e,st')-> ∀(ρ:Env) (w:World) (a:Act) (Q:Exit->Act->World->Prop) (r:Option Nat) (nn:Nat),aAI ρ st.s.n rd r->
   aO w0 ρ cx st.s w->iU N ρ st.s.n a st.t->iK ρ st.s.n st.d a.defers->Post w0 cx N st st' ρ w (Q (ND e))->Code.roundsIn (FF r) nn tb.p c Q (f+1) a w:=by
   intro c st e st' h ρ w a Q r nn hrd hs ht hd hq;rw[roundsIn_succ];rcases mP (show MI (code tb call cx N rd f (.loop c)) (code tb call cx N rd f c st)=some (e,st')from h)with⟨st1,h1,h2⟩|⟨h1,hne⟩
   . refine ih1 _ _ _ _ h1 ρ w a _ r nn hrd hs ht hd (fun ρ1 w1 a1 s1 t1 d1=>?_);exact ih2 _ _ _ _ h2 ρ1 w1 a1 Q r nn (hrd.ext s1.ext s1.n) s1.sat t1 d1 (fun ρ2 w2 a2 s2 t2 d2=>hq ρ2 w2 a2 (s1.trans s2) t2 d2)
   refine ih1 _ _ _ _ h1 ρ w a _ r nn hrd hs ht hd (fun ρ1 w1 a1 s1 t1 d1=>?_);have:=hq ρ1 w1 a1 s1 t1 d1
   cases e with
   |normal=>exact absurd rfl hne
   |exit i=>exact this
   |ret=>exact this
  refine⟨fun c st e st' h ρ w a Q r nn hrd hs ht hd hq=>?_,loops⟩
  cases c with
  |skip=>cases h;exact wpIn_skip (hq ρ w a (Stp.refl hs) ht hd)
  |label l=>cases h;exact wpIn_label (hq ρ w a (Stp.refl hs) ht hd)
  |exit id=>cases h;exact wpIn_exit (hq ρ w a (Stp.refl hs) ht hd)
  |ret=>cases h;exact wpIn_ret (hq ρ w a (Stp.refl hs) ht hd)
  |region id os dr=>
   obtain⟨t,h1,h2⟩:=aA.1 h
   cases h2
   exact UG hT hc hf hg hl hrd.none h1 hs ht hd hq
  |seq x y=>
   refine wpIn_seq ?_;rcases mP (show MI (code tb call cx N rd f y) (code tb call cx N rd f x st)=some (e,st')from h)with⟨st1,h1,h2⟩|⟨h1,hne⟩
   . refine ih1 _ _ _ _ h1 ρ w a _ r nn hrd hs ht hd (fun ρ1 w1 a1 s1 t1 d1=>?_);exact ih1 _ _ _ _ h2 ρ1 w1 a1 Q r nn (hrd.ext s1.ext s1.n) s1.sat t1 d1 (fun ρ2 w2 a2 s2 t2 d2=>hq ρ2 w2 a2 (s1.trans s2) t2 d2)
   refine ih1 _ _ _ _ h1 ρ w a _ r nn hrd hs ht hd (fun ρ1 w1 a1 s1 t1 d1=>?_);have:=hq ρ1 w1 a1 s1 t1 d1
   cases e with
   |normal=>exact absurd rfl hne
   |exit i=>exact this
   |ret=>exact this
  |cond c x y=>
   obtain⟨v,h1,h2⟩:=aA.1 h;obtain⟨b,rfl,h3⟩:=nY h2;have hv:=(ht.vals hT.y9 hs hg (.move c) c (by simp[Op.operands]) _ h1).2;refine wpIn_cond (t:=b) hv ?_
   cases b with
   |true=>exact ih1 _ _ _ _ h3 ρ w a Q r nn hrd hs ht hd hq
   |false=>exact ih1 _ _ _ _ h3 ρ w a Q r nn hrd hs ht hd hq
  |block id c=>
   obtain⟨e1,h1,h2⟩:=FU h;refine wpIn_block (ih1 _ _ _ _ h1 ρ w a _ r nn hrd hs ht hd (fun ρ1 w1 a1 s1 t1 d1=>?_));have:=hq ρ1 w1 a1 s1 t1 d1;rcases h2 with⟨rfl,rfl⟩|⟨rfl,rfl⟩|⟨i,hi,rfl,rfl⟩|⟨rfl,rfl⟩
   . exact this
   . show Exit.inBlock id Q (.exit id) a1 w1;simp only[Exit.inBlock,aTF];exact this
   . show Exit.inBlock id Q (.exit i) a1 w1;simp only[Exit.inBlock,hi,aRv];exact this
   exact this
  |loop c=>exact wpIn_loop_rounds (f+1) (loops c st e st' h ρ w a Q r nn hrd hs ht hd hq)
  |scope c=>
   refine yM (ih1 _ _ _ _ h ρ w a _ r nn hrd hs ht hd (fun ρ1 w1 a1 s1 t1 d1=>?_));have:=hq ρ1 w1 a1 s1 t1 d1
   cases e<;>exact this
  |rangeFunc g ps a0t bd=>
   obtain⟨gv,h1,h2⟩:=aA.1 h;have hv:=ht.vals hT.y9 hs hg (.move g) g (by simp[Op.operands]) _ h1;rcases X7 h2 with⟨rfl,h3⟩|⟨l,s0,jm,N',t',ps',as',bd',D,rfl,h4,h3⟩
   . obtain rfl:=hrd.none rfl;have k1:Stp w0 ρ (ρ.add st.s.n w.heap.size 0) cx st.s ⟨st.s.h.set st.s.n .df,st.s.n+1⟩ w (w.alloc (.deferred (some []))):=
      hs.alloc _ .df 0 ⟨Env.fE _ _ _ _,by rw[Env.bM];exact aU9 _ _⟩
     have hgd:Gd (st.s.n+1) st.s.n:=⟨aKZ _,hs.good _ (aCU _)⟩;refine KX hT hc hg hl (s1:=⟨st.s.h.set st.s.n .df,st.s.n+1⟩) h3 k1 hv ht (mark:=[{ target:=.collected w.heap.size,args:= #[] }]) ⟨⟨⟨hgd,trivial⟩,.inr ⟨rfl,_,rfl,by rw[Env.bM]⟩⟩,hd.ext k1.ext k1.n⟩ hgd (fun fn=>?_) hq;rw[Env.bM,World.size_alloc];exact run_enterLoop_outer _ _ _ _ _
   cases r with
   |none=>exact hrd.elim
   |some rl=>
    obtain⟨hgd,hrl⟩:=hrd;obtain⟨o0,rr,o1,⟨o2,o3,o4,o5,o6,o7⟩,o8,o9⟩:=hs.obj _ _ h4;refine KX hT hc hg hl h3 (Stp.refl hs) hv ht (mark:=[]) hd o8 (fun fn=>?_) hq;rw[<-o7,<-hrl];exact run_enterLoop_inner o1 _ _ _ _ _
  |_=>cases h
end
end Ev
end
section
open Go.RowKit
namespace Ev
theorem aEG{α:Type}{P:Program}{w:World}{ρ:Env}{f:α->Sem Value}{g:α->Option AV}: ∀(l:List α) (r:List AV),oD g l=some r->
 (∀x ∈ l,∀v,g x=some v->(f x).run P w=.ok (den ρ v) w)->(l.mapM f).run P w=.ok (r.map (den ρ)) w:=by
 intro l
 induction l with
 |nil=>intro r h _;cases h;simp
 |cons x l ih=>
  intro r h hf;obtain⟨v,h1,h2⟩:=aA.1 (show ob (g x) (fun v=>ob (oD g l) (fun vs=>some (v::vs)))=some r from h);obtain⟨vs,h3,h4⟩:=aA.1 h2
  cases h4
  have e1:=hf x aG1 v h1;have e2:=ih vs h3 (fun y hy=>hf y (aHg _ hy));simp only[List.mapM_cons,aFW,e1,aCR,e2,aGf,aQw]
theorem aGp: ∀(l:List AV) (n:Nat) (t:TE) (i:Nat),nU (F8 n l t) i=if n<=i/\i<n+l.length then l[i - n]? else nU t i:=by
 intro l
 induction l with
 |nil=>intro n t i;rw[aB9 (fun h=>by have:=h.1;have:=h.2;simp at this;omega)];rfl
 |cons v l ih=>
  intro n t i;show nU (F8 (n+1) l (OY t n v)) i=_;rw[ih]
  by_cases h1:n=i
  . subst h1;rw[aB9 (by omega),wL,aFV (by simp)];simp
  rw[nT _ _ h1]
  by_cases h2:n+1<=i/\i<n+1+l.length
  . rw[aFV h2,aFV (by simp;omega)];rw[show i - n=(i - (n+1))+1 by omega];rfl
  rw[aB9 h2,aB9 (by simp;omega)]
section
variable[Gh]{w0:World}{tb:Tab}{call:dK}{cx:Cx}{N:Nat}{ρ:Env}{s:Hs}{w:World}{a:Act}{t:TE}
theorem aAA{n:Nat}{xs:List AV}(h:xs.length<=N)(hx:iH n xs):
 iU N ρ n ⟨(xs.map (den ρ)).toArray++Array.replicate (N - (xs.map (den ρ)).toArray.size) undef,[]⟩ (F8 0 xs nilA):=by
 refine⟨by simp;omega,fun i v hv=>?_⟩;rw[aGp,ZW]at hv
 split at hv
 . rename_i hi
   have hi:i<xs.length:=by omega
   rw[aUu]at hv;refine⟨(bI _ _).1 hx v (aOt hv),by omega,?_⟩;have h2:i<(xs.map (den ρ)).toArray.size:=by simp;exact hi
   rw[Array.getElem?_append_left h2,List.getElem?_toArray,aG0,hv];rfl
 cases hv
def aHO(tmps:Array Value):ResultVar->Sem Value
 | .tmp t=>pure (tmps.getD t undef)
 | .cell b ty=>do loadVar ty (<-asAddr (tmps.getD b undef))
omit[Gh]in
theorem aBk(fn:Func)(tmps:Array Value):results fn tmps=(do let vs<-fn.results.mapM (aHO tmps);pure (if h:vs.size=1 then vs[0]else .tuple vs)):=rfl
theorem KO(hT:fG tb w0)(hs:aO w0 ρ cx s w)(ht:iU N ρ s.n a t){r:ResultVar}{v:AV}(h:aSO tb t cx s r=some v):
 (aHO a.tmps r).run tb.p w=.ok (den ρ v) w/\Sc s.n v:=by
 cases r with
 |tmp k=>
  obtain⟨h1,h2,h3⟩:=ht.val k v h;refine⟨?_,h1⟩;simp only[aHO,aGf,aWD,h3,aUx]
 |cell b ty=>
  obtain⟨i,h1,h2⟩:=aA.1 h;obtain⟨y,h3,h4⟩:=aA.1 h2;obtain⟨c,off,rfl,h5⟩:=fB h4;obtain⟨o,h6,h7⟩:=aA.1 h5;obtain⟨cells,ho,h8⟩:=oP h7;obtain⟨_,_,h9⟩:=ht.val b _ h3;obtain⟨h11,h12⟩:=E8 (hT.ty ty i h1) (hs.obj c o h6) ho h8;refine⟨?_,h12⟩;simp only[aHO,aWD,h9,aUx,den,asAddr,aFW,aGf,aCR,h11]
theorem aA7(l:List AV):den ρ (single l)=(if h:(l.map (den ρ)).toArray.size=1 then(l.map (den ρ)).toArray[0]else .tuple (l.map (den ρ)).toArray):=by
 cases l with
 |nil=>simp[single,den,dD]
 | cons x l=>
  cases l with
  |nil=>rfl
  |cons y l=>
   rw[dif_neg (by simp)];show den ρ (.aS (x::y::l))=_;rw[den,dD]
theorem aEv{n:Nat}{l:List AV}(h:iH n l):Sc n (single l):=by
 cases l with
 |nil=>exact trivial
 |cons x l=>
  cases l with
  |nil=>exact h.1
  |cons y l=>exact h
theorem yU(hT:fG tb w0)(hs:aO w0 ρ cx s w)(ht:iU N ρ s.n a t){fn:Func}{v:AV}(h:rQ tb fn t cx s=some v):
 (results fn a.tmps).run tb.p w=.ok (den ρ v) w/\Sc s.n v:=by
 obtain⟨l,h1,h2⟩:=aA.1 h
 cases h2
 refine⟨?_,aEv ((bI _ _).2 (LZ h1 (fun r _ v hv=>(KO hT hs ht hv).2)))⟩;have key:=aEG (P:=tb.p) (w:=w) (ρ:=ρ) (f:=aHO a.tmps) _ _ h1
  (fun r _ v hv=>(KO hT hs ht hv).1)
 rw[aBk];simp only[aFW,Array.mapM_eq_mapM_toList,Sem.run_map,key,aCR,aGf,aA7]
end
end Ev
end
section
open Go.RowKit
namespace Ev
theorem YA{c:Code}{d:Option Tmp}(h:KU c=some d): ∃id os args ts ty pos af,c=.region id os false/\os.toList=[⟨d,.call ⟨.builtin .recover,args,ts⟩,ty,pos,af,none⟩]:=by
 unfold KU at h
 split at h
 . rename_i i os
   split at h
   . rename_i hos;cases h;exact⟨i,os,_,_,_,_,_,rfl,hos⟩
   cases h
 cases h
theorem wV{tb:Tab}{call:dK}{cx:Cx}{f:FuncId}{xs:List AV}{s s':Hs}(h:EP tb call cx f xs s=some s'):
 ∃fn x y e st v,tb.fn.get f=some fn/\fn.body=some (.seq x y)/\xs.length<=fn.ntmps/\MI (code tb call cx fn.ntmps none fuel y) (aAl tb call cx fn.ntmps fuel x ⟨F8 0 xs nilA,s,[]⟩)=some (e,st)/\
  aIK e=true/\st.d=[]/\rQ tb fn st.t cx st.s=some v/\s'=st.s:=by
 obtain⟨fn,h1,h2⟩:=aA.1 h;obtain⟨c,h3,h4⟩:=aA.1 h2;obtain⟨h5,h6⟩:=aC.1 h4;obtain⟨⟨e,st⟩,h7,h8⟩:=aA.1 h6;obtain⟨h9,h10⟩:=aC.1 h8;obtain⟨h11,h12⟩:=aC.1 h10;obtain⟨v,h13,WU⟩:=aA.1 h12
 cases WU
 cases c with
 |seq x y=>
  refine⟨fn,x,y,e,st,v,h1,h3,?_,h7,h9,?_,h13,rfl⟩
  . have:=aK.1 h5;rwa[len_eq]at this
  change isNil st.d=true at h11
  cases hd:st.d with
  |nil=>rfl
  |cons d dl=>rw[hd]at h11;cases h11
 |_=>cases h7
section
variable{tb:Tab}{call:dK}{cx:Cx}{N:Nat}
theorem aAk(hf:fO call){f:Nat}{c:Code}{st st':St}{e:Ex}(h:aAl tb call cx N f c st=some (e,st')):Fq cx.fl cx.hid st.s st'.s:=by
 unfold aAl at h
 cases hr:KU c with
 |none=>rw[hr]at h;exact CU hf _ _ _ _ _ h
 |some d=>
  rw[hr]at h;obtain⟨t,_,h2⟩:=aA.1 h
  cases h2;exact Fq.refl _ _ _
theorem aGd(hf:fO call){f:FuncId}{xs:List AV}{s s':Hs}(h:EP tb call cx f xs s=some s'):Fq cx.fl cx.hid s s':=by
 obtain⟨fn,x,y,e,st,v,_,_,_,h1,_,_,_,rfl⟩:=wV h;rcases mP h1 with⟨st1,h2,h3⟩|⟨h2,_⟩
 . exact(aAk hf h2).trans (CU hf _ _ _ _ _ h3)
 exact aAk hf h2
theorem NQ{xs:List AV}{s s':Hs}(h:aDM cx xs s=some s'): ∃b o r,xs=.ptr b o::r/\cx.fl<=b/\s.look cx.hid b=some .df/\s'=⟨s.h.del b,s.n⟩:=by
 cases xs with
 |nil=>cases h
 |cons x r=>
  obtain⟨b,o,rfl,h2⟩:=fB h;obtain⟨h3,h4⟩:=aC.1 h2;obtain⟨ob,h5,h6⟩:=aA.1 h4
  cases ob<;>first|(cases h6;done)|(cases h6;exact⟨b,o,r,rfl,aK.1 h3,h5,rfl⟩)
theorem aCq{f:FuncId}{xs:List AV}{s s':Hs}(h:(Bool.rec (motive:=fun _=>Option Hs) (EP tb call cx f xs s) (aDM cx xs s) (Nat.beq f QF):Option Hs)=some s'):
 (Nat.beq f QF=false/\EP tb call cx f xs s=some s')\/(Nat.beq f QF=true/\aDM cx xs s=some s'):=by
 cases hb:Nat.beq f QF with
 |false=>rw[hb]at h;exact .inl ⟨rfl,h⟩
 |true=>rw[hb]at h;exact .inr ⟨rfl,h⟩
theorem aCp(hf:fO call): ∀(dl:DL) (s s':Hs),CO tb call cx dl s=some s'->Fq cx.fl cx.hid s s':=by
 intro dl
 induction dl with
 |nil=>intro s s' h;cases h;exact Fq.refl _ _ _
 |cons d dl ih=>
  intro s s' h;obtain⟨s1,h1,h2⟩:=aA.1 h;refine Fq.trans ?_ (ih _ _ h2);rcases aCq h1 with⟨_,h1⟩|⟨_,h1⟩
  . exact aGd hf h1
  obtain⟨b,o,r,_,h3,h4,rfl⟩:=NQ h1;exact Fq.del h4 h3
noncomputable def aC1(tb:Tab)(call:dK):dK:=fun fl hid f xs s=>
 ob (tb.fn.get f) (fun fn=>ob fn.body (fun c=>ob (aOF tb call ⟨tb.g,tb.l,fl,hid⟩ fn c xs s) (fun st=>ob (CO tb call ⟨tb.g,tb.l,fl,hid⟩ st.d st.s) (fun s'=>ob (rQ tb fn st.t ⟨tb.g,tb.l,fl,hid⟩ s') (fun v=>some (v,s'))))))
theorem J3{fl:Nat}{hid:Hid}{f:FuncId}{xs:List AV}{s s':Hs}{v:AV}(h:aC1 tb call fl hid f xs s=some (v,s')):
 ∃fn c e st,tb.fn.get f=some fn/\fn.body=some c/\xs.length<=fn.ntmps/\code tb call ⟨tb.g,tb.l,fl,hid⟩ fn.ntmps none fuel c ⟨F8 0 xs nilA,s,[]⟩=some (e,st)/\aIK e=true/\
  CO tb call ⟨tb.g,tb.l,fl,hid⟩ st.d st.s=some s'/\rQ tb fn st.t ⟨tb.g,tb.l,fl,hid⟩ s'=some v:=by
 obtain⟨fn,h1,h2⟩:=aA.1 h;obtain⟨c,h3,h4⟩:=aA.1 h2;obtain⟨st,h5,h6⟩:=aA.1 h4;obtain⟨s1,h7,h8⟩:=aA.1 h6;obtain⟨v1,h9,h10⟩:=aA.1 h8
 cases h10
 obtain⟨h11,h12⟩:=aC.1 h5;obtain⟨⟨e,st1⟩,h13,WU⟩:=aA.1 h12;obtain⟨h15,h16⟩:=aC.1 WU
 cases h16
 refine⟨fn,c,e,st1,h1,h3,?_,h13,h15,h7,h9⟩;have:=aK.1 h11;rwa[len_eq]at this
theorem aHx(ih:fO call):fO (aC1 tb call):=by
 intro fl hid f xs s v s' h;obtain⟨fn,c,e,st,h1,h2,h3,h4,h5,h6,h7⟩:=J3 h;exact(CU (cx:=⟨tb.g,tb.l,fl,hid⟩) ih _ _ _ _ _ h4).trans (aCp (cx:=⟨tb.g,tb.l,fl,hid⟩) ih _ _ _ h6)
theorem tJ{b:Nat}{need:LoopState->Bool}{st':LoopState}{j:Option (Option Nat)->Option (Option Nat)}{s s':Hs}(h:setSt cx b need st' j s=some s'):
 ∃st jm N t ps a0t bd d,s.look cx.hid b=some (.lp st jm N t ps a0t bd d)/\need st=true/\s'=⟨s.h.set b (.lp st' (j jm) N t ps a0t bd d),s.n⟩:=by
 obtain⟨o,h1,h2⟩:=aA.1 h;obtain⟨st,jm,N,t,ps,a0t,bd,d,rfl,h3⟩:=uD h2;obtain⟨h4,h5⟩:=aC.1 h3
 cases h5
 exact⟨st,jm,N,t,ps,a0t,bd,d,h1,h4,rfl⟩
theorem FI{b:Nat}{xs:List AV}{s s':Hs}{v:AV}(h:DY tb call cx b xs s=some (v,s')):
 cx.fl<=b/\ ∃st jm N t ps a0t bd d t1 p s2 q,s.look cx.hid b=some (.lp st jm N t ps a0t bd d)/\aKe N ps.toList xs t=some t1/\code tb call cx N (some b) fuel a0t ⟨t1,s,[]⟩=some (.normal,p)/\p.d=[]/\
  setSt cx b isReady .busy (fun j=>j) p.s=some s2/\code tb call cx N (some b) fuel bd ⟨p.t,s2,[]⟩=some q/\
  setSt cx b (fun _=>true) (Option.rec (motive:=fun _=>LoopState) .ready (fun _=>.done) (exJ q.1)) (fun _=>exJ q.1) q.2.s=some s'/\v=.v (.bool (isNone (exJ q.1))):=by
 obtain⟨h1,h2⟩:=aC.1 h;obtain⟨o,h3,h4⟩:=aA.1 h2;obtain⟨st,jm,N,t,ps,a0t,bd,d,rfl,h5⟩:=uD h4;obtain⟨t1,h6,h7⟩:=aA.1 h5;obtain⟨⟨e,p⟩,h8,h9⟩:=aA.1 h7;obtain⟨h10,h11⟩:=aC.1 h9;obtain⟨h12,h13⟩:=aC.1 h11;obtain⟨s2,WU,h15⟩:=aA.1 h13;obtain⟨q,h16,h17⟩:=aA.1 h15;obtain⟨h18,h19⟩:=aC.1 h17;obtain⟨s4,h20,h21⟩:=aA.1 h19
 cases h21
 refine⟨aK.1 h1,st,jm,N,t,ps,a0t,bd,d,t1,p,s2,q,h3,h6,?_,?_,WU,h16,h20,rfl⟩
 . cases e with
   |normal=>exact h8
   |exit i=>cases h10
   |ret=>cases h10
 change isNil p.d=true at h12
 cases hd:p.d with
 |nil=>rfl
 |cons d dl=>rw[hd]at h12;cases h12
theorem aEM(ih:fO call){b:Nat}{xs:List AV}{s s':Hs}{v:AV}(h:DY tb call cx b xs s=some (v,s')):Fq cx.fl cx.hid s s':=by
 obtain⟨h1,st,jm,N,t,ps,a0t,bd,d,t1,p,s2,q,h2,h3,h4,_,h5,h6,h7,_⟩:=FI h;obtain⟨_,_,_,_,_,_,_,_,k1,_,rfl⟩:=tJ h5;obtain⟨_,_,_,_,_,_,_,_,k2,_,rfl⟩:=tJ h7;obtain⟨e,q⟩:=q;exact((CU ih _ _ _ _ _ h4).trans (Fq.put _ k1 h1)).trans ((CU ih _ _ _ _ _ h6).trans (Fq.put _ k2 h1))
noncomputable def XI(tb:Tab)(first rest:dK):dK:=fun fl hid f xs s=>
 Bool.rec (motive:=fun _=>Option (AV × Hs)) (first fl hid f xs s) (DY tb rest ⟨tb.g,tb.l,fl,hid⟩ (f - yF) xs s) (Nat.ble yF f)
theorem JM{first rest:dK}{fl:Nat}{hid:Hid}{f:FuncId}{xs:List AV}{s:Hs}{r:AV × Hs}(h:XI tb first rest fl hid f xs s=some r):
 (Nat.ble yF f=false/\first fl hid f xs s=some r)\/(Nat.ble yF f=true/\DY tb rest ⟨tb.g,tb.l,fl,hid⟩ (f - yF) xs s=some r):=by
 unfold XI at h
 cases hb:Nat.ble yF f with
 |false=>rw[hb]at h;exact .inl ⟨rfl,h⟩
 |true=>rw[hb]at h;exact .inr ⟨rfl,h⟩
theorem aHq{first rest:dK}(h1:fO first)(h2:fO rest):fO (XI tb first rest):=by
 intro fl hid f xs s v s' h;rcases JM h with⟨_,h⟩|⟨_,h⟩
 . exact h1 _ _ _ _ _ _ _ h
 exact aEM (cx:=⟨tb.g,tb.l,fl,hid⟩) h2 h
theorem aAq(n:Nat):sG tb (n+1)=XI tb (aC1 tb (sG tb n)) (sG tb n):=rfl
theorem NV(n:Nat):fO (sG tb n):=by
 induction n with
 |zero=>intro fl hid f xs s v s' h;cases h
 |succ n ih=>rw[aAq];exact aHq (aHx ih) ih
end
section
variable[Gh]{w0:World}{tb:Tab}{call:dK}{cx:Cx}{N:Nat}{ρ:Env}{s s':Hs}{w:World}
theorem SC{e:Ex}(h:aIK e=true):ND e=.normal\/ND e=.ret:=by
 cases e with
 |normal=>exact .inl rfl
 |exit i=>cases h
 |ret=>exact .inr rfl
theorem aAh(hT:fG tb w0)(hc:jS tb w0 call)(hf:fO call)(hg:cx.g=tb.g)(hl:cx.l=tb.l){f:FuncId}{xs:List AV}(h:EP tb call cx f xs s=some s')
 (hs:aO w0 ρ cx s w) (hx:iH s.n xs) {R:Ending->FrameMode->World->Prop} (hR: ∀ ρ' w' v,Stp w0 ρ ρ' cx s s' w w'->R (.returned v) .returning w'):
 CallsDIn Fence.wide 0 tb.p f (xs.map (den ρ)).toArray .returning w R:=by
 obtain⟨fn,x,y,e,st,v,h1,h2,h3,h4,h5,h6,h7,rfl⟩:=wV h;refine callsDIn_of_wpSIn (hT.fn f fn h1).1 h2 trivial (fun c₀ cs hm=>?_);have PX:=aAA (N:=fn.ntmps) (ρ:=ρ) h3 hx;have hd0:iK ρ s.n [] ([]:List Deferred):=trivial;have hc0:({ c₀ with mode:=.returning }:Frame)=c₀:=by rw[<-hm]
 have fin: ∀ ρ' w' a',Stp w0 ρ ρ' cx s st.s w w'->iU fn.ntmps ρ' st.s.n a' st.t->iK ρ' st.s.n st.d a'.defers->bodyPostS tb.p fn c₀ cs R (ND e) a' (c₀::cs) w':=by
  intro ρ' w' a' k1 k2 k3;have hde:a'.defers=[]:=by
   rw[h6]at k3
   cases hd:a'.defers with
   |nil=>rfl
   |cons d ds=>rw[hd]at k3;exact k3.elim
  have hr:=(yU hT k1.sat k2 h7).1;rcases SC h5 with he|he<;>rw[he]<;>exact⟨hde,.returning,by rw[hc0],_,hr,hR ρ' w' _ k1⟩
 refine wpSIn_seq ?_;unfold aAl at h4
 cases hr:KU x with
 |none=>
  rw[hr]at h4;rcases mP h4 with⟨st1,h8,h9⟩|⟨h8,hne⟩
  . refine aVB rfl ((iI hT hc hf hg hl _).1 _ _ _ _ h8 ρ w _ _ none 0 trivial hs PX hd0 (fun ρ1 w1 a1 s1 t1 d1=>?_));refine aVB rfl ((iI hT hc hf hg hl _).1 _ _ _ _ h9 ρ1 w1 a1 _ none 0 trivial s1.sat t1 d1 (fun ρ2 w2 a2 s2 t2 d2=>?_));exact fin ρ2 w2 a2 (s1.trans s2) t2 d2
  refine aVB rfl ((iI hT hc hf hg hl _).1 _ _ _ _ h8 ρ w _ _ none 0 trivial hs PX hd0 (fun ρ1 w1 a1 s1 t1 d1=>?_));have:=fin ρ1 w1 a1 s1 t1 d1
  cases e with
  |normal=>exact absurd rfl hne
  |exit i=>exact this
  |ret=>exact this
 |some d=>
  rw[hr]at h4;obtain⟨id,os,args,ts,ty,pos,af,rfl,hos⟩:=YA hr;have ho0:os[0]? =some ⟨d,.call ⟨.builtin .recover,args,ts⟩,ty,pos,af,none⟩:=by rw[<-aGY,hos];rfl
  have hsz:os.size=1:=by rw[<-aJm,hos];rfl
  have h4':MI (code tb call cx fn.ntmps none fuel y) (ob (put fn.ntmps (F8 0 xs nilA) d (.v .nilIface)) (fun t=>some (.normal,⟨t,s,[]⟩)))=some (e,st):=h4;rcases mP h4' with⟨st1,h8,h9⟩|⟨h8,hne⟩
  . obtain⟨t,h10,h11⟩:=aA.1 h8
    cases h11
    refine wpSIn_region ?_;rw[hsz];show wpOpsSIn Fence.wide 0 tb.p os _ [0] _ _ _;unfold wpOpsSIn;rw[ho0];refine⟨fun _ _=>trivial,?_⟩;have hrun: ∀(g:Operand->Value),(execOp g ⟨d,.call ⟨.builtin .recover,args,ts⟩,ty,pos,af,none⟩).run tb.p w=.ok .recover w:=by
     intro g;simp only[execOp,resolve,aFW,aGf,aCR,invoke,builtin]
    have hrec:recoverD (c₀::cs)=none:=by
     simp only[recoverD,hm]
    simp only[Region.wanted,aTF,hrun,hrec];unfold wpOpsSIn;refine aVB rfl ((iI hT hc hf hg hl _).1 _ _ _ _ h9 ρ w _ _ none 0 trivial hs (PX.put (v:=.v .nilIface) h10 trivial) ?_ (fun ρ2 w2 a2 s2 t2 d2=>?_))
    . rw[put_defers];exact hd0
    exact fin ρ2 w2 a2 s2 t2 d2
  obtain⟨t,h10,h11⟩:=aA.1 h8
  cases h11;exact absurd rfl hne
theorem WA(hT:fG tb w0)(hc:jS tb w0 call)(hf:fO call)(hg:cx.g=tb.g)(hl:cx.l=tb.l){fn:Func}{tmps:Array Value}{R:Ending->World->Prop}{s':Hs}: ∀(dl:DL) (s:Hs),
 CO tb call cx dl s=some s'-> ∀(ρ:Env) (w:World) (ds:List Deferred),aO w0 ρ cx s w->iK ρ s.n dl ds->
  (∀ ρ' w',Stp w0 ρ ρ' cx s s' w w'->LeavesInM Fence.wide 0 tb.p fn tmps R [] .returning w')->LeavesInM Fence.wide 0 tb.p fn tmps R ds .returning w:=by
 intro dl
 induction dl with
 |nil=>
  intro s h ρ w ds hs hd hq
  cases h
  cases ds with
  |nil=>exact hq ρ w (Stp.refl hs)
  |cons d ds=>exact hd.elim
 | cons p dl ih=>
  intro s h ρ w ds hs hd hq;obtain⟨s1,h1,h2⟩:=aA.1 h
  cases ds with
  |nil=>exact hd.elim
  | cons d ds=>
   obtain⟨⟨k1,kd⟩,k3⟩:=hd;rcases kd with⟨kf,cap,args,rfl,k2⟩|⟨kf,b,k2,rfl⟩
   case inr=>
    rcases aCq h1 with⟨q1,_⟩|⟨_,h1⟩
    . rw[kf]at q1;cases q1
    obtain⟨b',o',r',q1,q2,q3,rfl⟩:=NQ h1;rw[k2]at q1;cases q1;obtain⟨q4,q5⟩:=hs.obj b _ q3;have p1:Stp w0 ρ ρ cx s ⟨s.h.set b (.ro []),s.n⟩ w (w.putObj (ρ.blk b) (.deferred none)):=
     hs.put q3 q2 kV ⟨⟨_,aUo (hs.obj b _ q3).lt⟩,fun i x hx=>by simp at hx,trivial⟩
    have p2:=p1.sat.del (b:=b) (o:=.ro []) (Hs.bV.2 ⟨(Hs.bV.1 q3).1,Tr.oL _ _ _⟩) q2;have hdel:(s.h.set b (.ro [])).del b=s.h.del b:=Tr.Q8 _ _ _ _;have p3:Stp w0 ρ ρ cx s ⟨s.h.del b,s.n⟩ w _:=hdel ▸ p1.trans p2;exact⟨(by intro h;cases h),.inl ⟨ρ.blk b,_,rfl,run_takeDeferred q5,ih _ h2 ρ _ ds p3.sat k3 (fun ρ2 w2 hst2=>hq ρ2 w2 (p3.trans hst2))⟩⟩
   rcases aCq h1 with⟨_,h1⟩|⟨q1,_⟩
   case inr=>rw[kf]at q1;cases q1
   have hfn: ∃fn',tb.fn.get p.1=some fn':=by
    obtain⟨fn',_,_,_,_,_,q,_⟩:=wV h1;exact⟨fn',q⟩
   obtain⟨fn',hfn⟩:=hfn;refine⟨(by intro h;cases h),.inr ⟨wS (r:=none),_,_,p.1,(p.2.map (den ρ)).toArray,rfl,?_,fun _ _=>trivial,?_⟩⟩
   . simp only[invoke,k2];exact(hT.fn p.1 fn' hfn).2 _ w
   refine aAh hT hc hf hg hl h1 hs k1 (fun ρ' w' v hst=>?_);exact ih s1 h2 ρ' w' ds hst.sat (k3.ext hst.ext hst.n) (fun ρ2 w2 hst2=>hq ρ2 w2 (hst.trans hst2))
theorem aHw(hT:fG tb w0)(ih:jS tb w0 call)(ihf:fO call){fl:Nat}{hid:Hid}{f:FuncId}{xs:List AV}{v:AV}(h:aC1 tb call fl hid f xs s=some (v,s'))(hs:aO w0 ρ ⟨tb.g,tb.l,fl,hid⟩ s w)(hx:iH s.n xs):
 Calls tb.p f (xs.map (den ρ)).toArray w fun e w'=> ∃ ρ',e=.returned (den ρ' v)/\Stp w0 ρ ρ' ⟨tb.g,tb.l,fl,hid⟩ s s' w w'/\Sc s'.n v:=by
 obtain⟨fn,c,e,st,h1,h2,h3,h4,h5,h6,h7⟩:=J3 h;refine callsIn_wide.1 (callsIn_of_wp_marks (n:=0) (hT.fn f fn h1).1 h2 trivial ?_);refine(iI (cx:=⟨tb.g,tb.l,fl,hid⟩) hT ih ihf rfl rfl _).1 _ _ _ _ h4 ρ w _ _ none 0 trivial hs (aAA h3 hx) trivial (fun ρ1 w1 a1 s1 t1 d1=>?_);have key:LeavesInM Fence.wide 0 tb.p fn a1.tmps (fun e w'=> ∃ ρ',e=.returned (den ρ' v)/\Stp w0 ρ ρ' ⟨tb.g,tb.l,fl,hid⟩ s s' w w'/\Sc s'.n v) a1.defers .returning w1:=by
  refine WA hT ih ihf rfl rfl _ _ h6 ρ1 w1 _ s1.sat d1 (fun ρ2 w2 s2=>?_);obtain⟨k1,k2⟩:=yU hT s2.sat (t1.ext s2.ext s2.n) h7;exact⟨_,k1,ρ2,rfl,s1.trans s2,k2⟩
 rcases SC h5 with he|he<;>rw[he]<;>exact key
theorem aKd{n:Nat}: ∀(ps:List Tmp) (xs:List AV) (t t1:TE) (tm:Array Value),aKe N ps xs t=some t1->iH n xs->aAG ρ n N tm t->
 xs.length=ps.length/\aAG ρ n N ((ps.zip (xs.map (den ρ))).foldl (fun t (p,v)=>t.setIfInBounds p v) tm) t1:=by
 intro ps
 induction ps with
 |nil=>
  intro xs t t1 tm h _ ht
  cases xs with
  |nil=>cases h;exact⟨rfl,ht⟩
  |cons x r=>cases h
 | cons p ps ih=>
  intro xs t t1 tm h hx ht
  cases xs with
  |nil=>cases h
  | cons x r=>
   obtain⟨h1,h2⟩:=aC.1 h;have hp:=aK.1 h1;obtain⟨k1,k2⟩:=ih r _ t1 (tm.setIfInBounds p (den ρ x)) h2 hx.2 ⟨by simp[ht.1],fun i v hv=>by
    have hv:nU (OY t p x) i=some v:=hv
    by_cases e:p=i
    . subst e;rw[wL]at hv;cases hv;exact⟨hx.1,hp,by simp[aR6,ht.1];omega⟩
    rw[nT _ _ e]at hv;obtain⟨q1,q2,q3⟩:=ht.2 i v hv;exact⟨q1,q2,by rw[aO7 e];exact q3⟩⟩
   exact⟨by simp[k1],k2⟩
omit[Gh]in
theorem aJI{e:Ex}:(exJ e=none/\e=.normal)\/(∃j,exJ e=some j/\e=jmE j):=by
 cases e with
 |normal=>exact .inl ⟨rfl,rfl⟩
 |exit i=>exact .inr ⟨some i,rfl,rfl⟩
 |ret=>exact .inr ⟨none,rfl,rfl⟩
theorem aHN(hT:fG tb w0)(ih:jS tb w0 call)(ihf:fO call){fl:Nat}{hid:Hid}{b:Nat}{xs:List AV}{v:AV}(h:DY tb call ⟨tb.g,tb.l,fl,hid⟩ b xs s=some (v,s'))(hgd:Gd s.n b)(hs:aO w0 ρ ⟨tb.g,tb.l,fl,hid⟩ s w)(hx:iH s.n xs):
 ∃r:Loop,w.heap[ρ.blk b]? =some (.loop r)/\xs.length=r.params.size/\ ∀n,RoundIn Fence.wide n tb.p (ρ.blk b) r.fn
  ((r.params.zip (xs.map (den ρ)).toArray).foldl (fun t (p,v)=>t.setIfInBounds p v) r.tmps) r.assign r.body w fun e w'=> ∃ ρ',e=.returned (den ρ' v)/\Stp w0 ρ ρ' ⟨tb.g,tb.l,fl,hid⟩ s s' w w'/\Sc s'.n v:=by
 obtain⟨h1,st,jm,N,t,ps,a0t,bd,d,t1,p,s2,q,h2,h3,h4,hpd,h5,h6,h7,rfl⟩:=FI h;have hbn:=hs.lt b _ h2;obtain⟨o0,r,o1,⟨o2,o3,o4,o5,o6,o7⟩,o8,o9⟩:=hs.obj _ _ h2;obtain⟨a1,a2⟩:=aKd ps.toList xs t t1 r.tmps h3 hx o9;subst o4;subst o5;subst o6;refine⟨r,o1,a1.trans (aJm ..),fun n=>?_⟩;have hfold:(r.params.zip (xs.map (den ρ)).toArray).foldl (fun t (p,v)=>t.setIfInBounds p v) r.tmps=(r.params.toList.zip (xs.map (den ρ))).foldl (fun t (p,v)=>t.setIfInBounds p v) r.tmps:=by
  rw[<-Array.foldl_toList,Array.toList_zip]
 rw[hfold];obtain⟨l,hl⟩: ∃l,ρ.blk b=l:=⟨_,rfl⟩;rw[hl];refine roundIn_of_wpIn trivial ?_;refine(iI (cx:=⟨tb.g,tb.l,fl,hid⟩) hT ih ihf rfl rfl fuel).1 _ _ _ _ h4 ρ w _ _ (some l) n ⟨hgd,hl⟩ hs ⟨a2.1,a2.2⟩ trivial (fun ρ1 w1 c1 S1 T1 D1=>?_);obtain⟨st1,jm1,N1,t1',ps1,as1,bd1,d1,k1,k2,rfl⟩:=tJ h5;obtain⟨p0,r1,p1,⟨p2,p3,p4,p5,p6,p7⟩,p8,p9⟩:=S1.sat.obj _ _ k1;have hl1:ρ1.blk b=l:=(S1.ext b hbn).1.trans hl;rw[hl1]at p1;have aQr:r1.state=.ready:=by
  rw[p2];cases st1<;>first|rfl|(cases k2;done)
 refine⟨_,run_beginRound p1 aQr,?_⟩;have S2:Stp w0 ρ1 ρ1 ⟨tb.g,tb.l,fl,hid⟩ p.s ⟨p.s.h.set b (.lp .busy jm1 N1 t1' ps1 as1 bd1 d1),p.s.n⟩ w1 (w1.putObj l (.loop { r1 with state:=.busy })):=by
  refine S1.sat.put k1 h1 (hl1 ▸ kV) ⟨p0,{ r1 with state:=.busy },?_,⟨rfl,p3,p4,p5,p6,p7⟩,p8,p9⟩;rw[hl1];exact aUo (aTn.1 p1).1
 have hgd1:Gd p.s.n b:=⟨aF7 hbn S1.n,hgd.2⟩;have hdef:c1.defers=[]:=by
  rw[hpd]at D1
  cases hd:c1.defers with
  |nil=>rfl
  |cons d ds=>rw[hd]at D1;exact D1.elim
 obtain⟨e,q⟩:=q;refine(iI (cx:=⟨tb.g,tb.l,fl,hid⟩) hT ih ihf rfl rfl fuel).1 _ _ _ _ h6 ρ1 _ _ _ (some l) n ⟨hgd1,hl1⟩ S2.sat T1 (by rw[hdef];trivial) (fun ρ2 w2 c2 S3 T3 D3=>?_);obtain⟨st2,jm2,N2,t2',ps2,as2,bd2,d2,m1,_,rfl⟩:=tJ h7;obtain⟨n0,r2,n1,⟨n2,n3,n4,n5,n6,n7⟩,n8,n9⟩:=S3.sat.obj _ _ m1;have hl2:ρ2.blk b=l:=(S3.ext b (aF7 hbn S1.n)).1.trans hl1;rw[hl2]at n1;have fin: ∀(j:Option (Option Nat)),exJ e=j-> ∃v w',(Instr.endRound l (j.map jmC)).run tb.p w2=.ok v w'/\(∃ ρ',Ending.returned v=.returned (den ρ' (.v (.bool (isNone (exJ e)))))/\
  Stp w0 ρ ρ' ⟨tb.g,tb.l,fl,hid⟩ s ⟨q.s.h.set b (.lp (Option.rec (motive:=fun _=>LoopState) .ready (fun _=>.done) (exJ e)) (exJ e) N2 t2' ps2 as2 bd2 d2),q.s.n⟩ w w'/\Sc q.s.n (.v (.bool (isNone (exJ e))))):=by
  intro j hj;refine⟨_,_,run_endRound _ n1,ρ2,?_,(S1.trans (S2.trans S3)).trans (S3.sat.put m1 h1 (hl2 ▸ kV) ⟨n0,{ r2 with state:=if(j.map jmC).isNone then .ready else .done,pending:=j.map jmC },by rw[hl2];exact aUo (aTn.1 n1).1,⟨?_,?_,n4,n5,n6,n7⟩,n8,n9⟩),trivial⟩
  . rw[hj];cases j<;>rfl
  . rw[hj];cases j<;>rfl
  rw[hj]
 rcases aJI (e:=e)with⟨k,rfl⟩|⟨j,k,rfl⟩
 . exact fin none k
 cases j with
 |none=>exact fin (some none) k
 |some i=>exact fin (some (some i)) k
omit[Gh]in
theorem aHp(hT:fG tb w0){first rest:dK}(h1: ∀(_:Gh) fl hid f xs s v s',Nat.ble yF f=false->first fl hid f xs s=some (v,s')-> ∀ ρ w,aO w0 ρ ⟨tb.g,tb.l,fl,hid⟩ s w->iH s.n xs->
 Calls tb.p f (xs.map (den ρ)).toArray w fun e w'=> ∃ ρ',e=.returned (den ρ' v)/\Stp w0 ρ ρ' ⟨tb.g,tb.l,fl,hid⟩ s s' w w'/\Sc s'.n v) (h2:jS tb w0 rest) (h3:fO rest):jS tb w0 (XI tb first rest):=by
 intro G fl hid f xs s v s' h ρ w hs hx;rcases JM h with⟨hb,h⟩|⟨hb,h⟩
 . exact⟨fun _=>h1 G _ _ _ _ _ _ _ hb h ρ w hs hx,fun hb'=>(by rw[hb]at hb';cases hb')⟩
 exact⟨fun hb'=>(by rw[hb]at hb';cases hb'),fun _ hgd=>aHN hT h2 h3 h hgd hs hx⟩
end
theorem NU{w0:World}{tb:Tab}(hT:fG tb w0)(n:Nat):jS tb w0 (sG tb n):=by
 induction n with
 |zero=>intro G fl hid f xs s v s' h;cases h
 |succ n ih=>
  rw[aAq];exact aHp hT (fun G fl hid f xs s v s' _ h ρ w hs hx=>aHw hT ih (NV n) h hs hx) ih (NV n)
end Ev
end
section
open Go.RowKit
namespace Ev
theorem Tr.aGs{α:Type}{c:Nat->α->Prop}{k s:Nat}{l r:Tr α}(h1:l.yO c (k+s) (2 * s))(h2:r.yO c (k+2 * s) (2 * s)):(Tr.node none l r).yO c k s:=⟨trivial,h1,h2⟩
theorem Tr.aGr{α:Type}{c:Nat->α->Prop}{k s:Nat}{x:α}{l r:Tr α}(h:c k x)(h1:l.yO c (k+s) (2 * s))(h2:r.yO c (k+2 * s) (2 * s)):(Tr.node (some x) l r).yO c k s:=⟨h,h1,h2⟩
structure aNM(P:Program)(k:Nat)(f:Func):Prop where
 get:(P.funcs[k]?)=some f
 name:(f.name== "runtime.NumGoroutine")=false
 body:f.body.isNone=false
theorem aNM.run{P:Program}{k:Nat}{f:Func}(h:aNM P k f)(args:Array Value)(w:World):(callFunc k args).run P w=.ok (.enter k args) w:=by
 have h1:=h.name;have h2:=h.body;have hp:(program:Sem Program).run P w=.ok P w:=rfl;unfold callFunc;rw[aFW,hp,aCR,h.get];dsimp only;rw[h1,h2]
 rfl
def aME(P:Program)(t:TypeId)(name:String)(f:FuncId):Bool:=
 match P.info? t with
 |none=>false
 | some i=>match i.methods.find? (·.name==name)with
  |none=>false
  |some m=>match m.path.toList,m.func,P.underlying t with
   |[],some (g,false),some (.pointer _)=>false
   |[],some (g,false),some _=>Nat.beq g f
   |[],some (g,true),some (.pointer _)=>Nat.beq g f
   |_,_,_=>false
theorem aIU{P:Program}{t:TypeId}{name:String}{f:FuncId}(h:aME P t name f=true)(v:Value)(w:World):(method (P.types.size+Made.depth) t v name).run P w=.ok (f,v) w:=by
 have hd:1<=Made.depth:=by decide
 obtain⟨n,hn⟩: ∃n,P.types.size+Made.depth=n+1:=⟨P.types.size+(Made.depth - 1),by omega⟩;rw[hn];unfold aME at h
 cases hi:P.info? t with
 |none=>rw[hi]at h;cases h
 | some i=>
  rw[hi]at h;dsimp only at h
  cases hm:i.methods.find? (·.name==name)with
  |none=>rw[hm]at h;cases h
  | some m=>
   rw[hm]at h;dsimp only at h;have ht:(typeInfo t).run P w=.ok i w:=by simp[typeInfo,hi]
   have key: ∀(pr:Bool) (d:TypeDesc),m.path.toList=[]->m.func=some (f,pr)->P.underlying t=some d->((∃e,d=.pointer e)/\pr=true\/(∀e,d≠ .pointer e)/\pr=false)->
    (method (n+1) t v name).run P w=.ok (f,v) w:=by
    intro pr d h1 h2 h3 h4;have hr:(receiverAt t (.val v) pr (if m.path.isEmpty then some ((name.splitOn ".").getLastD name)else none)).run P w=.ok v w:=by
     unfold receiverAt;rw[aFW,aG5 h3,aCR];rcases h4 with⟨⟨e,rfl⟩,rfl⟩|⟨h4,rfl⟩
     . rfl
     cases d<;>first|rfl|exact absurd rfl (h4 _)
    unfold method;simp only[aFW,ht,aCR,hm,h1,follow,aGf,h2,hr]
   split at h
   . cases h
   . rename_i g d hd hp hf hu
     obtain rfl:=aFX h;exact key _ _ hp hf hu (.inr ⟨fun e he=>hd e he,rfl⟩)
   . rename_i g e hp hf hu
     obtain rfl:=aFX h;exact key _ _ hp hf hu (.inl ⟨⟨e,rfl⟩,rfl⟩)
   cases h
noncomputable def aIT(l:List (TypeId × String × FuncId))(t:TypeId)(name:String):Option FuncId:=
 List.rec (motive:=fun _=>Option FuncId) none (fun e _ ih=>Bool.rec (motive:=fun _=>Option FuncId) ih (Bool.rec (motive:=fun _=>Option FuncId) ih (some e.2.2) (e.2.1==name)) (Nat.beq e.1 t)) l
theorem aDn{P:Program}{l:List (TypeId × String × FuncId)}(h:l.all (fun e=>aME P e.1 e.2.1 e.2.2)=true): ∀t name f,aIT l t name=some f-> ∀(v:Value) (w:World),(method (P.types.size+Made.depth) t v name).run P w=.ok (f,v) w:=by
 induction l with
 |nil=>intro t name f h;cases h
 | cons e l ih=>
  rw[aOx,aFU]at h;intro t name f hm;have hm:Bool.rec (motive:=fun _=>Option FuncId) (aIT l t name) (Bool.rec (motive:=fun _=>Option FuncId) (aIT l t name) (some e.2.2) (e.2.1==name)) (Nat.beq e.1 t)=some f:=hm
  cases h1:Nat.beq e.1 t with
  |false=>rw[h1]at hm;exact ih h.2 t name f hm
  | true=>
   rw[h1]at hm
   cases h2:(e.2.1==name)with
   |false=>rw[h2]at hm;exact ih h.2 t name f hm
   |true=>
    rw[h2]at hm
    cases hm
    have h1:=aFX h1;rw[aFZ]at h2;subst h1;subst h2;exact aIU h.1
theorem aHs{tb:Tab}{w0:World}(h1:tb.ty.yO (fun k i=>mW tb.p k i) 0 1)(h2:tb.fn.yO (fun k f=>aNM tb.p k f) 0 1)(h3:tb.p.follows .mixedOrders=true)
 (h4: ∀f xs v,tb.orc f xs=some v->(∀(_:Gh) n,(∀g,g<tb.g.n->Gd n g)->Sc n v)/\(∀args w,(callFunc f args).run tb.p w=.ok (.enter f args) w)/\
   ∀ ρ w,Lv tb ρ->Below w0.heap.size w0 w->Calls tb.p f (xs.map (den ρ)).toArray w fun e w'=>e=.returned (den ρ v)/\Below w.heap.size w w')
 (h8:CZ tb)
 (h5: ∀f,tb.idn f=true-> ∀x w,(callFunc f #[x]).run tb.p w=.ok (.value x) w)
 (h6: ∀f e,tb.mnz f=some e-> ∀(n:Nat) w,n<=140737488355328-> ∃cs:Array Value,(callFunc f #[.int .i64 n]).run tb.p w=.ok (.value (.slice (some ⟨w.heap.size,0,none⟩) n cs.size)) (w.drew.drew.alloc (.cells cs e))/\n<=cs.size)
 (h7: ∀t name f,tb.met t name=some f-> ∀(v:Value) (w:World),(method (tb.p.types.size+Made.depth) t v name).run tb.p w=.ok (f,v) w):fG tb w0 where
 ty:=fun t i h=>Tr.OB h1 h
 fn:=fun f fn h=>⟨(Tr.OB h2 h).get,(Tr.OB h2 h).run⟩
 orc:=h4
 y9:=h8
 mixed:=h3
 idn:=h5
 mnz:=h6
 met:=h7
end Ev
end
section
namespace Ev
noncomputable def Tr.lst{α:Type}(t:Tr α):Nat->Nat->List (Nat × α):=
 Tr.rec (motive:=fun _=>Nat->Nat->List (Nat × α)) (fun _ _=>[])
  (fun v _ _ il ir k s=>Option.rec (motive:=fun _=>List (Nat × α)) (il (k+s) (2 * s)++ir (k+2 * s) (2 * s)) (fun x=>(k,x)::(il (k+s) (2 * s)++ir (k+2 * s) (2 * s))) v) t
theorem Tr.OA{α:Type}{c:Nat->α->Prop}: ∀ {t:Tr α} {k s:Nat},(∀e ∈ t.lst k s,c e.1 e.2)->t.yO c k s:=by
 intro t
 induction t with
 |nil=>intro k s _;trivial
 |node v l r il ir=>
  intro k s h
  cases v with
  |none=>exact Tr.aGs (il fun e he=>h e (aUy _ he)) (ir fun e he=>h e (aXx _ he))
  |some x=>exact Tr.aGr (h (k,x) (aG1 ..)) (il fun e he=>h e (aHg _ (aUy _ he))) (ir fun e he=>h e (aHg _ (aXx _ he)))
theorem kC{β γ:Type}{f g:β->γ}: ∀ {l:List β},l.map f=l.map g-> ∀e ∈ l,f e=g e:=by
 intro l h e he
 induction l with
 |nil=>cases he
 |cons x l ih=>
  rw[aQw,aQw,List.cons.injEq]at h;rcases aG4.1 he with rfl|he
  . exact h.1
  exact ih h.2 he
theorem ty_1:(tys.lst 0 1).map (fun e=>(Tryz.prog.info? e.1).map fun j=>(j.size,j.bytes,j.zero))=(tys.lst 0 1).map fun e=>some (e.2.size,e.2.bytes,some (zeroOf e.2)):=by kernel_rfl
theorem ty_2:(tys.lst 0 1).map (fun e=>(Tryz.prog.underlying e.1).map fun d=>(ML d,kindOf Tryz.prog d))=(tys.lst 0 1).map fun e=>some (e.2.agg,e.2.k):=by kernel_rfl
theorem aVs:(tys.lst 0 1).map (fun e=>(zeroOf e.2).cells.toList)=(tys.lst 0 1).map fun e=>e.2.zero:=by kernel_rfl
theorem aVr:(tys.lst 0 1).map (fun e=>e.2.zero.length)=(tys.lst 0 1).map fun e=>e.2.size:=by kernel_rfl
theorem aPh:tys.yO (fun k i=>mW Tryz.prog k i) 0 1:=Tr.OA fun e he=>⟨kC ty_1 e he,kC ty_2 e he,kC aVs e he,kC aVr e he⟩
theorem aWC:(fns.lst 0 1).map (fun e=>Tryz.prog.funcs[e.1]?)=(fns.lst 0 1).map fun e=>some e.2:=by kernel_rfl
theorem aWB:(fns.lst 0 1).map (fun e=>(e.2.name== "runtime.NumGoroutine"))=(fns.lst 0 1).map fun e=>false:=by kernel_rfl
theorem aWA:(fns.lst 0 1).map (fun e=>e.2.body.isNone)=(fns.lst 0 1).map fun e=>false:=by kernel_rfl
theorem aJy:fns.yO (fun k f=>aNM Tryz.prog k f) 0 1:=Tr.OA fun e he=>⟨kC aWC e he,kC aWB e he,kC aWA e he⟩
end Ev
end
section
open Go.RowKit
namespace Ev
abbrev II:=List AV × List (Nat × List AV) × Nat
def aFR{α:Type}(g:α->Nat->Option II):List α->Nat->Option II
 |[],n=>some ([],[],n)
 |x::l,n=>(g x n).bind fun a=>(aFR g l a.2.2).map fun b=>(a.1++b.1,a.2.1++b.2.1,b.2.2)
def aCY(P:Program):List Field->Nat->Option Nat
 |[],o=>some o
 |f::l,o=>if f.offset=o then aCY P l (o+P.cellsOf f.type)else none
def aB2(P:Program):Nat->TypeId->DataW Unit->Nat->Option II
 |0,_,_,_=>none
 | f+1,t,d,n=>
  match P.underlying t,d with
  |some .bool,.lit (.bool b)=>some ([.v (.bool b)],[],n)
  |some (.int k),.lit (.int _ z)=>some ([.v (.int k z)],[],n)
  |some .string,.lit (.string s)=>some ([.v (.string ⟨s.toArray⟩)],[],n)
  |some (.pointer e),.ptr d=>if P.cellsOf e=0 then none else(aB2 P f e d (n+1)).map fun a=>([.ptr n 0],(n,a.1)::a.2.1,a.2.2)
  |some (.slice e),.slice es sp=>if P.cellsOf e=0\/es.isEmpty then none else
   (aFR (fun d n=>aB2 P f e d n) (es++sp) (n+1)).map fun a=>([.sl n 0 es.length (es.length+sp.length)],(n,a.1)::a.2.1,a.2.2)
  |some (.struct fs),.agg ps=>if fs.size=ps.length/\aCY P fs.toList 0=some (P.cellsOf t)then aFR (fun(p:Field × DataW Unit) n=>aB2 P f p.1.type p.2 n) (fs.toList.zip ps) n else none
  |some (.array m e),.agg ps=>if ps.length=m/\P.cellsOf t=m * P.cellsOf e then aFR (fun d n=>aB2 P f e d n) ps n else none
  |_,_=>none
section
variable[Gh](w:World)
structure aKW(ρ:Env)(n:Nat)(r:II)(cs:List Value):Prop where
 le:n<=r.2.2
 cells:cs=r.1.map (den ρ)
 sc:iH r.2.2 r.1
 blks: ∀q ∈ r.2.1,n<=q.1/\q.1<r.2.2/\iH r.2.2 q.2/\(∃x,w.heap[ρ.blk q.1]? =some x)/\ ∀i x,q.2[i]? =some x->w.cell? ⟨ρ.blk q.1,ρ.off q.1+i,none⟩=some (den ρ x)
def qC(n:Nat)(r:II)(cs:List Value):Prop:= ∀ ρ,∃ ρ',Ext n ρ ρ'/\aKW w ρ' n r cs
variable{w}
theorem aKW.ext{ρ ρ':Env}{n m:Nat}{r:II}{cs:List Value}(h:aKW w ρ n r cs)(he:Ext r.2.2 ρ ρ')(hm:r.2.2<=m):
 cs=r.1.map (den ρ')/\iH m r.1/\ ∀q ∈ r.2.1,n<=q.1/\q.1<r.2.2/\iH m q.2/\(∃x,w.heap[ρ'.blk q.1]? =some x)/\ ∀i x,q.2[i]? =some x->w.cell? ⟨ρ'.blk q.1,ρ'.off q.1+i,none⟩=some (den ρ' x):=by
 refine⟨by rw[CJ he h.sc];exact h.cells,iH.mono hm _ h.sc,fun q hq=>?_⟩;obtain⟨h1,h2,h3,h4,h5⟩:=h.blks q hq;have hb:=he q.1 h2;refine⟨h1,h2,iH.mono hm _ h3,by rw[hb.1];exact h4,fun i x hx=>?_⟩;rw[hb.1,hb.2.1,h5 i x hx,nJ he x ((bI _ _).1 h3 x (aOt hx))]
theorem zN{α:Type}{g:α->Nat->Option II}{S:α->List Value->Prop}(hg: ∀x n r,g x n=some r-> ∀cs,S x cs->qC w n r cs):
 ∀(l:List α) (n:Nat) (r:II),aFR g l n=some r-> ∀css:List (List Value),css.length=l.length->(∀(i:Nat) (x:α) (c:List Value),l[i]? =some x->css[i]? =some c->S x c)->qC w n r css.flatten:=by
 intro l
 induction l with
 |nil=>
  intro n r h css hl hs ρ
  cases h
  cases css with
  |nil=>exact⟨ρ,Ext.refl _ _,aCU _,rfl,trivial,fun q hq=>by cases hq⟩
  |cons c css=>cases hl
 | cons x l ih=>
  intro n r h css hl hs ρ
  cases css with
  |nil=>cases hl
  |cons c css=>
   simp only[aFR,aRR,aJ4]at h;obtain⟨a,h1,b,h2,rfl⟩:=h;obtain⟨ρ1,e1,k1⟩:=hg x n a h1 c (hs 0 x c rfl rfl) ρ;obtain⟨ρ2,e2,k2⟩:=ih a.2.2 b h2 css (by simpa using hl) (fun i y d hy hd=>hs (i+1) y d (by simpa using hy) (by simpa using hd)) ρ1;obtain⟨q1,q2,q3⟩:=k1.ext e2 k2.le;refine⟨ρ2,e1.trans e2 k1.le,aI6 k1.le k2.le,?_,?_,fun q hq=>?_⟩
   . rw[aUs,aQQ,<-q1,<-k2.cells]
   . rw[bI];intro y hy;rcases aLf.1 hy with hy|hy
     . exact(bI _ _).1 q2 y hy
     exact(bI _ _).1 k2.sc y hy
   rcases aLf.1 hq with hq|hq
   . obtain⟨j1,j2,j3,j4,j5⟩:=q3 q hq;exact⟨j1,aF7 j2 k2.le,j3,j4,j5⟩
   obtain⟨j1,j2,j3,j4,j5⟩:=k2.blks q hq;exact⟨aI6 k1.le j1,j2,j3,j4,j5⟩
end
end Ev
end
section
open Go.RowKit
namespace Ev
def Env.at'(ρ:Env)(n r o:Nat):Env:=⟨fun b=>if b=n then r else ρ.blk b,fun b=>if b=n then o else ρ.off b,ρ.cp⟩
theorem Env.aNl(ρ:Env)(n r o:Nat):Ext n ρ (ρ.at' n r o):=fun b hb=>by
 have:b≠n:=by omega
 simp[Env.at',this]
theorem flat_get{α:Type}{z:Nat}(hz:0<z): ∀(css:List (List α)),(∀c ∈ css,c.length=z)-> ∀j,css.flatten[j]? =(css[j / z]?).bind (·[j % z]?):=by
 intro css
 induction css with
 |nil=>intro _ j;simp
 |cons c css ih=>
  intro h j;have hc:=h c aG1;rw[aUs]
  by_cases hj:j<z
  . rw[aLc (by omega),Nat.div_eq_of_lt hj,Nat.mod_eq_of_lt hj];rfl
  rw[aK9 (by omega),hc,ih (fun d hd=>h d (aHg _ hd))];have e1:j / z=(j - z) / z+1:=by rw[Nat.div_eq_sub_div hz (by omega)]
  have e2:j % z=(j - z) % z:=by rw[Nat.mod_eq_sub_mod (by omega)]
  rw[e1,e2,aWN]
section
variable[Gh]{w:World}{P:Program}
theorem DR(n:Nat)(v:Value):qC w n ([.v v],[],n) [v]:=fun ρ=>⟨ρ,Ext.refl _ _,aCU _,rfl,⟨trivial,trivial⟩,fun q hq=>by cases hq⟩
theorem sound_row{n:Nat}{a:II}{row:List Value}{A:Addr}(h:qC w (n+1) a row)(hrow: ∀j v,row[j]? =some v->w.cell? (A.add j)=some v)(hne:row≠[])(mk:Addr->Value)(mkA:AV)
 (hA: ∀ ρ:Env,ρ.blk n=A.block->ρ.off n=A.off->den ρ mkA=mk ⟨A.block,A.off,none⟩) (hs: ∀m,n<m-> ¬Gh.bad n->Sc m mkA) (hg: ¬Gh.bad n):
 qC w n ([mkA],(n,a.1)::a.2.1,a.2.2) [mk A]:=by
 have hspot:A.spot=none:=by
  obtain⟨v,r,rfl⟩: ∃v r,row=v::r:=by cases row with|nil=>exact absurd rfl hne|cons v r=>exact⟨v,r,rfl⟩
  have:=hrow 0 v rfl;have e:A.add 0=A:=rfl;rw[e]at this;unfold World.cell? at this
  split at this
  . split at this
    . cases this
    rename_i hn;cases hx:A.spot with
    |none=>rfl
    |some k=>rw[hx]at hn;exact absurd rfl hn
  cases this
 have hadd: ∀j,A.add j=⟨A.block,A.off+j,none⟩:=by
  intro j;unfold Addr.add
  split
  . rename_i h0;subst h0;cases A;simp at hspot;simp[hspot]
  rfl
 have hA0:A=⟨A.block,A.off,none⟩:=by cases A;simp at hspot;simp[hspot]
 intro ρ;obtain⟨ρ',e1,k1⟩:=h (ρ.at' n A.block A.off);have hn:=e1 n (aKZ n);have b1:ρ'.blk n=A.block:=by rw[hn.1];simp[Env.at']
 have b2:ρ'.off n=A.off:=by rw[hn.2.1];simp[Env.at']
 refine⟨ρ',(Env.aNl ρ n A.block A.off).trans (e1.mono (aQm n)) (aCU _),aI6 (aQm n) k1.le,?_,⟨hs _ (aF7 (aKZ n) k1.le) hg,trivial⟩,fun q hq=>?_⟩
 . show[mk A]=[den ρ' mkA];rw[hA ρ' b1 b2,<-hA0]
 rcases aG4.1 hq with rfl|hq
 . refine⟨aCU _,aF7 (aKZ n) k1.le,k1.sc,?_,fun i x hx=>?_⟩
   . obtain⟨v,r,hr⟩: ∃v r,row=v::r:=by cases row with|nil=>exact absurd rfl hne|cons v r=>exact⟨v,r,rfl⟩
     have:=hrow 0 v (by rw[hr];rfl);rw[hadd]at this;unfold World.cell? at this;dsimp only;rw[b1]
     cases hx:w.heap[A.block]? with
     |none=>rw[hx]at this;cases this
     |some x=>exact⟨x,rfl⟩
   dsimp only;rw[b1,b2,<-hadd];apply hrow;rw[k1.cells,aG0,hx];rfl
 obtain⟨j1,j2,j3⟩:=k1.blks q hq;exact⟨aUr j1,j2,j3⟩
end
end Ev
end
section
open Go.RowKit
namespace Ev
section
variable[Gh]{w:World}{P:Program}
def Reads(P:Program)(w:World)(t:TypeId)(d:DataW Unit)(cs:List Value):Prop:= ∃fuel p,DataW.trod (fun _=>()) P w 0 (fun _=>true) false fuel t cs=some (d,p)
omit[Gh]in
theorem chop{α:Type}{z:Nat}: ∀(m:Nat) (cs:List α),cs.length=m * z->((List.range m).map fun i=>(cs.drop (i * z)).take z).flatten=cs:=by
 intro m
 induction m with
 |zero=>intro cs h;simp at h;subst h;rfl
 | succ m ih=>
  intro cs h;rw[List.range_succ_eq_map,aQw,aUs,aUI];have h2:(cs.drop z).length=m * z:=by rw[List.length_drop,h,aXv];omega
  have:=ih (cs.drop z) h2;have e:((fun i=>(cs.drop (i * z)).take z) ∘ Nat.succ)=fun i=>((cs.drop z).drop (i * z)).take z:=by
   funext i;simp only[Function.comp,aWH];congr 2;rw[aXv,Nat.add_comm]
  rw[e,this];simp
omit[Gh]in
theorem aA0{α:Type}: ∀(fs:List Field) (o e:Nat) (cs:List α),aCY P fs o=some e->cs.length=e->o<=e/\(fs.map fun f=>(cs.drop f.offset).take (P.cellsOf f.type)).flatten=cs.drop o:=by
 intro fs
 induction fs with
 |nil=>intro o e cs h hl;cases h;exact⟨aCU _,by simp[hl]⟩
 |cons f fs ih=>
  intro o e cs h hl;unfold aCY at h
  split at h
  . rename_i ho
    obtain⟨h1,h2⟩:=ih _ _ cs h hl;refine⟨by omega,?_⟩;rw[aQw,aUs,h2,ho,<-aWH,List.take_append_drop]
  cases h
theorem aB1 (hG: ∀n,¬Gh.bad n) (f:Nat): ∀(t:TypeId) (d:DataW Unit) (n:Nat) (r:II),aB2 P f t d n=some r-> ∀cs,Reads P w t d cs->qC w n r cs:=by
 induction f with
 |zero=>intro t d n r h;cases h
 | succ f ih=>
  intro t d n r h cs hr;obtain⟨fuel,p,hr⟩:=hr;unfold aB2 at h
  split at h
  . rename_i ht
    obtain⟨b,rfl,hx⟩:=DataW.trod_bool ht hr
    cases h;cases hx;exact DR n _
  . rename_i ht
    obtain⟨z,rfl,hx,_⟩:=aLw ht hr
    cases h;cases hx;exact DR n _
  . rename_i ht
    obtain⟨s,rfl,hx,_⟩:=DataW.trod_string ht hr
    cases h;cases hx;exact DR n _
  . rename_i e d' ht
    split at h
    . cases h
    rename_i hz
    obtain⟨a,h1,rfl⟩:=aJ4.1 h;rcases DataW.trod_pointer ht hr with⟨_,hx⟩|⟨A,cs',y,m,rfl,rfl,hx,hc,hy⟩
    . cases hx
    cases hx
    obtain⟨_,hl,hg⟩:=aUq hc;refine sound_row (row:=cs') (A:=A) (mk:=fun A=>.pointer (some A)) (ih e _ (n+1) a h1 cs' ⟨m,y.2,hy⟩) (fun j v hv=>?_) (fun h0=>?_) (.ptr n 0) (fun ρ b1 b2=>?_) (fun m hm hb=>⟨hm,hb⟩) (hG n)
    . have hj:j<P.cellsOf e:=by rw[<-hl];exact(aIY.1 hv).1
      rw[hg j hj,hv]
    . rw[h0]at hl;exact hz hl.symm
    simp only[den,b1,b2,aLx]
  . rename_i e es sp ht
    split at h
    . cases h
    rename_i hz
    obtain⟨a,h1,rfl⟩:=aJ4.1 h;rcases DataW.trod_slice ht hr with⟨_,hx⟩|⟨A,len,cap,elems,rest,m,rfl,rfl,hx,_,hlc,_,hel,hE,hR,_⟩
    . cases hx
    cases hx
    obtain⟨hrl,hR⟩:=hR rfl;have hz0:0<P.cellsOf e:=aVG (fun h=>hz (.inl h));have hlen0:0<len:=by
     rcases Nat.eq_zero_or_pos len with h0|h0
     . rw[h0]at hel;have:elems=[]:=aUh.1 hel;subst this;exact absurd (.inr rfl) hz
     exact h0
    have hall: ∀i,i<elems.length+rest.length-> ∃c,w.cells? 0 (A.add (i * P.cellsOf e)) (P.cellsOf e)=some c/\ ∃y,(elems++rest)[i]? =some y/\DataW.trod (fun _=>()) P w 0 (fun _=>true) false m e c=some y:=by
     intro i hi;have key:(w.cells? 0 (A.add (i * P.cellsOf e)) (P.cellsOf e)).bind (DataW.trod (fun _=>()) P w 0 (fun _=>true) false m e)=(elems++rest)[i]? :=by
      by_cases hlt:i<len
      . rw[hE i hlt,aLc (by omega)]
      have:=hR (i - len) (by omega);rw[show len+(i - len)=i by omega]at this;rw[this,aK9 (by omega),hel]
     obtain⟨y,hy⟩: ∃y,(elems++rest)[i]? =some y:=⟨_,aGX (by rw[aUi];exact hi)⟩;rw[hy]at key;obtain⟨c,hc,hcy⟩:=aRR.1 key;exact⟨c,hc,y,hy,hcy⟩
    let css:List (List Value):=(List.range (elems.length+rest.length)).map fun i=>(w.cells? 0 (A.add (i * P.cellsOf e)) (P.cellsOf e)).getD []
    have hcl:css.length=elems.length+rest.length:=by simp[css]
    have hget: ∀(i:Nat) (c:List Value),css[i]? =some c->i<elems.length+rest.length/\w.cells? 0 (A.add (i * P.cellsOf e)) (P.cellsOf e)=some c:=by
     intro i c hc;have hi:i<elems.length+rest.length:=by rw[<-hcl];exact(aIY.1 hc).1
     obtain⟨c',h2,_⟩:=hall i hi;simp only[css,aG0,aRw hi,aUD,Option.some.injEq]at hc;rw[h2]at hc ⊢;exact⟨hi,aRx some hc⟩
    have aOu: ∀c ∈ css,c.length=P.cellsOf e:=by
     intro c hc;obtain⟨i,hi⟩:=aVa hc;exact(aUq (hget i c hi).2).2.1
    have hs:=zN (S:=fun d c=>Reads P w e d c) (fun x n r hx cs hcs=>ih e x n r hx cs hcs) _ (n+1) a h1 css (by rw[hcl];simp) (fun i x c hx hc=>by
     obtain⟨hi,h2⟩:=hget i c hc;obtain⟨c',h3,y,h4,h5⟩:=hall i hi;rw[h2]at h3;cases h3;rw[<-aQQ,aG0,h4]at hx
     cases hx
     exact⟨m,y.2,h5⟩)
    have e1:(elems.map (·.1)).length=len:=by simp[hel]
    have e2:(elems.map (·.1)).length+(rest.map (·.1)).length=cap:=by simp;omega
    rw[e2,e1];refine sound_row (row:=css.flatten) (A:=A) (mk:=fun A=>.slice (some A) len cap) hs (fun j v hv=>?_) (fun h0=>?_) (.sl n 0 len cap) (fun ρ b1 b2=>?_) (fun m hm hb=>⟨hm,hb⟩) (hG n)
    . rw[flat_get hz0 css aOu]at hv;obtain⟨c,hc,hcv⟩:=aRR.1 hv;obtain⟨_,h2⟩:=hget _ c hc;have h3:=(aUq h2).2.2 (j % P.cellsOf e) (Nat.mod_lt _ hz0);rw[hcv]at h3;have hj:j / P.cellsOf e * P.cellsOf e+j % P.cellsOf e=j:=by rw[aV4];exact Nat.div_add_mod j _
      rw[Addr.add_add,hj]at h3;exact h3
    . have:css.flatten.length=0:=by rw[h0];rfl
      have hc0: ∃c,css[0]? =some c:=⟨_,aGX (by omega)⟩;obtain⟨c,hc⟩:=hc0;have h2:=aOu c (aOt hc);have h3:c.length<=css.flatten.length:=by
       cases hcs:css with
       |nil=>rw[hcs]at hc;cases hc
       |cons c0 cr=>rw[hcs]at hc;cases hc;simp
      omega
    simp only[den,b1,b2,aLx]
  . rename_i fs ps ht
    split at h
    . rename_i hcond
      obtain⟨xs,m,rfl,hx,hl,hxl,hall⟩:=DataW.trod_struct ht hr
      cases hx
      have hch:=(aA0 fs.toList 0 _ cs hcond.2 hl).2;rw[List.drop_zero]at hch;rw[<-hch];refine zN (S:=fun(p:Field × DataW Unit) c=>Reads P w p.1.type p.2 c) (fun x n r hx cs hcs=>ih _ x.2 n r hx cs hcs) _ n r h _ (by simp[hxl]) (fun i x c hx hc=>?_);rw[List.getElem?_zip_eq_some]at hx;obtain⟨h1,h2⟩:=hx;rw[aG0,h1]at hc
      cases hc
      have h3:=hall i x.1 (by rw[<-aGY];exact h1);rw[aG0]at h2;obtain⟨y,h4,h5⟩:=aJ4.1 h2;rw[h4]at h3;exact⟨m,y.2,by rw[h3,<-h5]⟩
    cases h
  . rename_i m e ps ht
    split at h
    . rename_i hcond
      obtain⟨xs,m',rfl,hx,hl,hxl,hall⟩:=DataW.trod_array ht hr
      cases hx
      rw[hcond.2]at hl;rw[<-chop m cs hl];refine zN (S:=fun d c=>Reads P w e d c) (fun x n r hx cs hcs=>ih e x n r hx cs hcs) _ n r h _ (by simp[hxl]) (fun i x c hx hc=>?_);rw[aG0]at hx;obtain⟨y,h4,h5⟩:=aJ4.1 hx;have hi:i<m:=by rw[<-hxl];exact(aIY.1 h4).1
      rw[aG0,aRw hi]at hc
      cases hc
      exact⟨m',y.2,by rw[hall i hi,h4,<-h5]⟩
    cases h
  cases h
end
end Ev
end
section
open Go.RowKit
namespace Ev
theorem aAZ{H:Type}{enc:TypeId × Value->H}{P:Program}{w:World}{base:Nat}{sp:Nat->Bool}{fuel:Nat}{t:TypeId}{cs:List Value}{x:DataW H × List MemPlace}{ms}(ht:P.underlying t=some (.interface ms))
 (h:DataW.trod enc P w base sp false fuel t cs=some x):(cs=[.nilIface]/\x=(.nil,[]))\/ ∃u v name y n,fuel=n+1/\cs=[.iface u v]/\P.typeName? 3 u=some name/\DataW.trod enc P w base sp false n u v.cells.toList=some y/\x=(.iface name y.1,y.2):=by
 cases fuel with
 |zero=>simp[DataW.trod]at h
 | succ n=>
  unfold DataW.trod at h;rw[ht]at h
  match cs,h with
  |[],h=>cases h
  | [v],h=>
   cases v<;>first
    |(cases h;done)
    |(cases h;exact .inl ⟨rfl,rfl⟩)
    |skip
   rename_i u v
   dsimp only at h
   cases hn:P.typeName? 3 u with
   |none=>rw[hn]at h;cases h
   |some name=>
    rw[hn]at h;obtain⟨y,h1,h2⟩:=aJ4.1 h;exact .inr ⟨u,v,name,y,n,rfl,rfl,hn,h1,h2.symm⟩
  |a::b::l,h=>simp at h
def aQi(P:Program)(f:Nat)(t:TypeId)(d:DataW Unit)(n:Nat):Option II:=
 match P.underlying t,d with
 |some (.interface _),.iface _ _=>some ([.mp n],[],n+1)
 |_,_=>aB2 P f t d n
def layVars(P:Program)(G:Nat):List (String × DataW Unit)->Nat->Option (List (Nat × List AV) × Nat)
 |[],n=>some ([],n)
 |x::r,n=>(P.globalNamed x.1).bind fun g=>if g<G then((P.globals[g]?).map (·.type)).bind fun t=>(aQi P 50 t x.2 n).bind fun a=>(layVars P G r a.2.2).map fun b=>((g,a.1)::(a.2.1++b.1),b.2)else none
def Env.QI(ρ:Env)(n:Nat)(u:TypeId)(v:Value):Env:=⟨ρ.blk,ρ.off,fun b=>if b=n then⟨0,u,v⟩else ρ.cp b⟩
section
variable[Gh]{w:World}{P:Program}
theorem aB0(hG: ∀n,¬Gh.bad n){f:Nat}{t:TypeId}{d:DataW Unit}{n:Nat}{r:II}(h:aQi P f t d n=some r){cs:List Value}(hr:Reads P w t d cs):qC w n r cs:=by
 unfold aQi at h
 split at h
 . rename_i ms a b ht
   obtain⟨fuel,p,hr⟩:=hr;rcases aAZ ht hr with⟨_,hx⟩|⟨u,v,name,y,m,_,rfl,_,_,hx⟩
   . cases hx
   cases h
   intro ρ;refine⟨ρ.QI n u v,fun b hb=>?_,aQm n,?_,⟨⟨aKZ n,hG n⟩,trivial⟩,fun q hq=>by cases hq⟩
   . have:b≠n:=by omega
     simp[Env.QI,this]
   simp[den,Env.QI]
 exact aB1 hG f t _ n r h cs hr
def TL(w:World)(ρ:Env)(n:Nat)(q:Nat × List AV):Prop:=
 q.1<n/\iH n q.2/\(∃x,w.heap[ρ.blk q.1]? =some x)/\ ∀i x,q.2[i]? =some x->w.cell? ⟨ρ.blk q.1,ρ.off q.1+i,none⟩=some (den ρ x)
theorem TL.ext{ρ ρ':Env}{n m:Nat}{q:Nat × List AV}(h:TL w ρ n q)(he:Ext n ρ ρ')(hm:n<=m):TL w ρ' m q:=by
 obtain⟨h1,h2,h3,h4⟩:=h;have hb:=he q.1 h1;refine⟨aF7 h1 hm,iH.mono hm _ h2,by rw[hb.1];exact h3,fun i x hx=>?_⟩;rw[hb.1,hb.2.1,h4 i x hx,nJ he x ((bI _ _).1 h2 x (aOt hx))]
theorem PS (hG: ∀n,¬Gh.bad n) {G:Nat}: ∀(L:List (String × DataW Unit)) (ps:List MemPlace) (n:Nat) (r:List (Nat × List AV) × Nat),DataW.LaidVars P w L ps->layVars P G L n=some r->G<=n->
 ∀ ρ:Env,(∀g,g<G->ρ.blk g=g/\ρ.off g=0)-> ∃ ρ',Ext n ρ ρ'/\n<=r.2/\ ∀q ∈ r.1,TL w ρ' r.2 q:=by
 intro L
 induction L with
 |nil=>intro ps n r _ h _ ρ _;cases h;exact⟨ρ,Ext.refl _ _,aCU _,fun q hq=>by cases hq⟩
 | cons x L ih=>
  intro ps n r hl h hn ρ hρ;obtain⟨nm,d⟩:=x;obtain⟨g,t,cs,fuel,p,q,h1,h2,h3,h4,h5,_⟩:=hl;simp only[layVars,aRR]at h;obtain⟨g',k1,k2⟩:=h;rw[h1]at k1;cases k1
  by_cases hg:g<G
  . rw [aFV hg]at k2;simp only[aRR]at k2;obtain⟨t',k3,k4⟩:=k2;rw[h2]at k3;cases k3;obtain⟨a,k5,k6⟩:=k4;obtain⟨b,k7,rfl⟩:=aJ4.1 k6;obtain⟨ρ1,e1,j1⟩:=aB0 hG k5 ⟨fuel,p,h4⟩ ρ;have G9: ∀g,g<G->ρ1.blk g=g/\ρ1.off g=0:=fun g hg=>by
     have:=e1 g (by omega);rw[this.1,this.2.1];exact hρ g hg
    obtain⟨ρ2,e2,j2,j3⟩:=ih q a.2.2 b h5 k7 (aI6 hn j1.le) ρ1 G9;refine⟨ρ2,e1.trans e2 j1.le,aI6 j1.le j2,fun y hy=>?_⟩;rcases aG4.1 hy with rfl|hy
    . have hc:TL w ρ1 a.2.2 (g,a.1):=by
       have hw: ∃ty fr,w.heap[g]? =some (.cells cs ty fr):=by
        unfold World.var? at h3;rw[h1]at h3;simp only[aWd]at h3
        split at h3
        . rename_i c ty fr hx;cases h3;exact⟨ty,fr,hx⟩
        cases h3
       obtain⟨ty,fr,hw⟩:=hw;refine⟨aF7 (by omega) j1.le,j1.sc,by rw[(G9 g hg).1];exact⟨_,hw⟩,fun i z hz=>?_⟩;rw[(G9 g hg).1,(G9 g hg).2,aJU];have:=aRx (·[i]?) j1.cells;simp only[aG0,hz,aUD]at this;simp only[World.cell?,hw,Option.isSome_none,aLe,aRv];rw[<-this,aGY]
      exact hc.ext e2 j2
    rcases aLf.1 hy with hy|hy
    . obtain⟨i1,i2,i3,i4,i5⟩:=j1.blks y hy;exact TL.ext ⟨i2,i3,i4,i5⟩ e2 j2
    exact j3 y hy
  rw[aB9 hg]at k2;cases k2
end
end Ev
end
section
open Go.RowKit
namespace Ev
@[instance_reducible] def G0:Gh:=⟨fun _=>False⟩
noncomputable def EF(bs:List (Nat × List AV)):Tr HO:=bs.foldr (fun q t=>t.set q.1 (.ro q.2)) .nil
theorem aCb{bs:List (Nat × List AV)}{b:Nat}{o:HO}(h:(EF bs).get b=some o): ∃q ∈ bs,q.1=b/\o=.ro q.2:=by
 induction bs with
 |nil=>exact absurd (show(Tr.nil:Tr HO).get b=some o from h) (by rw[Tr.get_nil];intro h;cases h)
 |cons q bs ih=>
  have h:((EF bs).set q.1 (.ro q.2)).get b=some o:=h
  by_cases e:q.1=b
  . subst e;rw[Tr.oL]at h;cases h;exact⟨q,aG1,rfl,rfl⟩
  rw[Tr.dN _ _ e]at h;obtain⟨r,h1,h2⟩:=ih h;exact⟨r,aHg _ h1,h2⟩
def OI(G:Nat)(w0:World)(fs:List (Nat × List Value)):Prop:=
 ∀q ∈ fs,q.1<G/\(∃x,w0.heap[q.1]? =some x)/\ ∀(i:Nat) (v:Value),q.2[i]? =some v->w0.cell? ⟨q.1,i,none⟩=some v
noncomputable def fixed(fs:List (Nat × List Value)):List (Nat × List AV):=fs.map fun q=>(q.1,q.2.map AV.v)
theorem aA4(lv:Nat->Cp){P:Program}{L:List (String × DataW Unit)}{G n:Nat}{bs:List (Nat × List AV)}{w0 w:World}(hl:laidMet P L w0){fs:List (Nat × List Value)}(hf:OI G w0 fs)(hw:Below w0.heap.size w0 w)(h:layVars P G L G=some (bs,n)):
 ∃ ρ,@aO G0 w0 ρ ⟨⟨G,lv⟩,n,n,[]⟩ ⟨EF (bs++fixed fs),n⟩ w:=by
 obtain⟨ps,h1,_⟩:=hl;obtain⟨ρ,e1,e2,e3⟩:=@PS G0 w0 P (fun _ h=>h) G L ps G (bs,n) h1 h (aCU _) ⟨fun b=>b,fun _=>0,lv⟩ (fun g _=>⟨rfl,rfl⟩);have e3: ∀q ∈ bs++fixed fs,q.1<n/\@iH G0 n q.2/\(∃x,w0.heap[ρ.blk q.1]? =some x)/\ ∀i x,q.2[i]? =some x->w0.cell? ⟨ρ.blk q.1,ρ.off q.1+i,none⟩=some (den ρ x):=by
  intro q hq;rcases aLf.1 hq with hq|hq
  . exact e3 q hq
  obtain⟨r,hr,rfl⟩:=aRP.1 hq;obtain⟨k1,k2,k3⟩:=hf r hr;have hb:=e1 r.1 k1;refine⟨aF7 k1 e2,?_,by rw[hb.1];exact k2,fun i x hx=>?_⟩
  . rw[@bI G0];intro x hx;obtain⟨v,_,rfl⟩:=aRP.1 hx;trivial
  rw[aG0]at hx;obtain⟨v,hv,rfl⟩:=aJ4.1 hx;rw[hb.1,hb.2.1,aJU];exact k3 i v hv
 have key: ∀b o,(Hs.mk (EF (bs++fixed fs)) n).look [] b=some o->b<n/\@HO.Holds G0 ρ n b w o/\@HO.Holds G0 ρ n b w0 o:=by
  intro b o hb;obtain⟨q,h2,rfl,rfl⟩:=aCb (Hs.bV.1 hb).2;obtain⟨k1,k2,k3,k4⟩:=e3 q h2;refine⟨k1,⟨?_,fun i x hx=>aRB hw (k4 i x hx),k2⟩,k3,k4,k2⟩;obtain⟨x,hx⟩:=k3;have hlt:ρ.blk q.1<w0.heap.size:=by
   rcases aLb (ρ.blk q.1) w0.heap.size with h|h
   . exact h
   rw[aKY h]at hx;cases hx
  have:=aF7 hlt hw.size;exact⟨_,aLd this⟩
 refine⟨ρ,@aO.mk G0 _ _ _ _ _ (fun g hg=>?_) (fun _ _ h=>h) (fun _ _ h=>h) e2 (aCU _) (aCU _) (fun _ _=>rfl) hw (fun b o hb=>(key b o hb).1) (fun b o hb=>(key b o hb).2.1) ?_ ?_ ?_⟩
 . exact e1 g hg
 . intro b o hb hl;have:=(key b o hb).1;exact absurd hl (aWK.2 this)
 . intro b o hb _;exact @HO.Holds.lt G0 _ _ _ _ _ (key b o hb).2.2
 intro b b' o o' hb _ hl;have:=(key b o hb).1;exact absurd hl (aWK.2 this)
theorem PU{P:Program}{l:List (String × DataW Unit)}{w:World}(h:laidMetH P l w):laidMet P (l.filter fun x=>x.2.handleName?.isNone) w:=by
 unfold laidMetH at h;generalize hfl:(l.filter fun x=>x.2.handleName?.isSome)=fl at h
 cases fl with
 | nil=>
  have e:(l.filter fun x=>x.2.handleName?.isNone)=l:=by
   rw[List.filter_eq_self];intro x hx;have:=(List.filter_eq_nil_iff.1 hfl) x hx
   cases hn:x.2.handleName? with
   |none=>rfl
   |some s=>rw[hn]at this;exact absurd rfl this
  rw[e];exact h
 |cons a a0t=>exact h.1
end Ev
end
section
open Go.RowKit
namespace Ev
noncomputable def aM5(a b:List UInt8):Bool:=
 List.rec (motive:=fun _=>List UInt8->Bool) (fun l=>List.rec (motive:=fun _=>Bool) true (fun _ _ _=>false) l) (fun x _ ih l=>List.rec (motive:=fun _=>Bool) false (fun y t _=>band (Nat.beq x.toNat y.toNat) (ih t)) l) a b
theorem aM4: ∀ {a b:List UInt8},aM5 a b=true->a=b:=by
 intro a
 induction a with
 |nil=>intro b h;cases b with
  |nil=>rfl
  |cons y t=>cases h
 | cons x a ih=>
  intro b h
  cases b with
  |nil=>cases h
  | cons y t=>
   have h:band (Nat.beq x.toNat y.toNat) (aM5 a t)=true:=h;have h1:Nat.beq x.toNat y.toNat=true/\aM5 a t=true:=by
    cases hx:Nat.beq x.toNat y.toNat with
    |true=>rw[hx]at h;exact⟨rfl,h⟩
    |false=>rw[hx]at h;cases h
   rw[ih h1.2,aWy.1 (aFX h1.1)]
noncomputable def aDK(a b:Value):Bool:=
 match a,b with
 | .int k x,.int k' y=>band (kEq k k') (ieq x y)
 | .bool x,.bool y=>aJ6 x y
 | .string x,.string y=>aM5 x.data.toList y.data.toList
 | .float .f64 x,.float .f64 y=>Nat.beq x y
 | .slice none n m,.slice none n' m'=>band (Nat.beq n n') (Nat.beq m m')
 |_,_=>false
theorem aMK{a b:IntKind}(h:kEq a b=true):a=b:=by
 cases a<;>cases b<;>first|rfl|cases h
theorem aMO{a b:Int}(h:ieq a b=true):a=b:=by
 cases a<;>cases b
 . exact aRx Int.ofNat (aFX h)
 . cases h
 . cases h
 exact aRx Int.negSucc (aFX (h:Nat.beq _ _=true)).symm
theorem aJK{a b:Value}(h:aDK a b=true):a=b:=by
 unfold aDK at h
 split at h
 . obtain⟨h1,h2⟩:=aF h;rw[aMK h1,aMO h2]
 . rename_i x y
   cases x<;>cases y<;>first|rfl|cases h
 . exact aRx Value.string (ByteArray.ext (Array.toList_inj.1 (aM4 h)))
 . rw[aFX h]
 . obtain⟨h1,h2⟩:=aF h;rw[aFX h1,aFX h2]
 cases h
end Ev
end




section
open Go.RowKit
namespace Ev
theorem OI.nil{G:Nat}{w0:World}:OI G w0 []:=fun q hq=>by cases hq
end Ev
end
section
open Go.RowKit
namespace Ev
noncomputable def fnE(f:Fn):Fn->Bool:=
 Fn.rec (motive:=fun _=>Fn->Bool)
  (fun a g=>Fn.rec (motive:=fun _=>Bool) (fun b=>Nat.beq a b) (fun _=>false) (fun _ _=>false) (fun _ _ _ _=>false) (fun _=>false) g) (fun _ _=>false)
  (fun t m g=>Fn.rec (motive:=fun _=>Bool) (fun _=>false) (fun _=>false) (fun t' m'=>band (Nat.beq t t') (m==m')) (fun _ _ _ _=>false) (fun _=>false) g)
  (fun _ _ _ _ _=>false) (fun _ _=>false) f
theorem aQB{f g:Fn}(h:fnE f g=true):f=g:=by
 cases f<;>cases g<;>first|(cases h;done)|skip
 . rw[aFX (show Nat.beq _ _=true from h)]
 obtain⟨h1,h2⟩:=aF (show band (Nat.beq _ _) (_==_)=true from h);rw[aFX h1,aFZ.1 h2]
def f1{α:Type}(_:α):Bool:=false
def f2{α β:Type}(_:α)(_:β):Bool:=false
def f3{α β γ:Type}(_:α)(_:β)(_:γ):Bool:=false
def f4{α β γ δ:Type}(_:α)(_:β)(_:γ)(_:δ):Bool:=false
noncomputable def eqV(v:Value)(y:AV):Bool:=AV.el (fun u=>aDK v u) f2 f4 f4 f3 f2 f1 f1 f1 y
noncomputable def eqP(b o:Nat)(y:AV):Bool:=AV.el f1 (fun b' o'=>band (Nat.beq b b') (Nat.beq o o')) f4 f4 f3 f2 f1 f1 f1 y
noncomputable def aTy(b o n c:Nat)(y:AV):Bool:=AV.el f1 f2 (fun b' o' n' c'=>band (Nat.beq b b') (band (Nat.beq o o') (band (Nat.beq n n') (Nat.beq c c')))) f4 f3 f2 f1 f1 f1 y
noncomputable def aTz(b o n c:Nat)(y:AV):Bool:=AV.el f1 f2 f4 (fun b' o' n' c'=>band (Nat.beq b b') (band (Nat.beq o o') (band (Nat.beq n n') (Nat.beq c c')))) f3 f2 f1 f1 f1 y
noncomputable def eqFn(f:Fn)(_ _:List AV)(iha ihc:List AV->Bool)(y:AV):Bool:=AV.el f1 f2 f4 f4 (fun f' a' c'=>band (iha a') (band (ihc c') (fnE f f'))) f2 f1 f1 f1 y
noncomputable def eqI(t:TypeId)(_:AV)(ih:AV->Bool)(y:AV):Bool:=AV.el f1 f2 f4 f4 f3 (fun t' x'=>band (Nat.beq t t') (ih x')) f1 f1 f1 y
noncomputable def aTA(_:List AV)(ih:List AV->Bool)(y:AV):Bool:=AV.el f1 f2 f4 f4 f3 f2 ih f1 f1 y
noncomputable def aTx(_:List AV)(ih:List AV->Bool)(y:AV):Bool:=AV.el f1 f2 f4 f4 f3 f2 f1 ih f1 y
noncomputable def eqMp(b:Nat)(y:AV):Bool:=AV.el f1 f2 f4 f4 f3 f2 f1 f1 (fun b'=>Nat.beq b b') y
noncomputable def eqN(m:List AV):Bool:=isNil m
noncomputable def eqC(_:AV)(_:List AV)(ihx:AV->Bool)(ihl:List AV->Bool)(m:List AV):Bool:=List.rec (motive:=fun _=>Bool) false (fun y m _=>band (ihx y) (ihl m)) m
noncomputable def eqS(x:AV):AV->Bool:=AV.rec (motive_1:=fun _=>AV->Bool) (motive_2:=fun _=>List AV->Bool) eqV eqP aTy aTz eqFn eqI aTA aTx eqMp eqN eqC x
noncomputable def EN(l:List AV):List AV->Bool:=AV.rec_1 (motive_1:=fun _=>AV->Bool) (motive_2:=fun _=>List AV->Bool) eqV eqP aTy aTz eqFn eqI aTA aTx eqMp eqN eqC l
mutual
theorem uP:(x y:AV)->eqS x y=true->x=y
 | .v a,y,h=>by cases y<;>first|(cases h;done)|(rw[aJK (show aDK _ _=true from h)])
 | .ptr b o,y,h=>by
  cases y<;>first|(cases h;done)|skip
  obtain⟨h1,h2⟩:=aF (show band (Nat.beq _ _) (Nat.beq _ _)=true from h);rw[aFX h1,aFX h2]
 | .sl b o n c,y,h=>by
  cases y<;>first|(cases h;done)|skip
  obtain⟨h1,h2⟩:=aF (show band (Nat.beq _ _) (band (Nat.beq _ _) (band (Nat.beq _ _) (Nat.beq _ _)))=true from h);obtain⟨h3,h4⟩:=aF h2;obtain⟨h5,h6⟩:=aF h4;rw[aFX h1,aFX h3,aFX h5,aFX h6]
 | .DV b o n c,y,h=>by
  cases y<;>first|(cases h;done)|skip
  obtain⟨h1,h2⟩:=aF (show band (Nat.beq _ _) (band (Nat.beq _ _) (band (Nat.beq _ _) (Nat.beq _ _)))=true from h);obtain⟨h3,h4⟩:=aF h2;obtain⟨h5,h6⟩:=aF h4;rw[aFX h1,aFX h3,aFX h5,aFX h6]
 | .fn f a c,y,h=>by
  cases y<;>first|(cases h;done)|skip
  obtain⟨h1,h2⟩:=aF (show band (EN a _) (band (EN c _) (fnE f _))=true from h);obtain⟨h3,h4⟩:=aF h2;rw[oN a _ h1,oN c _ h3,aQB h4]
 | .y7 t x,y,h=>by
  cases y<;>first|(cases h;done)|skip
  obtain⟨h1,h2⟩:=aF (show band (Nat.beq _ _) (eqS x _)=true from h);rw[aFX h1,uP x _ h2]
 | .agg l,y,h=>by
  cases y<;>first|(cases h;done)|skip
  rw[oN l _ h]
 | .aS l,y,h=>by
  cases y<;>first|(cases h;done)|skip
  rw[oN l _ h]
 | .mp b,y,h=>by
  cases y<;>first|(cases h;done)|skip
  rw[aFX (show Nat.beq _ _=true from h)]
theorem oN:(l m:List AV)->EN l m=true->l=m
 |[],m,h=>by cases m;rfl;cases h
 | x::l,m,h=>by
  cases m with
  |nil=>cases h
  |cons y m=>
   obtain⟨h1,h2⟩:=aF (show band (eqS x y) (EN l m)=true from h);rw[uP x y h1,oN l m h2]
end
mutual
def dS(l:Value):AV->Value
 | .v x=>x
 | .fn f a c=>uX f (dSL l a) (dSL l c)
 | .y7 t x=>.iface t (dS l x)
 | .agg m=>.agg (dSL l m).toArray
 | .aS m=>.tuple (dSL l m).toArray
 | .mp _=>.iface 0 l
 |_=>.bool false
def dSL(l:Value):List AV->List Value
 |[]=>[]
 |x::m=>dS l x::dSL l m
end
theorem WC(l:Value)(m:List AV):dSL l m=m.map (dS l):=by
 induction m with
 |nil=>rfl
 |cons x m ih=>simp only[dSL,ih,aQw]
noncomputable def gU(g:Nat)(x:AV):Bool:=
 AV.rec (motive_1:=fun _=>Bool) (motive_2:=fun _=>Bool) (fun _=>true) (fun _ _=>false) (fun _ _ _ _=>false) (fun _ _ _ _=>false) (fun _ _ _ a b=>band a b) (fun _ _ x=>x) (fun _ l=>l) (fun _ l=>l) (fun b=>Nat.beq b g) true (fun _ _ x l=>band x l) x
noncomputable def eF(g:Nat)(l:List AV):Bool:=
 AV.rec_1 (motive_1:=fun _=>Bool) (motive_2:=fun _=>Bool) (fun _=>true) (fun _ _=>false) (fun _ _ _ _=>false) (fun _ _ _ _=>false) (fun _ _ _ a b=>band a b) (fun _ _ x=>x) (fun _ l=>l) (fun _ l=>l) (fun b=>Nat.beq b g) true (fun _ _ x l=>band x l) l
mutual
theorem iY{g:Nat}{ρ:Env}{l:Value}(hρ:ρ.cp g=⟨0,0,l⟩):(x:AV)->gU g x=true->den ρ x=dS l x
 | .v _,_=>rfl
 | .ptr _ _,h=>by cases h
 | .sl _ _ _ _,h=>by cases h
 | .DV _ _ _ _,h=>by cases h
 | .fn f a c,h=>by
  obtain⟨h1,h2⟩:=aF (show band (eF g a) (eF g c)=true from h);simp only[den,dS,lN hρ a h1,lN hρ c h2]
 | .y7 t x,h=>by simp only[den,dS,iY hρ x h]
 | .agg m,h=>by simp only[den,dS,lN hρ m h]
 | .aS m,h=>by simp only[den,dS,lN hρ m h]
 | .mp b,h=>by
  obtain rfl:=aFX (show Nat.beq b g=true from h);simp only[den,dS,hρ]
theorem lN{g:Nat}{ρ:Env}{l:Value}(hρ:ρ.cp g=⟨0,0,l⟩):(m:List AV)->eF g m=true->jI ρ m=dSL l m
 |[],_=>rfl
 |x::m,h=>by
  obtain⟨h1,h2⟩:=aF (show band (gU g x) (eF g m)=true from h);simp only[jI,dSL,iY hρ x h1,lN hρ m h2]
end
mutual
theorem JW[Gh]{g n:Nat}(hg:Gd n g):(x:AV)->gU g x=true->Sc n x
 | .v _,_=>trivial
 | .ptr _ _,h=>by cases h
 | .sl _ _ _ _,h=>by cases h
 | .DV _ _ _ _,h=>by cases h
 | .fn f a c,h=>by
  obtain⟨h1,h2⟩:=aF (show band (eF g a) (eF g c)=true from h);exact⟨qK hg a h1,qK hg c h2⟩
 | .y7 t x,h=>JW hg x h
 | .agg m,h=>qK hg m h
 | .aS m,h=>qK hg m h
 | .mp b,h=>by
  obtain rfl:=aFX (show Nat.beq b g=true from h);exact hg
theorem qK[Gh]{g n:Nat}(hg:Gd n g):(m:List AV)->eF g m=true->iH n m
 |[],_=>trivial
 |x::m,h=>by
  obtain⟨h1,h2⟩:=aF (show band (gU g x) (eF g m)=true from h);exact⟨JW hg x h1,qK hg m h2⟩
end
abbrev Fct:=Nat × AV × AV × Bool
noncomputable def aQG(fs:List Fct)(c:Nat)(x y:AV):Option Bool:=
 List.rec (motive:=fun _=>Option Bool) none (fun e _ ih=>Bool.rec (motive:=fun _=>Option Bool) ih (some e.2.2.2) (band (Nat.beq e.1 c) (band (eqS e.2.1 x) (eqS e.2.2.1 y)))) fs
theorem aJE{c:Nat}{x y:AV}{b:Bool}: ∀ {fs:List Fct},aQG fs c x y=some b->(c,x,y,b) ∈ fs:=by
 intro fs
 induction fs with
 |nil=>intro h;cases h
 | cons e fs ih=>
  intro h;have h:Bool.rec (motive:=fun _=>Option Bool) (aQG fs c x y) (some e.2.2.2) (band (Nat.beq e.1 c) (band (eqS e.2.1 x) (eqS e.2.2.1 y)))=some b:=h
  cases hb:band (Nat.beq e.1 c) (band (eqS e.2.1 x) (eqS e.2.2.1 y))with
  |false=>rw[hb]at h;exact aHg _ (ih h)
  |true=>
   rw[hb]at h;obtain⟨h1,h2⟩:=aF hb;obtain⟨h3,h4⟩:=aF h2;have h:e.2.2.2=b:=aLh h;have:(c,x,y,b)=e:=by rw[<-aFX h1,<-uP _ _ h3,<-uP _ _ h4,<-h]
   rw[this];exact aG1
abbrev rG:=FuncId × List AV × AV
noncomputable def aPz(os:List rG)(f:FuncId)(xs:List AV):Option AV:=
 List.rec (motive:=fun _=>Option AV) none (fun e _ ih=>Bool.rec (motive:=fun _=>Option AV) ih (some e.2.2) (band (Nat.beq e.1 f) (EN e.2.1 xs))) os
theorem aHZ{f:FuncId}{xs:List AV}{v:AV}: ∀ {os:List rG},aPz os f xs=some v->(f,xs,v) ∈ os:=by
 intro os
 induction os with
 |nil=>intro h;cases h
 | cons e os ih=>
  intro h;have h:Bool.rec (motive:=fun _=>Option AV) (aPz os f xs) (some e.2.2) (band (Nat.beq e.1 f) (EN e.2.1 xs))=some v:=h
  cases hb:band (Nat.beq e.1 f) (EN e.2.1 xs)with
  |false=>rw[hb]at h;exact aHg _ (ih h)
  |true=>
   rw[hb]at h;obtain⟨h1,h2⟩:=aF hb;have h:e.2.2=v:=aLh h;have:(f,xs,v)=e:=by rw[<-aFX h1,<-oN _ _ h2,<-h]
   rw[this];exact aG1
abbrev yJ:=TypeId × AV × AV × AV
noncomputable def aPD(ps:List yJ)(t:TypeId)(x y:AV):Option AV:=
 List.rec (motive:=fun _=>Option AV) none (fun e _ ih=>Bool.rec (motive:=fun _=>Option AV) ih (some e.2.2.2) (band (Nat.beq e.1 t) (band (eqS e.2.1 x) (eqS e.2.2.1 y)))) ps
theorem aH8{t:TypeId}{x y z:AV}: ∀ {ps:List yJ},aPD ps t x y=some z->(t,x,y,z) ∈ ps:=by
 intro ps
 induction ps with
 |nil=>intro h;cases h
 | cons e ps ih=>
  intro h;have h:Bool.rec (motive:=fun _=>Option AV) (aPD ps t x y) (some e.2.2.2) (band (Nat.beq e.1 t) (band (eqS e.2.1 x) (eqS e.2.2.1 y)))=some z:=h
  cases hb:band (Nat.beq e.1 t) (band (eqS e.2.1 x) (eqS e.2.2.1 y))with
  |false=>rw[hb]at h;exact aHg _ (ih h)
  |true=>
   rw[hb]at h;obtain⟨h1,h2⟩:=aF hb;obtain⟨h3,h4⟩:=aF h2;have h:e.2.2.2=z:=aLh h;have:(t,x,y,z)=e:=by rw[<-aFX h1,<-uP _ _ h3,<-uP _ _ h4,<-h]
   rw[this];exact aG1
noncomputable def tbL(B:Tab)(l:Value)(fs:List Fct)(ps:List yJ)(os:List rG):Tab:=
 ⟨B.p,⟨B.g.n,fun _=>⟨0,0,l⟩⟩,B.l,B.ty,B.fn,aPz os,B.idn,B.mnz,B.met,aQG fs,aPD ps⟩
def aD8(g:Nat)(l:Value)(e:Fct):Prop:=gU g e.2.1=true/\gU g e.2.2.1=true/\jJ e.1 (dS l e.2.1) (dS l e.2.2.1)=e.2.2.2
def EX(P:Program)(l:Value)(e:yJ):Prop:= ∀b,dS l e.2.2.2=.bool b-> ∀ox oy w,
 (do eqGuard .eql e.1 ox oy (dS l e.2.1) (dS l e.2.2.1);binOp .eql e.1 (dS l e.2.1) (dS l e.2.2.1)).run P w=.ok (.bool b) w/\
 (do eqGuard .neq e.1 ox oy (dS l e.2.1) (dS l e.2.2.1);binOp .neq e.1 (dS l e.2.1) (dS l e.2.2.1)).run P w=.ok (.bool (!b)) w
noncomputable def YL(g:Nat)(e:yJ):Bool:=band (gU g e.2.1) (band (gU g e.2.2.1) (gU g e.2.2.2))
def xB(P:Program)(w0:World)(l:Value)(e:rG):Prop:= ∀w,Below w0.heap.size w0 w->
 Calls P e.1 (e.2.1.map (dS l)).toArray w fun r w'=>r=.returned (dS l e.2.2)/\Below w.heap.size w w'
noncomputable def G6(B:Tab)(g:Nat)(e:rG):Bool:=band (eF g e.2.1) (band (gU g e.2.2) (Option.rec (motive:=fun _=>Bool) false (fun _=>true) (B.fn.get e.1)))
theorem aA1{B:Tab}{w0:World}{l:Value}{fs:List Fct}{ps:List yJ}{os:List rG}{g:Nat}(hB:fG B w0)(hg:Nat.ble (g+1) B.g.n=true)
 (hf: ∀e ∈ fs,aD8 g l e) (hp: ∀e ∈ ps,YL g e=true/\EX B.p l e) (ho: ∀e ∈ os,G6 B g e=true/\xB B.p w0 l e):fG (tbL B l fs ps os) w0 where
 ty:=hB.ty
 fn:=hB.fn
 orc:=fun f xs v h=>by
  obtain⟨h1,h2⟩:=ho _ (aHZ h);obtain⟨h3,h4⟩:=aF h1;obtain⟨h5,h6⟩:=aF h4;have hg':g<B.g.n:=by have:=aI7 hg;omega
  refine⟨fun _ n hn=>JW (hn g hg') v h5,?_,fun ρ w hρ hw=>?_⟩
  . cases hfn:B.fn.get f with
    |none=>rw[show B.fn.get (f,xs,v).1=none from hfn]at h6;cases h6
    |some fn=>exact(hB.fn f fn hfn).2
  have ED:ρ.cp g=⟨0,0,l⟩:=hρ g hg';have:=h2 w hw;rw[<-dD,lN ED xs h3,WC,iY ED v h5];exact this
 y9:={
  y9:=fun c x y b h ρ hρ=>by
   have hg':g<B.g.n:=by have:=aI7 hg;omega
   have ED:ρ.cp g=⟨0,0,l⟩:=hρ g hg';obtain⟨h1,h2,h3⟩:=hf _ (aJE h);rw[iY ED x h1,iY ED y h2];exact h3
  oop:=fun t x y z h ρ hρ b hz ox oy w=>by
   have hg':g<B.g.n:=by have:=aI7 hg;omega
   have ED:ρ.cp g=⟨0,0,l⟩:=hρ g hg';obtain⟨h1,h2⟩:=hp _ (aH8 h);obtain⟨h3,h4⟩:=aF h1;obtain⟨h5,h6⟩:=aF h4;rw[iY ED z h6]at hz;rw[iY ED x h3,iY ED y h5];exact h2 b hz ox oy w }
 mixed:=hB.mixed
 idn:=hB.idn
 mnz:=hB.mnz
 met:=hB.met
inductive DT where
 |leaf (v:AV)
 |no
 |node (c:Nat) (x y:AV) (t f:DT)
def DT.den(l:Value):DT->Value
 | .leaf v=>dS l v
 | .no=>.bool false
 | .node c x y t f=>cond (jJ c (dS l x) (dS l y)) (t.den l) (f.den l)
def DT.live(l:Value):DT->Prop
 | .leaf _=>True
 | .no=>False
 | .node c x y t f=>(jJ c (dS l x) (dS l y)=true->t.live l)/\(jJ c (dS l x) (dS l y)=false->f.live l)
noncomputable def aHK(g:Nat)(v:AV)(x:Option (AV × Hs)):Bool:=Option.rec (motive:=fun _=>Bool) false (fun p=>band (eqS p.1 v) (gU g v)) x
noncomputable def DT.ok(B:Tab)(l:Value)(ps:List yJ)(os:List rG)(h0:Tr HO)(d g:Nat)(f:FuncId)(xs:List AV)(T:DT):List Fct->Bool:=
 DT.rec (motive:=fun _=>List Fct->Bool) (fun v fs=>aHK g v (sG (tbL B l fs ps os) d B.l [] f xs ⟨h0,B.l⟩)) (fun _=>true)
  (fun c x y _ _ iht ihf fs=>band (band (gU g x) (gU g y)) (band (iht ((c,x,y,true)::fs)) (ihf ((c,x,y,false)::fs)))) T
def aV(n l:Nat)(w0:World)(h0:Tr HO):Prop:= ∀lv w,Below w0.heap.size w0 w-> ∃ ρ,@aO G0 w0 ρ ⟨⟨n,lv⟩,l,l,[]⟩ ⟨h0,l⟩ w
theorem aJM{B:Tab}{w0 w:World}{l:Value}{ps:List yJ}{os:List rG}{g d:Nat}{h0:Tr HO}{f:FuncId}{xs:List AV}(hB:fG B w0)(hst:aV B.g.n B.l w0 h0)(hg:Nat.ble (g+1) B.g.n=true)
 (hp: ∀e ∈ ps,YL g e=true/\EX B.p l e) (ho: ∀e ∈ os,G6 B g e=true/\xB B.p w0 l e) (hx:eF g xs=true) (hy:Nat.ble yF f=false) (hw:Below w0.heap.size w0 w) (T:DT):
 ∀fs,(∀e ∈ fs,aD8 g l e)->T.ok B l ps os h0 d g f xs fs=true->T.live l->Calls B.p f (xs.map (dS l)).toArray w fun e w'=>e=.returned (T.den l)/\Below w.heap.size w w':=by
 induction T with
 | leaf v=>
  intro fs hf h _;have h:aHK g v (sG (tbL B l fs ps os) d B.l [] f xs ⟨h0,B.l⟩)=true:=h
  cases hr:sG (tbL B l fs ps os) d B.l [] f xs ⟨h0,B.l⟩with
  |none=>rw[hr]at h;cases h
  |some p=>
   rw[hr]at h;obtain⟨h1,h2⟩:=aF (show band (eqS p.1 v) (gU g v)=true from h);have h1:=uP _ _ h1;obtain⟨v',s'⟩:=p;have h1:v'=v:=h1;subst h1;obtain⟨ρ,hs⟩:=hst (fun _=>⟨0,0,l⟩) w hw;have hg':g<B.g.n:=by have:=aI7 hg;omega
   have hρ:ρ.cp g=⟨0,0,l⟩:=(@aO.gl G0 _ _ _ _ _ hs g hg').2.2;have hgd:@Gd G0 B.l g:=⟨aF7 hg' (@aO.gn G0 _ _ _ _ _ hs),fun h=>h⟩;have hT:=aA1 hB hg hf hp ho;have:=(NU hT d G0 _ _ _ _ _ _ _ hr ρ w hs (@qK G0 _ _ hgd xs hx)).1 hy;rw[<-dD,lN hρ xs hx,WC]at this;refine this.mono ?_;rintro e w' ⟨ρ',rfl,h3,_⟩;have fr:=@Stp.fr G0 _ _ _ _ _ _ _ _ h3;have ED:ρ'.cp g=⟨0,0,l⟩:=(@aO.gl G0 _ _ _ _ _ (@Stp.sat G0 _ _ _ _ _ _ _ _ h3) g hg').2.2;exact⟨by rw[iY ED v' h2];rfl,fr.os,fr.tape,fr.output,fr.size,fun r hr=>fr.block r hr (fun b o h3 h4=>absurd h3 (aWK.2 (@aO.lt G0 _ _ _ _ _ hs b o h4)))⟩
 |no=>intro fs _ _ h;cases h
 | node c x y t u iht ihu=>
  intro fs hf h hl;obtain⟨h1,h2⟩:=aF (show band (band (gU g x) (gU g y)) (band (t.ok B l ps os h0 d g f xs ((c,x,y,true)::fs)) (u.ok B l ps os h0 d g f xs ((c,x,y,false)::fs)))=true from h);obtain⟨h3,h4⟩:=aF h1;obtain⟨h5,h6⟩:=aF h2;show Calls B.p f _ w fun e w'=>e=.returned (cond (jJ c (dS l x) (dS l y)) (t.den l) (u.den l))/\_
  cases hb:jJ c (dS l x) (dS l y)with
  | true=>
   exact iht _ (fun e he=>by
    rcases aG4.1 he with rfl|he
    . exact⟨h3,h4,hb⟩
    exact hf e he) h5 (hl.1 hb)
  | false=>
   exact ihu _ (fun e he=>by
    rcases aG4.1 he with rfl|he
    . exact⟨h3,h4,hb⟩
    exact hf e he) h6 (hl.2 hb)
theorem XL{B:Tab}{w0 w:World}{l:Value}{ps:List yJ}{os:List rG}{g d:Nat}{h0:Tr HO}{f:FuncId}{xs:List AV}(T:DT)(hB:fG B w0)(hst:aV B.g.n B.l w0 h0)(hg:Nat.ble (g+1) B.g.n=true)
 (hp: ∀e ∈ ps,YL g e=true/\EX B.p l e) (ho: ∀e ∈ os,G6 B g e=true/\xB B.p w0 l e) (hx:eF g xs=true) (hy:Nat.ble yF f=false) (hw:Below w0.heap.size w0 w)
 (h:T.ok B l ps os h0 d g f xs []=true) (hl:T.live l):Calls B.p f (xs.map (dS l)).toArray w fun e w'=>e=.returned (T.den l)/\Below w.heap.size w w':=
 aJM hB hst hg hp ho hx hy hw T [] (fun e he=>by cases he) h hl
theorem aHy{P:Program}{L:List (String × DataW Unit)}{G n:Nat}{bs:List (Nat × List AV)}{w0:World}(hl:laidMet P L w0){fs:List (Nat × List Value)}(hf:OI G w0 fs)(h:layVars P G L G=some (bs,n)){h0:Tr HO}(h0e:EF (bs++fixed fs)=h0):aV G n w0 h0:=fun lv w hw=>by
 obtain⟨ρ,hs⟩:=aA4 lv hl hf hw h;rw[h0e]at hs;exact⟨ρ,hs⟩
def DT.all:DT->Bool
 | .leaf _=>true
 | .no=>false
 | .node _ _ _ t f=>t.all&&f.all
theorem aJ{l:Value}: ∀ {T:DT},T.all=true->T.live l:=by
 intro T
 induction T with
 |leaf v=>intro _;trivial
 |no=>intro h;cases h
 |node c x y t f iht ihf=>
  intro h;rw[DT.all,aFU]at h;exact⟨fun _=>iht h.1,fun _=>ihf h.2⟩
theorem kX{P:Program}{l:Value}{e:yJ}(hg1: ∀ox oy w,(eqGuard .eql e.1 ox oy (dS l e.2.1) (dS l e.2.2.1)).run P w=.ok () w)(hg2: ∀ox oy w,(eqGuard .neq e.1 ox oy (dS l e.2.1) (dS l e.2.2.1)).run P w=.ok () w)(Z:Bool)(hZ:dS l e.2.2.2=.bool Z)
 (h1: ∀w,(binOp .eql e.1 (dS l e.2.1) (dS l e.2.2.1)).run P w=.ok (.bool Z) w) (h2: ∀w,(binOp .neq e.1 (dS l e.2.1) (dS l e.2.2.1)).run P w=.ok (.bool (!Z)) w):EX P l e:=by
 intro b hb ox oy w;rw[hZ]at hb
 cases hb
 exact⟨by rw[aFW,hg1];exact h1 w,by rw[aFW,hg2];exact h2 w⟩
def aD0(P:Program)(w0:World)(f:FuncId)(args:Array Value)(v:Value):Prop:= ∀w,Below w0.heap.size w0 w->Calls P f args w fun r w'=>r=.returned v/\Below w.heap.size w w'
def EqV(P:Program)(t:TypeId)(a b:Value)(z:Bool):Prop:=(∀w,(binOp .eql t a b).run P w=.ok (.bool z) w)/\(∀w,(binOp .neq t a b).run P w=.ok (.bool (!z)) w)
def GdV(P:Program)(t:TypeId)(a b:Value):Prop:= ∀ox oy w,(eqGuard .eql t ox oy a b).run P w=.ok () w/\(eqGuard .neq t ox oy a b).run P w=.ok () w
inductive OpS(P:Program):List (TypeId × Value × Value × Value)->Prop
 |nil:OpS P []
 |cons {t:TypeId} {a b:Value} {z:Bool} {es:List (TypeId × Value × Value × Value)} (h:EqV P t a b z) (g:GdV P t a b) (tl:OpS P es):OpS P ((t,a,b,.bool z)::es)
inductive OrS(P:Program)(w0:World):List (FuncId × Array Value × Value)->Prop
 |nil:OrS P w0 []
 |cons {f:FuncId} {args:Array Value} {v:Value} {es:List (FuncId × Array Value × Value)} (h:aD0 P w0 f args v) (t:OrS P w0 es):OrS P w0 ((f,args,v)::es)
theorem OpS.all{P:Program}{L:List (TypeId × Value × Value × Value)}(h:OpS P L): ∀x ∈ L,∃z,x.2.2.2=.bool z/\EqV P x.1 x.2.1 x.2.2.1 z/\GdV P x.1 x.2.1 x.2.2.1:=by
 induction h with
 |nil=>intro e he;cases he
 |cons h g _ ih=>intro e he;exact(aG4.1 he).elim (fun q=>by subst q;exact⟨_,rfl,h,g⟩) (ih e)
theorem OrS.all{P:Program}{w0:World}{L:List (FuncId × Array Value × Value)}(h:OrS P w0 L): ∀x ∈ L,aD0 P w0 x.1 x.2.1 x.2.2:=by
 induction h with
 |nil=>intro e he;cases he
 |cons h _ ih=>intro e he;exact(aG4.1 he).elim (fun q=>by subst q;exact h) (ih e)
noncomputable def seB(B:Tab)(ps:List yJ)(os:List rG)(g:Nat)(f:FuncId)(xs:List AV):Bool:=band (Nat.ble (g+1) B.g.n) (band (ps.all (YL g)) (band (os.all (G6 B g)) (band (eF g xs) (lG (Nat.ble yF f)))))
theorem aG{B:Tab}{w0:World}{l:Value}{ps:List yJ}{os:List rG}{g d:Nat}{h0:Tr HO}{f:FuncId}{xs:List AV}{T:DT}{args:Array Value}{v:Value}{LP:List (TypeId × Value × Value × Value)}{LO:List (FuncId × Array Value × Value)}
 (h:T.ok B l ps os h0 d g f xs []=true) (hB:fG B w0) (hst:aV B.g.n B.l w0 h0) (hp:OpS B.p LP) (ho:OrS B.p w0 LO) (hl:T.live l)
 (hc:(seB B ps os g f xs,ps.map (fun e=>(e.1,dS l e.2.1,dS l e.2.2.1,dS l e.2.2.2)),os.map (fun e=>(e.1,(e.2.1.map (dS l)).toArray,dS l e.2.2)),T.den l,(xs.map (dS l)).toArray)=(true,LP,LO,v,args)):aD0 B.p w0 f args v:=by
 simp only[aOL]at hc;obtain⟨hc,e3,e4,e1,e2⟩:=hc;obtain⟨c1,c⟩:=aF hc;obtain⟨c2,c⟩:=aF c;obtain⟨c3,c⟩:=aF c;obtain⟨c4,c5⟩:=aF c;subst e1 e2 e3 e4;refine fun w hw=>XL T hB hst c1 (fun e he=>⟨aJL.1 c2 e he,?_⟩) (fun e he=>⟨aJL.1 c3 e he,ho.all _ (aRS he)⟩) c4 (by cases hb:Nat.ble yF f with|false=>rfl|true=>rw[hb]at c5;cases c5) hw h hl;obtain⟨z,hz,q,g⟩:=hp.all _ (aRS he);exact kX (fun ox oy w=>(g ox oy w).1) (fun ox oy w=>(g ox oy w).2) z hz q.1 q.2
noncomputable def VA(B:Tab)(l:Value)(h0:Tr HO)(g d:Nat)(os:List rG)(e:rG):Bool:=
 band (band (G6 B g e) (lG (Nat.ble yF e.1))) (aHK g e.2.2 (sG (tbL B l [] [] os) d B.l [] e.1 e.2.1 ⟨h0,B.l⟩))
theorem wF{B:Tab}{w0:World}{l:Value}{g d:Nat}{h0:Tr HO}{os new:List rG}(hB:fG B w0)(hst:aV B.g.n B.l w0 h0)(hg:Nat.ble (g+1) B.g.n=true)(ho: ∀e ∈ os,G6 B g e=true/\xB B.p w0 l e)
 (h:new.all (VA B l h0 g d os)=true): ∀e ∈ new++os,G6 B g e=true/\xB B.p w0 l e:=fun e he=>by
 rcases aLf.1 he with he|he
 . obtain⟨h1,h2⟩:=aF (aJL.1 h e he);obtain⟨h3,h4⟩:=aF h1;refine⟨h3,fun w hw=>?_⟩;exact XL (ps:=[]) (.leaf e.2.2) hB hst hg (fun e he=>by cases he) ho (aF h3).1 (by cases hb:Nat.ble yF e.1 with|false=>rfl|true=>rw[hb]at h4;cases h4) hw h2 trivial
 exact ho e he
theorem eG{T:DT}{l:Value}{p:Prop}(e:T.live l=p)(h:p):T.live l:=e ▸ h
def ltr(g:Nat)(p:Value)(i:Nat):AV:=.fn (.methodOf 1 "") [.v p,.mp g,.v (.int .i64 i)] []
end Ev
end
section
namespace Ev
def k9:List AV:=[0,1,28,2,29,14,24,3,30,22,20,15,25,17,4,8,31,27,13,23,21,19,16,7,26,12,18,6,11,5,10,9].map fun n=>.v (.int .u8 n)
def k10:List AV:=[0,1,56,2,57,49,28,3,61,58,42,50,38,29,17,4,62,47,59,36,45,43,51,22,53,39,33,30,24,18,12,5,63,55,48,27,60,41,37,16,46,35,44,21,52,32,23,11,54,26,40,15,34,20,31,10,25,14,19,9,13,8,7,6].map fun n=>.v (.int .u8 n)
def k8:List AV:=[1,10,100,1000,10000,100000,1000000,10000000,100000000,1000000000,10000000000,100000000000,1000000000000,10000000000000,100000000000000,1000000000000000,10000000000000000,100000000000000000,1000000000000000000,10000000000000000000].map fun n=>.v (.int .u64 n)
def k7:List AV:=[128,191,160,191,128,159,144,191,128,143,0,0,0,0,0,0,0,0,0,0,0,0,0,0,0,0,0,0,0,0,0,0].map fun n=>.v (.int .u8 n)
def k4:List AV:=[(.mp 12)]
def k3:List AV:=[(.mp 13)]
def k5:List AV:=[(.sl 14 0 3 3)]
def k14:List AV:=[(.v (.int .i64 (4))),(.v (.int .i64 (1))),(.v (.int .i64 (100))),(.v (.int .i64 (-1))),(.v (.int .i64 (400))),(.v (.int .i64 (1)))]
def k2:List AV:=[31,28,31,30,31,30,31,31,30,31,30,31].map fun n=>.v (.int .i64 n)
def k1:List AV:=[3,3,6,3,9,3,12,3,3,3,6,3,9,3,12,3,9,3,12,3,3,3,6,3,1,3,4,3,7,3,10,3,1,4,5,4,9,4,1,6,7,6].map fun n=>.v (.int .i64 n)
def k6:List AV:=[240,240,240,240,240,240,240,240,240,240,240,240,240,240,240,240,240,240,240,240,240,240,240,240,240,240,240,240,240,240,240,240,240,240,240,240,240,240,240,240,240,240,240,240,240,240,240,240,240,240,240,240,240,240,240,240,240,240,240,240,240,240,240,240,240,240,240,240,240,240,240,240,240,240,240,240,240,240,240,240,240,240,240,240,240,240,240,240,240,240,240,240,240,240,240,240,240,240,240,240,240,240,240,240,240,240,240,240,240,240,240,240,240,240,240,240,240,240,240,240,240,240,240,240,240,240,240,240,241,241,241,241,241,241,241,241,241,241,241,241,241,241,241,241,241,241,241,241,241,241,241,241,241,241,241,241,241,241,241,241,241,241,241,241,241,241,241,241,241,241,241,241,241,241,241,241,241,241,241,241,241,241,241,241,241,241,241,241,241,241,241,241,241,241,2,2,2,2,2,2,2,2,2,2,2,2,2,2,2,2,2,2,2,2,2,2,2,2,2,2,2,2,2,2,19,3,3,3,3,3,3,3,3,3,3,3,3,35,3,3,52,4,4,4,68,241,241,241,241,241,241,241,241,241,241,241].map fun n=>.v (.int .u8 n)
def hp:Tr HO:=(.node none (.node (some (.ro k1)) (.node (some (.ro k3)) (.node (some (.ro k7)) .nil .nil) .nil) (.node (some (.ro k5)) (.node (some (.ro k9)) .nil .nil) .nil)) (.node (some (.ro k2)) (.node (some (.ro k4)) (.node (some (.ro k8)) .nil .nil) .nil) (.node (some (.ro k6)) (.node (some (.ro k10)) .nil .nil) (.node (some (.ro k14)) .nil .nil))))
def bs0:List (Nat × List AV):=[(9,k9),(10,k10),(8,k8),(7,k7),(4,k4),(3,k3),(5,k5),(14,k14),(2,k2),(1,k1),(6,k6)]
noncomputable def fs0:List (Nat × List Value):=[]
theorem hp_eq:EF (bs0++fixed fs0)=hp:=by kernel_rfl
theorem aQh:layVars Tryz.prog 12 (Rows.seeksErrorsRow.laid.filter fun x=>x.2.handleName?.isNone) 12=some (bs0,15):=by kernel_rfl
theorem aQC{w0:World}(hl:laidMetH Tryz.prog Rows.seeksErrorsRow.laid w0):OI 12 w0 fs0:=OI.nil
def aQa:List (TypeId × String × FuncId):=[(128,"circa/seeks.at",256),(128,"circa/seeks.first",257),(128,"circa/seeks.from",258),(128,"circa/seeks.last",259),(128,"circa/seeks.upto",260),(130,"circa/seeks.at",264),(130,"circa/seeks.first",265),(130,"circa/seeks.from",266),(130,"circa/seeks.last",267),(130,"circa/seeks.upto",268),(132,"circa/seeks.at",275),(132,"circa/seeks.first",276),(132,"circa/seeks.from",277),(132,"circa/seeks.last",278),(132,"circa/seeks.upto",280)]
theorem aDm:aQa.all (fun e=>aME Tryz.prog e.1 e.2.1 e.2.2)=true:=by kernel_rfl
noncomputable def dQ:Tab:=⟨Tryz.prog,⟨12,fun _=>⟨0,0,.nilIface⟩⟩,15,tys,fns,fun _ _=>none,fun _=>false,fun _=>none,aIT aQa,fun _ _ _=>none,fun _ _ _=>none⟩
abbrev LG:Nat:=11
abbrev uY(i:Nat):AV:=ltr LG (.int .i8 0) i
abbrev iW(i:Nat):AV:=ltr LG (.int .i16 0) i
abbrev iV(i:Nat):AV:=ltr LG (.int .i64 0) i
abbrev lT(i:Nat):AV:=ltr LG (.int .u8 0) i
abbrev kR(i:Nat):AV:=ltr LG (.int .u16 0) i
abbrev OJ(i:Nat):AV:=ltr LG (.bool false) i
abbrev FQ(i:Nat):AV:=ltr LG (.string ⟨#[]⟩) i
abbrev lY(i:Nat):AV:=ltr LG (.slice none 0 0) i
theorem aJi: ∀f,dQ.idn f=true-> ∀x w,(callFunc f #[x]).run dQ.p w=.ok (.value x) w:=fun f h=>by cases h
theorem aIQ: ∀f e,dQ.mnz f=some e-> ∀(n:Nat) w,n<=140737488355328-> ∃cs:Array Value,(callFunc f #[.int .i64 n]).run dQ.p w=.ok (.value (.slice (some ⟨w.heap.size,0,none⟩) n cs.size)) (w.drew.drew.alloc (.cells cs e))/\n<=cs.size:=fun f e h=>by cases h
theorem aQ(w:World):fG dQ w:=aHs aPh aJy Tryz.pinned.checked.mixed (fun _ _ _ h=>by cases h) ⟨fun _ _ _ _ h=>(by cases h),fun _ _ _ _ h=>(by cases h)⟩ aJi aIQ (aDn aDm)
theorem aEs{w0:World}(hl:laidMetH Tryz.prog Rows.seeksErrorsRow.laid w0):aV dQ.g.n dQ.l w0 hp:=aHy (PU hl) (aQC hl) aQh hp_eq
end Ev
end
section
namespace Ev
noncomputable def tb0:Tab:={ dQ with l:=12 }
theorem bW(w:World):fG tb0 w:=let t:=aQ w;⟨t.ty,t.fn,t.orc,⟨fun _ _ _ _ h=>(by cases h),fun _ _ _ _ h=>(by cases h)⟩,t.mixed,t.idn,t.mnz,t.met⟩
theorem rH(w:World):aV tb0.g.n tb0.l w .nil:=aHy (P:=Tryz.prog) (L:=[]) (fs:=[]) (bs:=[]) ⟨[],by constructor,aVn,fun _ _ h=>by cases h⟩ OI.nil rfl rfl
end Ev
end
end Go.Proofs.YtacggmlngekidaaGreatDoor
