import Derived.Test.YtacggmlngekidaaGreatDoorProg
import Derived.Test.YtacggmlngekidaaGreatDoorP1
import Derived.Shelf.GgClosure.StringsIndexFunc
import Derived.Laws.RangeAny
import Derived.Lib.AtoiAll
import Derived.Lib.ParseIntB
import Derived.Lib.SlTrimSet
import Derived.Lib.IndexMore
import Derived.Lib.Hide
import Derived.Shelf.Strings.Trim
import Derived.Shelf.Small.Utf8
import Derived.Shelf.Small.Strs
import Derived.Shelf.Strconv.Atoi
import Derived.Shelf.Strconv.Itoa0
import Derived.Shelf.Strconv.AtoiErrFast
import Derived.Shelf.Strconv.ParseIntEmpty
import Derived.Shelf.Strconv.AtoiFail
import Derived.Shelf.LaysM
import Derived.Shelf.Strconv.Clone
import Derived.Shelf.Strconv.SyntaxError
import Derived.Shelf.LaysC
import Derived.Shelf.Strconv.ToError
import Derived.Shelf.Strconv.Lower
import Derived.Shelf.Strconv.ParseUint10
import Derived.Shelf.Strconv.ParseUint10Empty
import Derived.Shelf.Strconv.ParseUint10Any
import Derived.Shelf.Strconv.ParseInt10
import Derived.Shelf.Strconv.AtoiLong
import Derived.Shelf.Strconv.AtoiInnerAll
import Derived.Shelf.Strconv.RangeError
import Derived.Shelf.Strconv.ToErrorRange
import Derived.Shelf.Strconv.AtoiAll
import Derived.Shelf.Strconv.ParseUintEmpty
import Derived.Shelf.Strconv.ParseUint10b64
import Derived.Shelf.Strconv.ParseUint10b32
import Derived.Shelf.Strconv.ParseUint10b16
import Derived.Shelf.Strconv.ParseUint10b8
import Derived.Shelf.Strconv.ParseUint10At
import Derived.Shelf.Strconv.ParseInt10At64
import Derived.Shelf.Strconv.ParseInt10At32
import Derived.Shelf.Strconv.ParseInt10At16
import Derived.Shelf.Strconv.ParseInt10At8
import Derived.Shelf.Strconv.ParseInt10All
import Derived.Shelf.Strconv.ParseIntPublic10
import Derived.Shelf.Strings.Search1
import Derived.Shelf.Strings.Search2
import Derived.Shelf.Strings.Search3
import Derived.Shelf.Strings.Shaped
import Derived.Ground.GgwProg
import Derived.Shelf.GgClosure.StringsIndexFuncTop
import Derived.Shelf.Strings.Runes
import Derived.Shelf.Strings.AsciiSet
import Derived.Shelf.Bits.Mul64
import Derived.Shelf.Unicode.DecodeSlow
import Derived.Shelf.Unicode.DecodeAny
import Derived.Shelf.Unicode.DecodeLast
import Derived.Shelf.Strings.FuncGrows
import Derived.Shelf.Slices.Reverse
import Derived.Ground.Names2Prog
import Derived.Shelf.Slices.Clone
import Derived.Shelf.Slices.Cells
import Derived.Laws.Runes
import Derived.WalkMore
import Derived.Deep.QuietTactic
import Derived.BigQuiet
import Derived.Laws.Strings
import Derived.Laws.IdiomStrings
import Derived.Laws.BytesArg
import Derived.Deep.DeepCutAuto
import Derived.Deep.CutBlock
import Derived.Deep.MidRow
import Derived.Deep.LoopGhost
set_option linter.unusedSimpArgs false
set_option linter.unusedVariables false
set_option maxRecDepth 1000000
set_option maxHeartbeats 8000000
set_option linter.unusedSectionVars false
namespace Go.Proofs.YtacggmlngekidaaGreatDoor
abbrev aHD:=@Go.wpList_load_mid
abbrev aHE:=@Go.bodyPost_ret
abbrev aHF:=@Bool.cond_eq_ite
abbrev aL8:=@List.mem_singleton
abbrev aMj:=@Go.run_loadVar_mid
abbrev aMm:=@of_decide_eq_false
abbrev aNU:=@List.getElem_of_mem
abbrev aQg:=@List.getD_eq_getElem?_getD
abbrev aQJ:=@Go.wpList_store_mid
abbrev aRy:=@List.getElem_mem
abbrev aTo:=@List.pairwise_iff_getElem
abbrev aTq:=@Bool.and_false
abbrev aTr:=@Nat.pow_le_pow_right
abbrev aTt:=@Go.Exit.noGoto_ret
abbrev aTC:=@UInt8.toNat_ofNat'
abbrev aTF:=@Int.le_refl
abbrev aWc:=@ByteArray.getElem_eq_getElem_data
abbrev aWf:=@List.take_succ_eq_append_getElem
abbrev aWy:=@List.dropWhile_cons
abbrev aWz:=@Go.ByteArray.toList_eq
abbrev aWD:=@Go.Exit.noGoto_normal
abbrev aWO:=@beq_self_eq_true
abbrev aWQ:=@List.any_eq_true
abbrev aXy:=@List.any_cons
abbrev aXz:=@Bool.not_true
abbrev aYt:=@Int.mul_nonneg
abbrev aYv:=@Array.getElem_mem_toList
section
open Go.Lib
namespace Bk
def aX(s:ByteArray)(i:Nat):Int:=((s.data.toList.getD i 0).toNat:Int)
theorem bQ(s:ByteArray)(i:Nat)(h:i<s.size):aX s i=((s[i]'h).toNat:Int):=by
 unfold aX;rw[aQg,aEM (by simpa using h)]
 rfl
theorem aSL(s:ByteArray)(i:Nat):0<=aX s i/\aX s i<256:=by
 unfold aX;have:=(s.data.toList.getD i 0).toNat_lt;omega
def allB(q:Int->Bool)(s:ByteArray):Bool:=s.data.toList.all fun b=>q (b.toNat:Int)
theorem kJ(q:Int->Bool)(s:ByteArray):allB q s=true↔ ∀i,i<s.size->q (aX s i)=true:=by
 unfold allB;rw[aL4];constructor
 . intro h i hi;rw[bQ s i hi];exact h _ (by rw[aWc];exact aYv ..)
 intro h b hb;obtain⟨i,hi,rfl⟩:=aNU hb;have:=h i (by simpa using hi);rw[bQ s i (by simpa using hi)]at this;exact this
theorem aAE (q:Int->Bool) (p:Nat->Bool) (hp: ∀x:Nat,x<128->p x= !q x) (hh: ∀x:Nat,128<=x->p x=true) (hq: ∀x:Int,q x=true->x<128) (s:ByteArray):
 ∀(g pos:Nat),s.size<=pos+g->(idxFuncFrom p true s g pos<0↔ ∀i,pos<=i->i<s.size->q (aX s i)=true)
 |0,pos,hg=>by
  simp only[idxFuncFrom];exact⟨fun _ i h1 h2=>by omega,fun _=>by decide⟩
 | g + 1, pos,hg=>by
  unfold idxFuncFrom
  by_cases hlt:pos<s.size
  . rw [aDk hlt]
    by_cases ha:(s[pos]'hlt).toNat<128
    . rw [aXL s pos hlt ha];dsimp only;rw[hp _ ha]
      cases hqb:q ((s[pos]'hlt).toNat:Int)
      . rw[aVf,aDk rfl];constructor
        . intro h;omega
        intro h;have:=h pos (aEc _) hlt;rw[bQ s pos hlt,hqb]at this
        cases this
      rw[aXz,aBx (by decide),aAE q p hp hh hq s g (pos+1) (by omega)];constructor
      . intro h i h1 h2
        by_cases e:i=pos
        . subst e;rw[bQ s i h2];exact hqb
        exact h i (by omega) h2
      intro h i h1 h2;exact h i (by omega) h2
    obtain⟨h1,h2⟩:=decode_high s pos hlt (by omega);rw[hh _ h1,aDk rfl];constructor
    . intro h;omega
    intro h;have:=hq _ (h pos (aEc _) hlt);rw[bQ s pos hlt]at this;omega
  rw[aBx hlt];exact⟨fun _ i h1 h2=>by omega,fun _=>by decide⟩
theorem aKd(q:Int->Bool)(p:Nat->Bool)(hp: ∀x:Nat,x<128->p x= !q x)(hh: ∀x:Nat,128<=x->p x=true)(hq: ∀x:Int,q x=true->x<128)(s:ByteArray):
 decide (idxFunc p true s<0)=allB q s:=by
 have h:=aAE q p hp hh hq s s.size 0 (by omega);rw[aK8,aOr,kJ];unfold idxFunc;rw[h];exact⟨fun h i hi=>h i (aJS _) hi,fun h i _ hi=>h i hi⟩
def hasB(c:Int)(s:ByteArray):Bool:=s.data.toList.any fun b=>decide ((b.toNat:Int)=c)
theorem wP(c:Int)(s:ByteArray):hasB c s=true↔ ∃i,i<s.size/\aX s i=c:=by
 unfold hasB;rw[aWQ];constructor
 . rintro⟨b,hb,h⟩;obtain⟨i,hi,rfl⟩:=aNU hb;exact⟨i,by simpa using hi,by rw[bQ s i (by simpa using hi)];exact aL2 h⟩
 rintro⟨i,hi,h⟩;rw[bQ s i hi]at h;exact⟨_,by rw[aWc];exact aYv ..,aBz h⟩
theorem aDa{α:Type}(p:α->Bool): ∀l:List α,l.dropWhile p=[]↔l.all p=true
 |[]=>by simp
 |a::l=>by
  cases h:p a
  . simp[aWy,h]
  simp[aWy,h,aDa p l]
theorem dw_head{α:Type}(p:α->Bool): ∀ {l:List α} {a:α} {t:List α},l.dropWhile p=a::t->p a=false
 |[],a,t,h=>by simp at h
 |b::l,a,t,h=>by
  cases hb:p b
  . simp[aWy,hb]at h;rw[<-h.1];exact hb
  simp[aWy,hb]at h;exact dw_head p h
theorem aE0(l:List UInt8)(c:UInt8):(trimS l [c]=[])↔l.all (· ==c)=true:=by
 have e:(fun x=>[c].contains x)=(fun x:UInt8=>x==c):=by funext x;exact contains_one c x
 have hr:(l.all (· ==c)=true)↔l.reverse.dropWhile (fun x:UInt8=>x==c)=[]:=by rw[aDa,List.all_reverse]
 rw[hr];unfold trimS trimLeftS trimRightS;rw[e];constructor
 . intro h;rw[aDa,List.all_reverse]at h
   cases hd:l.reverse.dropWhile (fun x=>x==c)with
   |nil=>rfl
   |cons a t=>
    rw[hd]at h;have h1:=dw_head _ hd;rw[aP2,h1]at h
    cases h
 intro h;rw[h];rfl
end Bk
end
section
open Go.Lib
namespace Bk
def dec:List UInt8->Nat->Nat
 |[],a=>a
 |c::r,a=>dec r (10 * a+(c.toNat - 48))
def aKV(c:UInt8):Bool:=decide (48<=c.toNat/\c.toNat<=57)
def bG(x:Int):Bool:=decide (48<=x/\x<=57)
def bV(x:Int):Bool:=decide (48<=x/\x<=57)||decide (x=88)
theorem aA2: ∀(l:List UInt8) (c:UInt8) (a:Nat),dec (l++[c]) a=10 * dec l a+(c.toNat - 48)
 |[],c,a=>rfl
 |x::l,c,a=>by simp only[List.cons_append,dec];exact aA2 l c _
theorem dec_lt: ∀(l:List UInt8) (a k:Nat),l.all aKV=true->a<10 ^ k->dec l a<10 ^ (k+l.length)
 |[],a,k,_,h=>by simpa[dec]using h
 |c::l,a,k,hl,h=>by
  simp only[aP2,aDY]at hl;have hc:c.toNat<=57:=(aL2 hl.1).2;have:=dec_lt l (10 * a+(c.toNat - 48)) (k+1) hl.2 (by rw[Nat.pow_succ];omega);simp only[dec,aTi];rw[show k+(l.length+1)=k+1+l.length by omega];exact this
theorem y7: ∀(l:List UInt8) (a k:Nat),l.all aKV=true->a<10 ^ k->k+l.length<=17->parseUintM 18446744073709551615 a l=.ok (dec l a)
 |[],a,k,_,h,hk=>rfl
 |c::l,a,k,hl,h,hk=>by
  simp only[aP2,aDY]at hl;have hc:=aL2 hl.1;simp only[aTi]at hk;have hp:(10:Nat) ^ k<=10 ^ 16:=aTr (by omega) (by omega);have hp2:(10:Nat) ^ 16=10000000000000000:=by decide
  simp only[parseUintM,dec];rw[aDk hc,aBx (by omega),aBx (by omega),show a * 10+(c.toNat - 48)=10 * a+(c.toNat - 48) by omega];exact y7 l _ (k+1) hl.2 (by rw[Nat.pow_succ];omega) (by omega)
theorem VB(l:List UInt8)(h0:l≠[])(hl:l.all aKV=true)(hk:l.length<=17):parseIntB 64 l=.ok (dec l 0:Nat):=by
 have h:=y7 l 0 0 hl (by decide) (by omega);have hb:=dec_lt l 0 0 hl (by decide);rw[aKP]at hb;have hp:(10:Nat) ^ l.length<=10 ^ 17:=aTr (by omega) hk;have hp2:(10:Nat) ^ 17=100000000000000000:=by decide
 cases l with
 |nil=>exact absurd rfl h0
 |cons c r=>
  have hc:48<=c.toNat/\c.toNat<=57:=aL2 (by simp only[aP2,aDY]at hl;exact hl.1);unfold parseIntB;simp only;rw[aBx (by omega)];unfold parseUintB;rw[aBx h0,show 2 ^ 64 - 1=18446744073709551615 by decide,h];simp only;have e63:2 ^ (64 - 1)=9223372036854775808:=by decide
  rw[aBx (by rw[e63];omega),aBx (by omega),aBx (by omega)]
def dD(s:ByteArray):Int:=
 if s.size=2/\48<=aX s 0/\aX s 0<=57/\48<=aX s 1/\aX s 1<=57/\21<=10 * (aX s 0 - 48)+(aX s 1 - 48)/\10 * (aX s 0 - 48)+(aX s 1 - 48)<=41 then 10 * (aX s 0 - 48)+(aX s 1 - 48)else 0
theorem iY(s:ByteArray):dD s=0\/(21<=dD s/\dD s<=41):=by
 unfold dD;split
 . next h=>exact Or.inr ⟨h.2.2.2.2.2.1,h.2.2.2.2.2.2⟩
 exact Or.inl rfl
theorem OQ (a b:UInt8) (v:Int):(atoiAll [a,b]=.ok v/\21<=v/\v<=41)↔((48<=a.toNat/\a.toNat<=57/\48<=b.toNat/\b.toNat<=57/\21<=10 * (a.toNat - 48)+(b.toNat - 48)/\10 * (a.toNat - 48)+(b.toNat - 48)<=41)/\v=((10 * (a.toNat - 48)+(b.toNat - 48):Nat):Int)):=by
 unfold atoiAll;simp only
 by_cases hs:a.toNat=43\/a.toNat=45
 . rw [aDk hs];constructor
   . rintro⟨h,h1,h2⟩;exfalso;unfold parseMag at h;rw[aBx (by simp)]at h;unfold parseUint10 at h
     by_cases hb:48<=b.toNat/\b.toNat<=57
     . rw [aDk hb,aBx (by omega),aBx (by omega)]at h;unfold parseUint10 at h;simp only at h
       split at h
       . cases h
       split at h
       . cases h
       injection h with h
       split at h<;>omega
     rw[aBx hb]at h
     cases h
   rintro⟨h,_⟩;omega
 rw [aBx hs];unfold parseMag;rw[aBx (by simp)];unfold parseUint10
 by_cases ha:48<=a.toNat/\a.toNat<=57
 . rw [aDk ha,aBx (by omega),aBx (by omega)];unfold parseUint10
   by_cases hb:48<=b.toNat/\b.toNat<=57
   . rw[aDk hb,aBx (by omega),aBx (by omega)];unfold parseUint10;simp only;rw[aBx (by omega),aBx (by omega),aBx (by omega)];constructor
     . rintro⟨h,h1,h2⟩;injection h with h;refine⟨⟨ha.1,ha.2,hb.1,hb.2,?_,?_⟩,?_⟩<;>omega
     rintro⟨⟨_,_,_,_,h1,h2⟩,rfl⟩;refine⟨?_,by omega,by omega⟩
     congr 1
     omega
   rw[aBx hb];constructor
   . rintro⟨h,_⟩;cases h
   rintro⟨⟨_,_,h1,h2,_⟩,_⟩;exact absurd ⟨h1,h2⟩ hb
 rw[aBx ha];constructor
 . rintro⟨h,_⟩;cases h
 rintro⟨⟨h1,h2,_⟩,_⟩;exact absurd ⟨h1,h2⟩ ha
theorem vK{s:ByteArray}(h:s.size=2): ∃a b:UInt8,s.data.toList=[a,b]/\aX s 0=a.toNat/\aX s 1=b.toNat:=by
 have hl:s.data.toList.length=2:=by simpa using h
 match e:s.data.toList,hl with
 |[a,b],_=>exact⟨a,b,rfl,by unfold aX;rw[e];rfl,by unfold aX;rw[e];rfl⟩
theorem aBn{s:ByteArray}(h2:s.size=2){v:Int}(h:atoiAll s.data.toList=.ok v):dD s=if 21<=v/\v<=41 then v else 0:=by
 obtain⟨a,b,e,e0,e1⟩:=vK h2;rw[e]at h
 by_cases c:21<=v/\v<=41
 . obtain⟨g,hv⟩:=(OQ a b v).1 ⟨h,c.1,c.2⟩;rw[aDk c];unfold dD;rw[e0,e1,aDk (by omega)];omega
 rw[aBx c];unfold dD;rw[e0,e1]
 split
 . rename_i g
   exfalso;have:=((OQ a b _).2 ⟨by omega,rfl⟩).1;rw[h]at this;injection this with this;omega
 rfl
theorem aG1{s:ByteArray}(h: ∀v,atoiAll s.data.toList≠ .ok v):dD s=0:=by
 unfold dD
 split
 . rename_i g
   exfalso;obtain⟨a,b,e,e0,e1⟩:=vK g.1;rw[e]at h;exact h _ ((OQ a b _).2 ⟨by omega,rfl⟩).1
 rfl
theorem FX{s:ByteArray}(h: ¬s.size=2):dD s=0:=by
 unfold dD;rw[aBx (fun g=>h g.1)]
end Bk
end
section
namespace Bk
def dg(v:Int)(i:Nat):Int:=if i=0 then v / 1000 else if i=1 then v / 100 % 10 else if i=2 then v / 10 % 10 else v % 10
def cO(b:Nat->Int)(v:Int)(i:Nat):Prop:=b i=88\/b i=48+dg v i
def pG(b:Nat->Int)(v:Int):Prop:=0<=v/\v<=9999/\cO b v 0/\cO b v 1/\cO b v 2/\cO b v 3
def cZ(o:Nat->Int):Int:=1000 * (o 0 - 48)+100 * (o 1 - 48)+10 * (o 2 - 48)+(o 3 - 48)
def MOk(b:Nat->Int):Prop:= ∀i,i<4->b i=88\/(48<=b i/\b i<=57)
theorem nP(v:Int)(h0:0<=v)(h1:v<=9999): ∃d0 d1 d2 d3:Int,0<=d0/\d0<=9/\0<=d1/\d1<=9/\0<=d2/\d2<=9/\0<=d3/\d3<=9/\v=1000 * d0+100 * d1+10 * d2+d3/\dg v 0=d0/\dg v 1=d1/\dg v 2=d2/\dg v 3=d3:=
 ⟨v / 1000,v / 100 % 10,v / 10 % 10,v % 10,by omega,by omega,by omega,by omega,by omega,by omega,by omega,by omega,by omega,rfl,rfl,rfl,rfl⟩
theorem aVo{v d0 d1 d2 d3:Int}(h:v=1000 * d0+100 * d1+10 * d2+d3)(a0:0<=d0)(a1:d0<=9)(b0:0<=d1)(b1:d1<=9)(c0:0<=d2)(c1:d2<=9)(e0:0<=d3)(e1:d3<=9):
 dg v 0=d0/\dg v 1=d1/\dg v 2=d2/\dg v 3=d3:=by
 refine⟨?_,?_,?_,?_⟩<;>simp only[dg]<;>simp<;>omega
theorem nY(b:Nat->Int)(v:Int):pG b v↔ ∃d0 d1 d2 d3:Int,0<=d0/\d0<=9/\0<=d1/\d1<=9/\0<=d2/\d2<=9/\0<=d3/\d3<=9/\v=1000 * d0+100 * d1+10 * d2+d3/\(b 0=88\/b 0=48+d0)/\(b 1=88\/b 1=48+d1)/\(b 2=88\/b 2=48+d2)/\(b 3=88\/b 3=48+d3):=by
 constructor
 . rintro⟨h0,h1,f0,f1,f2,f3⟩;obtain⟨d0,d1,d2,d3,a0,a1,a2,a3,a4,a5,a6,a7,e,e0,e1,e2,e3⟩:=nP v h0 h1;unfold cO at f0 f1 f2 f3;rw[e0]at f0;rw[e1]at f1;rw[e2]at f2;rw[e3]at f3;exact⟨d0,d1,d2,d3,a0,a1,a2,a3,a4,a5,a6,a7,e,f0,f1,f2,f3⟩
 rintro⟨d0,d1,d2,d3,a0,a1,a2,a3,a4,a5,a6,a7,e,f0,f1,f2,f3⟩;obtain⟨e0,e1,e2,e3⟩:=aVo e a0 a1 a2 a3 a4 a5 a6 a7;refine⟨by omega,by omega,?_,?_,?_,?_⟩<;>unfold cO
 . rw[e0];exact f0
 . rw[e1];exact f1
 . rw[e2];exact f2
 rw[e3];exact f3
theorem MH{b:Nat->Int}{n:Int}(h0:0<=n)(h1:n<=9999)(h: ∀i,i<4->cO b n i):pG b n:=⟨h0,h1,h 0 (by omega),h 1 (by omega),h 2 (by omega),h 3 (by omega)⟩
theorem aMM{b o:Nat->Int}{n:Int}{k:Nat}(hb:MOk b)(h0:0<=n)(h1:n<=9999)(hk:k<4)(hf: ∀i,i<k->cO b n i)(hx:b k≠88)(hg:48+dg n k<b k)
 (ho: ∀i,i<k->o i=48+dg n i) (hr: ∀i,k<=i->i<4->o i=if b i=88 then 48 else b i):pG b (cZ o)/\n<=cZ o/\ ∀f,pG b f->n<=f->cZ o<=f:=by
 obtain⟨d0,d1,d2,d3,a0,a1,a2,a3,a4,a5,a6,a7,e,e0,e1,e2,e3⟩:=nP n h0 h1;have m0:=hb 0 (by omega);have m1:=hb 1 (by omega);have m2:=hb 2 (by omega);have m3:=hb 3 (by omega);simp only[nY];obtain rfl|rfl|rfl|rfl:k=0\/k=1\/k=2\/k=3:=by omega
 . have r0:=hr 0 (by omega) (by omega);have r1:=hr 1 (by omega) (by omega);have r2:=hr 2 (by omega) (by omega);have r3:=hr 3 (by omega) (by omega);rw[e0]at hg;clear hf ho hr hb e0 e1 e2 e3;unfold cZ;refine⟨⟨o 0 - 48,o 1 - 48,o 2 - 48,o 3 - 48,?_⟩,?_,?_⟩
   . split at r0<;>split at r1<;>split at r2<;>split at r3<;>omega
   . split at r0<;>split at r1<;>split at r2<;>split at r3<;>omega
   rintro f ⟨f0,f1,f2,f3,g⟩ hn;split at r0<;>split at r1<;>split at r2<;>split at r3<;>omega
 . have p0:=hf 0 (by omega);unfold cO at p0;rw[e0]at p0;have q0:=ho 0 (by omega);rw[e0]at q0;have r1:=hr 1 (by omega) (by omega);have r2:=hr 2 (by omega) (by omega);have r3:=hr 3 (by omega) (by omega);rw[e1]at hg;clear hf ho hr hb e0 e1 e2 e3;unfold cZ;refine⟨⟨o 0 - 48,o 1 - 48,o 2 - 48,o 3 - 48,?_⟩,?_,?_⟩
   . split at r1<;>split at r2<;>split at r3<;>omega
   . split at r1<;>split at r2<;>split at r3<;>omega
   rintro f ⟨f0,f1,f2,f3,g⟩ hn;split at r1<;>split at r2<;>split at r3<;>omega
 . have p0:=hf 0 (by omega);unfold cO at p0;rw[e0]at p0;have q0:=ho 0 (by omega);rw[e0]at q0;have p1:=hf 1 (by omega);unfold cO at p1;rw[e1]at p1;have q1:=ho 1 (by omega);rw[e1]at q1;have r2:=hr 2 (by omega) (by omega);have r3:=hr 3 (by omega) (by omega);rw[e2]at hg;clear hf ho hr hb e0 e1 e2 e3;unfold cZ;refine⟨⟨o 0 - 48,o 1 - 48,o 2 - 48,o 3 - 48,?_⟩,?_,?_⟩
   . split at r2<;>split at r3<;>omega
   . split at r2<;>split at r3<;>omega
   rintro f ⟨f0,f1,f2,f3,g⟩ hn;split at r2<;>split at r3<;>omega
 have p0:=hf 0 (by omega);unfold cO at p0;rw[e0]at p0;have q0:=ho 0 (by omega);rw[e0]at q0;have p1:=hf 1 (by omega);unfold cO at p1;rw[e1]at p1;have q1:=ho 1 (by omega);rw[e1]at q1;have p2:=hf 2 (by omega);unfold cO at p2;rw[e2]at p2;have q2:=ho 2 (by omega);rw[e2]at q2;have r3:=hr 3 (by omega) (by omega);rw[e3]at hg;clear hf ho hr hb e0 e1 e2 e3;unfold cZ;refine⟨⟨o 0 - 48,o 1 - 48,o 2 - 48,o 3 - 48,?_⟩,?_,?_⟩
 . split at r3<;>omega
 . split at r3<;>omega
 rintro f ⟨f0,f1,f2,f3,g⟩ hn;split at r3<;>omega
theorem aMN{b o:Nat->Int}{n:Int}{k j:Nat}(hb:MOk b)(h0:0<=n)(h1:n<=9999)(hk:k<4)(hf: ∀i,i<k->cO b n i)(hx:b k≠88)(hg:b k<48+dg n k)
 (hj:j<k) (hbx:b j=88) (hd:dg n j≠9) (hn: ∀i,j<i->i<k-> ¬(b i=88/\dg n i≠9))
 (ho: ∀i,i<j->o i=48+dg n i) (hoj:o j=48+dg n j+1) (hr: ∀i,j<i->i<4->o i=if b i=88 then 48 else b i):pG b (cZ o)/\n<=cZ o/\ ∀f,pG b f->n<=f->cZ o<=f:=by
 obtain⟨d0,d1,d2,d3,a0,a1,a2,a3,a4,a5,a6,a7,e,e0,e1,e2,e3⟩:=nP n h0 h1;have m0:=hb 0 (by omega);have m1:=hb 1 (by omega);have m2:=hb 2 (by omega);have m3:=hb 3 (by omega);simp only[nY];obtain⟨rfl,rfl⟩|⟨rfl,rfl⟩|⟨rfl,rfl⟩|⟨rfl,rfl⟩|⟨rfl,rfl⟩|⟨rfl,rfl⟩:(j=0/\k=1)\/(j=0/\k=2)\/(j=0/\k=3)\/(j=1/\k=2)\/(j=1/\k=3)\/(j=2/\k=3):=by omega
 . have p0:=hf 0 (by omega);unfold cO at p0;rw[e0]at p0;rw[e0]at hoj hd;have r1:=hr 1 (by omega) (by omega);have r2:=hr 2 (by omega) (by omega);have r3:=hr 3 (by omega) (by omega);rw[e1]at hg;clear hf ho hr hb hn e0 e1 e2 e3;unfold cZ;refine⟨⟨o 0 - 48,o 1 - 48,o 2 - 48,o 3 - 48,?_⟩,?_,?_⟩
   . split at r1<;>split at r2<;>split at r3<;>omega
   . split at r1<;>split at r2<;>split at r3<;>omega
   rintro f ⟨f0,f1,f2,f3,g⟩ hn;split at r1<;>split at r2<;>split at r3<;>omega
 . have p0:=hf 0 (by omega);unfold cO at p0;rw[e0]at p0;have p1:=hf 1 (by omega);unfold cO at p1;rw[e1]at p1;rw[e0]at hoj hd;have s1:=hn 1 (by omega) (by omega);rw[e1]at s1;have r1:=hr 1 (by omega) (by omega);have r2:=hr 2 (by omega) (by omega);have r3:=hr 3 (by omega) (by omega);rw[e2]at hg;clear hf ho hr hb hn e0 e1 e2 e3;unfold cZ;refine⟨⟨o 0 - 48,o 1 - 48,o 2 - 48,o 3 - 48,?_⟩,?_,?_⟩
   . split at r1<;>split at r2<;>split at r3<;>omega
   . split at r1<;>split at r2<;>split at r3<;>omega
   rintro f ⟨f0,f1,f2,f3,g⟩ hn;split at r1<;>split at r2<;>split at r3<;>omega
 . have p0:=hf 0 (by omega);unfold cO at p0;rw[e0]at p0;have p1:=hf 1 (by omega);unfold cO at p1;rw[e1]at p1;have p2:=hf 2 (by omega);unfold cO at p2;rw[e2]at p2;rw[e0]at hoj hd;have s1:=hn 1 (by omega) (by omega);rw[e1]at s1;have s2:=hn 2 (by omega) (by omega);rw[e2]at s2;have r1:=hr 1 (by omega) (by omega);have r2:=hr 2 (by omega) (by omega);have r3:=hr 3 (by omega) (by omega);rw[e3]at hg;clear hf ho hr hb hn e0 e1 e2 e3;unfold cZ;refine⟨⟨o 0 - 48,o 1 - 48,o 2 - 48,o 3 - 48,?_⟩,?_,?_⟩
   . split at r1<;>split at r2<;>split at r3<;>omega
   . split at r1<;>split at r2<;>split at r3<;>omega
   rintro f ⟨f0,f1,f2,f3,g⟩ hn;split at r1<;>split at r2<;>split at r3<;>omega
 . have p0:=hf 0 (by omega);unfold cO at p0;rw[e0]at p0;have p1:=hf 1 (by omega);unfold cO at p1;rw[e1]at p1;have q0:=ho 0 (by omega);rw[e0]at q0;rw[e1]at hoj hd;have r2:=hr 2 (by omega) (by omega);have r3:=hr 3 (by omega) (by omega);rw[e2]at hg;clear hf ho hr hb hn e0 e1 e2 e3;unfold cZ;refine⟨⟨o 0 - 48,o 1 - 48,o 2 - 48,o 3 - 48,?_⟩,?_,?_⟩
   . split at r2<;>split at r3<;>omega
   . split at r2<;>split at r3<;>omega
   rintro f ⟨f0,f1,f2,f3,g⟩ hn;split at r2<;>split at r3<;>omega
 . have p0:=hf 0 (by omega);unfold cO at p0;rw[e0]at p0;have p1:=hf 1 (by omega);unfold cO at p1;rw[e1]at p1;have p2:=hf 2 (by omega);unfold cO at p2;rw[e2]at p2;have q0:=ho 0 (by omega);rw[e0]at q0;rw[e1]at hoj hd;have s2:=hn 2 (by omega) (by omega);rw[e2]at s2;have r2:=hr 2 (by omega) (by omega);have r3:=hr 3 (by omega) (by omega);rw[e3]at hg;clear hf ho hr hb hn e0 e1 e2 e3;unfold cZ;refine⟨⟨o 0 - 48,o 1 - 48,o 2 - 48,o 3 - 48,?_⟩,?_,?_⟩
   . split at r2<;>split at r3<;>omega
   . split at r2<;>split at r3<;>omega
   rintro f ⟨f0,f1,f2,f3,g⟩ hn;split at r2<;>split at r3<;>omega
 have p0:=hf 0 (by omega);unfold cO at p0;rw[e0]at p0;have p1:=hf 1 (by omega);unfold cO at p1;rw[e1]at p1;have p2:=hf 2 (by omega);unfold cO at p2;rw[e2]at p2;have q0:=ho 0 (by omega);rw[e0]at q0;have q1:=ho 1 (by omega);rw[e1]at q1;rw[e2]at hoj hd;have r3:=hr 3 (by omega) (by omega);rw[e3]at hg;clear hf ho hr hb hn e0 e1 e2 e3;unfold cZ;refine⟨⟨o 0 - 48,o 1 - 48,o 2 - 48,o 3 - 48,?_⟩,?_,?_⟩
 . split at r3<;>omega
 . split at r3<;>omega
 rintro f ⟨f0,f1,f2,f3,g⟩ hn;split at r3<;>omega
theorem aML{b:Nat->Int}{n:Int}{k:Nat}(h0:0<=n)(h1:n<=9999)(hk:k<4)(hf: ∀i,i<k->cO b n i)(hx:b k≠88)(hg:b k<48+dg n k)
 (hn: ∀i,i<k-> ¬(b i=88/\dg n i≠9)): ∀f,pG b f->f<n:=by
 obtain⟨d0,d1,d2,d3,a0,a1,a2,a3,a4,a5,a6,a7,e,e0,e1,e2,e3⟩:=nP n h0 h1;simp only[nY];obtain rfl|rfl|rfl|rfl:k=0\/k=1\/k=2\/k=3:=by omega
 . rw[e0]at hg;clear hf hn e0 e1 e2 e3;rintro f ⟨f0,f1,f2,f3,g⟩;omega
 . have p0:=hf 0 (by omega);unfold cO at p0;rw[e0]at p0;have s0:=hn 0 (by omega);rw[e0]at s0;rw[e1]at hg;clear hf hn e0 e1 e2 e3;rintro f ⟨f0,f1,f2,f3,g⟩;omega
 . have p0:=hf 0 (by omega);unfold cO at p0;rw[e0]at p0;have s0:=hn 0 (by omega);rw[e0]at s0;have p1:=hf 1 (by omega);unfold cO at p1;rw[e1]at p1;have s1:=hn 1 (by omega);rw[e1]at s1;rw[e2]at hg;clear hf hn e0 e1 e2 e3;rintro f ⟨f0,f1,f2,f3,g⟩;omega
 have p0:=hf 0 (by omega);unfold cO at p0;rw[e0]at p0;have s0:=hn 0 (by omega);rw[e0]at s0;have p1:=hf 1 (by omega);unfold cO at p1;rw[e1]at p1;have s1:=hn 1 (by omega);rw[e1]at s1;have p2:=hf 2 (by omega);unfold cO at p2;rw[e2]at p2;have s2:=hn 2 (by omega);rw[e2]at s2;rw[e3]at hg;clear hf hn e0 e1 e2 e3;rintro f ⟨f0,f1,f2,f3,g⟩;omega
theorem aOm{b o:Nat->Int}{n:Int}{k:Nat}(hb:MOk b)(h0:0<=n)(h1:n<=9999)(hk:k<4)(hf: ∀i,i<k->cO b n i)(hx:b k≠88)(hg:b k<48+dg n k)
 (ho: ∀i,i<k->o i=48+dg n i) (hr: ∀i,k<=i->i<4->o i=if b i=88 then 57 else b i):pG b (cZ o)/\cZ o<=n/\ ∀f,pG b f->f<=n->f<=cZ o:=by
 obtain⟨d0,d1,d2,d3,a0,a1,a2,a3,a4,a5,a6,a7,e,e0,e1,e2,e3⟩:=nP n h0 h1;have m0:=hb 0 (by omega);have m1:=hb 1 (by omega);have m2:=hb 2 (by omega);have m3:=hb 3 (by omega);simp only[nY];obtain rfl|rfl|rfl|rfl:k=0\/k=1\/k=2\/k=3:=by omega
 . have r0:=hr 0 (by omega) (by omega);have r1:=hr 1 (by omega) (by omega);have r2:=hr 2 (by omega) (by omega);have r3:=hr 3 (by omega) (by omega);rw[e0]at hg;clear hf ho hr hb e0 e1 e2 e3;unfold cZ;refine⟨⟨o 0 - 48,o 1 - 48,o 2 - 48,o 3 - 48,?_⟩,?_,?_⟩
   . split at r0<;>split at r1<;>split at r2<;>split at r3<;>omega
   . split at r0<;>split at r1<;>split at r2<;>split at r3<;>omega
   rintro f ⟨f0,f1,f2,f3,g⟩ hn;split at r0<;>split at r1<;>split at r2<;>split at r3<;>omega
 . have p0:=hf 0 (by omega);unfold cO at p0;rw[e0]at p0;have q0:=ho 0 (by omega);rw[e0]at q0;have r1:=hr 1 (by omega) (by omega);have r2:=hr 2 (by omega) (by omega);have r3:=hr 3 (by omega) (by omega);rw[e1]at hg;clear hf ho hr hb e0 e1 e2 e3;unfold cZ;refine⟨⟨o 0 - 48,o 1 - 48,o 2 - 48,o 3 - 48,?_⟩,?_,?_⟩
   . split at r1<;>split at r2<;>split at r3<;>omega
   . split at r1<;>split at r2<;>split at r3<;>omega
   rintro f ⟨f0,f1,f2,f3,g⟩ hn;split at r1<;>split at r2<;>split at r3<;>omega
 . have p0:=hf 0 (by omega);unfold cO at p0;rw[e0]at p0;have q0:=ho 0 (by omega);rw[e0]at q0;have p1:=hf 1 (by omega);unfold cO at p1;rw[e1]at p1;have q1:=ho 1 (by omega);rw[e1]at q1;have r2:=hr 2 (by omega) (by omega);have r3:=hr 3 (by omega) (by omega);rw[e2]at hg;clear hf ho hr hb e0 e1 e2 e3;unfold cZ;refine⟨⟨o 0 - 48,o 1 - 48,o 2 - 48,o 3 - 48,?_⟩,?_,?_⟩
   . split at r2<;>split at r3<;>omega
   . split at r2<;>split at r3<;>omega
   rintro f ⟨f0,f1,f2,f3,g⟩ hn;split at r2<;>split at r3<;>omega
 have p0:=hf 0 (by omega);unfold cO at p0;rw[e0]at p0;have q0:=ho 0 (by omega);rw[e0]at q0;have p1:=hf 1 (by omega);unfold cO at p1;rw[e1]at p1;have q1:=ho 1 (by omega);rw[e1]at q1;have p2:=hf 2 (by omega);unfold cO at p2;rw[e2]at p2;have q2:=ho 2 (by omega);rw[e2]at q2;have r3:=hr 3 (by omega) (by omega);rw[e3]at hg;clear hf ho hr hb e0 e1 e2 e3;unfold cZ;refine⟨⟨o 0 - 48,o 1 - 48,o 2 - 48,o 3 - 48,?_⟩,?_,?_⟩
 . split at r3<;>omega
 . split at r3<;>omega
 rintro f ⟨f0,f1,f2,f3,g⟩ hn;split at r3<;>omega
theorem aOn{b o:Nat->Int}{n:Int}{k j:Nat}(hb:MOk b)(h0:0<=n)(h1:n<=9999)(hk:k<4)(hf: ∀i,i<k->cO b n i)(hx:b k≠88)(hg:48+dg n k<b k)
 (hj:j<k) (hbx:b j=88) (hd:dg n j≠0) (hn: ∀i,j<i->i<k-> ¬(b i=88/\dg n i≠0))
 (ho: ∀i,i<j->o i=48+dg n i) (hoj:o j=48+dg n j - 1) (hr: ∀i,j<i->i<4->o i=if b i=88 then 57 else b i):pG b (cZ o)/\cZ o<=n/\ ∀f,pG b f->f<=n->f<=cZ o:=by
 obtain⟨d0,d1,d2,d3,a0,a1,a2,a3,a4,a5,a6,a7,e,e0,e1,e2,e3⟩:=nP n h0 h1;have m0:=hb 0 (by omega);have m1:=hb 1 (by omega);have m2:=hb 2 (by omega);have m3:=hb 3 (by omega);simp only[nY];obtain⟨rfl,rfl⟩|⟨rfl,rfl⟩|⟨rfl,rfl⟩|⟨rfl,rfl⟩|⟨rfl,rfl⟩|⟨rfl,rfl⟩:(j=0/\k=1)\/(j=0/\k=2)\/(j=0/\k=3)\/(j=1/\k=2)\/(j=1/\k=3)\/(j=2/\k=3):=by omega
 . have p0:=hf 0 (by omega);unfold cO at p0;rw[e0]at p0;rw[e0]at hoj hd;have r1:=hr 1 (by omega) (by omega);have r2:=hr 2 (by omega) (by omega);have r3:=hr 3 (by omega) (by omega);rw[e1]at hg;clear hf ho hr hb hn e0 e1 e2 e3;unfold cZ;refine⟨⟨o 0 - 48,o 1 - 48,o 2 - 48,o 3 - 48,?_⟩,?_,?_⟩
   . split at r1<;>split at r2<;>split at r3<;>omega
   . split at r1<;>split at r2<;>split at r3<;>omega
   rintro f ⟨f0,f1,f2,f3,g⟩ hn;split at r1<;>split at r2<;>split at r3<;>omega
 . have p0:=hf 0 (by omega);unfold cO at p0;rw[e0]at p0;have p1:=hf 1 (by omega);unfold cO at p1;rw[e1]at p1;rw[e0]at hoj hd;have s1:=hn 1 (by omega) (by omega);rw[e1]at s1;have r1:=hr 1 (by omega) (by omega);have r2:=hr 2 (by omega) (by omega);have r3:=hr 3 (by omega) (by omega);rw[e2]at hg;clear hf ho hr hb hn e0 e1 e2 e3;unfold cZ;refine⟨⟨o 0 - 48,o 1 - 48,o 2 - 48,o 3 - 48,?_⟩,?_,?_⟩
   . split at r1<;>split at r2<;>split at r3<;>omega
   . split at r1<;>split at r2<;>split at r3<;>omega
   rintro f ⟨f0,f1,f2,f3,g⟩ hn;split at r1<;>split at r2<;>split at r3<;>omega
 . have p0:=hf 0 (by omega);unfold cO at p0;rw[e0]at p0;have p1:=hf 1 (by omega);unfold cO at p1;rw[e1]at p1;have p2:=hf 2 (by omega);unfold cO at p2;rw[e2]at p2;rw[e0]at hoj hd;have s1:=hn 1 (by omega) (by omega);rw[e1]at s1;have s2:=hn 2 (by omega) (by omega);rw[e2]at s2;have r1:=hr 1 (by omega) (by omega);have r2:=hr 2 (by omega) (by omega);have r3:=hr 3 (by omega) (by omega);rw[e3]at hg;clear hf ho hr hb hn e0 e1 e2 e3;unfold cZ;refine⟨⟨o 0 - 48,o 1 - 48,o 2 - 48,o 3 - 48,?_⟩,?_,?_⟩
   . split at r1<;>split at r2<;>split at r3<;>omega
   . split at r1<;>split at r2<;>split at r3<;>omega
   rintro f ⟨f0,f1,f2,f3,g⟩ hn;split at r1<;>split at r2<;>split at r3<;>omega
 . have p0:=hf 0 (by omega);unfold cO at p0;rw[e0]at p0;have p1:=hf 1 (by omega);unfold cO at p1;rw[e1]at p1;have q0:=ho 0 (by omega);rw[e0]at q0;rw[e1]at hoj hd;have r2:=hr 2 (by omega) (by omega);have r3:=hr 3 (by omega) (by omega);rw[e2]at hg;clear hf ho hr hb hn e0 e1 e2 e3;unfold cZ;refine⟨⟨o 0 - 48,o 1 - 48,o 2 - 48,o 3 - 48,?_⟩,?_,?_⟩
   . split at r2<;>split at r3<;>omega
   . split at r2<;>split at r3<;>omega
   rintro f ⟨f0,f1,f2,f3,g⟩ hn;split at r2<;>split at r3<;>omega
 . have p0:=hf 0 (by omega);unfold cO at p0;rw[e0]at p0;have p1:=hf 1 (by omega);unfold cO at p1;rw[e1]at p1;have p2:=hf 2 (by omega);unfold cO at p2;rw[e2]at p2;have q0:=ho 0 (by omega);rw[e0]at q0;rw[e1]at hoj hd;have s2:=hn 2 (by omega) (by omega);rw[e2]at s2;have r2:=hr 2 (by omega) (by omega);have r3:=hr 3 (by omega) (by omega);rw[e3]at hg;clear hf ho hr hb hn e0 e1 e2 e3;unfold cZ;refine⟨⟨o 0 - 48,o 1 - 48,o 2 - 48,o 3 - 48,?_⟩,?_,?_⟩
   . split at r2<;>split at r3<;>omega
   . split at r2<;>split at r3<;>omega
   rintro f ⟨f0,f1,f2,f3,g⟩ hn;split at r2<;>split at r3<;>omega
 have p0:=hf 0 (by omega);unfold cO at p0;rw[e0]at p0;have p1:=hf 1 (by omega);unfold cO at p1;rw[e1]at p1;have p2:=hf 2 (by omega);unfold cO at p2;rw[e2]at p2;have q0:=ho 0 (by omega);rw[e0]at q0;have q1:=ho 1 (by omega);rw[e1]at q1;rw[e2]at hoj hd;have r3:=hr 3 (by omega) (by omega);rw[e3]at hg;clear hf ho hr hb hn e0 e1 e2 e3;unfold cZ;refine⟨⟨o 0 - 48,o 1 - 48,o 2 - 48,o 3 - 48,?_⟩,?_,?_⟩
 . split at r3<;>omega
 . split at r3<;>omega
 rintro f ⟨f0,f1,f2,f3,g⟩ hn;split at r3<;>omega
theorem aOl{b:Nat->Int}{n:Int}{k:Nat}(h0:0<=n)(h1:n<=9999)(hk:k<4)(hf: ∀i,i<k->cO b n i)(hx:b k≠88)(hg:48+dg n k<b k)
 (hn: ∀i,i<k-> ¬(b i=88/\dg n i≠0)): ∀f,pG b f->n<f:=by
 obtain⟨d0,d1,d2,d3,a0,a1,a2,a3,a4,a5,a6,a7,e,e0,e1,e2,e3⟩:=nP n h0 h1;simp only[nY];obtain rfl|rfl|rfl|rfl:k=0\/k=1\/k=2\/k=3:=by omega
 . rw[e0]at hg;clear hf hn e0 e1 e2 e3;rintro f ⟨f0,f1,f2,f3,g⟩;omega
 . have p0:=hf 0 (by omega);unfold cO at p0;rw[e0]at p0;have s0:=hn 0 (by omega);rw[e0]at s0;rw[e1]at hg;clear hf hn e0 e1 e2 e3;rintro f ⟨f0,f1,f2,f3,g⟩;omega
 . have p0:=hf 0 (by omega);unfold cO at p0;rw[e0]at p0;have s0:=hn 0 (by omega);rw[e0]at s0;have p1:=hf 1 (by omega);unfold cO at p1;rw[e1]at p1;have s1:=hn 1 (by omega);rw[e1]at s1;rw[e2]at hg;clear hf hn e0 e1 e2 e3;rintro f ⟨f0,f1,f2,f3,g⟩;omega
 have p0:=hf 0 (by omega);unfold cO at p0;rw[e0]at p0;have s0:=hn 0 (by omega);rw[e0]at s0;have p1:=hf 1 (by omega);unfold cO at p1;rw[e1]at p1;have s1:=hn 1 (by omega);rw[e1]at s1;have p2:=hf 2 (by omega);unfold cO at p2;rw[e2]at p2;have s2:=hn 2 (by omega);rw[e2]at s2;rw[e3]at hg;clear hf hn e0 e1 e2 e3;rintro f ⟨f0,f1,f2,f3,g⟩;omega
end Bk
end
section
namespace Bk
def p10(k:Nat):Int:=10 ^ k
theorem aM5(k:Nat)(h:k<=18):(1:Int)<=10 ^ k/\(10:Int) ^ k<=1000000000000000000:=by
 have h1:(10:Nat) ^ k<=10 ^ 18:=aTr (by omega) h;have h2:0<(10:Nat) ^ k:=aXw (by simp);have h3:(10:Nat) ^ 18=1000000000000000000:=by decide
 have e:((10:Int) ^ k)=((10 ^ k:Nat):Int):=by simp
 rw[e];omega
theorem ZL(k:Nat):p10 (k+1)=p10 k * 10:=by unfold p10;rw[Int.pow_succ]
theorem aIy(k:Nat)(h:k<=18):1<=p10 k/\p10 k<=1000000000000000000:=aM5 k h
theorem VD(k:Nat):1<=p10 k:=by
 unfold p10;have e:((10:Int) ^ k)=((10 ^ k:Nat):Int):=by simp
 have h2:0<(10:Nat) ^ k:=aXw (by simp);rw[e];omega
def iP(s:ByteArray):Int:=(dec s.data.toList 0:Nat)
theorem wZ(s:ByteArray):0<=iP s:=by unfold iP;omega
def fJ(s:ByteArray)(ex:Int):Int:=iP s * p10 ex.toNat
def isZ(x:Int):Bool:=decide (x=48)
def fK(s:ByteArray)(ex:Int):Bool:=
 decide (1<=s.size)&&(decide (s.size<=17)&&(allB bG s&&(!decide (aX s 0=48)&&(decide (0<=ex)&&(decide (ex<=16)&&(!(decide (ex=0)&&decide (s.size<5))&&decide (fJ s ex<=10000000000000000)))))))
def iC(neg:Bool)(s:ByteArray)(ex sig:Int):Bool:=
 decide (s.size=4)&&(allB bV s&&(decide (ex=0)&&(!(neg&&allB isZ s)&& !(!decide (sig=0)&&hasB 88 s))))
def G8(neg long:Bool)(s:ByteArray)(ex sig:Int):Bool:=(if long then fK s ex else iC neg s ex sig)&&(decide (0<=sig)&&decide (sig<=s.size+ex))
theorem jI{neg:Bool}{s:ByteArray}{ex sig:Int}(h:G8 neg true s ex sig=true):1<=s.size/\s.size<=17/\allB bG s=true/\aX s 0≠48/\0<=ex/\ex<=16/\fJ s ex<=10000000000000000/\0<=sig/\sig<=s.size+ex:=by
 unfold G8 fK at h;simp at h;obtain⟨⟨h1,h2,h3,h4,h5,h6,h7,h8⟩,h9,h10⟩:=h;exact⟨h1,h2,h3,h4,h5,h6,h8,h9,h10⟩
theorem iD{neg:Bool}{s:ByteArray}{ex sig:Int}(h:G8 neg false s ex sig=true):s.size=4/\allB bV s=true/\ex=0/\(neg=true->allB isZ s=false)/\(sig≠0->hasB 88 s=false)/\0<=sig/\sig<=4:=by
 unfold G8 iC at h;simp at h;obtain⟨⟨h1,h2,h3,h4,h5⟩,h9,h10⟩:=h;exact⟨h1,h2,h3,fun hn=>by cases h4 with
  |inl h=>rw[hn]at h;cases h
  |inr h=>exact h,fun hs=>by cases h5 with
  |inl h=>exact absurd h hs
  |inr h=>exact h,h9,by omega⟩
def jE(s:ByteArray)(n:Int):Bool:=decide (s.size=2)&&((decide (aX s 0=88)||decide (aX s 0=48+n / 10))&&(decide (aX s 1=88)||decide (aX s 1=48+n % 10)))
def dU(s:ByteArray)(g:Nat):Bool:=(List.range g).any fun i=>jE s ((i:Int)+1)
theorem tN(s:ByteArray)(g:Nat):dU s (g+1)=(dU s g||jE s ((g:Int)+1)):=by
 unfold dU;rw[List.range_succ,List.any_append];simp
theorem KN{s:ByteArray}{g h:Nat}(hle:g<=h)(hs:dU s g=true):dU s h=true:=by
 unfold dU at hs ⊢;rw[aWQ]at hs ⊢;obtain⟨i,hi,ha⟩:=hs;exact⟨i,by rw[aTp]at hi ⊢;omega,ha⟩
theorem D8(s:ByteArray)(g:Nat):dU s g=true↔ ∃n:Int,1<=n/\n<=g/\jE s n=true:=by
 unfold dU;rw[aWQ];constructor
 . rintro⟨i,hi,ha⟩;rw[aTp]at hi;exact⟨(i:Int)+1,by omega,by omega,ha⟩
 rintro⟨n,h1,h2,ha⟩;refine⟨(n - 1).toNat,by rw[aTp];omega,?_⟩;rw[show (((n - 1).toNat:Nat):Int)+1=n by omega];exact ha
def comps(mo da:ByteArray):Int:=1+(if mo.size=0 then 0 else 1)+(if da.size=0 then 0 else 1)
def kD(a b c n:Int):Int:=if a<=3/\b<=3/\c<=3/\(n<3->c=0)/\(n<2->b=0)then 0 else 9
structure Dt where
 neg:Bool
 long:Bool
 dg:ByteArray
 ex:Int
 sig:Int
 mo:ByteArray
 da:ByteArray
 m0:Int
 m1:Int
 m2:Int
def Dt.JW(d:Dt):Bool:=G8 d.neg d.long d.dg d.ex d.sig
def Dt.mag(d:Dt):Int:=fJ d.dg d.ex
def Dt.mask(d:Dt):Bool:=hasB 88 d.dg
def Dt.aH(d:Dt):Int:=dD d.mo
def Dt.far(d:Dt):Bool:=(decide (d.aH=24)||(decide (d.aH=28)||decide (d.aH=30)))&&(!d.mask&&(decide (d.mag=10000000000000000)&& !d.neg))
def Dt.lN(d:Dt):Bool:=d.JW&&(!(decide (0<d.sig)&& !decide (d.mo.size=0))&& !d.far)
def Dt.form(d:Dt):Int:=
 if d.lN=false then 6
 else if(!decide (d.mo.size=0)&&(decide (d.aH=0)&& !dU d.mo 12))=true then 7
 else if(!decide (d.da.size=0)&&(decide (d.mo.size=0)||(!decide (d.aH=0)|| !dU d.da 31)))=true then 8
 else kD d.m0 d.m1 d.m2 (comps d.mo d.da)
def Dt.In(d:Dt)(y:Int):Prop:=if d.mask=true then(if d.neg=true then pG (aX d.dg) (-y)/\y≠0 else pG (aX d.dg) y)else y=(if d.neg=true then -d.mag else d.mag)
def cvv(y m k:Int):Value:=.agg #[.int .i64 y,.int .i64 m,.int .i64 k]
def aV(d:Dt):Value:=.agg #[.bool d.neg,.bool d.long,.string d.dg,.int .i64 d.ex,.int .i64 d.sig,.string d.mo,.string d.da,.int .u8 d.m0,.int .u8 d.m1,.int .u8 d.m2]
end Bk
end
section
namespace Bk
def qQ(a b:Int)(l:List UInt8):Int:=(l.filter fun c=>decide (a<=(c.toNat:Int))&&decide ((c.toNat:Int)<=b)).length
theorem JQ(a b:Int)(l:List UInt8):0<=qQ a b l/\qQ a b l<=l.length:=by
 unfold qQ;exact⟨by omega,by have:=List.length_filter_le (fun c:UInt8=>decide (a<=(c.toNat:Int))&&decide ((c.toNat:Int)<=b)) l;omega⟩
theorem take_snoc(s:ByteArray)(k:Nat)(h:k<s.size):s.data.toList.take (k+1)=s.data.toList.take k++[s[k]]:=by
 rw[aWf (by simpa using h)];rfl
theorem aGV(a b:Int)(l:List UInt8)(c:UInt8):qQ a b (l++[c])=qQ a b l+if a<=(c.toNat:Int)/\(c.toNat:Int)<=b then 1 else 0:=by
 unfold qQ;rw[List.filter_append]
 by_cases h:a<=(c.toNat:Int)<;>by_cases h2:(c.toNat:Int)<=b<;>simp[List.filter_cons,h,h2]
theorem yE(a b:Int)(l:List UInt8)(c:UInt8):qQ a b (c::l)=qQ a b l+if a<=(c.toNat:Int)/\(c.toNat:Int)<=b then 1 else 0:=by
 unfold qQ
 by_cases h:a<=(c.toNat:Int)<;>by_cases h2:(c.toNat:Int)<=b<;>simp[List.filter_cons,h,h2]
def nS(a b:Int)(s:ByteArray):Int:=qQ a b s.data.toList
theorem DJ(a b:Int)(s:ByteArray):0<=nS a b s/\nS a b s<=s.size:=by
 have:=JQ a b s.data.toList;unfold nS;simpa using this
theorem aA6: ∀l:List UInt8,(qQ 48 57 l+qQ 88 88 l=l.length↔(l.all fun b=>bV (b.toNat:Int))=true)/\qQ 48 57 l+qQ 88 88 l<=l.length
 |[]=>by simp[qQ]
 |c::l=>by
  obtain⟨ih,ih2⟩:=aA6 l;rw[yE,yE,aP2,aDY,<-ih,aTi];unfold bV
  by_cases h:(48:Int)<=(c.toNat:Int)/\(c.toNat:Int)<=57
  . rw[aDk h,aBx (by omega)];simp[h];omega
  rw[aBx h]
  by_cases h2:(c.toNat:Int)=88
  . rw[aDk (by omega)];simp[h2];omega
  rw[aBx (by omega)];simp[h,h2];omega
theorem aAY(s:ByteArray):(nS 48 57 s+nS 88 88 s=s.size)↔allB bV s=true:=by
 have:=(aA6 s.data.toList).1;unfold nS allB;simpa using this
theorem aQb: ∀l:List UInt8,(0<qQ 88 88 l)↔(l.any fun b=>decide ((b.toNat:Int)=88))=true
 |[]=>by simp[qQ]
 |c::l=>by
  have ih:=aQb l;have:=(JQ 88 88 l).1;rw[yE,aXy,aHW,<-ih,aOr]
  by_cases h:(c.toNat:Int)=88
  . rw[aDk (by omega)];omega
  rw[aBx (by omega)];omega
theorem aHX(s:ByteArray):(0<nS 88 88 s)↔hasB 88 s=true:=aQb _
theorem aEu(a:Int): ∀l:List UInt8,(qQ a a l=l.length)↔(l.all fun b=>decide ((b.toNat:Int)=a))=true
 |[]=>by simp[qQ]
 |c::l=>by
  have ih:=aEu a l;have:=(JQ a a l).2;rw[yE,aP2,aDY,<-ih,aOr,aTi]
  by_cases h:(c.toNat:Int)=a
  . rw[aDk (by omega)];omega
  rw[aBx (by omega)];omega
theorem aTI(s:ByteArray)(h:s.size=4):(nS 48 48 s=4)↔allB isZ s=true:=by
 have:=aEu 48 s.data.toList;unfold nS allB isZ;have e:(s.data.toList.length:Int)=4:=by simp;omega
 rw[e]at this;exact this
theorem aEv: ∀l:List UInt8,(l.all fun b=>bV (b.toNat:Int))=true->((l.any fun b=>decide ((b.toNat:Int)=88))=false↔(l.all fun b=>bG (b.toNat:Int))=true)
 |[],_=>by simp
 |c::l,h=>by
  rw[aP2,aDY]at h;have ih:=aEv l h.2;rw[aXy,aP2,aQk,aDY,ih];have h1:=h.1;unfold bV at h1;unfold bG
  by_cases h2:(c.toNat:Int)=88
  . simp[h2]
  simp[h2]at h1;simp[h2,h1]
theorem jV{s:ByteArray}(h:allB bV s=true):hasB 88 s=false↔allB bG s=true:=aEv _ h
theorem qJ{s:ByteArray}(h:allB bG s=true):allB bV s=true:=by
 rw[kJ]at h ⊢;intro i hi;have:=h i hi;unfold bG at this;unfold bV;rw[this];rfl
end Bk
end
section
namespace Bk
def qP(s:ByteArray)(k:Nat):Int:=if k<=s.size then(dec (s.data.toList.take k) 0:Nat)else iP s * p10 (k - s.size)
theorem EP(s:ByteArray):qP s 0=0:=by unfold qP;rw[aDk (aJS _)];rfl
theorem wG(s:ByteArray)(e:Nat):qP s (s.size+e)=fJ s e:=by
 unfold qP fJ
 by_cases h:s.size+e<=s.size
 . obtain rfl:e=0:=by omega
   rw[aDk h,aTf (by simp)];unfold iP p10;simp
 rw[aBx h,show s.size+e - s.size=e by omega,aQ4]
theorem XB{s:ByteArray}(h:allB bG s=true)(k:Nat)(hk:k<s.size):48<=((s[k]'hk).toNat:Int)/\((s[k]'hk).toNat:Int)<=57:=by
 have:=(kJ _ _).1 h k hk;rw[bQ s k hk]at this;exact aL2 this
theorem ML{s:ByteArray}(h:allB bG s=true)(k:Nat)(hk:k<s.size):qP s (k+1)=10 * qP s k+(((s[k]'hk).toNat:Int) - 48):=by
 unfold qP;rw[aDk (by omega),aDk (by omega),take_snoc s k hk,aA2];have:=XB h k hk;omega
theorem aAo(s:ByteArray)(k:Nat)(hk:s.size<=k):qP s (k+1)=10 * qP s k:=by
 unfold qP;rw[aBx (by omega)]
 by_cases c:k<=s.size
 . obtain rfl:k=s.size:=by omega
   rw[aDk c,show s.size+1 - s.size=1 by omega,aTf (by simp)];unfold iP p10;omega
 rw[aBx c,show k+1 - s.size=(k - s.size)+1 by omega,ZL];rw[<-Int.mul_assoc,Int.mul_comm]
theorem MK(s:ByteArray)(k:Nat):0<=qP s k:=by
 unfold qP
 split
 . omega
 exact aYt (wZ s) (by have:=VD (k - s.size);omega)
theorem aGn{s:ByteArray}(h:allB bG s=true)(k:Nat):qP s k<=qP s (k+1):=by
 have:=MK s k
 by_cases c:k<s.size
 . rw[ML h k c];have:=XB h k c;omega
 rw[aAo s k (by omega)];omega
theorem xK{s:ByteArray}(h:allB bG s=true)(k:Nat): ∀j,qP s k<=qP s (k+j)
 |0=>aTF _
 |j+1=>Int.le_trans (xK h k j) (aGn h (k+j))
theorem oM(s:ByteArray)(e:Int):0<=fJ s e:=aYt (wZ s) (by have:=VD e.toNat;omega)
theorem yH{s:ByteArray}(h:allB bG s=true):s.data.toList.all aKV=true:=by
 unfold allB at h;rw[aL4]at h ⊢;intro c hc;have:=h c hc;unfold bG at this;have:=aL2 this;unfold aKV;rw[aOr];omega
theorem aEs{s:ByteArray}(h:allB bG s=true)(hs:s.size<=17):iP s<100000000000000000:=by
 have:=dec_lt s.data.toList 0 0 (yH h) (by decide);rw[aKP]at this;have hp:(10:Nat) ^ s.data.toList.length<=10 ^ 17:=aTr (by omega) (by simpa using hs);have hp2:(10:Nat) ^ 17=100000000000000000:=by decide
 unfold iP;omega
theorem oO{s:ByteArray}(h:allB bG s=true)(hs:s.size=4):iP s<10000:=by
 have:=dec_lt s.data.toList 0 0 (yH h) (by decide);rw[aKP,show s.data.toList.length=4 by simpa using hs]at this;unfold iP;omega
end Bk
end
section
namespace Bk
def dY(s:ByteArray):Nat->List Int
 |0=>[]
 |g+1=>dY s g++(if jE s ((g:Int)+1)then[(g:Int)+1]else[])
theorem qH(s:ByteArray)(g:Nat):dY s (g+1)=dY s g++(if jE s ((g:Int)+1)then[(g:Int)+1]else[]):=rfl
theorem EZ{s:ByteArray}{g:Nat}(h:jE s ((g:Int)+1)=true):dY s (g+1)=dY s g++[(g:Int)+1]:=by rw[qH,aDk h]
theorem NY{s:ByteArray}{g:Nat}(h:jE s ((g:Int)+1)=false):dY s (g+1)=dY s g:=by rw[qH,aBx (by rw[h];decide),aTE]
theorem pR(s:ByteArray): ∀g,(dY s g).length<=g
 |0=>aEc _
 |g+1=>by
  have:=pR s g;rw[qH,aS9]
  split<;>simp<;>omega
theorem fA(s:ByteArray)(n:Int): ∀g:Nat,n ∈ dY s g↔(1<=n/\n<=g/\jE s n=true)
 |0=>by simp[dY];omega
 |g+1=>by
  have ih:=fA s n g;rw[qH,aL6,ih]
  by_cases h:jE s ((g:Int)+1)=true
  . rw[aDk h,aL8];constructor
    . rintro(⟨h1,h2,h3⟩|rfl)
      . exact⟨h1,by omega,h3⟩
      exact⟨by omega,by omega,h⟩
    rintro⟨h1,h2,h3⟩
    by_cases e:n=(g:Int)+1
    . exact .inr e
    exact .inl ⟨h1,by omega,h3⟩
  rw[aBx h];constructor
  . rintro(⟨h1,h2,h3⟩|h)
    . exact⟨h1,by omega,h3⟩
    cases h
  rintro⟨h1,h2,h3⟩;refine .inl ⟨h1,?_,h3⟩
  by_cases e:n=(g:Int)+1
  . subst e;exact absurd h3 h
  omega
theorem mP(s:ByteArray): ∀g,(dY s g).Pairwise (· < ·)
 |0=>List.Pairwise.nil
 |g+1=>by
  rw[qH,List.pairwise_append];refine⟨mP s g,?_,?_⟩
  . split<;>simp
  intro a ha b hb;have:=(fA s a g).1 ha
  split at hb
  . rw[aL8]at hb;omega
  cases hb
theorem NW(s:ByteArray)(g:Nat):dU s g=true↔dY s g≠[]:=by
 rw[D8];constructor
 . rintro⟨n,h1,h2,h3⟩ e;have:=(fA s n g).2 ⟨h1,h2,h3⟩;rw[e]at this;cases this
 intro h
 cases e:dY s g with
 |nil=>exact absurd e h
 |cons a l=>
  have:=(fA s a g).1 (by rw[e];exact aHB ..);exact⟨a,this⟩
def Dt.ms(d:Dt):List Int:=if d.aH≠0 then[d.aH]else if d.mo.size=0 then[0]else dY d.mo 12
def Dt.ds(d:Dt):List Int:=if d.da.size=0 then[0]else dY d.da 31
def Dt.len(d:Dt)(y m:Int):Int:=if d.da.size=0 then 0 else Cal.len y m
theorem Dt.EO(d:Dt):d.ms.Pairwise (· < ·):=by
 unfold Dt.ms;split
 . simp
 split
 . simp
 exact mP _ _
theorem Dt.TQ(d:Dt):d.ds.Pairwise (· < ·):=by
 unfold Dt.ds;split
 . simp
 exact mP _ _
theorem Dt.MC(d:Dt):d.ms.length<=12:=by
 unfold Dt.ms;split
 . simp
 split
 . simp
 exact pR _ _
theorem Dt.aDb(d:Dt):d.ds.length<=31:=by
 unfold Dt.ds;split
 . simp
 exact pR _ _
def Dt.Fill(d:Dt)(y m k:Int):Prop:=d.In y/\m ∈ d.ms/\k ∈ d.ds/\k<=d.len y m
def Dt.ge(d:Dt)(y m k cy cm ck:Int):Prop:=cy<y\/(y=cy/\(d.mo.size=0\/cm<m\/(m=cm/\(d.da.size=0\/ck<=k))))
def uY(y m k z n j:Int):Prop:=y<z\/(y=z/\(m<n\/(m=n/\k<j)))
def Dt.jG(d:Dt)(cy cm ck:Int)(y m k:Int)(found:Bool):Prop:=
 (found=true/\d.Fill y m k/\d.ge y m k cy cm ck/\ ∀z n j,d.Fill z n j->d.ge z n j cy cm ck-> ¬uY z n j y m k)\/
 (found=false/\y=0/\m=0/\k=0/\ ∀z n j,d.Fill z n j-> ¬d.ge z n j cy cm ck)
def Dt.Year(d:Dt)(n v:Int)(ok:Bool):Prop:=
 (ok=true/\d.In v/\n<=v/\ ∀u,d.In u->n<=u->v<=u)\/(ok=false/\ ∀u,d.In u-> ¬n<=u)
def Dt.NoM(d:Dt)(y cy cm ck:Int)(i:Nat):Prop:= ∀j,j<i-> ∀(h:j<d.ms.length),∀k,k ∈ d.ds->k<=d.len y (d.ms[j]'h)-> ¬d.ge y (d.ms[j]'h) k cy cm ck
def Dt.NoK(d:Dt)(y m cy cm ck:Int)(i:Nat):Prop:= ∀j,j<i-> ∀(h:j<d.ds.length),(d.ds[j]'h)<=d.len y m-> ¬d.ge y m (d.ds[j]'h) cy cm ck
def Dt.NoY(d:Dt)(y cy cm ck:Int):Prop:= ∀z n j,d.Fill z n j->z<y-> ¬d.ge z n j cy cm ck
theorem Dt.aJF(d:Dt)(y cy cm ck:Int):d.NoM y cy cm ck 0:=fun j h=>by omega
theorem Dt.aJI(d:Dt)(y m cy cm ck:Int):d.NoK y m cy cm ck 0:=fun j h=>by omega
theorem Dt.aJJ{d:Dt}{y m cy cm ck:Int}{i:Nat}(h:d.NoK y m cy cm ck i)(hi:i<d.ds.length)(hn:(d.ds[i]'hi)<=d.len y m-> ¬d.ge y m (d.ds[i]'hi) cy cm ck):d.NoK y m cy cm ck (i+1):=by
 intro j hj hl
 by_cases e:j=i
 . subst e;exact hn
 exact h j (by omega) hl
theorem Dt.aJG{d:Dt}{y cy cm ck:Int}{i:Nat}(h:d.NoM y cy cm ck i)(hi:i<d.ms.length)(hn:d.NoK y (d.ms[i]'hi) cy cm ck d.ds.length):d.NoM y cy cm ck (i+1):=by
 intro j hj hl
 by_cases e:j=i
 . subst e;intro k hk hkl;obtain⟨a,ha,rfl⟩:=aNU hk;exact hn a ha ha hkl
 exact h j (by omega) hl
theorem Dt.aJH{d:Dt}{y cy cm ck:Int}{i:Nat}(h:d.NoM y cy cm ck i)(hi:i<d.ms.length)(hy:y=cy)(hm:d.mo.size≠0)(hlt:(d.ms[i]'hi)<cm):d.NoM y cy cm ck (i+1):=by
 intro j hj hl
 by_cases e:j=i
 . subst e;rintro k hk hkl (g|⟨g,g|g|⟨g,_⟩⟩)<;>omega
 exact h j (by omega) hl
theorem Dt.aJE{d:Dt}{y v cy cm ck:Int}{ok:Bool}(h:d.NoY y cy cm ck)(hm:d.NoM y cy cm ck d.ms.length)(hy:d.Year (y+1) v ok):
 (ok=true->d.NoY v cy cm ck)/\(ok=false-> ∀z n j,d.Fill z n j-> ¬d.ge z n j cy cm ck):=by
 have key: ∀z n j,d.Fill z n j->z<=y-> ¬d.ge z n j cy cm ck:=by
  intro z n j hf hz
  by_cases e:z=y
  . subst e;obtain⟨h1,h2,h3,h4⟩:=hf;obtain⟨a,ha,rfl⟩:=aNU h2;exact hm a ha ha j h3 h4
  exact h z n j hf (by omega)
 constructor
 . rintro rfl z n j hf hz;rcases hy with⟨_,_,_,hmin⟩|⟨h,_⟩
   . exact key z n j hf (by have:=hmin z hf.1;omega)
   cases h
 rintro rfl z n j hf;rcases hy with⟨h,_⟩|⟨_,hno⟩
 . cases h
 exact key z n j hf (by have:=hno z hf.1;omega)
theorem Dt.aF8{d:Dt}{v cy cm ck:Int}{ok:Bool}(hy:d.Year cy v ok):
 (ok=true->d.NoY v cy cm ck)/\(ok=false-> ∀z n j,d.Fill z n j-> ¬d.ge z n j cy cm ck):=by
 have low: ∀z n j,z<cy-> ¬d.ge z n j cy cm ck:=by rintro z n j h (g|⟨g,_⟩)<;>omega
 constructor
 . rintro rfl z n j hf hz;rcases hy with⟨_,_,_,hmin⟩|⟨h,_⟩
   . exact low z n j (by have:=hmin z hf.1;omega)
   cases h
 rintro rfl z n j hf;rcases hy with⟨h,_⟩|⟨_,hno⟩
 . cases h
 exact low z n j (by have:=hno z hf.1;omega)
theorem RS{l:List Int}(hs:l.Pairwise (· < ·)){i j:Nat}(hi:i<l.length)(hj:j<l.length)(h:(l[j]'hj)<(l[i]'hi)):j<i:=by
 by_cases c:j<i
 . exact c
 exfalso
 by_cases e:i=j
 . subst e;omega
 have:=aTo.1 hs i j hi hj (by omega);omega
theorem Dt.found{d:Dt}{y cy cm ck:Int}{i j:Nat}(hY:d.In y)(hN:d.NoY y cy cm ck)(hM:d.NoM y cy cm ck i)(hi:i<d.ms.length)(hK:d.NoK y (d.ms[i]'hi) cy cm ck j)(hj:j<d.ds.length)
 (hl:(d.ds[j]'hj)<=d.len y (d.ms[i]'hi)) (hg:d.ge y (d.ms[i]'hi) (d.ds[j]'hj) cy cm ck):d.jG cy cm ck y (d.ms[i]'hi) (d.ds[j]'hj) true:=by
 refine .inl ⟨rfl,⟨hY,aRy hi,aRy hj,hl⟩,hg,?_⟩;intro z n k hf hge hlt;rcases hlt with h|⟨rfl,h|⟨rfl,h⟩⟩
 . exact hN z n k hf h hge
 . obtain⟨_,h2,h3,h4⟩:=hf;obtain⟨a,ha,rfl⟩:=aNU h2;exact hM a (RS d.EO hi ha h) ha k h3 h4 hge
 obtain⟨_,h2,h3,h4⟩:=hf;obtain⟨a,ha,rfl⟩:=aNU h3;exact hK a (RS d.TQ hj ha h) ha h4 hge
def Dt.Is(d:Dt)(y m k cy cm ck:Int):Bool:=decide (y=cy)&&((decide (d.mo.size=0)||decide (m=cm))&&(decide (d.da.size=0)||decide (k=ck)))
theorem Dt.aBR{d:Dt}{y m k cy cm ck:Int}{found:Bool}(hd:d.mo.size=0->d.da.size=0)(h:d.jG cy cm ck y m k found):
 (found&&d.Is y m k cy cm ck)=true↔ ∃n j,d.Fill cy n j/\(d.mo.size=0\/n=cm)/\(d.da.size=0\/j=ck):=by
 unfold Dt.Is;simp only[aDY,aHW,aDE];constructor
 . rintro⟨rfl,rfl,hm,hk⟩;rcases h with⟨_,hf,_⟩|⟨h,_⟩
   . exact⟨m,k,hf,hm,hk⟩
   cases h
 rintro ⟨n,j,hf,hn,hj⟩;have hge:d.ge cy n j cy cm ck:=by
  refine .inr ⟨rfl,?_⟩;rcases hn with h|h
  . exact .inl h
  refine .inr (.inr ⟨h,?_⟩);rcases hj with g|g
  . exact .inl g
  exact .inr (by omega)
 rcases h with⟨rfl,hF,hG,hmin⟩|⟨_,_,_,_,hno⟩
 . have hnl:=hmin cy n j hf hge;have hy:y=cy:=by
    rcases hG with g|⟨g,_⟩
    . exact absurd (.inl g) hnl
    exact g
   subst hy;refine⟨rfl,rfl,?_⟩
   by_cases h0:d.mo.size=0
   . exact⟨.inl h0,.inl (hd h0)⟩
   have hn:n=cm:=by rcases hn with g|g;exact absurd g h0;exact g
   subst hn;rcases hG with g|⟨_,g|g|⟨rfl,g⟩⟩
   . omega
   . exact absurd g h0
   . exact absurd (.inr ⟨rfl,.inl g⟩) hnl
   refine⟨.inr rfl,?_⟩
   by_cases h1:d.da.size=0
   . exact .inl h1
   right
   have hj:j=ck:=by rcases hj with g|g;exact absurd g h1;exact g
   have hg:ck<=k:=by rcases g with g|g;exact absurd g h1;exact g
   by_cases c:k=ck
   . exact c
   exact absurd (.inr ⟨rfl,.inr ⟨rfl,by omega⟩⟩) hnl
 exact absurd hge (hno cy n j hf)
theorem Dt.YU{d:Dt}{y m k cy cm ck:Int}{found:Bool}(hb: ∀u,d.In u->cy<u)(h:d.jG cy cm ck y m k found):found=true↔ ∃y m k,d.Fill y m k:=by
 constructor
 . rintro rfl;rcases h with⟨_,hf,_⟩|⟨h,_⟩
   . exact⟨_,_,_,hf⟩
   cases h
 rintro⟨z,n,j,hf⟩;rcases h with⟨h,_⟩|⟨_,_,_,_,hno⟩
 . exact h
 exact absurd (.inl (hb z hf.1)) (hno z n j hf)
open Classical in
noncomputable def Dt.err(d:Dt):Int:=if d.form≠0 then d.form else if d.da.size≠0/\ ¬ ∃y m k,d.Fill y m k then 8 else 0
theorem aAn(a b c n:Int):kD a b c n=0\/kD a b c n=9:=by unfold kD;split;exact .inl rfl;exact .inr rfl
theorem Dt.iO{d:Dt}(h:d.form=0):d.lN=true/\(d.mo.size=0\/d.aH≠0\/dU d.mo 12=true)/\(d.da.size=0\/(d.mo.size≠0/\d.aH=0/\dU d.da 31=true))/\kD d.m0 d.m1 d.m2 (comps d.mo d.da)=0:=by
 unfold Dt.form at h
 split at h
 . omega
 rename_i h1
 split at h
 . omega
 rename_i h2
 split at h
 . omega
 rename_i h3
 refine⟨by simpa using h1,?_,?_,h⟩
 . by_cases c:d.mo.size=0
   . exact .inl c
   right
   by_cases c2:d.aH=0
   . right
     cases e3:dU d.mo 12
     . exact absurd (by rw[aBy c,aBz c2,e3];rfl) h2
     rfl
   exact .inl c2
 by_cases c:d.da.size=0
 . exact .inl c
 right
 have c1: ¬d.mo.size=0:=fun e1=>h3 (by rw[aBz e1,aBy c];rfl);have c2:d.aH=0:=by
  by_cases e2:d.aH=0
  . exact e2
  exact absurd (by rw[aBy c1,aBy c,aBy e2];rfl) h3
 refine⟨c1,c2,?_⟩
 cases e3:dU d.da 31
 . exact absurd (by rw[aBy c1,aBy c,aBz c2,e3];rfl) h3
 rfl
theorem Dt.fC{d:Dt}(h:d.lN=true):d.JW=true/\(0<d.sig->d.mo.size=0)/\d.far=false:=by
 unfold Dt.lN at h;rw[aDY,aDY]at h;obtain⟨h1,h2,h3⟩:=h;refine⟨h1,fun hs=>?_,by cases e:d.far;rfl;rw[e]at h3;cases h3⟩
 by_cases c:d.mo.size=0
 . exact c
 rw[aBz hs,aBy c]at h2;cases h2
theorem Dt.jU{d:Dt}(h:d.JW=true){y:Int}(hy:d.In y): -10000000000000000<=y/\y<=10000000000000000:=by
 unfold Dt.In at hy
 by_cases c:d.mask=true
 . rw[aDk c]at hy
   split at hy
   . obtain⟨⟨h1,h2,_⟩,_⟩:=hy;omega
   obtain⟨h1,h2,_⟩:=hy;omega
 rw [aBx c]at hy;have h0:=oM d.dg d.ex;have h1:fJ d.dg d.ex<=10000000000000000:=by
  unfold Dt.JW at h
  cases hl:d.long
  . rw[hl]at h;obtain⟨h1,h2,h3,_⟩:=iD h;have hd:=(jV h2).1 (by unfold Dt.mask at c;simpa using c);have:=oO hd h1;have hz:fJ d.dg 0=iP d.dg:=by unfold fJ p10;simp
    rw[h3,hz];omega
  rw[hl]at h;exact(jI h).2.2.2.2.2.2.1
 unfold Dt.mag at hy
 split at hy<;>omega
end Bk
end
section
namespace Bk
theorem SX{b o:Nat->Int}(hb:MOk b)(ho: ∀i,i<4->o i=if b i=88 then 48 else b i):pG b (cZ o)/\ ∀f,pG b f->cZ o<=f:=by
 have m0:=hb 0 (by omega);have m1:=hb 1 (by omega);have m2:=hb 2 (by omega);have m3:=hb 3 (by omega);have o0:=ho 0 (by omega);have o1:=ho 1 (by omega);have o2:=ho 2 (by omega);have o3:=ho 3 (by omega);simp only[nY];unfold cZ;generalize b 0=b0 at *;generalize b 1=b1 at *;generalize b 2=b2 at *;generalize b 3=b3 at *;constructor
 . refine⟨o 0 - 48,o 1 - 48,o 2 - 48,o 3 - 48,?_⟩
   split at o0<;>split at o1<;>split at o2<;>split at o3<;>(refine⟨?_,?_,?_,?_,?_,?_,?_,?_,?_,?_,?_,?_,?_⟩<;>omega)
 rintro f ⟨d0,d1,d2,d3,a0,a1,a2,a3,a4,a5,a6,a7,rfl,e0,e1,e2,e3⟩
 split at o0<;>split at o1<;>split at o2<;>split at o3<;>omega
theorem CB{b o:Nat->Int}(hb:MOk b)(ho: ∀i,i<4->o i=if b i=88 then 57 else b i):pG b (cZ o)/\ ∀f,pG b f->f<=cZ o:=by
 have m0:=hb 0 (by omega);have m1:=hb 1 (by omega);have m2:=hb 2 (by omega);have m3:=hb 3 (by omega);have o0:=ho 0 (by omega);have o1:=ho 1 (by omega);have o2:=ho 2 (by omega);have o3:=ho 3 (by omega);simp only[nY];unfold cZ;generalize b 0=b0 at *;generalize b 1=b1 at *;generalize b 2=b2 at *;generalize b 3=b3 at *;constructor
 . refine⟨o 0 - 48,o 1 - 48,o 2 - 48,o 3 - 48,?_⟩
   split at o0<;>split at o1<;>split at o2<;>split at o3<;>(refine⟨?_,?_,?_,?_,?_,?_,?_,?_,?_,?_,?_,?_,?_⟩<;>omega)
 rintro f ⟨d0,d1,d2,d3,a0,a1,a2,a3,a4,a5,a6,a7,rfl,e0,e1,e2,e3⟩
 split at o0<;>split at o1<;>split at o2<;>split at o3<;>omega
def oU(b:Nat->Int)(n v e:Int):Prop:=(e=0/\pG b v/\n<=v/\ ∀f,pG b f->n<=f->v<=f)\/(e=16/\v=0/\ ∀f,pG b f->f<n)
def qL(b:Nat->Int)(n v e:Int):Prop:=(e=0/\pG b v/\v<=n/\ ∀f,pG b f->f<=n->f<=v)\/(e=16/\v=0/\ ∀f,pG b f->n<f)
theorem aAi{b:Nat->Int}{n v e:Int}(h:oU b n v e):0<=v/\v<=9999/\(e=0\/e=16):=by
 rcases h with⟨h1,⟨h2,h3,_⟩,_⟩|⟨h1,h2,_⟩<;>omega
theorem BL{b:Nat->Int}{n v e:Int}(h:qL b n v e):0<=v/\v<=9999/\(e=0\/e=16):=by
 rcases h with⟨h1,⟨h2,h3,_⟩,_⟩|⟨h1,h2,_⟩<;>omega
end Bk
end
section
open Go.RowKit Go.Lib
namespace Sk
open Bk (Dt aV)
open Ev (bM eU hp AV mJ oN PD GL iU vG)
abbrev SS(w0:World):Prop:=bM eU.g.n eU.l w0 hp
abbrev Same(w0:World)(f:FuncId)(args:Array Value)(v:Value):Prop:=Ev.aEF Tryz.prog w0 f args v
theorem lJ{w:World}{f:FuncId}{args:Array Value}{v u:Value}(g:Same w f args v)(e:v=u):Calls Tryz.prog f args w fun r w'=>r=.returned u/\Below w.heap.size w w':=(e ▸ g) w (aAI _ _)
theorem eqB{P:Program}{w:World}{f:FuncId}{args:Array Value}{v:Ending}(h:Calls P f args w fun r w'=>r=v/\w=w'):Calls P f args w fun r w'=>r=v/\Below w.heap.size w w':=h.mono fun _ _ h=>⟨h.1,h.2 ▸ aAI _ _⟩
theorem aYK{P:Program}{w:World}{f:FuncId}{args:Array Value}{v:Ending}(h:Calls P f args w fun r w'=>r=v/\w'=w):Calls P f args w fun r w'=>r=v/\Below w.heap.size w w':=h.mono fun _ _ h=>⟨h.1,h.2 ▸ aAI _ _⟩
theorem sV{w0:World}{f:FuncId}{args:Array Value}{v u:Value}(g:Same w0 f args v)(e:v=u):Same w0 f args u:=e ▸ g
theorem aTJ{c:Prop}{w:World}{f:FuncId}{args:Array Value}{v v' u:Value}(g:c->Same w f args v)(g': ¬c->Same w f args v')(e:c->v=u)(e': ¬c->v'=u):Calls Tryz.prog f args w fun r w'=>r=.returned u/\Below w.heap.size w w':=
 Classical.byCases (fun h=>lJ (g h) (e h)) (fun h=>lJ (g' h) (e' h))
abbrev bU(k:AV):AV:=.agg [k,oN 1,PD 2,PD 3,GL 4,iU 5,iU 6,GL 7,GL 8,mJ 9,mJ 10,mJ 11,mJ 12,vG 13,iU 14,vG 15,iU 16]
abbrev iF:AV:=.agg [PD 0,PD 1,GL 2,iU 3,iU 4,GL 5,GL 6,mJ 7,mJ 8,mJ 9]
abbrev xA:AV:=.agg [PD 2,PD 3,GL 4,iU 5,iU 6,GL 7,GL 8,mJ 9,mJ 10,mJ 11]
abbrev rK(a b c d:AV):AV:=.agg [a,b,c,d]
abbrev qi:Nat->AV:=iU
abbrev qe:Nat->AV:=vG
abbrev qb:Nat->AV:=PD
abbrev qu:Nat->AV:=Ev.mJ
abbrev qs:Nat->AV:=GL
abbrev qz:AV:=.v (.int .i64 0)
abbrev q8:AV:=.v (.int .i8 0)
abbrev qt:AV:=.v (.bool true)
abbrev qf:AV:=.v (.bool false)
abbrev dL(d:Dt):List Value:=[.bool d.neg,.bool d.long,.string d.dg,.int .i64 d.ex,.int .i64 d.sig,.string d.mo,.string d.da,.int .u8 d.m0,.int .u8 d.m1,.int .u8 d.m2]
abbrev lv(a b:List Value):Value:=.agg (a++b).toArray
abbrev X3(t:TypeId)(a b:Value)(z:Bool):Prop:=Ev.EqV Tryz.prog t a b z
def ev(i d:Int):Value:=.agg #[.int .i8 i,.int .i64 d]
def r4(a lo b hi:Int):Value:=.agg #[.int .i8 a,.int .i64 lo,.int .i8 b,.int .i64 hi]
def lF(k:Int)(v:Value)(d:Dt)(p a lo b hi:Int):List Value:=[.int .u8 k,v,.bool d.neg,.bool d.long,.string d.dg,.int .i64 d.ex,.int .i64 d.sig,.string d.mo,.string d.da,.int .u8 d.m0,.int .u8 d.m1,.int .u8 d.m2,.int .u8 p,.int .i8 a,.int .i64 lo,.int .i8 b,.int .i64 hi]
def fam(k:Int)(v:Value)(d:Dt)(p a lo b hi:Int):Value:=.agg (lF k v d p a lo b hi).toArray
def z0:Dt:=⟨false,false,⟨#[]⟩,0,0,⟨#[]⟩,⟨#[]⟩,0,0,0⟩
theorem oD(a x b y:Int)(z:Bool)(hz:z=decide (a=b/\x=y)):X3 40 (ev a x) (ev b y) z:=by
 subst hz;unfold ev;refine⟨fun w=>?_,fun w=>?_⟩<;> · go_simp;(repeat' split)<;>simp_all
theorem lW(a lo b hi c l d h:Int)(z:Bool)(hz:z=decide (a=c/\lo=l/\b=d/\hi=h)):X3 42 (r4 a lo b hi) (r4 c l d h) z:=by
 subst hz;unfold r4;refine⟨fun w=>?_,fun w=>?_⟩<;> · go_simp;(repeat' split)<;>simp_all
end Sk
end
section
open Go.RowKit Go.Lib
namespace Sk
open Ev (bM DT LG eU aO hp tb0 aP kM vG kG iU mJ qF PD GL oN aU AV DW vH dS aB aC eF mD)
open Bk (Dt aV cvv)
def yh0:AV:=rK q8 (qi 13) q8 (qi 14)
def yh1:AV:=aU 1 .i64 [(qi 15),(qi 12)]
def yh2:AV:=.aK [(rK q8 (qi 15) q8 (qi 16)),qz]
def yh3:List AV:=[(qb 0),(qb 1),(qs 2),(qi 3),(qi 4)]
def yh4:AV:=aU 2 .i64 [yh1,(.v (.int .i64 1))]
def yh5:AV:=.aK [(rK q8 qz q8 qz),(.v (.int .i64 1))]
def sZ:List AV:=[(qb 0),(qb 1),(qs 2),(qi 3),(qi 4),(qs 5),(qs 6),(qu 7),(qu 8),(qu 9)]
def aOO:DT:=(.leaf qf)
theorem aI0(l:Value):aOO.ok tb0 l [] [(131,[.agg yh3],.v (.int .i64 6))] .nil 60 LG 106 [.agg sZ] []=true:=by kernel_rfl
theorem aTU(d:Dt) (w0:World) (H0:Same w0 131 #[(.agg #[(.bool d.neg),(.bool d.long),(.string d.dg),(.int .i64 d.ex),(.int .i64 d.sig)])] (.int .i64 6)):Same w0 106 #[(aV d)] (.bool false):=
 aB (aI0 (lv (dL d) [])) (aP w0) (kM w0) .nil (.cons H0 .nil) (aC (by kernel_rfl)) (by kernel_rfl)
def aON:DT:=(.node 1 qz (qi 4) (.node 2 (qs 5) (.v (.string ⟨#[]⟩)) (.leaf qt) (.leaf qf)) (.leaf qt))
theorem aIZ(l:Value):aON.ok tb0 l [] [(131,[.agg yh3],qz),(105,[.agg sZ],.aK [qz,qf])] .nil 60 LG 106 [.agg sZ] []=true:=by kernel_rfl
theorem aTT(d:Dt) (w0:World) (H0:Same w0 131 #[(.agg #[(.bool d.neg),(.bool d.long),(.string d.dg),(.int .i64 d.ex),(.int .i64 d.sig)])] (.int .i64 0))(H1:Same w0 105 #[(aV d)] (.tuple #[(.int .i64 0),(.bool false)])):Same w0 106 #[(aV d)] (cond (decide (0<d.sig)) (cond (d.mo.toList==(⟨#[]⟩:ByteArray).toList) (.bool true) (.bool false)) (.bool true)):=
 aB (aIZ (lv (dL d) [])) (aP w0) (kM w0) .nil (.cons H0 (.cons H1 .nil)) (aC (by kernel_rfl)) (by kernel_rfl)
def aOM:DT:=(.node 1 qz (qi 4) (.node 2 (qs 5) (.v (.string ⟨#[]⟩)) (.leaf qt) (.leaf qf)) (.leaf qt))
theorem aIY(l:Value):aOM.ok tb0 l [] [(131,[.agg yh3],qz),(105,[.agg sZ],.aK [(qi 10),qt]),(132,[.agg yh3],qt)] .nil 60 LG 106 [.agg sZ] []=true:=by kernel_rfl
theorem aTS(d:Dt)(code:Int)(w0:World) (H0:Same w0 131 #[(.agg #[(.bool d.neg),(.bool d.long),(.string d.dg),(.int .i64 d.ex),(.int .i64 d.sig)])] (.int .i64 0))(H1:Same w0 105 #[(aV d)] (.tuple #[(.int .i64 code),(.bool true)]))(H2:Same w0 132 #[(.agg #[(.bool d.neg),(.bool d.long),(.string d.dg),(.int .i64 d.ex),(.int .i64 d.sig)])] (.bool true)):Same w0 106 #[(aV d)] (cond (decide (0<d.sig)) (cond (d.mo.toList==(⟨#[]⟩:ByteArray).toList) (.bool true) (.bool false)) (.bool true)):=
 aB (aIY (lv (dL d) [.int .i64 code])) (aP w0) (kM w0) .nil (.cons H0 (.cons H1 (.cons H2 .nil))) (aC (by kernel_rfl)) (by kernel_rfl)
def aOL:DT:=(.node 1 qz (qi 4) (.node 2 (qs 5) (.v (.string ⟨#[]⟩)) (.node 0 (qi 12) qz (.leaf qt) (.leaf qf)) (.leaf qf)) (.node 0 (qi 12) qz (.leaf qt) (.leaf qf)))
theorem aIX(l:Value):aOL.ok tb0 l [] [(131,[.agg yh3],qz),(105,[.agg sZ],.aK [(qi 10),qt]),(132,[.agg yh3],qf),(133,[.agg yh3],.aK [(qi 11),qz]),(134,[(qi 11),(qi 10)],.aK [rK (qe 13) (qi 14) (qe 15) (qi 16),(qi 12)])] .nil 60 LG 106 [.agg sZ] []=true:=by kernel_rfl
theorem aPm(d:Dt)(code:Int)(v:Int)(e:Int)(ra:Int)(rl:Int)(rb:Int)(rh:Int)(w0:World) (H0:Same w0 131 #[(.agg #[(.bool d.neg),(.bool d.long),(.string d.dg),(.int .i64 d.ex),(.int .i64 d.sig)])] (.int .i64 0))(H1:Same w0 105 #[(aV d)] (.tuple #[(.int .i64 code),(.bool true)]))(H2:Same w0 132 #[(.agg #[(.bool d.neg),(.bool d.long),(.string d.dg),(.int .i64 d.ex),(.int .i64 d.sig)])] (.bool false))(H3:Same w0 133 #[(.agg #[(.bool d.neg),(.bool d.long),(.string d.dg),(.int .i64 d.ex),(.int .i64 d.sig)])] (.tuple #[(.int .i64 v),(.int .i64 0)]))(H4:Same w0 134 #[(.int .i64 v),(.int .i64 code)] (.tuple #[(r4 ra rl rb rh),(.int .i64 e)])):Same w0 106 #[(aV d)] (cond (decide (0<d.sig)) (cond (d.mo.toList==(⟨#[]⟩:ByteArray).toList) (cond (e==0) (.bool true) (.bool false)) (.bool false)) (cond (e==0) (.bool true) (.bool false))):=
 aB (aIX (lv (dL d) [.int .i64 code,.int .i64 v,.int .i64 e,.int .i8 ra,.int .i64 rl,.int .i8 rb,.int .i64 rh])) (aP w0) (kM w0) .nil (.cons H0 (.cons H1 (.cons H2 (.cons H3 (.cons H4 .nil))))) (aC (by kernel_rfl)) (by kernel_rfl)
def aHl:DT:=(.node 3 (qb 13) (qb 13) (.node 3 (qb 14) (qb 14) (.node 2 (qs 5) (.v (.string ⟨#[]⟩)) (.node 2 (qs 6) (.v (.string ⟨#[]⟩)) (.leaf (qi 12)) (.leaf (.v (.int .i64 8)))) (.node 2 (qs 6) (.v (.string ⟨#[]⟩)) (.leaf (qi 12)) (.leaf (.v (.int .i64 8))))) (.leaf (.v (.int .i64 6)))) (.node 3 (qb 14) (qb 14) (.node 2 (qs 5) (.v (.string ⟨#[]⟩)) (.node 2 (qs 6) (.v (.string ⟨#[]⟩)) (.leaf (qi 12)) (.leaf (.v (.int .i64 8)))) (.node 3 (qb 15) (qb 15) (.node 2 (qs 6) (.v (.string ⟨#[]⟩)) (.leaf (qi 12)) (.node 3 (qb 16) (qb 16) (.leaf (qi 12)) (.leaf (.v (.int .i64 8))))) (.leaf (.v (.int .i64 7))))) (.leaf (.v (.int .i64 6)))))
theorem aCx(l:Value):aHl.ok tb0 l [] [(105,[.agg sZ],.aK [(qi 10),(qb 13)]),(106,[.agg sZ],(qb 14)),(107,[(qs 5),.v (.int .i64 12)],(qb 15)),(107,[(qs 6),.v (.int .i64 31)],(qb 16)),(109,[.agg sZ],(qi 11)),(108,[.agg [(qu 7),(qu 8),(qu 9)],(qi 11)],(qi 12))] .nil 60 LG 81 [.agg sZ] []=true:=by kernel_rfl
theorem aMz(d:Dt)(code:Int)(n:Int)(e:Int)(se:Bool)(yo:Bool)(g:Bool)(h:Bool)(w0:World) (H0:Same w0 105 #[(aV d)] (.tuple #[(.int .i64 code),(.bool se)]))(H1:Same w0 106 #[(aV d)] (.bool yo))(H2:Same w0 107 #[(.string d.mo),(.int .i64 12)] (.bool g))(H3:Same w0 107 #[(.string d.da),(.int .i64 31)] (.bool h))(H4:Same w0 109 #[(aV d)] (.int .i64 n))(H5:Same w0 108 #[(.agg #[(.int .u8 d.m0),(.int .u8 d.m1),(.int .u8 d.m2)]),(.int .i64 n)] (.int .i64 e)):Same w0 81 #[(aV d)] (cond se (cond yo (cond (d.mo.toList==(⟨#[]⟩:ByteArray).toList) (cond (d.da.toList==(⟨#[]⟩:ByteArray).toList) (.int .i64 e) (.int .i64 8)) (cond (d.da.toList==(⟨#[]⟩:ByteArray).toList) (.int .i64 e) (.int .i64 8))) (.int .i64 6)) (cond yo (cond (d.mo.toList==(⟨#[]⟩:ByteArray).toList) (cond (d.da.toList==(⟨#[]⟩:ByteArray).toList) (.int .i64 e) (.int .i64 8)) (cond g (cond (d.da.toList==(⟨#[]⟩:ByteArray).toList) (.int .i64 e) (cond h (.int .i64 e) (.int .i64 8))) (.int .i64 7))) (.int .i64 6))):=
 aB (aCx (lv (dL d) [.int .i64 code,.int .i64 n,.int .i64 e,.bool se,.bool yo,.bool g,.bool h])) (aP w0) (kM w0) .nil (.cons H0 (.cons H1 (.cons H2 (.cons H3 (.cons H4 (.cons H5 .nil)))))) (aC (by kernel_rfl)) (by kernel_rfl)
def aHj:DT:=(.node 1 (.v (.int .u8 3)) (qu 0) (.leaf (.v (.int .i64 9))) (.node 1 (.v (.int .u8 3)) (qu 1) (.leaf (.v (.int .i64 9))) (.node 0 (qu 1) (.v (.int .u8 0)) (.node 1 (.v (.int .u8 3)) (qu 2) (.leaf (.v (.int .i64 9))) (.node 0 (qu 2) (.v (.int .u8 0)) (.leaf qz) (.leaf (.v (.int .i64 9))))) (.leaf (.v (.int .i64 9))))))
theorem aCv(l:Value):aHj.ok tb0 l [] [] .nil 60 LG 108 [.agg [(qu 0),(qu 1),(qu 2)],.v (.int .i64 1)] []=true:=by kernel_rfl
theorem aMx (a:Int)(b:Int)(c:Int)(w0:World)  :Same w0 108 #[(.agg #[(.int .u8 a),(.int .u8 b),(.int .u8 c)]),(.int .i64 1)] (cond (decide (3<a)) (.int .i64 9) (cond (decide (3<b)) (.int .i64 9) (cond (b==0) (cond (decide (3<c)) (.int .i64 9) (cond (c==0) (.int .i64 0) (.int .i64 9))) (.int .i64 9)))):=
 aB (aCv (.agg #[.int .u8 a,.int .u8 b,.int .u8 c])) (aP w0) (kM w0) .nil .nil (aC (by kernel_rfl)) (by kernel_rfl)
def aHi:DT:=(.node 1 (.v (.int .u8 3)) (qu 0) (.leaf (.v (.int .i64 9))) (.node 1 (.v (.int .u8 3)) (qu 1) (.leaf (.v (.int .i64 9))) (.node 1 (.v (.int .u8 3)) (qu 2) (.leaf (.v (.int .i64 9))) (.node 0 (qu 2) (.v (.int .u8 0)) (.leaf qz) (.leaf (.v (.int .i64 9)))))))
theorem aCu(l:Value):aHi.ok tb0 l [] [] .nil 60 LG 108 [.agg [(qu 0),(qu 1),(qu 2)],.v (.int .i64 2)] []=true:=by kernel_rfl
theorem aMw (a:Int)(b:Int)(c:Int)(w0:World)  :Same w0 108 #[(.agg #[(.int .u8 a),(.int .u8 b),(.int .u8 c)]),(.int .i64 2)] (cond (decide (3<a)) (.int .i64 9) (cond (decide (3<b)) (.int .i64 9) (cond (decide (3<c)) (.int .i64 9) (cond (c==0) (.int .i64 0) (.int .i64 9))))):=
 aB (aCu (.agg #[.int .u8 a,.int .u8 b,.int .u8 c])) (aP w0) (kM w0) .nil .nil (aC (by kernel_rfl)) (by kernel_rfl)
def aHh:DT:=(.node 1 (.v (.int .u8 3)) (qu 0) (.leaf (.v (.int .i64 9))) (.node 1 (.v (.int .u8 3)) (qu 1) (.leaf (.v (.int .i64 9))) (.node 1 (.v (.int .u8 3)) (qu 2) (.leaf (.v (.int .i64 9))) (.leaf qz))))
theorem aCt(l:Value):aHh.ok tb0 l [] [] .nil 60 LG 108 [.agg [(qu 0),(qu 1),(qu 2)],.v (.int .i64 3)] []=true:=by kernel_rfl
theorem aMv (a:Int)(b:Int)(c:Int)(w0:World)  :Same w0 108 #[(.agg #[(.int .u8 a),(.int .u8 b),(.int .u8 c)]),(.int .i64 3)] (cond (decide (3<a)) (.int .i64 9) (cond (decide (3<b)) (.int .i64 9) (cond (decide (3<c)) (.int .i64 9) (.int .i64 0)))):=
 aB (aCt (.agg #[.int .u8 a,.int .u8 b,.int .u8 c])) (aP w0) (kM w0) .nil .nil (aC (by kernel_rfl)) (by kernel_rfl)
def aDp:DT:=(.node 1 (.v (.int .u8 3)) (qu 0) (.leaf (.v (.int .i64 9))) (.node 1 (.v (.int .u8 3)) (qu 1) (.leaf (.v (.int .i64 9))) (.node 1 (.v (.int .u8 0)) (qu 1) (.leaf (.v (.int .i64 9))) (.node 1 (.v (.int .u8 3)) (qu 2) (.leaf (.v (.int .i64 9))) (.node 1 (.v (.int .u8 0)) (qu 2) (.leaf (.v (.int .i64 9))) (.leaf qz))))))
theorem ZW(l:Value):aDp.ok tb0 l [] [] .nil 60 LG 96 [.agg [(qu 0),(qu 1),(qu 2)],.v (.int .i64 1)] []=true:=by kernel_rfl
theorem aHN (a:Int)(b:Int)(c:Int)(w0:World)  :Same w0 96 #[(.agg #[(.int .u8 a),(.int .u8 b),(.int .u8 c)]),(.int .i64 1)] (cond (decide (3<a)) (.int .i64 9) (cond (decide (3<b)) (.int .i64 9) (cond (decide (0<b)) (.int .i64 9) (cond (decide (3<c)) (.int .i64 9) (cond (decide (0<c)) (.int .i64 9) (.int .i64 0)))))):=
 aB (ZW (.agg #[.int .u8 a,.int .u8 b,.int .u8 c])) (aP w0) (kM w0) .nil .nil (aC (by kernel_rfl)) (by kernel_rfl)
def aDo:DT:=(.node 1 (.v (.int .u8 3)) (qu 0) (.leaf (.v (.int .i64 9))) (.node 1 (.v (.int .u8 3)) (qu 1) (.leaf (.v (.int .i64 9))) (.node 1 (.v (.int .u8 3)) (qu 2) (.leaf (.v (.int .i64 9))) (.node 1 (.v (.int .u8 0)) (qu 2) (.leaf (.v (.int .i64 9))) (.leaf qz)))))
theorem ZV(l:Value):aDo.ok tb0 l [] [] .nil 60 LG 96 [.agg [(qu 0),(qu 1),(qu 2)],.v (.int .i64 2)] []=true:=by kernel_rfl
theorem aHM (a:Int)(b:Int)(c:Int)(w0:World)  :Same w0 96 #[(.agg #[(.int .u8 a),(.int .u8 b),(.int .u8 c)]),(.int .i64 2)] (cond (decide (3<a)) (.int .i64 9) (cond (decide (3<b)) (.int .i64 9) (cond (decide (3<c)) (.int .i64 9) (cond (decide (0<c)) (.int .i64 9) (.int .i64 0))))):=
 aB (ZV (.agg #[.int .u8 a,.int .u8 b,.int .u8 c])) (aP w0) (kM w0) .nil .nil (aC (by kernel_rfl)) (by kernel_rfl)
def aDn:DT:=(.node 1 (.v (.int .u8 3)) (qu 0) (.leaf (.v (.int .i64 9))) (.node 1 (.v (.int .u8 3)) (qu 1) (.leaf (.v (.int .i64 9))) (.node 1 (.v (.int .u8 3)) (qu 2) (.leaf (.v (.int .i64 9))) (.leaf qz))))
theorem ZU(l:Value):aDn.ok tb0 l [] [] .nil 60 LG 96 [.agg [(qu 0),(qu 1),(qu 2)],.v (.int .i64 3)] []=true:=by kernel_rfl
theorem aHL (a:Int)(b:Int)(c:Int)(w0:World)  :Same w0 96 #[(.agg #[(.int .u8 a),(.int .u8 b),(.int .u8 c)]),(.int .i64 3)] (cond (decide (3<a)) (.int .i64 9) (cond (decide (3<b)) (.int .i64 9) (cond (decide (3<c)) (.int .i64 9) (.int .i64 0)))):=
 aB (ZU (.agg #[.int .u8 a,.int .u8 b,.int .u8 c])) (aP w0) (kM w0) .nil .nil (aC (by kernel_rfl)) (by kernel_rfl)
def aHg:DT:=(.node 2 (qs 5) (.v (.string ⟨#[]⟩)) (.node 2 (qs 6) (.v (.string ⟨#[]⟩)) (.leaf (.v (.int .i64 1))) (.leaf (.v (.int .i64 2)))) (.node 2 (qs 6) (.v (.string ⟨#[]⟩)) (.leaf (.v (.int .i64 2))) (.leaf (.v (.int .i64 3)))))
theorem aCs(l:Value):aHg.ok tb0 l [] [] .nil 60 LG 37 [.agg sZ] []=true:=by kernel_rfl
theorem aMu(d:Dt) (w0:World)  :Same w0 37 #[(aV d)] (cond (d.mo.toList==(⟨#[]⟩:ByteArray).toList) (cond (d.da.toList==(⟨#[]⟩:ByteArray).toList) (.int .i64 1) (.int .i64 2)) (cond (d.da.toList==(⟨#[]⟩:ByteArray).toList) (.int .i64 2) (.int .i64 3))):=
 aB (aCs (lv (dL d) [])) (aP w0) (kM w0) .nil .nil (aC (by kernel_rfl)) (by kernel_rfl)
def aLL:DT:=(.node 2 (qs 5) (.v (.string ⟨#[]⟩)) (.node 2 (qs 6) (.v (.string ⟨#[]⟩)) (.leaf (.v (.int .i64 1))) (.leaf (.v (.int .i64 2)))) (.node 2 (qs 6) (.v (.string ⟨#[]⟩)) (.leaf (.v (.int .i64 2))) (.leaf (.v (.int .i64 3)))))
theorem aFW(l:Value):aLL.ok tb0 l [] [] .nil 60 LG 109 [.agg sZ] []=true:=by kernel_rfl
theorem aQC(d:Dt) (w0:World)  :Same w0 109 #[(aV d)] (cond (d.mo.toList==(⟨#[]⟩:ByteArray).toList) (cond (d.da.toList==(⟨#[]⟩:ByteArray).toList) (.int .i64 1) (.int .i64 2)) (cond (d.da.toList==(⟨#[]⟩:ByteArray).toList) (.int .i64 2) (.int .i64 3))):=
 aB (aFW (lv (dL d) [])) (aP w0) (kM w0) .nil .nil (aC (by kernel_rfl)) (by kernel_rfl)
def aLx:DT:=(.leaf (.aK [(rK q8 (qi 12) q8 (qi 13)),qz]))
theorem aFI(l:Value):aLx.ok tb0 l [] [(141,[(qi 9)],.aK [(qi 12),(qi 13),qz])] .nil 60 LG 295 [.agg [(qb 0),(qb 1),(qs 2),(qi 3),(qi 4),.v (.string ⟨#[]⟩),(qs 5),(qu 6),(qu 7),(qu 8)],.agg [(qi 9),(qi 10),(qi 11)]] []=true:=by kernel_rfl
theorem aQo(d:Dt)(y:Int)(m:Int)(k:Int)(s:Int)(t:Int)(w0:World) (H0:Same w0 141 #[(.int .i64 y)] (.tuple #[(.int .i64 s),(.int .i64 t),(.int .i64 0)])):Same w0 295 #[(.agg #[(.bool d.neg),(.bool d.long),(.string d.dg),(.int .i64 d.ex),(.int .i64 d.sig),(.string ⟨#[]⟩),(.string d.da),(.int .u8 d.m0),(.int .u8 d.m1),(.int .u8 d.m2)]),(cvv y m k)] (.tuple #[(r4 0 s 0 t),(.int .i64 0)]):=
 aB (aFI (.agg #[.bool d.neg,.bool d.long,.string d.dg,.int .i64 d.ex,.int .i64 d.sig,.string d.da,.int .u8 d.m0,.int .u8 d.m1,.int .u8 d.m2,.int .i64 y,.int .i64 m,.int .i64 k,.int .i64 s,.int .i64 t])) (aP w0) (kM w0) .nil (.cons H0 .nil) (aC (by kernel_rfl)) (by kernel_rfl)
def aLw:DT:=(.node 2 (qs 5) (.v (.string ⟨#[]⟩)) (.leaf (.aK [yh0,qz])) (.node 1 (.v (.int .i64 12)) (qi 11) (.leaf yh2) DT.no))
theorem aFH(l:Value):aLw.ok tb0 l [] [(141,[(qi 10)],.aK [(qi 13),(qi 14),qz]),(134,[(qi 10),(qi 11)],.aK [rK q8 (qi 15) q8 (qi 16),qz])] .nil 60 LG 295 [.agg sZ,.agg [(qi 10),(qi 11),(qi 12)]] []=true:=by kernel_rfl
theorem aQn(d:Dt)(y:Int)(m:Int)(k:Int)(s:Int)(t:Int)(u:Int)(v:Int)(w0:World)(hm:13<=m)(H0:Same w0 141 #[(.int .i64 y)] (.tuple #[(.int .i64 s),(.int .i64 t),(.int .i64 0)]))(H1:Same w0 134 #[(.int .i64 y),(.int .i64 m)] (.tuple #[(r4 0 u 0 v),(.int .i64 0)])):Same w0 295 #[(aV d),(cvv y m k)] (cond (d.mo.toList==(⟨#[]⟩:ByteArray).toList) (.tuple #[(r4 0 s 0 t),(.int .i64 0)]) (cond (decide (12<m)) (.tuple #[(r4 0 u 0 v),(.int .i64 0)]) (.bool false))):=
 aB (aFH (lv (dL d) [.int .i64 y,.int .i64 m,.int .i64 k,.int .i64 s,.int .i64 t,.int .i64 u,.int .i64 v])) (aP w0) (kM w0) .nil (.cons H0 (.cons H1 .nil)) (eF (by kernel_rfl:_=((((d.mo.toList==(⟨#[]⟩:ByteArray).toList)=true->True)/\((d.mo.toList==(⟨#[]⟩:ByteArray).toList)=false->(((decide (12<m))=true->True)/\((decide (12<m))=false->False)))))) (⟨fun h0=>trivial,fun h0=>⟨fun h1=>trivial,fun h1=>(by simp only[aGw,aBA,aDE,aDG]at *;omega)⟩⟩)) (by kernel_rfl)
def aLv:DT:=(.node 2 (qs 5) (.v (.string ⟨#[]⟩)) (.leaf (.aK [yh0,qz])) (.node 1 (.v (.int .i64 12)) (qi 11) DT.no (.node 2 (qs 6) (.v (.string ⟨#[]⟩)) (.leaf yh2) (.leaf (.aK [(.agg [q8,yh4,q8,yh4]),qz])))))
theorem aFG(l:Value):aLv.ok tb0 l [] [(141,[(qi 10)],.aK [(qi 13),(qi 14),qz]),(144,[aU 2 .i64 [aU 1 .i64 [aU 3 .i64 [.v (.int .i64 12),(qi 10)],(qi 11)],.v (.int .i64 1)]],.aK [(qi 15),(qi 16),qz])] .nil 60 LG 295 [.agg sZ,.agg [(qi 10),(qi 11),(qi 12)]] []=true:=by kernel_rfl
theorem aQm(d:Dt)(y:Int)(m:Int)(k:Int)(s:Int)(t:Int)(u:Int)(v:Int)(w0:World)(hm:1<=m)(hn:m<=12)(H0:Same w0 141 #[(.int .i64 y)] (.tuple #[(.int .i64 s),(.int .i64 t),(.int .i64 0)]))(H1:Same w0 144 #[(.int .i64 (IntKind.i64.wrap ((IntKind.i64.wrap ((IntKind.i64.wrap (12 * y))+m)) - 1)))] (.tuple #[(.int .i64 u),(.int .i64 v),(.int .i64 0)])):Same w0 295 #[(aV d),(cvv y m k)] (cond (d.mo.toList==(⟨#[]⟩:ByteArray).toList) (.tuple #[(r4 0 s 0 t),(.int .i64 0)]) (cond (decide (12<m)) (.bool false) (cond (d.da.toList==(⟨#[]⟩:ByteArray).toList) (.tuple #[(r4 0 u 0 v),(.int .i64 0)]) (.tuple #[(.agg #[(.int .i8 0),(.int .i64 (IntKind.i64.wrap ((IntKind.i64.wrap (u+k)) - 1))),(.int .i8 0),(.int .i64 (IntKind.i64.wrap ((IntKind.i64.wrap (u+k)) - 1)))]),(.int .i64 0)])))):=
 aB (aFG (lv (dL d) [.int .i64 y,.int .i64 m,.int .i64 k,.int .i64 s,.int .i64 t,.int .i64 u,.int .i64 v])) (aP w0) (kM w0) .nil (.cons H0 (.cons H1 .nil)) (eF (by kernel_rfl:_=((((d.mo.toList==(⟨#[]⟩:ByteArray).toList)=true->True)/\((d.mo.toList==(⟨#[]⟩:ByteArray).toList)=false->(((decide (12<m))=true->False)/\((decide (12<m))=false->(((d.da.toList==(⟨#[]⟩:ByteArray).toList)=true->True)/\((d.da.toList==(⟨#[]⟩:ByteArray).toList)=false->True)))))))) (⟨fun h0=>trivial,fun h0=>⟨fun h1=>(by simp only[aGw,aBA,aDE,aDG]at *;omega),fun h1=>⟨fun h2=>trivial,fun h2=>trivial⟩⟩⟩)) (by kernel_rfl)
def aDu:DT:=(.node 0 (qi 13) qz DT.no (.leaf (.aK [(rK q8 qz q8 qz),(qi 13)])))
theorem Z7(l:Value):aDu.ok tb0 l [] [(51,[.agg sZ],(qi 13))] .nil 60 LG 290 [.agg sZ,.agg [(qi 10),(qi 11),(qi 12)]] []=true:=by kernel_rfl
theorem aHS(d:Dt)(y:Int)(m:Int)(k:Int)(e:Int)(w0:World)(he:e≠0)(H0:Same w0 51 #[(aV d)] (.int .i64 e)):Same w0 290 #[(aV d),(cvv y m k)] (cond (e==0) (.bool false) (.tuple #[(r4 0 0 0 0),(.int .i64 e)])):=
 aB (Z7 (lv (dL d) [.int .i64 y,.int .i64 m,.int .i64 k,.int .i64 e])) (aP w0) (kM w0) .nil (.cons H0 .nil) (eF (by kernel_rfl:_=((((e==0)=true->False)/\((e==0)=false->True)))) (⟨fun h0=>(by simp only[aGw,aBA,aDE,aDG]at *;omega),fun h0=>trivial⟩)) (by kernel_rfl)
def aDt:DT:=(.node 1 qz (qi 4) (.leaf yh5) (.leaf yh5))
theorem Z5(l:Value):aDt.ok tb0 l [] [(51,[.agg sZ],qz),(294,[.agg sZ,.agg [(qi 10),(qi 11),(qi 12)]],qf)] .nil 60 LG 290 [.agg sZ,.agg [(qi 10),(qi 11),(qi 12)]] []=true:=by kernel_rfl
theorem aHR(d:Dt)(y:Int)(m:Int)(k:Int)(w0:World) (H0:Same w0 51 #[(aV d)] (.int .i64 0))(H1:Same w0 294 #[(aV d),(cvv y m k)] (.bool false)):Same w0 290 #[(aV d),(cvv y m k)] (cond (decide (0<d.sig)) (.tuple #[(r4 0 0 0 0),(.int .i64 1)]) (.tuple #[(r4 0 0 0 0),(.int .i64 1)])):=
 aB (Z5 (lv (dL d) [.int .i64 y,.int .i64 m,.int .i64 k])) (aP w0) (kM w0) .nil (.cons H0 (.cons H1 .nil)) (aC (by kernel_rfl)) (by kernel_rfl)
def aDs:DT:=(.node 1 qz (qi 4) (.leaf yh5) (.leaf (.aK [yh0,qz])))
theorem Z4(l:Value):aDs.ok tb0 l [] [(51,[.agg sZ],qz),(294,[.agg sZ,.agg [(qi 10),(qi 11),(qi 12)]],qt),(295,[.agg sZ,.agg [(qi 10),(qi 11),(qi 12)]],.aK [rK q8 (qi 13) q8 (qi 14),qz])] .nil 60 LG 290 [.agg sZ,.agg [(qi 10),(qi 11),(qi 12)]] []=true:=by kernel_rfl
theorem aHQ(d:Dt)(y:Int)(m:Int)(k:Int)(u:Int)(v:Int)(w0:World) (H0:Same w0 51 #[(aV d)] (.int .i64 0))(H1:Same w0 294 #[(aV d),(cvv y m k)] (.bool true))(H2:Same w0 295 #[(aV d),(cvv y m k)] (.tuple #[(r4 0 u 0 v),(.int .i64 0)])):Same w0 290 #[(aV d),(cvv y m k)] (cond (decide (0<d.sig)) (.tuple #[(r4 0 0 0 0),(.int .i64 1)]) (.tuple #[(r4 0 u 0 v),(.int .i64 0)])):=
 aB (Z4 (lv (dL d) [.int .i64 y,.int .i64 m,.int .i64 k,.int .i64 u,.int .i64 v])) (aP w0) (kM w0) .nil (.cons H0 (.cons H1 (.cons H2 .nil))) (aC (by kernel_rfl)) (by kernel_rfl)
def aLG:DT:=(.node 0 (qi 10) qz DT.no (.leaf (.aK [(.v (.int .u8 0)),(qi 10)])))
theorem aFR(l:Value):aLG.ok tb0 l [] [(51,[.agg sZ],(qi 10))] .nil 60 LG 288 [.agg sZ] []=true:=by kernel_rfl
theorem aQx(d:Dt)(e:Int)(w0:World)(he:e≠0)(H0:Same w0 51 #[(aV d)] (.int .i64 e)):Same w0 288 #[(aV d)] (cond (e==0) (.bool false) (.tuple #[(.int .u8 0),(.int .i64 e)])):=
 aB (aFR (lv (dL d) [.int .i64 e])) (aP w0) (kM w0) .nil (.cons H0 .nil) (eF (by kernel_rfl:_=((((e==0)=true->False)/\((e==0)=false->True)))) (⟨fun h0=>(by simp only[aGw,aBA,aDE,aDG]at *;omega),fun h0=>trivial⟩)) (by kernel_rfl)
def aLF:DT:=(.node 2 (qs 6) (.v (.string ⟨#[]⟩)) (.node 2 (qs 5) (.v (.string ⟨#[]⟩)) (.leaf (.aK [(.v (.int .u8 1)),qz])) (.leaf (.aK [(.v (.int .u8 2)),qz]))) (.leaf (.aK [(.v (.int .u8 3)),qz])))
theorem aFQ(l:Value):aLF.ok tb0 l [] [(51,[.agg sZ],qz),(84,[(qs 5),.v (.string ⟨#[88]⟩)],qt)] .nil 60 LG 288 [.agg sZ] []=true:=by kernel_rfl
theorem aQw(d:Dt) (w0:World) (H0:Same w0 51 #[(aV d)] (.int .i64 0))(H1:Same w0 84 #[(.string d.mo),(.string ⟨#[88]⟩)] (.bool true)):Same w0 288 #[(aV d)] (cond (d.da.toList==(⟨#[]⟩:ByteArray).toList) (cond (d.mo.toList==(⟨#[]⟩:ByteArray).toList) (.tuple #[(.int .u8 1),(.int .i64 0)]) (.tuple #[(.int .u8 2),(.int .i64 0)])) (.tuple #[(.int .u8 3),(.int .i64 0)])):=
 aB (aFQ (lv (dL d) [])) (aP w0) (kM w0) .nil (.cons H0 (.cons H1 .nil)) (aC (by kernel_rfl)) (by kernel_rfl)
def aLE:DT:=(.node 2 (qs 6) (.v (.string ⟨#[]⟩)) (.node 2 (qs 5) (.v (.string ⟨#[]⟩)) (.leaf (.aK [(.v (.int .u8 1)),qz])) (.node 1 (.v (.int .i64 12)) (qi 10) (.leaf (.aK [(.v (.int .u8 0)),qz])) (.leaf (.aK [(.v (.int .u8 2)),qz])))) (.leaf (.aK [(.v (.int .u8 3)),qz])))
theorem aFP(l:Value):aLE.ok tb0 l [] [(51,[.agg sZ],qz),(84,[(qs 5),.v (.string ⟨#[88]⟩)],qf),(293,[(qs 5)],(qi 10))] .nil 60 LG 288 [.agg sZ] []=true:=by kernel_rfl
theorem aQv(d:Dt)(n:Int)(w0:World) (H0:Same w0 51 #[(aV d)] (.int .i64 0))(H1:Same w0 84 #[(.string d.mo),(.string ⟨#[88]⟩)] (.bool false))(H2:Same w0 293 #[(.string d.mo)] (.int .i64 n)):Same w0 288 #[(aV d)] (cond (d.da.toList==(⟨#[]⟩:ByteArray).toList) (cond (d.mo.toList==(⟨#[]⟩:ByteArray).toList) (.tuple #[(.int .u8 1),(.int .i64 0)]) (cond (decide (12<n)) (.tuple #[(.int .u8 0),(.int .i64 0)]) (.tuple #[(.int .u8 2),(.int .i64 0)]))) (.tuple #[(.int .u8 3),(.int .i64 0)])):=
 aB (aFP (lv (dL d) [.int .i64 n])) (aP w0) (kM w0) .nil (.cons H0 (.cons H1 (.cons H2 .nil))) (aC (by kernel_rfl)) (by kernel_rfl)
def aHc:DT:=(.leaf qz)
theorem aCo(l:Value):aHc.ok tb0 l [] [(60,[.agg yh3],qz)] .nil 60 LG 94 [.agg sZ] []=true:=by kernel_rfl
theorem aMq(d:Dt) (w0:World) (H0:Same w0 60 #[(.agg #[(.bool d.neg),(.bool d.long),(.string d.dg),(.int .i64 d.ex),(.int .i64 d.sig)])] (.int .i64 0)):Same w0 94 #[(aV d)] (.int .i64 0):=
 aB (aCo (lv (dL d) [])) (aP w0) (kM w0) .nil (.cons H0 .nil) (aC (by kernel_rfl)) (by kernel_rfl)
def aHb:DT:=(.node 1 qz (qi 4) (.node 2 (qs 5) (.v (.string ⟨#[]⟩)) (.node 0 (qi 10) (.v (.int .i64 24)) (.leaf (.v (.int .i64 1))) (.node 0 (qi 10) (.v (.int .i64 28)) (.leaf (.v (.int .i64 1))) (.node 0 (qi 10) (.v (.int .i64 30)) (.leaf (.v (.int .i64 1))) (.leaf (.v (.int .i64 1)))))) (.leaf qz)) (.node 0 (qi 10) (.v (.int .i64 24)) (.leaf (.v (.int .i64 1))) (.node 0 (qi 10) (.v (.int .i64 28)) (.leaf (.v (.int .i64 1))) (.node 0 (qi 10) (.v (.int .i64 30)) (.leaf (.v (.int .i64 1))) (.leaf (.v (.int .i64 1)))))))
theorem aCn(l:Value):aHb.ok tb0 l [] [(60,[.agg yh3],.v (.int .i64 1)),(35,[.agg sZ],(qi 10)),(122,[.agg yh3],.v (.int .i64 1))] .nil 60 LG 94 [.agg sZ] []=true:=by kernel_rfl
theorem aMp(d:Dt)(code:Int)(w0:World) (H0:Same w0 60 #[(.agg #[(.bool d.neg),(.bool d.long),(.string d.dg),(.int .i64 d.ex),(.int .i64 d.sig)])] (.int .i64 1))(H1:Same w0 35 #[(aV d)] (.int .i64 code))(H2:Same w0 122 #[(.agg #[(.bool d.neg),(.bool d.long),(.string d.dg),(.int .i64 d.ex),(.int .i64 d.sig)])] (.int .i64 1)):Same w0 94 #[(aV d)] (cond (decide (0<d.sig)) (cond (d.mo.toList==(⟨#[]⟩:ByteArray).toList) (cond (code==24) (.int .i64 1) (cond (code==28) (.int .i64 1) (cond (code==30) (.int .i64 1) (.int .i64 1)))) (.int .i64 0)) (cond (code==24) (.int .i64 1) (cond (code==28) (.int .i64 1) (cond (code==30) (.int .i64 1) (.int .i64 1))))):=
 aB (aCn (lv (dL d) [.int .i64 code])) (aP w0) (kM w0) .nil (.cons H0 (.cons H1 (.cons H2 .nil))) (aC (by kernel_rfl)) (by kernel_rfl)
def aHa:DT:=(.node 1 qz (qi 4) (.node 2 (qs 5) (.v (.string ⟨#[]⟩)) (.node 0 (qi 10) (.v (.int .i64 24)) (.node 0 (qi 11) (.v (.int .i64 10000000000000000)) (.node 3 (qb 0) (qb 0) (.leaf (.v (.int .i64 1))) (.leaf qz)) (.leaf (.v (.int .i64 1)))) (.node 0 (qi 10) (.v (.int .i64 28)) (.node 0 (qi 11) (.v (.int .i64 10000000000000000)) (.node 3 (qb 0) (qb 0) (.leaf (.v (.int .i64 1))) (.leaf qz)) (.leaf (.v (.int .i64 1)))) (.node 0 (qi 10) (.v (.int .i64 30)) (.node 0 (qi 11) (.v (.int .i64 10000000000000000)) (.node 3 (qb 0) (qb 0) (.leaf (.v (.int .i64 1))) (.leaf qz)) (.leaf (.v (.int .i64 1)))) (.leaf (.v (.int .i64 1)))))) (.leaf qz)) (.node 0 (qi 10) (.v (.int .i64 24)) (.node 0 (qi 11) (.v (.int .i64 10000000000000000)) (.node 3 (qb 0) (qb 0) (.leaf (.v (.int .i64 1))) (.leaf qz)) (.leaf (.v (.int .i64 1)))) (.node 0 (qi 10) (.v (.int .i64 28)) (.node 0 (qi 11) (.v (.int .i64 10000000000000000)) (.node 3 (qb 0) (qb 0) (.leaf (.v (.int .i64 1))) (.leaf qz)) (.leaf (.v (.int .i64 1)))) (.node 0 (qi 10) (.v (.int .i64 30)) (.node 0 (qi 11) (.v (.int .i64 10000000000000000)) (.node 3 (qb 0) (qb 0) (.leaf (.v (.int .i64 1))) (.leaf qz)) (.leaf (.v (.int .i64 1)))) (.leaf (.v (.int .i64 1)))))))
theorem aCm(l:Value):aHa.ok tb0 l [] [(60,[.agg yh3],.v (.int .i64 1)),(35,[.agg sZ],(qi 10)),(122,[.agg yh3],qz),(91,[(qs 2),(qi 3)],.aK [(qi 11),(qi 12)])] .nil 60 LG 94 [.agg sZ] []=true:=by kernel_rfl
theorem aMo(d:Dt)(code:Int)(v:Int)(x:Int)(w0:World) (H0:Same w0 60 #[(.agg #[(.bool d.neg),(.bool d.long),(.string d.dg),(.int .i64 d.ex),(.int .i64 d.sig)])] (.int .i64 1))(H1:Same w0 35 #[(aV d)] (.int .i64 code))(H2:Same w0 122 #[(.agg #[(.bool d.neg),(.bool d.long),(.string d.dg),(.int .i64 d.ex),(.int .i64 d.sig)])] (.int .i64 0))(H3:Same w0 91 #[(.string d.dg),(.int .i64 d.ex)] (.tuple #[(.int .i64 v),(.int .i64 x)])):Same w0 94 #[(aV d)] (cond (decide (0<d.sig)) (cond (d.mo.toList==(⟨#[]⟩:ByteArray).toList) (cond (code==24) (cond (v==10000000000000000) (cond d.neg (.int .i64 1) (.int .i64 0)) (.int .i64 1)) (cond (code==28) (cond (v==10000000000000000) (cond d.neg (.int .i64 1) (.int .i64 0)) (.int .i64 1)) (cond (code==30) (cond (v==10000000000000000) (cond d.neg (.int .i64 1) (.int .i64 0)) (.int .i64 1)) (.int .i64 1)))) (.int .i64 0)) (cond (code==24) (cond (v==10000000000000000) (cond d.neg (.int .i64 1) (.int .i64 0)) (.int .i64 1)) (cond (code==28) (cond (v==10000000000000000) (cond d.neg (.int .i64 1) (.int .i64 0)) (.int .i64 1)) (cond (code==30) (cond (v==10000000000000000) (cond d.neg (.int .i64 1) (.int .i64 0)) (.int .i64 1)) (.int .i64 1))))):=
 aB (aCm (lv (dL d) [.int .i64 code,.int .i64 v,.int .i64 x])) (aP w0) (kM w0) .nil (.cons H0 (.cons H1 (.cons H2 (.cons H3 .nil)))) (aC (by kernel_rfl)) (by kernel_rfl)
def aDr:DT:=(.node 0 (qi 10) qz (.leaf (.v (.int .i64 6))) (.node 2 (qs 5) (.v (.string ⟨#[]⟩)) (.node 2 (qs 6) (.v (.string ⟨#[]⟩)) (.leaf (qi 15)) (.leaf (.v (.int .i64 8)))) (.node 0 (qi 11) qz (.node 0 (qi 12) qz (.leaf (.v (.int .i64 7))) (.node 2 (qs 6) (.v (.string ⟨#[]⟩)) (.leaf (qi 15)) (.node 1 qz (qi 11) DT.no (.node 0 (qi 13) qz (.leaf (.v (.int .i64 8))) (.leaf (qi 15)))))) (.node 2 (qs 6) (.v (.string ⟨#[]⟩)) (.leaf (qi 15)) (.node 1 qz (qi 11) (.leaf (.v (.int .i64 8))) (.node 0 (qi 13) qz (.leaf (.v (.int .i64 8))) (.leaf (qi 15))))))))
theorem ZY(l:Value):aDr.ok tb0 l [] [(94,[.agg sZ],(qi 10)),(35,[.agg sZ],(qi 11)),(95,[(qs 5),.v (.int .i64 12)],(qi 12)),(95,[(qs 6),.v (.int .i64 31)],(qi 13)),(37,[.agg sZ],(qi 14)),(96,[.agg [(qu 7),(qu 8),(qu 9)],(qi 14)],(qi 15))] .nil 60 LG 71 [.agg sZ] []=true:=by kernel_rfl
theorem aHP(d:Dt)(yr:Int)(code:Int)(u:Int)(v:Int)(n:Int)(e:Int)(w0:World) (H0:Same w0 94 #[(aV d)] (.int .i64 yr))(H1:Same w0 35 #[(aV d)] (.int .i64 code))(H2:Same w0 95 #[(.string d.mo),(.int .i64 12)] (.int .i64 u))(H3:Same w0 95 #[(.string d.da),(.int .i64 31)] (.int .i64 v))(H4:Same w0 37 #[(aV d)] (.int .i64 n))(H5:Same w0 96 #[(.agg #[(.int .u8 d.m0),(.int .u8 d.m1),(.int .u8 d.m2)]),(.int .i64 n)] (.int .i64 e)):Same w0 71 #[(aV d)] (cond (yr==0) (.int .i64 6) (cond (d.mo.toList==(⟨#[]⟩:ByteArray).toList) (cond (d.da.toList==(⟨#[]⟩:ByteArray).toList) (.int .i64 e) (.int .i64 8)) (cond (code==0) (cond (u==0) (.int .i64 7) (cond (d.da.toList==(⟨#[]⟩:ByteArray).toList) (.int .i64 e) (cond (decide (0<code)) (.bool false) (cond (v==0) (.int .i64 8) (.int .i64 e))))) (cond (d.da.toList==(⟨#[]⟩:ByteArray).toList) (.int .i64 e) (cond (decide (0<code)) (.int .i64 8) (cond (v==0) (.int .i64 8) (.int .i64 e))))))):=
 aB (ZY (lv (dL d) [.int .i64 yr,.int .i64 code,.int .i64 u,.int .i64 v,.int .i64 n,.int .i64 e])) (aP w0) (kM w0) .nil (.cons H0 (.cons H1 (.cons H2 (.cons H3 (.cons H4 (.cons H5 .nil)))))) (eF (by kernel_rfl:_=((((yr==0)=true->True)/\((yr==0)=false->(((d.mo.toList==(⟨#[]⟩:ByteArray).toList)=true->(((d.da.toList==(⟨#[]⟩:ByteArray).toList)=true->True)/\((d.da.toList==(⟨#[]⟩:ByteArray).toList)=false->True)))/\((d.mo.toList==(⟨#[]⟩:ByteArray).toList)=false->(((code==0)=true->(((u==0)=true->True)/\((u==0)=false->(((d.da.toList==(⟨#[]⟩:ByteArray).toList)=true->True)/\((d.da.toList==(⟨#[]⟩:ByteArray).toList)=false->(((decide (0<code))=true->False)/\((decide (0<code))=false->(((v==0)=true->True)/\((v==0)=false->True)))))))))/\((code==0)=false->(((d.da.toList==(⟨#[]⟩:ByteArray).toList)=true->True)/\((d.da.toList==(⟨#[]⟩:ByteArray).toList)=false->(((decide (0<code))=true->True)/\((decide (0<code))=false->(((v==0)=true->True)/\((v==0)=false->True)))))))))))))) (⟨fun h0=>trivial,fun h0=>⟨fun h1=>⟨fun h2=>trivial,fun h2=>trivial⟩,fun h1=>⟨fun h2=>⟨fun h3=>trivial,fun h3=>⟨fun h4=>trivial,fun h4=>⟨fun h5=>(by simp only[aGw,aBA,aDE,aDG]at *;omega),fun h5=>⟨fun h6=>trivial,fun h6=>trivial⟩⟩⟩⟩,fun h2=>⟨fun h3=>trivial,fun h3=>⟨fun h4=>trivial,fun h4=>⟨fun h5=>trivial,fun h5=>trivial⟩⟩⟩⟩⟩⟩)) (by kernel_rfl)
end Sk
end
end Go.Proofs.YtacggmlngekidaaGreatDoor
namespace Go.Proofs
open Go.Shelf
def Tryz.aAr:Go.Shelf.Ren:=⟨fun|160=>153|232=>187|231=>186|227=>188|234=>190|233=>189|236=>192|235=>191|228=>212|271=>214|151=>185|197=>213|120=>228|152=>211|260=>227|137=>225|119=>226|224=>166|225=>165|217=>164|266=>202|n=>n,fun|9=>9|4=>4|3=>3|5=>5|117=>219|116=>218|0=>0|124=>222|21=>21|105=>245|46=>201|119=>267|139=>270|138=>269|n=>n,fun|3=>6|4=>7|n=>n⟩
theorem Tryz.lays160:Go.Proofs.Lays.n160 Tryz.prog Tryz.aAr:={
 mixed:=by kernel_rfl
 f119:=Tryz.func226.trans (congrArg some (by kernel_rfl))
 f120:=Tryz.func228.trans (congrArg some (by kernel_rfl))
 f137:=Tryz.func225.trans (congrArg some (by kernel_rfl))
 f151:=Tryz.func185.trans (congrArg some (by kernel_rfl))
 f152:=Tryz.func211.trans (congrArg some (by kernel_rfl))
 f160:=Tryz.func153.trans (congrArg some (by kernel_rfl))
 f197:=Tryz.func213.trans (congrArg some (by kernel_rfl))
 f217:=Tryz.func164.trans (congrArg some (by kernel_rfl))
 f224:=Tryz.func166.trans (congrArg some (by kernel_rfl))
 f225:=Tryz.func165.trans (congrArg some (by kernel_rfl))
 f227:=Tryz.func188.trans (congrArg some (by kernel_rfl))
 f228:=Tryz.func212.trans (congrArg some (by kernel_rfl))
 f231:=Tryz.func186.trans (congrArg some (by kernel_rfl))
 f232:=Tryz.func187.trans (congrArg some (by kernel_rfl))
 f233:=Tryz.func189.trans (congrArg some (by kernel_rfl))
 f234:=Tryz.func190.trans (congrArg some (by kernel_rfl))
 f235:=Tryz.func191.trans (congrArg some (by kernel_rfl))
 f236:=Tryz.func192.trans (congrArg some (by kernel_rfl))
 f260:=Tryz.func227.trans (congrArg some (by kernel_rfl))
 f266:=Tryz.func202.trans (congrArg some (by kernel_rfl))
 f271:=Tryz.func214.trans (congrArg some (by kernel_rfl))
 t0:=Tryz.underlying0
 a0:=Tryz.isAgg0
 z0:=Tryz.sizeOf0
 v0:=Tryz.zeroValue0
 t3:=Tryz.underlying3
 a3:=Tryz.isAgg3
 z3:=Tryz.sizeOf3
 v3:=Tryz.zeroValue3
 t4:=Tryz.underlying4
 a4:=Tryz.isAgg4
 z4:=Tryz.sizeOf4
 v4:=Tryz.zeroValue4
 t5:=Tryz.underlying5
 a5:=Tryz.isAgg5
 z5:=Tryz.sizeOf5
 v5:=Tryz.zeroValue5
 t9:=Tryz.underlying9
 a9:=Tryz.isAgg9
 z9:=Tryz.sizeOf9
 v9:=Tryz.zeroValue9
 t21:=Tryz.underlying21
 a21:=Tryz.isAgg21
 z21:=Tryz.sizeOf21
 v21:=Tryz.zeroValue21
 t46:=Tryz.underlying201
 a46:=Tryz.isAgg201
 z46:=Tryz.sizeOf201
 v46:=Tryz.zeroValue201
 t105:=Tryz.underlying245
 a105:=Tryz.isAgg245
 z105:=Tryz.sizeOf245
 v105:=Tryz.zeroValue245
 t116:=Tryz.underlying218
 a116:=Tryz.isAgg218
 z116:=Tryz.sizeOf218
 t117:=Tryz.underlying219
 a117:=Tryz.isAgg219
 z117:=Tryz.sizeOf219
 v117:=Tryz.zeroValue219
 t119:=Tryz.underlying267
 a119:=Tryz.isAgg267
 z119:=Tryz.sizeOf267
 t124:=Tryz.underlying222
 a124:=Tryz.isAgg222
 z124:=Tryz.sizeOf222
 v124:=Tryz.zeroValue222
 t138:=Tryz.underlying269
 a138:=Tryz.isAgg269
 z138:=Tryz.sizeOf269
 v138:=Tryz.zeroValue269
 t139:=Tryz.underlying270
 a139:=Tryz.isAgg270
 z139:=Tryz.sizeOf270
 v139:=Tryz.zeroValue270
 g3:=by kernel_rfl
 g4:=by kernel_rfl }
open Go.RowKit in
theorem Tryz.strings_Trim_one(s:ByteArray)(c:UInt8)(hc:c.toNat<128)(w:World)(hs:s.size<=9223372036854775807):
 Calls Tryz.prog 153 #[.string s,.string ⟨#[c]⟩] w fun e w'=>e=.returned (.string ⟨(Lib.trimB s.data.toList c).toArray⟩)/\(w'=w\/w'=w.drew):=Any.strings_Trim_one Tryz.lays160 s c hc w hs
def Tryz.aAu:Go.Shelf.Ren:=⟨fun|119=>226|n=>n,fun|21=>21|4=>4|n=>n,fun|n=>n⟩
theorem Tryz.lays119:Go.Proofs.Lays.n119 Tryz.prog Tryz.aAu:={
 mixed:=by kernel_rfl
 f119:=Tryz.func226.trans (congrArg some (by kernel_rfl))
 t4:=Tryz.underlying4
 a4:=Tryz.isAgg4
 z4:=Tryz.sizeOf4
 v4:=Tryz.zeroValue4
 t21:=Tryz.underlying21
 a21:=Tryz.isAgg21
 z21:=Tryz.sizeOf21
 v21:=Tryz.zeroValue21 }
theorem Tryz.utf8_ValidRune(r:Int)(w:World):
 Calls Tryz.prog 226 #[.int .i32 r] w fun e w'=>e=.returned (.bool (Lib.validRune r))/\w'=w:=Any.utf8_ValidRune Tryz.lays119 r w
def Tryz.aAt:Go.Shelf.Ren:=⟨fun|137=>225|217=>164|266=>202|n=>n,fun|9=>9|5=>5|3=>3|n=>n,fun|n=>n⟩
theorem Tryz.lays137:Go.Proofs.Lays.n137 Tryz.prog Tryz.aAt:={
 mixed:=by kernel_rfl
 f137:=Tryz.func225.trans (congrArg some (by kernel_rfl))
 f217:=Tryz.func164.trans (congrArg some (by kernel_rfl))
 f266:=Tryz.func202.trans (congrArg some (by kernel_rfl))
 t3:=Tryz.underlying3
 a3:=Tryz.isAgg3
 z3:=Tryz.sizeOf3
 v3:=Tryz.zeroValue3
 t5:=Tryz.underlying5
 a5:=Tryz.isAgg5
 z5:=Tryz.sizeOf5
 v5:=Tryz.zeroValue5
 t9:=Tryz.underlying9
 a9:=Tryz.isAgg9
 z9:=Tryz.sizeOf9
 v9:=Tryz.zeroValue9 }
open Go.RowKit in
theorem Tryz.strings_IndexByte(s:ByteArray)(c:Int)(w:World):
 Calls Tryz.prog 225 #[.string s,.int .u8 c] w fun e w'=>e=.returned (.int .i64 (Lib.indexByte s.data.toList c.toNat.toUInt8))/\w'=w:=Any.strings_IndexByte Tryz.lays137 s c w
def Tryz.V5:Go.Shelf.Ren:=⟨fun|172=>129|244=>150|245=>151|247=>178|279=>179|280=>180|281=>181|282=>182|287=>206|316=>207|171=>209|205=>208|321=>222|322=>223|243=>224|246=>229|283=>230|284=>231|285=>232|286=>233|129=>235|317=>234|318=>236|319=>237|320=>238|337=>239|338=>240|n=>n,fun|9=>9|3=>3|75=>173|76=>174|4=>4|5=>5|167=>206|37=>207|0=>0|85=>208|2=>2|168=>210|53=>237|175=>238|46=>201|210=>241|127=>262|145=>265|143=>263|21=>21|171=>271|173=>274|212=>277|51=>234|20=>20|213=>278|232=>281|233=>282|80=>77|n=>n,fun|15=>3|16=>4|17=>8|18=>9|19=>10|n=>n⟩
theorem Tryz.laysC172:Go.Proofs.LaysC.n172 Tryz.prog Tryz.V5:={
 mixed:=by kernel_rfl
 f129:=Tryz.func235.trans (congrArg some (by kernel_rfl))
 f171:=Tryz.func209.trans (congrArg some (by kernel_rfl))
 f172:=Tryz.func129.trans (congrArg some (by kernel_rfl))
 f205:=Tryz.func208.trans (congrArg some (by kernel_rfl))
 f243:=Tryz.func224.trans (congrArg some (by kernel_rfl))
 f244:=Tryz.func150.trans (congrArg some (by kernel_rfl))
 f245:=Tryz.func151.trans (congrArg some (by kernel_rfl))
 f246:=Tryz.func229.trans (congrArg some (by kernel_rfl))
 f247:=Tryz.func178.trans (congrArg some (by kernel_rfl))
 f279:=Tryz.func179.trans (congrArg some (by kernel_rfl))
 f280:=Tryz.func180.trans (congrArg some (by kernel_rfl))
 f281:=Tryz.func181.trans (congrArg some (by kernel_rfl))
 f282:=Tryz.func182.trans (congrArg some (by kernel_rfl))
 f283:=Tryz.func230.trans (congrArg some (by kernel_rfl))
 f284:=Tryz.func231.trans (congrArg some (by kernel_rfl))
 f285:=Tryz.func232.trans (congrArg some (by kernel_rfl))
 f286:=Tryz.func233.trans (congrArg some (by kernel_rfl))
 f287:=Tryz.func206.trans (congrArg some (by kernel_rfl))
 f316:=Tryz.func207.trans (congrArg some (by kernel_rfl))
 f317:=Tryz.func234.trans (congrArg some (by kernel_rfl))
 f318:=Tryz.func236.trans (congrArg some (by kernel_rfl))
 f319:=Tryz.func237.trans (congrArg some (by kernel_rfl))
 f320:=Tryz.func238.trans (congrArg some (by kernel_rfl))
 f321:=Tryz.func222.trans (congrArg some (by kernel_rfl))
 f322:=Tryz.func223.trans (congrArg some (by kernel_rfl))
 f337:=Tryz.func239.trans (congrArg some (by kernel_rfl))
 f338:=Tryz.func240.trans (congrArg some (by kernel_rfl))
 t0:=Tryz.underlying0
 a0:=Tryz.isAgg0
 z0:=Tryz.sizeOf0
 v0:=Tryz.zeroValue0
 t2:=Tryz.underlying2
 a2:=Tryz.isAgg2
 z2:=Tryz.sizeOf2
 v2:=Tryz.zeroValue2
 t3:=Tryz.underlying3
 a3:=Tryz.isAgg3
 z3:=Tryz.sizeOf3
 v3:=Tryz.zeroValue3
 t4:=Tryz.underlying4
 a4:=Tryz.isAgg4
 z4:=Tryz.sizeOf4
 v4:=Tryz.zeroValue4
 t5:=Tryz.underlying5
 a5:=Tryz.isAgg5
 z5:=Tryz.sizeOf5
 v5:=Tryz.zeroValue5
 t9:=Tryz.underlying9
 a9:=Tryz.isAgg9
 z9:=Tryz.sizeOf9
 v9:=Tryz.zeroValue9
 t20:=Tryz.underlying20
 a20:=Tryz.isAgg20
 z20:=Tryz.sizeOf20
 v20:=Tryz.zeroValue20
 t21:=Tryz.underlying21
 a21:=Tryz.isAgg21
 z21:=Tryz.sizeOf21
 v21:=Tryz.zeroValue21
 t37:=Tryz.underlying207
 a37:=Tryz.isAgg207
 z37:=Tryz.sizeOf207
 v37:=Tryz.zeroValue207
 t46:=Tryz.underlying201
 a46:=Tryz.isAgg201
 z46:=Tryz.sizeOf201
 v46:=Tryz.zeroValue201
 t51:=Tryz.underlying234
 a51:=Tryz.isAgg234
 z51:=Tryz.sizeOf234
 v51:=Tryz.zeroValue234
 t53:=Tryz.underlying237
 a53:=Tryz.isAgg237
 z53:=Tryz.sizeOf237
 v53:=Tryz.zeroValue237
 t75:=Tryz.underlying173
 a75:=Tryz.isAgg173
 z75:=Tryz.sizeOf173
 v75:=Tryz.zeroValue173
 t76:=Tryz.underlying174
 a76:=Tryz.isAgg174
 z76:=Tryz.sizeOf174
 v76:=Tryz.zeroValue174
 t85:=Tryz.underlying208
 a85:=Tryz.isAgg208
 z85:=Tryz.sizeOf208
 v85:=Tryz.zeroValue208
 t127:=Tryz.underlying262
 a127:=Tryz.isAgg262
 z127:=Tryz.sizeOf262
 v127:=Tryz.zeroValue262
 t143:=Tryz.underlying263
 a143:=Tryz.isAgg263
 z143:=Tryz.sizeOf263
 v143:=Tryz.zeroValue263
 t145:=Tryz.underlying265
 a145:=Tryz.isAgg265
 z145:=Tryz.sizeOf265
 v145:=Tryz.zeroValue265
 t167:=Tryz.underlying206
 a167:=Tryz.isAgg206
 z167:=Tryz.sizeOf206
 v167:=Tryz.zeroValue206
 t168:=Tryz.underlying210
 a168:=Tryz.isAgg210
 z168:=Tryz.sizeOf210
 v168:=Tryz.zeroValue210
 t171:=Tryz.underlying271
 a171:=Tryz.isAgg271
 z171:=Tryz.sizeOf271
 v171:=Tryz.zeroValue271
 t173:=Tryz.underlying274
 a173:=Tryz.isAgg274
 z173:=Tryz.sizeOf274
 v173:=Tryz.zeroValue274
 t175:=Tryz.underlying238
 a175:=Tryz.isAgg238
 z175:=Tryz.sizeOf238
 v175:=Tryz.zeroValue238
 t210:=Tryz.underlying241
 a210:=Tryz.isAgg241
 z210:=Tryz.sizeOf241
 v210:=Tryz.zeroValue241
 t212:=Tryz.underlying277
 a212:=Tryz.isAgg277
 z212:=Tryz.sizeOf277
 v212:=Tryz.zeroValue277
 t213:=Tryz.underlying278
 a213:=Tryz.isAgg278
 z213:=Tryz.sizeOf278
 t232:=Tryz.underlying281
 a232:=Tryz.isAgg281
 z232:=Tryz.sizeOf281
 v232:=Tryz.zeroValue281
 t233:=Tryz.underlying282
 a233:=Tryz.isAgg282
 z233:=Tryz.sizeOf282
 v233:=Tryz.zeroValue282
 g15:=by kernel_rfl
 g16:=by kernel_rfl
 g17:=by kernel_rfl
 g18:=by kernel_rfl
 g19:=by kernel_rfl
 t80:=Tryz.underlying77
 a80:=Tryz.isAgg77
 z80:=Tryz.sizeOf77
 v80:=Tryz.zeroValue77
 i0:=by kernel_rfl
 i2:=by kernel_rfl
 i3:=by kernel_rfl
 i4:=by kernel_rfl
 i5:=by kernel_rfl
 i9:=by kernel_rfl
 i20:=by kernel_rfl
 i21:=by kernel_rfl
 i37:=by kernel_rfl
 i46:=by kernel_rfl
 i51:=by kernel_rfl
 i53:=by kernel_rfl
 i75:=by kernel_rfl
 i76:=by kernel_rfl
 i80:=by kernel_rfl
 i85:=by kernel_rfl
 i127:=by kernel_rfl
 i143:=by kernel_rfl
 i145:=by kernel_rfl
 i167:=by kernel_rfl
 i168:=by kernel_rfl
 i171:=by kernel_rfl
 i173:=by kernel_rfl
 i175:=by kernel_rfl
 i210:=by kernel_rfl
 i212:=by kernel_rfl
 i232:=by kernel_rfl
 i233:=by kernel_rfl
 m15:=by kernel_rfl
 m16:=by kernel_rfl
 m17:=by kernel_rfl
 m18:=by kernel_rfl
 m19:=by kernel_rfl
 c0:=by kernel_rfl
 c2:=by kernel_rfl
 c3:=by kernel_rfl
 c4:=by kernel_rfl
 c5:=by kernel_rfl
 c9:=by kernel_rfl
 c20:=by kernel_rfl
 c21:=by kernel_rfl
 c37:=by kernel_rfl
 c46:=by kernel_rfl
 c51:=by kernel_rfl
 c53:=by kernel_rfl
 c75:=by kernel_rfl
 c76:=by kernel_rfl
 c80:=by kernel_rfl
 c85:=by kernel_rfl
 c127:=by kernel_rfl
 c143:=by kernel_rfl
 c145:=by kernel_rfl
 c167:=by kernel_rfl
 c168:=by kernel_rfl
 c171:=by kernel_rfl
 c173:=by kernel_rfl
 c175:=by kernel_rfl
 c210:=by kernel_rfl
 c212:=by kernel_rfl
 c213:=by kernel_rfl
 c232:=by kernel_rfl
 c233:=by kernel_rfl }
open Go.RowKit in
theorem Tryz.strconv_Atoi_ok(s:ByteArray)(hmax:s.size<=9223372036854775806)(v:Int)(h:Lib.atoiAll s.data.toList=.ok v)(w:World):
 Calls Tryz.prog 129 #[.string s] w fun e w'=>e=.returned (.tuple #[.int .i64 v,.nilIface])/\(w'=w\/ ∃t,w'=Lib.bytesWorld w 5 t):=Any.strconv_Atoi_ok Tryz.laysC172 s hmax v h w
open Go.RowKit in
theorem Tryz.strconv_Atoi_syntax(s:ByteArray)(hlim:s.size<=281474976710656)(h0: ∀v,Lib.atoiAll s.data.toList≠ .ok v)(h1:Lib.atoiAll s.data.toList≠ .range)(ev:Value)(w:World)(hv:w.cell? ⟨3,0,none⟩=some ev)(hev:ev=.nilIface\/ ∃te pe,ev=.iface te pe):
 Calls Tryz.prog 129 #[.string s] w fun e w'=> ∃N,e=.returned (.tuple #[.int .i64 (0),.iface 210 (.pointer (some ⟨N,0,none⟩))])/\w.heap.size<=N/\w'.heap[N]? =some (.cells #[.string ⟨#[65,116,111,105]⟩,.string s,ev] 241 (0,0))/\Below w.heap.size w w':=by
 cases hh:Lib.atoiAll s.data.toList
 . exact absurd hh (h0 _)
 . exact Any.strconv_Atoi_syntax Tryz.laysC172 s hlim hh ev w hv hev
 exact absurd hh h1
open Go.RowKit in
theorem Tryz.strconv_Atoi_range(s:ByteArray)(hlim:s.size<=281474976710656)(h:Lib.atoiAll s.data.toList=.range)(ev:Value)(w:World)(hv:w.cell? ⟨4,0,none⟩=some ev)(hev:ev=.nilIface\/ ∃te pe,ev=.iface te pe):
 Calls Tryz.prog 129 #[.string s] w fun e w'=> ∃N,e=.returned (.tuple #[.int .i64 (Lib.atoiSat s.data.toList),.iface 210 (.pointer (some ⟨N,0,none⟩))])/\w.heap.size<=N/\w'.heap[N]? =some (.cells #[.string ⟨#[65,116,111,105]⟩,.string s,ev] 241 (0,0))/\Below w.heap.size w w':=Any.strconv_Atoi_range Tryz.laysC172 s hlim h ev w hv hev
def Tryz.V4:Go.Shelf.Ren:=⟨fun|174=>193|247=>178|245=>151|287=>206|279=>179|280=>180|281=>181|282=>182|321=>222|322=>223|316=>207|171=>209|205=>208|243=>224|246=>229|283=>230|284=>231|285=>232|286=>233|129=>235|317=>234|318=>236|319=>237|320=>238|337=>239|338=>240|n=>n,fun|9=>9|3=>3|2=>2|75=>173|85=>208|4=>4|167=>206|5=>5|53=>237|175=>238|46=>201|168=>210|37=>207|0=>0|210=>241|21=>21|127=>262|145=>265|143=>263|171=>271|173=>274|212=>277|51=>234|20=>20|213=>278|232=>281|233=>282|80=>77|n=>n,fun|15=>3|16=>4|17=>8|18=>9|19=>10|n=>n⟩
theorem Tryz.aJ3:Go.Proofs.LaysC.n174 Tryz.prog Tryz.V4:={
 mixed:=by kernel_rfl
 f129:=Tryz.func235.trans (congrArg some (by kernel_rfl))
 f171:=Tryz.func209.trans (congrArg some (by kernel_rfl))
 f174:=Tryz.func193.trans (congrArg some (by kernel_rfl))
 f205:=Tryz.func208.trans (congrArg some (by kernel_rfl))
 f243:=Tryz.func224.trans (congrArg some (by kernel_rfl))
 f245:=Tryz.func151.trans (congrArg some (by kernel_rfl))
 f246:=Tryz.func229.trans (congrArg some (by kernel_rfl))
 f247:=Tryz.func178.trans (congrArg some (by kernel_rfl))
 f279:=Tryz.func179.trans (congrArg some (by kernel_rfl))
 f280:=Tryz.func180.trans (congrArg some (by kernel_rfl))
 f281:=Tryz.func181.trans (congrArg some (by kernel_rfl))
 f282:=Tryz.func182.trans (congrArg some (by kernel_rfl))
 f283:=Tryz.func230.trans (congrArg some (by kernel_rfl))
 f284:=Tryz.func231.trans (congrArg some (by kernel_rfl))
 f285:=Tryz.func232.trans (congrArg some (by kernel_rfl))
 f286:=Tryz.func233.trans (congrArg some (by kernel_rfl))
 f287:=Tryz.func206.trans (congrArg some (by kernel_rfl))
 f316:=Tryz.func207.trans (congrArg some (by kernel_rfl))
 f317:=Tryz.func234.trans (congrArg some (by kernel_rfl))
 f318:=Tryz.func236.trans (congrArg some (by kernel_rfl))
 f319:=Tryz.func237.trans (congrArg some (by kernel_rfl))
 f320:=Tryz.func238.trans (congrArg some (by kernel_rfl))
 f321:=Tryz.func222.trans (congrArg some (by kernel_rfl))
 f322:=Tryz.func223.trans (congrArg some (by kernel_rfl))
 f337:=Tryz.func239.trans (congrArg some (by kernel_rfl))
 f338:=Tryz.func240.trans (congrArg some (by kernel_rfl))
 t0:=Tryz.underlying0
 a0:=Tryz.isAgg0
 z0:=Tryz.sizeOf0
 v0:=Tryz.zeroValue0
 t2:=Tryz.underlying2
 a2:=Tryz.isAgg2
 z2:=Tryz.sizeOf2
 v2:=Tryz.zeroValue2
 t3:=Tryz.underlying3
 a3:=Tryz.isAgg3
 z3:=Tryz.sizeOf3
 v3:=Tryz.zeroValue3
 t4:=Tryz.underlying4
 a4:=Tryz.isAgg4
 z4:=Tryz.sizeOf4
 v4:=Tryz.zeroValue4
 t5:=Tryz.underlying5
 a5:=Tryz.isAgg5
 z5:=Tryz.sizeOf5
 v5:=Tryz.zeroValue5
 t9:=Tryz.underlying9
 a9:=Tryz.isAgg9
 z9:=Tryz.sizeOf9
 v9:=Tryz.zeroValue9
 t20:=Tryz.underlying20
 a20:=Tryz.isAgg20
 z20:=Tryz.sizeOf20
 v20:=Tryz.zeroValue20
 t21:=Tryz.underlying21
 a21:=Tryz.isAgg21
 z21:=Tryz.sizeOf21
 v21:=Tryz.zeroValue21
 t37:=Tryz.underlying207
 a37:=Tryz.isAgg207
 z37:=Tryz.sizeOf207
 v37:=Tryz.zeroValue207
 t46:=Tryz.underlying201
 a46:=Tryz.isAgg201
 z46:=Tryz.sizeOf201
 v46:=Tryz.zeroValue201
 t51:=Tryz.underlying234
 a51:=Tryz.isAgg234
 z51:=Tryz.sizeOf234
 v51:=Tryz.zeroValue234
 t53:=Tryz.underlying237
 a53:=Tryz.isAgg237
 z53:=Tryz.sizeOf237
 v53:=Tryz.zeroValue237
 t75:=Tryz.underlying173
 a75:=Tryz.isAgg173
 z75:=Tryz.sizeOf173
 v75:=Tryz.zeroValue173
 t85:=Tryz.underlying208
 a85:=Tryz.isAgg208
 z85:=Tryz.sizeOf208
 v85:=Tryz.zeroValue208
 t127:=Tryz.underlying262
 a127:=Tryz.isAgg262
 z127:=Tryz.sizeOf262
 v127:=Tryz.zeroValue262
 t143:=Tryz.underlying263
 a143:=Tryz.isAgg263
 z143:=Tryz.sizeOf263
 v143:=Tryz.zeroValue263
 t145:=Tryz.underlying265
 a145:=Tryz.isAgg265
 z145:=Tryz.sizeOf265
 v145:=Tryz.zeroValue265
 t167:=Tryz.underlying206
 a167:=Tryz.isAgg206
 z167:=Tryz.sizeOf206
 v167:=Tryz.zeroValue206
 t168:=Tryz.underlying210
 a168:=Tryz.isAgg210
 z168:=Tryz.sizeOf210
 v168:=Tryz.zeroValue210
 t171:=Tryz.underlying271
 a171:=Tryz.isAgg271
 z171:=Tryz.sizeOf271
 v171:=Tryz.zeroValue271
 t173:=Tryz.underlying274
 a173:=Tryz.isAgg274
 z173:=Tryz.sizeOf274
 v173:=Tryz.zeroValue274
 t175:=Tryz.underlying238
 a175:=Tryz.isAgg238
 z175:=Tryz.sizeOf238
 v175:=Tryz.zeroValue238
 t210:=Tryz.underlying241
 a210:=Tryz.isAgg241
 z210:=Tryz.sizeOf241
 v210:=Tryz.zeroValue241
 t212:=Tryz.underlying277
 a212:=Tryz.isAgg277
 z212:=Tryz.sizeOf277
 v212:=Tryz.zeroValue277
 t213:=Tryz.underlying278
 a213:=Tryz.isAgg278
 z213:=Tryz.sizeOf278
 t232:=Tryz.underlying281
 a232:=Tryz.isAgg281
 z232:=Tryz.sizeOf281
 v232:=Tryz.zeroValue281
 t233:=Tryz.underlying282
 a233:=Tryz.isAgg282
 z233:=Tryz.sizeOf282
 v233:=Tryz.zeroValue282
 g15:=by kernel_rfl
 g16:=by kernel_rfl
 g17:=by kernel_rfl
 g18:=by kernel_rfl
 g19:=by kernel_rfl
 t80:=Tryz.underlying77
 a80:=Tryz.isAgg77
 z80:=Tryz.sizeOf77
 v80:=Tryz.zeroValue77
 i0:=by kernel_rfl
 i2:=by kernel_rfl
 i3:=by kernel_rfl
 i4:=by kernel_rfl
 i5:=by kernel_rfl
 i9:=by kernel_rfl
 i20:=by kernel_rfl
 i21:=by kernel_rfl
 i37:=by kernel_rfl
 i46:=by kernel_rfl
 i51:=by kernel_rfl
 i53:=by kernel_rfl
 i75:=by kernel_rfl
 i80:=by kernel_rfl
 i85:=by kernel_rfl
 i127:=by kernel_rfl
 i143:=by kernel_rfl
 i145:=by kernel_rfl
 i167:=by kernel_rfl
 i168:=by kernel_rfl
 i171:=by kernel_rfl
 i173:=by kernel_rfl
 i175:=by kernel_rfl
 i210:=by kernel_rfl
 i212:=by kernel_rfl
 i232:=by kernel_rfl
 i233:=by kernel_rfl
 m15:=by kernel_rfl
 m16:=by kernel_rfl
 m17:=by kernel_rfl
 m18:=by kernel_rfl
 m19:=by kernel_rfl
 c0:=by kernel_rfl
 c2:=by kernel_rfl
 c3:=by kernel_rfl
 c4:=by kernel_rfl
 c5:=by kernel_rfl
 c9:=by kernel_rfl
 c20:=by kernel_rfl
 c21:=by kernel_rfl
 c37:=by kernel_rfl
 c46:=by kernel_rfl
 c51:=by kernel_rfl
 c53:=by kernel_rfl
 c75:=by kernel_rfl
 c80:=by kernel_rfl
 c85:=by kernel_rfl
 c127:=by kernel_rfl
 c143:=by kernel_rfl
 c145:=by kernel_rfl
 c167:=by kernel_rfl
 c168:=by kernel_rfl
 c171:=by kernel_rfl
 c173:=by kernel_rfl
 c175:=by kernel_rfl
 c210:=by kernel_rfl
 c212:=by kernel_rfl
 c213:=by kernel_rfl
 c232:=by kernel_rfl
 c233:=by kernel_rfl }
open Go.RowKit in
theorem Tryz.strconv_ParseInt_10_at64_ok(s:ByteArray)(hmax:s.size<=9223372036854775806)(v:Int)(h:Lib.parseIntB 64 s.data.toList=.ok v)(w:World):
 Calls Tryz.prog 193 #[.string s,.int .i64 10,.int .i64 64] w fun e w'=>e=.returned (.tuple #[.int .i64 v,.nilIface])/\(w'=w\/ ∃t,w'=Lib.bytesWorld w 5 t):=Any.strconv_ParseInt_10_at64_ok Tryz.aJ3 s hmax v h w
def Tryz.aAs:Go.Shelf.Ren:=⟨fun|144=>84|143=>116|219=>139|217=>164|225=>165|224=>166|267=>167|266=>202|314=>203|n=>n,fun|9=>9|4=>4|3=>3|5=>5|46=>201|146=>235|51=>234|n=>n,fun|1=>0|n=>n⟩
theorem Tryz.lays144:Go.Proofs.Lays.n144 Tryz.prog Tryz.aAs:={
 mixed:=by kernel_rfl
 f143:=Tryz.func116.trans (congrArg some (by kernel_rfl))
 f144:=Tryz.func84.trans (congrArg some (by kernel_rfl))
 f217:=Tryz.func164.trans (congrArg some (by kernel_rfl))
 f219:=Tryz.func139.trans (congrArg some (by kernel_rfl))
 f224:=Tryz.func166.trans (congrArg some (by kernel_rfl))
 f225:=Tryz.func165.trans (congrArg some (by kernel_rfl))
 f266:=Tryz.func202.trans (congrArg some (by kernel_rfl))
 f267:=Tryz.func167.trans (congrArg some (by kernel_rfl))
 f314:=Tryz.func203.trans (congrArg some (by kernel_rfl))
 t3:=Tryz.underlying3
 a3:=Tryz.isAgg3
 z3:=Tryz.sizeOf3
 v3:=Tryz.zeroValue3
 t4:=Tryz.underlying4
 a4:=Tryz.isAgg4
 z4:=Tryz.sizeOf4
 v4:=Tryz.zeroValue4
 t5:=Tryz.underlying5
 a5:=Tryz.isAgg5
 z5:=Tryz.sizeOf5
 v5:=Tryz.zeroValue5
 t9:=Tryz.underlying9
 a9:=Tryz.isAgg9
 z9:=Tryz.sizeOf9
 v9:=Tryz.zeroValue9
 t46:=Tryz.underlying201
 a46:=Tryz.isAgg201
 z46:=Tryz.sizeOf201
 v46:=Tryz.zeroValue201
 t51:=Tryz.underlying234
 a51:=Tryz.isAgg234
 z51:=Tryz.sizeOf234
 v51:=Tryz.zeroValue234
 t146:=Tryz.underlying235
 a146:=Tryz.isAgg235
 z146:=Tryz.sizeOf235
 v146:=Tryz.zeroValue235
 g1:=by kernel_rfl }
open Go.RowKit Go.Lib in
theorem Tryz.strings_Contains_one(s:ByteArray)(c:UInt8)(w:World):
 Calls Tryz.prog 84 #[.string s,.string ⟨#[c]⟩] w fun e w'=>e=.returned (.bool (decide (0<=Lib.indexByte s.data.toList c)))/\w'=w:=Any.strings_Contains_one Tryz.lays144 s c w
def Tryz.V3:Go.Shelf.Ren:=⟨fun|15=>183|20=>210|n=>n,fun|9=>9|23=>215|3=>3|4=>4|0=>0|21=>21|n=>n,fun|n=>n⟩
theorem Tryz.aJ2:Go.Proofs.LaysGw.n15 Tryz.prog Tryz.V3:={
 mixed:=by kernel_rfl
 f15:=Tryz.func183.trans (congrArg some (by kernel_rfl))
 f20:=Tryz.func210.trans (congrArg some (by kernel_rfl))
 t0:=Tryz.underlying0
 a0:=Tryz.isAgg0
 z0:=Tryz.sizeOf0
 v0:=Tryz.zeroValue0
 i0:=by kernel_rfl
 t3:=Tryz.underlying3
 a3:=Tryz.isAgg3
 z3:=Tryz.sizeOf3
 v3:=Tryz.zeroValue3
 i3:=by kernel_rfl
 t4:=Tryz.underlying4
 a4:=Tryz.isAgg4
 z4:=Tryz.sizeOf4
 v4:=Tryz.zeroValue4
 i4:=by kernel_rfl
 t9:=Tryz.underlying9
 a9:=Tryz.isAgg9
 z9:=Tryz.sizeOf9
 v9:=Tryz.zeroValue9
 i9:=by kernel_rfl
 t21:=Tryz.underlying21
 a21:=Tryz.isAgg21
 z21:=Tryz.sizeOf21
 v21:=Tryz.zeroValue21
 i21:=by kernel_rfl
 t23:=Tryz.underlying215
 a23:=Tryz.isAgg215
 z23:=Tryz.sizeOf215
 v23:=Tryz.zeroValue215
 i23:=by kernel_rfl }
def Tryz.lays151_ren:Go.Shelf.Ren:=⟨fun|151=>185|152=>211|137=>225|119=>226|224=>166|225=>165|217=>164|266=>202|n=>n,fun|9=>9|21=>21|4=>4|3=>3|5=>5|0=>0|46=>201|n=>n,fun|n=>n⟩
theorem Tryz.lays151:Go.Proofs.Lays.n151 Tryz.prog Tryz.lays151_ren:={
 mixed:=by kernel_rfl
 f119:=Tryz.func226.trans (congrArg some (by kernel_rfl))
 f137:=Tryz.func225.trans (congrArg some (by kernel_rfl))
 f151:=Tryz.func185.trans (congrArg some (by kernel_rfl))
 f152:=Tryz.func211.trans (congrArg some (by kernel_rfl))
 f217:=Tryz.func164.trans (congrArg some (by kernel_rfl))
 f224:=Tryz.func166.trans (congrArg some (by kernel_rfl))
 f225:=Tryz.func165.trans (congrArg some (by kernel_rfl))
 f266:=Tryz.func202.trans (congrArg some (by kernel_rfl))
 t0:=Tryz.underlying0
 a0:=Tryz.isAgg0
 z0:=Tryz.sizeOf0
 v0:=Tryz.zeroValue0
 t3:=Tryz.underlying3
 a3:=Tryz.isAgg3
 z3:=Tryz.sizeOf3
 v3:=Tryz.zeroValue3
 t4:=Tryz.underlying4
 a4:=Tryz.isAgg4
 z4:=Tryz.sizeOf4
 v4:=Tryz.zeroValue4
 t5:=Tryz.underlying5
 a5:=Tryz.isAgg5
 z5:=Tryz.sizeOf5
 v5:=Tryz.zeroValue5
 t9:=Tryz.underlying9
 a9:=Tryz.isAgg9
 z9:=Tryz.sizeOf9
 v9:=Tryz.zeroValue9
 t21:=Tryz.underlying21
 a21:=Tryz.isAgg21
 z21:=Tryz.sizeOf21
 v21:=Tryz.zeroValue21
 t46:=Tryz.underlying201
 a46:=Tryz.isAgg201
 z46:=Tryz.sizeOf201
 v46:=Tryz.zeroValue201 }
open Go.RowKit Go.Lib in
theorem Tryz.strings_ContainsRune_ascii(s:ByteArray)(r:Int)(w:World)(h0:0<=r)(h1:r<128):
 Calls Tryz.prog 185 #[.string s,.int .i32 r] w fun e w'=>e=.returned (.bool (decide (0<=Lib.indexByte s.data.toList r.toNat.toUInt8)))/\w'=w:=Any.strings_ContainsRune_ascii Tryz.lays151 s r w h0 h1
def Tryz.aAq:Go.Shelf.Ren:=⟨fun|264=>215|n=>n,fun|53=>237|46=>201|n=>n,fun|n=>n⟩
theorem Tryz.lays264:Go.Proofs.Lays.n264 Tryz.prog Tryz.aAq:={
 mixed:=by kernel_rfl
 f264:=Tryz.func215.trans (congrArg some (by kernel_rfl))
 t46:=Tryz.underlying201
 a46:=Tryz.isAgg201
 z46:=Tryz.sizeOf201
 v46:=Tryz.zeroValue201
 t53:=Tryz.underlying237
 a53:=Tryz.isAgg237
 z53:=Tryz.sizeOf237
 v53:=Tryz.zeroValue237 }
open Go.RowKit Go.Lib in
theorem Tryz.bits_Mul64(x y:Nat)(hx:x<18446744073709551616)(hy:y<18446744073709551616)(w:World):
 Calls Tryz.prog 215 #[.int .u64 x,.int .u64 y] w fun e w'=>e=.returned (.tuple #[.int .u64 ((x * y / 18446744073709551616:Nat):Int),.int .u64 ((x * y % 18446744073709551616:Nat):Int)])/\w'=w:=Any.bits_Mul64 Tryz.lays264 x y hx hy w
open Go.RowKit Go.Lib in
theorem Tryz.strings_IndexFunc_grows(g:Nat)(lb:Array Value)(eg: ∀args w,(callFunc g args).run Tryz.prog w=.ok (.enter g args) w)(p:Nat->Bool)(s:ByteArray)(w:World)(hp:PredGrows Tryz.prog g lb p w):
 Calls Tryz.prog 183 #[.string s,.func (.func g) #[] lb] w fun e w'=>e=.returned (.int .i64 (Lib.idxFunc p true s))/\Below w.heap.size w w':=Any.strings_IndexFunc_grows Tryz.aJ2 g lb eg p s w hp
def Tryz.lays112_ren:Go.Shelf.Ren:=⟨fun|112=>112|n=>n,fun|28=>114|3=>3|4=>4|0=>0|n=>n,fun|n=>n⟩
theorem Tryz.lays112:Go.Proofs.Lays.n112 Tryz.prog Tryz.lays112_ren:={
 mixed:=by kernel_rfl
 f112:=Tryz.func112.trans (congrArg some (by kernel_rfl))
 t0:=Tryz.underlying0
 a0:=Tryz.isAgg0
 z0:=Tryz.sizeOf0
 v0:=Tryz.zeroValue0
 t3:=Tryz.underlying3
 a3:=Tryz.isAgg3
 z3:=Tryz.sizeOf3
 v3:=Tryz.zeroValue3
 t4:=Tryz.underlying4
 a4:=Tryz.isAgg4
 z4:=Tryz.sizeOf4
 v4:=Tryz.zeroValue4
 t28:=Tryz.underlying114
 a28:=Tryz.isAgg114
 z28:=Tryz.sizeOf114
 v28:=Tryz.zeroValue114 }
open Go.RowKit Go.Lib Go.Sort in
theorem Tryz.slices_Reverse_int(blk off cap:Nat)(zs:List Int)(w:World)(hH:Holds (Value.int .i64) w blk off zs.toArray)(hsz:zs.length<=9223372036854775807):
 Calls Tryz.prog 112 #[.slice (some ⟨blk,off,none⟩) zs.length cap] w fun e w'=>e=.returned (.tuple #[])/\ ∃n,w'=putRow (Value.int .i64) (Sort.ahead w n) blk off zs.reverse.toArray:=Any.slices_Reverse_int Tryz.lays112 blk off cap zs w hH hsz
def Tryz.QH:Go.Shelf.Ren:=⟨fun|15=>111|n=>n,fun|22=>114|3=>3|4=>4|n=>n,fun|n=>n⟩
theorem Tryz.laysNm215:Go.Proofs.Lays2.n15 Tryz.prog Tryz.QH:={
 mixed:=by kernel_rfl
 f15:=Tryz.func111.trans (congrArg some (by kernel_rfl))
 t3:=Tryz.underlying3
 a3:=Tryz.isAgg3
 z3:=Tryz.sizeOf3
 v3:=Tryz.zeroValue3
 t4:=Tryz.underlying4
 a4:=Tryz.isAgg4
 z4:=Tryz.sizeOf4
 v4:=Tryz.zeroValue4
 t22:=Tryz.underlying114
 a22:=Tryz.isAgg114
 z22:=Tryz.sizeOf114
 v22:=Tryz.zeroValue114
 i3:=by kernel_rfl }
open Go.RowKit Go.Lib in
theorem Tryz.slices_Clone_int(b off n c:Nat)(zs:List Int)(w:World)(hz:n<=zs.length)(hbig:n * 8<=140737488355328)(hc: ∀j,j<zs.length->w.cell? ⟨b,off+j,none⟩=some (.int .i64 (zs.getD j 0))):
 Calls Tryz.prog 111 #[.slice (some ⟨b,off,none⟩) n c] w fun e w'=> ∃v',e=.returned v'/\w'.ownsRow w.heap.size 3 1 v' n ((zs.take n).map (Value.int .i64))/\v'≠ .slice none 0 0/\Below w.heap.size w w':=Any.slices_Clone_int Tryz.laysNm215 b off n c zs w hz hbig hc
end Go.Proofs
namespace Go.Proofs.YtacggmlngekidaaGreatDoor
section
open Go.RowKit
namespace Bk
open Un (ba bt ri rb aS aZ)
theorem yT(n:Int)(w:World):Calls Tryz.prog 130 #[.int .i64 n] w fun r w'=>r=.returned (.int .i64 (if 21<=n/\n<=41 then 0 else 7))/\w=w':=by
 by_cases a:n<21
 . go_enter Tryz.func130,Tryz.ntmps130
   go_wp2
   go_ret
   exact⟨by first|rfl|exact ri (by rw[aBx (by omega)]),rfl⟩
 by_cases b:42<=n
 . go_enter Tryz.func130,Tryz.ntmps130
   go_wp2
   go_ret
   exact⟨by first|rfl|exact ri (by rw[aBx (by omega)]),rfl⟩
 go_enter Tryz.func130,Tryz.ntmps130
 go_wp2
 go_ret
 exact⟨by first|rfl|exact ri (by rw[aDk (by omega)]),rfl⟩
theorem VX(a b c n:Int)(w:World)(a0:0<=a)(b0:0<=b)(c0:0<=c)(n0:1<=n)(n1:n<=3):
 Calls Tryz.prog 108 #[.agg #[.int .u8 a,.int .u8 b,.int .u8 c],.int .i64 n] w fun r w'=>r=.returned (.int .i64 (kD a b c n))/\Below w.heap.size w w':=by
 obtain rfl|rfl|rfl:n=1\/n=2\/n=3:=by omega
 . exact Sk.lJ (Sk.aMx a b c w) (by unfold kD;simp only[aHF,aDE,aGw];(repeat' split)<;>first|rfl|(exfalso;omega))
 . exact Sk.lJ (Sk.aMw a b c w) (by unfold kD;simp only[aHF,aDE,aGw];(repeat' split)<;>first|rfl|(exfalso;omega))
 exact Sk.lJ (Sk.aMv a b c w) (by unfold kD;simp only[aHF,aDE,aGw];(repeat' split)<;>first|rfl|(exfalso;omega))
theorem SI(n:Nat)(w:World)(h:n<=18):Calls Tryz.prog 194 #[.int .i64 n] w fun r w'=>r=.returned (.tuple #[.int .i64 (p10 n),.int .i64 0])/\w=w':=by
 go_enter Tryz.func194,Tryz.ntmps194
 go_wp2
 go_loop [4,10] (fun p i=> ∃k:Nat,k<=n/\i=.int .i64 k/\p=.int .i64 (p10 k)) (fun _ i=>n - (intOf i).toNat)
 case atStart=>exact⟨0,aJS _,rfl,rfl⟩
 case round=>
  obtain⟨k,hk,rfl,rfl⟩:=hrel
  by_cases hlt:k<n
  . have hb:=aIy (k+1) (by omega);have hs:=ZL k;have hb2:p10 k * 10<=1000000000000000000/\1<=p10 k * 10:=by rw[<-hs];omega
    have HS:=rG hs;clear hs hb
    go_wp2
    go_round
    case rel=>exact⟨k+1,by omega,by go_num,by rw[HS.out]⟩
    case measure=>simp[intOf];omega
  have e:k=n:=by omega
  subst e
  go_wp2
  go_ret2
  exact⟨rfl,rfl⟩
end Bk
end
section
open Go.RowKit Go.Lib
namespace Bk
open Un (ba bt ri rb)
theorem below_drewN{B:Nat}{w W:World}(h:Below B w W): ∀n,Below B w (W.drewN n)
 |0=>h
 |n+1=>(below_drewN h n).drew
def Asc(s:ByteArray):Prop:= ∀i (h:i<s.size),(s[i]'h).toNat<128
theorem V9(l:List UInt8)(c:UInt8)(h: ∀b ∈ l,b.toNat<128)(hc:128<=c.toNat):Lib.indexByte l c= -1:=by
 induction l with
 |nil=>rfl
 | cons b l ih=>
  have hb:=h b (aHB ..);have hne:(b==c)=false:=by
   rw[aBA];rintro rfl;omega
  unfold Lib.indexByte;rw[ih (fun x hx=>h x (aHJ _ hx)),hne]
  rfl
theorem aBo{s:ByteArray}(hs:Asc s)(a b:Nat): ∀x ∈ (s.extract a b).data.toList,x.toNat<128:=by
 intro x hx;have h1:x ∈ s.data.toList:=by
  rw[aW3,aXc]at hx;unfold List.extract at hx;exact aUP (aUu hx)
 obtain⟨i,hi,rfl⟩:=aNU h1;have:=hs i (by simpa using hi);rwa[aWc]at this
theorem aAU(r:Int)(e2:2<=(Utf8.encode r).size)(eb:128<=((Utf8.encode r)[(Utf8.encode r).size - 1]'(by omega)).toNat): ∀k (h:k<(Utf8.encode r).size),k+1=(Utf8.encode r).size->128<=((Utf8.encode r)[k]'h).toNat:=by
 intro k h e;have hk:k=(Utf8.encode r).size - 1:=by omega
 subst hk;exact eb
theorem QK(s:ByteArray)(hs:Asc s)(h5:s.size<=1000)(w:World):
 Calls Tryz.prog 211 #[.string s,.int .i32 65533] w fun e w'=>e=.returned (.int .i64 (-1))/\Below w.heap.size w w':=by
 have HS:=rG hs;clear hs
 go_enter Tryz.func211,Tryz.ntmps211
 go_wp2
 go_loopg [] s.size (fun gf wx=> ∃pos:Nat,wx.heap[w.heap.size]? =some (.stringIter s pos)/\Below w.heap.size w wx/\s.size<=pos+gf)
 case atStart=>exact⟨0,World.iter_heap w s 0,(aAI _ w).alloc (aEc _) _,by omega⟩
 case round=>
  obtain⟨pos,hit,hbw,hfu⟩:=hrel
  by_cases hps:pos<s.size
  . obtain⟨g',rfl⟩: ∃g',gk=g'+1:=⟨gk - 1,by omega⟩;have hnx: ∀ty,(Instr.next (.pointer (some ⟨w.heap.size,0,none⟩)) true ty).run Tryz.prog wr=_:=fun ty=>Lib.run_next_any_at wr w.heap.size s pos ty hit hps;have hde:=aXL s pos hps (HS.out pos hps);have hlt:=HS.out pos hps;rw[hde]at hnx;generalize (s[pos]'hps).toNat=R at hnx hlt hde;have hit2:=Lib.iterAt_heap wr w.heap.size s pos (pos+1) hit;have hbw2:=Lib.below_iterAt hbw (k:=w.heap.size) (aEc _) s (pos+1);clear hde
    go_wp2
    go_roundg g'
    case measure=>omega
    case rel=>exact⟨pos+1,hit2,hbw2,by omega⟩
  have hnx: ∀ty,(Instr.next (.pointer (some ⟨w.heap.size,0,none⟩)) true ty).run Tryz.prog wr=_:=fun ty=>Lib.run_next_end_at wr w.heap.size s pos ty hit hps
  go_wp2
  go_ret
  exact⟨rfl,hbw⟩
theorem V8 (s:ByteArray) (hs:Asc s) (h4:4<=s.size) (h5:s.size<=1000) (r:Int) (h0:128<=r) (h1:r<=1114111) (w:World):
 Calls Tryz.prog 211 #[.string s,.int .i32 r] w fun e w'=>e=.returned (.int .i64 (-1))/\Below w.heap.size w w':=by
 by_cases hr:r=65533
 . subst hr;exact QK s hs h5 w
 have HV:=fun w=>(Tryz.utf8_ValidRune r w).mono (fun _ _ h=>(⟨h.1,h.2.symm⟩:_/\w=_))
 cases hv:Lib.validRune r
 . rw[hv]at HV;replace HV:=rG HV;clear hv hs
   go_enter Tryz.func211,Tryz.ntmps211
   go_wp2_with (go_at_call 226;with_reducible refine(HV.out _).mono ?_;rintro _ w' ⟨rfl,rfl⟩)
   go_ret
   exact⟨rfl,aAI _ _⟩
 rw [hv]at HV;replace HV:=rG HV;have hv2:Utf8.valid r=true:=by
  unfold Lib.validRune at hv;have:=aL2 hv;unfold Utf8.valid;simp;omega
 obtain⟨e2,e4,eb⟩:=encode_facts r hv2 h0;have eb:=eb (by omega);have HB: ∀(t:ByteArray) (c:UInt8) (w:World),(∀b ∈ t.data.toList,b.toNat<128)->128<=c.toNat->Calls Tryz.prog 225 #[.string t,.int .u8 c.toNat] w fun e w'=>e=.returned (.int .i64 (-1))/\w=w':=by
  intro t c w h hc;have:=Tryz.strings_IndexByte t (c.toNat:Int) w;rw[show ((c.toNat:Int)).toNat.toUInt8=c by rw[aQ4];exact UInt8.ofNat_toNat]at this;rw[V9 _ _ h hc]at this;exact this.mono (fun _ _ h=>⟨h.1,h.2.symm⟩)
 replace HB:=rG HB;clear hv hv2;have hasc:=hs;have HX: ∀k:Nat,∀b ∈ (s.extract k s.size).data.toList,b.toNat<128:=fun k=>aBo hs k s.size;replace HX:=rG HX;have l1:1<s.size:=by omega
 have l2:2<s.size:=by omega
 have l3:3<s.size:=by omega
 have g1:=hs 1 l1;have g2:=hs 2 l2;have g3:=hs 3 l3;have HE:=rG (aAU r e2 eb);clear hasc hs;obtain ha|ha|ha:(Utf8.encode r).size=2\/(Utf8.encode r).size=3\/(Utf8.encode r).size=4:=by omega
 . have hk:1<(Utf8.encode r).size:=by omega
   have hlast:128<=((Utf8.encode r)[1]'hk).toNat:=HE.out 1 hk (by omega);clear HE e2 e4 eb
   go_enter Tryz.func211,Tryz.ntmps211
   go_wp2_with (go_at_call 226;with_reducible refine(HV.out _).mono ?_;rintro _ w' ⟨rfl,rfl⟩)
   go_step3
   go_wp2
   go_loopw [9,10] (fun s9 s10 wx=>s9=.int .i64 1/\s10=.int .i64 0/\wx=w) (fun _ _ _=>1)
   case atStart=>exact⟨by first|rfl|rw[ha],rfl,rfl⟩
   case round=>
    obtain⟨rfl,rfl,rfl⟩:=hrel;have hne:(((s[1]'l1).toNat:Int) !=(((Utf8.encode r)[1]'hk).toNat:Int))=true:=by rw[aN0];omega
    go_wp2
    go_step3
    go_wp2
    go_quiet (fail)
    go_wp2
    go_quiet ((go_at_call 225;(refine(HB.out _ _ _ (HX.out _) hlast).mono ?_);rintro e w' ⟨rfl,rfl⟩;exact⟨rfl,_,rfl⟩))
    go_wp2
    rw[aTt]
    go_wp2
    rw[aTt]
    go_ret
    exact⟨rfl,below_drewN (aAI _ _) _⟩
 . have hk:2<(Utf8.encode r).size:=by omega
   have hlast:128<=((Utf8.encode r)[2]'hk).toNat:=HE.out 2 hk (by omega);clear HE e2 e4 eb
   go_enter Tryz.func211,Tryz.ntmps211
   go_wp2_with (go_at_call 226;with_reducible refine(HV.out _).mono ?_;rintro _ w' ⟨rfl,rfl⟩)
   go_step3
   go_wp2
   go_loopw [9,10] (fun s9 s10 wx=>s9=.int .i64 2/\s10=.int .i64 0/\wx=w) (fun _ _ _=>1)
   case atStart=>exact⟨by first|rfl|rw[ha],rfl,rfl⟩
   case round=>
    obtain⟨rfl,rfl,rfl⟩:=hrel;have hne:(((s[2]'l2).toNat:Int) !=(((Utf8.encode r)[2]'hk).toNat:Int))=true:=by rw[aN0];omega
    go_wp2
    go_step3
    go_wp2
    go_quiet (fail)
    go_wp2
    go_quiet ((go_at_call 225;(refine(HB.out _ _ _ (HX.out _) hlast).mono ?_);rintro e w' ⟨rfl,rfl⟩;exact⟨rfl,_,rfl⟩))
    go_wp2
    rw[aTt]
    go_wp2
    rw[aTt]
    go_ret
    exact⟨rfl,below_drewN (aAI _ _) _⟩
 have hk:3<(Utf8.encode r).size:=by omega
 have hlast:128<=((Utf8.encode r)[3]'hk).toNat:=HE.out 3 hk (by omega);clear HE e2 e4 eb
 go_enter Tryz.func211,Tryz.ntmps211
 go_wp2_with (go_at_call 226;with_reducible refine(HV.out _).mono ?_;rintro _ w' ⟨rfl,rfl⟩)
 go_step3
 go_wp2
 go_loopw [9,10] (fun s9 s10 wx=>s9=.int .i64 3/\s10=.int .i64 0/\wx=w) (fun _ _ _=>1)
 case atStart=>exact⟨by first|rfl|rw[ha],rfl,rfl⟩
 case round=>
  obtain⟨rfl,rfl,rfl⟩:=hrel;have hne:(((s[3]'l3).toNat:Int) !=(((Utf8.encode r)[3]'hk).toNat:Int))=true:=by rw[aN0];omega
  go_wp2
  go_step3
  go_wp2
  go_quiet (fail)
  go_wp2
  go_quiet ((go_at_call 225;(refine(HB.out _ _ _ (HX.out _) hlast).mono ?_);rintro e w' ⟨rfl,rfl⟩;exact⟨rfl,_,rfl⟩))
  go_wp2
  rw[aTt]
  go_wp2
  rw[aTt]
  go_ret
  exact⟨rfl,below_drewN (aAI _ _) _⟩
theorem QM(l:List UInt8)(c:UInt8):(-1<=Lib.indexByte l c)/\(decide (0<=Lib.indexByte l c)=l.any fun b=>decide ((b.toNat:Int)=(c.toNat:Int))):=by
 induction l with
 |nil=>exact⟨aTF (-1),rfl⟩
 |cons b l ih=>
  obtain⟨i1,i2⟩:=ih;unfold Lib.indexByte;rw[aXy,<-i2]
  by_cases h:b=c
  . subst h;simp
  have hne:(b==c)=false:=by rw[aBA];exact h
  have hn: ¬((b.toNat:Int)=(c.toNat:Int)):=by
   intro e;exact h (aX6.1 (by omega))
  rw[hne,aBy hn,aXA];simp only[aMB,aSC]
  by_cases h2:Lib.indexByte l c= -1
  . rw[h2];simp
  have:(Lib.indexByte l c== -1)=false:=by rw[aBA];exact h2
  rw[this];simp only[aMB,aSC];refine⟨by omega,?_⟩;rw[aK8,aOr,aOr];omega
theorem oC(s:ByteArray)(c:UInt8):decide (0<=Lib.indexByte s.data.toList c)=hasB c.toNat s:=(QM _ _).2
theorem FK(s:ByteArray)(hs:Asc s)(h4:4<=s.size)(h5:s.size<=1000)(r:Nat)(h1:r<=1114111)(w:World):
 Calls Tryz.prog 185 #[.string s,.int .i32 r] w fun e w'=>e=.returned (.bool (decide (r<128)&&hasB r s))/\Below w.heap.size w w':=by
 by_cases h:r<128
 . refine(Tryz.strings_ContainsRune_ascii s r w (by omega) (by omega)).mono ?_;rintro e w' ⟨rfl,rfl⟩;refine⟨?_,aAI _ _⟩;rw[oC,aBz h,aQN,aQ4];have:((r.toUInt8).toNat:Int)=(r:Int):=by simp;omega
   rw[this]
 have HI:=rG (fun w=>V8 s hs h4 h5 r (by omega) (by omega) w);rw[aBy h,aTz];clear hs
 go_enter Tryz.func185,Tryz.ntmps185
 go_wp2_with (go_at_call 211;with_reducible refine(HI.out _).mono ?_;rintro _ w' ⟨rfl,hb⟩)
 go_ret
 exact⟨rfl,hb⟩
theorem aFE(s:ByteArray)(hs:Asc s)(h4:4<=s.size)(h5:s.size<=1000)(B:Nat)(w:World)(hB:B<w.heap.size)(hcell:w.cell? ⟨B,0,none⟩=some (.string s)):
 PredGrows Tryz.prog 184 #[.pointer (some ⟨B,0,none⟩)] (fun x=> !(decide (x<128)&&hasB x s)) w:=fun W x hx hb=>by
 have hc:W.cell? ⟨B,0,none⟩=some (.string s):=(hb.cell (p:=⟨B,0,none⟩) hB).trans hcell;have HC:=rG (fun w=>FK s hs h4 h5 x hx w);clear hs hb hcell;obtain⟨t,ht⟩: ∃t,t=(decide (x<128)&&hasB x s):=⟨_,rfl⟩;rw[<-ht]at HC;replace ht:=rG ht;show Calls Tryz.prog 184 #[.int .i32 x,.pointer (some ⟨B,0,none⟩)] W _
 go_enter Tryz.func184,Tryz.ntmps184
 go_wp2_with (go_at_call 185;with_reducible refine(HC.out _).mono ?_;rintro _ w' ⟨rfl,hb⟩)
 go_ret
 exact⟨by rw[<-ht.out];rfl,hb⟩
theorem ZQ(s set:ByteArray)(q:Int->Bool)(hs:Asc set)(h4:4<=set.size)(h5:set.size<=1000)(hq: ∀x:Nat,x<128->hasB x set=q x)(hq2: ∀x:Int,q x=true->x<128)(w:World):
 Calls Tryz.prog 152 #[.string s,.string set] w fun r w'=>r=.returned (.bool (allB q s))/\Below w.heap.size w w':=by
 have eg: ∀args w,(callFunc 184 args).run Tryz.prog w=.ok (.enter 184 args) w:=enters_of Tryz.func184 (by kernel_rfl) rfl;have hcon:=Tryz.strings_IndexFunc_grows 184 #[.pointer (some ⟨w.heap.size,0,none⟩)] eg _ s (w.alloc (.cells #[.string set] 9)) (aFE set hs h4 h5 w.heap.size _ (by simp) (by simp));have hi:=aKd q (fun x=> !(decide (x<128)&&hasB x set)) (by intro x hx;rw[aBz hx,aQN,hq x hx]) (by intro x hx;rw[aBy (by omega),aTz];rfl) hq2 s;rw[<-hi];generalize Lib.idxFunc (fun x=> !(decide (x<128)&&hasB x set)) true s=z at hcon ⊢;clear hi hs hq hq2
 go_enter Tryz.func152,Tryz.ntmps152
 go_wp2_with (go_at_call 183;refine hcon.mono ?_;rintro _ w' ⟨rfl,hb⟩)
 go_ret
 exact⟨rfl,bt (ba (aAI _ _) _) hb⟩
def CZ:ByteArray:=⟨#[48,49,50,51,52,53,54,55,56,57]⟩
def YC:ByteArray:=⟨#[88,48,49,50,51,52,53,54,55,56,57]⟩
theorem aKU:Asc CZ:=by unfold Asc;decide
theorem aEW:Asc YC:=by unfold Asc;decide
theorem aKT: ∀x:Nat,x<128->hasB x CZ=bG x:=by decide
theorem aEV: ∀x:Nat,x<128->hasB x YC=bV x:=by decide
theorem ZR(s:ByteArray)(w:World):Calls Tryz.prog 152 #[.string s,.string CZ] w fun r w'=>r=.returned (.bool (allB bG s))/\Below w.heap.size w w':=
 ZQ s CZ bG aKU (by decide) (by decide) aKT (by intro x h;unfold bG at h;have:=aL2 h;omega) w
theorem aFF(s:ByteArray)(w:World):Calls Tryz.prog 152 #[.string s,.string YC] w fun r w'=>r=.returned (.bool (allB bV s))/\Below w.heap.size w w':=
 ZQ s YC bV aEW (by decide) (by decide) aEV (by intro x h;unfold bV at h;simp at h;omega) w
end Bk
end
section
open Go.RowKit
namespace Bk
open Un (ba bt ri rb aS aZ)
theorem size_pos(n:Int)(w:World)(h0:0<=n)(h1:n<9223372036854775808):Calls Tryz.prog 216 #[.int .i64 n] w fun r w'=>r=.returned (.int .u64 n)/\w=w':=by
 go_enter Tryz.func216,Tryz.ntmps216
 go_wp2
 go_ret
 exact⟨ri (by omega),rfl⟩
theorem aBT(n:Int)(w:World)(h0:0<=n)(h1:n<18446744073709551616):Calls Tryz.prog 217 #[.int .u64 n,.bool false] w fun r w'=>r=.returned (.tuple #[.int .i64 (if n<=9223372036854775807 then n else 0),.int .i64 (if n<=9223372036854775807 then 0 else 15)])/\w=w':=by
 by_cases c:n<=9223372036854775807
 . rw[aDk c,aDk c]
   go_enter Tryz.func217,Tryz.ntmps217
   go_wp2
   go_ret2
   exact⟨aS (by omega) rfl,rfl⟩
 rw[aBx c,aBx c]
 go_enter Tryz.func217,Tryz.ntmps217
 go_wp2
 go_ret2
 exact⟨rfl,rfl⟩
def mulC(a b:Int):Int × Int:=if a * b<=9223372036854775807 then(a * b,0)else(0,15)
theorem mul_any(a b:Int)(w:World)(a0:0<=a)(a1:a<9223372036854775808)(b0:0<=b)(b1:b<9223372036854775808):
 Calls Tryz.prog 195 #[.int .i64 a,.int .i64 b] w fun r w'=>r=.returned (.tuple #[.int .i64 (mulC a b).1,.int .i64 (mulC a b).2])/\Below w.heap.size w w':=by
 have HA:=rG (fun w=>size_pos a w a0 a1);have HB:=rG (fun w=>size_pos b w b0 b1);have HM: ∀W,Calls Tryz.prog 215 #[.int .u64 a,.int .u64 b] W fun e w'=>e=.returned (.tuple #[.int .u64 (a * b / 18446744073709551616),.int .u64 (a * b % 18446744073709551616)])/\w'=W:=by
  intro W;have:=Tryz.bits_Mul64 a.toNat b.toNat (by omega) (by omega) W;rw[show ((a.toNat:Nat):Int)=a by omega,show((b.toNat:Nat):Int)=b by omega]at this;have e:((a.toNat * b.toNat:Nat):Int)=a * b:=by rw[Int.natCast_mul,show((a.toNat:Nat):Int)=a by omega,show((b.toNat:Nat):Int)=b by omega]
  rw[Int.natCast_ediv,Int.natCast_emod,e]at this;exact this
 have m0:0<=a * b:=aYt a0 b0;have m1:a * b<9223372036854775808 * 9223372036854775808:=by
  have h1:=Int.mul_le_mul_of_nonneg_left (show b<=9223372036854775807 by omega) a0;omega
 unfold mulC;generalize a * b=m at *;obtain⟨hi,hhi⟩: ∃h,h=m / 18446744073709551616:=⟨_,rfl⟩;obtain⟨lo,hlo⟩: ∃h,h=m % 18446744073709551616:=⟨_,rfl⟩;rw[<-hhi,<-hlo]at HM;have k0:0<=hi:=by omega
 have k1:hi<18446744073709551616:=by omega
 have k2:0<=lo:=by omega
 have k3:lo<18446744073709551616:=by omega
 have HS:=rG (fun w=>aBT lo w k2 k3);have E:=rG (show m=hi * 18446744073709551616+lo by omega);replace HM:=rG HM;clear hhi hlo m1
 by_cases c:0<hi
 . have hno: ¬m<=9223372036854775807:=by have:=E.out;omega
   simp only[aBx hno];clear hno
   go_enter Tryz.func195,Tryz.ntmps195
   go_wp2_with (first|(go_at_call 216;(first|with_reducible refine(HA.out _).mono ?_|with_reducible refine(HB.out _).mono ?_);rintro _ w' ⟨rfl,rfl⟩)|(go_at_call 215;with_reducible refine(HM.out _).mono ?_;rintro _ w' ⟨rfl,rfl⟩))
   go_ret2
   exact⟨rfl,ba (aAI _ _) _⟩
 have e:hi=0:=by omega
 subst e;have hm:m=lo:=by have:=E.out;omega
 subst hm;clear E
 by_cases c:m<=9223372036854775807
 all_goals
  first|simp only[aDk c]at HS ⊢ |simp only[aBx c]at HS ⊢
  clear c;have na:decide (a<0)=false:=aBy (by omega);have nb:decide (b<0)=false:=aBy (by omega)
  go_enter Tryz.func195,Tryz.ntmps195
  go_wp2_with (first|(go_at_call 216;(first|with_reducible refine(HA.out _).mono ?_|with_reducible refine(HB.out _).mono ?_);rintro _ w' ⟨rfl,rfl⟩)|(go_at_call 215;with_reducible refine(HM.out _).mono ?_;rintro _ w' ⟨rfl,rfl⟩)|(go_at_call 217;with_reducible refine(HS.out _).mono ?_;rintro _ w' ⟨rfl,rfl⟩))
  go_ret2
  exact⟨rfl,ba (aAI _ _) _⟩
end Bk
end
section
namespace Bk
theorem MS(s:ByteArray):s.toList.length=s.size:=by rw[aWz];simp
theorem WY{s:ByteArray}(h:s.size=0):s.toList.isEmpty=true:=by
 have:=MS s;rw[List.isEmpty_iff,<-aTw];omega
theorem N7{s:ByteArray}(h: ¬s.size=0):s.toList.isEmpty=false:=by
 have:=MS s
 cases e:s.toList.isEmpty
 . rfl
 rw[List.isEmpty_iff]at e;rw[e]at this;simp at this;omega
theorem fB(s:ByteArray):(s.size=0/\s.toList.isEmpty=true)\/(¬s.size=0/\s.toList.isEmpty=false):=by
 by_cases h:s.size=0
 . exact .inl ⟨h,WY h⟩
 exact .inr ⟨h,N7 h⟩
theorem aOj(s:ByteArray):s.toList.isEmpty=decide (s.size=0):=by
 rcases fB s with⟨h,e⟩|⟨h,e⟩
 . rw[e,aBz h]
 rw[e,aBy h]
end Bk
end
section
open Go.RowKit Go.Lib
namespace Bk
open Un (ba bt ri rb aS aZ)
theorem CY{s:ByteArray}(h:allB bV s=true)(i:Nat)(hi:i<s.size):aX s i=88\/(48<=aX s i/\aX s i<=57):=by
 have:=(kJ _ _).1 h i hi;unfold bV at this;simp at this;omega
theorem zS{s:ByteArray}(h4:s.size=4)(h:allB bV s=true):MOk (aX s):=fun i hi=>CY h i (by omega)
theorem uG(s:ByteArray)(w:World)(h4:s.size=4)(hx:allB bV s=true):
 Calls Tryz.prog 196 #[.string s] w fun r w'=>r=.returned (.int .i64 0)/\Below w.heap.size w w':=by
 have HS:=rG (fun(i:Nat) (hi:i<s.size)=>CY hx i hi);have H4:=rG h4;have l1: ¬(18:Int)<s.size:=by omega
 have l2: ¬s.size=0:=by omega
 have l3:0<s.size:=by omega
 have l4:=N7 l2;clear hx h4
 go_enter Tryz.func196,Tryz.ntmps196
 go_wp2
 go_loopg [] s.size (fun gf wx=> ∃pos:Nat,wx.heap[w.heap.size]? =some (.stringIter s pos)/\Below w.heap.size w wx/\s.size<=pos+gf)
 case atStart=>exact⟨0,World.iter_heap w s 0,(aAI _ w).alloc (aEc _) _,by omega⟩
 case round=>
  obtain⟨pos,hit,hbw,hfu⟩:=hrel
  by_cases hps:pos<s.size
  . obtain⟨g',rfl⟩: ∃g',gk=g'+1:=⟨gk - 1,by omega⟩;have hbd:=HS.out pos hps;rw[bQ s pos hps]at hbd;have hnx: ∀ty,(Instr.next (.pointer (some ⟨w.heap.size,0,none⟩)) true ty).run Tryz.prog wr=_:=fun ty=>Lib.run_next_any_at wr w.heap.size s pos ty hit hps;have hde:=aXL s pos hps (by omega);rw[hde]at hnx;generalize (s[pos]'hps).toNat=R at hnx hbd hde;have hit2:=Lib.iterAt_heap wr w.heap.size s pos (pos+1) hit;have hbw2:=Lib.below_iterAt hbw (k:=w.heap.size) (aEc _) s (pos+1);clear hde;rcases hbd with h|⟨h1,h2⟩
    . have h:R=88:=by omega
      subst h
      go_wp2
      go_roundg g'
      case measure=>omega
      case rel=>exact⟨pos+1,hit2,hbw2,by omega⟩
    have e1:((R:Int)==88)=false:=by rw[aBA];omega
    have e2:((R:Int) !=88)=true:=by rw[aN0];omega
    have e3: ¬(R:Int)<48:=by omega
    have e4: ¬(57:Int)<R:=by omega
    go_wp2
    go_roundg g'
    case measure=>omega
    case rel=>exact⟨pos+1,hit2,hbw2,by omega⟩
  have hnx: ∀ty,(Instr.next (.pointer (some ⟨w.heap.size,0,none⟩)) true ty).run Tryz.prog wr=_:=fun ty=>Lib.run_next_end_at wr w.heap.size s pos ty hit hps
  go_wp2
  go_ret
  exact⟨rfl,hbw⟩
theorem aFz(n:Nat)(w:World)(h:n<=18):Calls Tryz.prog 219 #[.int .i64 n] w fun r w'=>r=.returned (.int .i64 (p10 n))/\w=w':=by
 have HT:=rG (fun w=>SI n w h);generalize p10 n=p at *
 go_enter Tryz.func219,Tryz.ntmps219
 go_wp2_with (go_at_call 194;with_reducible refine(HT.out _).mono ?_;rintro _ w' ⟨rfl,rfl⟩)
 go_ret
 exact⟨rfl,rfl⟩
theorem tH(s:ByteArray)(n:Int)(w:World)(h4:s.size=4):
 Calls Tryz.prog 198 #[.string s,.int .i64 n] w fun r w'=>r=.returned (.bool (decide (0<=n)&&decide (n<10000)))/\w=w':=by
 have HP:Hid (∀w:World,Calls Tryz.prog 219 #[.int .i64 s.size] w fun r w'=>r=.returned (.int .i64 10000)/\w=w'):=rG (by
  intro w;have:=aFz 4 w (by omega);rw[h4];exact this)
 clear h4
 by_cases c:0<=n<;>by_cases c2:n<10000
 all_goals
  go_enter Tryz.func198,Tryz.ntmps198
  go_wp2_with (go_at_call 219;with_reducible refine(HP.out _).mono ?_;rintro _ w' ⟨rfl,rfl⟩)
  go_ret
  exact⟨rb (by simp[c,c2]),rfl⟩
def pv(o:Nat->Int):Nat->Int
 |0=>0
 |k+1=>10 * pv o k+(o k - 48)
theorem pv4(o:Nat->Int):pv o 4=cZ o:=by unfold cZ;simp only[pv];omega
theorem aUr{o:Nat->Int}(h: ∀i,i<4->48<=o i/\o i<=57)(k:Nat)(hk:k<=4):0<=pv o k/\pv o k<=9999:=by
 have a0:=h 0 (by omega);have a1:=h 1 (by omega);have a2:=h 2 (by omega);have a3:=h 3 (by omega);obtain rfl|rfl|rfl|rfl|rfl:k=0\/k=1\/k=2\/k=3\/k=4:=by omega
 all_goals simp only[pv];omega
theorem aBe(w:World)(s:ByteArray)(cap:Nat)(T:TypeId)(m:Nat × Nat)(i:Nat)(h:i<s.size):(w.drew.alloc (.cells (bytesRow s cap) T m)).cell? ⟨w.heap.size,i,none⟩=some (.int .u8 ((s[i]'h).toNat:Int)):=by
 have:=World.cell?_alloc_mark w.drew (bytesRow s cap) T m i;rw[show w.drew.heap.size=w.heap.size from rfl]at this;rw[this,bytesRow_at s cap i h]
 rfl
theorem OD(w:World)(s:ByteArray): ∃(cap:Nat) (W1:World),(convert 9 207 (.string s)).run Tryz.prog w=.ok (.slice (some ⟨w.heap.size,0,none⟩) s.size cap) W1/\(∀i (h:i<s.size),W1.cell? ⟨w.heap.size,i,none⟩=some (.int .u8 ((s[i]'h).toNat:Int)))/\Below w.heap.size w W1:=
 ⟨_,_,run_bytes_of_string (P:=Tryz.prog) w 9 207 5 s Tryz.underlying9 Tryz.underlying207 Tryz.underlying5,fun i h=>aBe w s _ _ _ i h,ba (aAI _ _).drew _⟩
theorem zX(s:ByteArray)(x:Int)(o:Nat->Int)(w:World)(h4:s.size=4)(ho: ∀i,i<4->o i=if aX s i=88 then x else aX s i)(hd: ∀i,i<4->48<=o i/\o i<=57):
 Calls Tryz.prog 218 #[.string s,.int .u8 x] w fun r w'=>r=.returned (.int .i64 (cZ o))/\Below w.heap.size w w':=by
 obtain⟨cap,W1,hcv,hC,hB⟩:=OD w s;have HC:=rG hC;clear hC;have HO:=rG ho;have HD:=rG hd;have HP:=rG (fun k hk=>aUr hd k hk);clear ho hd;have H4:=rG h4;have l4:(s.size:Int)=4:=by omega
 replace l4:=rG l4;clear h4
 go_enter Tryz.func218,Tryz.ntmps218
 go_wp2
 clear hcv
 go_loop [5,11] (fun n i=> ∃k:Nat,k<=s.size/\i=.int .i64 k/\n=.int .i64 (pv o k)) (fun _ i=>s.size - (intOf i).toNat)
 case atStart=>exact⟨0,aJS _,rfl,rfl⟩
 case round=>
  obtain⟨k,hk,rfl,rfl⟩:=hrel;have p0:=HP.out k (by have:=H4.out;omega)
  by_cases hlt:k<s.size
  . have k4:k<4:=by have:=H4.out;omega
    have hc:=HC.out k hlt;have ho:=HO.out k k4;have hd:=HD.out k k4;rw[bQ s k hlt]at ho;have p1:=HP.out (k+1) (by omega);have hs:pv o (k+1)=10 * pv o k+(o k - 48):=rfl
    by_cases c:((s[k]'hlt).toNat:Int)=88
    . rw[aDk c]at ho;have HS:=rG hs;have HO2:=rG ho;rw[hs,ho]at p1;rw[ho]at hd;have cb:(((s[k]'hlt).toNat:Int)==88)=true:=by rw[c];rfl
      clear hs ho c;obtain⟨d0,d1⟩:=hd
      go_wp2
      go_round
      case rel=>exact⟨k+1,by omega,by go_num,by rw[HS.out,HO2.out]⟩
      case measure=>simp[intOf];omega
    rw[aBx c]at ho;have HS:=rG hs;have HO2:=rG ho;rw[hs,ho]at p1;rw[ho]at hd;have cb:(((s[k]'hlt).toNat:Int)==88)=false:=by rw[aBA];exact c
    clear hs ho c;obtain⟨d0,d1⟩:=hd
    go_wp2
    go_round
    case rel=>exact⟨k+1,by omega,by go_num,by rw[HS.out,HO2.out]⟩
    case measure=>simp[intOf];omega
  have e:k=4:=by have:=H4.out;omega
  subst e
  go_wp2
  go_ret
  exact⟨ri (pv4 o),hB⟩
def TV(o:Nat->Int):Value:=.agg #[.int .u8 (o 0),.int .u8 (o 1),.int .u8 (o 2),.int .u8 (o 3),.int .u8 (o 4),.int .u8 (o 5),.int .u8 (o 6),.int .u8 (o 7),.int .u8 (o 8),.int .u8 (o 9),.int .u8 (o 10),.int .u8 (o 11),.int .u8 (o 12),.int .u8 (o 13),.int .u8 (o 14),.int .u8 (o 15),.int .u8 (o 16),.int .u8 (o 17)]
def XJ(o:Nat->Int):Array Value:= #[.int .u8 (o 0),.int .u8 (o 1),.int .u8 (o 2),.int .u8 (o 3),.int .u8 (o 4),.int .u8 (o 5),.int .u8 (o 6),.int .u8 (o 7),.int .u8 (o 8),.int .u8 (o 9),.int .u8 (o 10),.int .u8 (o 11),.int .u8 (o 12),.int .u8 (o 13),.int .u8 (o 14),.int .u8 (o 15),.int .u8 (o 16),.int .u8 (o 17)]
def Dn(n:Int)(i:Nat):Int:=if i<4 then 48+dg n i else 0
structure Ar(p:Nat)(o:Nat->Int)(w W:World):Prop where
 cell: ∀i,i<18->W.cell? ⟨p,i,none⟩=some (.int .u8 (o i))
 free: ∀i,i<18->W.frozen? ⟨p,i,none⟩=false
 new:w.heap.size<=p
 below:Below w.heap.size w W
theorem Ar.later{p:Nat}{o:Nat->Int}{w W W2:World}(h:Ar p o w W)(hb:Below W.heap.size W W2):Ar p o w W2:=
 have hl:=aP1 _ _ (h.cell 0 (by omega))
 ⟨fun i hi=>(hb.cell (p:=⟨p,i,none⟩) hl).trans (h.cell i hi),fun i hi=>(hb.frozen (p:=⟨p,i,none⟩) hl).trans (h.free i hi),h.new,bt h.below hb⟩
theorem Ar.set{p:Nat}{o:Nat->Int}{w W:World}(h:Ar p o w W)(k:Nat)(hk:k<18)(v:Int):Ar p (fun i=>if i=k then v else o i) w (W.setCell ⟨p,k,none⟩ (.int .u8 v)):=by
 refine⟨fun i hi=>?_,fun i hi=>by rw[aTl];exact h.free i hi,h.new,h.below.setCell h.new _⟩
 by_cases c:i=k
 . subst c;rw[aDk rfl];exact aWa _ _ _ (h.cell i hi)
 rw[aBx c,aQl _ _ _ _ (by intro e;injection e with e1 e2;exact c e2.symm)];exact h.cell i hi
theorem Ar.other{p q:Nat}{o:Nat->Int}{w W:World}(h:Ar p o w W)(hne:q≠p)(hq:w.heap.size<=q)(k:Nat)(v:Value):Ar p o w (W.setCell ⟨q,k,none⟩ v):=by
 refine⟨fun i hi=>?_,fun i hi=>by rw[aTl];exact h.free i hi,h.new,h.below.setCell hq _⟩;rw[aQl _ _ _ _ (by intro e;injection e with e1 e2;exact hne e1)];exact h.cell i hi
theorem Ar.fresh(o:Nat->Int)(w:World)(t:TypeId):Ar w.heap.size o w (w.alloc (.cells (XJ o) t)):=by
 refine⟨fun i hi=>?_,fun i hi=>by simp,aEc _,ba (aAI _ _) _⟩;unfold XJ;obtain rfl|rfl|rfl|rfl|rfl|rfl|rfl|rfl|rfl|rfl|rfl|rfl|rfl|rfl|rfl|rfl|rfl|rfl:i=0\/i=1\/i=2\/i=3\/i=4\/i=5\/i=6\/i=7\/i=8\/i=9\/i=10\/i=11\/i=12\/i=13\/i=14\/i=15\/i=16\/i=17:=by omega
 all_goals simp[go_sem]
end Bk
end
section
open Go.RowKit Go.Lib
namespace Bk
open Un (ba bt ri rb aS aZ)
theorem byte_of{x:Int}(h0:0<=x)(h1:x<256):((UInt8.ofNat x.toNat).toNat:Int)=x:=by
 rw[aTC];omega
theorem RN(s:ByteArray)(o:Nat->Int)(w:World)(h4:s.size=4)(hd: ∀i,i<4->48<=o i/\o i<=57):
 Calls Tryz.prog 221 #[.string s,TV o] w fun r w'=>r=.returned (.int .i64 (cZ o))/\Below w.heap.size w w':=by
 have hA:=Ar.fresh o w 255;obtain⟨S,hS⟩: ∃S,S=strOfNums [o 0,o 1,o 2,o 3]:=⟨_,rfl⟩;have h5:S.size=4:=by rw[hS,strOfNums_size];rfl
 have hb: ∀i,i<4->aX S i=o i:=by
  intro i hi;have:=hd i hi;unfold aX;rw[hS,strOfNums_data];obtain rfl|rfl|rfl|rfl:i=0\/i=1\/i=2\/i=3:=by omega
  all_goals exact byte_of (by omega) (by omega)
 have HF:=rG (fun w=>zX S 0 o w h5 (fun i hi=>by rw[hb i hi,aBx (by have:=hd i hi;omega)]) hd);have HS:=rG hS;clear hb h5 hS;unfold TV
 go_enter Tryz.func221,Tryz.ntmps221
 go_upto_region 1 with(fail)
 unfold XJ at hA;generalize w.alloc (.cells #[.int .u8 (o 0),.int .u8 (o 1),.int .u8 (o 2),.int .u8 (o 3),.int .u8 (o 4),.int .u8 (o 5),.int .u8 (o 6),.int .u8 (o 7),.int .u8 (o 8),.int .u8 (o 9),.int .u8 (o 10),.int .u8 (o 11),.int .u8 (o 12),.int .u8 (o 13),.int .u8 (o 14),.int .u8 (o 15),.int .u8 (o 16),.int .u8 (o 17)] 255)=W0 at hA ⊢;have hcv:=run_convert_bytes_arg (P:=Tryz.prog) W0 207 5 Tryz.underlying207 Tryz.underlying5 w.heap.size 0 4 18 [o 0,o 1,o 2,o 3] rfl (by
  intro i hi;rw[aKP,hA.cell i (by omega)];obtain rfl|rfl|rfl|rfl:i=0\/i=1\/i=2\/i=3:=by omega
  all_goals rfl) 9 Tryz.underlying9
 rw[<-HS.out]at hcv;have hBl:=hA.below;clear hA hd
 go_wp2_with (go_at_call 218;with_reducible refine(HF.out _).mono ?_;rintro _ w' ⟨rfl,hb⟩)
 go_ret
 exact⟨rfl,bt hBl hb⟩
theorem Ar.congr{p:Nat}{o o':Nat->Int}{w W:World}(h:Ar p o w W)(e: ∀i,i<18->o i=o' i):Ar p o' w W:=
 ⟨fun i hi=>by rw[<-e i hi];exact h.cell i hi,h.free,h.new,h.below⟩
theorem U0 {w:World} {a:Addr} {v:Value} (h:w.cell? a=some v):w.setCell a v=w:=by
 have e : (w.setCell a v).heap=w.heap:=by
  unfold World.setCell;apply Array.ext
  . simp
  intro i h1 h2;simp only[Array.getElem_modify]
  split
  . rename_i hi
    subst hi;unfold World.cell? at h;rw[aMl h2]at h
    cases hb:w.heap[a.block]with
    |cells c e f=>
     rw[hb]at h;simp only at h;show Obj.cells (if a.spot.isSome=true then c else c.setIfInBounds a.off v) e f=Obj.cells c e f
     by_cases hs:a.spot.isSome=true
     . rw[aDk hs]
     rw [aBx hs]at h ⊢
     congr 1
     apply Array.ext
     . simp
     intro j g1 g2;rw[Array.getElem_setIfInBounds]
     split
     . rename_i hj
       subst hj;rw[aMl g2]at h;injection h with h;exact h.symm
     rfl
    |_=>rfl
  rfl
 show({ w with heap:=(w.setCell a v).heap }:World)=w;rw[e]
theorem dQ{fn:Func}{p:Tmp}{ty:TypeId}(h:fn.results= #[.cell p ty])(tmps:Array Value){P:Program}{w:World}{a:Addr}{v:Value}
 (hp:tmps.getD p undef=.pointer (some a)) (hl:(loadVar ty a).run P w=.ok v w):(results fn tmps).run P w=.ok v w:=by
 have hp':tmps[p]?.getD undef=.pointer (some a):=by simpa using hp
 simp[results,h,hp',asAddr,hl]
def gK(o:Nat->Int):List Value:=(List.range 18).map fun i=>.int .u8 (o i)
theorem BU(o:Nat->Int):(Value.agg (gK o).toArray)=TV o:=rfl
theorem fE:(Tryz.prog.info? 255).map (·.size)=some 18:=by kernel_rfl
theorem aGp(o:Nat->Int)(j:Nat)(v:Value)(h:(gK o)[j]? =some v):j<18/\v=.int .u8 (o j):=by
 unfold gK at h;rw[aHG,aL3]at h;obtain⟨a,ha,rfl⟩:=h;obtain⟨hj,rfl⟩:=aHI.1 ha;simp at hj ⊢;exact hj
theorem Ar.range{p:Nat}{o:Nat->Int}{w W:World}(h:Ar p o w W):W.rangeAt p 0 (gK o):=by
 intro j v hv;obtain⟨hj,rfl⟩:=aGp o j v hv;rw[aKP];exact h.cell j hj
theorem Ar.aUV{p:Nat}{o:Nat->Int}{w W:World}(h:Ar p o w W):(loadVar 255 ⟨p,0,none⟩).run Tryz.prog W=.ok (TV o) W:=
 aMj W p 0 _ (gK o) _ h.range Tryz.underlying255 rfl fE
theorem yR{p:Nat}{W:World}: ∀(vs:List Value) (k:Nat),W.rangeAt p k vs->W.setCells p k vs=W
 |[],_,_=>rfl
 |v::r,k,h=>by
  unfold World.setCells;rw[U0 (show W.cell? ⟨p,k,none⟩=some v from h 0 v rfl)];exact yR r (k+1) (fun j u hj=>by rw[show k+1+j=k+(j+1) by omega];exact h (j+1) u hj)
theorem Ar.there{p:Nat}{o:Nat->Int}{w W:World}(h:Ar p o w W):W.there p 0 (gK o).toArray.size:=fun j hj=>by
 have hj:j<18:=hj;rw[aKP,h.cell j hj];exact⟨rfl,h.free j hj⟩
theorem ZT(o:Nat->Int):(gK o).toArray.all (·.oneCell')=true:=all_oneCell_toArray (fun v hv=>by
 unfold gK at hv;rw[aPo]at hv;obtain⟨i,_,rfl⟩:=hv
 rfl)
theorem Ar.self{p:Nat}{o:Nat->Int}{w W:World}(h:Ar p o w W):W.setCells p 0 (gK o).toArray.toList=W:=yR (gK o) 0 h.range
def nd(n:Int)(j:Nat):Int:=if j=0 then n else if j=1 then n / 10 else if j=2 then n / 100 else if j=3 then n / 1000 else n / 10000
def Sp(n:Int)(j i:Nat):Int:=if 4<=i+j/\i<4 then 48+dg n i else 0
theorem aPg(n:Int)(i:Nat):Sp n 4 i=Dn n i:=by
 unfold Sp Dn
 by_cases h:i<4
 . rw[aDk ⟨by omega,h⟩,aDk h]
 rw[aBx (by omega),aBx h]
theorem MB(n:Int)(h0:0<=n)(h1:n<=9999)(j:Nat)(hj:j<4):0<=nd n j/\nd n j<=9999/\nd n (j+1)=nd n j / 10/\dg n (3 - j)=nd n j % 10:=by
 unfold nd dg;obtain rfl|rfl|rfl|rfl:j=0\/j=1\/j=2\/j=3:=by omega
 all_goals simp
 all_goals omega
theorem Ar.zero(w:World)(t:TypeId):Ar w.heap.size (fun _=>0) w (w.alloc (.cells #[.int .u8 0,.int .u8 0,.int .u8 0,.int .u8 0,.int .u8 0,.int .u8 0,.int .u8 0,.int .u8 0,.int .u8 0,.int .u8 0,.int .u8 0,.int .u8 0,.int .u8 0,.int .u8 0,.int .u8 0,.int .u8 0,.int .u8 0,.int .u8 0] t)):=Ar.fresh (fun _=>0) w t
theorem RP(s:ByteArray)(n:Int)(w:World)(h4:s.size=4)(h0:0<=n)(h1:n<=9999):
 Calls Tryz.prog 220 #[.string s,.int .i64 n] w fun r w'=>r=.returned (TV (Dn n))/\Below w.heap.size w w':=by
 have hA:=Ar.zero w 255;have HN:=rG (fun j hj=>MB n h0 h1 j hj);have hSn: ∀j,j<4-> ∀i,i<18->(if i=3 - j then 48+dg n (3 - j)else Sp n j i)=Sp n (j+1) i:=by
  intro j hj i hi;unfold Sp
  by_cases c:i=3 - j
  . subst c;rw[aDk rfl,aDk (by omega)]
  rw[aBx c]
  by_cases d:4<=i+j/\i<4
  . rw[aDk d,aDk (by omega)]
  rw[aBx d,aBx (by omega)]
 have HS:=rG hSn;clear hSn;obtain⟨o,ho⟩: ∃o,o=Dn n:=⟨_,rfl⟩;rw[<-ho];have HO:=rG (fun i=>(by rw[ho];exact aPg n i:Sp n 4 i=o i));clear ho
 go_enter Tryz.func220,Tryz.ntmps220
 go_upto_block 0 with(fail)
 generalize w.alloc (.cells #[.int .u8 0,.int .u8 0,.int .u8 0,.int .u8 0,.int .u8 0,.int .u8 0,.int .u8 0,.int .u8 0,.int .u8 0,.int .u8 0,.int .u8 0,.int .u8 0,.int .u8 0,.int .u8 0,.int .u8 0,.int .u8 0,.int .u8 0,.int .u8 0] 255)=W0 at hA ⊢;replace hA:=rG (hA.congr (o':=Sp n 0) (fun i hi=>by unfold Sp;rw[aBx (by omega)]));clear h4
 go_wp2
 go_loopw [1,5] (fun t i wx=> ∃k:Nat,k<=4/\i=.int .i64 ((k:Int) - 1)/\t=.int .i64 (nd n (4 - k))/\Ar w.heap.size (Sp n (4 - k)) w wx) (fun _ i _=>((intOf i)+1).toNat)
 case atStart=>exact⟨4,aEc _,rfl,rfl,hA.out⟩
 case round=>
  obtain⟨k,hk,hi,rfl,hA⟩:=hrel
  by_cases hlt:0<k
  . obtain⟨m,rfl⟩: ∃m,k=m+1:=⟨k - 1,by omega⟩;rw[show (((m+1:Nat):Int)) - 1=(m:Int) by omega]at hi;subst hi;have hj:4 - (m+1)<4:=by omega
    obtain⟨d0,d1,d2,d3⟩:=HN.out _ hj;have hs:=HS.out _ hj;rw[show 4 - (m+1)+1=4 - m by omega]at d2 hs;rw[show 3 - (4 - (m+1))=m by omega]at d3 hs;have hc:=hA.cell m (by omega);have hf:=hA.free m (by omega);have hm:m<18:=by omega
    have hm4:(m:Int)<4:=by omega
    generalize nd n (4 - (m+1))=q at *;have hX:=rG ((hA.set m hm (48+q % 10)).congr (o':=Sp n (4 - m)) (fun i hi=>by rw[<-d3];exact hs i hi));have D2:=rG d2;have e0:0<=q % 10:=by omega
    have e1:q % 10<=9:=by omega
    clear hA hs d2 d3
    go_wp2
    go_roundw
    case rel=>exact⟨m,by omega,rfl,by rw[D2.out],hX.out⟩
    case measure=>simp[intOf]
  as_aux_lemma=>
   obtain rfl:k=0:=by omega
   subst hi;have hA2:=hA.congr (o':=o) (fun i _=>HO.out i);clear hA;have hR:=hA2.range;have hT:=hA2.there;have hS:=rG hA2.self;have hlv:=rG hA2.aUV;have HB:=rG hA2.below;clear hA2
   go_wp2_with (first
    |(refine aHD rfl 255 (.tmp 4) rfl w.heap.size 0 rfl (gK o) _ hR Tryz.underlying255 rfl fE ?_)
    |(refine aQJ rfl 255 (.tmp 4) (.tmp 21) rfl w.heap.size 0 (gK o).toArray rfl rfl hT fE (ZT o) ?_;rw[hS.out]))
   exact aHE (v:=TV o) (dQ Tryz.results220 _ rfl hlv.out) rfl ⟨rfl,HB.out⟩
end Bk
end
section
open Go.RowKit Go.Lib
namespace Bk
open Un (ba bt ri rb aS aZ)
theorem Ar.fresh0{w W:World}(hb:Below w.heap.size w W)(t:TypeId):Ar W.heap.size (fun _=>0) w (W.alloc (.cells #[.int .u8 0,.int .u8 0,.int .u8 0,.int .u8 0,.int .u8 0,.int .u8 0,.int .u8 0,.int .u8 0,.int .u8 0,.int .u8 0,.int .u8 0,.int .u8 0,.int .u8 0,.int .u8 0,.int .u8 0,.int .u8 0,.int .u8 0,.int .u8 0] t)):=by
 have h:=Ar.zero W t;exact⟨h.cell,h.free,hb.size,ba hb _⟩
theorem Ar.dB{p:Nat}{o:Nat->Int}{w W:World}(h:Ar p o w W)(o':Nat->Int):Ar p o' w (W.setCells p 0 (gK o').toArray.toList):=by
 have key: ∀(vs:List Value) (k:Nat) (W:World),(∀i,k<=i->i<k+vs.length->(W.cell? ⟨p,i,none⟩).isSome=true)->(∀j v,vs[j]? =some v->(W.setCells p k vs).cell? ⟨p,k+j,none⟩=some v):=by
  intro vs
  induction vs with
  |nil=>intro k W _ j v hv;simp at hv
  | cons u r ih=>
   intro k W hs j v hv;unfold World.setCells
   cases j with
   |zero=>
    simp at hv;subst hv;rw[aTs p r (k+1) _ ⟨p,k+0,none⟩ (fun _ _=>.inl (by show k+0<k+1;omega))];obtain⟨x,hx⟩:=aWG.1 (hs k (aEc _) (by simp));exact aWa _ _ _ hx
   |succ j=>
    rw[show k+(j+1)=k+1+j by omega];refine ih (k+1) _ (fun i h1 h2=>?_) j v (by simpa using hv);rw[aQl _ _ _ _ (by intro e;injection e with _ e2;omega)];exact hs i (by omega) (by simp;omega)
 have fz: ∀(vs:List Value) (k:Nat) (W:World) (i:Nat),(W.setCells p k vs).frozen? ⟨p,i,none⟩=W.frozen? ⟨p,i,none⟩:=by
  intro vs
  induction vs with
  |nil=>intro k W i;rfl
  |cons u r ih=>intro k W i;unfold World.setCells;rw[ih,aTl]
 have bl: ∀(vs:List Value) (k:Nat) (W:World),Below w.heap.size w W->Below w.heap.size w (W.setCells p k vs):=by
  intro vs
  induction vs with
  |nil=>intro k W hb;exact hb
  |cons u r ih=>intro k W hb;unfold World.setCells;exact ih _ _ (hb.setCell h.new _)
 have hl:(gK o').toArray.toList=gK o':=rfl;rw[hl];refine⟨fun i hi=>?_,fun i hi=>by rw[fz];exact h.free i hi,h.new,bl _ _ _ h.below⟩;have:=key (gK o') 0 W (fun j _ hj=>by
  have hj:j<18:=by have:(gK o').length=18:=rfl;omega
  rw[h.cell j hj];rfl) i (.int .u8 (o' i)) (by
   unfold gK;rw[aHG,aTx hi];rfl)
 rw[aKP]at this;exact this
theorem Ar.others{p q:Nat}{o:Nat->Int}{w W:World}(h:Ar p o w W)(hne:q≠p)(hq:w.heap.size<=q): ∀(vs:List Value) (k:Nat),Ar p o w (W.setCells q k vs):=by
 intro vs
 induction vs generalizing W with
 |nil=>intro k;exact h
 |cons u r ih=>intro k;unfold World.setCells;exact ih (h.other hne hq k u) (k+1)
theorem Ar.alloc{p:Nat}{o:Nat->Int}{w W:World}(h:Ar p o w W)(ob:Obj):Ar p o w (W.alloc ob):=h.later (ba (aAI _ _) _)
def aEI(P:Int->Int->Prop)(w:World)(e:Ending)(w':World):Prop:= ∃v x,P v x/\e=.returned (.tuple #[.int .i64 v,.int .i64 x])/\Below w.heap.size w w'
def aEN(b:Nat->Int)(n:Int)(j:Nat)(o:Nat->Int):Prop:= ∀o':Nat->Int,(∀i,i<j->o' i=o i)->(∀i,j<=i->i<4->o' i=if b i=88 then 48 else b i)->
 (pG b (cZ o')/\n<=cZ o'/\ ∀f,pG b f->n<=f->cZ o'<=f)/\(∀i,i<4->48<=o' i/\o' i<=57)
def aEO(b:Nat->Int)(n:Int)(j:Nat)(o:Nat->Int):Prop:= ∀o':Nat->Int,(∀i,i<j->o' i=o i)->(∀i,j<=i->i<4->o' i=if b i=88 then 57 else b i)->
 (pG b (cZ o')/\cZ o'<=n/\ ∀f,pG b f->f<=n->f<=cZ o')/\(∀i,i<4->48<=o' i/\o' i<=57)
theorem GX{n:Int}(h0:0<=n)(h1:n<=9999)(i:Nat):0<=dg n i/\dg n i<=9:=by unfold dg;(repeat' split)<;>omega
theorem JM{b:Nat->Int}(hb:MOk b){x y:Int}{i:Nat}(hi:i<4)(hx:48<=x/\x<=57)(h:y=if b i=88 then x else b i):48<=y/\y<=57:=by
 have:=hb i hi;rw[h];split<;>omega
theorem aC0{b:Nat->Int}{n:Int}{k:Nat}(hb:MOk b)(h0:0<=n)(h1:n<=9999)(hk:k<4)(hf: ∀i,i<k->cO b n i)(hx:b k≠88)(hg:48+dg n k<b k):aEN b n k (Dn n):=by
 intro o ho hr;have ho': ∀i,i<k->o i=48+dg n i:=fun i hi=>by rw[ho i hi];unfold Dn;rw[aDk (by omega)]
 refine⟨aMM hb h0 h1 hk hf hx hg ho' hr,fun i hi=>?_⟩
 by_cases c:i<k
 . rw[ho' i c];have:=GX h0 h1 i;omega
 exact JM hb hi (by omega) (hr i (by omega) hi)
theorem aC2{b:Nat->Int}{n:Int}{k:Nat}(hb:MOk b)(h0:0<=n)(h1:n<=9999)(hk:k<4)(hf: ∀i,i<k->cO b n i)(hx:b k≠88)(hg:b k<48+dg n k):aEO b n k (Dn n):=by
 intro o ho hr;have ho': ∀i,i<k->o i=48+dg n i:=fun i hi=>by rw[ho i hi];unfold Dn;rw[aDk (by omega)]
 refine⟨aOm hb h0 h1 hk hf hx hg ho' hr,fun i hi=>?_⟩
 by_cases c:i<k
 . rw[ho' i c];have:=GX h0 h1 i;omega
 exact JM hb hi (by omega) (hr i (by omega) hi)
theorem aC1{b:Nat->Int}{n:Int}{k j:Nat}(hb:MOk b)(h0:0<=n)(h1:n<=9999)(hk:k<4)(hf: ∀i,i<k->cO b n i)(hx:b k≠88)(hg:b k<48+dg n k)
 (hj:j<k) (hbx:b j=88) (hd:dg n j≠9) (hn: ∀i,j<i->i<k-> ¬(b i=88/\dg n i≠9)):aEN b n (j+1) (fun i=>if i=j then 48+dg n j+1 else Dn n i):=by
 intro o ho hr;have ho': ∀i,i<j->o i=48+dg n i:=fun i hi=>by rw[ho i (by omega)];dsimp only;rw[aBx (by omega)];unfold Dn;rw[aDk (by omega)]
 have hoj:o j=48+dg n j+1:=by rw[ho j (by omega)];dsimp only;rw[aDk rfl]
 have hr': ∀i,j<i->i<4->o i=if b i=88 then 48 else b i:=fun i h1 h2=>hr i (by omega) h2
 refine⟨aMN hb h0 h1 hk hf hx hg hj hbx hd hn ho' hoj hr',fun i hi=>?_⟩
 by_cases c:i<j
 . rw[ho' i c];have:=GX h0 h1 i;omega
 by_cases e:i=j
 . subst e;rw[hoj];have:=GX h0 h1 i;omega
 exact JM hb hi (by omega) (hr i (by omega) hi)
theorem aC3{b:Nat->Int}{n:Int}{k j:Nat}(hb:MOk b)(h0:0<=n)(h1:n<=9999)(hk:k<4)(hf: ∀i,i<k->cO b n i)(hx:b k≠88)(hg:48+dg n k<b k)
 (hj:j<k) (hbx:b j=88) (hd:dg n j≠0) (hn: ∀i,j<i->i<k-> ¬(b i=88/\dg n i≠0)):aEO b n (j+1) (fun i=>if i=j then 48+dg n j - 1 else Dn n i):=by
 intro o ho hr;have ho': ∀i,i<j->o i=48+dg n i:=fun i hi=>by rw[ho i (by omega)];dsimp only;rw[aBx (by omega)];unfold Dn;rw[aDk (by omega)]
 have hoj:o j=48+dg n j - 1:=by rw[ho j (by omega)];dsimp only;rw[aDk rfl]
 have hr': ∀i,j<i->i<4->o i=if b i=88 then 57 else b i:=fun i h1 h2=>hr i (by omega) h2
 refine⟨aOn hb h0 h1 hk hf hx hg hj hbx hd hn ho' hoj hr',fun i hi=>?_⟩
 by_cases c:i<j
 . rw[ho' i c];have:=GX h0 h1 i;omega
 by_cases e:i=j
 . subst e;rw[hoj];have:=GX h0 h1 i;omega
 exact JM hb hi (by omega) (hr i (by omega) hi)
theorem XL (s : ByteArray) (n:Int) (w:World) (h4:s.size=4) (hx:allB bV s=true) (h0:0<=n) (h1:n<=9999):
 Calls Tryz.prog 199 #[.string s,.int .i64 n,.bool true] w (aEI (oU (aX s) n) w):=by
 have hb:=zS h4 hx;have HS:Hid (∀w,Calls Tryz.prog 220 #[.string s,.int .i64 n] w fun r w'=>r=.returned (.agg (gK (Dn n)).toArray)/\Below w.heap.size w w'):=rG (fun w=>by rw[BU];exact RP s n w h4 h0 h1);have HV:Hid (∀(o:Nat->Int) (w:World),(∀i,i<4->48<=o i/\o i<=57)->Calls Tryz.prog 221 #[.string s,.agg (gK o).toArray] w fun r w'=>r=.returned (.int .i64 (cZ o))/\Below w.heap.size w w'):=rG (fun o w hd=>by rw[BU];exact RN s o w h4 hd);have H4:=rG h4;have HM:=rG hb;have HH:=rG (⟨h0,h1⟩:0<=n/\n<=9999);clear h4 hx hb
 go_enter Tryz.func199,Tryz.ntmps199
 go_upto_region 4 with(fail)
 go_cut [10] (fun s10 wx=> ∃pa,s10=.pointer (some ⟨pa,0,none⟩)/\Ar pa (Dn n) w wx)
 case first=>
  clear HV
  go_wp2_with (first
   |(go_at_call 220;with_reducible refine(HS.out _).mono ?_;rintro _ w1 ⟨rfl,hb1⟩;have z1:=Ar.fresh0 hb1 255)
   |(refine aQJ rfl 255 (.tmp 10) (.tmp 19) rfl w1.heap.size 0 (gK (Dn n)).toArray rfl rfl z1.there fE (ZT (Dn n)) ?_))
  go_meet
  exact⟨_,rfl,z1.dB _⟩
 case rest =>
  obtain⟨pa,rfl,hA⟩:=hcut;clear HS
  go_upto_region 5 with(fail)
  go_cut [11] (fun s11 wx=> ∃pb,s11=.pointer (some ⟨pb,0,none⟩)/\pb≠pa/\Ar pa (Dn n) w wx/\Ar pb (Dn n) w wx)
  case first=>
   clear HV;have hR:=hA.range;have z1:=Ar.fresh0 hA.below 255;have hne:wc.heap.size≠pa:=by have:=aP1 _ _ (hA.cell 0 (by omega));show wc.heap.size≠pa;have h2:pa<wc.heap.size:=this;omega
   have hA2:=rG ((hA.alloc (.cells #[.int .u8 0,.int .u8 0,.int .u8 0,.int .u8 0,.int .u8 0,.int .u8 0,.int .u8 0,.int .u8 0,.int .u8 0,.int .u8 0,.int .u8 0,.int .u8 0,.int .u8 0,.int .u8 0,.int .u8 0,.int .u8 0,.int .u8 0,.int .u8 0] 255)).others hne hA.below.size (gK (Dn n)).toArray.toList 0);clear hA
   go_wp2_with (first
    |(refine aHD rfl 255 (.tmp 10) rfl pa 0 rfl (gK (Dn n)) _ hR Tryz.underlying255 rfl fE ?_)
    |(refine aQJ rfl 255 (.tmp 11) (.tmp 20) rfl wc.heap.size 0 (gK (Dn n)).toArray rfl rfl z1.there fE (ZT (Dn n)) ?_))
   go_meet
   exact⟨_,rfl,hne,hA2.out,z1.dB _⟩
  case rest =>
   obtain⟨pb,rfl,hne,hA,hB⟩:=hcut;have HNE:=rG hne;clear hne
   go_upto_block 0 with(fail)
   go_wp2
   go_loopw [12] (fun i wx=> ∃k:Nat,k<=4/\i=.int .i64 k/\(∀i,i<k->cO (aX s) n i)/\Ar pa (Dn n) w wx/\Ar pb (Dn n) w wx) (fun i _=>4 - (intOf i).toNat)
   case atStart=>exact⟨0,aJS _,rfl,fun i hi=>by omega,hA,hB⟩
   case round =>
    obtain⟨k,hk,rfl,hf,hA2,hB2⟩:=hrel;clear hA hB;have HF:=rG hf;clear hf
    by_cases hlt:k<4
    . have hks : k < s.size:=by have:=H4.out;omega
      have aYi:(k:Int)<s.size:=by omega
      have hc:=hA2.cell k (by omega);have hd:Dn n k=48+dg n k:=by unfold Dn;rw[aDk hlt]
      have hbk:=bQ s k hks;rw[hd]at hc;have HC:=rG hbk;have aYk:(k:Int)<18:=by omega
      replace hA2:=rG hA2;replace hB2:=rG hB2;clear hd hbk;obtain⟨d,hdd⟩: ∃d,d=dg n k:=⟨_,rfl⟩;rw[<-hdd]at hc;replace hdd:=rG hdd
      by_cases c1:((s[k]'hks).toNat:Int)=88
      . as_aux_lemma=>
         have t1:(((s[k]'hks).toNat:Int)==88)=true:=by rw[c1];rfl
         have HFn: ∀i,i<k+1->cO (aX s) n i:=by
          intro i hi
          by_cases e:i=k
          . subst e;exact .inl (by rw[HC.out,c1])
          exact HF.out i (by omega)
         replace HFn:=rG HFn;clear c1
         go_wp2
         go_quiet (fail)
         go_wp2
         go_roundw
         case rel=>exact⟨k+1,by omega,by go_num,HFn.out,hA2.out.later (below_drewN (aAI _ _) _),hB2.out.later (below_drewN (aAI _ _) _)⟩
         case measure=>simp[intOf];omega
      have t1 : (((s[k]'hks).toNat:Int)==88)=false:=by rw[aBA];exact c1
      by_cases c2:((s[k]'hks).toNat:Int)=48+d
      . as_aux_lemma=>
         have t2:(((s[k]'hks).toNat:Int)==48+d)=true:=by rw[c2];exact aWO _
         have HFn: ∀i,i<k+1->cO (aX s) n i:=by
          intro i hi
          by_cases e:i=k
          . subst e;exact .inr (by rw[HC.out,c2,hdd.out])
          exact HF.out i (by omega)
         replace HFn:=rG HFn;clear c1 c2
         go_wp2
         go_quiet (fail)
         go_wp2
         go_roundw
         case rel=>exact⟨k+1,by omega,by go_num,HFn.out,hA2.out.later (below_drewN (aAI _ _) _),hB2.out.later (below_drewN (aAI _ _) _)⟩
         case measure=>simp[intOf];omega
      as_aux_lemma =>
       have t2:(((s[k]'hks).toNat:Int)==48+d)=false:=by rw[aBA];exact c2
       have t3:((k:Int)==(s.size:Int))=false:=by rw[aBA];omega
       have C1:=rG c1;clear c1
       go_wp2
       go_quiet (fail)
       rename_i nq
       replace hA2:=rG (hA2.out.later (below_drewN (aAI wr.heap.size wr) nq));replace hB2:=rG (hB2.out.later (below_drewN (aAI wr.heap.size wr) nq));have hc2:(wr.drewN nq).cell? ⟨pa,k,none⟩=some (.int .u8 (48+d)):=hc;clear hc;generalize wr.drewN nq=W2 at *
       go_wp2
       obtain⟨BK,WH⟩: ∃b:Bool,b=decide (((s[k]'hks).toNat:Int)<48+d):=⟨_,rfl⟩
       go_upto_region 11 with(fail)
       go_cut [55] (fun s55 wx=>s55=.bool BK/\ ∃nq,wx=W2.drewN nq)
       case first=>
        as_aux_lemma=>
         by_cases hh:48+d<((s[k]'hks).toNat:Int)
         . obtain rfl:BK=false:=by rw[WH];exact aBy (by omega)
           clear WH;have hcmp:decide (48+d<((s[k]'hks).toNat:Int))=true:=by first|exact aBz (by omega)|exact aBy (by omega)
           go_quiet (fail)
           go_wp2
           go_meet
           exact⟨rfl,_,rfl⟩
         have hh2:((s[k]'hks).toNat:Int)<48+d:=by omega
         obtain rfl:BK=true:=by rw[WH];exact aBz hh2
         have hcmp:decide (48+d<((s[k]'hks).toNat:Int))=false:=by first|exact aBz (by omega)|exact aBy (by omega)
         clear WH hh
         go_quiet (fail)
         go_wp2
         go_meet
         exact⟨rfl,_,rfl⟩
       case rest =>
        obtain⟨rfl,nq2,rfl⟩:=hcut;replace hA2:=rG (hA2.out.later (below_drewN (aAI W2.heap.size W2) nq2));replace hB2:=rG (hB2.out.later (below_drewN (aAI W2.heap.size W2) nq2));clear hc2 t1 t2 t3;generalize W2.drewN nq2=W3 at *
        go_upto_if 55 with(fail)
        go_cut [12] (fun s12 wx=> ∃(j:Nat) (o:Nat->Int),j<=4/\s12=.int .i64 j/\Ar pb o w wx/\aEN (aX s) n j o)
        case first =>
         as_aux_lemma=>
          clear HV
          cases BK
          . have hh:48+d<((s[k]'hks).toNat:Int):=by have:=aMm WH.symm;omega
            have HG:=aC0 HM.out HH.out.1 HH.out.2 hlt HF.out (by rw[HC.out];exact C1.out) (by rw[HC.out,<-hdd.out];exact hh);replace HG:=rG HG;clear WH hh
            go_wp2
            go_meet
            exact⟨k,Dn n,by omega,rfl,hB2.out,HG.out⟩
          have hh :((s[k]'hks).toNat:Int)<48+d:=aL2 WH.symm;have hg2:=rG (show aX s k<48+dg n k by rw[HC.out,<-hdd.out];exact hh);clear WH hh hdd
          go_wp2
          go_step3
          go_wp2
          go_step3
          go_wp2
          go_loopw [12] (fun i wx=> ∃m:Nat,m<=k/\i=.int .i64 m/\(∀i,m<=i->i<k-> ¬(aX s i=88/\dg n i≠9))/\Ar pa (Dn n) w wx/\Ar pb (Dn n) w wx) (fun i _=>(intOf i).toNat)
          case atStart=>exact⟨k,aEc _,rfl,fun i h1 h2=>by omega,hA2.out,hB2.out⟩
          case round=>
           obtain⟨m,hm,hi,hno,hA3,hB3⟩:=hrel;clear hA2 hB2;have HNO:=rG hno;clear hno
           by_cases hm0:0<m
           . obtain⟨q,rfl⟩: ∃q,m=q+1:=⟨m - 1,by omega⟩;rw[show (((q+1:Nat)):Int)=(q:Int)+1 by omega]at hi;subst hi;have hq4:q<4:=by omega
             have hqs:q<s.size:=by omega
             have aX9:(q:Int)<s.size:=by omega
             have aYc:(q:Int)<18:=by omega
             have hca:=hA3.cell q (by omega);have hcb:=hB3.cell q (by omega);have hfb:=hB3.free q (by omega);have hDq:Dn n q=48+dg n q:=by unfold Dn;rw[aDk hq4]
             rw[hDq]at hca hcb;have hbq:=rG (bQ s q hqs);have hqb:=GX HH.out.1 HH.out.2 q;obtain⟨e,he⟩: ∃e,e=dg n q:=⟨_,rfl⟩;rw[<-he]at hca hcb hqb;replace he:=rG he;obtain⟨b0,b1⟩:=hqb;clear hDq;have hX:=rG (hB3.set q (by omega) (48+e+1))
             by_cases g1:((s[q]'hqs).toNat:Int)=88
             . by_cases g2:e=9
               . as_aux_lemma=>
                  have u1:(((s[q]'hqs).toNat:Int)==88)=true:=by rw[g1];rfl
                  have u2:(48+e !=57)=false:=by rw[g2];rfl
                  have hN: ∀i,q<=i->i<k-> ¬(aX s i=88/\dg n i≠9):=by
                   intro i h1 h2
                   by_cases c:i=q
                   . subst c;rintro⟨_,h⟩;exact h (by rw[<-he.out];exact g2)
                   exact HNO.out i (by omega) h2
                  replace hN:=rG hN;replace hA3:=rG hA3;replace hB3:=rG hB3;clear g1 g2
                  go_wp2
                  go_roundw
                  case rel=>exact⟨q,by omega,rfl,hN.out,hA3.out,hB3.out⟩
                  case measure=>simp[intOf]
               as_aux_lemma=>
                have u1:(((s[q]'hqs).toNat:Int)==88)=true:=by rw[g1];rfl
                have u2:(48+e !=57)=true:=by rw[aN0];omega
                have hGd:aEN (aX s) n (q+1) (fun i=>if i=q then 48+dg n q+1 else Dn n i):=aC1 HM.out HH.out.1 HH.out.2 hlt HF.out (by rw[HC.out];exact C1.out) hg2.out (by omega) (by rw[hbq.out];exact g1) (by rw[<-he.out];exact g2) (fun i h1 h2=>HNO.out i (by omega) h2);rw[<-he.out]at hGd;replace hGd:=rG hGd;have ee:e<=8:=by omega
                replace hA3:=rG hA3;replace hB3:=rG hB3;clear g1 g2
                go_wp2
                rw[aWD]
                go_wp2
                go_meet
                exact⟨q+1,_,by omega,by go_num,hX.out,hGd.out⟩
             as_aux_lemma=>
              have u1:(((s[q]'hqs).toNat:Int)==88)=false:=by rw[aBA];exact g1
              have hN: ∀i,q<=i->i<k-> ¬(aX s i=88/\dg n i≠9):=by
               intro i h1 h2
               by_cases c:i=q
               . subst c;rintro⟨h,_⟩;exact g1 (by rw[<-hbq.out];exact h)
               exact HNO.out i (by omega) h2
              replace hN:=rG hN;replace hA3:=rG hA3;replace hB3:=rG hB3;clear g1
              go_wp2
              go_roundw
              case rel=>exact⟨q,by omega,rfl,hN.out,hA3.out,hB3.out⟩
              case measure=>simp[intOf]
           as_aux_lemma=>
            obtain rfl:m=0:=by omega
            subst hi;have hN:oU (aX s) n 0 16:=.inr ⟨rfl,rfl,aML HH.out.1 HH.out.2 hlt HF.out (by rw[HC.out];exact C1.out) hg2.out (fun i hi=>HNO.out i (by omega) hi)⟩;replace hN:=rG hN;have HB:=rG hA3.below;clear hA3 hB3
            go_wp2
            rw[aTt]
            go_wp2
            go_ret2
            exact⟨_,_,hN.out,rfl,HB.out⟩
        case rest=>
         as_aux_lemma=>
          obtain⟨j,o,hj,rfl,hO,hG⟩:=hcut;clear hA2 hB2 WH;have HG:=rG hG;clear hG
          go_wp2
          go_loopw [12] (fun i wx=> ∃(m:Nat) (o2:Nat->Int),m<=4/\j<=m/\i=.int .i64 m/\Ar pb o2 w wx/\(∀i,i<j->o2 i=o i)/\(∀i,j<=i->i<m->o2 i=if aX s i=88 then 48 else aX s i)) (fun i _=>4 - (intOf i).toNat)
          case atStart=>exact⟨j,o,hj,aEc _,rfl,hO,fun i _=>rfl,fun i h1 h2=>by omega⟩
          case round=>
           obtain⟨m,o2,hm,hjm,rfl,hO2,hlo,hfi⟩:=hrel;clear hO;have UJ:=rG hlo;have HFI:=rG hfi;clear hlo hfi
           by_cases hm4:m<4
           . as_aux_lemma=>
              have hms:m<s.size:=by have:=H4.out;omega
              have aR7:(m:Int)<s.size:=by omega
              have hm18:(m:Int)<18:=by omega
              have hbm:=bQ s m hms;have hcm:=hO2.cell m (by omega);have hfm:=hO2.free m (by omega);have hX1:=hO2.set m (by omega) ((s[m]'hms).toNat:Int);have hc1:=hX1.cell m (by omega);have hf1:=hX1.free m (by omega)
              by_cases g1:((s[m]'hms).toNat:Int)=88
              . have u1:(((s[m]'hms).toNat:Int)==88)=true:=by rw[g1];rfl
                have hX2:=(hX1.set m (by omega) 48).congr (o':=fun i=>if i=m then(if aX s m=88 then 48 else aX s m)else o2 i) (fun i _=>by
                 (try dsimp only)
                 by_cases c:i=m
                 . rw[aDk c,aDk c,aDk (by rw[hbm];exact g1)]
                 rw[aBx c,aBx c,aBx c])
                replace hX2:=rG hX2;replace hO2:=rG hO2;clear hX1 hc1 hbm g1
                go_wp2
                go_roundw
                case rel=>exact⟨m+1,_,by omega,by omega,by go_num,hX2.out,fun i hi=>by(try dsimp only);rw[aBx (by omega)];exact UJ.out i hi,fun i h1 h2=>by
                 (try dsimp only)
                 by_cases c:i=m
                 . subst c;rw[aDk rfl]
                 rw[aBx c];exact HFI.out i h1 (by omega)⟩
                case measure=>simp[intOf];omega
              have u1:(((s[m]'hms).toNat:Int)==88)=false:=by rw[aBA];exact g1
              have hX2:=hX1.congr (o':=fun i=>if i=m then(if aX s m=88 then 48 else aX s m)else o2 i) (fun i _=>by
               (try dsimp only)
               by_cases c:i=m
               . rw[aDk c,aDk c,aBx (by rw[hbm];exact g1),hbm]
               rw[aBx c,aBx c])
              replace hX2:=rG hX2;replace hO2:=rG hO2;clear hX1 hc1 hf1 hbm g1
              go_wp2
              go_roundw
              case rel=>exact⟨m+1,_,by omega,by omega,by go_num,hX2.out,fun i hi=>by(try dsimp only);rw[aBx (by omega)];exact UJ.out i hi,fun i h1 h2=>by
               (try dsimp only)
               by_cases c:i=m
               . subst c;rw[aDk rfl]
               rw[aBx c];exact HFI.out i h1 (by omega)⟩
              case measure=>simp[intOf];omega
           as_aux_lemma=>
            obtain rfl:m=4:=by omega
            obtain⟨hv,hb⟩:=HG.out o2 UJ.out HFI.out;have hV:=rG (fun w=>HV.out o2 w hb);have hN:oU (aX s) n (cZ o2) 0:=.inl ⟨rfl,hv⟩;replace hN:=rG hN;have aR7:((4:Nat):Int)<s.size->False:=by have:=H4.out;omega
            have hR:=hO2.range;have HB:=rG hO2.below;have h4b:=H4.out;clear hO2 HG HFI UJ hv hb
            go_wp2_with (first
             |(refine aHD rfl 255 (.tmp 11) rfl pb 0 rfl (gK o2) _ hR Tryz.underlying255 rfl fE ?_)
             |(go_at_call 221;with_reducible refine(hV.out _).mono ?_;rintro _ w9 ⟨rfl,hb9⟩))
            go_ret2
            exact⟨_,_,hN.out,rfl,bt HB.out hb9⟩
    as_aux_lemma=>
     obtain rfl:k=4:=by omega
     have hN:oU (aX s) n n 0:=.inl ⟨rfl,MH HH.out.1 HH.out.2 HF.out,aTF _,fun f _ hf=>hf⟩;replace hN:=rG hN;have HB:=rG hA2.below;have h4b:=H4.out;clear hA2 hB2
     go_wp2
     go_quiet (fail)
     go_wp2
     go_ret2
     exact⟨_,_,hN.out,rfl,below_drewN HB.out _⟩
theorem XM (s : ByteArray) (n:Int) (w:World) (h4:s.size=4) (hx:allB bV s=true) (h0:0<=n) (h1:n<=9999):
 Calls Tryz.prog 199 #[.string s,.int .i64 n,.bool false] w (aEI (qL (aX s) n) w):=by
 have hb:=zS h4 hx;have HS:Hid (∀w,Calls Tryz.prog 220 #[.string s,.int .i64 n] w fun r w'=>r=.returned (.agg (gK (Dn n)).toArray)/\Below w.heap.size w w'):=rG (fun w=>by rw[BU];exact RP s n w h4 h0 h1);have HV:Hid (∀(o:Nat->Int) (w:World),(∀i,i<4->48<=o i/\o i<=57)->Calls Tryz.prog 221 #[.string s,.agg (gK o).toArray] w fun r w'=>r=.returned (.int .i64 (cZ o))/\Below w.heap.size w w'):=rG (fun o w hd=>by rw[BU];exact RN s o w h4 hd);have H4:=rG h4;have HM:=rG hb;have HH:=rG (⟨h0,h1⟩:0<=n/\n<=9999);clear h4 hx hb
 go_enter Tryz.func199,Tryz.ntmps199
 go_upto_region 4 with(fail)
 go_cut [10] (fun s10 wx=> ∃pa,s10=.pointer (some ⟨pa,0,none⟩)/\Ar pa (Dn n) w wx)
 case first=>
  clear HV
  go_wp2_with (first
   |(go_at_call 220;with_reducible refine(HS.out _).mono ?_;rintro _ w1 ⟨rfl,hb1⟩;have z1:=Ar.fresh0 hb1 255)
   |(refine aQJ rfl 255 (.tmp 10) (.tmp 19) rfl w1.heap.size 0 (gK (Dn n)).toArray rfl rfl z1.there fE (ZT (Dn n)) ?_))
  go_meet
  exact⟨_,rfl,z1.dB _⟩
 case rest =>
  obtain⟨pa,rfl,hA⟩:=hcut;clear HS
  go_upto_region 5 with(fail)
  go_cut [11] (fun s11 wx=> ∃pb,s11=.pointer (some ⟨pb,0,none⟩)/\pb≠pa/\Ar pa (Dn n) w wx/\Ar pb (Dn n) w wx)
  case first=>
   clear HV;have hR:=hA.range;have z1:=Ar.fresh0 hA.below 255;have hne:wc.heap.size≠pa:=by have:=aP1 _ _ (hA.cell 0 (by omega));show wc.heap.size≠pa;have h2:pa<wc.heap.size:=this;omega
   have hA2:=rG ((hA.alloc (.cells #[.int .u8 0,.int .u8 0,.int .u8 0,.int .u8 0,.int .u8 0,.int .u8 0,.int .u8 0,.int .u8 0,.int .u8 0,.int .u8 0,.int .u8 0,.int .u8 0,.int .u8 0,.int .u8 0,.int .u8 0,.int .u8 0,.int .u8 0,.int .u8 0] 255)).others hne hA.below.size (gK (Dn n)).toArray.toList 0);clear hA
   go_wp2_with (first
    |(refine aHD rfl 255 (.tmp 10) rfl pa 0 rfl (gK (Dn n)) _ hR Tryz.underlying255 rfl fE ?_)
    |(refine aQJ rfl 255 (.tmp 11) (.tmp 20) rfl wc.heap.size 0 (gK (Dn n)).toArray rfl rfl z1.there fE (ZT (Dn n)) ?_))
   go_meet
   exact⟨_,rfl,hne,hA2.out,z1.dB _⟩
  case rest =>
   obtain⟨pb,rfl,hne,hA,hB⟩:=hcut;have HNE:=rG hne;clear hne
   go_upto_block 0 with(fail)
   go_wp2
   go_loopw [12] (fun i wx=> ∃k:Nat,k<=4/\i=.int .i64 k/\(∀i,i<k->cO (aX s) n i)/\Ar pa (Dn n) w wx/\Ar pb (Dn n) w wx) (fun i _=>4 - (intOf i).toNat)
   case atStart=>exact⟨0,aJS _,rfl,fun i hi=>by omega,hA,hB⟩
   case round =>
    obtain⟨k,hk,rfl,hf,hA2,hB2⟩:=hrel;clear hA hB;have HF:=rG hf;clear hf
    by_cases hlt:k<4
    . have hks : k < s.size:=by have:=H4.out;omega
      have aYi:(k:Int)<s.size:=by omega
      have hc:=hA2.cell k (by omega);have hd:Dn n k=48+dg n k:=by unfold Dn;rw[aDk hlt]
      have hbk:=bQ s k hks;rw[hd]at hc;have HC:=rG hbk;have aYk:(k:Int)<18:=by omega
      replace hA2:=rG hA2;replace hB2:=rG hB2;clear hd hbk;obtain⟨d,hdd⟩: ∃d,d=dg n k:=⟨_,rfl⟩;rw[<-hdd]at hc;replace hdd:=rG hdd
      by_cases c1:((s[k]'hks).toNat:Int)=88
      . as_aux_lemma=>
         have t1:(((s[k]'hks).toNat:Int)==88)=true:=by rw[c1];rfl
         have HFn: ∀i,i<k+1->cO (aX s) n i:=by
          intro i hi
          by_cases e:i=k
          . subst e;exact .inl (by rw[HC.out,c1])
          exact HF.out i (by omega)
         replace HFn:=rG HFn;clear c1
         go_wp2
         go_quiet (fail)
         go_wp2
         go_roundw
         case rel=>exact⟨k+1,by omega,by go_num,HFn.out,hA2.out.later (below_drewN (aAI _ _) _),hB2.out.later (below_drewN (aAI _ _) _)⟩
         case measure=>simp[intOf];omega
      have t1 : (((s[k]'hks).toNat:Int)==88)=false:=by rw[aBA];exact c1
      by_cases c2:((s[k]'hks).toNat:Int)=48+d
      . as_aux_lemma=>
         have t2:(((s[k]'hks).toNat:Int)==48+d)=true:=by rw[c2];exact aWO _
         have HFn: ∀i,i<k+1->cO (aX s) n i:=by
          intro i hi
          by_cases e:i=k
          . subst e;exact .inr (by rw[HC.out,c2,hdd.out])
          exact HF.out i (by omega)
         replace HFn:=rG HFn;clear c1 c2
         go_wp2
         go_quiet (fail)
         go_wp2
         go_roundw
         case rel=>exact⟨k+1,by omega,by go_num,HFn.out,hA2.out.later (below_drewN (aAI _ _) _),hB2.out.later (below_drewN (aAI _ _) _)⟩
         case measure=>simp[intOf];omega
      as_aux_lemma =>
       have t2:(((s[k]'hks).toNat:Int)==48+d)=false:=by rw[aBA];exact c2
       have t3:((k:Int)==(s.size:Int))=false:=by rw[aBA];omega
       have C1:=rG c1;clear c1
       go_wp2
       go_quiet (fail)
       rename_i nq
       replace hA2:=rG (hA2.out.later (below_drewN (aAI wr.heap.size wr) nq));replace hB2:=rG (hB2.out.later (below_drewN (aAI wr.heap.size wr) nq));have hc2:(wr.drewN nq).cell? ⟨pa,k,none⟩=some (.int .u8 (48+d)):=hc;clear hc;generalize wr.drewN nq=W2 at *
       go_wp2
       obtain⟨BK,WH⟩: ∃b:Bool,b=decide (48+d<((s[k]'hks).toNat:Int)):=⟨_,rfl⟩
       go_upto_region 11 with(fail)
       go_cut [55] (fun s55 wx=>s55=.bool BK/\ ∃nq,wx=W2.drewN nq)
       case first=>
        as_aux_lemma=>
         by_cases hh:((s[k]'hks).toNat:Int)<48+d
         . obtain rfl:BK=false:=by rw[WH];exact aBy (by omega)
           clear WH;have hcmp:decide (48+d<((s[k]'hks).toNat:Int))=false:=by first|exact aBz (by omega)|exact aBy (by omega)
           go_quiet (fail)
           go_wp2
           go_meet
           exact⟨rfl,_,rfl⟩
         have hh2:48+d<((s[k]'hks).toNat:Int):=by omega
         obtain rfl:BK=true:=by rw[WH];exact aBz hh2
         have hcmp:decide (48+d<((s[k]'hks).toNat:Int))=true:=by first|exact aBz (by omega)|exact aBy (by omega)
         clear WH hh
         go_quiet (fail)
         go_wp2
         go_meet
         exact⟨rfl,_,rfl⟩
       case rest =>
        obtain⟨rfl,nq2,rfl⟩:=hcut;replace hA2:=rG (hA2.out.later (below_drewN (aAI W2.heap.size W2) nq2));replace hB2:=rG (hB2.out.later (below_drewN (aAI W2.heap.size W2) nq2));clear hc2 t1 t2 t3;generalize W2.drewN nq2=W3 at *
        go_upto_if 55 with(fail)
        go_cut [12] (fun s12 wx=> ∃(j:Nat) (o:Nat->Int),j<=4/\s12=.int .i64 j/\Ar pb o w wx/\aEO (aX s) n j o)
        case first =>
         as_aux_lemma=>
          clear HV
          cases BK
          . have hh:((s[k]'hks).toNat:Int)<48+d:=by have:=aMm WH.symm;omega
            have HG:=aC2 HM.out HH.out.1 HH.out.2 hlt HF.out (by rw[HC.out];exact C1.out) (by rw[HC.out,<-hdd.out];exact hh);replace HG:=rG HG;clear WH hh
            go_wp2
            go_meet
            exact⟨k,Dn n,by omega,rfl,hB2.out,HG.out⟩
          have hh :48+d<((s[k]'hks).toNat:Int):=aL2 WH.symm;have hg2:=rG (show 48+dg n k<aX s k by rw[HC.out,<-hdd.out];exact hh);clear WH hh hdd
          go_wp2
          go_step3
          go_wp2
          go_step3
          go_wp2
          go_loopw [12] (fun i wx=> ∃m:Nat,m<=k/\i=.int .i64 m/\(∀i,m<=i->i<k-> ¬(aX s i=88/\dg n i≠0))/\Ar pa (Dn n) w wx/\Ar pb (Dn n) w wx) (fun i _=>(intOf i).toNat)
          case atStart=>exact⟨k,aEc _,rfl,fun i h1 h2=>by omega,hA2.out,hB2.out⟩
          case round=>
           obtain⟨m,hm,hi,hno,hA3,hB3⟩:=hrel;clear hA2 hB2;have HNO:=rG hno;clear hno
           by_cases hm0:0<m
           . obtain⟨q,rfl⟩: ∃q,m=q+1:=⟨m - 1,by omega⟩;rw[show (((q+1:Nat)):Int)=(q:Int)+1 by omega]at hi;subst hi;have hq4:q<4:=by omega
             have hqs:q<s.size:=by omega
             have aX9:(q:Int)<s.size:=by omega
             have aYc:(q:Int)<18:=by omega
             have hca:=hA3.cell q (by omega);have hcb:=hB3.cell q (by omega);have hfb:=hB3.free q (by omega);have hDq:Dn n q=48+dg n q:=by unfold Dn;rw[aDk hq4]
             rw[hDq]at hca hcb;have hbq:=rG (bQ s q hqs);have hqb:=GX HH.out.1 HH.out.2 q;obtain⟨e,he⟩: ∃e,e=dg n q:=⟨_,rfl⟩;rw[<-he]at hca hcb hqb;replace he:=rG he;obtain⟨b0,b1⟩:=hqb;clear hDq;have hX:=rG (hB3.set q (by omega) (48+e - 1))
             by_cases g1:((s[q]'hqs).toNat:Int)=88
             . by_cases g2:e=0
               . as_aux_lemma=>
                  have u1:(((s[q]'hqs).toNat:Int)==88)=true:=by rw[g1];rfl
                  have u2:(48+e !=48)=false:=by rw[g2];rfl
                  have hN: ∀i,q<=i->i<k-> ¬(aX s i=88/\dg n i≠0):=by
                   intro i h1 h2
                   by_cases c:i=q
                   . subst c;rintro⟨_,h⟩;exact h (by rw[<-he.out];exact g2)
                   exact HNO.out i (by omega) h2
                  replace hN:=rG hN;replace hA3:=rG hA3;replace hB3:=rG hB3;clear g1 g2
                  go_wp2
                  go_roundw
                  case rel=>exact⟨q,by omega,rfl,hN.out,hA3.out,hB3.out⟩
                  case measure=>simp[intOf]
               as_aux_lemma=>
                have u1:(((s[q]'hqs).toNat:Int)==88)=true:=by rw[g1];rfl
                have u2:(48+e !=48)=true:=by rw[aN0];omega
                have hGd:aEO (aX s) n (q+1) (fun i=>if i=q then 48+dg n q - 1 else Dn n i):=aC3 HM.out HH.out.1 HH.out.2 hlt HF.out (by rw[HC.out];exact C1.out) hg2.out (by omega) (by rw[hbq.out];exact g1) (by rw[<-he.out];exact g2) (fun i h1 h2=>HNO.out i (by omega) h2);rw[<-he.out]at hGd;replace hGd:=rG hGd;have ee:1<=e:=by omega
                replace hA3:=rG hA3;replace hB3:=rG hB3;clear g1 g2
                go_wp2
                rw[aWD]
                go_wp2
                go_meet
                exact⟨q+1,_,by omega,by go_num,hX.out,hGd.out⟩
             as_aux_lemma=>
              have u1:(((s[q]'hqs).toNat:Int)==88)=false:=by rw[aBA];exact g1
              have hN: ∀i,q<=i->i<k-> ¬(aX s i=88/\dg n i≠0):=by
               intro i h1 h2
               by_cases c:i=q
               . subst c;rintro⟨h,_⟩;exact g1 (by rw[<-hbq.out];exact h)
               exact HNO.out i (by omega) h2
              replace hN:=rG hN;replace hA3:=rG hA3;replace hB3:=rG hB3;clear g1
              go_wp2
              go_roundw
              case rel=>exact⟨q,by omega,rfl,hN.out,hA3.out,hB3.out⟩
              case measure=>simp[intOf]
           as_aux_lemma=>
            obtain rfl:m=0:=by omega
            subst hi;have hN:qL (aX s) n 0 16:=.inr ⟨rfl,rfl,aOl HH.out.1 HH.out.2 hlt HF.out (by rw[HC.out];exact C1.out) hg2.out (fun i hi=>HNO.out i (by omega) hi)⟩;replace hN:=rG hN;have HB:=rG hA3.below;clear hA3 hB3
            go_wp2
            rw[aTt]
            go_wp2
            go_ret2
            exact⟨_,_,hN.out,rfl,HB.out⟩
        case rest=>
         as_aux_lemma=>
          obtain⟨j,o,hj,rfl,hO,hG⟩:=hcut;clear hA2 hB2 WH;have HG:=rG hG;clear hG
          go_wp2
          go_loopw [12] (fun i wx=> ∃(m:Nat) (o2:Nat->Int),m<=4/\j<=m/\i=.int .i64 m/\Ar pb o2 w wx/\(∀i,i<j->o2 i=o i)/\(∀i,j<=i->i<m->o2 i=if aX s i=88 then 57 else aX s i)) (fun i _=>4 - (intOf i).toNat)
          case atStart=>exact⟨j,o,hj,aEc _,rfl,hO,fun i _=>rfl,fun i h1 h2=>by omega⟩
          case round=>
           obtain⟨m,o2,hm,hjm,rfl,hO2,hlo,hfi⟩:=hrel;clear hO;have UJ:=rG hlo;have HFI:=rG hfi;clear hlo hfi
           by_cases hm4:m<4
           . as_aux_lemma=>
              have hms:m<s.size:=by have:=H4.out;omega
              have aR7:(m:Int)<s.size:=by omega
              have hm18:(m:Int)<18:=by omega
              have hbm:=bQ s m hms;have hcm:=hO2.cell m (by omega);have hfm:=hO2.free m (by omega);have hX1:=hO2.set m (by omega) ((s[m]'hms).toNat:Int);have hc1:=hX1.cell m (by omega);have hf1:=hX1.free m (by omega)
              by_cases g1:((s[m]'hms).toNat:Int)=88
              . have u1:(((s[m]'hms).toNat:Int)==88)=true:=by rw[g1];rfl
                have hX2:=(hX1.set m (by omega) 57).congr (o':=fun i=>if i=m then(if aX s m=88 then 57 else aX s m)else o2 i) (fun i _=>by
                 (try dsimp only)
                 by_cases c:i=m
                 . rw[aDk c,aDk c,aDk (by rw[hbm];exact g1)]
                 rw[aBx c,aBx c,aBx c])
                replace hX2:=rG hX2;replace hO2:=rG hO2;clear hX1 hc1 hbm g1
                go_wp2
                go_roundw
                case rel=>exact⟨m+1,_,by omega,by omega,by go_num,hX2.out,fun i hi=>by(try dsimp only);rw[aBx (by omega)];exact UJ.out i hi,fun i h1 h2=>by
                 (try dsimp only)
                 by_cases c:i=m
                 . subst c;rw[aDk rfl]
                 rw[aBx c];exact HFI.out i h1 (by omega)⟩
                case measure=>simp[intOf];omega
              have u1:(((s[m]'hms).toNat:Int)==88)=false:=by rw[aBA];exact g1
              have hX2:=hX1.congr (o':=fun i=>if i=m then(if aX s m=88 then 57 else aX s m)else o2 i) (fun i _=>by
               (try dsimp only)
               by_cases c:i=m
               . rw[aDk c,aDk c,aBx (by rw[hbm];exact g1),hbm]
               rw[aBx c,aBx c])
              replace hX2:=rG hX2;replace hO2:=rG hO2;clear hX1 hc1 hf1 hbm g1
              go_wp2
              go_roundw
              case rel=>exact⟨m+1,_,by omega,by omega,by go_num,hX2.out,fun i hi=>by(try dsimp only);rw[aBx (by omega)];exact UJ.out i hi,fun i h1 h2=>by
               (try dsimp only)
               by_cases c:i=m
               . subst c;rw[aDk rfl]
               rw[aBx c];exact HFI.out i h1 (by omega)⟩
              case measure=>simp[intOf];omega
           as_aux_lemma=>
            obtain rfl:m=4:=by omega
            obtain⟨hv,hb⟩:=HG.out o2 UJ.out HFI.out;have hV:=rG (fun w=>HV.out o2 w hb);have hN:qL (aX s) n (cZ o2) 0:=.inl ⟨rfl,hv⟩;replace hN:=rG hN;have aR7:((4:Nat):Int)<s.size->False:=by have:=H4.out;omega
            have hR:=hO2.range;have HB:=rG hO2.below;have h4b:=H4.out;clear hO2 HG HFI UJ hv hb
            go_wp2_with (first
             |(refine aHD rfl 255 (.tmp 11) rfl pb 0 rfl (gK o2) _ hR Tryz.underlying255 rfl fE ?_)
             |(go_at_call 221;with_reducible refine(hV.out _).mono ?_;rintro _ w9 ⟨rfl,hb9⟩))
            go_ret2
            exact⟨_,_,hN.out,rfl,bt HB.out hb9⟩
    as_aux_lemma=>
     obtain rfl:k=4:=by omega
     have hN:qL (aX s) n n 0:=.inl ⟨rfl,MH HH.out.1 HH.out.2 HF.out,aTF _,fun f _ hf=>hf⟩;replace hN:=rG hN;have HB:=rG hA2.below;have h4b:=H4.out;clear hA2 hB2
     go_wp2
     go_quiet (fail)
     go_wp2
     go_ret2
     exact⟨_,_,hN.out,rfl,below_drewN HB.out _⟩
end Bk
end
section
open Go.RowKit Go.Lib
namespace Bk
open Un (ba bt ri rb aS aZ)
def fl(b:Nat->Int)(x:Int)(i:Nat):Int:=if b i=88 then x else b i
theorem aP6{b:Nat->Int}(hb:MOk b){x:Int}(h0:48<=x)(h1:x<=57)(i:Nat)(hi:i<4):48<=fl b x i/\fl b x i<=57:=by
 have:=hb i hi;unfold fl;split<;>omega
theorem aGs(s:ByteArray)(w:World)(h4:s.size=4)(hx:allB bV s=true):
 Calls Tryz.prog 197 #[.string s] w fun r w'=>r=.returned (.tuple #[.int .i64 (cZ (fl (aX s) 48)),.int .i64 0])/\Below w.heap.size w w':=by
 have hb:=zS h4 hx;have HC:=rG (fun w=>uG s w h4 hx);have HF:=rG (fun w=>zX s 48 (fl (aX s) 48) w h4 (fun i _=>rfl) (fun i hi=>aP6 hb (by omega) (by omega) i hi));clear h4 hx hb;generalize cZ (fl (aX s) 48)=v at *
 go_enter Tryz.func197,Tryz.ntmps197
 go_wp2_with fail
 refine(HC.out _).mono ?_;rintro _ w1 ⟨rfl,hb1⟩
 go_wp2_with fail
 refine(HF.out _).mono ?_;rintro _ w2 ⟨rfl,hb2⟩
 go_wp2_with fail
 go_ret2
 exact⟨rfl,bt hb1 hb2⟩
theorem WI(s:ByteArray)(w:World)(h4:s.size=4)(hx:allB bV s=true):
 Calls Tryz.prog 200 #[.string s] w fun r w'=>r=.returned (.tuple #[.int .i64 (cZ (fl (aX s) 57)),.int .i64 0])/\Below w.heap.size w w':=by
 have hb:=zS h4 hx;have HC:=rG (fun w=>uG s w h4 hx);have HF:=rG (fun w=>zX s 57 (fl (aX s) 57) w h4 (fun i _=>rfl) (fun i hi=>aP6 hb (by omega) (by omega) i hi));clear h4 hx hb;generalize cZ (fl (aX s) 57)=v at *
 go_enter Tryz.func200,Tryz.ntmps200
 go_wp2_with fail
 refine(HC.out _).mono ?_;rintro _ w1 ⟨rfl,hb1⟩
 go_wp2_with fail
 refine(HF.out _).mono ?_;rintro _ w2 ⟨rfl,hb2⟩
 go_wp2_with fail
 go_ret2
 exact⟨rfl,bt hb1 hb2⟩
theorem pO(s:ByteArray)(n:Int)(w:World)(h4:s.size=4)(hx:allB bV s=true):
 Calls Tryz.prog 160 #[.string s,.int .i64 n] w (aEI (oU (aX s) n) w):=by
 have hb:=zS h4 hx;have HC:=rG (fun w=>uG s w h4 hx)
 by_cases c:n<0
 . have HL:=rG (fun w=>aGs s w h4 hx);have hN:oU (aX s) n (cZ (fl (aX s) 48)) 0:=by
    obtain⟨g1,g2⟩:=SX hb (o:=fl (aX s) 48) (fun i _=>rfl);exact .inl ⟨rfl,g1,by have:=g1.1;omega,fun f hf _=>g2 f hf⟩
   replace hN:=rG hN;clear h4 hx hb;generalize cZ (fl (aX s) 48)=v at *
   go_enter Tryz.func160,Tryz.ntmps160
   go_wp2_with fail
   refine(HC.out _).mono ?_;rintro _ w1 ⟨rfl,hb1⟩
   go_wp2_with fail
   refine(HL.out _).mono ?_;rintro _ w2 ⟨rfl,hb2⟩
   go_wp2_with fail
   go_ret2
   exact⟨_,_,hN.out,rfl,bt hb1 hb2⟩
 by_cases c2:n<10000
 . have HW:Hid (∀w,Calls Tryz.prog 198 #[.string s,.int .i64 n] w fun r w'=>r=.returned (.bool true)/\w=w'):=rG (fun w=>by
    have:=tH s n w h4;rw[aBz (show 0<=n by omega),aBz c2]at this;exact this)
   have HB:=rG (fun w=>XL s n w h4 hx (by omega) (by omega));clear h4 hx hb
   go_enter Tryz.func160,Tryz.ntmps160
   go_wp2_with fail
   refine(HC.out _).mono ?_;rintro _ w1 ⟨rfl,hb1⟩
   go_wp2_with fail
   refine(HW.out _).mono ?_;rintro _ w2 ⟨rfl,rfl⟩
   go_wp2_with fail
   refine(HB.out _).mono ?_;rintro _ w2 ⟨v,x,hN,rfl,hb2⟩;replace hN:=rG hN
   go_wp2_with fail
   go_ret2
   exact⟨_,_,hN.out,rfl,bt hb1 hb2⟩
 have HW:Hid (∀w,Calls Tryz.prog 198 #[.string s,.int .i64 n] w fun r w'=>r=.returned (.bool false)/\w=w'):=rG (fun w=>by
  have:=tH s n w h4;rw[aBy c2,aTq]at this;exact this)
 have hN:oU (aX s) n 0 16:=.inr ⟨rfl,rfl,fun f hf=>by have:=hf.2.1;omega⟩;replace hN:=rG hN;clear h4 hx hb
 go_enter Tryz.func160,Tryz.ntmps160
 go_wp2_with fail
 refine(HC.out _).mono ?_;rintro _ w1 ⟨rfl,hb1⟩
 go_wp2_with fail
 refine(HW.out _).mono ?_;rintro _ w2 ⟨rfl,rfl⟩
 go_wp2_with fail
 go_ret2
 exact⟨_,_,hN.out,rfl,hb1⟩
theorem pK(s:ByteArray)(n:Int)(w:World)(h4:s.size=4)(hx:allB bV s=true):
 Calls Tryz.prog 161 #[.string s,.int .i64 n] w (aEI (qL (aX s) n) w):=by
 have hb:=zS h4 hx;have HC:=rG (fun w=>uG s w h4 hx)
 by_cases c:n<0
 . have hN:qL (aX s) n 0 16:=.inr ⟨rfl,rfl,fun f hf=>by have:=hf.1;omega⟩;replace hN:=rG hN;clear h4 hx hb
   go_enter Tryz.func161,Tryz.ntmps161
   go_wp2_with fail
   refine(HC.out _).mono ?_;rintro _ w1 ⟨rfl,hb1⟩
   go_wp2_with fail
   go_ret2
   exact⟨_,_,hN.out,rfl,hb1⟩
 by_cases c2:n<10000
 . have HW:Hid (∀w,Calls Tryz.prog 198 #[.string s,.int .i64 n] w fun r w'=>r=.returned (.bool true)/\w=w'):=rG (fun w=>by
    have:=tH s n w h4;rw[aBz (show 0<=n by omega),aBz c2]at this;exact this)
   have HB:=rG (fun w=>XM s n w h4 hx (by omega) (by omega));clear h4 hx hb
   go_enter Tryz.func161,Tryz.ntmps161
   go_wp2_with fail
   refine(HC.out _).mono ?_;rintro _ w1 ⟨rfl,hb1⟩
   go_wp2_with fail
   refine(HW.out _).mono ?_;rintro _ w2 ⟨rfl,rfl⟩
   go_wp2_with fail
   refine(HB.out _).mono ?_;rintro _ w2 ⟨v,x,hN,rfl,hb2⟩;replace hN:=rG hN
   go_wp2_with fail
   go_ret2
   exact⟨_,_,hN.out,rfl,bt hb1 hb2⟩
 have HW:Hid (∀w,Calls Tryz.prog 198 #[.string s,.int .i64 n] w fun r w'=>r=.returned (.bool false)/\w=w'):=rG (fun w=>by
  have:=tH s n w h4;rw[aBy c2,aTq]at this;exact this)
 have HL:=rG (fun w=>WI s w h4 hx);have hN:qL (aX s) n (cZ (fl (aX s) 57)) 0:=by
  obtain⟨g1,g2⟩:=CB hb (o:=fl (aX s) 57) (fun i _=>rfl);exact .inl ⟨rfl,g1,by have:=g1.2.1;omega,fun f hf _=>g2 f hf⟩
 replace hN:=rG hN;clear h4 hx hb;generalize cZ (fl (aX s) 57)=v at *
 go_enter Tryz.func161,Tryz.ntmps161
 go_wp2_with fail
 refine(HC.out _).mono ?_;rintro _ w1 ⟨rfl,hb1⟩
 go_wp2_with fail
 refine(HW.out _).mono ?_;rintro _ w2 ⟨rfl,rfl⟩
 go_wp2_with fail
 refine(HL.out _).mono ?_;rintro _ w2 ⟨rfl,hb2⟩
 go_wp2_with fail
 go_ret2
 exact⟨_,_,hN.out,rfl,bt hb1 hb2⟩
def UpR(b:Nat->Int)(n least v:Int)(ok:Bool):Prop:=0<=v/\v<=9999/\((ok=true/\pG b v/\n<=v/\least<=v/\ ∀f,pG b f->n<=f->least<=f->v<=f)\/(ok=false/\ ∀f,pG b f->least<=f->f<n))
def DnR(b:Nat->Int)(n least v:Int)(ok:Bool):Prop:=0<=v/\v<=9999/\((ok=true/\pG b v/\v<=n/\least<=v/\ ∀f,pG b f->f<=n->f<=v)\/(ok=false/\ ∀f,pG b f->f<=n->f<least))
def UF(P:Int->Bool->Prop)(w:World)(e:Ending)(w':World):Prop:= ∃v x,P v x/\e=.returned (.tuple #[.int .i64 v,.bool x])/\Below w.heap.size w w'
theorem VU(s:ByteArray)(n:Int)(w:World)(h4:s.size=4)(hx:allB bV s=true)(n0: -9223372036854775808<=n)(n1:n<9223372036854775808):
 Calls Tryz.prog 137 #[.string s,.int .i64 n,.bool true,.int .i64 0] w (UF (UpR (aX s) n 0) w):=by
 have HN:=rG (fun w=>pO s (max n 0) w h4 hx);have HU: ∀v x,oU (aX s) (max n 0) v x->UpR (aX s) n 0 v (x==0):=by
  intro v x h;obtain⟨b0,b1,_⟩:=aAi h;refine⟨b0,b1,?_⟩;rcases h with⟨rfl,h1,h2,h3⟩|⟨rfl,_,h3⟩
  . exact .inl ⟨rfl,h1,by omega,by omega,fun f hf g1 g2=>h3 f hf (by omega)⟩
  exact .inr ⟨rfl,fun f hf hl=>by have:=h3 f hf;have:=hf.1;omega⟩
 replace HU:=rG HU
 go_enter Tryz.func137,Tryz.ntmps137
 go_wp2_with fail
 refine(HN.out _).mono ?_;rintro _ w1 ⟨v,x,hN,rfl,hb1⟩;have hR:=rG (HU.out _ _ hN);clear hN
 go_wp2_with fail
 go_ret2
 exact⟨_,_,hR.out,rfl,hb1⟩
theorem VW(s:ByteArray)(n:Int)(w:World)(h4:s.size=4)(hx:allB bV s=true):
 Calls Tryz.prog 137 #[.string s,.int .i64 n,.bool false,.int .i64 1] w (UF (DnR (aX s) n 1) w):=by
 have HN:=rG (fun w=>pK s n w h4 hx);have HU: ∀v x,qL (aX s) n v x->DnR (aX s) n 1 v (x==0&&decide (1<=v)):=by
  intro v x h;obtain⟨b0,b1,_⟩:=BL h;refine⟨b0,b1,?_⟩;rcases h with⟨rfl,h1,h2,h3⟩|⟨rfl,_,h3⟩
  . by_cases c:1<=v
    . exact .inl ⟨by rw[aBz c];rfl,h1,h2,c,h3⟩
    exact .inr ⟨by rw[aBy c];rfl,fun f hf hl=>by have:=h3 f hf hl;omega⟩
  exact .inr ⟨rfl,fun f hf hl=>by have:=h3 f hf;omega⟩
 replace HU:=rG HU
 go_enter Tryz.func137,Tryz.ntmps137
 go_wp2_with fail
 refine(HN.out _).mono ?_;rintro _ w1 ⟨v,x,hN,rfl,hb1⟩;have hR:=HU.out _ _ hN;have hx2:=(BL hN).2.2;clear hN;rcases hx2 with rfl|rfl
 . have hR2:=rG (show DnR (aX s) n 1 v (decide (1<=v)) by rw[show ((0:Int)==0)=true from rfl,aQN]at hR;exact hR);clear hR
   go_wp2_with fail
   go_ret2
   exact⟨_,_,hR2.out,rfl,hb1⟩
 have hR2:=rG (show DnR (aX s) n 1 v false by rw[show ((16:Int)==0)=false from rfl,aTz]at hR;exact hR);clear hR
 go_wp2_with fail
 go_ret2
 exact⟨_,_,hR2.out,rfl,hb1⟩
end Bk
end
section
open Go.RowKit Go.Lib
namespace Sk
open Ev (bM DT LG eU aO hp tb0 aP kM vG kG iU mJ qF PD GL oN aU AV DW vH dS aB aC eF mD)
def aLJ:DT:=(.node 0 (qi 2) qz (.node 0 (qi 5) qz (.leaf (.aK [(rK q8 (qi 3) q8 (qi 4)),qz])) (.leaf (.aK [(rK q8 qz q8 qz),(qi 5)]))) (.leaf (.aK [(rK q8 qz q8 qz),(qi 2)])))
theorem aFU(l:Value):aLJ.ok tb0 l [] [(140,[(qi 0)],.aK [(qi 1),(qi 2)]),(141,[(qi 1)],.aK [(qi 3),(qi 4),(qi 5)])] .nil 60 LG 85 [(qi 0),.v (.int .u8 1)] []=true:=by kernel_rfl
theorem aQA (d i e x y f:Int)(w0:World) (H0:Same w0 140 #[(.int .i64 d)] (.tuple #[(.int .i64 i),(.int .i64 e)]))(H1:Same w0 141 #[(.int .i64 i)] (.tuple #[(.int .i64 x),(.int .i64 y),(.int .i64 f)])):Same w0 85 #[(.int .i64 d),(.int .u8 1)] (cond (e==0) (cond (f==0) (.tuple #[(r4 0 x 0 y),(.int .i64 0)]) (.tuple #[(r4 0 0 0 0),(.int .i64 f)])) (.tuple #[(r4 0 0 0 0),(.int .i64 e)])):=
 aB (aFU (.agg #[.int .i64 d,.int .i64 i,.int .i64 e,.int .i64 x,.int .i64 y,.int .i64 f])) (aP w0) (kM w0) .nil (.cons H0 (.cons H1 .nil)) (aC (by kernel_rfl)) (by kernel_rfl)
def aLI:DT:=(.node 0 (qi 2) qz (.node 0 (qi 5) qz (.leaf (.aK [(rK q8 (qi 3) q8 (qi 4)),qz])) (.leaf (.aK [(rK q8 qz q8 qz),(qi 5)]))) (.leaf (.aK [(rK q8 qz q8 qz),(qi 2)])))
theorem aFT(l:Value):aLI.ok tb0 l [] [(142,[(qi 0)],.aK [(qi 1),(qi 2)]),(144,[(qi 1)],.aK [(qi 3),(qi 4),(qi 5)])] .nil 60 LG 85 [(qi 0),.v (.int .u8 2)] []=true:=by kernel_rfl
theorem aQz (d i e x y f:Int)(w0:World) (H0:Same w0 142 #[(.int .i64 d)] (.tuple #[(.int .i64 i),(.int .i64 e)]))(H1:Same w0 144 #[(.int .i64 i)] (.tuple #[(.int .i64 x),(.int .i64 y),(.int .i64 f)])):Same w0 85 #[(.int .i64 d),(.int .u8 2)] (cond (e==0) (cond (f==0) (.tuple #[(r4 0 x 0 y),(.int .i64 0)]) (.tuple #[(r4 0 0 0 0),(.int .i64 f)])) (.tuple #[(r4 0 0 0 0),(.int .i64 e)])):=
 aB (aFT (.agg #[.int .i64 d,.int .i64 i,.int .i64 e,.int .i64 x,.int .i64 y,.int .i64 f])) (aP w0) (kM w0) .nil (.cons H0 (.cons H1 .nil)) (aC (by kernel_rfl)) (by kernel_rfl)
def aLH:DT:=(.node 0 (qi 2) qz (.node 0 (qi 5) qz (.leaf (.aK [(rK q8 (qi 3) q8 (qi 4)),qz])) (.leaf (.aK [(rK q8 qz q8 qz),(qi 5)]))) (.leaf (.aK [(rK q8 qz q8 qz),(qi 2)])))
theorem aFS(l:Value):aLH.ok tb0 l [] [(145,[(qi 0)],.aK [(qi 1),(qi 2)]),(146,[(qi 1)],.aK [(qi 3),(qi 4),(qi 5)])] .nil 60 LG 85 [(qi 0),.v (.int .u8 3)] []=true:=by kernel_rfl
theorem aQy (d i e x y f:Int)(w0:World) (H0:Same w0 145 #[(.int .i64 d)] (.tuple #[(.int .i64 i),(.int .i64 e)]))(H1:Same w0 146 #[(.int .i64 i)] (.tuple #[(.int .i64 x),(.int .i64 y),(.int .i64 f)])):Same w0 85 #[(.int .i64 d),(.int .u8 3)] (cond (e==0) (cond (f==0) (.tuple #[(r4 0 x 0 y),(.int .i64 0)]) (.tuple #[(r4 0 0 0 0),(.int .i64 f)])) (.tuple #[(r4 0 0 0 0),(.int .i64 e)])):=
 aB (aFS (.agg #[.int .i64 d,.int .i64 i,.int .i64 e,.int .i64 x,.int .i64 y,.int .i64 f])) (aP w0) (kM w0) .nil (.cons H0 (.cons H1 .nil)) (aC (by kernel_rfl)) (by kernel_rfl)
def aVL:DT:=(.node 0 (qe 0) q8 (.node 0 (qi 7) qz (.node 3 (qb 8) (qb 8) (.leaf qt) (.leaf qf)) (.leaf qf)) (.leaf qf))
theorem aRa(l:Value):aVL.ok tb0 l [(42,rK q8 (qi 5) q8 (qi 6),rK (qe 0) (qi 1) (qe 2) (qi 3),(qb 8))] [(85,[(qi 1),(qu 4)],.aK [rK q8 (qi 5) q8 (qi 6),(qi 7)])] .nil 60 LG 274 [rK (qe 0) (qi 1) (qe 2) (qi 3),(qu 4)] []=true:=by kernel_rfl
theorem zIs (a lo b hi p x y e:Int)(z:Bool)(w0:World)(hz:X3 42 (r4 0 x 0 y) (r4 a lo b hi) z)(H0:Same w0 85 #[(.int .i64 lo),(.int .u8 p)] (.tuple #[(r4 0 x 0 y),(.int .i64 e)])):Same w0 274 #[(r4 a lo b hi),(.int .u8 p)] (cond (a==0) (cond (e==0) (cond z (.bool true) (.bool false)) (.bool false)) (.bool false)):=
 aB (aRa (.agg #[.int .i8 a,.int .i64 lo,.int .i8 b,.int .i64 hi,.int .u8 p,.int .i64 x,.int .i64 y,.int .i64 e,.bool z])) (aP w0) (kM w0) (.cons hz (fun _ _ _=>⟨by kernel_rfl,by kernel_rfl⟩) .nil) (.cons H0 .nil) (aC (by kernel_rfl)) (by kernel_rfl)
def aOK:DT:=(.leaf (.aK [(qi 4),(qi 5)]))
theorem aIW(l:Value):aOK.ok tb0 l [] [(274,[rK (qe 0) (qi 1) (qe 2) (qi 3),.v (.int .u8 1)],qt),(140,[(qi 1)],.aK [(qi 4),(qi 5)])] .nil 60 LG 272 [rK (qe 0) (qi 1) (qe 2) (qi 3),.v (.int .u8 1)] []=true:=by kernel_rfl
theorem aTR (a lo b hi i e:Int)(w0:World) (H0:Same w0 274 #[(r4 a lo b hi),(.int .u8 1)] (.bool true))(H1:Same w0 140 #[(.int .i64 lo)] (.tuple #[(.int .i64 i),(.int .i64 e)])):Same w0 272 #[(r4 a lo b hi),(.int .u8 1)] (.tuple #[(.int .i64 i),(.int .i64 e)]):=
 aB (aIW (.agg #[.int .i8 a,.int .i64 lo,.int .i8 b,.int .i64 hi,.int .i64 i,.int .i64 e])) (aP w0) (kM w0) .nil (.cons H0 (.cons H1 .nil)) (aC (by kernel_rfl)) (by kernel_rfl)
def aOJ:DT:=(.leaf (.aK [(qi 4),(qi 5)]))
theorem aIV(l:Value):aOJ.ok tb0 l [] [(274,[rK (qe 0) (qi 1) (qe 2) (qi 3),.v (.int .u8 2)],qt),(142,[(qi 1)],.aK [(qi 4),(qi 5)])] .nil 60 LG 272 [rK (qe 0) (qi 1) (qe 2) (qi 3),.v (.int .u8 2)] []=true:=by kernel_rfl
theorem aTQ (a lo b hi i e:Int)(w0:World) (H0:Same w0 274 #[(r4 a lo b hi),(.int .u8 2)] (.bool true))(H1:Same w0 142 #[(.int .i64 lo)] (.tuple #[(.int .i64 i),(.int .i64 e)])):Same w0 272 #[(r4 a lo b hi),(.int .u8 2)] (.tuple #[(.int .i64 i),(.int .i64 e)]):=
 aB (aIV (.agg #[.int .i8 a,.int .i64 lo,.int .i8 b,.int .i64 hi,.int .i64 i,.int .i64 e])) (aP w0) (kM w0) .nil (.cons H0 (.cons H1 .nil)) (aC (by kernel_rfl)) (by kernel_rfl)
def aOI:DT:=(.leaf (.aK [(qi 1),qz]))
theorem aIU(l:Value):aOI.ok tb0 l [] [(274,[rK (qe 0) (qi 1) (qe 2) (qi 3),.v (.int .u8 3)],qt)] .nil 60 LG 272 [rK (qe 0) (qi 1) (qe 2) (qi 3),.v (.int .u8 3)] []=true:=by kernel_rfl
theorem aTP (a lo b hi:Int)(w0:World) (H0:Same w0 274 #[(r4 a lo b hi),(.int .u8 3)] (.bool true)):Same w0 272 #[(r4 a lo b hi),(.int .u8 3)] (.tuple #[(.int .i64 lo),(.int .i64 0)]):=
 aB (aIU (.agg #[.int .i8 a,.int .i64 lo,.int .i8 b,.int .i64 hi])) (aP w0) (kM w0) .nil (.cons H0 .nil) (aC (by kernel_rfl)) (by kernel_rfl)
def aS3:DT:=(.node 0 (qi 3) qz (.leaf (.aK [(rK q8 (qi 1) q8 (qi 2)),qz])) (.leaf (.aK [(rK q8 qz q8 qz),(qi 3)])))
theorem aNs(l:Value):aS3.ok tb0 l [] [(141,[(qi 0)],.aK [(qi 1),(qi 2),(qi 3)])] .nil 60 LG 273 [(qi 0),.v (.int .u8 1)] []=true:=by kernel_rfl
theorem aW2 (i x y f:Int)(w0:World) (H0:Same w0 141 #[(.int .i64 i)] (.tuple #[(.int .i64 x),(.int .i64 y),(.int .i64 f)])):Same w0 273 #[(.int .i64 i),(.int .u8 1)] (cond (f==0) (.tuple #[(r4 0 x 0 y),(.int .i64 0)]) (.tuple #[(r4 0 0 0 0),(.int .i64 f)])):=
 aB (aNs (.agg #[.int .i64 i,.int .i64 x,.int .i64 y,.int .i64 f])) (aP w0) (kM w0) .nil (.cons H0 .nil) (aC (by kernel_rfl)) (by kernel_rfl)
def aS2:DT:=(.node 0 (qi 3) qz (.leaf (.aK [(rK q8 (qi 1) q8 (qi 2)),qz])) (.leaf (.aK [(rK q8 qz q8 qz),(qi 3)])))
theorem aNr(l:Value):aS2.ok tb0 l [] [(144,[(qi 0)],.aK [(qi 1),(qi 2),(qi 3)])] .nil 60 LG 273 [(qi 0),.v (.int .u8 2)] []=true:=by kernel_rfl
theorem aW1 (i x y f:Int)(w0:World) (H0:Same w0 144 #[(.int .i64 i)] (.tuple #[(.int .i64 x),(.int .i64 y),(.int .i64 f)])):Same w0 273 #[(.int .i64 i),(.int .u8 2)] (cond (f==0) (.tuple #[(r4 0 x 0 y),(.int .i64 0)]) (.tuple #[(r4 0 0 0 0),(.int .i64 f)])):=
 aB (aNr (.agg #[.int .i64 i,.int .i64 x,.int .i64 y,.int .i64 f])) (aP w0) (kM w0) .nil (.cons H0 .nil) (aC (by kernel_rfl)) (by kernel_rfl)
def aS1:DT:=(.node 0 (qi 3) qz (.leaf (.aK [(rK q8 (qi 1) q8 (qi 2)),qz])) (.leaf (.aK [(rK q8 qz q8 qz),(qi 3)])))
theorem aNq(l:Value):aS1.ok tb0 l [] [(146,[(qi 0)],.aK [(qi 1),(qi 2),(qi 3)])] .nil 60 LG 273 [(qi 0),.v (.int .u8 3)] []=true:=by kernel_rfl
theorem aW0 (i x y f:Int)(w0:World) (H0:Same w0 146 #[(.int .i64 i)] (.tuple #[(.int .i64 x),(.int .i64 y),(.int .i64 f)])):Same w0 273 #[(.int .i64 i),(.int .u8 3)] (cond (f==0) (.tuple #[(r4 0 x 0 y),(.int .i64 0)]) (.tuple #[(r4 0 0 0 0),(.int .i64 f)])):=
 aB (aNq (.agg #[.int .i64 i,.int .i64 x,.int .i64 y,.int .i64 f])) (aP w0) (kM w0) .nil (.cons H0 .nil) (aC (by kernel_rfl)) (by kernel_rfl)
def aS0:DT:=(.node 0 (qi 5) (.v (.int .i64 9223372036854775807)) (.leaf (.aK [(rK q8 qz q8 qz),(.v (.int .i64 15))])) (.leaf (.aK [(rK q8 (qi 6) q8 (qi 7)),(qi 8)])))
theorem aNp(l:Value):aS0.ok tb0 l [] [(272,[rK (qe 0) (qi 1) (qe 2) (qi 3),(qu 4)],.aK [(qi 5),qz]),(273,[aU 1 .i64 [(qi 5),.v (.int .i64 1)],(qu 4)],.aK [rK q8 (qi 6) q8 (qi 7),(qi 8)])] .nil 60 LG 270 [rK (qe 0) (qi 1) (qe 2) (qi 3),(qu 4)] []=true:=by kernel_rfl
theorem aWZ (a lo b hi p i x y f:Int)(w0:World) (H0:Same w0 272 #[(r4 a lo b hi),(.int .u8 p)] (.tuple #[(.int .i64 i),(.int .i64 0)]))(H1:Same w0 273 #[(.int .i64 (IntKind.i64.wrap (i+1))),(.int .u8 p)] (.tuple #[(r4 0 x 0 y),(.int .i64 f)])):Same w0 270 #[(r4 a lo b hi),(.int .u8 p)] (cond (i==9223372036854775807) (.tuple #[(r4 0 0 0 0),(.int .i64 15)]) (.tuple #[(r4 0 x 0 y),(.int .i64 f)])):=
 aB (aNp (.agg #[.int .i8 a,.int .i64 lo,.int .i8 b,.int .i64 hi,.int .u8 p,.int .i64 i,.int .i64 x,.int .i64 y,.int .i64 f])) (aP w0) (kM w0) .nil (.cons H0 (.cons H1 .nil)) (aC (by kernel_rfl)) (by kernel_rfl)
def aSZ:DT:=(.node 0 (qi 6) qz DT.no (.leaf (.aK [(rK q8 qz q8 qz),(qi 6)])))
theorem aNo(l:Value):aSZ.ok tb0 l [] [(272,[rK (qe 0) (qi 1) (qe 2) (qi 3),(qu 4)],.aK [(qi 5),(qi 6)])] .nil 60 LG 270 [rK (qe 0) (qi 1) (qe 2) (qi 3),(qu 4)] []=true:=by kernel_rfl
theorem aWY (a lo b hi p i e:Int)(w0:World)(he:e≠0)(H0:Same w0 272 #[(r4 a lo b hi),(.int .u8 p)] (.tuple #[(.int .i64 i),(.int .i64 e)])):Same w0 270 #[(r4 a lo b hi),(.int .u8 p)] (cond (e==0) (.bool false) (.tuple #[(r4 0 0 0 0),(.int .i64 e)])):=
 aB (aNo (.agg #[.int .i8 a,.int .i64 lo,.int .i8 b,.int .i64 hi,.int .u8 p,.int .i64 i,.int .i64 e])) (aP w0) (kM w0) .nil (.cons H0 .nil) (eF (by kernel_rfl:_=((((e==0)=true->False)/\((e==0)=false->True)))) (⟨fun h0=>(by simp only[aGw,aBA,aDE,aDG]at *;omega),fun h0=>trivial⟩)) (by kernel_rfl)
def aSY:DT:=(.leaf (.aK [(rK q8 qz q8 qz),(.v (.int .i64 15))]))
theorem aNn(l:Value):aSY.ok tb0 l [] [(272,[rK (qe 0) (qi 1) (qe 2) (qi 3),(qu 4)],.aK [.v (.int .i64 9223372036854775807),qz])] .nil 60 LG 270 [rK (qe 0) (qi 1) (qe 2) (qi 3),(qu 4)] []=true:=by kernel_rfl
theorem aWX (a lo b hi p:Int)(w0:World) (H0:Same w0 272 #[(r4 a lo b hi),(.int .u8 p)] (.tuple #[(.int .i64 9223372036854775807),(.int .i64 0)])):Same w0 270 #[(r4 a lo b hi),(.int .u8 p)] (.tuple #[(r4 0 0 0 0),(.int .i64 15)]):=
 aB (aNn (.agg #[.int .i8 a,.int .i64 lo,.int .i8 b,.int .i64 hi,.int .u8 p])) (aP w0) (kM w0) .nil (.cons H0 .nil) (aC (by kernel_rfl)) (by kernel_rfl)
def aSX:DT:=(.node 0 (qi 5) (.v (.int .i64 (-9223372036854775808))) (.leaf (.aK [(rK q8 qz q8 qz),(.v (.int .i64 15))])) (.leaf (.aK [(rK q8 (qi 6) q8 (qi 7)),(qi 8)])))
theorem aNm(l:Value):aSX.ok tb0 l [] [(272,[rK (qe 0) (qi 1) (qe 2) (qi 3),(qu 4)],.aK [(qi 5),qz]),(273,[aU 2 .i64 [(qi 5),.v (.int .i64 1)],(qu 4)],.aK [rK q8 (qi 6) q8 (qi 7),(qi 8)])] .nil 60 LG 271 [rK (qe 0) (qi 1) (qe 2) (qi 3),(qu 4)] []=true:=by kernel_rfl
theorem aWW (a lo b hi p i x y f:Int)(w0:World) (H0:Same w0 272 #[(r4 a lo b hi),(.int .u8 p)] (.tuple #[(.int .i64 i),(.int .i64 0)]))(H1:Same w0 273 #[(.int .i64 (IntKind.i64.wrap (i - 1))),(.int .u8 p)] (.tuple #[(r4 0 x 0 y),(.int .i64 f)])):Same w0 271 #[(r4 a lo b hi),(.int .u8 p)] (cond (i==(-9223372036854775808)) (.tuple #[(r4 0 0 0 0),(.int .i64 15)]) (.tuple #[(r4 0 x 0 y),(.int .i64 f)])):=
 aB (aNm (.agg #[.int .i8 a,.int .i64 lo,.int .i8 b,.int .i64 hi,.int .u8 p,.int .i64 i,.int .i64 x,.int .i64 y,.int .i64 f])) (aP w0) (kM w0) .nil (.cons H0 (.cons H1 .nil)) (aC (by kernel_rfl)) (by kernel_rfl)
def aSW:DT:=(.node 0 (qi 6) qz DT.no (.leaf (.aK [(rK q8 qz q8 qz),(qi 6)])))
theorem aNl(l:Value):aSW.ok tb0 l [] [(272,[rK (qe 0) (qi 1) (qe 2) (qi 3),(qu 4)],.aK [(qi 5),(qi 6)])] .nil 60 LG 271 [rK (qe 0) (qi 1) (qe 2) (qi 3),(qu 4)] []=true:=by kernel_rfl
theorem aWV (a lo b hi p i e:Int)(w0:World)(he:e≠0)(H0:Same w0 272 #[(r4 a lo b hi),(.int .u8 p)] (.tuple #[(.int .i64 i),(.int .i64 e)])):Same w0 271 #[(r4 a lo b hi),(.int .u8 p)] (cond (e==0) (.bool false) (.tuple #[(r4 0 0 0 0),(.int .i64 e)])):=
 aB (aNl (.agg #[.int .i8 a,.int .i64 lo,.int .i8 b,.int .i64 hi,.int .u8 p,.int .i64 i,.int .i64 e])) (aP w0) (kM w0) .nil (.cons H0 .nil) (eF (by kernel_rfl:_=((((e==0)=true->False)/\((e==0)=false->True)))) (⟨fun h0=>(by simp only[aGw,aBA,aDE,aDG]at *;omega),fun h0=>trivial⟩)) (by kernel_rfl)
def aSV:DT:=(.leaf (.aK [(rK q8 qz q8 qz),(.v (.int .i64 15))]))
theorem aNk(l:Value):aSV.ok tb0 l [] [(272,[rK (qe 0) (qi 1) (qe 2) (qi 3),(qu 4)],.aK [.v (.int .i64 (-9223372036854775808)),qz])] .nil 60 LG 271 [rK (qe 0) (qi 1) (qe 2) (qi 3),(qu 4)] []=true:=by kernel_rfl
theorem aWU (a lo b hi p:Int)(w0:World) (H0:Same w0 272 #[(r4 a lo b hi),(.int .u8 p)] (.tuple #[(.int .i64 (-9223372036854775808)),(.int .i64 0)])):Same w0 271 #[(r4 a lo b hi),(.int .u8 p)] (.tuple #[(r4 0 0 0 0),(.int .i64 15)]):=
 aB (aNk (.agg #[.int .i8 a,.int .i64 lo,.int .i8 b,.int .i64 hi,.int .u8 p])) (aP w0) (kM w0) .nil (.cons H0 .nil) (aC (by kernel_rfl)) (by kernel_rfl)
def aSS:DT:=(.node 0 (qe 0) q8 (.node 0 (qe 2) q8 (.node 1 qz (qi 7) (.leaf qz) (.node 3 (qb 8) (qb 8) (.leaf (.v (.int .i64 1))) (.leaf qz))) (.leaf qz)) (.leaf qz))
theorem aNh(l:Value):aSS.ok tb0 l [(42,rK q8 (qi 5) q8 (qi 6),rK (qe 0) (qi 1) (qe 2) (qi 3),(qb 8))] [(47,[(qi 1),(qi 4)],.aK [rK q8 (qi 5) q8 (qi 6),(qi 7)])] .nil 60 LG 87 [rK (qe 0) (qi 1) (qe 2) (qi 3),(qi 4)] []=true:=by kernel_rfl
theorem aWR (a lo b hi p x y e:Int)(z:Bool)(w0:World)(hz:X3 42 (r4 0 x 0 y) (r4 a lo b hi) z)(H0:Same w0 47 #[(.int .i64 lo),(.int .i64 p)] (.tuple #[(r4 0 x 0 y),(.int .i64 e)])):Same w0 87 #[(r4 a lo b hi),(.int .i64 p)] (cond (a==0) (cond (b==0) (cond (decide (0<e)) (.int .i64 0) (cond z (.int .i64 1) (.int .i64 0))) (.int .i64 0)) (.int .i64 0)):=
 aB (aNh (.agg #[.int .i8 a,.int .i64 lo,.int .i8 b,.int .i64 hi,.int .i64 p,.int .i64 x,.int .i64 y,.int .i64 e,.bool z])) (aP w0) (kM w0) (.cons hz (fun _ _ _=>⟨by kernel_rfl,by kernel_rfl⟩) .nil) (.cons H0 .nil) (aC (by kernel_rfl)) (by kernel_rfl)
def aSU:DT:=(.node 1 (qi 4) (.v (.int .i64 1)) (.leaf (.aK [(rK q8 qz q8 qz),(.v (.int .i64 18))])) (.node 1 (.v (.int .i64 3)) (qi 4) (.leaf (.aK [(rK q8 qz q8 qz),(.v (.int .i64 18))])) (.node 0 (qi 4) (.v (.int .i64 3)) (.node 0 (qi 5) (.v (.int .i64 9223372036854775807)) (.leaf (.aK [(rK q8 qz q8 qz),(.v (.int .i64 15))])) (.leaf (.aK [(rK q8 (qi 6) q8 (qi 7)),(qi 8)]))) (.leaf (.aK [(rK q8 (qi 6) q8 (qi 7)),(qi 8)])))))
theorem aNj(l:Value):aSU.ok tb0 l [] [(87,[rK (qe 0) (qi 1) (qe 2) (qi 3),(qi 4)],.v (.int .i64 1)),(88,[rK (qe 0) (qi 1) (qe 2) (qi 3),(qi 4)],(qi 5)),(20,[aU 1 .i64 [(qi 5),.v (.int .i64 1)],(qi 4)],.aK [rK q8 (qi 6) q8 (qi 7),(qi 8)])] .nil 60 LG 55 [rK (qe 0) (qi 1) (qe 2) (qi 3),(qi 4),.v (.int .i64 1)] []=true:=by kernel_rfl
theorem aWT (a lo b hi p i x y f:Int)(w0:World) (H0:Same w0 87 #[(r4 a lo b hi),(.int .i64 p)] (.int .i64 1))(H1:Same w0 88 #[(r4 a lo b hi),(.int .i64 p)] (.int .i64 i))(H2:Same w0 20 #[(.int .i64 (IntKind.i64.wrap (i+1))),(.int .i64 p)] (.tuple #[(r4 0 x 0 y),(.int .i64 f)])):Same w0 55 #[(r4 a lo b hi),(.int .i64 p),(.int .i64 1)] (cond (decide (p<1)) (.tuple #[(r4 0 0 0 0),(.int .i64 18)]) (cond (decide (3<p)) (.tuple #[(r4 0 0 0 0),(.int .i64 18)]) (cond (p==3) (cond (i==9223372036854775807) (.tuple #[(r4 0 0 0 0),(.int .i64 15)]) (.tuple #[(r4 0 x 0 y),(.int .i64 f)])) (.tuple #[(r4 0 x 0 y),(.int .i64 f)])))):=
 aB (aNj (.agg #[.int .i8 a,.int .i64 lo,.int .i8 b,.int .i64 hi,.int .i64 p,.int .i64 i,.int .i64 x,.int .i64 y,.int .i64 f])) (aP w0) (kM w0) .nil (.cons H0 (.cons H1 (.cons H2 .nil))) (aC (by kernel_rfl)) (by kernel_rfl)
def aLD:DT:=(.node 1 (qi 4) (.v (.int .i64 1)) (.leaf (.aK [(rK q8 qz q8 qz),(.v (.int .i64 18))])) (.node 1 (.v (.int .i64 3)) (qi 4) (.leaf (.aK [(rK q8 qz q8 qz),(.v (.int .i64 18))])) (.leaf (.aK [(rK q8 qz q8 qz),(.v (.int .i64 1))]))))
theorem aFO(l:Value):aLD.ok tb0 l [] [(87,[rK (qe 0) (qi 1) (qe 2) (qi 3),(qi 4)],qz)] .nil 60 LG 55 [rK (qe 0) (qi 1) (qe 2) (qi 3),(qi 4),.v (.int .i64 1)] []=true:=by kernel_rfl
theorem aQu (a lo b hi p:Int)(w0:World) (H0:Same w0 87 #[(r4 a lo b hi),(.int .i64 p)] (.int .i64 0)):Same w0 55 #[(r4 a lo b hi),(.int .i64 p),(.int .i64 1)] (cond (decide (p<1)) (.tuple #[(r4 0 0 0 0),(.int .i64 18)]) (cond (decide (3<p)) (.tuple #[(r4 0 0 0 0),(.int .i64 18)]) (.tuple #[(r4 0 0 0 0),(.int .i64 1)]))):=
 aB (aFO (.agg #[.int .i8 a,.int .i64 lo,.int .i8 b,.int .i64 hi,.int .i64 p])) (aP w0) (kM w0) .nil (.cons H0 .nil) (aC (by kernel_rfl)) (by kernel_rfl)
def aOF:DT:=(.leaf (.aK [(rK q8 qz q8 qz),(.v (.int .i64 15))]))
theorem aIR(l:Value):aOF.ok tb0 l [] [(87,[rK (qe 0) (qi 1) (qe 2) (qi 3),.v (.int .i64 3)],.v (.int .i64 1)),(88,[rK (qe 0) (qi 1) (qe 2) (qi 3),.v (.int .i64 3)],.v (.int .i64 9223372036854775807))] .nil 60 LG 55 [rK (qe 0) (qi 1) (qe 2) (qi 3),.v (.int .i64 3),.v (.int .i64 1)] []=true:=by kernel_rfl
theorem aTM (a lo b hi:Int)(w0:World) (H0:Same w0 87 #[(r4 a lo b hi),(.int .i64 3)] (.int .i64 1))(H1:Same w0 88 #[(r4 a lo b hi),(.int .i64 3)] (.int .i64 9223372036854775807)):Same w0 55 #[(r4 a lo b hi),(.int .i64 3),(.int .i64 1)] (.tuple #[(r4 0 0 0 0),(.int .i64 15)]):=
 aB (aIR (.agg #[.int .i8 a,.int .i64 lo,.int .i8 b,.int .i64 hi])) (aP w0) (kM w0) .nil (.cons H0 (.cons H1 .nil)) (aC (by kernel_rfl)) (by kernel_rfl)
def aST:DT:=(.node 1 (qi 4) (.v (.int .i64 1)) (.leaf (.aK [(rK q8 qz q8 qz),(.v (.int .i64 18))])) (.node 1 (.v (.int .i64 3)) (qi 4) (.leaf (.aK [(rK q8 qz q8 qz),(.v (.int .i64 18))])) (.node 0 (qi 4) (.v (.int .i64 3)) (.node 0 (qi 5) (.v (.int .i64 (-9223372036854775808))) (.leaf (.aK [(rK q8 qz q8 qz),(.v (.int .i64 15))])) (.leaf (.aK [(rK q8 (qi 6) q8 (qi 7)),(qi 8)]))) (.leaf (.aK [(rK q8 (qi 6) q8 (qi 7)),(qi 8)])))))
theorem aNi(l:Value):aST.ok tb0 l [] [(87,[rK (qe 0) (qi 1) (qe 2) (qi 3),(qi 4)],.v (.int .i64 1)),(88,[rK (qe 0) (qi 1) (qe 2) (qi 3),(qi 4)],(qi 5)),(20,[aU 1 .i64 [(qi 5),.v (.int .i64 (-1))],(qi 4)],.aK [rK q8 (qi 6) q8 (qi 7),(qi 8)])] .nil 60 LG 55 [rK (qe 0) (qi 1) (qe 2) (qi 3),(qi 4),.v (.int .i64 (-1))] []=true:=by kernel_rfl
theorem aWS (a lo b hi p i x y f:Int)(w0:World) (H0:Same w0 87 #[(r4 a lo b hi),(.int .i64 p)] (.int .i64 1))(H1:Same w0 88 #[(r4 a lo b hi),(.int .i64 p)] (.int .i64 i))(H2:Same w0 20 #[(.int .i64 (IntKind.i64.wrap (i+(-1)))),(.int .i64 p)] (.tuple #[(r4 0 x 0 y),(.int .i64 f)])):Same w0 55 #[(r4 a lo b hi),(.int .i64 p),(.int .i64 (-1))] (cond (decide (p<1)) (.tuple #[(r4 0 0 0 0),(.int .i64 18)]) (cond (decide (3<p)) (.tuple #[(r4 0 0 0 0),(.int .i64 18)]) (cond (p==3) (cond (i==(-9223372036854775808)) (.tuple #[(r4 0 0 0 0),(.int .i64 15)]) (.tuple #[(r4 0 x 0 y),(.int .i64 f)])) (.tuple #[(r4 0 x 0 y),(.int .i64 f)])))):=
 aB (aNi (.agg #[.int .i8 a,.int .i64 lo,.int .i8 b,.int .i64 hi,.int .i64 p,.int .i64 i,.int .i64 x,.int .i64 y,.int .i64 f])) (aP w0) (kM w0) .nil (.cons H0 (.cons H1 (.cons H2 .nil))) (aC (by kernel_rfl)) (by kernel_rfl)
def aLC:DT:=(.node 1 (qi 4) (.v (.int .i64 1)) (.leaf (.aK [(rK q8 qz q8 qz),(.v (.int .i64 18))])) (.node 1 (.v (.int .i64 3)) (qi 4) (.leaf (.aK [(rK q8 qz q8 qz),(.v (.int .i64 18))])) (.leaf (.aK [(rK q8 qz q8 qz),(.v (.int .i64 1))]))))
theorem aFN(l:Value):aLC.ok tb0 l [] [(87,[rK (qe 0) (qi 1) (qe 2) (qi 3),(qi 4)],qz)] .nil 60 LG 55 [rK (qe 0) (qi 1) (qe 2) (qi 3),(qi 4),.v (.int .i64 (-1))] []=true:=by kernel_rfl
theorem aQt (a lo b hi p:Int)(w0:World) (H0:Same w0 87 #[(r4 a lo b hi),(.int .i64 p)] (.int .i64 0)):Same w0 55 #[(r4 a lo b hi),(.int .i64 p),(.int .i64 (-1))] (cond (decide (p<1)) (.tuple #[(r4 0 0 0 0),(.int .i64 18)]) (cond (decide (3<p)) (.tuple #[(r4 0 0 0 0),(.int .i64 18)]) (.tuple #[(r4 0 0 0 0),(.int .i64 1)]))):=
 aB (aFN (.agg #[.int .i8 a,.int .i64 lo,.int .i8 b,.int .i64 hi,.int .i64 p])) (aP w0) (kM w0) .nil (.cons H0 .nil) (aC (by kernel_rfl)) (by kernel_rfl)
def aOE:DT:=(.leaf (.aK [(rK q8 qz q8 qz),(.v (.int .i64 15))]))
theorem aIQ(l:Value):aOE.ok tb0 l [] [(87,[rK (qe 0) (qi 1) (qe 2) (qi 3),.v (.int .i64 3)],.v (.int .i64 1)),(88,[rK (qe 0) (qi 1) (qe 2) (qi 3),.v (.int .i64 3)],.v (.int .i64 (-9223372036854775808)))] .nil 60 LG 55 [rK (qe 0) (qi 1) (qe 2) (qi 3),.v (.int .i64 3),.v (.int .i64 (-1))] []=true:=by kernel_rfl
theorem aTL (a lo b hi:Int)(w0:World) (H0:Same w0 87 #[(r4 a lo b hi),(.int .i64 3)] (.int .i64 1))(H1:Same w0 88 #[(r4 a lo b hi),(.int .i64 3)] (.int .i64 (-9223372036854775808))):Same w0 55 #[(r4 a lo b hi),(.int .i64 3),(.int .i64 (-1))] (.tuple #[(r4 0 0 0 0),(.int .i64 15)]):=
 aB (aIQ (.agg #[.int .i8 a,.int .i64 lo,.int .i8 b,.int .i64 hi])) (aP w0) (kM w0) .nil (.cons H0 (.cons H1 .nil)) (aC (by kernel_rfl)) (by kernel_rfl)
end Sk
end
end Go.Proofs.YtacggmlngekidaaGreatDoor
