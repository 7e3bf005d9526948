import Derived.Test.YtebgcnnhokclaaaGreatDoorP2
import Derived.Test.YtebgcnnhokclaaaGreatDoorP3
import Derived.Deep.CutBlock
import Derived.WalkMore
import Derived.Deep.DeepCutAuto
import Derived.Deep.LoopGhost
set_option linter.unusedSimpArgs false
set_option linter.unusedVariables false
set_option maxRecDepth 1000000
set_option linter.unusedSectionVars false
set_option maxHeartbeats 8000000
namespace Go.Proofs.YtebgcnnhokclaaaGreatDoor
abbrev aVL:=@Go.IntKind.wrap_i64
abbrev aVW:=@false_implies
abbrev aV2:=@or_false
abbrev aV4:=@implies_true
abbrev aV5:=@forall_const
abbrev aWh:=@Go.World.ownsRow_nil
abbrev aWt:=@true_implies
abbrev aYe:=@cond_false
abbrev aYf:=@bne_eq_false_iff_eq
abbrev aYR:=@List.flatMap_append
abbrev aZI:=@Go.wpList_append_own
abbrev a0I:=@and_true
abbrev a1e:=@true_and
abbrev a1g:=@false_or
abbrev a1F:=@UInt8.toNat.inj
abbrev a1O:=@Go.info_parts
abbrev a1R:=@Bool.eq_false_or_eq_true
abbrev a2e:=@ByteArray.data_append
section
open Go.RowKit Go.Lib
namespace Bk
open Un (ba bt ri rb dO eY)
def dM(W:World)(v:Value)(l:List Int):Prop:= ∃g cap,v=.slice (some ⟨g,0,none⟩) l.length cap/\g<W.heap.size/\ ∀i (h:i<l.length),W.cell? ⟨g,i,none⟩=some (.int .i64 (l[i]'h))
theorem dM.later{W W2:World}{v:Value}{l:List Int}(h:dM W v l)(hb:Below W.heap.size W W2):dM W2 v l:=by
 obtain⟨g,cap,rfl,hg,hc⟩:=h;exact⟨g,cap,rfl,by have:=hb.size;omega,fun i hi=>(hb.cell (p:=⟨g,i,none⟩) hg).trans (hc i hi)⟩
theorem dM.own{W:World}{base e:Nat}{v:Value}{l:List Int}(h:W.ownsRow base e 1 v l.length (l.map (.int .i64)))(hne:l≠[]):dM W v l:=by
 obtain⟨h1,⟨rfl,h2⟩|⟨g,cap,cur,rfl,hg,hh,hn,hc,hs,ht⟩⟩:=h
 . exact absurd (aQS.1 h2) hne
 refine⟨g,cap,rfl,?_,fun i hi=>?_⟩
 . by_cases c:g<W.heap.size
   . exact c
   rw[aLF (by omega)]at hh;cases hh
 have hown:W.ownsRow base e 1 (.slice (some ⟨g,0,none⟩) l.length cap) l.length (l.map (.int .i64)):=⟨h1,.inr ⟨g,cap,cur,rfl,hg,hh,hn,hc,hs,ht⟩⟩;rw[hown.cellAt i (by omega),aFx,aEH hi];rfl
theorem dM.one{W:World}{g cap:Nat}{n:Int}(hg:g<W.heap.size)(hc:W.cell? ⟨g,0,none⟩=some (.int .i64 n)):dM W (.slice (some ⟨g,0,none⟩) 1 cap) [n]:=
 ⟨g,cap,rfl,hg,fun i hi=>by
  have:i=0:=by simp at hi;omega
  subst this;exact hc⟩
def aNj(l:List Int)(w:World)(e:Ending)(w':World):Prop:= ∃v,e=.returned v/\dM w' v l/\Below w.heap.size w w'
theorem BO:(Tryz.prog.info? 3).map (fun i=>(i.zero,i.size,i.bytes))=some (some (.int .i64 0),1,8):=by kernel_rfl
theorem YL(s:ByteArray)(n:Int)(w:World)(h2:s.size=2)(hx: ∀i,i<2->bH s i=88\/(48<=bH s i/\bH s i<=57))(n0:1<=n)(n1:n<=99):
 Calls Tryz.prog 178 #[.string s,.int .i64 n] w fun r w'=>r=.returned (.bool (jS s n))/\w=w':=by
 have l0:0<s.size:=by omega
 have l1:1<s.size:=by omega
 have hA:=aDc h2 n;have x0:=hx 0 (by omega);have x1:=hx 1 (by omega);rw[bU s 0 l0]at x0;rw[bU s 1 l1]at x1;have y0:48<=((s[0]'l0).toNat:Int):=by omega
 have y1:48<=((s[1]'l1).toNat:Int):=by omega
 have z0:((s[0]'l0).toNat:Int)<=88:=by omega
 have z1:((s[1]'l1).toNat:Int)<=88:=by omega
 have q0:0<=n / 10:=by omega
 have r0:0<=n % 10:=by omega
 obtain⟨a0,g0⟩: ∃b,(((s[0]'l0).toNat:Int)==88)=b:=⟨_,rfl⟩;obtain⟨a1,g1⟩: ∃b,(((s[0]'l0).toNat:Int) - 48==n / 10)=b:=⟨_,rfl⟩;obtain⟨b0,g2⟩: ∃b,(((s[1]'l1).toNat:Int)==88)=b:=⟨_,rfl⟩;obtain⟨b1,g3⟩: ∃b,(((s[1]'l1).toNat:Int) - 48==n % 10)=b:=⟨_,rfl⟩;have g1':(((s[0]'l0).toNat:Int)==48+n / 10)=a1:=by rw[<-g1,aQP];simp only[aFy];omega
 have g3':(((s[1]'l1).toNat:Int)==48+n % 10)=b1:=by rw[<-g3,aQP];simp only[aFy];omega
 rw[P9 g0 g1' g2 g3']at hA;have HA:=ZU hA;clear hA x0 x1 hx g1' g3' h2
 cases a0<;>cases a1<;>cases b0<;>cases b1
 all_goals
  as_aux_lemma=>
   go_enter Tryz.func178,Tryz.ntmps178
   go_wp2
   go_ret
   exact⟨rb HA.out.symm,rfl⟩
theorem aCV(s:ByteArray)(g:Nat):(eX s g).length<=g:=oW s g
theorem fits_any (s:ByteArray) (g:Nat) (w:World) (h2:s.size=2) (hx: ∀i,i<2->bH s i=88\/(48<=bH s i/\bH s i<=57)) (hg:g<=99) (hne:eX s g≠[]):
 Calls Tryz.prog 134 #[.string s,.int .i64 g] w (aNj (eX s g) w):=by
 obtain⟨i0,hi,hz0,hz1,hz2⟩:=a1O BO;have HF:=ZU (fun(k:Nat) (hk:k<g) (w:World)=>YL s ((k:Int)+1) w h2 hx (by omega) (by omega));have HNE:=ZU hne;clear hx hne h2
 go_enter Tryz.func134,Tryz.ntmps134
 go_wp2
 go_loopw [5,8] (fun v i wr=> ∃k:Nat,k<=g/\i=.int .i64 k/\wr.ownsRow w.heap.size 3 1 v (eX s k).length ((eX s k).map (Value.int .i64))/\Below w.heap.size w wr) (fun _ i _=>g - (intOf i).toNat)
 case atStart=>exact⟨0,aLm _,rfl,aWh _ _ _ _,aDl _ _⟩
 case round=>
  obtain⟨k,hk,rfl,hown,hb⟩:=hrel
  by_cases hlt:k<g
  . have hf:=HF.out k hlt;have hle:=aCV s k
    cases ha:jS s ((k:Int)+1)
    . as_aux_lemma=>
       rw[ha]at hf;have HA:=ZU hf;have HE:=ZU (LQ ha);have HO:=ZU hown;have HB:=ZU hb;clear hf ha hown hb
       go_wp2_with (go_at_call 178;with_reducible refine(HA.out _).mono ?_;rintro _ w' ⟨rfl,rfl⟩)
       go_roundw
       case rel=>exact⟨k+1,by omega,by go_num,by rw[HE.out];exact HO.out,HB.out⟩
       case measure=>simp[intOf];omega
    as_aux_lemma=>
     rw[ha]at hf;have HA:=ZU hf;have HE:=ZU (EC ha);have HB:=ZU hb;clear hf ha hb
     go_wp2_with (first
      |(go_at_call 178;with_reducible refine(HA.out _).mono ?_;rintro _ w' ⟨rfl,rfl⟩)
      |(at_builtin;refine aZI _ rfl _ _ 165 rfl w.heap.size 3 i0 (.int .i64 0) 1 8 Tryz.underlying165 hi hz0 hz1 hz2 rfl (by decide) _ _ _ rfl (hown.alloc _) ⟨wr.heap.size,0,none⟩ 1 1 [.int .i64 ((k:Int)+1)] rfl rfl ?c1 ?c2 ?c3 ?c4 ?c5 ?_))
     case c1=>
      intro j u hj
      match j,hj with
      |0,hj=>simp at hj;subst hj;simp[Addr.add]
     case c2=>intro u hu;simp at hu;subst hu;rfl
     case c3=>unfold maxLen;omega
     case c4=>omega
     case c5=>have:=HB.out.size;simp;omega
     intro v' w1 hown' hgrow _;have hB2:=((HB.out).alloc (HB.out.size) (.cells #[.int .i64 ((k:Int)+1)] 3)).grown hgrow (by have:=HB.out.size;simp;omega) (fun j hj=>(hown.lt j hj).1);have hO2:w1.ownsRow w.heap.size 3 1 v' (eX s (k+1)).length ((eX s (k+1)).map (Value.int .i64)):=by rw[HE.out];simpa using hown'
     replace hB2:=ZU hB2;replace hO2:=ZU hO2;clear hown' hgrow hown HB
     go_wp2
     go_roundw
     case rel=>exact⟨k+1,by omega,by go_num,hO2.out,hB2.out⟩
     case measure=>simp[intOf];omega
  as_aux_lemma=>
   obtain rfl:k=g:=by omega
   have hS:=dM.own hown HNE.out;have HB:=ZU hb;replace hS:=ZU hS;clear hown hb HF
   go_wp2
   go_ret
   exact⟨_,rfl,hS.out,HB.out⟩
end Bk
end
section
open Go.RowKit Go.Lib
namespace Bk
open Un (ba bt ri rb dO eY)
theorem iZ{s:ByteArray}{g:Nat}(hg:g<=99)(h:fC s g=true):s.size=2/\(∀i,i<2->bH s i=88\/(48<=bH s i/\bH s i<=57))/\eX s g≠[]:=by
 refine⟨?_,?_,(aBG s g).1 h⟩
 . by_cases c:s.size=2
   . exact c
   rw[I5 c]at h;cases h
 obtain⟨n,h1,h2,h3⟩:=(wU s g).1 h;unfold jS at h3;simp only[aEx,aL6,aEv]at h3;intro i hi;obtain rfl|rfl:i=0\/i=1:=by omega
 all_goals omega
def zG(d:Dt):List Value:=[.bool d.neg,.bool d.long,.string d.dg,.int .i64 d.ex,.int .i64 d.sig,.string d.mo,.string d.da,.int .u8 d.m0,.int .u8 d.m1,.int .u8 d.m2]
def kF(d:Dt)(mv dv:Value):List Value:=[.bool d.neg,.bool d.long,.string d.dg,.int .i64 d.ex,.int .i64 d.sig,.string d.mo,.string d.da,.int .u8 d.m0,.int .u8 d.m1,.int .u8 d.m2,mv,dv]
def SC:List Value:=[.bool false,.bool false,.string ⟨#[]⟩,.int .i64 0,.int .i64 0,.string ⟨#[]⟩,.string ⟨#[]⟩,.int .u8 0,.int .u8 0,.int .u8 0,.slice none 0 0,.slice none 0 0]
theorem aPU(d:Dt):eP d=.agg (zG d).toArray:=rfl
theorem D7:(Tryz.prog.info? 30).map (·.size)=some 10:=by kernel_rfl
theorem mO:(Tryz.prog.info? 167).map (·.size)=some 12:=by kernel_rfl
def aMk(d:Dt)(w:World)(e:Ending)(w':World):Prop:= ∃mv dv,e=.returned (.agg (kF d mv dv).toArray)/\dM w' mv d.ms/\dM w' dv d.ds/\Below w.heap.size w w'
theorem jQ{d:Dt}(h:d.form=0):(d.aG≠0/\d.mo.size≠0/\d.da.size=0)\/(d.aG=0/\d.mo.size≠0/\fC d.mo 12=true/\(d.da.size=0\/fC d.da 31=true))\/(d.aG=0/\d.mo.size=0/\d.da.size=0):=by
 obtain⟨_,h1,h2,_⟩:=Dt.mP h
 by_cases c:d.aG=0
 . by_cases e:d.mo.size=0
   . refine .inr (.inr ⟨c,e,?_⟩);rcases h2 with h2|h2
     . exact h2
     exact absurd e h2.1
   refine .inr (.inl ⟨c,e,?_,?_⟩)
   . rcases h1 with h1|h1|h1
     . exact absurd h1 e
     . exact absurd c h1
     exact h1
   rcases h2 with h2|h2
   . exact .inl h2
   exact .inr h2.2.2
 refine .inl ⟨c,?_,?_⟩
 . intro e;exact c (EW (by omega))
 rcases h2 with h2|h2
 . exact h2
 exact absurd h2.2.1 c
theorem qE(w:World)(o:Obj):(w.alloc o).heap.size=w.heap.size+1:=by show(w.heap.push o).size=_;simp
theorem aMF(d:Dt){mv dv:Value}(hm:mv.oneCell'=true)(hd:dv.oneCell'=true):(kF d mv dv).toArray.all (·.oneCell')=true:=
 a05 (fun v hv=>by
  unfold kF at hv;simp only[aGv,aMt,aV2]at hv;rcases hv with rfl|rfl|rfl|rfl|rfl|rfl|rfl|rfl|rfl|rfl|rfl|rfl<;>first|rfl|assumption)
theorem dM.one'{W:World}{v:Value}{l:List Int}(h:dM W v l):v.oneCell'=true:=by obtain⟨g,cap,rfl,_⟩:=h;rfl
theorem dM.lit{w W:World}(n:Int):dM (W.alloc (.cells #[.int .i64 n] 3)) (.slice (some ⟨W.heap.size,0,none⟩) 1 1) [n]:=
 dM.one (by rw[qE];omega) (by simp[go_sem])
theorem Rw.TY{p:Nat}{d:Dt}{w W:World}(h:Rw p (zG d) w W):W.cell? ⟨p,0,none⟩=some (.bool d.neg)/\W.cell? ⟨p,1,none⟩=some (.bool d.long)/\W.cell? ⟨p,2,none⟩=some (.string d.dg)/\W.cell? ⟨p,3,none⟩=some (.int .i64 d.ex)/\W.cell? ⟨p,4,none⟩=some (.int .i64 d.sig)/\W.cell? ⟨p,5,none⟩=some (.string d.mo)/\W.cell? ⟨p,6,none⟩=some (.string d.da)/\W.cell? ⟨p,7,none⟩=some (.int .u8 d.m0)/\W.cell? ⟨p,8,none⟩=some (.int .u8 d.m1)/\W.cell? ⟨p,9,none⟩=some (.int .u8 d.m2):=
 ⟨h.cell _ _ rfl,h.cell _ _ rfl,h.cell _ _ rfl,h.cell _ _ rfl,h.cell _ _ rfl,h.cell _ _ rfl,h.cell _ _ rfl,h.cell _ _ rfl,h.cell _ _ rfl,h.cell _ _ rfl⟩
theorem aH7{w W0:World}{p1 p2:Nat}(d:Dt)(h1:Rw p1 (zG d) w W0)(h2:Rw p2 SC w W0):
 (((W0.alloc (.cells #[.int .i64 0] 3)).alloc (.cells #[.int .i64 0] 3)).alloc (.cells #[.bool false,.bool false,.string ⟨#[]⟩,.int .i64 0,.int .i64 0,.string ⟨#[]⟩,.string ⟨#[]⟩,.int .u8 0,.int .u8 0,.int .u8 0,.slice none 0 0,.slice none 0 0] 167)).there (W0.heap.size+1+1) 0 12/\
 ∀mv dv:Value,mv=.slice (some ⟨W0.heap.size,0,none⟩) 1 1->dv=.slice (some ⟨W0.heap.size+1,0,none⟩) 1 1-> ∀W3,W3=(((W0.alloc (.cells #[.int .i64 0] 3)).alloc (.cells #[.int .i64 0] 3)).alloc (.cells #[.bool false,.bool false,.string ⟨#[]⟩,.int .i64 0,.int .i64 0,.string ⟨#[]⟩,.string ⟨#[]⟩,.int .u8 0,.int .u8 0,.int .u8 0,.slice none 0 0,.slice none 0 0] 167)).setCells (W0.heap.size+1+1) 0 (kF d mv dv)->
  W0.heap.size+1+1≠p2/\W0.heap.size+1+1≠p1/\Rw (W0.heap.size+1+1) (kF d mv dv) w W3/\Rw p2 SC w W3/\Rw p1 (zG d) w W3/\dM W3 mv [0]/\dM W3 dv [0]:=by
 have b0:=h1.below;have e1:(W0.alloc (.cells #[.int .i64 0] 3)).heap.size=W0.heap.size+1:=qE _ _;have e2:((W0.alloc (.cells #[.int .i64 0] 3)).alloc (.cells #[.int .i64 0] 3)).heap.size=W0.heap.size+1+1:=by rw[qE,e1]
 have h3:Rw (W0.heap.size+1+1) SC w (((W0.alloc (.cells #[.int .i64 0] 3)).alloc (.cells #[.int .i64 0] 3)).alloc (.cells #[.bool false,.bool false,.string ⟨#[]⟩,.int .i64 0,.int .i64 0,.string ⟨#[]⟩,.string ⟨#[]⟩,.int .u8 0,.int .u8 0,.int .u8 0,.slice none 0 0,.slice none 0 0] 167)):=by
  have:=Rw.fresh (ba (ba b0 (.cells #[.int .i64 0] 3)) (.cells #[.int .i64 0] 3)) SC 167;rw[e2]at this;exact this
 refine⟨h3.there,?_⟩;rintro mv dv rfl rfl W3 rfl;have l1:=h1.lt;have l2:=h2.lt;have n1:=h1.new;have bA:Below W0.heap.size W0 (((W0.alloc (.cells #[.int .i64 0] 3)).alloc (.cells #[.int .i64 0] 3)).alloc (.cells #[.bool false,.bool false,.string ⟨#[]⟩,.int .i64 0,.int .i64 0,.string ⟨#[]⟩,.string ⟨#[]⟩,.int .u8 0,.int .u8 0,.int .u8 0,.slice none 0 0,.slice none 0 0] 167)):=ba (ba (ba (aDl _ _) _) _) _;have i1:dM (((W0.alloc (.cells #[.int .i64 0] 3)).alloc (.cells #[.int .i64 0] 3)).alloc (.cells #[.bool false,.bool false,.string ⟨#[]⟩,.int .i64 0,.int .i64 0,.string ⟨#[]⟩,.string ⟨#[]⟩,.int .u8 0,.int .u8 0,.int .u8 0,.slice none 0 0,.slice none 0 0] 167)) (.slice (some ⟨W0.heap.size,0,none⟩) 1 1) [0]:=
  ((dM.lit (w:=w) (W:=W0) 0).later (ba (aDl _ _) _)).later (ba (aDl _ _) _)
 have i2:dM (((W0.alloc (.cells #[.int .i64 0] 3)).alloc (.cells #[.int .i64 0] 3)).alloc (.cells #[.bool false,.bool false,.string ⟨#[]⟩,.int .i64 0,.int .i64 0,.string ⟨#[]⟩,.string ⟨#[]⟩,.int .u8 0,.int .u8 0,.int .u8 0,.slice none 0 0,.slice none 0 0] 167)) (.slice (some ⟨W0.heap.size+1,0,none⟩) 1 1) [0]:=by
  have:=(dM.lit (w:=w) (W:=W0.alloc (.cells #[.int .i64 0] 3)) 0).later (ba (aDl _ _) (.cells #[.bool false,.bool false,.string ⟨#[]⟩,.int .i64 0,.int .i64 0,.string ⟨#[]⟩,.string ⟨#[]⟩,.int .u8 0,.int .u8 0,.int .u8 0,.slice none 0 0,.slice none 0 0] 167));rw[e1]at this;exact this
 have keep: ∀ {g:Nat} {l:List Int} {v:Value},dM (((W0.alloc (.cells #[.int .i64 0] 3)).alloc (.cells #[.int .i64 0] 3)).alloc (.cells #[.bool false,.bool false,.string ⟨#[]⟩,.int .i64 0,.int .i64 0,.string ⟨#[]⟩,.string ⟨#[]⟩,.int .u8 0,.int .u8 0,.int .u8 0,.slice none 0 0,.slice none 0 0] 167)) v l->v.ownBlock≠some (W0.heap.size+1+1)->dM ((((W0.alloc (.cells #[.int .i64 0] 3)).alloc (.cells #[.int .i64 0] 3)).alloc (.cells #[.bool false,.bool false,.string ⟨#[]⟩,.int .i64 0,.int .i64 0,.string ⟨#[]⟩,.string ⟨#[]⟩,.int .u8 0,.int .u8 0,.int .u8 0,.slice none 0 0,.slice none 0 0] 167)).setCells (W0.heap.size+1+1) 0 (kF d (.slice (some ⟨W0.heap.size,0,none⟩) 1 1) (.slice (some ⟨W0.heap.size+1,0,none⟩) 1 1))) v l:=by
  rintro _ l v ⟨g,cap,rfl,hg,hc⟩ hne;refine⟨g,cap,rfl,by rw[setCells_size];exact hg,fun i hi=>?_⟩;rw[aV6 _ _ _ _ _ (fun e _=>absurd (by rw[<-e];rfl) hne)];exact hc i hi
 refine⟨by omega,by omega,h3.vK _ rfl,(h2.later bA).others (by omega) (by omega) _ _,(h1.later bA).others (by omega) (by omega) _ _,keep (g:=0) i1 ?_,keep (g:=0) i2 ?_⟩
 . intro e;have e:W0.heap.size=W0.heap.size+1+1:=aOa e;omega
 intro e;have e:W0.heap.size+1=W0.heap.size+1+1:=aOa e;omega
theorem dM.set{W:World}{v u:Value}{l:List Int}{p k:Nat}(h:dM W v l)(hne:v.ownBlock≠some p):dM (W.setCell ⟨p,k,none⟩ u) v l:=by
 obtain⟨g,cap,rfl,hg,hc⟩:=h;refine⟨g,cap,rfl,by show g<(W.heap.modify _ _).size;rw[a1u];exact hg,fun i hi=>?_⟩;rw[aQz _ _ _ _ (fun e=>by injection e with e1 e2;exact hne (by rw[e1];rfl))];exact hc i hi
theorem dM.sets{W:World}{v:Value}{l:List Int}{p k:Nat}{us:List Value}(h:dM W v l)(hne:v.ownBlock≠some p):dM (W.setCells p k us) v l:=by
 obtain⟨g,cap,rfl,hg,hc⟩:=h;refine⟨g,cap,rfl,by rw[setCells_size];exact hg,fun i hi=>?_⟩;rw[aV6 _ _ _ _ _ (fun e _=>absurd (by rw[<-e];rfl) hne)];exact hc i hi
theorem Rw.apart{p:Nat}{vs:List Value}{w W:World}(h:Rw p vs w W){v:Value}{l:List Int}(hv:dM W v l){x:Value}(hx:vs[0]? =some x)(hne: ∀n,x≠ .int .i64 n)(hl:l≠[]):v.ownBlock≠some p:=by
 obtain⟨g,cap,rfl,hg,hc⟩:=hv;intro e;have e:g=p:=aOa e;subst e;have h1:=h.cell 0 x hx;have h2:=hc 0 (by cases l with|nil=>exact absurd rfl hl|cons a b=>simp);rw[h1]at h2;exact hne _ (aOa h2)
theorem Dt.rW{d:Dt}(h:d.aG≠0):d.ms=[d.aG]:=by unfold Dt.ms;rw[aFw h]
theorem Dt.xA{d:Dt}(h:d.aG=0)(h2:d.mo.size≠0):d.ms=eX d.mo 12:=by unfold Dt.ms;rw[aFv (by omega),aFv h2]
theorem Dt.BG{d:Dt}(h:d.aG=0)(h2:d.mo.size=0):d.ms=[0]:=by unfold Dt.ms;rw[aFv (by omega),aFw h2]
theorem Dt.TT{d:Dt}(h:d.da.size≠0):d.ds=eX d.da 31:=by unfold Dt.ds;rw[aFv h]
theorem Dt.ds_none{d:Dt}(h:d.da.size=0):d.ds=[0]:=by unfold Dt.ds;rw[aFw h]
theorem Dt.aS9{d:Dt}(h:d.form=0):d.ms≠[]:=by
 rcases jQ h with⟨h1,_⟩|⟨h1,h2,h3,_⟩|⟨h1,h2,_⟩
 . rw[Dt.rW h1];simp
 . rw[Dt.xA h1 h2];exact(iZ (by omega) h3).2.2
 rw[Dt.BG h1 h2];simp
theorem Dt.aUw{d:Dt}(h:d.form=0):d.ds≠[]:=by
 by_cases c:d.da.size=0
 . rw[Dt.ds_none c];simp
 rw[Dt.TT c];rcases jQ h with⟨_,_,h3⟩|⟨_,_,_,h3⟩|⟨_,_,h3⟩
 . exact absurd h3 c
 . rcases h3 with h3|h3
   . exact absurd h3 c
   exact(iZ (by omega) h3).2.2
 exact absurd h3 c
theorem aO3(d:Dt)(w:World)(hk:QD w)(hs:d.mo.size<=1000)(hf:d.form=0):
 Calls Tryz.prog 97 #[eP d] w (aMk d w):=by
 have hS:=fun W hb=>tH d W (hk.below (w':=W) hb) hs;have hD:Rw w.heap.size (zG d) w ((w.alloc (.cells #[.bool d.neg,.bool d.long,.string d.dg,.int .i64 d.ex,.int .i64 d.sig,.string d.mo,.string d.da,.int .u8 d.m0,.int .u8 d.m1,.int .u8 d.m2] 30)).alloc (.cells #[.bool false,.bool false,.string ⟨#[]⟩,.int .i64 0,.int .i64 0,.string ⟨#[]⟩,.string ⟨#[]⟩,.int .u8 0,.int .u8 0,.int .u8 0,.slice none 0 0,.slice none 0 0] 167)):=(Rw.fresh (aDl _ _) (zG d) _).later (ba (aDl _ _) _);have hZ:Rw (w.heap.size+1) SC w ((w.alloc (.cells #[.bool d.neg,.bool d.long,.string d.dg,.int .i64 d.ex,.int .i64 d.sig,.string d.mo,.string d.da,.int .u8 d.m0,.int .u8 d.m1,.int .u8 d.m2] 30)).alloc (.cells #[.bool false,.bool false,.string ⟨#[]⟩,.int .i64 0,.int .i64 0,.string ⟨#[]⟩,.string ⟨#[]⟩,.int .u8 0,.int .u8 0,.int .u8 0,.slice none 0 0,.slice none 0 0] 167)):=by
  have:=Rw.fresh (ba (aDl w.heap.size w) (.cells #[.bool d.neg,.bool d.long,.string d.dg,.int .i64 d.ex,.int .i64 d.sig,.string d.mo,.string d.da,.int .u8 d.m0,.int .u8 d.m1,.int .u8 d.m2] 30)) SC 167;rw[qE]at this;exact this
 unfold eP at hS;obtain⟨z,hz⟩: ∃z,z=decide (d.aG=0):=⟨_,rfl⟩;rw[<-hz]at hS;have HZ0:=ZU hz;clear hz;have HS0:=ZU hS;have HNE:=ZU (⟨Dt.aS9 hf,Dt.aUw hf⟩:d.ms≠[]/\d.ds≠[]);have HF:=ZU (jQ hf);clear hS hf;unfold eP
 go_enter Tryz.func97,Tryz.ntmps97
 go_upto_region 1 with(fail)
 generalize (w.alloc (.cells #[.bool d.neg,.bool d.long,.string d.dg,.int .i64 d.ex,.int .i64 d.sig,.string d.mo,.string d.da,.int .u8 d.m0,.int .u8 d.m1,.int .u8 d.m2] 30)).alloc (.cells #[.bool false,.bool false,.string ⟨#[]⟩,.int .i64 0,.int .i64 0,.string ⟨#[]⟩,.string ⟨#[]⟩,.int .u8 0,.int .u8 0,.int .u8 0,.slice none 0 0,.slice none 0 0] 167)=W0 at hD hZ ⊢
 go_cut [3] (fun s3 wx=> ∃p3 mv dv,s3=.pointer (some ⟨p3,0,none⟩)/\p3≠w.heap.size+1/\p3≠w.heap.size/\Rw p3 (kF d mv dv) w wx/\Rw (w.heap.size+1) SC w wx/\Rw w.heap.size (zG d) w wx/\dM wx mv [0]/\dM wx dv [0])
 case first=>
  obtain⟨hT,hN⟩:=aH7 d hD hZ;have HN:=ZU (hN _ _ rfl rfl _ rfl);obtain⟨q0,q1,q2,q3,q4,q5,q6,q7,q8,q9⟩:=hD.TY;clear hN hZ hD HF HS0
  go_wp2_with (first
   |(refine aQQ rfl 167 (.tmp 3) (.tmp 9) rfl (W0.heap.size+1+1) 0 (kF d (.slice (some ⟨W0.heap.size,0,none⟩) 1 1) (.slice (some ⟨W0.heap.size+1,0,none⟩) 1 1)).toArray rfl rfl hT mO (aMF d rfl rfl) ?_))
  go_meet
  obtain⟨g1,g2,g3,g4,g5,g6,g7⟩:=HN.out;exact⟨_,_,_,rfl,g1,g2,g3,g4,g5,g6,g7⟩
 case rest=>
  obtain⟨p3,mv,dv,rfl,n1,n2,hP,hZ,hD,hm,hv⟩:=hcut;obtain⟨q0,q1,q2,q3,q4,q5,q6,q7,q8,q9⟩:=hD.TY;have N1:=ZU n1;have N2:=ZU n2;clear n1 n2
  go_upto_if 15 with(go_at_call 120;with_reducible refine(HS0.out _ hD.below).mono ?_;rintro _ w2 ⟨rfl,hb⟩;replace hP:=hP.later hb;replace hZ:=hZ.later hb;replace hD:=hD.later hb;replace hm:=hm.later hb;replace hv:=hv.later hb;clear hb)
  clear q0 q1 q2 q3 q4 q5 q6 q7 q8 q9 HS0;obtain⟨q0,q1,q2,q3,q4,q5,q6,q7,q8,q9⟩:=hD.TY
  go_cut [] (fun wx=> ∃mv2,Rw p3 (kF d mv2 dv) w wx/\Rw (w.heap.size+1) SC w wx/\Rw w.heap.size (zG d) w wx/\dM wx mv2 d.ms/\dM wx dv [0])
  case first=>
   have aT8:w2.cell? ⟨p3,10,none⟩=some mv:=hP.cell 10 _ rfl;have aT4:=hP.free 10 (by show 10<12;omega);rcases HF.out with⟨h1,h2,h3⟩|⟨h1,h2,h3,h4⟩|⟨h1,h2,h3⟩
   . obtain rfl:z=false:=HZ0.out.trans (aEm h1);have hms:=Dt.rW h1;have es:(w2.setCell ⟨p3,10,none⟩ (.slice (some ⟨w2.heap.size,0,none⟩) 1 1)).heap.size=w2.heap.size:=by simp[World.setCell]
     have av:=hP.apart hv rfl (fun n e=>by cases e) (by simp);have bl:=ba (aDl (w2.setCell ⟨p3,10,none⟩ (.slice (some ⟨w2.heap.size,0,none⟩) 1 1)).heap.size (w2.setCell ⟨p3,10,none⟩ (.slice (some ⟨w2.heap.size,0,none⟩) 1 1))) (.cells #[.int .i64 d.aG] 3);have hX:Rw p3 (kF d (.slice (some ⟨w2.heap.size,0,none⟩) 1 1) dv) w _:=(hP.set 10 (by show 10<12;omega) (.slice (some ⟨w2.heap.size,0,none⟩) 1 1)).later bl;have hX2:dM ((w2.setCell ⟨p3,10,none⟩ (.slice (some ⟨w2.heap.size,0,none⟩) 1 1)).alloc (.cells #[.int .i64 d.aG] 3)) (.slice (some ⟨(w2.setCell ⟨p3,10,none⟩ (.slice (some ⟨w2.heap.size,0,none⟩) 1 1)).heap.size,0,none⟩) 1 1) [d.aG]:=dM.lit (w:=w) d.aG;rw[es]at hX2;have hX3:=(hv.set (k:=10) (u:=.slice (some ⟨w2.heap.size,0,none⟩) 1 1) av).later bl;have hX4:=(hZ.other N1.out hP.new 10 (.slice (some ⟨w2.heap.size,0,none⟩) 1 1)).later bl;have hX5:=(hD.other N2.out hP.new 10 (.slice (some ⟨w2.heap.size,0,none⟩) 1 1)).later bl;rw[<-hms]at hX2;have HX:=ZU (⟨hX,hX4,hX5,hX2,hX3⟩:_/\_/\_/\_/\_);have hlt:=hP.lt;clear hms hX hX2 hX3 hX4 hX5 av bl es h1 h2 h3 HF hP hZ hD hm hv
     go_wp2
     go_meet
     exact⟨_,HX.out⟩
   . obtain rfl:z=true:=HZ0.out.trans (aEy h1);have hms:=Dt.xA h1 h2;obtain⟨s2,sx,sn⟩:=iZ (by omega) h3;have HFi:=ZU (fun w=>fits_any d.mo 12 w s2 sx (by omega) sn);have m0:=LY h2;have HMS:=ZU hms;have SN:=ZU sn;clear hms h1 h2 h3 h4 s2 sx sn HF;generalize eX d.mo 12=L at *
     go_wp2_with fail
     refine(HFi.out _).mono ?_;rintro _ w4 ⟨v,rfl,hi,hb⟩;clear aT8 aT4;replace hP:=hP.later hb;replace hZ:=hZ.later hb;replace hD:=hD.later hb;replace hm:=hm.later hb;replace hv:=hv.later hb;clear hb;have aT8:w4.cell? ⟨p3,10,none⟩=some mv:=hP.cell 10 _ rfl;have aT4:=hP.free 10 (by show 10<12;omega);have hl:L≠[]:=SN.out;have ap:=hP.apart hi rfl (fun n e=>by cases e) hl;have hX:Rw p3 (kF d v dv) w _:=hP.set 10 (by show 10<12;omega) v;have hX2:=hi.set (k:=10) (u:=v) ap;rw[<-HMS.out]at hX2;have av:=hP.apart hv rfl (fun n e=>by cases e) (by simp);have hX3:=hv.set (k:=10) (u:=v) av;have HX:=ZU (⟨hX,hZ.other N1.out hP.new 10 v,hD.other N2.out hP.new 10 v,hX2,hX3⟩:_/\_/\_/\_/\_);obtain⟨g,cap,rfl,_⟩:=hi;clear hX hX2 hX3 ap av hP hZ hD hm hv
     go_wp2
     go_meet
     exact⟨_,HX.out⟩
   obtain rfl:z=true:=HZ0.out.trans (aEy h1);have hms:=Dt.BG h1 h2;rw[<-hms]at hm;have m0:=TS h2;have HX:=ZU (⟨hP,hZ,hD,hm,hv⟩:_/\_/\_/\_/\_);clear hms h1 h2 h3 HF hP hZ hD hm hv
   go_wp2
   go_meet
   exact⟨_,HX.out⟩
  case rest=>
   obtain⟨mv2,hP,hZ,hD,hm,hv⟩:=hcut;clear q0 q1 q2 q3 q4 q5 q6 q7 q8 q9;obtain⟨q0,q1,q2,q3,q4,q5,q6,q7,q8,q9⟩:=hD.TY;obtain⟨de,hde⟩: ∃z,d.da.toList.isEmpty=z:=⟨_,rfl⟩;have HDE:Hid ((de=true/\d.da.size=0)\/(de=false/\ ¬d.da.size=0)):=ZU (by
    rcases jY d.da with⟨c,e1⟩|⟨c,e1⟩
    . exact .inl ⟨hde.symm.trans e1,c⟩
    exact .inr ⟨hde.symm.trans e1,c⟩)
   go_upto_if 28 with(fail)
   clear hde
   go_cut [] (fun wx=> ∃dv2,Rw p3 (kF d mv2 dv2) w wx/\Rw (w.heap.size+1) SC w wx/\dM wx mv2 d.ms/\dM wx dv2 d.ds)
   case first=>
    have aT7:wc.cell? ⟨p3,11,none⟩=some dv:=hP.cell 11 _ rfl;have aT3:=hP.free 11 (by show 11<12;omega);rcases HDE.out with⟨rfl,c⟩|⟨rfl,c⟩
    . rw[<-Dt.ds_none c]at hv;have HX:=ZU (⟨hP,hZ,hm,hv⟩:_/\_/\_/\_);clear hP hZ hD hm hv c HF HZ0
      go_wp2
      go_meet
      exact⟨_,HX.out⟩
    have h4:fC d.da 31=true:=by
     rcases HF.out with⟨_,_,h⟩|⟨_,_,_,h⟩|⟨_,_,h⟩
     . exact absurd h c
     . rcases h with h|h
       . exact absurd h c
       exact h
     exact absurd h c
    obtain⟨s2,sx,sn⟩:=iZ (by omega) h4;have HFi:=ZU (fun w=>fits_any d.da 31 w s2 sx (by omega) sn);have HDS:=ZU (Dt.TT c);have SN:=ZU sn;have MN:=ZU (⟨hm,by
     rcases HF.out with⟨h,_,_⟩|⟨h,h2,h3,_⟩|⟨h,h2,_⟩
     . rw[Dt.rW h];simp
     . rw[Dt.xA h h2];exact(iZ (by omega) h3).2.2
     rw[Dt.BG h h2];simp⟩:dM wc mv2 d.ms/\d.ms≠[])
    clear h4 s2 sx sn c HF HZ0;generalize eX d.da 31=L at *
    go_wp2_with fail
    refine(HFi.out _).mono ?_;rintro _ w4 ⟨v,rfl,hi,hb⟩;clear aT7 aT3;have hm2:=MN.out.1.later hb;have mne:=MN.out.2;clear MN hm;replace hP:=hP.later hb;replace hZ:=hZ.later hb;clear hb hD hv;have aT7:w4.cell? ⟨p3,11,none⟩=some dv:=hP.cell 11 _ rfl;have aT3:=hP.free 11 (by show 11<12;omega);have ap:=hP.apart hi rfl (fun n e=>by cases e) SN.out;have am:=hP.apart hm2 rfl (fun n e=>by cases e) mne;have hX:Rw p3 (kF d mv2 v) w _:=hP.set 11 (by show 11<12;omega) v;have hX2:=hi.set (k:=11) (u:=v) ap;rw[<-HDS.out]at hX2;have HX:=ZU (⟨hX,hZ.other N1.out hP.new 11 v,hm2.set (k:=11) (u:=v) am,hX2⟩:_/\_/\_/\_);obtain⟨g,cap,rfl,_⟩:=hi;clear hX hX2 ap am hP hZ hm2 mne
    go_wp2
    go_meet
    exact⟨_,HX.out⟩
   case rest=>
    obtain⟨dv2,hP,hZ,hm,hv⟩:=hcut;clear q0 q1 q2 q3 q4 q5 q6 q7 q8 q9;have hR:=hP.range;have hT:=hZ.there;have o1:=aMF d hm.one' hv.one';have hX:=hZ.vK (kF d mv2 dv2) rfl;have hr:=aQO (P:=Tryz.prog) _ _ 0 167 (kF d mv2 dv2) _ hX.range Tryz.underlying167 rfl mO;have HX:=ZU (⟨hm.sets (k:=0) (us:=kF d mv2 dv2) (hZ.apart hm rfl (fun n e=>by cases e) HNE.out.1),hv.sets (k:=0) (us:=kF d mv2 dv2) (hZ.apart hv rfl (fun n e=>by cases e) HNE.out.2),hX.below⟩:_/\_/\_);replace hr:=ZU hr;clear hX hP hZ hm hv HF HZ0
    go_wp2_with (first
     |(refine aNI rfl 167 (.tmp 3) rfl p3 0 rfl (kF d mv2 dv2) _ hR Tryz.underlying167 rfl mO ?_)
     |(refine aQQ rfl 167 (.tmp 2) (.tmp 33) rfl (w.heap.size+1) 0 (kF d mv2 dv2).toArray rfl rfl hT mO o1 ?_))
    exact a0V (v:=.agg (kF d mv2 dv2).toArray) (AX Tryz.results97 _ rfl hr.out) rfl ⟨mv2,dv2,rfl,HX.out⟩
end Bk
end
section
open Go.RowKit Go.Lib
namespace Bk
open Un (ba bt ri rb dO eY)
theorem yQ(y m:Int)(w:World)(hk:QD w)(h0: -10000000000000000<=y)(h1:y<=10000000000000000)(m0:1<=m)(m1:m<=12):
 Calls Tryz.prog 180 #[.int .i64 y,.int .i64 m] w fun e w'=>e=.returned (.tuple #[.int .i64 (Cal.len y m),.int .i64 0])/\Below w.heap.size w w':=by
 have HC:Hid (∀w:World,Calls Tryz.prog 233 #[.int .i64 y,.int .i64 m] w fun e w'=>e=.returned (.int .i64 0)/\w=w'):=ZU (by
  intro w;have:=Un.kP y m w;unfold Un.FW at this;rw[aFw ⟨h0,h1⟩,aFw ⟨m0,m1⟩]at this;exact this)
 have HL:=ZU (Un.zI y m w hk.cal h0 h1 m0 m1);generalize Cal.len y m=n at *;clear hk
 go_enter Tryz.func180,Tryz.ntmps180
 go_wp2_with (first|(go_at_call 233;with_reducible refine(HC.out _).mono ?_;rintro _ w' ⟨rfl,rfl⟩)|(go_at_call 234;with_reducible refine HL.out.mono ?_;rintro _ w' ⟨rfl,hb⟩))
 go_ret2
 exact⟨rfl,hb⟩
def fmv(d:Dt)(mv dv:Value):Value:=.agg #[.bool d.neg,.bool d.long,.string d.dg,.int .i64 d.ex,.int .i64 d.sig,.string d.mo,.string d.da,.int .u8 d.m0,.int .u8 d.m1,.int .u8 d.m2,mv,dv]
theorem YI(d:Dt)(mv dv:Value)(y m:Int)(w:World)(hk:QD w)(h0: -10000000000000000<=y)(h1:y<=10000000000000000)(hm:d.da.size≠0->1<=m/\m<=12):
 Calls Tryz.prog 139 #[fmv d mv dv,.int .i64 y,.int .i64 m] w fun e w'=>e=.returned (.int .i64 (d.len y m))/\Below w.heap.size w w':=by
 have hF:Rw w.heap.size (kF d mv dv) w _:=Rw.fresh (aDl _ _) (kF d mv dv) 167;have q6:=hF.cell 6 _ rfl;have HB:=ZU hF.below;clear hF;unfold fmv;unfold kF at q6 HB;unfold Dt.len;rcases jY d.da with⟨c,e1⟩|⟨c,e1⟩
 . rw[aFw c];clear c
   go_enter Tryz.func139,Tryz.ntmps139
   go_wp2
   go_ret
   exact⟨rfl,HB.out⟩
 rw[aFv c];obtain⟨m0,m1⟩:=hm c;have HL:=ZU (fun W hb=>yQ y m W (hk.below (w':=W) hb) h0 h1 m0 m1);generalize Cal.len y m=n at *;clear c
 go_enter Tryz.func139,Tryz.ntmps139
 go_wp2_with (go_at_call 180;with_reducible refine(HL.out _ HB.out).mono ?_;rintro _ w' ⟨rfl,hb⟩)
 go_ret
 exact⟨rfl,bt HB.out hb⟩
theorem aDm{d:Dt}{n:Int}(hm:d.mask=false):d.Year n (yVal d.neg d.dg d.ex) (decide (n<=yVal d.neg d.dg d.ex)):=by
 have hin: ∀u,d.In u↔u=yVal d.neg d.dg d.ex:=fun u=>by
  unfold Dt.In yVal Dt.mag;rw[aFv (by rw[hm];decide)]
 by_cases c:n<=yVal d.neg d.dg d.ex
 . exact .inl ⟨aEy c,(hin _).2 rfl,c,fun u hu _=>by rw[(hin u).1 hu];exact a1a _⟩
 exact .inr ⟨aEm c,fun u hu h=>by rw[(hin u).1 hu]at h;exact c h⟩
theorem aNu{d:Dt}{n v:Int}{ok:Bool}(hm:d.mask=true)(hn:d.neg=false)(h:UpR (bH d.dg) n 0 v ok):d.Year n v ok:=by
 have hin: ∀u,d.In u↔qI (bH d.dg) u:=fun u=>by
  unfold Dt.In;rw[aFw hm,aFv (by rw[hn];decide)]
 rcases h.2.2 with⟨h1,h2,h3,_,h4⟩|⟨h1,h2⟩
 . exact .inl ⟨h1,(hin _).2 h2,h3,fun u hu hl=>h4 u ((hin u).1 hu) hl ((hin u).1 hu).1⟩
 exact .inr ⟨h1,fun u hu hl=>by have:=h2 u ((hin u).1 hu) ((hin u).1 hu).1;omega⟩
theorem aNv{d:Dt}{n v:Int}{ok:Bool}(hm:d.mask=true)(hn:d.neg=true)(h:DnR (bH d.dg) (-(max n (-9223372036854775807))) 1 v ok):d.Year n (-v) ok:=by
 have hin: ∀u,d.In u↔(qI (bH d.dg) (-u)/\u≠0):=fun u=>by
  unfold Dt.In;rw[aFw hm,aFw hn]
 rcases h.2.2 with⟨h1,h2,h3,h5,h4⟩|⟨h1,h2⟩
 . refine .inl ⟨h1,(hin _).2 ⟨by rw[Int.neg_neg];exact h2,by omega⟩,by omega,fun u hu hl=>?_⟩;obtain⟨g1,g2⟩:=(hin u).1 hu;have:=h4 (-u) g1 (by have:=g1.2.1;omega);omega
 refine .inr ⟨h1,fun u hu hl=>?_⟩;obtain⟨g1,g2⟩:=(hin u).1 hu;have:=h2 (-u) g1 (by have:=g1.2.1;omega);have:=g1.1;omega
theorem TK(d:Dt)(mv dv:Value)(n:Int)(w:World)(hy:d.dg.size<=1000)(hok:d.UR=true)(n0: -9223372036854775808<=n)(n1:n<9223372036854775808):
 Calls Tryz.prog 138 #[fmv d mv dv,.int .i64 n,.bool true] w (aJe (fun v ok=>d.Year n v ok) w):=by
 have hF:Rw w.heap.size (kF d mv dv) w _:=Rw.fresh (aDl _ _) (kF d mv dv) 167;unfold kF at hF;have hM:=fun W=>qK d.neg d.long d.dg d.ex d.sig W;unfold yv at hM;unfold Dt.UR at hok;unfold fmv
 go_enter Tryz.func138,Tryz.ntmps138
 go_upto_region 1 with(fail)
 generalize w.alloc _=W0 at hF ⊢;obtain⟨r0,r1,r2,r3,r4⟩:=(⟨hF.cell 0 _ rfl,hF.cell 1 _ rfl,hF.cell 2 _ rfl,hF.cell 3 _ rfl,hF.cell 4 _ rfl⟩:_/\_/\_/\_/\_);have HB0:=ZU hF.below;clear hF
 go_upto_region 2 with(fail)
 have hY:=Ym.new d.neg d.long d.dg d.ex d.sig W0 27;generalize W0.alloc _=W1 at hY ⊢;clear r0 r1 r2 r3 r4;obtain⟨q0,q1,q2,q3,q4,qB⟩:=id hY
 cases hx:hasB 88 d.dg
 . rw[hx]at hM;have HM:=ZU hM;have hV:=fun W=>yV d.neg d.long d.dg d.ex d.sig W hy hok hx;unfold yv at hV;have HV:=ZU hV;have HP:=ZU (aDm (d:=d) (n:=n) (by unfold Dt.mask;exact hx));have hb:=aCm hok hx;clear hM hV hok hx;generalize yVal d.neg d.dg d.ex=v at *
   go_wp2_with fail
   refine(HM.out _).mono ?_;rintro _ w1 ⟨rfl,hb⟩;replace hY:=hY.later hb;clear hb;obtain⟨q0,q1,q2,q3,q4,qB⟩:=id hY
   go_wp2_with fail
   refine(HV.out _).mono ?_;rintro _ w2 ⟨rfl,hb⟩;replace hY:=hY.later hb;clear hb;obtain⟨q0,q1,q2,q3,q4,qB⟩:=id hY;have HB2:=ZU (bt HB0.out hY.below)
   by_cases cn:n<=v
   . rw[aEy cn]at HP
     go_wp2_with fail
     go_ret2
     exact⟨_,_,HP.out,rfl,HB2.out⟩
   go_wp2_with fail
   go_ret2
   exact⟨_,_,HP.out,rfl,HB2.out⟩
 have hs:d.long=false/\d.dg.size=4/\allB eU d.dg=true:=by
  rcases a1R d.long with hl|hl
  case inr=>
   rw[hl]at hok;obtain⟨h1,h2,_⟩:=jT hok;exact⟨hl,h1,h2⟩
  case inl=>
   rw[hl]at hok;have hd:=(kW hok).2.2.1;have:=(oO (L8 hd)).2 hd;rw[hx]at this;cases this
 obtain⟨-,h4,hdx⟩:=hs;rw[hx]at hM;have HM:=ZU hM;have hmk:d.mask=true:=by unfold Dt.mask;exact hx
 rcases a1R d.neg with hn|hn
 case inr=>
  as_aux_lemma=>
   have HU:=ZU (fun w=>RZ d.dg n w h4 hdx n0 n1);have HP:=ZU (fun v ok h=>aNu (n:=n) (v:=v) (ok:=ok) hmk hn h);have HN:=ZU hn;clear hM hok hx h4 hdx hmk hn
   go_wp2_with fail
   refine(HM.out _).mono ?_;rintro _ w1 ⟨rfl,hb⟩;replace hY:=hY.later hb;clear hb;obtain⟨q0,q1,q2,q3,q4,qB⟩:=id hY;rw[HN.out]at q0
   go_wp2_with fail
   refine(HU.out _).mono ?_;rintro _ w2 ⟨v,ok,hU,rfl,hb⟩;have HP2:=ZU (HP.out _ _ hU);have HB2:=ZU (bt (bt HB0.out hY.below) hb);clear hb hU
   go_wp2_with fail
   go_ret2
   exact⟨_,_,HP2.out,rfl,HB2.out⟩
 case inl=>
  as_aux_lemma=>
   have HU:=ZU (fun w=>SA d.dg (-(max n (-9223372036854775807))) w h4 hdx);have HP:=ZU (fun v ok h=>aNv (n:=n) (v:=v) (ok:=ok) hmk hn h);have HN:=ZU hn;clear hM hok hx h4 hdx hmk hn
   go_wp2_with fail
   refine(HM.out _).mono ?_;rintro _ w1 ⟨rfl,hb⟩;replace hY:=hY.later hb;clear hb;obtain⟨q0,q1,q2,q3,q4,qB⟩:=id hY;rw[HN.out]at q0
   go_wp2_with fail
   refine(HU.out _).mono ?_;rintro _ w2 ⟨v,ok,hU,rfl,hb⟩;have HP2:=ZU (HP.out _ _ hU);have hw:wrap64 (-v)= -v:=by
    have g0:=hU.1;have g1:=hU.2.1;unfold wrap64;omega
   have HB2:=ZU (bt (bt HB0.out hY.below) hb);clear hb hU
   go_wp2_with fail
   rw[hw]
   go_ret2
   exact⟨_,_,HP2.out,rfl,HB2.out⟩
end Bk
end
section
open Go.RowKit Go.Lib
namespace Bk
open Un (ba bt ri rb dO eY)
theorem P8(a b:Int)(p:Nat)(w:World)(hc:w.cell? ⟨p,0,none⟩=some (.bool true)):
 Calls Tryz.prog 137 #[.int .i64 a,.int .i64 b,.pointer (some ⟨p,0,none⟩)] w fun r w'=>r=.returned (.bool (decide (a<b)))/\w=w':=by
 go_enter Tryz.func137,Tryz.ntmps137
 by_cases c:a<b
 . rw[aEy c]
   go_wp2_with fail
   go_ret
   exact⟨rfl,rfl⟩
 rw[aEm c]
 go_wp2_with fail
 go_ret
 exact⟨rfl,rfl⟩
def xR(y m k:Int):List Value:=[.int .i64 y,.int .i64 m,.int .i64 k]
def EO(d:Dt)(cy cm ck:Int)(w:World)(e:Ending)(w':World):Prop:= ∃y m k ok,d.EN cy cm ck y m k ok/\e=.returned (.tuple #[cvv y m k,.bool ok])/\Below w.heap.size w w'
structure Sk(d:Dt)(mv dv:Value)(cy cm ck:Int)(p3 p4 p5 p6:Nat)(w W:World):Prop where
 f:Rw p3 (kF d mv dv) w W
 c:Rw p4 (xR cy cm ck) w W
 u:Rw p5 [.bool true] w W
 o:Rw p6 (xR 0 0 0) w W
 m:dM W mv d.ms
 d:dM W dv d.ds
theorem Sk.later{d:Dt}{mv dv:Value}{cy cm ck:Int}{p3 p4 p5 p6:Nat}{w W W2:World}(h:Sk d mv dv cy cm ck p3 p4 p5 p6 w W)(hb:Below W.heap.size W W2):Sk d mv dv cy cm ck p3 p4 p5 p6 w W2:=
 ⟨h.f.later hb,h.c.later hb,h.u.later hb,h.o.later hb,h.m.later hb,h.d.later hb⟩
theorem Sk.new(d:Dt){mv dv:Value}(cy cm ck:Int)(w:World)(t1 t2 t3 t4:TypeId)(hm:dM w mv d.ms)(hd:dM w dv d.ds):
 Sk d mv dv cy cm ck w.heap.size (w.heap.size+1) (w.heap.size+1+1) (w.heap.size+1+1+1) w ((((w.alloc (.cells (kF d mv dv).toArray t1)).alloc (.cells (xR cy cm ck).toArray t2)).alloc (.cells #[.bool true] t3)).alloc (.cells (xR 0 0 0).toArray t4)):=by
 have f1:=Rw.fresh (aDl w.heap.size w) (kF d mv dv) t1;have f2:=Rw.fresh f1.below (xR cy cm ck) t2;have f3:=Rw.fresh f2.below [.bool true] t3;have f4:=Rw.fresh f3.below (xR 0 0 0) t4;simp only[qE]at f2 f3 f4;refine⟨?_,?_,?_,f4,?_,?_⟩
 . exact((f1.later (ba (aDl _ _) _)).later (ba (aDl _ _) _)).later (ba (aDl _ _) _)
 . exact(f2.later (ba (aDl _ _) _)).later (ba (aDl _ _) _)
 . exact f3.later (ba (aDl _ _) _)
 . exact hm.later f4.below
 exact hd.later f4.below
theorem aKo{d:Dt}{v m k cy cm ck:Int}{s2:Bool}(hmd:d.mo.size=0->d.da.size=0)(hle:cy<=v)(hns: ¬(v=cy/\d.mo.size≠0/\m<cm))(h2:s2=true↔v=cy/\(d.mo.size=0\/m=cm)):
 d.ge v m k cy cm ck↔ ¬(s2=true/\d.da.size≠0/\k<ck):=by
 unfold Dt.ge;rw[h2]
 by_cases c:cy<v
 . exact⟨fun _ h=>by omega,fun _=>.inl c⟩
 have e:v=cy:=by omega
 constructor
 . rintro(h|⟨_,h⟩) ⟨⟨_,g1⟩,g2,g3⟩
   . exact c h
   have:d.mo.size≠0:=fun h=>g2 (hmd h);omega
 intro h;refine .inr ⟨e,?_⟩
 by_cases c1:d.mo.size=0
 . exact .inl c1
 by_cases c2:m=cm
 . refine .inr (.inr ⟨c2,?_⟩)
   by_cases c3:d.da.size=0
   . exact .inl c3
   right
   by_cases c4:k<ck
   . exact absurd ⟨⟨e,.inr c2⟩,c3,c4⟩ h
   omega
 right;left;omega
theorem dM.at{W:World}{g n cap:Nat}{l:List Int}(h:dM W (.slice (some ⟨g,0,none⟩) n cap) l): ∀i (hi:i<l.length),W.cell? ⟨g,i,none⟩=some (.int .i64 (l[i]'hi)):=by
 obtain⟨g2,cap2,he,_,hc⟩:=h
 cases he
 exact hc
theorem aBt:(Tryz.prog.info? 163).map (·.size)=some 3:=by kernel_rfl
theorem VT{fn:Func}{p q:Tmp}{ty:TypeId}(h:fn.results= #[.cell p ty,.tmp q])(tmps:Array Value){P:Program}{w:World}{a:Addr}{v u:Value}
 (hp:tmps.getD p undef=.pointer (some a)) (hq:tmps.getD q undef=u) (hl:(loadVar ty a).run P w=.ok v w):(results fn tmps).run P w=.ok (.tuple #[v,u]) w:=by
 have hp':tmps[p]?.getD undef=.pointer (some a):=by simpa using hp
 have hq':tmps[q]?.getD undef=u:=by simpa using hq
 simp[results,h,hp',hq',asAddr,hl]
theorem VG{d:Dt}{cy cm ck y m k:Int}{ok:Bool}{p6:Nat}{w wO:World}{tmps:Array Value}(ho:Rw p6 (xR 0 0 0) w wO)(h:d.EN cy cm ck y m k ok)
 (hp:tmps.getD 6 undef=.pointer (some ⟨p6,0,none⟩)) (hq:tmps.getD 7 undef=.bool ok):
 bodyPost Tryz.prog Tryz.f98 (EO d cy cm ck w) Exit.ret ⟨tmps,[]⟩ (((wO.setCell ⟨p6,0,none⟩ (.int .i64 y)).setCell ⟨p6,1,none⟩ (.int .i64 m)).setCell ⟨p6,2,none⟩ (.int .i64 k)):=by
 have hX:=ho.vK (xR y m k) rfl;have hr:=aQO (P:=Tryz.prog) _ p6 0 163 (xR y m k) _ hX.range Tryz.underlying163 rfl aBt;exact a0V (v:=.tuple #[cvv y m k,.bool ok]) (VT Tryz.results98 _ hp hq hr) rfl ⟨y,m,k,ok,h,rfl,hX.below⟩
def aIF:Value->Nat
 | .bool true=>1
 |_=>0
def muY(y f:Value):Nat:=aIF f * (10000000000000002 - intOf y).toNat
structure Yst(d:Dt)(cy cm ck:Int)(v:Int)(ok:Bool):Prop where
 yes:ok=true->d.In v/\cy<=v/\d.NoY v cy cm ck
 no:ok=false-> ∀z n j,d.Fill z n j-> ¬d.ge z n j cy cm ck
theorem Yst.start{d:Dt}{cy cm ck v:Int}{ok:Bool}(h:d.Year cy v ok):Yst d cy cm ck v ok:=by
 have hs:=Dt.aEh (cm:=cm) (ck:=ck) h;refine⟨fun e=>?_,hs.2⟩;rcases h with g|g
 . exact⟨g.2.1,g.2.2.1,hs.1 e⟩
 rw[g.1]at e;cases e
theorem Yst.next{d:Dt}{cy cm ck y v:Int}{ok:Bool}(hs:Yst d cy cm ck y true)(hm:d.NoM y cy cm ck d.ms.length)(h:d.Year (y+1) v ok):Yst d cy cm ck v ok/\(ok=true->y<v):=by
 obtain⟨h1,h2,h3⟩:=hs.yes rfl;have hn:=Dt.aHg h3 hm h;rcases h with g|g
 . exact⟨⟨fun e=>⟨g.2.1,by have:=g.2.2.1;omega,hn.1 e⟩,hn.2⟩,fun _=>by have:=g.2.2.1;omega⟩
 refine⟨⟨fun e=>?_,hn.2⟩,fun e=>?_⟩<;>(rw[g.1]at e;cases e)
theorem aGe (d : Dt) (mv dv:Value) (cy cm ck:Int) (w:World) (hk:QD w) (hy:d.dg.size<=1000) (hok:d.UR=true) (hmd:d.mo.size=0->d.da.size=0)
 (y0: -9223372036854775808<=cy) (y1:cy<9223372036854775808) (hm:dM w mv d.ms) (hd:dM w dv d.ds) (hmm:d.da.size≠0-> ∀m,m ∈ d.ms->1<=m/\m<=12):
 Calls Tryz.prog 98 #[fmv d mv dv,cvv cy cm ck,.bool true] w (EO d cy cm ck w):=by
 obtain⟨gm,xm,rfl,-,-⟩:=id hm;obtain⟨gd,xd,rfl,-,-⟩:=id hd;have hS:=Sk.new d cy cm ck w 167 163 4 163 hm hd;have HY:=ZU (fun n W h0 h1=>TK d (.slice (some ⟨gm,0,none⟩) d.ms.length xm) (.slice (some ⟨gd,0,none⟩) d.ds.length xd) n W hy hok h0 h1);have HL:=ZU (fun y m W hb h0 h1 hm=>YI d (.slice (some ⟨gm,0,none⟩) d.ms.length xm) (.slice (some ⟨gd,0,none⟩) d.ds.length xd) y m W (hk.below (w':=W) hb) h0 h1 hm);have HIN:=ZU (fun y (h:d.In y)=>Dt.KQ hok h);have HMM:=ZU hmm;have HMD:=ZU hmd;unfold fmv at HY HL;unfold fmv cvv;unfold kF xR at hS
 go_enter Tryz.func98,Tryz.ntmps98
 go_upto_region 1 with(fail)
 generalize World.alloc _ _=W0 at hS ⊢;generalize w.heap.size+1+1+1=p6 at *;generalize w.heap.size+1+1=p5 at *;generalize w.heap.size+1=p4 at *;clear hk hy hok hm hd hmm hmd;replace hS:Hid (Sk d (.slice (some ⟨gm,0,none⟩) d.ms.length xm) (.slice (some ⟨gd,0,none⟩) d.ds.length xd) cy cm ck w.heap.size p4 p5 p6 w W0):=ZU hS;have HB0:=ZU hS.out.f.below
 go_cut [8,9,10] (fun a b c wx=>a=.int .i64 1/\ .slice (some ⟨gm,0,none⟩) d.ms.length xm=b/\ .slice (some ⟨gd,0,none⟩) d.ds.length xd=c/\Sk d b c cy cm ck w.heap.size p4 p5 p6 w wx)
 case first=>
  have f0:=hS.out.f.cell 10 _ rfl;have f1:=hS.out.f.cell 11 _ rfl
  go_region_with (fail)
  all_goals (go_wp2_with fail)
  all_goals (go_meet;exact⟨rfl,rfl,rfl,hS.out.later (aDl W0.heap.size W0).drew⟩)
 case rest=>
 obtain⟨rfl,rfl,rfl,hS⟩:=hcut;have hu:=hS.u.cell 0 _ rfl;have g0:=hS.c.cell 0 _ rfl;have hR:=hS.f.range;replace hS:=ZU hS
 go_wp2_with (first
  |(refine aNI rfl 167 (.tmp 3) rfl w.heap.size 0 rfl (kF d (.slice (some ⟨gm,0,none⟩) d.ms.length xm) (.slice (some ⟨gd,0,none⟩) d.ds.length xd)) _ hR Tryz.underlying167 rfl mO ?_)
  |(go_at_call 138;refine(HY.out _ _ y0 y1).mono ?_;rintro _ w1 ⟨v,ok,hv,rfl,hb⟩))
 replace hS:Hid (Sk d (.slice (some ⟨gm,0,none⟩) d.ms.length xm) (.slice (some ⟨gd,0,none⟩) d.ds.length xd) cy cm ck w.heap.size p4 p5 p6 w w1):=ZU (hS.out.later hb);have HV0:Hid (Yst d cy cm ck v ok):=ZU (Yst.start hv);clear hu g0 hR hv hb HB0
 go_loopw [7,12,13] (fun r y f wr=> ∃v ok,r=.bool false/\y=.int .i64 v/\f=.bool ok/\Yst d cy cm ck v ok/\Sk d (.slice (some ⟨gm,0,none⟩) d.ms.length xm) (.slice (some ⟨gd,0,none⟩) d.ds.length xd) cy cm ck w.heap.size p4 p5 p6 w wr) (fun _ y f _=>muY y f)
 case atStart=>exact⟨v,ok,rfl,rfl,rfl,HV0.out,hS.out⟩
 case round =>
  obtain⟨v,ok,rfl,rfl,rfl,hV,hS⟩:=hrel;generalize wr=wO at *;have HV:=ZU hV;have HS:=ZU hS;clear hV hS
  cases ok
  . have HN:=ZU (HV.out.no rfl);have f0:=HS.out.o.cell 0 _ rfl;have f1:=HS.out.o.cell 1 _ rfl;have f2:=HS.out.o.cell 2 _ rfl;have z0:=HS.out.o.free 0 (by unfold xR;simp);have z1:=HS.out.o.free 1 (by unfold xR;simp);have z2:=HS.out.o.free 2 (by unfold xR;simp)
    go_wp2_with fail
    exact VG HS.out.o (.inr ⟨rfl,rfl,rfl,rfl,HN.out⟩) rfl rfl
  obtain ⟨i1, i2, i3⟩:=HV.out.yes rfl;have HIV:=ZU (HIN.out _ i1);have HLE:=ZU i2;clear i1 i2 i3
  go_wp2_with fail
  go_step3
  go_wp2_with fail
  go_step3
  go_wp2_with fail
  have HM0:=ZU (Dt.aHh d v cy cm ck)
  go_loopw [7,55] (fun r i wr=> ∃i':Nat,r=.bool false/\i=.int .i64 i'/\i'<=d.ms.length/\d.NoM v cy cm ck i'/\Sk d (.slice (some ⟨gm,0,none⟩) d.ms.length xm) (.slice (some ⟨gd,0,none⟩) d.ds.length xd) cy cm ck w.heap.size p4 p5 p6 w wr) (fun _ i _=>d.ms.length - (intOf i).toNat)
  case atStart=>exact⟨0,rfl,rfl,by omega,HM0.out,HS.out⟩
  case round =>
   obtain⟨i,rfl,rfl,hi,hM,hS⟩:=hrel;clear HS HM0;generalize wr=wO at *;have HS:=ZU hS;have HM:=ZU hM;clear hS hM;have ml:=d.aHq
   by_cases hlt:i<d.ms.length
   . have hcell :=HS.out.m.at i hlt;generalize hme:d.ms[i]'hlt=m at hcell;have g0:=HS.out.c.cell 0 _ rfl
     go_upto_region 13 with(fail)
     go_cut [16] (fun s wx=> ∃b,s=.bool b/\(b=true↔v=cy)/\wO=wx)
     case first=>
      go_wp2_with fail
      go_meet
      exact⟨_,rfl,by simp,rfl⟩
     case rest=>
      obtain⟨sb,rfl,hsb,rfl⟩:=hcut;have HSB:=ZU hsb;clear hsb g0 hcell
      go_upto_region 14 with(fail)
      go_cut [76] (fun s wx=> ∃b,s=.bool b/\(b=true↔(v=cy/\d.mo.size≠0/\m<cm))/\wO=wx)
      case first=>
       have g5:=HS.out.f.cell 5 _ rfl;have g1:=HS.out.c.cell 1 _ rfl;have hu:=HS.out.u.cell 0 _ rfl;have HA:=ZU (P8 m cm p5 wO hu)
       cases sb
       . have hne:v≠cy:=fun e=>by have:=HSB.out.2 e;cases this
         go_wp2_with fail
         go_meet
         exact⟨_,rfl,by simp[hne],rfl⟩
       have hve:=HSB.out.1 rfl;rcases jY d.mo with⟨c,e1⟩|⟨c,e1⟩
       . have HC:=ZU c;clear c hve
         go_wp2_with fail
         go_meet
         exact⟨_,rfl,by simp[HC.out],rfl⟩
       have HC:=ZU c;have HVE:=ZU hve;clear c hve;generalize hmc:decide (m<cm)=mc at HA;have HMC:=ZU hmc;clear hmc
       go_wp2_with (go_at_call 137;with_reducible refine HA.out.mono ?_;rintro _ w' ⟨rfl,rfl⟩)
       go_meet
       exact⟨_,rfl,by rw[<-HMC.out];simp[HC.out,HVE.out],rfl⟩
      case rest =>
       obtain⟨b,rfl,hb,rfl⟩:=hcut
       cases b
       . have HNS : Hid (¬(v=cy/\d.mo.size≠0/\m<cm)):=ZU (fun h=>by have:=hb.2 h;cases this);clear hb;have hR:=HS.out.f.range;have hl:=HL.out v m wO HS.out.f.below HIV.out.1 HIV.out.2 (fun h=>HMM.out h m (by rw[<-hme];exact aVJ hlt));have HLN:=ZU hl;clear hl;obtain⟨n,hn⟩: ∃n,n=d.len v m:=⟨_,rfl⟩;rw[<-hn]at HLN;have HNN:=ZU hn;clear hn
         go_upto_region 16 with(first
          |(refine aNI rfl 167 (.tmp 3) rfl w.heap.size 0 rfl (kF d (.slice (some ⟨gm,0,none⟩) d.ms.length xm) (.slice (some ⟨gd,0,none⟩) d.ds.length xd)) _ hR Tryz.underlying167 rfl mO ?_)
          |(go_at_call 139;refine HLN.out.mono ?_;rintro _ w2 ⟨rfl,hb⟩))
         replace HS:=ZU (HS.out.later hb);clear hb hR HLN
         go_cut [16] (fun s wx=> ∃b,s=.bool b/\(b=true↔(v=cy/\(d.mo.size=0\/m=cm)))/\w2=wx)
         case first=>
          have g5:=HS.out.f.cell 5 _ rfl;have g1:=HS.out.c.cell 1 _ rfl
          cases sb
          . have hne:v≠cy:=fun e=>by have:=HSB.out.2 e;cases this
            go_wp2_with fail
            go_meet
            exact⟨_,rfl,by simp[hne],rfl⟩
          have hve:=HSB.out.1 rfl;have HVE:=ZU hve;clear hve;rcases jY d.mo with⟨c,e1⟩|⟨c,e1⟩
          . have HC:=ZU c;clear c
            go_wp2_with fail
            go_meet
            exact⟨_,rfl,by simp[HC.out,HVE.out],rfl⟩
          have HC:=ZU c;clear c
          go_wp2_with fail
          go_meet
          exact⟨_,rfl,by simp[HC.out,HVE.out],rfl⟩
         case rest=>
          obtain⟨s2,rfl,hs2,rfl⟩:=hcut;have HS2:=ZU hs2;have HGE:=ZU (fun k=>aKo (k:=k) (ck:=ck) HMD.out HLE.out HNS.out hs2);clear hs2 HSB;have HK0:=ZU (Dt.aHk d v m cy cm ck)
          go_wp2_with fail
          go_loopw [7,96] (fun r i wr=> ∃i':Nat,r=.bool false/\i=.int .i64 i'/\i'<=d.ds.length/\d.NoK v m cy cm ck i'/\Sk d (.slice (some ⟨gm,0,none⟩) d.ms.length xm) (.slice (some ⟨gd,0,none⟩) d.ds.length xd) cy cm ck w.heap.size p4 p5 p6 w wr) (fun _ i _=>d.ds.length - (intOf i).toNat)
          case atStart=>exact⟨0,rfl,rfl,by omega,HK0.out,HS.out⟩
          case round=>
           obtain⟨j,rfl,rfl,hj,hK,hS⟩:=hrel;clear HS HK0;generalize wr=wO at *;have HS:=ZU hS;have HK:=ZU hK;clear hS hK;have dl:=d.aP3
           by_cases hjt:j<d.ds.length
           . have hcell:=HS.out.d.at j hjt;generalize hke:d.ds[j]'hjt=k at hcell
             go_upto_region 20 with(fail)
             go_cut [119] (fun s wx=> ∃b,s=.bool b/\(b=true↔(k<=n/\ ¬(s2=true/\d.da.size≠0/\k<ck)))/\wO=wx)
             case first=>
              have g6:=HS.out.f.cell 6 _ rfl;have g2:=HS.out.c.cell 2 _ rfl;have hu:=HS.out.u.cell 0 _ rfl;have HA:=ZU (P8 k ck p5 wO hu)
              by_cases hkn:k<=n
              . cases s2
                . go_wp2_with fail
                  go_meet
                  exact⟨_,rfl,by simp[hkn],rfl⟩
                rcases jY d.da with⟨c,e1⟩|⟨c,e1⟩
                . have HC:=ZU c;clear c
                  go_wp2_with fail
                  go_meet
                  exact⟨_,rfl,by simp[HC.out,hkn],rfl⟩
                have HC:=ZU c;clear c;generalize hmc:decide (k<ck)=mc at HA;have HMC:=ZU hmc;clear hmc
                go_wp2_with (go_at_call 137;with_reducible refine HA.out.mono ?_;rintro _ w' ⟨rfl,rfl⟩)
                go_meet
                exact⟨_,rfl,by rw[<-HMC.out];simp[HC.out,hkn],rfl⟩
              go_wp2_with fail
              go_meet
              exact⟨_,rfl,⟨fun h=>by simp[hkn]at h,fun h=>absurd h.1 (by omega)⟩,rfl⟩
             case rest=>
              obtain⟨b,rfl,hb,rfl⟩:=hcut
              cases b
              . have HK2:=ZU (Dt.aHl HK.out hjt (fun hle hg=>by
                 rw[hke]at hle hg;have:=hb.2 ⟨by rw[HNN.out];exact hle,(HGE.out k).1 hg⟩
                 cases this))
                clear hb HK hcell
                go_wp2_with fail
                go_roundw
                case rel=>exact⟨j+1,rfl,by go_num,by omega,HK2.out,HS.out⟩
                case measure=>simp[intOf];omega
              have hb:=hb.1 rfl;have HF:=ZU (Dt.found (HV.out.yes rfl).1 (HV.out.yes rfl).2.2 HM.out hlt (by rw[hme];exact HK.out) hjt (by rw[hme,hke,<-HNN.out];exact hb.1) (by rw[hme,hke];exact(HGE.out k).2 hb.2));rw[hme,hke]at HF;clear hb HK hcell;have f0:=HS.out.o.cell 0 _ rfl;have f1:=HS.out.o.cell 1 _ rfl;have f2:=HS.out.o.cell 2 _ rfl;have z0:=HS.out.o.free 0 (by unfold xR;simp);have z1:=HS.out.o.free 1 (by unfold xR;simp);have z2:=HS.out.o.free 2 (by unfold xR;simp)
              go_wp2_with fail
              exact VG HS.out.o HF.out rfl rfl
           obtain rfl:j=d.ds.length:=by omega
           have HM2:=ZU (Dt.aHi HM.out hlt (by rw[hme];exact HK.out));clear HK HM
           go_wp2_with fail
           go_roundw
           case rel=>exact⟨i+1,rfl,by go_num,by omega,HM2.out,HS.out⟩
           case measure=>simp[intOf];omega
       have hb:=hb.1 rfl;have HB:=ZU hb;have HK:=ZU (Dt.aHj HM.out hlt HB.out.1 HB.out.2.1 (by rw[hme];exact HB.out.2.2));clear hb HM
       go_wp2_with fail
       go_roundw
       case rel=>exact⟨i+1,rfl,by go_num,by omega,HK.out,HS.out⟩
       case measure=>simp[intOf];omega
   obtain rfl:i=d.ms.length:=by omega
   have hR:=HS.out.f.range;have hu:=HS.out.u.cell 0 _ rfl;have hwk:IntKind.i64.wrap (v+1)=v+1:=by rw[aVL];have:=HIV.out;omega
   have hy:=HY.out (v+1) wO (by have:=HIV.out;omega) (by have:=HIV.out;omega);have HY1:=ZU hy;clear hy
   go_wp2_with fail
   rw[a1l]
   go_wp2_with (first
    |(refine aNI rfl 167 (.tmp 3) rfl w.heap.size 0 rfl (kF d (.slice (some ⟨gm,0,none⟩) d.ms.length xm) (.slice (some ⟨gd,0,none⟩) d.ds.length xd)) _ hR Tryz.underlying167 rfl mO ?_)
    |(go_at_call 138;refine HY1.out.mono ?_;rintro _ w2 ⟨v2,ok2,hv2,rfl,hb⟩))
   have HX:=ZU (Yst.next HV.out HM.out hv2);have HS2:=ZU (HS.out.later hb);clear hv2 hb hR hu
   go_roundw
   case rel=>exact⟨v2,ok2,rfl,rfl,rfl,HX.out.1,HS2.out⟩
   case measure=>
    have h1:=HIV.out;have h2:=HX.out.2;unfold muY
    cases ok2
    . simp[aIF,intOf];omega
    have:=h2 rfl;simp[aIF,intOf];omega
end Bk
end
section
open Go.RowKit Go.Lib
namespace Bk
open Un (ba bt ri rb dO eY)
theorem fmd{d:Dt}(h:d.form=0):d.mo.size=0->d.da.size=0:=fun e=>by
 rcases jQ h with⟨_,h1,_⟩|⟨_,h1,_⟩|⟨_,_,h1⟩
 . exact absurd e h1
 . exact absurd e h1
 exact h1
theorem fmm{d:Dt}(h:d.form=0):d.da.size≠0-> ∀m,m ∈ d.ms->1<=m/\m<=12:=fun e m hm=>by
 rcases jQ h with⟨_,_,h1⟩|⟨h1,h2,_⟩|⟨_,_,h1⟩
 . exact absurd h1 e
 . rw[Dt.xA h1 h2,iR]at hm;omega
 exact absurd h1 e
theorem aGf(d:Dt)(mv dv:Value)(cy cm ck:Int)(w:World)(hk:QD w)(hy:d.dg.size<=1000)(hf:d.form=0)
 (y0: -9223372036854775808<=cy) (y1:cy<9223372036854775808) (hm:dM w mv d.ms) (hd:dM w dv d.ds):
 Calls Tryz.prog 98 #[fmv d mv dv,cvv cy cm ck,.bool true] w (EO d cy cm ck w):=
 aGe d mv dv cy cm ck w hk hy (Dt.kV (Dt.mP hf).1).1 (fmd hf) y0 y1 hm hd (fmm hf)
theorem LX{d:Dt}(h:d.form≠0):d.err=d.form:=by unfold Dt.err;rw[aFw h]
theorem PO{d:Dt}(h:d.form=0)(h2:d.da.size=0):d.err=0:=by unfold Dt.err;rw[aFv (by omega),aFv (fun c=>c.1 h2)]
theorem aIj{d:Dt}{y m k:Int}{ok:Bool}(h:d.form=0)(h2: ¬d.da.size=0)(hs:d.EN (-9223372036854775808) 0 0 y m k ok):d.err=if ok=true then 0 else 8:=by
 have hx:=Dt.VA (fun u hu=>by have:=Dt.KQ (Dt.kV (Dt.mP h).1).1 hu;omega) hs;unfold Dt.err;rw[aFv (by omega)]
 cases ok
 . rw[aFw ⟨h2,fun hh=>by have:=hx.2 hh;cases this⟩];rfl
 rw[aFv (fun hh=>hh.2 (hx.1 rfl))];rfl
theorem aBH(d:Dt)(w:World)(hk:QD w)(hs:d.mo.size<=1000)(hy:d.dg.size<=1000)(m0:0<=d.m0)(m1:0<=d.m1)(m2:0<=d.m2):
 Calls Tryz.prog 61 #[eP d] w fun r w'=>r=.returned (.int .i64 d.err)/\Below w.heap.size w w':=by
 have hD:Rw w.heap.size (zG d) w _:=Rw.fresh (aDl _ _) (zG d) 30;have HC:=ZU (fun W hb=>aBR d W (hk.below (w':=W) hb) hs hy m0 m1 m2);have HO:=ZU (fun W hb hf=>aO3 d W (hk.below (w':=W) hb) hs hf);have HS:=ZU (fun mv dv W hb hf hm hd=>aGf d mv dv (-9223372036854775808) 0 0 W (hk.below (w':=W) hb) hy hf (by omega) (by omega) hm hd);unfold cvv fmv at HS;clear hk hs hy m0 m1 m2;rw[aPU]at HC HO;obtain⟨er,her⟩: ∃er,er=d.err:=⟨_,rfl⟩;rw[<-her];replace her:=ZU her;unfold eP
 go_enter Tryz.func61,Tryz.ntmps61
 unfold zG at hD
 go_upto_region 1 with(fail)
 generalize World.alloc _ _=W0 at hD ⊢;have HD:Hid (Rw w.heap.size (zG d) w W0):=ZU hD;clear hD;have hR:=HD.out.range
 by_cases hf:d.form=0
 . have HF:=ZU hf;rw[hf]at HC;clear hf
   go_upto_region 4 with(first
    |(refine aNI rfl 30 (.tmp 1) rfl w.heap.size 0 rfl (zG d) _ hR Tryz.underlying30 rfl D7 ?_)
    |(go_at_call 88;refine(HC.out _ HD.out.below).mono ?_;rintro _ w1 ⟨rfl,hb⟩))
   replace HD:=ZU (HD.out.later hb);clear hR hb;have hR:=HD.out.range;have g6:=HD.out.cell 6 _ rfl;rcases jY d.da with⟨c,e1⟩|⟨c,e1⟩
   . have HE:=ZU (her.out.trans (PO HF.out c));clear c
     go_wp2_with fail
     go_ret
     exact⟨by rw[HE.out];rfl,HD.out.below⟩
   have HE:Hid (∀y m k ok,d.EN (-9223372036854775808) 0 0 y m k ok->er=if ok=true then 0 else 8):=ZU (fun y m k ok hs=>her.out.trans (aIj HF.out c hs));clear c
   go_wp2_with (first
    |(refine aNI rfl 30 (.tmp 1) rfl w.heap.size 0 rfl (zG d) _ hR Tryz.underlying30 rfl D7 ?_)
    |(go_at_call 97;refine(HO.out _ HD.out.below HF.out).mono ?_;rintro _ w2 ⟨mv,dv,rfl,hm,hd,hb2⟩;have HBm:=ZU (bt HD.out.below hb2);have HS2:=ZU (HS.out mv dv w2 HBm.out HF.out hm hd);clear hm hd hb2))
   refine HS2.out.mono ?_;rintro _ w3 ⟨y,m,k,ok,hso,rfl,hb3⟩;have HB3:=ZU (bt HBm.out hb3);have HE2:=ZU (HE.out y m k ok hso);unfold cvv;clear hso hb3 HS2
   cases ok
   . go_wp2_with fail
     go_ret
     exact⟨by rw[HE2.out];rfl,ba HB3.out _⟩
   go_wp2_with fail
   go_ret
   exact⟨by rw[HE2.out];rfl,ba HB3.out _⟩
 have HE:=ZU (her.out.trans (LX hf));generalize d.form=fo at *
 go_wp2_with (first
  |(refine aNI rfl 30 (.tmp 1) rfl w.heap.size 0 rfl (zG d) _ hR Tryz.underlying30 rfl D7 ?_)
  |(go_at_call 88;refine(HC.out _ HD.out.below).mono ?_;rintro _ w1 ⟨rfl,hb⟩))
 go_ret
 exact⟨by rw[HE.out];rfl,bt HD.out.below hb⟩
end Bk
end
section
open Go.RowKit Go.Lib
namespace Bk
theorem FD(c:Int)(a b:ByteArray):hasB c (a++b)=(hasB c a||hasB c b):=by
 unfold hasB;rw[a2e,aQM,List.any_append]
def DF(y m k:Int):Int:=if m=0 then Cal.st y else if 12<m then Cal.st y+Cal.oI y (bQ m)else if k=0 then Cal.st y+Cal.oI y m else Cal.st y+Cal.oI y m+k - 1
def DI(y m k:Int):Int:=if m=0 then Cal.st (y+1) - 1 else if 12<m then Cal.st (gU y m)+Cal.oI (gU y m) (ZY m+1) - 1 else if k=0 then Cal.st y+Cal.oI y (m+1) - 1 else Cal.st y+Cal.oI y m+k - 1
theorem aGa(c:Int):1<=bQ c/\bQ c<=12/\3<=dW c/\dW c<=6/\bQ c+dW c<=15:=by unfold bQ dW;(repeat' split)<;>omega
theorem aJM{d:Dt}(hm:d.mask=false):d.In (yVal d.neg d.dg d.ex):=by
 unfold Dt.In yVal;rw[hm];rfl
theorem aUa{a b c:ByteArray}(h:hasB 88 (a++b++c)=false):hasB 88 a=false/\hasB 88 b=false/\hasB 88 c=false:=by
 rw[FD,FD,aNm,aNm]at h;exact⟨h.1.1,h.1.2,h.2⟩
theorem G9{s:ByteArray}{n:Int}(h:jS s n=true)(hx:hasB 88 s=false)(n0:0<=n)(n1:n<=99):s.size=2/\allB bM s=true/\bF s=n:=by
 unfold jS at h;simp at h;obtain⟨h2,h0,h1⟩:=h;have nx: ∀i,i<s.size->bH s i≠88:=fun i hi c=>by rw[(KW 88 s).2 ⟨i,hi,c⟩]at hx;cases hx
 have x0:=nx 0 (by omega);have x1:=nx 1 (by omega);have b0:bH s 0=48+n / 10:=by omega
 have b1:bH s 1=48+n % 10:=by omega
 refine⟨h2,?_,?_⟩
 . rw[kL];intro i hi;obtain rfl|rfl:i=0\/i=1:=by omega
   . unfold bM;exact aEy (by omega)
   unfold bM;exact aEy (by omega)
 obtain⟨a,b,e,e0,e1⟩:=rG h2;unfold bF;rw[e];simp only[dec];omega
theorem y9{s:ByteArray}(h:gZ s≠0):s.size=2/\allB bM s=true/\bF s=gZ s:=by
 unfold gZ at h ⊢
 split at h
 . rename_i g
   rw[aFw g];refine⟨g.1,?_,?_⟩
   . rw[kL];intro i hi;obtain rfl|rfl:i=0\/i=1:=by omega
     . unfold bM;exact aEy (by omega)
     unfold bM;exact aEy (by omega)
   obtain⟨a,b,e,e0,e1⟩:=rG g.1;unfold bF;rw[e];simp only[dec];omega
 exact absurd rfl h
theorem EH{s:ByteArray}(h:s.size=0):bF s=0/\allB bM s=true:=by
 have e:s.data.toList=[]:=aQS.1 (by simpa using h);unfold bF allB;rw[e];exact⟨rfl,rfl⟩
theorem aHs{d:Dt}(h:d.form=0)(hx:hasB 88 d.mo=false):d.mo.size<=2/\allB bM d.mo=true/\d.ms=[bF d.mo]/\(d.mo.size≠0->(1<=bF d.mo/\bF d.mo<=12/\d.aG=0)\/(21<=bF d.mo/\bF d.mo<=41/\d.aG=bF d.mo)):=by
 have hbd:d.aG=0\/(21<=d.aG/\d.aG<=41):=lY d.mo;rcases jQ h with⟨h1,h2,h3⟩|⟨h1,h2,h3,h4⟩|⟨h1,h2,h3⟩
 . obtain⟨a,b,c⟩:=y9 h1;change bF d.mo=d.aG at c;refine⟨by omega,b,by rw[Dt.rW h1,c],fun _=>.inr (by omega)⟩
 . obtain⟨n,n1,n2,ha⟩:=(wU _ _).1 h3;obtain⟨a,b,c⟩:=G9 ha hx (by omega) (by omega);refine⟨by omega,b,?_,fun _=>.inl (by omega)⟩;rw[Dt.xA h1 h2];have hs:=lQ d.mo 12;have hall: ∀u,u ∈ eX d.mo 12->u=bF d.mo:=fun u hu=>by
    obtain⟨u1,u2,u3⟩:=(iR _ _ _).1 hu;exact(G9 u3 hx (by omega) (by omega)).2.2.symm
   have hin:bF d.mo ∈ eX d.mo 12:=(iR _ _ _).2 ⟨by omega,by omega,by rw[c];exact ha⟩;generalize eX d.mo 12=l at *
   match l,hs,hall,hin with
   |[],_,_,hin=>cases hin
   |[u],_,hall,_=>rw[hall u (aHS ..)]
   |u::v::r,hs,hall,_=>
    have e1:=hall u (aHS ..);have e2:=hall v (aJj _ (aHS ..));have:=(List.pairwise_cons.1 hs).1 v (aHS ..);omega
 obtain⟨e1,e2⟩:=EH h2;refine⟨by omega,e2,by rw[Dt.BG h1 h2,e1],fun c=>absurd h2 c⟩
theorem aIt{d:Dt}(h:d.form=0)(hx:hasB 88 d.da=false):d.da.size<=2/\allB bM d.da=true/\d.ds=[bF d.da]/\(d.da.size≠0->1<=bF d.da/\bF d.da<=31):=by
 by_cases c:d.da.size=0
 . obtain⟨e1,e2⟩:=EH c;exact⟨by omega,e2,by rw[Dt.ds_none c,e1],fun h=>absurd c h⟩
 have h4:fC d.da 31=true:=by
  rcases jQ h with⟨_,_,h⟩|⟨_,_,_,h⟩|⟨_,_,h⟩
  . exact absurd h c
  . rcases h with h|h
    . exact absurd h c
    exact h
  exact absurd h c
 obtain⟨n,n1,n2,ha⟩:=(wU _ _).1 h4;obtain⟨a,b,e⟩:=G9 ha hx (by omega) (by omega);refine⟨by omega,b,?_,fun _=>by omega⟩;rw[Dt.TT c];have hs:=lQ d.da 31;have hall: ∀u,u ∈ eX d.da 31->u=bF d.da:=fun u hu=>by
  obtain⟨u1,u2,u3⟩:=(iR _ _ _).1 hu;exact(G9 u3 hx (by omega) (by omega)).2.2.symm
 have hin:bF d.da ∈ eX d.da 31:=(iR _ _ _).2 ⟨by omega,by omega,by rw[e];exact ha⟩;generalize eX d.da 31=l at *
 match l,hs,hall,hin with
 |[],_,_,hin=>cases hin
 |[u],_,hall,_=>rw[hall u (aHS ..)]
 |u::v::r,hs,hall,_=>
  have e1:=hall u (aHS ..);have e2:=hall v (aJj _ (aHS ..));have:=(List.pairwise_cons.1 hs).1 v (aHS ..);omega
theorem LW{d:Dt}(h:d.err=0):d.form=0:=by
 by_cases c:d.form=0
 . exact c
 rw[LX c]at h;exact absurd h c
theorem aPR{d:Dt}{y m:Int}(hk:d.UR=true)(hf:d.far=false)(hy:d.In y)(hm:m=d.aG)(hs:d.aG≠0):gU y m<=10000000000000000:=by
 have hb:=Dt.KQ hk hy;unfold gU
 split
 . omega
 rename_i hc
 have hbd:d.aG=0\/(21<=d.aG/\d.aG<=41):=lY d.mo;have hw:d.aG=24\/d.aG=28\/d.aG=30:=by
  rw[hm]at hc;generalize d.aG=z at *;have hz:z=21\/z=22\/z=23\/z=24\/z=25\/z=26\/z=27\/z=28\/z=29\/z=30\/z=31\/z=32\/z=33\/z=34\/z=35\/z=36\/z=37\/z=38\/z=39\/z=40\/z=41:=by omega
  rcases hz with rfl|rfl|rfl|rfl|rfl|rfl|rfl|rfl|rfl|rfl|rfl|rfl|rfl|rfl|rfl|rfl|rfl|rfl|rfl|rfl|rfl<;>first|omega|(exfalso;revert hc;decide)
 have e1:(decide (d.aG=24)||(decide (d.aG=28)||decide (d.aG=30)))=true:=by rcases hw with h|h|h<;>simp[h]
 unfold Dt.far at hf;rw[e1,aVI]at hf
 cases hmk:d.mask
 . rw[hmk]at hf;simp at hf;unfold Dt.In at hy;rw[hmk]at hy;simp at hy
   cases hn:d.neg
   . rw[hn]at hy;simp at hy
     by_cases c:d.mag=10000000000000000
     . have:=hf c;rw[hn]at this;cases this
     omega
   rw[hn]at hy;simp at hy;have:=lK d.dg d.ex;change 0<=d.mag at this;omega
 unfold Dt.In at hy;rw[hmk,aFw rfl]at hy
 split at hy
 . have:=hy.1.1;have:=hy.1.2.1;omega
 have:=hy.2.1;omega
def Dt.xG(d:Dt):Bool:= !hasB 88 (d.dg++d.mo++d.da)&&decide (d.sig=0)
theorem jH{d:Dt}(h:d.xG=true):d.mask=false/\hasB 88 d.mo=false/\hasB 88 d.da=false/\d.sig=0/\hasB 88 (d.dg++d.mo++d.da)=false:=by
 unfold Dt.xG at h;rw[aEx,a0G,aEv]at h;obtain⟨h1,h2,h3⟩:=aUa h.1;exact⟨h1,h2,h3,h.2,h.1⟩
def Dt.prec(d:Dt):Int:=if d.da.size≠0 then 3 else if d.aG≠0 then 0 else if d.mo.size≠0 then 2 else 1
noncomputable def Dt.pln(d:Dt):Bool:=decide (d.err=0)&&(d.xG&& !decide (d.prec=0))
def Dt.yv(d:Dt):Int:=yVal d.neg d.dg d.ex
def Dt.lo(d:Dt):Int:=DF d.yv (bF d.mo) (bF d.da)
def Dt.hi(d:Dt):Int:=DI d.yv (bF d.mo) (bF d.da)
theorem jA {d:Dt} (h:d.err=0) (hx:d.xG=true):d.form=0/\d.UR=true/\ -10000000000000000<=d.yv/\d.yv<=10000000000000000/\
 ((d.mo.size=0/\d.da.size=0/\d.aG=0)\/(d.mo.size=2/\d.aG≠0/\d.da.size=0/\bF d.mo=d.aG/\21<=d.aG/\d.aG<=41/\gU d.yv d.aG<=10000000000000000)\/
  (d.mo.size=2/\d.aG=0/\1<=bF d.mo/\bF d.mo<=12/\(d.da.size=0\/(d.da.size=2/\1<=bF d.da/\bF d.da<=Cal.len d.yv (bF d.mo))))):=by
 obtain⟨x1,x2,x3,x4,_⟩:=jH hx;have hf:=LW h;obtain⟨f1,f2,f3,f4⟩:=Dt.mP hf;obtain⟨y1,y2,y3⟩:=Dt.kV f1;have hin:=aJM x1;have hb:=Dt.KQ y1 hin;obtain⟨m1,m2,m3,m4⟩:=aHs hf x2;obtain⟨d1,d2,d3,d4⟩:=aIt hf x3;refine⟨hf,y1,hb.1,hb.2,?_⟩
 by_cases c:d.mo.size=0
 . have c2:d.da.size=0:=fmd hf c;refine .inl ⟨c,c2,?_⟩
   by_cases e:d.aG=0
   . exact e
   have:=(y9 e).1;omega
 have s2:d.mo.size=2:=by
  by_cases e:d.aG=0
  . rcases f2 with g|g|g
    . exact absurd g c
    . exact absurd e g
    exact(iZ (by omega) g).1
  exact(y9 e).1
 rcases m4 c with⟨a1,a2,a3⟩|⟨a1,a2,a3⟩
 . refine .inr (.inr ⟨s2,a3,a1,a2,?_⟩)
   by_cases c2:d.da.size=0
   . exact .inl c2
   right
   have s3:d.da.size=2:=by
    rcases f3 with g|g
    . exact absurd g c2
    exact(iZ (by omega) g.2.2).1
   refine⟨s3,(d4 c2).1,?_⟩;unfold Dt.err at h;rw[aFv (by omega)]at h;have hex: ∃y m k,d.Fill y m k:=by
    apply aZo;intro hn;rw[aFw ⟨c2,hn⟩]at h;cases h
   obtain⟨y,m,k,g1,g2,g3,g4⟩:=hex;rw[m3,aJo]at g2;rw[d3,aJo]at g3;unfold Dt.In at g1 hin;rw[x1]at g1 hin;simp only[aMz,aQW]at g1 hin;unfold Dt.len at g4;rw[aFv c2,g2,g3,g1,<-hin]at g4;exact g4
 have e:d.aG≠0:=by omega
 have c2:d.da.size=0:=by
  rcases f3 with g|g
  . exact g
  exact absurd g.2.1 e
 exact .inr (.inl ⟨s2,e,c2,a3.symm,by omega,by omega,aPR y1 y3 hin rfl e⟩)
theorem MF{d:Dt}(h:d.err=0)(hx:d.xG=true)(hp:d.prec≠0):comps d.mo d.da=d.prec:=by
 obtain⟨_,_,_,_,hc⟩:=jA h hx;unfold Dt.prec at hp ⊢;unfold comps;rcases hc with⟨a,b,c⟩|⟨a,b,c,_⟩|⟨a,b,_,_,c|⟨c,_⟩⟩
 . simp[a,b,c]
 . simp[b,c]at hp
 . simp[a,b,c]
 simp[a,b,c]
end Bk
end
section
open Go.RowKit Go.Lib
namespace Sk
open Bk (Dt eP hasB bH QD bF yVal DF DI bQ dW gU ZY allB bM NG)
open Cal (st oI len)
theorem at2: ∀a b:Fin 10,atoiAll [UInt8.ofNat (48+a.val),UInt8.ofNat (48+b.val)]=.ok (10 * (a.val:Int)+b.val):=by decide
theorem aMv{c:UInt8}(h0:48<=c.toNat)(h1:c.toNat<=57): ∃x:Fin 10,c=UInt8.ofNat (48+x.val)/\x.val=c.toNat - 48:=by
 refine⟨⟨c.toNat - 48,by omega⟩,?_,rfl⟩;show c=UInt8.ofNat (48+(c.toNat - 48));rw[show 48+(c.toNat - 48)=c.toNat by omega];exact(UInt8.ofNat_toNat).symm
theorem aCq{s:ByteArray}(h2:s.size=2)(hd:allB bM s=true): ∃a b:UInt8,s.data.toList=[a,b]/\48<=a.toNat/\a.toNat<=57/\48<=b.toNat/\b.toNat<=57/\bF s=10 * ((a.toNat:Int) - 48)+((b.toNat:Int) - 48)/\bH s 0=a.toNat/\bH s 1=b.toNat:=by
 obtain⟨a,b,h,ha,hb⟩:=Bk.rG h2;have d0:=(Bk.kL bM s).1 hd 0 (by omega);have d1:=(Bk.kL bM s).1 hd 1 (by omega);unfold bM at d0 d1;rw[ha,aEv]at d0;rw[hb,aEv]at d1;refine⟨a,b,h,by omega,by omega,by omega,by omega,?_,ha,hb⟩;unfold bF;rw[h];simp only[Bk.dec];omega
theorem aIO{s:ByteArray}(h2:s.size=2)(hd:allB bM s=true):atoiAll s.data.toList=.ok (bF s):=by
 obtain⟨a,b,h,a0,a1,b0,b1,e,_⟩:=aCq h2 hd;obtain⟨x,hx,ex⟩:=aMv a0 a1;obtain⟨y,hy,ey⟩:=aMv b0 b1;rw[h,e,hx,hy,at2 x y,<-hx,<-hy,ex,ey]
 congr 1;omega
theorem aEL{s:ByteArray}(h:s.size=0):s=⟨#[]⟩:=by
 cases s with
 |mk a=>congr 1;exact aVF h
theorem JR(s:ByteArray)(w:World)(h2:s.size=2)(hd:allB bM s=true):
 Calls Tryz.prog 75 #[.string s] w fun r w'=>r=.returned (.int .i64 (bF s))/\Below w.heap.size w w':=by
 obtain⟨a,b,h,a0,a1,b0,b1,e,e0,e1⟩:=aCq h2 hd;have g0:=Bk.bU s 0 (by omega);have g1:=Bk.bU s 1 (by omega);rw[e0]at g0;rw[e1]at g1;have k0:(s[0]'(by omega)).toNat=a.toNat:=by omega
 have k1:(s[1]'(by omega)).toNat=b.toNat:=by omega
 obtain⟨x,hx⟩: ∃x:Int,x=((s[0]'(by omega)).toNat:Int):=⟨_,rfl⟩;obtain⟨y,hy⟩: ∃y:Int,y=((s[1]'(by omega)).toNat:Int):=⟨_,rfl⟩;have x0:48<=x:=by omega
 have x1:x<=57:=by omega
 have y0:48<=y:=by omega
 have y1:y<=57:=by omega
 rw[e,show(a.toNat:Int)=x by omega,show(b.toNat:Int)=y by omega];have w1:IntKind.u8.wrap (x - 48)=x - 48:=by unfold IntKind.wrap;simp[IntKind.signed,IntKind.bits];omega
 have w2:IntKind.u8.wrap (y - 48)=y - 48:=by unfold IntKind.wrap;simp[IntKind.signed,IntKind.bits];omega
 have HX:=ZU hx;have HY:=ZU hy;clear hx hy g0 g1 k0 k1 e e0 e1 h a0 a1 b0 b1
 go_enter Tryz.func75,Tryz.ntmps75
 go_upto_region 1 with(fail)
 go_region_with (fail)
 all_goals go_wp2_with (fail)
 all_goals go_ret
 all_goals refine⟨Un.ri ?_,by first|exact aDl _ _|exact(aDl _ _).drew⟩
 all_goals first|rfl|(rw[<-HX.out,<-HY.out];simp only[w1,w2,aVL];omega)
end Sk
end
section
open Go.RowKit Go.Lib
namespace Sk
open Ev (jK DT LG rH fA hp tb0 aN iD aBn KH aBm l_b l_s iI aX AV IC xM dS aJ aS bT zC)
open Bk (Dt eP cvv)
def yd0:AV:=.dG [(rK q8 (qi 11) q8 (qi 12)),qz]
def yd1:List AV:=[(qb 0),(qb 1),(qs 2),(qi 3),(qi 4)]
def yd2:AV:=.dG [(rK q8 qz q8 qz),(.v (.int .i64 1))]
def yd3:List AV:=[(qb 0),(qb 1),(qs 2),(qi 3),(qi 4),(qs 5),.v (.string ⟨#[]⟩),(qu 6),(qu 7),(qu 8)]
def yd4:List AV:=[(qb 0),(qb 1),(qs 2),(qi 3),(qi 4),.v (.string ⟨#[]⟩),.v (.string ⟨#[]⟩),(qu 5),(qu 6),(qu 7)]
def aJb:DT:=(.node 0 (qi 4) qz (.leaf (.dG [(rK q8 (qi 9) q8 (qi 10)),qz])) (.leaf yd2))
theorem aEd(l:Value):aJb.ok rH l [] [(61,[.agg yd4],qz),(165,[.agg yd4],qf),(141,[.agg yd1],.dG [(qi 8),qz]),(144,[.agg yd4],.v (.int .u8 1)),(186,[(qi 8)],.dG [(qi 9),qz]),(187,[(qi 8)],.dG [(qi 10),qz])] hp 60 LG 100 [.agg yd4] []=true:=by kernel_rfl
theorem aNF(d:Dt)(y:Int)(a:Int)(b:Int){w0:World}(hst:SS w0) (H0:Same w0 61 #[(.agg #[(.bool d.neg),(.bool d.long),(.string d.dg),(.int .i64 d.ex),(.int .i64 d.sig),(.string ⟨#[]⟩),(.string ⟨#[]⟩),(.int .u8 d.m0),(.int .u8 d.m1),(.int .u8 d.m2)])] (.int .i64 0))(H1:Same w0 165 #[(.agg #[(.bool d.neg),(.bool d.long),(.string d.dg),(.int .i64 d.ex),(.int .i64 d.sig),(.string ⟨#[]⟩),(.string ⟨#[]⟩),(.int .u8 d.m0),(.int .u8 d.m1),(.int .u8 d.m2)])] (.bool false))(H2:Same w0 141 #[(.agg #[(.bool d.neg),(.bool d.long),(.string d.dg),(.int .i64 d.ex),(.int .i64 d.sig)])] (.tuple #[(.int .i64 y),(.int .i64 0)]))(H3:Same w0 144 #[(.agg #[(.bool d.neg),(.bool d.long),(.string d.dg),(.int .i64 d.ex),(.int .i64 d.sig),(.string ⟨#[]⟩),(.string ⟨#[]⟩),(.int .u8 d.m0),(.int .u8 d.m1),(.int .u8 d.m2)])] (.int .u8 1))(H4:Same w0 186 #[(.int .i64 y)] (.tuple #[(.int .i64 a),(.int .i64 0)]))(H5:Same w0 187 #[(.int .i64 y)] (.tuple #[(.int .i64 b),(.int .i64 0)])):Same w0 100 #[(.agg #[(.bool d.neg),(.bool d.long),(.string d.dg),(.int .i64 d.ex),(.int .i64 d.sig),(.string ⟨#[]⟩),(.string ⟨#[]⟩),(.int .u8 d.m0),(.int .u8 d.m1),(.int .u8 d.m2)])] (cond (d.sig==0) (.tuple #[(r4 0 a 0 b),(.int .i64 0)]) (.tuple #[(r4 0 0 0 0),(.int .i64 1)])):=
 aJ (aEd (.agg #[.bool d.neg,.bool d.long,.string d.dg,.int .i64 d.ex,.int .i64 d.sig,.int .u8 d.m0,.int .u8 d.m1,.int .u8 d.m2,.int .i64 y,.int .i64 a,.int .i64 b])) (fA w0) hst .nil (.cons H0 (.cons H1 (.cons H2 (.cons H3 (.cons H4 (.cons H5 .nil)))))) (aS (by kernel_rfl)) (by kernel_rfl)
def aJa:DT:=(.node 0 (qi 4) qz (.leaf yd0) (.leaf yd2))
theorem aEc(l:Value):aJa.ok rH l [] [(61,[.agg yd3],qz),(165,[.agg yd3],qf),(141,[.agg yd1],.dG [(qi 9),qz]),(144,[.agg yd3],.v (.int .u8 2)),(142,[(qs 5)],.dG [(qi 10),.v .nilIface]),(190,[(qi 9),(qi 10)],.dG [(qi 11),qz]),(191,[(qi 9),(qi 10)],.dG [(qi 12),qz])] hp 60 LG 100 [.agg yd3] []=true:=by kernel_rfl
theorem aNE(d:Dt)(y:Int)(m:Int)(a:Int)(b:Int){w0:World}(hst:SS w0) (H0:Same w0 61 #[(.agg #[(.bool d.neg),(.bool d.long),(.string d.dg),(.int .i64 d.ex),(.int .i64 d.sig),(.string d.mo),(.string ⟨#[]⟩),(.int .u8 d.m0),(.int .u8 d.m1),(.int .u8 d.m2)])] (.int .i64 0))(H1:Same w0 165 #[(.agg #[(.bool d.neg),(.bool d.long),(.string d.dg),(.int .i64 d.ex),(.int .i64 d.sig),(.string d.mo),(.string ⟨#[]⟩),(.int .u8 d.m0),(.int .u8 d.m1),(.int .u8 d.m2)])] (.bool false))(H2:Same w0 141 #[(.agg #[(.bool d.neg),(.bool d.long),(.string d.dg),(.int .i64 d.ex),(.int .i64 d.sig)])] (.tuple #[(.int .i64 y),(.int .i64 0)]))(H3:Same w0 144 #[(.agg #[(.bool d.neg),(.bool d.long),(.string d.dg),(.int .i64 d.ex),(.int .i64 d.sig),(.string d.mo),(.string ⟨#[]⟩),(.int .u8 d.m0),(.int .u8 d.m1),(.int .u8 d.m2)])] (.int .u8 2))(H4:Same w0 142 #[(.string d.mo)] (.tuple #[(.int .i64 m),.nilIface]))(H5:Same w0 190 #[(.int .i64 y),(.int .i64 m)] (.tuple #[(.int .i64 a),(.int .i64 0)]))(H6:Same w0 191 #[(.int .i64 y),(.int .i64 m)] (.tuple #[(.int .i64 b),(.int .i64 0)])):Same w0 100 #[(.agg #[(.bool d.neg),(.bool d.long),(.string d.dg),(.int .i64 d.ex),(.int .i64 d.sig),(.string d.mo),(.string ⟨#[]⟩),(.int .u8 d.m0),(.int .u8 d.m1),(.int .u8 d.m2)])] (cond (d.sig==0) (.tuple #[(r4 0 a 0 b),(.int .i64 0)]) (.tuple #[(r4 0 0 0 0),(.int .i64 1)])):=
 aJ (aEc (.agg #[.bool d.neg,.bool d.long,.string d.dg,.int .i64 d.ex,.int .i64 d.sig,.string d.mo,.int .u8 d.m0,.int .u8 d.m1,.int .u8 d.m2,.int .i64 y,.int .i64 m,.int .i64 a,.int .i64 b])) (fA w0) hst .nil (.cons H0 (.cons H1 (.cons H2 (.cons H3 (.cons H4 (.cons H5 (.cons H6 .nil))))))) (aS (by kernel_rfl)) (by kernel_rfl)
def aJc:DT:=(.node 0 (qi 4) qz (.leaf yd0) (.leaf yd2))
theorem aEe(l:Value):aJc.ok rH l [] [(61,[.agg yd3],qz),(165,[.agg yd3],qf),(141,[.agg yd1],.dG [(qi 9),qz]),(144,[.agg yd3],.v (.int .u8 0)),(142,[(qs 5)],.dG [(qi 10),.v .nilIface]),(171,[(qi 9),(qi 10)],.dG [rK q8 (qi 11) q8 (qi 12),qz])] hp 60 LG 100 [.agg yd3] []=true:=by kernel_rfl
theorem aNG(d:Dt)(y:Int)(m:Int)(a:Int)(b:Int){w0:World}(hst:SS w0) (H0:Same w0 61 #[(.agg #[(.bool d.neg),(.bool d.long),(.string d.dg),(.int .i64 d.ex),(.int .i64 d.sig),(.string d.mo),(.string ⟨#[]⟩),(.int .u8 d.m0),(.int .u8 d.m1),(.int .u8 d.m2)])] (.int .i64 0))(H1:Same w0 165 #[(.agg #[(.bool d.neg),(.bool d.long),(.string d.dg),(.int .i64 d.ex),(.int .i64 d.sig),(.string d.mo),(.string ⟨#[]⟩),(.int .u8 d.m0),(.int .u8 d.m1),(.int .u8 d.m2)])] (.bool false))(H2:Same w0 141 #[(.agg #[(.bool d.neg),(.bool d.long),(.string d.dg),(.int .i64 d.ex),(.int .i64 d.sig)])] (.tuple #[(.int .i64 y),(.int .i64 0)]))(H3:Same w0 144 #[(.agg #[(.bool d.neg),(.bool d.long),(.string d.dg),(.int .i64 d.ex),(.int .i64 d.sig),(.string d.mo),(.string ⟨#[]⟩),(.int .u8 d.m0),(.int .u8 d.m1),(.int .u8 d.m2)])] (.int .u8 0))(H4:Same w0 142 #[(.string d.mo)] (.tuple #[(.int .i64 m),.nilIface]))(H5:Same w0 171 #[(.int .i64 y),(.int .i64 m)] (.tuple #[(r4 0 a 0 b),(.int .i64 0)])):Same w0 100 #[(.agg #[(.bool d.neg),(.bool d.long),(.string d.dg),(.int .i64 d.ex),(.int .i64 d.sig),(.string d.mo),(.string ⟨#[]⟩),(.int .u8 d.m0),(.int .u8 d.m1),(.int .u8 d.m2)])] (cond (d.sig==0) (.tuple #[(r4 0 a 0 b),(.int .i64 0)]) (.tuple #[(r4 0 0 0 0),(.int .i64 1)])):=
 aJ (aEe (.agg #[.bool d.neg,.bool d.long,.string d.dg,.int .i64 d.ex,.int .i64 d.sig,.string d.mo,.int .u8 d.m0,.int .u8 d.m1,.int .u8 d.m2,.int .i64 y,.int .i64 m,.int .i64 a,.int .i64 b])) (fA w0) hst .nil (.cons H0 (.cons H1 (.cons H2 (.cons H3 (.cons H4 (.cons H5 .nil)))))) (aS (by kernel_rfl)) (by kernel_rfl)
end Sk
end
section
open Go.RowKit Go.Lib
namespace Sk
open Ev (jK DT LG rH fA hp tb0 aN iD aBn KH aBm l_b l_s iI aX AV IC xM dS aJ aS bT zC)
open Bk (Dt eP cvv)
def yx0:AV:=aX 1 .i64 [(qi 15),(qi 17)]
def yx1:List AV:=[(.v (.int .i64 3)),(.v (.int .i64 3))]
def yx2:List AV:=[(.v (.int .i64 6)),(.v (.int .i64 3))]
def yx3:List AV:=[(.v (.int .i64 9)),(.v (.int .i64 3))]
def yx4:AV:=aX 2 .i64 [yx0,(.v (.int .i64 1))]
def yx5:List AV:=[(.v (.int .i64 12)),(.v (.int .i64 3))]
def yx6:List AV:=[aX 1 .i64 [(qi 8),.v (.int .i64 1)]]
def yx7:List AV:=[aX 1 .i64 [(qi 9),.v (.int .i64 1)]]
def yx8:AV:=aX 2 .i64 [(qi 0),(.v (.int .i64 33))]
def yx9:AV:=aX 3 .i64 [(.v (.int .i64 3)),yx8]
def aWs:AV:=aX 1 .i64 [yx9,(.v (.int .i64 1))]
def aJI:AV:=.dG [aWs,(.v (.int .i64 3))]
def aWr:AV:=aX 2 .i64 [(qi 0),(.v (.int .i64 37))]
def aWq:AV:=aX 3 .i64 [(.v (.int .i64 4)),aWr]
def aWp:AV:=aX 1 .i64 [aWq,(.v (.int .i64 1))]
def aNs:AV:=.dG [aWp,(.v (.int .i64 4))]
def aWo:AV:=aX 2 .i64 [(qi 12),(.v (.int .i64 1))]
def aJH:AV:=.dG [(qi 11),aWo]
def aWn:AV:=aX 2 .i64 [(qi 13),(.v (.int .i64 1))]
def aJG:AV:=.dG [(qi 12),aWn]
def aRe:AV:=aX 2 .i64 [(qi 17),(.v (.int .i64 1))]
def aRd:AV:=aX 2 .i64 [(qi 15),(.v (.int .i64 1))]
def aRc:AV:=aX 2 .i64 [(qi 16),(.v (.int .i64 1))]
def aRb:List AV:=[aX 2 .i64 [qz,(qi 8)],.v (.int .i64 1)]
def aRa:List AV:=[aX 2 .i64 [qz,(qi 9)],.v (.int .i64 1)]
def aJF:List AV:=[qf,(qb 0),(qs 1),(qi 2),(qi 3),(qs 4),(qs 5),(qu 6),(qu 7),(qu 8)]
def aJE:List AV:=[qt,(qb 0),(qs 1),(qi 2),(qi 3),(qs 4),(qs 5),(qu 6),(qu 7),(qu 8)]
def gY:List AV:=[(qb 0),(qb 1),(qs 2),(qi 3),(qi 4),(qs 5),(qs 6),(qu 7),(qu 8),(qu 9)]
def aDj:List AV:=[(qb 1),(qb 2),(qs 3),(qi 4),(qi 5),(qs 6),(qs 7),(qu 8),(qu 9),(qu 10)]
def aQ9:List AV:=[qf,(qb 0),(qs 1),(qi 2),(qi 3),.v (.string ⟨#[]⟩),(qs 4),(qu 5),(qu 6),(qu 7)]
def aQ8:List AV:=[qf,(qb 0),(qs 1),(qi 2),(qi 3),(qs 4),.v (.string ⟨#[]⟩),(qu 5),(qu 6),(qu 7)]
def aQ7:List AV:=[qt,(qb 0),(qs 1),(qi 2),(qi 3),.v (.string ⟨#[]⟩),(qs 4),(qu 5),(qu 6),(qu 7)]
def aQ6:List AV:=[qt,(qb 0),(qs 1),(qi 2),(qi 3),(qs 4),.v (.string ⟨#[]⟩),(qu 5),(qu 6),(qu 7)]
def zZ:List AV:=[(qu 0),(qb 1),(qb 2),(qs 3),(qi 4),(qi 5),(qs 6),(qs 7),(qu 8),(qu 9),(qu 10)]
def qV:List AV:=[(qb 10),(qb 11),(qs 12),(qi 13),(qi 14),(qs 15),(qs 16),(qu 17),(qu 18),(qu 19)]
def aNr:List AV:=[(qb 11),(qb 12),(qs 13),(qi 14),(qi 15),(qs 16),(qs 17),(qu 18),(qu 19),(qu 20)]
def UQ:List AV:=[.v (.int .u8 1),(qb 0),(qb 1),(qs 2),(qi 3),(qi 4),(qs 5),(qs 6),(qu 7),(qu 8),(qu 9)]
def NI:List AV:=[(qu 11),(qb 12),(qb 13),(qs 14),(qi 15),(qi 16),(qs 17),(qs 18),(qu 19),(qu 20),(qu 21)]
def aJD:List AV:=[(qu 10),(qb 11),(qb 12),(qs 13),(qi 14),(qi 15),(qs 16),(qs 17),(qu 18),(qu 19),(qu 20)]
def aJC:List AV:=[.v (.int .u8 1),(qb 10),(qb 11),(qs 12),(qi 13),(qi 14),(qs 15),(qs 16),(qu 17),(qu 18),(qu 19)]
def aJB:List AV:=[qf,qf,.v (.string ⟨#[]⟩),qz,qz,.v (.string ⟨#[]⟩),.v (.string ⟨#[]⟩),.v (.int .u8 0),.v (.int .u8 0),.v (.int .u8 0)]
def aDi:List AV:=[(qb 0),(qb 1),(qs 2),(qi 3),(qi 4),(qs 5),(qs 6),(qu 7),(qu 8),(qu 9),qt,(qb 10),(qb 11),(qs 12),(qi 13),(qi 14),(qs 15),(qs 16),(qu 17),(qu 18),(qu 19)]
def aQ5:List AV:=[(qb 0),(qb 1),(qs 2),(qi 3),(qi 4),(qs 5),(qs 6),(qu 7),(qu 8),(qu 9),(qb 10),(qb 11),(qb 12),(qs 13),(qi 14),(qi 15),(qs 16),(qs 17),(qu 18),(qu 19),(qu 20)]
def aMb:DT:=(.node 3 (qb 11) (qb 11) (.node 2 (qs 6) (.v (.string ⟨#[]⟩)) (.leaf (.v (.int .u8 0))) (.leaf (.v (.int .u8 3)))) (.node 2 (qs 6) (.v (.string ⟨#[]⟩)) (.node 2 (qs 5) (.v (.string ⟨#[]⟩)) (.leaf (.v (.int .u8 1))) (.leaf (.v (.int .u8 2)))) (.leaf (.v (.int .u8 3)))))
theorem aGW(l:Value):aMb.ok tb0 l [] [(120,[.agg gY],.dG [(qi 10),(qb 11)])] .nil 60 LG 144 [.agg gY] []=true:=by kernel_rfl
theorem aRf(d:Dt)(code:Int)(sn:Bool)(w0:World) (H0:Same w0 120 #[(eP d)] (.tuple #[(.int .i64 code),(.bool sn)])):Same w0 144 #[(eP d)] (cond sn (cond (d.da.toList==(⟨#[]⟩:ByteArray).toList) (.int .u8 0) (.int .u8 3)) (cond (d.da.toList==(⟨#[]⟩:ByteArray).toList) (cond (d.mo.toList==(⟨#[]⟩:ByteArray).toList) (.int .u8 1) (.int .u8 2)) (.int .u8 3))):=
 aJ (aGW (lv (dL d) [.int .i64 code,.bool sn])) (aN w0) (iD w0) .nil (.cons H0 .nil) (aS (by kernel_rfl)) (by kernel_rfl)
def aFp:DT:=(.node 3 (qb 10) (qb 10) (.leaf qf) (.node 0 (qi 4) qz (.leaf qt) (.leaf qf)))
theorem aA5(l:Value):aFp.ok tb0 l [] [(165,[.agg gY],(qb 10))] .nil 60 LG 140 [.agg gY] []=true:=by kernel_rfl
theorem aJ0(d:Dt)(mk:Bool)(w0:World) (H0:Same w0 165 #[(eP d)] (.bool mk)):Same w0 140 #[(eP d)] (cond mk (.bool false) (cond (d.sig==0) (.bool true) (.bool false))):=
 aJ (aA5 (lv (dL d) [.bool mk])) (aN w0) (iD w0) .nil (.cons H0 .nil) (aS (by kernel_rfl)) (by kernel_rfl)
def aFo:DT:=(.node 3 (qb 10) (qb 10) (.leaf qf) (.node 0 (qi 4) qz (.leaf qt) (.leaf qf)))
theorem aA4(l:Value):aFo.ok tb0 l [] [(165,[.agg gY],(qb 10))] .nil 60 LG 152 [.agg gY] []=true:=by kernel_rfl
theorem aJZ(d:Dt)(mk:Bool)(w0:World) (H0:Same w0 165 #[(eP d)] (.bool mk)):Same w0 152 #[(eP d)] (cond mk (.bool false) (cond (d.sig==0) (.bool true) (.bool false))):=
 aJ (aA4 (lv (dL d) [.bool mk])) (aN w0) (iD w0) .nil (.cons H0 .nil) (aS (by kernel_rfl)) (by kernel_rfl)
def aI3:DT:=(.node 0 (qi 11) qz (.node 3 (qb 10) (qb 10) (.leaf qf) (.node 0 (qi 4) qz (.node 0 (qu 12) (.v (.int .u8 0)) (.leaf qf) (.leaf qt)) (.leaf qf))) (.leaf qf))
theorem aD5(l:Value):aI3.ok tb0 l [] [(61,[.agg gY],(qi 11)),(165,[.agg gY],(qb 10)),(144,[.agg gY],(qu 12))] .nil 60 LG 153 [.agg gY] []=true:=by kernel_rfl
theorem aNx(d:Dt)(mk:Bool)(e:Int)(p:Int)(w0:World) (H0:Same w0 61 #[(eP d)] (.int .i64 e))(H1:Same w0 165 #[(eP d)] (.bool mk))(H2:Same w0 144 #[(eP d)] (.int .u8 p)):Same w0 153 #[(eP d)] (cond (e==0) (cond mk (.bool false) (cond (d.sig==0) (cond (p==0) (.bool false) (.bool true)) (.bool false))) (.bool false)):=
 aJ (aD5 (lv (dL d) [.bool mk,.int .i64 e,.int .u8 p])) (aN w0) (iD w0) .nil (.cons H0 (.cons H1 (.cons H2 .nil))) (aS (by kernel_rfl)) (by kernel_rfl)
def aMf:DT:=(.node 1 (qi 2) (.v (.int .i64 1)) (.leaf (.dG [qz,(.v (.int .i64 8))])) (.node 1 (qi 3) (qi 2) (.leaf (.dG [qz,(.v (.int .i64 8))])) (.leaf (.dG [(aX 2 .i64 [(aX 1 .i64 [(qi 4),(qi 2)]),(.v (.int .i64 1))]),qz]))))
theorem aG0(l:Value):aMf.ok tb0 l [] [(180,[(qi 0),(qi 1)],.dG [(qi 3),qz]),(190,[(qi 0),(qi 1)],.dG [(qi 4),qz])] .nil 60 LG 193 [.agg [(qi 0),(qi 1),(qi 2)]] []=true:=by kernel_rfl
theorem aRj (y:Int)(m:Int)(k:Int)(n:Int)(a:Int)(w0:World) (H0:Same w0 180 #[(.int .i64 y),(.int .i64 m)] (.tuple #[(.int .i64 n),(.int .i64 0)]))(H1:Same w0 190 #[(.int .i64 y),(.int .i64 m)] (.tuple #[(.int .i64 a),(.int .i64 0)])):Same w0 193 #[(cvv y m k)] (cond (decide (k<1)) (.tuple #[(.int .i64 0),(.int .i64 8)]) (cond (decide (n<k)) (.tuple #[(.int .i64 0),(.int .i64 8)]) (.tuple #[(.int .i64 (IntKind.i64.wrap ((IntKind.i64.wrap (a+k)) - 1))),(.int .i64 0)]))):=
 aJ (aG0 (.agg #[.int .i64 y,.int .i64 m,.int .i64 k,.int .i64 n,.int .i64 a])) (aN w0) (iD w0) .nil (.cons H0 (.cons H1 .nil)) (aS (by kernel_rfl)) (by kernel_rfl)
def aI9:DT:=(.node 0 (qi 4) qz (.leaf (.dG [(rK q8 (qi 13) q8 (qi 13)),qz])) (.leaf (.dG [(rK q8 qz q8 qz),(.v (.int .i64 1))])))
theorem aEb(l:Value):aI9.ok tb0 l [] [(61,[.agg gY],qz),(165,[.agg gY],qf),(141,[.agg [(qb 0),(qb 1),(qs 2),(qi 3),(qi 4)]],.dG [(qi 10),qz]),(142,[(qs 5)],.dG [(qi 11),.v .nilIface]),(142,[(qs 6)],.dG [(qi 12),.v .nilIface]),(144,[.agg gY],.v (.int .u8 3)),(193,[.agg [(qi 10),(qi 11),(qi 12)]],.dG [(qi 13),qz])] .nil 60 LG 100 [.agg gY] []=true:=by kernel_rfl
theorem aND(d:Dt)(y:Int)(m:Int)(k:Int)(a:Int)(w0:World) (H0:Same w0 61 #[(eP d)] (.int .i64 0))(H1:Same w0 165 #[(eP d)] (.bool false))(H2:Same w0 141 #[(.agg #[(.bool d.neg),(.bool d.long),(.string d.dg),(.int .i64 d.ex),(.int .i64 d.sig)])] (.tuple #[(.int .i64 y),(.int .i64 0)]))(H3:Same w0 142 #[(.string d.mo)] (.tuple #[(.int .i64 m),.nilIface]))(H4:Same w0 142 #[(.string d.da)] (.tuple #[(.int .i64 k),.nilIface]))(H5:Same w0 144 #[(eP d)] (.int .u8 3))(H6:Same w0 193 #[(cvv y m k)] (.tuple #[(.int .i64 a),(.int .i64 0)])):Same w0 100 #[(eP d)] (cond (d.sig==0) (.tuple #[(r4 0 a 0 a),(.int .i64 0)]) (.tuple #[(r4 0 0 0 0),(.int .i64 1)])):=
 aJ (aEb (lv (dL d) [.int .i64 y,.int .i64 m,.int .i64 k,.int .i64 a])) (aN w0) (iD w0) .nil (.cons H0 (.cons H1 (.cons H2 (.cons H3 (.cons H4 (.cons H5 (.cons H6 .nil))))))) (aS (by kernel_rfl)) (by kernel_rfl)
def aFq:DT:=(.node 0 (qu 0) (.v (.int .u8 1)) (.node 0 (qi 11) qz (.node 3 (qb 12) (qb 12) (.leaf qz) (.leaf (.v (.int .i64 11)))) (.leaf (qi 11))) (.node 0 (qu 0) (.v (.int .u8 2)) (.node 3 (qb 13) (qb 13) (.leaf qz) (.leaf (.v (.int .i64 5)))) (.node 0 (qu 0) (.v (.int .u8 3)) (.node 3 (qb 13) (qb 13) (.leaf qz) (.leaf (.v (.int .i64 5)))) (.leaf (.v (.int .i64 18))))))
theorem aA6(l:Value):aFq.ok tb0 l [(30,.agg aDj,.agg aJB,(qb 13))] [(61,[.agg aDj],(qi 11)),(140,[.agg aDj],(qb 12))] .nil 60 LG 99 [.agg zZ] []=true:=by kernel_rfl
theorem aJ1(d:Dt)(bk:Int)(e:Int)(x:Bool)(zd:Bool)(w0:World)(hzd:IE 30 (eP d) (eP z0) zd)(H0:Same w0 61 #[(eP d)] (.int .i64 e))(H1:Same w0 140 #[(eP d)] (.bool x)):Same w0 99 #[(bV bk d)] (cond (bk==1) (cond (e==0) (cond x (.int .i64 0) (.int .i64 11)) (.int .i64 e)) (cond (bk==2) (cond zd (.int .i64 0) (.int .i64 5)) (cond (bk==3) (cond zd (.int .i64 0) (.int .i64 5)) (.int .i64 18)))):=
 aJ (aA6 (lv [.int .u8 bk] (List.append (dL d) [.int .i64 e,.bool x,.bool zd]))) (aN w0) (iD w0) (.cons hzd (fun _ _ _=>⟨by kernel_rfl,by kernel_rfl⟩) .nil) (.cons H0 (.cons H1 .nil)) (aS (by kernel_rfl)) (by kernel_rfl)
def aI8:DT:=(.node 0 (qi 22) qz DT.no (.leaf (qi 22)))
theorem aEa(l:Value):aI8.ok tb0 l [] [(99,[.agg zZ],(qi 22))] .nil 60 LG 62 [.agg zZ,.agg NI] []=true:=by kernel_rfl
theorem aNC(f t:Dt)(fk:Int)(tk:Int)(e:Int)(w0:World)(he:1<=e)(H0:Same w0 99 #[(bV fk f)] (.int .i64 e)):Same w0 62 #[(bV fk f),(bV tk t)] (cond (e==0) (.bool false) (.int .i64 e)):=
 aJ (aEa (lv [.int .u8 fk] (List.append (dL f) (List.append [.int .u8 tk] (List.append (dL t) [.int .i64 e]))))) (aN w0) (iD w0) .nil (.cons H0 .nil) (bT (by kernel_rfl:_=((((e==0)=true->False)/\((e==0)=false->True)))) (⟨fun h0=>(by simp only[aFy,aB1,aEv,aCk]at *;omega),fun h0=>trivial⟩)) (by kernel_rfl)
def aI7:DT:=(.node 0 (qi 22) qz DT.no (.leaf (qi 22)))
theorem aD9(l:Value):aI7.ok tb0 l [] [(99,[.agg zZ],qz),(99,[.agg NI],(qi 22))] .nil 60 LG 62 [.agg zZ,.agg NI] []=true:=by kernel_rfl
theorem aNB(f t:Dt)(fk:Int)(tk:Int)(e:Int)(w0:World)(he:1<=e)(H0:Same w0 99 #[(bV fk f)] (.int .i64 0))(H1:Same w0 99 #[(bV tk t)] (.int .i64 e)):Same w0 62 #[(bV fk f),(bV tk t)] (cond (e==0) (.bool false) (.int .i64 e)):=
 aJ (aD9 (lv [.int .u8 fk] (List.append (dL f) (List.append [.int .u8 tk] (List.append (dL t) [.int .i64 e]))))) (aN w0) (iD w0) .nil (.cons H0 (.cons H1 .nil)) (bT (by kernel_rfl:_=((((e==0)=true->False)/\((e==0)=false->True)))) (⟨fun h0=>(by simp only[aFy,aB1,aEv,aCk]at *;omega),fun h0=>trivial⟩)) (by kernel_rfl)
def aI6:DT:=(.node 0 (qi 20) (qi 20) (.node 0 (qi 23) (qi 23) (.node 1 (qi 20) (qi 23) (.leaf qz) (.node 1 (qi 23) (qi 20) (.leaf (.v (.int .i64 11))) (.leaf qz))) DT.no) DT.no)
theorem aD8(l:Value):aI6.ok tb0 l [] [(99,[.agg UQ],qz),(99,[.agg aJC],qz),(100,[.agg gY],.dG [rK q8 (qi 20) q8 (qi 21),qz]),(100,[.agg qV],.dG [rK q8 (qi 22) q8 (qi 23),qz])] .nil 60 LG 62 [.agg UQ,.agg aJC] []=true:=by kernel_rfl
theorem aNA(f t:Dt)(a:Int)(b:Int)(u:Int)(v:Int)(w0:World) (H0:Same w0 99 #[(bV 1 f)] (.int .i64 0))(H1:Same w0 99 #[(bV 1 t)] (.int .i64 0))(H2:Same w0 100 #[(dV f)] (.tuple #[(r4 0 a 0 b),(.int .i64 0)]))(H3:Same w0 100 #[(dV t)] (.tuple #[(r4 0 u 0 v),(.int .i64 0)])):Same w0 62 #[(bV 1 f),(bV 1 t)] (cond (a==a) (cond (v==v) (cond (decide (a<v)) (.int .i64 0) (cond (decide (v<a)) (.int .i64 11) (.int .i64 0))) (.bool false)) (.bool false)):=
 aJ (aD8 (lv (dL f) (List.append (dL t) [.int .i64 a,.int .i64 b,.int .i64 u,.int .i64 v]))) (aN w0) (iD w0) .nil (.cons H0 (.cons H1 (.cons H2 (.cons H3 .nil)))) (bT (by kernel_rfl:_=((((a==a)=true->(((v==v)=true->(((decide (a<v))=true->True)/\((decide (a<v))=false->(((decide (v<a))=true->True)/\((decide (v<a))=false->True)))))/\((v==v)=false->False)))/\((a==a)=false->False)))) (⟨fun h0=>⟨fun h1=>⟨fun h2=>trivial,fun h2=>⟨fun h3=>trivial,fun h3=>trivial⟩⟩,fun h1=>(by simp only[aFy,aB1,aEv,aCk]at *;omega)⟩,fun h0=>(by simp only[aFy,aB1,aEv,aCk]at *;omega)⟩)) (by kernel_rfl)
def aI5:DT:=(.node 0 (qu 10) (.v (.int .u8 1)) DT.no (.leaf qz))
theorem aD7(l:Value):aI5.ok tb0 l [] [(99,[.agg UQ],qz),(99,[.agg aJD],qz)] .nil 60 LG 62 [.agg UQ,.agg aJD] []=true:=by kernel_rfl
theorem aNz(f t:Dt)(tk:Int)(w0:World)(hk:2<=tk)(H0:Same w0 99 #[(bV 1 f)] (.int .i64 0))(H1:Same w0 99 #[(bV tk t)] (.int .i64 0)):Same w0 62 #[(bV 1 f),(bV tk t)] (cond (tk==1) (.bool false) (.int .i64 0)):=
 aJ (aD7 (lv (dL f) (List.append [.int .u8 tk] (dL t)))) (aN w0) (iD w0) .nil (.cons H0 (.cons H1 .nil)) (bT (by kernel_rfl:_=((((tk==1)=true->False)/\((tk==1)=false->True)))) (⟨fun h0=>(by simp only[aFy,aB1,aEv,aCk]at *;omega),fun h0=>trivial⟩)) (by kernel_rfl)
def aI4:DT:=(.node 0 (qu 0) (.v (.int .u8 1)) DT.no (.node 0 (qu 11) (.v (.int .u8 1)) (.leaf qz) (.leaf (.v (.int .i64 11)))))
theorem aD6(l:Value):aI4.ok tb0 l [] [(99,[.agg zZ],qz),(99,[.agg NI],qz)] .nil 60 LG 62 [.agg zZ,.agg NI] []=true:=by kernel_rfl
theorem aNy(f t:Dt)(fk:Int)(tk:Int)(w0:World)(hk:2<=fk)(H0:Same w0 99 #[(bV fk f)] (.int .i64 0))(H1:Same w0 99 #[(bV tk t)] (.int .i64 0)):Same w0 62 #[(bV fk f),(bV tk t)] (cond (fk==1) (.bool false) (cond (tk==1) (.int .i64 0) (.int .i64 11))):=
 aJ (aD6 (lv [.int .u8 fk] (List.append (dL f) (List.append [.int .u8 tk] (dL t))))) (aN w0) (iD w0) .nil (.cons H0 (.cons H1 .nil)) (bT (by kernel_rfl:_=((((fk==1)=true->False)/\((fk==1)=false->(((tk==1)=true->True)/\((tk==1)=false->True)))))) (⟨fun h0=>(by simp only[aFy,aB1,aEv,aCk]at *;omega),fun h0=>⟨fun h1=>trivial,fun h1=>trivial⟩⟩)) (by kernel_rfl)
def aFh:DT:=(.node 0 (qi 22) qz DT.no (.leaf (qi 22)))
theorem aAY(l:Value):aFh.ok tb0 l [] [(47,[.agg zZ],(qi 22))] .nil 60 LG 25 [.agg zZ,.agg NI] []=true:=by kernel_rfl
theorem aJU(f t:Dt)(fk:Int)(tk:Int)(e:Int)(w0:World)(he:1<=e)(H0:Same w0 47 #[(bV fk f)] (.int .i64 e)):Same w0 25 #[(bV fk f),(bV tk t)] (cond (e==0) (.bool false) (.int .i64 e)):=
 aJ (aAY (lv [.int .u8 fk] (List.append (dL f) (List.append [.int .u8 tk] (List.append (dL t) [.int .i64 e]))))) (aN w0) (iD w0) .nil (.cons H0 .nil) (bT (by kernel_rfl:_=((((e==0)=true->False)/\((e==0)=false->True)))) (⟨fun h0=>(by simp only[aFy,aB1,aEv,aCk]at *;omega),fun h0=>trivial⟩)) (by kernel_rfl)
def aFg:DT:=(.node 0 (qi 22) qz DT.no (.leaf (qi 22)))
theorem aAX(l:Value):aFg.ok tb0 l [] [(47,[.agg zZ],qz),(47,[.agg NI],(qi 22))] .nil 60 LG 25 [.agg zZ,.agg NI] []=true:=by kernel_rfl
theorem aJT(f t:Dt)(fk:Int)(tk:Int)(e:Int)(w0:World)(he:1<=e)(H0:Same w0 47 #[(bV fk f)] (.int .i64 0))(H1:Same w0 47 #[(bV tk t)] (.int .i64 e)):Same w0 25 #[(bV fk f),(bV tk t)] (cond (e==0) (.bool false) (.int .i64 e)):=
 aJ (aAX (lv [.int .u8 fk] (List.append (dL f) (List.append [.int .u8 tk] (List.append (dL t) [.int .i64 e]))))) (aN w0) (iD w0) .nil (.cons H0 (.cons H1 .nil)) (bT (by kernel_rfl:_=((((e==0)=true->False)/\((e==0)=false->True)))) (⟨fun h0=>(by simp only[aFy,aB1,aEv,aCk]at *;omega),fun h0=>trivial⟩)) (by kernel_rfl)
def aFf:DT:=(.node 1 (qi 23) (qi 20) (.leaf (.v (.int .i64 11))) (.leaf qz))
theorem aAW(l:Value):aFf.ok tb0 l [] [(47,[.agg UQ],qz),(47,[.agg aJC],qz),(48,[.agg gY],.dG [(qi 20),(qi 21)]),(48,[.agg qV],.dG [(qi 22),(qi 23)])] .nil 60 LG 25 [.agg UQ,.agg aJC] []=true:=by kernel_rfl
theorem aJS(f t:Dt)(a:Int)(b:Int)(u:Int)(v:Int)(w0:World) (H0:Same w0 47 #[(bV 1 f)] (.int .i64 0))(H1:Same w0 47 #[(bV 1 t)] (.int .i64 0))(H2:Same w0 48 #[(dV f)] (.tuple #[(.int .i64 a),(.int .i64 b)]))(H3:Same w0 48 #[(dV t)] (.tuple #[(.int .i64 u),(.int .i64 v)])):Same w0 25 #[(bV 1 f),(bV 1 t)] (cond (decide (v<a)) (.int .i64 11) (.int .i64 0)):=
 aJ (aAW (lv (dL f) (List.append (dL t) [.int .i64 a,.int .i64 b,.int .i64 u,.int .i64 v]))) (aN w0) (iD w0) .nil (.cons H0 (.cons H1 (.cons H2 (.cons H3 .nil)))) (aS (by kernel_rfl)) (by kernel_rfl)
def aFe:DT:=(.node 0 (qu 10) (.v (.int .u8 1)) DT.no (.leaf qz))
theorem aAV(l:Value):aFe.ok tb0 l [] [(47,[.agg UQ],qz),(47,[.agg aJD],qz)] .nil 60 LG 25 [.agg UQ,.agg aJD] []=true:=by kernel_rfl
theorem aJR(f t:Dt)(tk:Int)(w0:World)(hk:2<=tk)(H0:Same w0 47 #[(bV 1 f)] (.int .i64 0))(H1:Same w0 47 #[(bV tk t)] (.int .i64 0)):Same w0 25 #[(bV 1 f),(bV tk t)] (cond (tk==1) (.bool false) (.int .i64 0)):=
 aJ (aAV (lv (dL f) (List.append [.int .u8 tk] (dL t)))) (aN w0) (iD w0) .nil (.cons H0 (.cons H1 .nil)) (bT (by kernel_rfl:_=((((tk==1)=true->False)/\((tk==1)=false->True)))) (⟨fun h0=>(by simp only[aFy,aB1,aEv,aCk]at *;omega),fun h0=>trivial⟩)) (by kernel_rfl)
def aFd:DT:=(.node 0 (qu 0) (.v (.int .u8 1)) DT.no (.node 0 (qu 11) (.v (.int .u8 1)) (.leaf qz) (.leaf (.v (.int .i64 11)))))
theorem aAU(l:Value):aFd.ok tb0 l [] [(47,[.agg zZ],qz),(47,[.agg NI],qz)] .nil 60 LG 25 [.agg zZ,.agg NI] []=true:=by kernel_rfl
theorem aJQ(f t:Dt)(fk:Int)(tk:Int)(w0:World)(hk:2<=fk)(H0:Same w0 47 #[(bV fk f)] (.int .i64 0))(H1:Same w0 47 #[(bV tk t)] (.int .i64 0)):Same w0 25 #[(bV fk f),(bV tk t)] (cond (fk==1) (.bool false) (cond (tk==1) (.int .i64 0) (.int .i64 11))):=
 aJ (aAU (lv [.int .u8 fk] (List.append (dL f) (List.append [.int .u8 tk] (dL t))))) (aN w0) (iD w0) .nil (.cons H0 (.cons H1 .nil)) (bT (by kernel_rfl:_=((((fk==1)=true->False)/\((fk==1)=false->(((tk==1)=true->True)/\((tk==1)=false->True)))))) (⟨fun h0=>(by simp only[aFy,aB1,aEv,aCk]at *;omega),fun h0=>⟨fun h1=>trivial,fun h1=>trivial⟩⟩)) (by kernel_rfl)
def aMd:DT:=(.leaf qf)
theorem aGY(l:Value):aMd.ok tb0 l [] [(153,[.agg gY],qf)] .nil 60 LG 150 [.agg gY,.agg qV] []=true:=by kernel_rfl
theorem aRh(f t:Dt) (w0:World) (H0:Same w0 153 #[(dV f)] (.bool false)):Same w0 150 #[(dV f),(dV t)] (.bool false):=
 aJ (aGY (lv (dL f) (dL t))) (aN w0) (iD w0) .nil (.cons H0 .nil) (aS (by kernel_rfl)) (by kernel_rfl)
def aMc:DT:=(.leaf qf)
theorem aGX(l:Value):aMc.ok tb0 l [] [(153,[.agg gY],qt),(153,[.agg qV],qf)] .nil 60 LG 150 [.agg gY,.agg qV] []=true:=by kernel_rfl
theorem aRg(f t:Dt) (w0:World) (H0:Same w0 153 #[(dV f)] (.bool true))(H1:Same w0 153 #[(dV t)] (.bool false)):Same w0 150 #[(dV f),(dV t)] (.bool false):=
 aJ (aGX (lv (dL f) (dL t))) (aN w0) (iD w0) .nil (.cons H0 (.cons H1 .nil)) (aS (by kernel_rfl)) (by kernel_rfl)
def aQv:DT:=(.node 0 (qu 20) (qu 21) (.node 0 (qi 22) (qi 22) (.node 0 (qi 24) (qi 24) (.node 1 (qi 22) (qi 24) (.leaf qt) (.node 1 (qi 24) (qi 22) (.leaf qf) (.leaf qt))) DT.no) DT.no) (.leaf qf))
theorem aKO(l:Value):aQv.ok tb0 l [] [(153,[.agg gY],qt),(153,[.agg qV],qt),(144,[.agg gY],(qu 20)),(144,[.agg qV],(qu 21)),(100,[.agg gY],.dG [rK q8 (qi 22) q8 (qi 23),qz]),(100,[.agg qV],.dG [rK q8 (qi 24) q8 (qi 25),qz])] .nil 60 LG 150 [.agg gY,.agg qV] []=true:=by kernel_rfl
theorem aWE(f t:Dt)(p:Int)(q:Int)(a:Int)(b:Int)(u:Int)(v:Int)(w0:World) (H0:Same w0 153 #[(dV f)] (.bool true))(H1:Same w0 153 #[(dV t)] (.bool true))(H2:Same w0 144 #[(dV f)] (.int .u8 p))(H3:Same w0 144 #[(dV t)] (.int .u8 q))(H4:Same w0 100 #[(dV f)] (.tuple #[(r4 0 a 0 b),(.int .i64 0)]))(H5:Same w0 100 #[(dV t)] (.tuple #[(r4 0 u 0 v),(.int .i64 0)])):Same w0 150 #[(dV f),(dV t)] (cond (p==q) (cond (a==a) (cond (u==u) (cond (decide (a<u)) (.bool true) (cond (decide (u<a)) (.bool false) (.bool true))) (.bool false)) (.bool false)) (.bool false)):=
 aJ (aKO (lv (dL f) (List.append (dL t) [.int .u8 p,.int .u8 q,.int .i64 a,.int .i64 b,.int .i64 u,.int .i64 v]))) (aN w0) (iD w0) .nil (.cons H0 (.cons H1 (.cons H2 (.cons H3 (.cons H4 (.cons H5 .nil)))))) (bT (by kernel_rfl:_=((((p==q)=true->(((a==a)=true->(((u==u)=true->(((decide (a<u))=true->True)/\((decide (a<u))=false->(((decide (u<a))=true->True)/\((decide (u<a))=false->True)))))/\((u==u)=false->False)))/\((a==a)=false->False)))/\((p==q)=false->True)))) (⟨fun h0=>⟨fun h1=>⟨fun h2=>⟨fun h3=>trivial,fun h3=>⟨fun h4=>trivial,fun h4=>trivial⟩⟩,fun h2=>(by simp only[aFy,aB1,aEv,aCk]at *;omega)⟩,fun h1=>(by simp only[aFy,aB1,aEv,aCk]at *;omega)⟩,fun h0=>trivial⟩)) (by kernel_rfl)
def aMe:DT:=(.node 0 (qu 21) (.v (.int .u8 3)) (.node 0 (qi 22) qz (.node 3 (qb 10) (qb 10) (.node 0 (qi 23) qz (.node 3 (qb 24) (qb 24) (.node 0 (qu 21) (.v (.int .u8 4)) DT.no (.leaf qz)) (.leaf (.v (.int .i64 10)))) (.leaf (qi 23))) (.node 3 (qb 26) (qb 26) (.node 0 (qu 21) (.v (.int .u8 4)) DT.no (.leaf qz)) (.leaf (.v (.int .i64 5))))) (.leaf (qi 22))) (.node 0 (qu 21) (.v (.int .u8 4)) (.node 0 (qi 22) qz (.node 3 (qb 10) (qb 10) (.node 0 (qi 23) qz (.node 3 (qb 24) (qb 24) (.node 3 (qb 25) (qb 25) (.leaf qz) (.leaf (.v (.int .i64 10)))) (.leaf (.v (.int .i64 10)))) (.leaf (qi 23))) (.node 3 (qb 26) (qb 26) (.node 3 (qb 25) (qb 25) (.leaf qz) (.leaf (.v (.int .i64 10)))) (.leaf (.v (.int .i64 5))))) (.leaf (qi 22))) (.leaf (.v (.int .i64 18)))))
theorem aGZ(l:Value):aMe.ok tb0 l [(30,.agg aNr,.agg aJB,(qb 26))] [(61,[.agg gY],(qi 22)),(61,[.agg aNr],(qi 23)),(150,[.agg gY,.agg aNr],(qb 24)),(152,[.agg gY],(qb 25))] .nil 60 LG 103 [.agg aQ5,(qu 21)] []=true:=by kernel_rfl
theorem aRi(f t:Dt)(rg:Bool)(kd:Int)(e:Int)(g:Int)(o:Bool)(x:Bool)(zd:Bool)(w0:World)(hzd:IE 30 (eP t) (eP z0) zd)(H0:Same w0 61 #[(dV f)] (.int .i64 e))(H1:Same w0 61 #[(dV t)] (.int .i64 g))(H2:Same w0 150 #[(dV f),(dV t)] (.bool o))(H3:Same w0 152 #[(dV f)] (.bool x)):Same w0 103 #[(iV f rg t),(.int .u8 kd)] (cond (kd==3) (cond (e==0) (cond rg (cond (g==0) (cond o (cond (kd==4) (.bool false) (.int .i64 0)) (.int .i64 10)) (.int .i64 g)) (cond zd (cond (kd==4) (.bool false) (.int .i64 0)) (.int .i64 5))) (.int .i64 e)) (cond (kd==4) (cond (e==0) (cond rg (cond (g==0) (cond o (cond x (.int .i64 0) (.int .i64 10)) (.int .i64 10)) (.int .i64 g)) (cond zd (cond x (.int .i64 0) (.int .i64 10)) (.int .i64 5))) (.int .i64 e)) (.int .i64 18))):=
 aJ (aGZ (lv (dL f) (List.append [.bool rg] (List.append (dL t) [.int .u8 kd,.int .i64 e,.int .i64 g,.bool o,.bool x,.bool zd])))) (aN w0) (iD w0) (.cons hzd (fun _ _ _=>⟨by kernel_rfl,by kernel_rfl⟩) .nil) (.cons H0 (.cons H1 (.cons H2 (.cons H3 .nil)))) (bT (by kernel_rfl:_=((((kd==3)=true->(((e==0)=true->((rg=true->(((g==0)=true->((o=true->(((kd==4)=true->False)/\((kd==4)=false->True)))/\(o=false->True)))/\((g==0)=false->True)))/\(rg=false->((zd=true->(((kd==4)=true->False)/\((kd==4)=false->True)))/\(zd=false->True)))))/\((e==0)=false->True)))/\((kd==3)=false->(((kd==4)=true->(((e==0)=true->((rg=true->(((g==0)=true->((o=true->((x=true->True)/\(x=false->True)))/\(o=false->True)))/\((g==0)=false->True)))/\(rg=false->((zd=true->((x=true->True)/\(x=false->True)))/\(zd=false->True)))))/\((e==0)=false->True)))/\((kd==4)=false->True)))))) (⟨fun h0=>⟨fun h1=>⟨fun h2=>⟨fun h3=>⟨fun h4=>⟨fun h5=>(by simp only[aFy,aB1,aEv,aCk]at *;omega),fun h5=>trivial⟩,fun h4=>trivial⟩,fun h3=>trivial⟩,fun h2=>⟨fun h3=>⟨fun h4=>(by simp only[aFy,aB1,aEv,aCk]at *;omega),fun h4=>trivial⟩,fun h3=>trivial⟩⟩,fun h1=>trivial⟩,fun h0=>⟨fun h1=>⟨fun h2=>⟨fun h3=>⟨fun h4=>⟨fun h5=>⟨fun h6=>trivial,fun h6=>trivial⟩,fun h5=>trivial⟩,fun h4=>trivial⟩,fun h3=>⟨fun h4=>⟨fun h5=>trivial,fun h5=>trivial⟩,fun h4=>trivial⟩⟩,fun h2=>trivial⟩,fun h1=>trivial⟩⟩)) (by kernel_rfl)
def aQw:DT:=(.node 3 (qb 10) (qb 10) (.leaf qf) (.leaf (qb 21)))
theorem aKP(l:Value):aQw.ok tb0 l [] [(153,[.agg gY],(qb 21))] .nil 60 LG 106 [.agg aQ5] []=true:=by kernel_rfl
theorem aWF(f t:Dt)(rg:Bool)(x:Bool)(w0:World) (H0:Same w0 153 #[(dV f)] (.bool x)):Same w0 106 #[(iV f rg t)] (cond rg (.bool false) (.bool x)):=
 aJ (aKP (lv (dL f) (List.append [.bool rg] (List.append (dL t) [.bool x])))) (aN w0) (iD w0) .nil (.cons H0 .nil) (aS (by kernel_rfl)) (by kernel_rfl)
def aI2:DT:=(.node 0 (qi 0) (.v (.int .i64 21)) (.leaf (.dG yx1)) (.node 0 (qi 0) (.v (.int .i64 25)) (.leaf (.dG yx1)) (.node 0 (qi 0) (.v (.int .i64 31)) (.leaf (.dG yx1)) (.node 0 (qi 0) (.v (.int .i64 22)) (.leaf (.dG yx2)) (.node 0 (qi 0) (.v (.int .i64 26)) (.leaf (.dG yx2)) (.node 0 (qi 0) (.v (.int .i64 32)) (.leaf (.dG yx2)) (.node 0 (qi 0) (.v (.int .i64 23)) (.leaf (.dG yx3)) (.node 0 (qi 0) (.v (.int .i64 27)) (.leaf (.dG yx3)) (.node 0 (qi 0) (.v (.int .i64 29)) (.leaf (.dG yx3)) (.node 0 (qi 0) (.v (.int .i64 24)) (.leaf (.dG yx5)) (.node 0 (qi 0) (.v (.int .i64 28)) (.leaf (.dG yx5)) (.node 0 (qi 0) (.v (.int .i64 30)) (.leaf (.dG yx5)) (.node 0 (qi 0) (.v (.int .i64 33)) (.leaf aJI) (.node 0 (qi 0) (.v (.int .i64 34)) (.leaf aJI) (.node 0 (qi 0) (.v (.int .i64 35)) (.leaf aJI) (.node 0 (qi 0) (.v (.int .i64 36)) (.leaf aJI) (.node 0 (qi 0) (.v (.int .i64 37)) (.leaf aNs) (.node 0 (qi 0) (.v (.int .i64 38)) (.leaf aNs) (.node 0 (qi 0) (.v (.int .i64 39)) (.leaf aNs) (.leaf (.dG [(aX 1 .i64 [(aX 3 .i64 [(.v (.int .i64 6)),(aX 2 .i64 [(qi 0),(.v (.int .i64 40))])]),(.v (.int .i64 1))]),(.v (.int .i64 6))])))))))))))))))))))))
theorem aD4(l:Value):aI2.ok tb0 l [] [] .nil 60 LG 73 [(qi 0)] []=true:=by kernel_rfl
theorem aNw (c:Int)(w0:World)  :Same w0 73 #[(.int .i64 c)] (cond (c==21) (.tuple #[(.int .i64 3),(.int .i64 3)]) (cond (c==25) (.tuple #[(.int .i64 3),(.int .i64 3)]) (cond (c==31) (.tuple #[(.int .i64 3),(.int .i64 3)]) (cond (c==22) (.tuple #[(.int .i64 6),(.int .i64 3)]) (cond (c==26) (.tuple #[(.int .i64 6),(.int .i64 3)]) (cond (c==32) (.tuple #[(.int .i64 6),(.int .i64 3)]) (cond (c==23) (.tuple #[(.int .i64 9),(.int .i64 3)]) (cond (c==27) (.tuple #[(.int .i64 9),(.int .i64 3)]) (cond (c==29) (.tuple #[(.int .i64 9),(.int .i64 3)]) (cond (c==24) (.tuple #[(.int .i64 12),(.int .i64 3)]) (cond (c==28) (.tuple #[(.int .i64 12),(.int .i64 3)]) (cond (c==30) (.tuple #[(.int .i64 12),(.int .i64 3)]) (cond (c==33) (.tuple #[(.int .i64 (IntKind.i64.wrap ((IntKind.i64.wrap (3 * (IntKind.i64.wrap (c - 33))))+1))),(.int .i64 3)]) (cond (c==34) (.tuple #[(.int .i64 (IntKind.i64.wrap ((IntKind.i64.wrap (3 * (IntKind.i64.wrap (c - 33))))+1))),(.int .i64 3)]) (cond (c==35) (.tuple #[(.int .i64 (IntKind.i64.wrap ((IntKind.i64.wrap (3 * (IntKind.i64.wrap (c - 33))))+1))),(.int .i64 3)]) (cond (c==36) (.tuple #[(.int .i64 (IntKind.i64.wrap ((IntKind.i64.wrap (3 * (IntKind.i64.wrap (c - 33))))+1))),(.int .i64 3)]) (cond (c==37) (.tuple #[(.int .i64 (IntKind.i64.wrap ((IntKind.i64.wrap (4 * (IntKind.i64.wrap (c - 37))))+1))),(.int .i64 4)]) (cond (c==38) (.tuple #[(.int .i64 (IntKind.i64.wrap ((IntKind.i64.wrap (4 * (IntKind.i64.wrap (c - 37))))+1))),(.int .i64 4)]) (cond (c==39) (.tuple #[(.int .i64 (IntKind.i64.wrap ((IntKind.i64.wrap (4 * (IntKind.i64.wrap (c - 37))))+1))),(.int .i64 4)]) (.tuple #[(.int .i64 (IntKind.i64.wrap ((IntKind.i64.wrap (6 * (IntKind.i64.wrap (c - 40))))+1))),(.int .i64 6)])))))))))))))))))))):=
 aJ (aD4 (.agg #[.int .i64 c])) (aN w0) (iD w0) .nil .nil (aS (by kernel_rfl)) (by kernel_rfl)
def aCh:DT:=(.node 0 (qu 0) (.v (.int .u8 1)) (.node 0 (qi 11) qz (.node 0 (qi 12) qz (.leaf (.v (.int .i64 11))) (.leaf (qi 11))) (.leaf (qi 11))) (.node 0 (qu 0) (.v (.int .u8 2)) (.node 3 (qb 13) (qb 13) (.leaf qz) (.leaf (.v (.int .i64 5)))) (.node 0 (qu 0) (.v (.int .u8 3)) (.node 3 (qb 13) (qb 13) (.leaf qz) (.leaf (.v (.int .i64 5)))) (.leaf (.v (.int .i64 18))))))
theorem XG(l:Value):aCh.ok tb0 l [(30,.agg aDj,.agg aJB,(qb 13))] [(64,[.agg aDj],(qi 11)),(70,[.agg aDj],(qi 12))] .nil 60 LG 47 [.agg zZ] []=true:=by kernel_rfl
theorem aFR(d:Dt)(bk:Int)(e:Int)(x:Int)(zd:Bool)(w0:World)(hzd:IE 30 (eP d) (eP z0) zd)(H0:Same w0 64 #[(eP d)] (.int .i64 e))(H1:Same w0 70 #[(eP d)] (.int .i64 x)):Same w0 47 #[(bV bk d)] (cond (bk==1) (cond (e==0) (cond (x==0) (.int .i64 11) (.int .i64 e)) (.int .i64 e)) (cond (bk==2) (cond zd (.int .i64 0) (.int .i64 5)) (cond (bk==3) (cond zd (.int .i64 0) (.int .i64 5)) (.int .i64 18)))):=
 aJ (XG (lv [.int .u8 bk] (List.append (dL d) [.int .i64 e,.int .i64 x,.bool zd]))) (aN w0) (iD w0) (.cons hzd (fun _ _ _=>⟨by kernel_rfl,by kernel_rfl⟩) .nil) (.cons H0 (.cons H1 .nil)) (aS (by kernel_rfl)) (by kernel_rfl)
def aB9:DT:=(.leaf aJH)
theorem WY(l:Value):aB9.ok tb0 l [] [(71,[(qs 1),(qi 2)],.dG [(qi 8),(qi 9)]),(44,[.agg aQ9],(qi 10)),(72,[(qi 8)],(qi 11)),(72,yx6,(qi 12))] .nil 60 LG 48 [.agg aQ9] []=true:=by kernel_rfl
theorem aFJ(d:Dt)(v:Int)(x:Int)(code:Int)(a:Int)(b:Int)(w0:World) (H0:Same w0 71 #[(.string d.dg),(.int .i64 d.ex)] (.tuple #[(.int .i64 v),(.int .i64 x)]))(H1:Same w0 44 #[(.agg #[(.bool false),(.bool d.long),(.string d.dg),(.int .i64 d.ex),(.int .i64 d.sig),(.string ⟨#[]⟩),(.string d.da),(.int .u8 d.m0),(.int .u8 d.m1),(.int .u8 d.m2)])] (.int .i64 code))(H2:Same w0 72 #[(.int .i64 v)] (.int .i64 a))(H3:Same w0 72 #[(.int .i64 (IntKind.i64.wrap (v+1)))] (.int .i64 b)):Same w0 48 #[(.agg #[(.bool false),(.bool d.long),(.string d.dg),(.int .i64 d.ex),(.int .i64 d.sig),(.string ⟨#[]⟩),(.string d.da),(.int .u8 d.m0),(.int .u8 d.m1),(.int .u8 d.m2)])] (.tuple #[(.int .i64 a),(.int .i64 (IntKind.i64.wrap (b - 1)))]):=
 aJ (WY (.agg #[.bool d.long,.string d.dg,.int .i64 d.ex,.int .i64 d.sig,.string d.da,.int .u8 d.m0,.int .u8 d.m1,.int .u8 d.m2,.int .i64 v,.int .i64 x,.int .i64 code,.int .i64 a,.int .i64 b])) (aN w0) (iD w0) .nil (.cons H0 (.cons H1 (.cons H2 (.cons H3 .nil)))) (aS (by kernel_rfl)) (by kernel_rfl)
def aCb:DT:=(.node 2 (qs 4) (.v (.string ⟨#[]⟩)) (.leaf aJG) (.node 1 qz (qi 11) (.leaf (.dG [(qi 16),aRe])) DT.no))
theorem XA(l:Value):aCb.ok tb0 l [] [(71,[(qs 1),(qi 2)],.dG [(qi 9),(qi 10)]),(44,[.agg aJF],(qi 11)),(72,[(qi 9)],(qi 12)),(72,yx7,(qi 13)),(73,[(qi 11)],.dG [(qi 14),(qi 15)]),(74,[(qi 9),(qi 14)],(qi 16)),(74,[(qi 9),aX 1 .i64 [(qi 14),(qi 15)]],(qi 17))] .nil 60 LG 48 [.agg aJF] []=true:=by kernel_rfl
theorem aFL(d:Dt)(v:Int)(x:Int)(code:Int)(a:Int)(b:Int)(f:Int)(n:Int)(c:Int)(g:Int)(w0:World)(hc:1<=code)(H0:Same w0 71 #[(.string d.dg),(.int .i64 d.ex)] (.tuple #[(.int .i64 v),(.int .i64 x)]))(H1:Same w0 44 #[(.agg #[(.bool false),(.bool d.long),(.string d.dg),(.int .i64 d.ex),(.int .i64 d.sig),(.string d.mo),(.string d.da),(.int .u8 d.m0),(.int .u8 d.m1),(.int .u8 d.m2)])] (.int .i64 code))(H2:Same w0 72 #[(.int .i64 v)] (.int .i64 a))(H3:Same w0 72 #[(.int .i64 (IntKind.i64.wrap (v+1)))] (.int .i64 b))(H4:Same w0 73 #[(.int .i64 code)] (.tuple #[(.int .i64 f),(.int .i64 n)]))(H5:Same w0 74 #[(.int .i64 v),(.int .i64 f)] (.int .i64 c))(H6:Same w0 74 #[(.int .i64 v),(.int .i64 (IntKind.i64.wrap (f+n)))] (.int .i64 g)):Same w0 48 #[(.agg #[(.bool false),(.bool d.long),(.string d.dg),(.int .i64 d.ex),(.int .i64 d.sig),(.string d.mo),(.string d.da),(.int .u8 d.m0),(.int .u8 d.m1),(.int .u8 d.m2)])] (cond (d.mo.toList==(⟨#[]⟩:ByteArray).toList) (.tuple #[(.int .i64 a),(.int .i64 (IntKind.i64.wrap (b - 1)))]) (cond (decide (0<code)) (.tuple #[(.int .i64 c),(.int .i64 (IntKind.i64.wrap (g - 1)))]) (.bool false))):=
 aJ (XA (.agg #[.bool d.long,.string d.dg,.int .i64 d.ex,.int .i64 d.sig,.string d.mo,.string d.da,.int .u8 d.m0,.int .u8 d.m1,.int .u8 d.m2,.int .i64 v,.int .i64 x,.int .i64 code,.int .i64 a,.int .i64 b,.int .i64 f,.int .i64 n,.int .i64 c,.int .i64 g])) (aN w0) (iD w0) .nil (.cons H0 (.cons H1 (.cons H2 (.cons H3 (.cons H4 (.cons H5 (.cons H6 .nil))))))) (bT (by kernel_rfl:_=((((d.mo.toList==(⟨#[]⟩:ByteArray).toList)=true->True)/\((d.mo.toList==(⟨#[]⟩:ByteArray).toList)=false->(((decide (0<code))=true->True)/\((decide (0<code))=false->False)))))) (⟨fun h0=>trivial,fun h0=>⟨fun h1=>trivial,fun h1=>(by simp only[aFy,aB1,aEv,aCk]at *;omega)⟩⟩)) (by kernel_rfl)
def aCd:DT:=(.node 2 (qs 4) (.v (.string ⟨#[]⟩)) (.leaf aJH) (.node 1 qz (qi 10) DT.no (.leaf (.dG [(qi 14),aRd]))))
theorem XC(l:Value):aCd.ok tb0 l [] [(71,[(qs 1),(qi 2)],.dG [(qi 8),(qi 9)]),(44,[.agg aQ8],(qi 10)),(72,[(qi 8)],(qi 11)),(72,yx6,(qi 12)),(75,[(qs 4)],(qi 13)),(74,[(qi 8),(qi 13)],(qi 14)),(74,[(qi 8),aX 1 .i64 [(qi 13),.v (.int .i64 1)]],(qi 15))] .nil 60 LG 48 [.agg aQ8] []=true:=by kernel_rfl
theorem aFN(d:Dt)(v:Int)(x:Int)(code:Int)(a:Int)(b:Int)(n:Int)(c:Int)(g:Int)(w0:World)(hc:code<=0)(H0:Same w0 71 #[(.string d.dg),(.int .i64 d.ex)] (.tuple #[(.int .i64 v),(.int .i64 x)]))(H1:Same w0 44 #[(.agg #[(.bool false),(.bool d.long),(.string d.dg),(.int .i64 d.ex),(.int .i64 d.sig),(.string d.mo),(.string ⟨#[]⟩),(.int .u8 d.m0),(.int .u8 d.m1),(.int .u8 d.m2)])] (.int .i64 code))(H2:Same w0 72 #[(.int .i64 v)] (.int .i64 a))(H3:Same w0 72 #[(.int .i64 (IntKind.i64.wrap (v+1)))] (.int .i64 b))(H4:Same w0 75 #[(.string d.mo)] (.int .i64 n))(H5:Same w0 74 #[(.int .i64 v),(.int .i64 n)] (.int .i64 c))(H6:Same w0 74 #[(.int .i64 v),(.int .i64 (IntKind.i64.wrap (n+1)))] (.int .i64 g)):Same w0 48 #[(.agg #[(.bool false),(.bool d.long),(.string d.dg),(.int .i64 d.ex),(.int .i64 d.sig),(.string d.mo),(.string ⟨#[]⟩),(.int .u8 d.m0),(.int .u8 d.m1),(.int .u8 d.m2)])] (cond (d.mo.toList==(⟨#[]⟩:ByteArray).toList) (.tuple #[(.int .i64 a),(.int .i64 (IntKind.i64.wrap (b - 1)))]) (cond (decide (0<code)) (.bool false) (.tuple #[(.int .i64 c),(.int .i64 (IntKind.i64.wrap (g - 1)))]))):=
 aJ (XC (.agg #[.bool d.long,.string d.dg,.int .i64 d.ex,.int .i64 d.sig,.string d.mo,.int .u8 d.m0,.int .u8 d.m1,.int .u8 d.m2,.int .i64 v,.int .i64 x,.int .i64 code,.int .i64 a,.int .i64 b,.int .i64 n,.int .i64 c,.int .i64 g])) (aN w0) (iD w0) .nil (.cons H0 (.cons H1 (.cons H2 (.cons H3 (.cons H4 (.cons H5 (.cons H6 .nil))))))) (bT (by kernel_rfl:_=((((d.mo.toList==(⟨#[]⟩:ByteArray).toList)=true->True)/\((d.mo.toList==(⟨#[]⟩:ByteArray).toList)=false->(((decide (0<code))=true->False)/\((decide (0<code))=false->True)))))) (⟨fun h0=>trivial,fun h0=>⟨fun h1=>(by simp only[aFy,aB1,aEv,aCk]at *;omega),fun h1=>trivial⟩⟩)) (by kernel_rfl)
def aCf:DT:=(.node 2 (qs 4) (.v (.string ⟨#[]⟩)) (.leaf aJG) (.node 1 qz (qi 11) DT.no (.node 2 (qs 5) (.v (.string ⟨#[]⟩)) (.leaf (.dG [(qi 15),aRc])) (.leaf (.dG [yx4,yx4])))))
theorem XE(l:Value):aCf.ok tb0 l [] [(71,[(qs 1),(qi 2)],.dG [(qi 9),(qi 10)]),(44,[.agg aJF],(qi 11)),(72,[(qi 9)],(qi 12)),(72,yx7,(qi 13)),(75,[(qs 4)],(qi 14)),(74,[(qi 9),(qi 14)],(qi 15)),(74,[(qi 9),aX 1 .i64 [(qi 14),.v (.int .i64 1)]],(qi 16)),(75,[(qs 5)],(qi 17))] .nil 60 LG 48 [.agg aJF] []=true:=by kernel_rfl
theorem aFP(d:Dt)(v:Int)(x:Int)(code:Int)(a:Int)(b:Int)(n:Int)(c:Int)(g:Int)(k:Int)(w0:World)(hc:code<=0)(H0:Same w0 71 #[(.string d.dg),(.int .i64 d.ex)] (.tuple #[(.int .i64 v),(.int .i64 x)]))(H1:Same w0 44 #[(.agg #[(.bool false),(.bool d.long),(.string d.dg),(.int .i64 d.ex),(.int .i64 d.sig),(.string d.mo),(.string d.da),(.int .u8 d.m0),(.int .u8 d.m1),(.int .u8 d.m2)])] (.int .i64 code))(H2:Same w0 72 #[(.int .i64 v)] (.int .i64 a))(H3:Same w0 72 #[(.int .i64 (IntKind.i64.wrap (v+1)))] (.int .i64 b))(H4:Same w0 75 #[(.string d.mo)] (.int .i64 n))(H5:Same w0 74 #[(.int .i64 v),(.int .i64 n)] (.int .i64 c))(H6:Same w0 74 #[(.int .i64 v),(.int .i64 (IntKind.i64.wrap (n+1)))] (.int .i64 g))(H7:Same w0 75 #[(.string d.da)] (.int .i64 k)):Same w0 48 #[(.agg #[(.bool false),(.bool d.long),(.string d.dg),(.int .i64 d.ex),(.int .i64 d.sig),(.string d.mo),(.string d.da),(.int .u8 d.m0),(.int .u8 d.m1),(.int .u8 d.m2)])] (cond (d.mo.toList==(⟨#[]⟩:ByteArray).toList) (.tuple #[(.int .i64 a),(.int .i64 (IntKind.i64.wrap (b - 1)))]) (cond (decide (0<code)) (.bool false) (cond (d.da.toList==(⟨#[]⟩:ByteArray).toList) (.tuple #[(.int .i64 c),(.int .i64 (IntKind.i64.wrap (g - 1)))]) (.tuple #[(.int .i64 (IntKind.i64.wrap ((IntKind.i64.wrap (c+k)) - 1))),(.int .i64 (IntKind.i64.wrap ((IntKind.i64.wrap (c+k)) - 1)))])))):=
 aJ (XE (.agg #[.bool d.long,.string d.dg,.int .i64 d.ex,.int .i64 d.sig,.string d.mo,.string d.da,.int .u8 d.m0,.int .u8 d.m1,.int .u8 d.m2,.int .i64 v,.int .i64 x,.int .i64 code,.int .i64 a,.int .i64 b,.int .i64 n,.int .i64 c,.int .i64 g,.int .i64 k])) (aN w0) (iD w0) .nil (.cons H0 (.cons H1 (.cons H2 (.cons H3 (.cons H4 (.cons H5 (.cons H6 (.cons H7 .nil)))))))) (bT (by kernel_rfl:_=((((d.mo.toList==(⟨#[]⟩:ByteArray).toList)=true->True)/\((d.mo.toList==(⟨#[]⟩:ByteArray).toList)=false->(((decide (0<code))=true->False)/\((decide (0<code))=false->(((d.da.toList==(⟨#[]⟩:ByteArray).toList)=true->True)/\((d.da.toList==(⟨#[]⟩:ByteArray).toList)=false->True)))))))) (⟨fun h0=>trivial,fun h0=>⟨fun h1=>(by simp only[aFy,aB1,aEv,aCk]at *;omega),fun h1=>⟨fun h2=>trivial,fun h2=>trivial⟩⟩⟩)) (by kernel_rfl)
def aCa:DT:=(.leaf aJH)
theorem WZ(l:Value):aCa.ok tb0 l [] [(71,[(qs 1),(qi 2)],.dG [(qi 8),(qi 9)]),(44,[.agg aQ7],(qi 10)),(72,[aX 2 .i64 [qz,(qi 8)]],(qi 11)),(72,[aX 1 .i64 aRb],(qi 12))] .nil 60 LG 48 [.agg aQ7] []=true:=by kernel_rfl
theorem aFK(d:Dt)(v:Int)(x:Int)(code:Int)(a:Int)(b:Int)(w0:World) (H0:Same w0 71 #[(.string d.dg),(.int .i64 d.ex)] (.tuple #[(.int .i64 v),(.int .i64 x)]))(H1:Same w0 44 #[(.agg #[(.bool true),(.bool d.long),(.string d.dg),(.int .i64 d.ex),(.int .i64 d.sig),(.string ⟨#[]⟩),(.string d.da),(.int .u8 d.m0),(.int .u8 d.m1),(.int .u8 d.m2)])] (.int .i64 code))(H2:Same w0 72 #[(.int .i64 (IntKind.i64.wrap (0 - v)))] (.int .i64 a))(H3:Same w0 72 #[(.int .i64 (IntKind.i64.wrap ((IntKind.i64.wrap (0 - v))+1)))] (.int .i64 b)):Same w0 48 #[(.agg #[(.bool true),(.bool d.long),(.string d.dg),(.int .i64 d.ex),(.int .i64 d.sig),(.string ⟨#[]⟩),(.string d.da),(.int .u8 d.m0),(.int .u8 d.m1),(.int .u8 d.m2)])] (.tuple #[(.int .i64 a),(.int .i64 (IntKind.i64.wrap (b - 1)))]):=
 aJ (WZ (.agg #[.bool d.long,.string d.dg,.int .i64 d.ex,.int .i64 d.sig,.string d.da,.int .u8 d.m0,.int .u8 d.m1,.int .u8 d.m2,.int .i64 v,.int .i64 x,.int .i64 code,.int .i64 a,.int .i64 b])) (aN w0) (iD w0) .nil (.cons H0 (.cons H1 (.cons H2 (.cons H3 .nil)))) (aS (by kernel_rfl)) (by kernel_rfl)
def aCc:DT:=(.node 2 (qs 4) (.v (.string ⟨#[]⟩)) (.leaf aJG) (.node 1 qz (qi 11) (.leaf (.dG [(qi 16),aRe])) DT.no))
theorem XB(l:Value):aCc.ok tb0 l [] [(71,[(qs 1),(qi 2)],.dG [(qi 9),(qi 10)]),(44,[.agg aJE],(qi 11)),(72,[aX 2 .i64 [qz,(qi 9)]],(qi 12)),(72,[aX 1 .i64 aRa],(qi 13)),(73,[(qi 11)],.dG [(qi 14),(qi 15)]),(74,[aX 2 .i64 [qz,(qi 9)],(qi 14)],(qi 16)),(74,[aX 2 .i64 [qz,(qi 9)],aX 1 .i64 [(qi 14),(qi 15)]],(qi 17))] .nil 60 LG 48 [.agg aJE] []=true:=by kernel_rfl
theorem aFM(d:Dt)(v:Int)(x:Int)(code:Int)(a:Int)(b:Int)(f:Int)(n:Int)(c:Int)(g:Int)(w0:World)(hc:1<=code)(H0:Same w0 71 #[(.string d.dg),(.int .i64 d.ex)] (.tuple #[(.int .i64 v),(.int .i64 x)]))(H1:Same w0 44 #[(.agg #[(.bool true),(.bool d.long),(.string d.dg),(.int .i64 d.ex),(.int .i64 d.sig),(.string d.mo),(.string d.da),(.int .u8 d.m0),(.int .u8 d.m1),(.int .u8 d.m2)])] (.int .i64 code))(H2:Same w0 72 #[(.int .i64 (IntKind.i64.wrap (0 - v)))] (.int .i64 a))(H3:Same w0 72 #[(.int .i64 (IntKind.i64.wrap ((IntKind.i64.wrap (0 - v))+1)))] (.int .i64 b))(H4:Same w0 73 #[(.int .i64 code)] (.tuple #[(.int .i64 f),(.int .i64 n)]))(H5:Same w0 74 #[(.int .i64 (IntKind.i64.wrap (0 - v))),(.int .i64 f)] (.int .i64 c))(H6:Same w0 74 #[(.int .i64 (IntKind.i64.wrap (0 - v))),(.int .i64 (IntKind.i64.wrap (f+n)))] (.int .i64 g)):Same w0 48 #[(.agg #[(.bool true),(.bool d.long),(.string d.dg),(.int .i64 d.ex),(.int .i64 d.sig),(.string d.mo),(.string d.da),(.int .u8 d.m0),(.int .u8 d.m1),(.int .u8 d.m2)])] (cond (d.mo.toList==(⟨#[]⟩:ByteArray).toList) (.tuple #[(.int .i64 a),(.int .i64 (IntKind.i64.wrap (b - 1)))]) (cond (decide (0<code)) (.tuple #[(.int .i64 c),(.int .i64 (IntKind.i64.wrap (g - 1)))]) (.bool false))):=
 aJ (XB (.agg #[.bool d.long,.string d.dg,.int .i64 d.ex,.int .i64 d.sig,.string d.mo,.string d.da,.int .u8 d.m0,.int .u8 d.m1,.int .u8 d.m2,.int .i64 v,.int .i64 x,.int .i64 code,.int .i64 a,.int .i64 b,.int .i64 f,.int .i64 n,.int .i64 c,.int .i64 g])) (aN w0) (iD w0) .nil (.cons H0 (.cons H1 (.cons H2 (.cons H3 (.cons H4 (.cons H5 (.cons H6 .nil))))))) (bT (by kernel_rfl:_=((((d.mo.toList==(⟨#[]⟩:ByteArray).toList)=true->True)/\((d.mo.toList==(⟨#[]⟩:ByteArray).toList)=false->(((decide (0<code))=true->True)/\((decide (0<code))=false->False)))))) (⟨fun h0=>trivial,fun h0=>⟨fun h1=>trivial,fun h1=>(by simp only[aFy,aB1,aEv,aCk]at *;omega)⟩⟩)) (by kernel_rfl)
def aCe:DT:=(.node 2 (qs 4) (.v (.string ⟨#[]⟩)) (.leaf aJH) (.node 1 qz (qi 10) DT.no (.leaf (.dG [(qi 14),aRd]))))
theorem XD(l:Value):aCe.ok tb0 l [] [(71,[(qs 1),(qi 2)],.dG [(qi 8),(qi 9)]),(44,[.agg aQ6],(qi 10)),(72,[aX 2 .i64 [qz,(qi 8)]],(qi 11)),(72,[aX 1 .i64 aRb],(qi 12)),(75,[(qs 4)],(qi 13)),(74,[aX 2 .i64 [qz,(qi 8)],(qi 13)],(qi 14)),(74,[aX 2 .i64 [qz,(qi 8)],aX 1 .i64 [(qi 13),.v (.int .i64 1)]],(qi 15))] .nil 60 LG 48 [.agg aQ6] []=true:=by kernel_rfl
theorem aFO(d:Dt)(v:Int)(x:Int)(code:Int)(a:Int)(b:Int)(n:Int)(c:Int)(g:Int)(w0:World)(hc:code<=0)(H0:Same w0 71 #[(.string d.dg),(.int .i64 d.ex)] (.tuple #[(.int .i64 v),(.int .i64 x)]))(H1:Same w0 44 #[(.agg #[(.bool true),(.bool d.long),(.string d.dg),(.int .i64 d.ex),(.int .i64 d.sig),(.string d.mo),(.string ⟨#[]⟩),(.int .u8 d.m0),(.int .u8 d.m1),(.int .u8 d.m2)])] (.int .i64 code))(H2:Same w0 72 #[(.int .i64 (IntKind.i64.wrap (0 - v)))] (.int .i64 a))(H3:Same w0 72 #[(.int .i64 (IntKind.i64.wrap ((IntKind.i64.wrap (0 - v))+1)))] (.int .i64 b))(H4:Same w0 75 #[(.string d.mo)] (.int .i64 n))(H5:Same w0 74 #[(.int .i64 (IntKind.i64.wrap (0 - v))),(.int .i64 n)] (.int .i64 c))(H6:Same w0 74 #[(.int .i64 (IntKind.i64.wrap (0 - v))),(.int .i64 (IntKind.i64.wrap (n+1)))] (.int .i64 g)):Same w0 48 #[(.agg #[(.bool true),(.bool d.long),(.string d.dg),(.int .i64 d.ex),(.int .i64 d.sig),(.string d.mo),(.string ⟨#[]⟩),(.int .u8 d.m0),(.int .u8 d.m1),(.int .u8 d.m2)])] (cond (d.mo.toList==(⟨#[]⟩:ByteArray).toList) (.tuple #[(.int .i64 a),(.int .i64 (IntKind.i64.wrap (b - 1)))]) (cond (decide (0<code)) (.bool false) (.tuple #[(.int .i64 c),(.int .i64 (IntKind.i64.wrap (g - 1)))]))):=
 aJ (XD (.agg #[.bool d.long,.string d.dg,.int .i64 d.ex,.int .i64 d.sig,.string d.mo,.int .u8 d.m0,.int .u8 d.m1,.int .u8 d.m2,.int .i64 v,.int .i64 x,.int .i64 code,.int .i64 a,.int .i64 b,.int .i64 n,.int .i64 c,.int .i64 g])) (aN w0) (iD w0) .nil (.cons H0 (.cons H1 (.cons H2 (.cons H3 (.cons H4 (.cons H5 (.cons H6 .nil))))))) (bT (by kernel_rfl:_=((((d.mo.toList==(⟨#[]⟩:ByteArray).toList)=true->True)/\((d.mo.toList==(⟨#[]⟩:ByteArray).toList)=false->(((decide (0<code))=true->False)/\((decide (0<code))=false->True)))))) (⟨fun h0=>trivial,fun h0=>⟨fun h1=>(by simp only[aFy,aB1,aEv,aCk]at *;omega),fun h1=>trivial⟩⟩)) (by kernel_rfl)
def aCg:DT:=(.node 2 (qs 4) (.v (.string ⟨#[]⟩)) (.leaf aJG) (.node 1 qz (qi 11) DT.no (.node 2 (qs 5) (.v (.string ⟨#[]⟩)) (.leaf (.dG [(qi 15),aRc])) (.leaf (.dG [yx4,yx4])))))
theorem XF(l:Value):aCg.ok tb0 l [] [(71,[(qs 1),(qi 2)],.dG [(qi 9),(qi 10)]),(44,[.agg aJE],(qi 11)),(72,[aX 2 .i64 [qz,(qi 9)]],(qi 12)),(72,[aX 1 .i64 aRa],(qi 13)),(75,[(qs 4)],(qi 14)),(74,[aX 2 .i64 [qz,(qi 9)],(qi 14)],(qi 15)),(74,[aX 2 .i64 [qz,(qi 9)],aX 1 .i64 [(qi 14),.v (.int .i64 1)]],(qi 16)),(75,[(qs 5)],(qi 17))] .nil 60 LG 48 [.agg aJE] []=true:=by kernel_rfl
theorem aFQ(d:Dt)(v:Int)(x:Int)(code:Int)(a:Int)(b:Int)(n:Int)(c:Int)(g:Int)(k:Int)(w0:World)(hc:code<=0)(H0:Same w0 71 #[(.string d.dg),(.int .i64 d.ex)] (.tuple #[(.int .i64 v),(.int .i64 x)]))(H1:Same w0 44 #[(.agg #[(.bool true),(.bool d.long),(.string d.dg),(.int .i64 d.ex),(.int .i64 d.sig),(.string d.mo),(.string d.da),(.int .u8 d.m0),(.int .u8 d.m1),(.int .u8 d.m2)])] (.int .i64 code))(H2:Same w0 72 #[(.int .i64 (IntKind.i64.wrap (0 - v)))] (.int .i64 a))(H3:Same w0 72 #[(.int .i64 (IntKind.i64.wrap ((IntKind.i64.wrap (0 - v))+1)))] (.int .i64 b))(H4:Same w0 75 #[(.string d.mo)] (.int .i64 n))(H5:Same w0 74 #[(.int .i64 (IntKind.i64.wrap (0 - v))),(.int .i64 n)] (.int .i64 c))(H6:Same w0 74 #[(.int .i64 (IntKind.i64.wrap (0 - v))),(.int .i64 (IntKind.i64.wrap (n+1)))] (.int .i64 g))(H7:Same w0 75 #[(.string d.da)] (.int .i64 k)):Same w0 48 #[(.agg #[(.bool true),(.bool d.long),(.string d.dg),(.int .i64 d.ex),(.int .i64 d.sig),(.string d.mo),(.string d.da),(.int .u8 d.m0),(.int .u8 d.m1),(.int .u8 d.m2)])] (cond (d.mo.toList==(⟨#[]⟩:ByteArray).toList) (.tuple #[(.int .i64 a),(.int .i64 (IntKind.i64.wrap (b - 1)))]) (cond (decide (0<code)) (.bool false) (cond (d.da.toList==(⟨#[]⟩:ByteArray).toList) (.tuple #[(.int .i64 c),(.int .i64 (IntKind.i64.wrap (g - 1)))]) (.tuple #[(.int .i64 (IntKind.i64.wrap ((IntKind.i64.wrap (c+k)) - 1))),(.int .i64 (IntKind.i64.wrap ((IntKind.i64.wrap (c+k)) - 1)))])))):=
 aJ (XF (.agg #[.bool d.long,.string d.dg,.int .i64 d.ex,.int .i64 d.sig,.string d.mo,.string d.da,.int .u8 d.m0,.int .u8 d.m1,.int .u8 d.m2,.int .i64 v,.int .i64 x,.int .i64 code,.int .i64 a,.int .i64 b,.int .i64 n,.int .i64 c,.int .i64 g,.int .i64 k])) (aN w0) (iD w0) .nil (.cons H0 (.cons H1 (.cons H2 (.cons H3 (.cons H4 (.cons H5 (.cons H6 (.cons H7 .nil)))))))) (bT (by kernel_rfl:_=((((d.mo.toList==(⟨#[]⟩:ByteArray).toList)=true->True)/\((d.mo.toList==(⟨#[]⟩:ByteArray).toList)=false->(((decide (0<code))=true->False)/\((decide (0<code))=false->(((d.da.toList==(⟨#[]⟩:ByteArray).toList)=true->True)/\((d.da.toList==(⟨#[]⟩:ByteArray).toList)=false->True)))))))) (⟨fun h0=>trivial,fun h0=>⟨fun h1=>(by simp only[aFy,aB1,aEv,aCk]at *;omega),fun h1=>⟨fun h2=>trivial,fun h2=>trivial⟩⟩⟩)) (by kernel_rfl)
def aFc:DT:=(.node 0 (qi 10) qz (.node 0 (qi 11) qz (.leaf qz) (.node 1 qz (qi 12) (.leaf qz) (.leaf (.v (.int .i64 1))))) (.leaf qz))
theorem aAT(l:Value):aFc.ok tb0 l [] [(64,[.agg gY],(qi 10)),(70,[.agg gY],(qi 11)),(44,[.agg gY],(qi 12))] .nil 60 LG 66 [.agg gY] []=true:=by kernel_rfl
theorem aJP(d:Dt)(e:Int)(x:Int)(code:Int)(w0:World) (H0:Same w0 64 #[(eP d)] (.int .i64 e))(H1:Same w0 70 #[(eP d)] (.int .i64 x))(H2:Same w0 44 #[(eP d)] (.int .i64 code)):Same w0 66 #[(eP d)] (cond (e==0) (cond (x==0) (.int .i64 0) (cond (decide (0<code)) (.int .i64 0) (.int .i64 1))) (.int .i64 0)):=
 aJ (aAT (lv (dL d) [.int .i64 e,.int .i64 x,.int .i64 code])) (aN w0) (iD w0) .nil (.cons H0 (.cons H1 (.cons H2 .nil))) (aS (by kernel_rfl)) (by kernel_rfl)
def aFk:DT:=(.node 0 (qi 22) qz (.node 3 (qb 21) (qb 21) (.node 3 (qb 20) (qb 20) (.node 0 (qi 23) qz (.leaf (.v (.int .i64 10))) (.leaf qz)) (.leaf qz)) (.leaf (.v (.int .i64 5)))) (.leaf (qi 22)))
theorem aA1(l:Value):aFk.ok tb0 l [(30,.agg qV,.agg aJB,(qb 21))] [(64,[.agg gY],(qi 22)),(70,[.agg gY],(qi 23))] .nil 60 LG 65 [.agg [(qb 0),(qb 1),(qs 2),(qi 3),(qi 4),(qs 5),(qs 6),(qu 7),(qu 8),(qu 9),qf,(qb 10),(qb 11),(qs 12),(qi 13),(qi 14),(qs 15),(qs 16),(qu 17),(qu 18),(qu 19)],(qb 20)] []=true:=by kernel_rfl
theorem aCn(f t:Dt)(al:Bool)(zd:Bool)(e:Int)(x:Int)(w0:World)(hzd:IE 30 (eP t) (eP z0) zd)(H0:Same w0 64 #[(dV f)] (.int .i64 e))(H1:Same w0 70 #[(dV f)] (.int .i64 x)):Same w0 65 #[(iV f false t),(.bool al)] (cond (e==0) (cond zd (cond al (cond (x==0) (.int .i64 10) (.int .i64 0)) (.int .i64 0)) (.int .i64 5)) (.int .i64 e)):=
 aJ (aA1 (lv (dL f) (List.append (dL t) [.bool al,.bool zd,.int .i64 e,.int .i64 x]))) (aN w0) (iD w0) (.cons hzd (fun _ _ _=>⟨by kernel_rfl,by kernel_rfl⟩) .nil) (.cons H0 (.cons H1 .nil)) (aS (by kernel_rfl)) (by kernel_rfl)
def aFl:DT:=(.node 0 (qi 21) qz (.node 0 (qi 22) qz DT.no (.leaf (qi 22))) (.leaf (qi 21)))
theorem aA2(l:Value):aFl.ok tb0 l [] [(64,[.agg gY],(qi 21)),(64,[.agg qV],(qi 22))] .nil 60 LG 65 [.agg aDi,(qb 20)] []=true:=by kernel_rfl
theorem aJX(f t:Dt)(al:Bool)(e:Int)(g:Int)(w0:World)(hg:1<=g)(H0:Same w0 64 #[(dV f)] (.int .i64 e))(H1:Same w0 64 #[(dV t)] (.int .i64 g)):Same w0 65 #[(iV f true t),(.bool al)] (cond (e==0) (cond (g==0) (.bool false) (.int .i64 g)) (.int .i64 e)):=
 aJ (aA2 (lv (dL f) (List.append (dL t) [.bool al,.int .i64 e,.int .i64 g]))) (aN w0) (iD w0) .nil (.cons H0 (.cons H1 .nil)) (bT (by kernel_rfl:_=((((e==0)=true->(((g==0)=true->False)/\((g==0)=false->True)))/\((e==0)=false->True)))) (⟨fun h0=>⟨fun h1=>(by simp only[aFy,aB1,aEv,aCk]at *;omega),fun h1=>trivial⟩,fun h0=>trivial⟩)) (by kernel_rfl)
def aFm:DT:=(.node 0 (qi 21) qz DT.no (.leaf (qi 21)))
theorem aA3(l:Value):aFm.ok tb0 l [] [(64,[.agg gY],(qi 21))] .nil 60 LG 65 [.agg aDi,(qb 20)] []=true:=by kernel_rfl
theorem aJY(f t:Dt)(al:Bool)(e:Int)(w0:World)(he:1<=e)(H0:Same w0 64 #[(dV f)] (.int .i64 e)):Same w0 65 #[(iV f true t),(.bool al)] (cond (e==0) (.bool false) (.int .i64 e)):=
 aJ (aA3 (lv (dL f) (List.append (dL t) [.bool al,.int .i64 e]))) (aN w0) (iD w0) .nil (.cons H0 .nil) (bT (by kernel_rfl:_=((((e==0)=true->False)/\((e==0)=false->True)))) (⟨fun h0=>(by simp only[aFy,aB1,aEv,aCk]at *;omega),fun h0=>trivial⟩)) (by kernel_rfl)
def aB8:DT:=(.leaf (.v (.int .i64 10)))
theorem WX(l:Value):aB8.ok tb0 l [] [(64,[.agg gY],qz),(64,[.agg qV],qz),(66,[.agg gY],qz),(66,[.agg qV],qz)] .nil 60 LG 65 [.agg aDi,(qb 20)] []=true:=by kernel_rfl
theorem aFI(f t:Dt)(al:Bool)(w0:World) (H0:Same w0 64 #[(dV f)] (.int .i64 0))(H1:Same w0 64 #[(dV t)] (.int .i64 0))(H2:Same w0 66 #[(dV f)] (.int .i64 0))(H3:Same w0 66 #[(dV t)] (.int .i64 0)):Same w0 65 #[(iV f true t),(.bool al)] (.int .i64 10):=
 aJ (WX (lv (dL f) (List.append (dL t) [.bool al]))) (aN w0) (iD w0) .nil (.cons H0 (.cons H1 (.cons H2 (.cons H3 .nil)))) (aS (by kernel_rfl)) (by kernel_rfl)
def aB7:DT:=(.leaf (.v (.int .i64 10)))
theorem WV(l:Value):aB7.ok tb0 l [] [(64,[.agg gY],qz),(64,[.agg qV],qz),(66,[.agg gY],qz),(66,[.agg qV],.v (.int .i64 1))] .nil 60 LG 65 [.agg aDi,(qb 20)] []=true:=by kernel_rfl
theorem aFH(f t:Dt)(al:Bool)(w0:World) (H0:Same w0 64 #[(dV f)] (.int .i64 0))(H1:Same w0 64 #[(dV t)] (.int .i64 0))(H2:Same w0 66 #[(dV f)] (.int .i64 0))(H3:Same w0 66 #[(dV t)] (.int .i64 1)):Same w0 65 #[(iV f true t),(.bool al)] (.int .i64 10):=
 aJ (WV (lv (dL f) (List.append (dL t) [.bool al]))) (aN w0) (iD w0) .nil (.cons H0 (.cons H1 (.cons H2 (.cons H3 .nil)))) (aS (by kernel_rfl)) (by kernel_rfl)
def aFj:DT:=(.leaf (.v (.int .i64 10)))
theorem aA0(l:Value):aFj.ok tb0 l [] [(64,[.agg gY],qz),(64,[.agg qV],qz),(66,[.agg gY],.v (.int .i64 1)),(66,[.agg qV],qz)] .nil 60 LG 65 [.agg aDi,(qb 20)] []=true:=by kernel_rfl
theorem aJW(f t:Dt)(al:Bool)(w0:World) (H0:Same w0 64 #[(dV f)] (.int .i64 0))(H1:Same w0 64 #[(dV t)] (.int .i64 0))(H2:Same w0 66 #[(dV f)] (.int .i64 1))(H3:Same w0 66 #[(dV t)] (.int .i64 0)):Same w0 65 #[(iV f true t),(.bool al)] (.int .i64 10):=
 aJ (aA0 (lv (dL f) (List.append (dL t) [.bool al]))) (aN w0) (iD w0) .nil (.cons H0 (.cons H1 (.cons H2 (.cons H3 .nil)))) (aS (by kernel_rfl)) (by kernel_rfl)
def aFi:DT:=(.node 0 (qi 21) (qi 22) (.node 1 (qi 26) (qi 24) (.leaf (.v (.int .i64 10))) (.node 3 (qb 20) (qb 20) (.node 0 (qi 23) qz (.leaf (.v (.int .i64 10))) (.leaf qz)) (.leaf qz))) (.leaf (.v (.int .i64 10))))
theorem aAZ(l:Value):aFi.ok tb0 l [] [(64,[.agg gY],qz),(64,[.agg qV],qz),(66,[.agg gY],.v (.int .i64 1)),(66,[.agg qV],.v (.int .i64 1)),(46,[.agg gY],(qi 21)),(46,[.agg qV],(qi 22)),(48,[.agg gY],.dG [(qi 24),(qi 25)]),(48,[.agg qV],.dG [(qi 26),(qi 27)]),(70,[.agg gY],(qi 23))] .nil 60 LG 65 [.agg aDi,(qb 20)] []=true:=by kernel_rfl
theorem aJV(f t:Dt)(al:Bool)(cx:Int)(cw:Int)(x:Int)(a:Int)(b:Int)(u:Int)(v:Int)(w0:World) (H0:Same w0 64 #[(dV f)] (.int .i64 0))(H1:Same w0 64 #[(dV t)] (.int .i64 0))(H2:Same w0 66 #[(dV f)] (.int .i64 1))(H3:Same w0 66 #[(dV t)] (.int .i64 1))(H4:Same w0 46 #[(dV f)] (.int .i64 cx))(H5:Same w0 46 #[(dV t)] (.int .i64 cw))(H6:Same w0 48 #[(dV f)] (.tuple #[(.int .i64 a),(.int .i64 b)]))(H7:Same w0 48 #[(dV t)] (.tuple #[(.int .i64 u),(.int .i64 v)]))(H8:Same w0 70 #[(dV f)] (.int .i64 x)):Same w0 65 #[(iV f true t),(.bool al)] (cond (cx==cw) (cond (decide (u<a)) (.int .i64 10) (cond al (cond (x==0) (.int .i64 10) (.int .i64 0)) (.int .i64 0))) (.int .i64 10)):=
 aJ (aAZ (lv (dL f) (List.append (dL t) [.bool al,.int .i64 cx,.int .i64 cw,.int .i64 x,.int .i64 a,.int .i64 b,.int .i64 u,.int .i64 v]))) (aN w0) (iD w0) .nil (.cons H0 (.cons H1 (.cons H2 (.cons H3 (.cons H4 (.cons H5 (.cons H6 (.cons H7 (.cons H8 .nil))))))))) (aS (by kernel_rfl)) (by kernel_rfl)
end Sk
end
section
namespace Bk
theorem sH{s:ByteArray}{l:List UInt8}(h:s.data.toList=l)(i:Nat):bH s i=((l.getD i 0).toNat:Int):=by unfold bH;rw[h]
theorem aBZ{s t:ByteArray}(h:s.data.toList=t.data.toList):s=t:=by
 cases s with|mk a=>cases t with|mk b=>exact aQA _ (aQU h)
theorem yX(s t:ByteArray):(s.toList==t.toList)=decide (s=t):=by
 rw[a1c,a1c,aQP,aFy,aNt];exact⟨fun h=>aBZ h,fun h=>by rw[h]⟩
def twoS(n:Nat):ByteArray:=⟨#[UInt8.ofNat (48+n / 10),UInt8.ofNat (48+n % 10)]⟩
theorem aFW{n:Nat}(h:n<=99):bH (twoS n) 0=48+(n:Int) / 10:=by
 show((UInt8.ofNat (48+n / 10)).toNat:Int)=_;rw[aVS];omega
theorem aFV{n:Nat}(h:n<=99):bH (twoS n) 1=48+(n:Int) % 10:=by
 show((UInt8.ofNat (48+n % 10)).toNat:Int)=_;rw[aVS];omega
theorem aJ8{s:ByteArray}{n:Nat}(h:n<=99):s=twoS n↔(s.size=2/\bH s 0=48+(n:Int) / 10/\bH s 1=48+(n:Int) % 10):=by
 constructor
 . rintro rfl;exact⟨rfl,aFW h,aFV h⟩
 rintro⟨h2,h0,h1⟩;obtain⟨a,b,e,e0,e1⟩:=rG h2;apply aBZ;rw[e];show[a,b]=[_,_];have ha:a=UInt8.ofNat (48+n / 10):=by apply a1F;rw[aVS];omega
 have hb:b=UInt8.ofNat (48+n % 10):=by apply a1F;rw[aVS];omega
 rw[ha,hb]
theorem U3{s:ByteArray}{n:Nat}(h0:21<=n)(h1:n<=41):s=twoS n↔gZ s=n:=by
 rw[aJ8 (by omega)];unfold gZ;constructor
 . rintro⟨a,b,c⟩;rw[aFw (by omega)];omega
 intro h
 split at h
 . omega
 omega
theorem aJ7: ∀n:Nat,n<100->(YS.extract (n / 10) (n / 10+1)++YS.extract (n % 10) (n % 10+1))=twoS n:=by decide
def YF(neg long:Bool)(D X Z sz b0 ex sig m R:Int):Prop:=
 (D+X≠sz\/sig<0->R=0)/\
 (D+X=sz->0<=sig->long=false->(sz≠4\/ex≠0\/(neg=true/\Z=4)\/4<sig\/(0<sig/\0<X))->R=0)/\
 (D+X=sz->0<=sig->long=false->sz=4->ex=0->(neg=true->Z≠4)->sig<=4->(sig<=0\/X<=0)->R=1)/\
 (D+X=sz->0<=sig->long=true->(0<X\/D<1\/17<D\/b0=48\/ex<0\/16<ex\/(ex=0/\D<5)\/D+ex<sig)->R=0)/\
 (D+X=sz->0<=sig->long=true->X<=0->1<=D->D<=17->b0≠48->0<=ex->ex<=16->(ex≠0\/5<=D)->sig<=D+ex->(m<=10000000000000000->R=1)/\(10000000000000000<m->R=0))
theorem yF(neg long:Bool)(s:ByteArray)(ex sig:Int):YF neg long (mW 48 57 s) (mW 88 88 s) (mW 48 48 s) s.size (bH s 0) ex sig (iH s ex) (if OJ neg long s ex sig then 1 else 0):=by
 have hd:=YR s;have hx:=aFG s;have hz:=aQ1 s;have hp:=CV 88 88 s;have hdd:allB eU s=true->(hasB 88 s=false↔allB bM s=true):=fun h=>oO h;have hdx:allB bM s=true->allB eU s=true:=fun h=>L8 h;generalize mW 48 57 s=D at *;generalize mW 88 88 s=X at *;generalize mW 48 48 s=Z at *;have no: ∀ {b:Bool},b=false->(if b then(1:Int)else 0)=0:=fun h=>by rw[h];rfl
 have yes: ∀ {b:Bool},b=true->(if b then(1:Int)else 0)=1:=fun h=>by rw[h];rfl
 refine⟨fun h=>no ?_,fun h1 h2 h3 h=>no ?_,fun h1 h2 h3 h4 h5 h6 h7 h8=>yes ?_,fun h1 h2 h3 h=>no ?_,fun h1 h2 h3 h4 h5 h6 h7 h8 h9 h10 h11=>?_⟩
 . rw[aNn];intro hk
   cases long
   . obtain⟨a1,a2,a3,a4,a5,a6,a7⟩:=jT hk;have:=hd.2 a2;omega
   obtain⟨a1,a2,a3,a4,a5,a6,a7,a8,a9⟩:=kW hk;have:=hd.2 (hdx a3);omega
 . subst h3;rw[aNn];intro hk;obtain⟨a1,a2,a3,a4,a5,a6,a7⟩:=jT hk;rcases h with h|h|⟨h,g⟩|h|⟨h,g⟩
   . omega
   . omega
   . have:=(hz a1).1 g;rw[a4 h]at this;cases this
   . omega
   have:=hx.1 g;rw[a5 (by omega)]at this;cases this
 . subst h3;have e4:s.size=4:=by omega
   unfold OJ iP;rw[aEy e4,hd.1 h1,aEy h5,aEy h2,aEy (show sig<=s.size+ex by omega)];have n1:(neg&&allB isZ s)=false:=by
    cases hn:neg
    . rfl
    have:=h6 hn
    cases ha:allB isZ s
    . rfl
    exact absurd ((hz e4).2 ha) this
   have n2:(!decide (sig=0)&&hasB 88 s)=false:=by
    rcases h8 with h|h
    . rw[aEy (show sig=0 by omega)];rfl
    cases ha:hasB 88 s
    . simp
    have:=hx.2 ha;omega
   rw[n1,n2];rfl
 . subst h3;rw[aNn];intro hk;obtain⟨a1,a2,a3,a4,a5,a6,a7,a8,a9⟩:=kW hk;have hX:hasB 88 s=false:=(hdd (hdx a3)).2 a3;have nX: ¬ 0<X:=fun c=>by rw[hx.1 c]at hX;cases hX
   have:=hd.2 (hdx a3);have e5: ¬(ex=0/\s.size<5):=by
    rintro⟨c1,c2⟩;unfold OJ gK at hk;simp[c1,c2]at hk
   omega
 subst h3;have hX:hasB 88 s=false:=by
  cases ha:hasB 88 s
  . rfl
  have:=hx.2 ha;omega
 have ax:=hd.1 h1;have ad:=(hdd ax).1 hX;have:OJ neg true s ex sig=decide (iH s ex<=10000000000000000):=by
  unfold OJ gK;have q:(decide (ex=0)&&decide (s.size<5))=false:=by
   rw[aNn];intro c;simp at c;omega
  rw[q,ad];simp[h7,h8,h9,h2,show 1<=s.size by omega,show s.size<=17 by omega,show sig<=s.size+ex by omega]
 rw[this];refine⟨fun c=>by rw[aEy c];rfl,fun c=>by rw[aEm (by omega)];rfl⟩
def NZ(s:ByteArray)(x:UInt8):Nat->ByteArray
 |0=>⟨#[]⟩
 |k+1=>NZ s x k++(if bH s k=88 then⟨#[x]⟩else s.extract k (k+1))
theorem KE(s:ByteArray)(x:UInt8)(k:Nat):NZ s x (k+1)=NZ s x k++(if bH s k=88 then⟨#[x]⟩else s.extract k (k+1)):=rfl
end Bk
end
section
open Go.RowKit Go.Lib
namespace Bk
open Un (ba bt ri rb dO eY)
theorem GL(s:ByteArray)(a b:Int)(w:World)(hs:s.size<=maxLen):
 Calls Tryz.prog 111 #[.string s,.int .u8 a,.int .u8 b] w fun r w'=>r=.returned (.int .i64 (mW a b s))/\w=w':=by
 unfold maxLen at hs;unfold mW
 go_enter Tryz.func111,Tryz.ntmps111
 go_wp2
 go_loop [7,8] (fun n i=> ∃k:Nat,k<=s.size/\i=.int .i64 k/\n=.int .i64 (qJ a b (s.data.toList.take k))) (fun _ i=>s.size - (intOf i).toNat)
 case atStart=>exact⟨0,aLm _,rfl,rfl⟩
 case round=>
  obtain⟨k,hk,rfl,rfl⟩:=hrel;have hd:=G6 a b (s.data.toList.take k);have hl:(s.data.toList.take k).length<=k:=List.length_take_le _ _
  by_cases hlt:k<s.size
  . have hsn:=aES a b (s.data.toList.take k) s[k];have hts:=take_snoc s k hlt;have HS:Hid (qJ a b (s.data.toList.take (k+1))=qJ a b (s.data.toList.take k)+if a<=(s[k].toNat:Int)/\(s[k].toNat:Int)<=b then 1 else 0):=ZU (by rw[hts];exact hsn);clear hsn hts
    go_wp2
    all_goals
     go_round
     case rel=>exact⟨k+1,by omega,by go_num,by rw[HS.out];first|rw[aFw ⟨‹_›,‹_›⟩]|(rw[aFv (by omega)];go_num)⟩
     case measure=>simp[intOf];omega
  go_wp2
  go_ret
  exact⟨ri (by rw[aVR (by simp;omega)]),rfl⟩
theorem vW(neg long:Bool)(s:ByteArray)(ex sig:Int)(w:World)(hs:s.size<=maxLen):
 Calls Tryz.prog 196 #[.agg #[.bool neg,.bool long,.string s,.int .i64 ex,.int .i64 sig]] w fun r w'=>r=.returned (.int .i64 (if hasB 88 s then 1 else 0))/\Below w.heap.size w w':=by
 have HH:=fun w=>GL s 88 88 w hs;have hx:=aFG s;have hp:=(CV 88 88 s).1;obtain⟨R,hR⟩: ∃R:Int,R=if hasB 88 s then 1 else 0:=⟨_,rfl⟩
 rw[<-hR];have hR2:(0<mW 88 88 s->R=1)/\(mW 88 88 s<=0->R=0):=by
  refine⟨fun h=>by rw[hR,aFw (hx.1 h)],fun h=>by rw[hR,aFv (fun c=>by have:=hx.2 c;omega)]⟩
 generalize mW 88 88 s=n at *;have HX:=ZU hR2;replace HH:=ZU HH;clear hx hR hR2
 go_enter Tryz.func196,Tryz.ntmps196
 go_wp2_with (go_at_call 111;with_reducible refine(HH.out _).mono ?_;rintro _ w' ⟨rfl,rfl⟩)
 all_goals go_ret
 all_goals refine⟨ri ?_,ba (aDl _ _) _⟩
 all_goals have:=HX.out
 all_goals omega
def pU(m:Int):Int × Int:=if m<=10000000000000000 then(m,1)else(0,0)
theorem nC (s:ByteArray) (e:Nat) (w:World) (hs:s.size<=1000) (he:e<=1000) (hd:allB bM s=true):
 Calls Tryz.prog 71 #[.string s,.int .i64 e] w fun r w'=>r=.returned (.tuple #[.int .i64 (pU (iH s e)).1,.int .i64 (pU (iH s e)).2])/\w=w':=by
 have HD:=ZU hd;clear hd
 go_enter Tryz.func71,Tryz.ntmps71
 go_wp2
 go_loop [6,7] (fun n i=> ∃k:Nat,k<=s.size+e/\uZ s k<=10000000000000000/\i=.int .i64 k/\n=.int .i64 (uZ s k)) (fun _ i=>s.size+e - (intOf i).toNat)
 case atStart=>exact⟨0,aLm _,by rw[O7];omega,rfl,by rw[O7]⟩
 case round=>
  obtain⟨k,hk,hm,rfl,rfl⟩:=hrel;have hp:=XT s k
  by_cases hlt:k<s.size+e
  . by_cases hc:k<s.size
    . have hda:=aBL HD.out k hc;have HS:=ZU (XU HD.out k hc);obtain⟨d0,d1⟩:=hda
      go_wp2
      . go_ret2
        have h1:=HS.out;have h2:=D5 HD.out (k+1) (s.size+e - (k+1));rw[show k+1+(s.size+e - (k+1))=s.size+e by omega,KA]at h2;refine⟨?_,rfl⟩;unfold pU;rw[aFv (by omega)]
        rfl
      go_round
      case rel=>exact⟨k+1,by omega,by rw[HS.out];omega,by go_num,by rw[HS.out]⟩
      case measure=>simp[intOf];omega
    have HS:=ZU (XR s k (by omega))
    go_wp2
    . go_ret2
      have h1:=HS.out;have h2:=D5 HD.out (k+1) (s.size+e - (k+1));rw[show k+1+(s.size+e - (k+1))=s.size+e by omega,KA]at h2;refine⟨?_,rfl⟩;unfold pU;rw[aFv (by omega)]
      rfl
    go_round
    case rel=>exact⟨k+1,by omega,by rw[HS.out];omega,by go_num,by rw[HS.out]⟩
    case measure=>simp[intOf];omega
  obtain rfl:k=s.size+e:=by omega
  rw[KA]at hm hp ⊢
  go_wp2
  go_ret2
  refine⟨?_,rfl⟩;unfold pU;rw[aFw hm]
  rfl
theorem V3 (neg long:Bool) (s:ByteArray) (ex sig:Int) (w:World) (hs:s.size<=1000) (s0: -9223372036854775808<=sig) (s1:sig<9223372036854775808):
 Calls Tryz.prog 68 #[yv neg long s ex sig] w fun r w'=>r=.returned (.int .i64 (if OJ neg long s ex sig then 1 else 0))/\Below w.heap.size w w':=by
 have hF:=yF neg long s ex sig;have hY:=Ym.new neg long s ex sig w 27;have dd:=CV 48 57 s;have dx:=CV 88 88 s;have dz:=CV 48 48 s;have HD:=fun w=>GL s 48 57 w (by unfold maxLen;omega);have HX:=fun w=>GL s 88 88 w (by unfold maxLen;omega);have HZ:=fun w=>GL s 48 48 w (by unfold maxLen;omega);have HM: ∀(e:Nat) w,mW 48 57 s+mW 88 88 s=s.size->mW 88 88 s<=0->e<=1000->Calls Tryz.prog 71 #[.string s,.int .i64 e] w fun r w'=>r=.returned (.tuple #[.int .i64 (pU (iH s e)).1,.int .i64 (pU (iH s e)).2])/\w=w':=fun e w h1 h2 h3=>
  nC s e w hs h3 (by
   have ax:=(YR s).1 h1;refine(oO ax).1 ?_
   cases ha:hasB 88 s
   . rfl
   have:=(aFG s).2 ha;omega)
 have hl0:1<=mW 48 57 s->0<s.size:=fun h=>by omega
 have hb0: ∀h:0<s.size,((s[0]'h).toNat:Int)=bH s 0:=fun h=>(bU s 0 h).symm;generalize (if OJ neg long s ex sig then(1:Int)else 0)=R at *;generalize mW 48 57 s=D at *;generalize mW 88 88 s=X at *;generalize mW 48 48 s=Z at *;generalize bH s 0=b0 at *;replace HD:=ZU HD;replace HX:=ZU HX;replace HZ:=ZU HZ;replace HM:=ZU HM;unfold YF at hF;unfold yv;have HB0:=ZU hb0;clear hb0
 cases long
 . have HF:Hid _:=ZU hF;clear hF HM
   go_enter Tryz.func68,Tryz.ntmps68
   go_upto_region 1 with(fail)
   generalize w.alloc (.cells #[.bool neg,.bool false,.string s,.int .i64 ex,.int .i64 sig] 27)=W0 at hY ⊢;obtain⟨q0,q1,q2,q3,q4,qB⟩:=id hY
   go_cut [3,4] (fun s3 s4 wx=>s3=.int .i64 D/\s4=.int .i64 X/\Ym w.heap.size neg false s ex sig w wx)
   case first=>
    go_region_with (go_at_call 111;first|(with_reducible refine(HD.out _).mono ?_;rintro _ w' ⟨rfl,rfl⟩)|(with_reducible refine(HX.out _).mono ?_;rintro _ w' ⟨rfl,rfl⟩))
    all_goals (go_wp2_with fail)
    all_goals (go_meet;exact⟨rfl,rfl,by first|exact hY|exact hY.drew'|exact hY.drew'.drew'⟩)
   case rest=>
    obtain⟨rfl,rfl,hY⟩:=hcut;clear q0 q1 q2 q3 q4 qB;obtain⟨q0,q1,q2,q3,q4,qB⟩:=id hY
    cases neg
    all_goals
     go_wp2_with (go_at_call 111;with_reducible refine(HZ.out _).mono ?_;rintro _ w' ⟨rfl,rfl⟩)
     all_goals go_ret
     all_goals refine⟨ri ?_,hY.below⟩
     all_goals have hF:=HF.out
     all_goals simp only[aV5,reduceCtorEq,aVW,aV4,aWt,a0I,a1e,aZQ,a1g,a1o]at hF
     all_goals try simp only[aFy]at *
     all_goals omega
 have HF:Hid _:=ZU hF;clear hF HZ
 go_enter Tryz.func68,Tryz.ntmps68
 go_upto_region 1 with(fail)
 generalize w.alloc (.cells #[.bool neg,.bool true,.string s,.int .i64 ex,.int .i64 sig] 27)=W0 at hY ⊢;obtain⟨q0,q1,q2,q3,q4,qB⟩:=id hY
 go_cut [3,4] (fun s3 s4 wx=>s3=.int .i64 D/\s4=.int .i64 X/\Ym w.heap.size neg true s ex sig w wx)
 case first=>
  go_region_with (go_at_call 111;first|(with_reducible refine(HD.out _).mono ?_;rintro _ w' ⟨rfl,rfl⟩)|(with_reducible refine(HX.out _).mono ?_;rintro _ w' ⟨rfl,rfl⟩))
  all_goals (go_wp2_with fail)
  all_goals (go_meet;exact⟨rfl,rfl,by first|exact hY|exact hY.drew'|exact hY.drew'.drew'⟩)
 case rest=>
  obtain⟨rfl,rfl,hY⟩:=hcut;clear q0 q1 q2 q3 q4 qB;obtain⟨q0,q1,q2,q3,q4,qB⟩:=id hY
  by_cases l0:0<s.size
  case neg=>
   clear HM
   go_wp2_with fail
   all_goals go_ret
   all_goals refine⟨ri ?_,hY.below⟩
   all_goals have hF:=HF.out
   all_goals simp only[aV5,reduceCtorEq,aVW,aV4,aWt,a0I,a1e,aZQ,a1g,a1o]at hF
   all_goals try simp only[aFy]at *
   all_goals omega
  by_cases x0:0<=ex
  case neg=>
   clear HM
   go_wp2_with fail
   all_goals go_ret
   all_goals refine⟨ri ?_,hY.below⟩
   all_goals have hF:=HF.out
   all_goals have hB:=HB0.out l0
   all_goals simp only[aV5,reduceCtorEq,aVW,aV4,aWt,a0I,a1e,aZQ,a1g,a1o]at hF
   all_goals try simp only[aFy]at *
   all_goals omega
  obtain⟨e,rfl⟩: ∃e:Nat,ex=e:=⟨ex.toNat,by omega⟩;have HM2:=ZU (fun w h1 h2 h3=>HM.out e w h1 h2 h3);clear HM;generalize iH s e=m at *;rcases a1j e with rfl|e0
  . have HM3:Hid (∀w,D+X=s.size->X<=0->Calls Tryz.prog 71 #[.string s,.int .i64 0] w fun r w'=>r=.returned (.tuple #[.int .i64 (pU m).1,.int .i64 (pU m).2])/\w=w'):=ZU (fun w h1 h2=>HM2.out w h1 h2 (by omega));clear HM2
    by_cases hm:m<=10000000000000000
    . rw[show pU m=(m,1) by unfold pU;rw[aFw hm]]at HM3
      go_wp2_with (go_at_call 71;with_reducible refine(HM3.out _ (by omega) (by omega)).mono ?_;rintro _ w' ⟨rfl,rfl⟩)
      all_goals go_ret
      all_goals refine⟨ri ?_,hY.below⟩
      all_goals have hF:=HF.out
      all_goals have hB:=HB0.out l0
      all_goals simp only[aV5,reduceCtorEq,aVW,aV4,aWt,a0I,a1e,aZQ,a1g,a1o]at hF
      all_goals try simp only[aFy]at *
      all_goals omega
    rw[show pU m=(0,0) by unfold pU;rw[aFv hm]]at HM3
    go_wp2_with (go_at_call 71;with_reducible refine(HM3.out _ (by omega) (by omega)).mono ?_;rintro _ w' ⟨rfl,rfl⟩)
    all_goals go_ret
    all_goals refine⟨ri ?_,hY.below⟩
    all_goals have hF:=HF.out
    all_goals have hB:=HB0.out l0
    all_goals simp only[aV5,reduceCtorEq,aVW,aV4,aWt,a0I,a1e,aZQ,a1g,a1o]at hF
    all_goals try simp only[aFy]at *
    all_goals omega
  have e1: ¬(e:Int)=0:=by omega
  by_cases hm:m<=10000000000000000
  . rw[show pU m=(m,1) by unfold pU;rw[aFw hm]]at HM2
    go_wp2_with (go_at_call 71;with_reducible refine(HM2.out _ (by omega) (by omega) (by omega)).mono ?_;rintro _ w' ⟨rfl,rfl⟩)
    all_goals go_ret
    all_goals refine⟨ri ?_,hY.below⟩
    all_goals have hF:=HF.out
    all_goals have hB:=HB0.out l0
    all_goals simp only[aV5,reduceCtorEq,aVW,aV4,aWt,a0I,a1e,aZQ,a1g,a1o]at hF
    all_goals try simp only[aFy]at *
    all_goals omega
  rw[show pU m=(0,0) by unfold pU;rw[aFv hm]]at HM2
  go_wp2_with (go_at_call 71;with_reducible refine(HM2.out _ (by omega) (by omega) (by omega)).mono ?_;rintro _ w' ⟨rfl,rfl⟩)
  all_goals go_ret
  all_goals refine⟨ri ?_,hY.below⟩
  all_goals have hF:=HF.out
  all_goals have hB:=HB0.out l0
  all_goals simp only[aV5,reduceCtorEq,aVW,aV4,aWt,a0I,a1e,aZQ,a1g,a1o]at hF
  all_goals try simp only[aFy]at *
  all_goals omega
end Bk
end
section
open Go.RowKit Go.Lib
namespace Bk
open Un (ba bt ri rb dO eY)
theorem aPf{b:Nat->Int}{v:Int}(h0:0<=v):qI b v↔(nd v 4<=0/\ ∀j,j<4->b (3 - j)=88\/b (3 - j)=48+nd v j % 10):=by
 have e4:nd v 4=v / 10000:=rfl;constructor
 . rintro⟨_,h1,f0,f1,f2,f3⟩;refine⟨by omega,fun j hj=>?_⟩;have hf:=J3 v h0 h1 j hj;obtain rfl|rfl|rfl|rfl:j=0\/j=1\/j=2\/j=3:=by omega
   . have:=f3;unfold dI at this;rw[<-hf.2.2.2];exact this
   . have:=f2;unfold dI at this;rw[<-hf.2.2.2];exact this
   . have:=f1;unfold dI at this;rw[<-hf.2.2.2];exact this
   have:=f0;unfold dI at this;rw[<-hf.2.2.2];exact this
 rintro⟨h1,hf⟩;have h1:v<=9999:=by omega
 refine J6 h0 h1 fun i hi=>?_;have hd:=J3 v h0 h1 (3 - i) (by omega);have hj:=hf (3 - i) (by omega);rw[show 3 - (3 - i)=i by omega]at hj hd;unfold dI;rw[hd.2.2.2];exact hj
theorem QZ{d:Dt}(hy:d.dg.size<=1000)(hk:d.UR=true)(hm:d.mask=false): ∀w,Calls Tryz.prog 71 #[.string d.dg,.int .i64 d.ex] w fun r w'=>r=.returned (.tuple #[.int .i64 d.mag,.int .i64 1])/\w=w':=by
 intro w;obtain⟨e,he,hle,hd,hl⟩: ∃e:Nat,d.ex=e/\e<=16/\allB bM d.dg=true/\d.mag<=10000000000000000:=by
  have hk':OJ d.neg d.long d.dg d.ex d.sig=true:=hk
  cases hl:d.long
  . rw[hl]at hk';obtain⟨a1,a2,a3,a4,a5,a6,a7⟩:=jT hk';have hd:=(oO a2).1 hm;refine⟨0,a3,by omega,hd,?_⟩;unfold Dt.mag iH;rw[a3];have:=pY hd a1;have e:p10 (Int.toNat 0)=1:=rfl;rw[e];omega
  rw[hl]at hk';obtain⟨a1,a2,a3,a4,a5,a6,a7,a8,a9⟩:=kW hk';exact⟨d.ex.toNat,by omega,by omega,a3,a7⟩
 have:=nC d.dg e w hy (by omega) hd;rw[he];have e2:pU (iH d.dg e)=(d.mag,1):=by
  unfold pU;rw[show iH d.dg e=d.mag by unfold Dt.mag;rw[he],aFw hl]
 rw[e2]at this;exact this
theorem J7{d:Dt}(hk:d.UR=true)(hm:d.mask=true):d.dg.size=4/\allB eU d.dg=true/\d.ex=0:=by
 have hk':OJ d.neg d.long d.dg d.ex d.sig=true:=hk
 cases hl:d.long
 . rw[hl]at hk';obtain⟨a1,a2,a3,_⟩:=jT hk';exact⟨a1,a2,a3⟩
 rw[hl]at hk';obtain⟨a1,a2,a3,a4,a5,a6,a7,a8,a9⟩:=kW hk';have:=(oO (L8 a3)).2 a3;have hm:hasB 88 d.dg=true:=hm;rw[this]at hm;cases hm
def aNk(I:Prop)(w:World)(e:Ending)(w':World):Prop:= ∃x:Int,((x=1/\I)\/(x=0/\ ¬I))/\e=.returned (.int .i64 x)/\Below w.heap.size w w'
theorem aKx (d:Dt) (n:Int) (w:World) (hy:d.dg.size<=1000) (hk:d.UR=true) (hs:d.sig<=0) (n0: -9223372036854775808<=n) (n1:n<9223372036854775808):
 Calls Tryz.prog 158 #[yv d.neg d.long d.dg d.ex d.sig,.int .i64 n] w (aNk (d.In n) w):=by
 have hY:=Ym.new d.neg d.long d.dg d.ex d.sig w 27;have hM:=fun w=>vW d.neg d.long d.dg d.ex d.sig w (by unfold maxLen;omega);change ∀w,Calls _ _ _ w fun r w'=>r=.returned (.int .i64 (if d.mask then 1 else 0))/\_ at hM;have hbd:d.In n-> -10000000000000000<=n/\n<=10000000000000000:=fun h=>Dt.KQ hk h
 cases hm:d.mask
 . have HG:=ZU (QZ hy hk hm);have hI:d.In n↔n=(if d.neg=true then -d.mag else d.mag):=by unfold Dt.In;rw[hm];simp
   have mp:0<=d.mag:=lK _ _;have mp2:d.mag<=10000000000000000:=by
    have hx:d.In (if d.neg=true then -d.mag else d.mag):=by unfold Dt.In;rw[hm];simp
    have:=Dt.KQ hk hx
    split at this<;>omega
   rw[hm]at hM;have HM:=ZU hM;generalize d.In n=I at *;generalize d.mag=m at *;clear hM hm hk;generalize d.neg=neg at *;generalize d.long=long at *;generalize d.dg=s at *;generalize d.ex=ex at *;generalize d.sig=sig at *;have HI:=ZU hI;have HBD:=ZU hbd;clear hI hbd;unfold yv
   cases neg
   all_goals
    as_aux_lemma=>
     go_enter Tryz.func158,Tryz.ntmps158
     go_upto_region 1 with(fail)
     generalize World.alloc _ _=W0 at hY ⊢;obtain⟨q0,q1,q2,q3,q4,qB⟩:=id hY
     go_wp2_with (first
      |(go_at_call 196;with_reducible refine(HM.out _).mono ?_;rintro _ w' ⟨rfl,hb⟩;replace hY:=hY.later (by first|exact hb|exact bt (aDl _ _).drew hb|exact bt (aDl _ _).drew.drew hb);clear hb;obtain⟨q0,q1,q2,q3,q4,qB⟩:=id hY)
      |(go_at_call 71;with_reducible refine(HG.out _).mono ?_;rintro _ w' ⟨rfl,rfl⟩))
     rotate_left
     go_quiet (fail)
     go_wp2
     all_goals go_ret
     all_goals
      refine⟨_,?_,rfl,by first|exact hY.below|exact below_drewN hY.below _⟩;have hI:=HI.out;have hbd:=HBD.out
      first
      |exact .inl ⟨rfl,hI.2 (by(try simp only[aFy,aQC,aB1,aEv,aCk,aVN,aEx,aL6,a1o,aVY,aQW,reduceCtorEq]at *);omega)⟩
      |exact .inr ⟨rfl,fun c=>by have h1:=hI.1 c;have h2:=hbd c;(try simp only[aFy,aQC,aB1,aEv,aCk,aVN,aEx,aL6,a1o,aVY,aQW,reduceCtorEq]at *);omega⟩
 obtain ⟨h4,hx,-⟩:=J7 hk hm;rw[hm]at hM;have HM:=ZU hM;obtain⟨v,hv⟩: ∃v,v=(if d.neg=true then -n else n):=⟨_,rfl⟩;have hI:d.In n↔(qI (bH d.dg) v/\(d.neg=true->v≠0)):=by
  unfold Dt.In;rw[hm,aFw rfl,hv]
  cases d.neg
  . simp
  simp only[aVY];exact⟨fun h=>⟨h.1,fun _=>by omega⟩,fun h=>⟨h.1,by have:=h.2 (by trivial);omega⟩⟩
 have hnd: ∀k,k<4->nd v (k+1)=nd v k / 10:=fun k hk=>by
  obtain rfl|rfl|rfl|rfl:k=0\/k=1\/k=2\/k=3:=by omega
  . rfl
  . show v / 100=v / 10 / 10;omega
  . show v / 1000=v / 100 / 10;omega
  show v / 10000=v / 1000 / 10;omega
 have hn0: ∀k,k<=4->0<=v->v<=10000000000000000->0<=nd v k/\nd v k<=10000000000000000:=fun k hk h0 h1=>by
  obtain rfl|rfl|rfl|rfl|rfl:k=0\/k=1\/k=2\/k=3\/k=4:=by omega
  . exact⟨h0,h1⟩
  . show 0<=v / 10/\v / 10<=_;omega
  . show 0<=v / 100/\v / 100<=_;omega
  . show 0<=v / 1000/\v / 1000<=_;omega
  show 0<=v / 10000/\v / 10000<=_;omega
 have aUd:0<=v->(qI (bH d.dg) v↔(nd v 4<=0/\ ∀j,j<4->bH d.dg (3 - j)=88\/bH d.dg (3 - j)=48+nd v j % 10)):=fun h=>aPf h;have hmb:qI (bH d.dg) v->0<=v/\v<=9999:=fun h=>⟨h.1,h.2.1⟩;have hst:nd v 0=v:=rfl;generalize d.In n=I at *;generalize qI (bH d.dg) v=M at *;generalize nd v=N at *;clear hM hm hk;generalize d.neg=neg at *;generalize d.long=long at *;generalize d.dg=s at *;generalize d.ex=ex at *;generalize d.sig=sig at *;have HI:=ZU hI;have HMB:=ZU hmb;have aVK:=ZU aUd;have HND:=ZU hnd;have HN0:=ZU hn0;have HST:=ZU hst;clear hI hbd hmb aUd hnd hn0 hst hx;unfold yv
 cases neg
 all_goals
  simp only[aVY,aQW,reduceCtorEq]at hv
  as_aux_lemma=>
   go_enter Tryz.func158,Tryz.ntmps158
   go_upto_region 1 with(fail)
   generalize World.alloc _ _=W0 at hY ⊢;obtain⟨q0,q1,q2,q3,q4,qB⟩:=id hY
   go_wp2_with (go_at_call 196;with_reducible refine(HM.out _).mono ?_;rintro _ w' ⟨rfl,hb⟩;replace hY:=hY.later (by first|exact hb|exact bt (aDl _ _).drew hb|exact bt (aDl _ _).drew.drew hb|exact bt (aDl _ _).drew.drew.drew hb);clear hb;obtain⟨q0,q1,q2,q3,q4,qB⟩:=id hY)
   any_goals
    (go_ret
     refine⟨_,?_,rfl,hY.below⟩;have hI:=HI.out;have hmb:=HMB.out;exact .inr ⟨rfl,fun c=>by have h1:=hI.1 c;have h2:=hmb h1.1;have h3:=h1.2;(try simp only[aFy,aQC,aYf,aB1,aEv,aCk,aVN,aEx,aL6,a1o,aV5,reduceCtorEq,aVW,aV4]at *);omega⟩)
   have hvn:0<=v/\v<=10000000000000000/\v≠0\/0<=v/\v<=10000000000000000/\v=n:=by(try simp only[aFy,aQC,aYf,aB1,aEv,aCk,aVN,aEx,aL6,a1o]at *);omega
   have HVN:Hid (I↔M):=ZU (by
    have hI:=HI.out;rcases hvn with⟨_,_,hne⟩|⟨_,_,he⟩
    . exact hI.trans ⟨fun h=>h.1,fun h=>⟨h,fun _=>hne⟩⟩
    refine hI.trans ⟨fun h=>h.1,fun h=>⟨h,fun c=>?_⟩⟩
    first|(cases c;done)|((try simp only[aFy,aQC,aYf,aB1,aEv,aCk,aVN,aEx,aL6,a1o]at *);omega))
   have v0:0<=v:=by omega
   have v1:v<=10000000000000000:=by omega
   clear hvn HI HM;have HM4:=ZU (aVK.out v0);have HB:Hid (∀k,k<=4->0<=N k/\N k<=10000000000000000):=ZU (fun k hk=>HN0.out k hk v0 v1);clear HN0 aVK HMB;have HW:=ZU hY.below
   go_loop [1,5] (fun nv iv=> ∃k:Nat,k<=4/\iv=.int .i64 (3 - (k:Int))/\nv=.int .i64 (N k)/\ ∀j,j<k->bH s (3 - j)=88\/bH s (3 - j)=48+N j % 10) (fun _ iv=>(intOf iv+1).toNat)
   case atStart=>exact⟨0,by omega,rfl,aQA _ (by rw[HST.out];omega),fun j h=>by omega⟩
   case round=>
    obtain⟨k,hk,rfl,rfl,hj⟩:=hrel;have HJ:=ZU hj;have b0:=HB.out k hk;clear hj;have hk5:k=0\/k=1\/k=2\/k=3\/k=4:=by omega
    by_cases k4:k=4
    . subst k4
      by_cases hz:0<N 4
      . have HR:Hid (¬I):=ZU (fun c=>by have:=(HM4.out.1 (HVN.out.1 c)).1;omega);clear hk5;generalize N 4=x at *;rw[show (3:Int) - ((4:Nat):Int)= -1 by omega]
        go_wp2
        go_ret
        exact⟨_,.inr ⟨rfl,HR.out⟩,rfl,HW.out⟩
      have HR:Hid I:=ZU (HVN.out.2 (HM4.out.2 ⟨by omega,HJ.out⟩));clear hk5;generalize N 4=x at *;rw[show (3:Int) - ((4:Nat):Int)= -1 by omega]
      go_wp2
      go_ret
      exact⟨_,.inl ⟨rfl,HR.out⟩,rfl,HW.out⟩
    have l3:3 - k<s.size:=by omega
    have hb:=bU s (3 - k) l3;have HE:=ZU (HND.out k (by omega));have bb:=aQi s (3 - k);have HNO:Hid (¬(bH s (3 - k)=88\/bH s (3 - k)=48+N k % 10)-> ¬I):=ZU (fun h c=>h ((HM4.out.1 (HVN.out.1 c)).2 k (by omega)));have HOK:Hid ((bH s (3 - k)=88\/bH s (3 - k)=48+N k % 10)-> ∀j,j<k+1->bH s (3 - j)=88\/bH s (3 - j)=48+N j % 10):=ZU (fun h j hj=>by
     by_cases e:j=k
     . subst e;exact h
     exact HJ.out j (by omega))
    have e3:(3:Int) - (k:Int)=((3 - k:Nat):Int):=by omega
    rw[e3];have hm2:(3 - k:Nat)=3 - k:=rfl;generalize hq:3 - k=q at *;have Q3:=ZU e3;clear hk5 hm2 hq e3 HB HM4 HJ HND;generalize N k=x at *;obtain⟨x0,x1⟩:=b0;have m0:0<=x % 10:=by omega
    have m1:x % 10<=9:=by omega
    have HBQ:=ZU hb;clear hb bb;have K4:=ZU k4;clear k4
    by_cases c1:((s[q]'l3).toNat:Int)=88
    . go_wp2
      go_round
      case rel=>exact⟨k+1,by have:=K4.out;omega,aQA _ (by have:=Q3.out;omega),aQA _ HE.out.symm,HOK.out (.inl (by rw[HBQ.out];exact c1))⟩
      case measure=>first|(simp[intOf];done)|(simp[intOf];omega)
    by_cases c2:((s[q]'l3).toNat:Int)=48+x % 10
    . go_wp2
      go_round
      case rel=>exact⟨k+1,by have:=K4.out;omega,aQA _ (by have:=Q3.out;omega),aQA _ HE.out.symm,HOK.out (.inr (by rw[HBQ.out];exact c2))⟩
      case measure=>first|(simp[intOf];done)|(simp[intOf];omega)
    have HR:=ZU (HNO.out (by rw[HBQ.out];omega))
    go_wp2
    all_goals first
     |(go_ret;exact⟨_,.inr ⟨rfl,HR.out⟩,rfl,HW.out⟩)
     |(exfalso;(try simp only[aFy,aQC,aYf,aB1,aEv,aCk,aVN,aEx,aL6,a1o]at *);omega)
end Bk
end
section
open Go.RowKit Go.Lib
namespace Bk
open Un (ba bt ri rb dO eY)
theorem TN(s:ByteArray)(k:Nat)(h:k<s.size):(s.extract k (k+1)).data.toList=[s[k]'h]:=by
 rw[a0S,a03];have:s.data.toList.extract k (k+1)=[s[k]'h]:=by
  rw[a1K,show k+1 - k=1 by omega,List.take_one,List.head?_drop,aEH (by simpa using h)]
  rfl
 exact this
theorem KF(s:ByteArray)(x:UInt8): ∀k,k<=s.size->(NZ s x k).data.toList=(List.range k).map fun i=>if bH s i=88 then x else s.data.toList.getD i 0
 |0,_=>rfl
 |k+1,h=>by
  rw[KE,a2e,aQM,KF s x k (by omega),a0Y,aQI]
  congr 1
  by_cases c:bH s k=88
  . rw[aFw c];simp[c]
  rw[aFv c,TN s k (by omega)];simp only[aO6,a1w,aFv c];rw[aPH,aEH (by simp;omega)];rfl
theorem BL(s:ByteArray)(x:UInt8)(k:Nat)(h:k<=s.size):(NZ s x k).size=k:=by
 have:=aQA List.length (KF s x k h);simpa using this
theorem GK(s:ByteArray)(x:UInt8)(k:Nat)(h:k<=s.size)(i:Nat)(hi:i<k):bH (NZ s x k) i=if bH s i=88 then(x.toNat:Int)else bH s i:=by
 rw[sH (KF s x k h),aPH,aFx,aQB hi];show((if bH s i=88 then x else s.data.toList.getD i 0).toNat:Int)=_
 split
 . rfl
 rfl
theorem aP6{s:ByteArray}(h4:s.size=4)(hd:allB bM s=true):bF s=dN (bH s):=by
 have h: ∀i,i<4->48<=bH s i/\bH s i<=57:=fun i hi=>by
  have:=(kL _ _).1 hd i (by omega);exact aHY this
 have hl:s.data.toList.length=4:=by simpa using h4
 match e:s.data.toList,hl with
 |[a,b,c,d],_=>
  have h0:=h 0 (by omega);have h1:=h 1 (by omega);have h2:=h 2 (by omega);have h3:=h 3 (by omega);rw[sH e]at h0 h1 h2 h3;unfold bF dN;rw[sH e,sH e,sH e,sH e,e];simp only[dec,List.getD_cons_zero,List.getD_cons_succ]at *;omega
theorem aCL{s:ByteArray}{x:UInt8}(h4:s.size=4)(hx:allB eU s=true)(h0:48<=x.toNat)(h1:x.toNat<=57):allB bM (NZ s x 4)=true:=by
 rw[kL];intro i hi;rw[BL s x 4 (by omega)]at hi;rw[GK s x 4 (by omega) i hi];have:=L9 hx i (by omega);unfold bM
 split
 . exact aEy (by omega)
 exact aEy (by omega)
theorem aYx{s:ByteArray}(h4:s.size=4)(hd:allB bM s=true):iH s 0=dN (bH s):=by
 unfold iH;rw[show (0:Int).toNat=0 from rfl,aP6 h4 hd];unfold p10;simp
def z4:ByteArray:=⟨#[48,48,48,48]⟩
def aKJ(j:Nat):ByteArray:=z4.extract 0 j++⟨#[49]⟩++z4.extract (j+1) 4
theorem aAJ: ∀j:Nat,j<4->(aKJ j).size=4/\allB bM (aKJ j)=true/\(∀i:Nat,i<4->bH (aKJ j) i=if i=j then 49 else 48):=by decide
theorem aEr{b:Nat->Int}{f:Int}{j:Nat}(hj:j<4)(hf:qI b f)(hn:f≠0)(hz: ∀i,i<4->b i=88\/b i=48)(hl: ∀i,j<i->i<4->b i≠88){o:Nat->Int}(ho: ∀i,i<4->o i=if i=j then 49 else 48):dN o<=f:=by
 obtain⟨d0,d1,d2,d3,a0,a1,a2,a3,a4,a5,a6,a7,hv,e0,e1,e2,e3⟩:=(oL b f).1 hf;have z0:=hz 0 (by omega);have z1:=hz 1 (by omega);have z2:=hz 2 (by omega);have z3:=hz 3 (by omega);have o0:=ho 0 (by omega);have o1:=ho 1 (by omega);have o2:=ho 2 (by omega);have o3:=ho 3 (by omega);unfold dN;obtain rfl|rfl|rfl|rfl:j=0\/j=1\/j=2\/j=3:=by omega
 . have l1:=hl 1 (by omega) (by omega);have l2:=hl 2 (by omega) (by omega);have l3:=hl 3 (by omega) (by omega);simp at o0 o1 o2 o3;omega
 . have l2:=hl 2 (by omega) (by omega);have l3:=hl 3 (by omega) (by omega);simp at o0 o1 o2 o3;omega
 . have l3:=hl 3 (by omega) (by omega);simp at o0 o1 o2 o3;omega
 simp at o0 o1 o2 o3;omega
def UJ(d:Dt)(w:World)(e:Ending)(w':World):Prop:= ∃a b:Int,(∀y,d.In y->a<=y/\y<=b)/\ -10000000000000000<=a/\b<=10000000000000000/\e=.returned (.tuple #[.int .i64 a,.int .i64 b])/\Below w.heap.size w w'
theorem aDP (d :Dt) (w:World) (hy:d.dg.size<=1000) (hk:d.UR=true) (hs:d.sig<=0):
 Calls Tryz.prog 157 #[yv d.neg d.long d.dg d.ex d.sig] w (UJ d w):=by
 have hY:=Ym.new d.neg d.long d.dg d.ex d.sig w 27;have hM:=fun w=>vW d.neg d.long d.dg d.ex d.sig w (by unfold maxLen;omega);change ∀w,Calls _ _ _ w fun r w'=>r=.returned (.int .i64 (if d.mask then 1 else 0))/\_ at hM
 cases hm:d.mask
 . have HG:=ZU (QZ hy hk hm);have hI: ∀y,d.In y->y=(if d.neg=true then -d.mag else d.mag):=fun y=>by unfold Dt.In;rw[hm];simp
   have mp:0<=d.mag:=lK _ _;have mp2:d.mag<=10000000000000000:=by
    have hx:d.In (if d.neg=true then -d.mag else d.mag):=by unfold Dt.In;rw[hm];simp
    have:=Dt.KQ hk hx
    split at this<;>omega
   rw[hm]at hM;have HM:=ZU hM;unfold UJ;generalize d.In=I at *;generalize d.mag=m at *;clear hM hm hk;generalize d.neg=neg at *;generalize d.long=long at *;generalize d.dg=s at *;generalize d.ex=ex at *;generalize d.sig=sig at *;have HI:=ZU hI;clear hI;unfold yv
   cases neg
   all_goals
    as_aux_lemma=>
     go_enter Tryz.func157,Tryz.ntmps157
     go_upto_region 1 with(fail)
     generalize World.alloc _ _=W0 at hY ⊢;obtain⟨q0,q1,q2,q3,q4,qB⟩:=id hY
     go_wp2_with (first
      |(go_at_call 196;with_reducible refine(HM.out _).mono ?_;rintro _ w' ⟨rfl,hb⟩;replace hY:=hY.later (by first|exact hb|exact bt (aDl _ _).drew hb|exact bt (aDl _ _).drew.drew hb|exact bt (aDl _ _).drew.drew.drew hb);clear hb;obtain⟨q0,q1,q2,q3,q4,qB⟩:=id hY)
      |(go_at_call 71;with_reducible refine(HG.out _).mono ?_;rintro _ w' ⟨rfl,rfl⟩))
     go_quiet (fail)
     go_wp2_with (first
      |(go_at_call 196;with_reducible refine(HM.out _).mono ?_;rintro _ w' ⟨rfl,hb⟩;replace hY:=hY.later (by first|exact hb|exact bt (aDl _ _).drew hb|exact bt (aDl _ _).drew.drew hb|exact bt (aDl _ _).drew.drew.drew hb);clear hb;obtain⟨q0,q1,q2,q3,q4,qB⟩:=id hY)
      |(go_at_call 71;with_reducible refine(HG.out _).mono ?_;rintro _ w' ⟨rfl,rfl⟩))
     go_ret2
     exact⟨_,_,fun y h=>by have:=HI.out y h;simp at this;omega,by omega,by omega,rfl,below_drewN hY.below _⟩
 obtain ⟨h4, hx,hex⟩:=J7 hk hm;rw[hm]at hM;have HM:=ZU hM;have HMG:Hid (∀L:ByteArray,L.size=4->allB bM L=true-> ∀w,Calls Tryz.prog 71 #[.string L,.int .i64 d.ex] w fun r w'=>r=.returned (.tuple #[.int .i64 (dN (bH L)),.int .i64 1])/\w=w'):=ZU (fun L hl hd w=>by
  have:=nC L 0 w (by omega) (by omega) hd;rw[hex];have e:iH L ((0:Nat):Int)=dN (bH L):=aYx hl hd;have hb:dN (bH L)<=9999:=by
   rw[<-aP6 hl hd];have:=pY hd hl;omega
  have e2:pU (iH L ((0:Nat):Int))=(dN (bH L),1):=by rw[e];unfold pU;rw[aFw (by omega)]
  rw[e2]at this;exact this)
 have hI: ∀y,d.In y->qI (bH d.dg) (if d.neg=true then -y else y)/\(d.neg=true->y≠0):=fun y h=>by
  unfold Dt.In at h;rw[hm,aFw rfl]at h
  cases hn:d.neg
  . rw[hn]at h;simp at h ⊢;exact h
  rw[hn]at h;simp at h ⊢;exact h
 have hmk:=zF h4 hx;have hLO:(NZ d.dg 48 4).size=4/\allB bM (NZ d.dg 48 4)=true/\ ∀f,qI (bH d.dg) f->dN (bH (NZ d.dg 48 4))<=f:=
  ⟨BL _ _ _ (by omega),aCL h4 hx (by decide) (by decide),(O8 hmk (fun i hi=>GK d.dg 48 4 (by omega) i hi)).2⟩
 have hHI:(NZ d.dg 57 4).size=4/\allB bM (NZ d.dg 57 4)=true/\ ∀f,qI (bH d.dg) f->f<=dN (bH (NZ d.dg 57 4)):=
  ⟨BL _ _ _ (by omega),aCL h4 hx (by decide) (by decide),(BQ hmk (fun i hi=>GK d.dg 57 4 (by omega) i hi)).2⟩
 have hZ:NZ d.dg 48 4=z4-> ∀i,i<4->bH d.dg i=88\/bH d.dg i=48:=fun e i hi=>by
  have h1:=GK d.dg 48 4 (by omega) i hi;rw[e]at h1;have hz: ∀i:Nat,i<4->bH z4 i=48:=by decide
  rw[hz i hi]at h1
  split at h1
  . rename_i c;exact .inl c
  exact .inr h1.symm
 have hv9: ∀L:ByteArray,L.size=4->allB bM L=true->0<=dN (bH L)/\dN (bH L)<=9999:=fun L hl hd=>by
  rw[<-aP6 hl hd];have:=pY hd hl;have:=CQ L;omega
 have HV9:=ZU hv9;unfold UJ;generalize d.In=I at *;clear hM hm hk hex hmk hv9 hx;generalize d.neg=neg at *;generalize d.long=long at *;generalize d.dg=s at *;generalize d.ex=ex at *;generalize d.sig=sig at *;have HI:=ZU hI;have UO:=ZU hLO;have HHI:=ZU hHI;have HZ:=ZU hZ;clear hI hLO hHI hZ;have HSZ:Hid (∀x k,k<=4->(NZ s x k).size=k):=ZU (fun x k hk=>BL s x k (by omega));have HBX:Hid (∀k,k<4->((s.extract k (k+1)).toList==[(88:UInt8)])=decide (bH s k=88)):=ZU (fun k hk=>by
  rw[show [(88:UInt8)]=ByteArray.toList ⟨#[88]⟩ by rw[a1b],yX,decide_eq_decide];constructor
  . intro e;have h1:=TN s k (by omega);rw[e]at h1;have h2:[(88:UInt8)]=[s[k]'(by omega)]:=h1;rw[bU s k (by omega),<-(a1U h2).1];rfl
  intro e;apply aBZ;rw[TN s k (by omega)];rw[bU s k (by omega)]at e;have:s[k]'(by omega)=(88:UInt8):=by apply a1F;show _=88;omega
  rw[this])
 unfold yv
 go_enter Tryz.func157,Tryz.ntmps157
 go_upto_region 1 with(fail)
 generalize World.alloc _ _=W0 at hY ⊢;obtain⟨q0,q1,q2,q3,q4,qB⟩:=id hY
 go_wp2_with (go_at_call 196;with_reducible refine(HM.out _).mono ?_;rintro _ w' ⟨rfl,hb⟩;replace hY:=hY.later (by first|exact hb|exact bt (aDl _ _).drew hb|exact bt (aDl _ _).drew.drew hb|exact bt (aDl _ _).drew.drew.drew hb);clear hb;obtain⟨q0,q1,q2,q3,q4,qB⟩:=id hY)
 go_loopw [4,5,6] (fun lo hi i wr=> ∃k:Nat,k<=4/\i=.int .i64 k/\lo=.string (NZ s 48 k)/\hi=.string (NZ s 57 k)/\Ym w.heap.size neg long s ex sig w wr) (fun _ _ i _=>4 - (intOf i).toNat)
 case atStart=>exact⟨0,by omega,rfl,rfl,rfl,hY⟩
 case round=>
  obtain⟨k,hk,rfl,rfl,rfl,hY⟩:=hrel;clear q0 q1 q2 q3 q4 qB;obtain⟨q0,q1,q2,q3,q4,qB⟩:=id hY
  by_cases hlt:k<4
  . have a0:=HSZ.out 48 k (by omega);have a1:=HSZ.out 57 k (by omega);have HL0:=ZU (KE s 48 k);have HL1:=ZU (KE s 57 k);have hbx:=HBX.out k hlt;generalize NZ s 48 k=A at *;generalize NZ s 57 k=B at *;have k4:k<s.size:=by omega
    have es:(s.extract k (k+1)).size=1:=by rw[ByteArray.size_extract];omega
    by_cases c:bH s k=88
    . rw[aFw c]at HL0 HL1;rw[aEy c]at hbx;have HC:=ZU c;clear c
      go_wp2
      go_quiet (fail)
      go_wp2
      go_roundw
      case rel=>exact⟨k+1,by omega,by go_num,by rw[HL0.out],by rw[HL1.out],hY.later (below_drewN (aDl _ _) _)⟩
      case measure=>simp[intOf];omega
    rw[aFv c]at HL0 HL1;rw[aEm c]at hbx;have HC:=ZU c;clear c
    go_wp2
    go_quiet (fail)
    go_wp2
    go_roundw
    case rel=>exact⟨k+1,by omega,by go_num,by rw[HL0.out],by rw[HL1.out],hY.later (below_drewN (aDl _ _) _)⟩
    case measure=>simp[intOf];omega
  obtain rfl:k=4:=by omega
  clear HSZ HBX;obtain⟨A,hA⟩: ∃A,A=NZ s 48 4:=⟨_,rfl⟩;obtain⟨B,hB⟩: ∃B,B=NZ s 57 4:=⟨_,rfl⟩;rw[<-hA]at UO HZ ⊢;rw[<-hB]at HHI ⊢;clear hA hB;have hZ4:(A.toList==[(48:UInt8),48,48,48])=decide (A=z4):=by
   rw[show [(48:UInt8),48,48,48]=ByteArray.toList z4 by unfold z4;rw[a1b],yX]
  have GB:=ZU (HMG.out B HHI.out.1 HHI.out.2.1);have vb:=HV9.out B HHI.out.1 HHI.out.2.1;have HVB:=ZU HHI.out.2.2
  by_cases hne:neg=true/\A=z4
  case neg=>
   have GA:=ZU (HMG.out A UO.out.1 UO.out.2.1);have va:=HV9.out A UO.out.1 UO.out.2.1;have HVA:=ZU UO.out.2.2;clear HMG HV9 UO HHI HZ HM;generalize dN (bH A)=a at *;generalize dN (bH B)=b at *
   cases neg
   . clear hZ4
     all_goals
      as_aux_lemma=>
       go_wp2_with (go_at_call 71;first|(with_reducible refine(GA.out _).mono ?_;rintro _ w' ⟨rfl,rfl⟩)|(with_reducible refine(GB.out _).mono ?_;rintro _ w' ⟨rfl,rfl⟩))
       go_ret2
       exact⟨_,_,fun y h=>by have h1:=HI.out y h;simp at h1;have h2:=HVA.out _ h1;have h3:=HVB.out _ h1;omega,by omega,by omega,rfl,hY.below⟩
   have hA4: ¬A=z4:=fun h=>hne ⟨rfl,h⟩;rw[aEm hA4]at hZ4;clear hne hA4
   . as_aux_lemma=>
      go_wp2_with (go_at_call 71;first|(with_reducible refine(GA.out _).mono ?_;rintro _ w' ⟨rfl,rfl⟩)|(with_reducible refine(GB.out _).mono ?_;rintro _ w' ⟨rfl,rfl⟩))
      go_ret2
      exact⟨_,_,fun y h=>by have h1:=HI.out y h;simp at h1;have h2:=HVA.out _ h1.1;have h3:=HVB.out _ h1.1;omega,by omega,by omega,rfl,hY.below⟩
  case pos =>
   obtain⟨rfl,rfl⟩:=hne;have HZ2:=ZU (HZ.out rfl);clear HZ UO hZ4 HM;unfold z4;generalize dN (bH B)=b at *
   go_wp2
   go_loopw [4,9] (fun lo i wr=> ∃(k:Nat) (L:ByteArray),k<=4/\i=.int .i64 k/\lo=.string L/\((L=z4/\ ∀j,j<k->bH s j≠88)\/(∃j,j<k/\bH s j=88/\(∀l,j<l->l<k->bH s l≠88)/\L=aKJ j))/\Ym w.heap.size true long s ex sig w wr) (fun _ i _=>4 - (intOf i).toNat)
   case atStart=>exact⟨0,_,by omega,rfl,rfl,.inl ⟨rfl,fun j h=>by omega⟩,hY⟩
   case round=>
    obtain⟨k,L,hk,rfl,rfl,hL,hY⟩:=hrel;clear q0 q1 q2 q3 q4 qB;obtain⟨q0,q1,q2,q3,q4,qB⟩:=id hY;have HL:=ZU hL;clear hL
    by_cases hlt:k<4
    . have k4:k<s.size:=by omega
      have HB2:=ZU (bU s k k4)
      by_cases c:((s[k]'k4).toNat:Int)=88
      . go_wp2
        go_quiet (fail)
        go_wp2
        go_roundw
        case rel=>exact⟨k+1,_,by omega,by go_num,rfl,.inr ⟨k,by omega,by rw[HB2.out];exact c,fun l h1 h2=>by omega,rfl⟩,hY.later (below_drewN (aDl _ _) _)⟩
        case measure=>simp[intOf];omega
      go_wp2
      go_roundw
      case rel=>exact⟨k+1,_,by omega,by go_num,rfl,by
       have hb:bH s k≠88:=by rw[HB2.out];exact c
       rcases HL.out with⟨e1,e2⟩|⟨j,e1,e2,e3,e4⟩
       . refine .inl ⟨e1,fun j hj=>?_⟩
         by_cases e:j=k
         . subst e;exact hb
         exact e2 j (by omega)
       refine .inr ⟨j,by omega,e2,fun l h1 h2=>?_,e4⟩
       by_cases e:l=k
       . subst e;exact hb
       exact e3 l h1 (by omega),hY⟩
      case measure=>simp[intOf];omega
    obtain rfl:k=4:=by omega
    have hL2:L.size=4/\allB bM L=true/\ ∀f,qI (bH s) f->f≠0->dN (bH L)<=f:=by
     rcases HL.out with⟨rfl,e2⟩|⟨j,e1,e2,e3,rfl⟩
     . refine⟨rfl,by decide,fun f hf hn=>?_⟩;have:dN (bH z4)=0:=by decide
       have:=hf.1;omega
     obtain⟨g1,g2,g3⟩:=aAJ j e1;exact⟨g1,g2,fun f hf hn=>aEr e1 hf hn HZ2.out e3 g3⟩
    have GA:=ZU (HMG.out L hL2.1 hL2.2.1);have va:=HV9.out L hL2.1 hL2.2.1;have HVA:=ZU hL2.2.2;clear hL2 HL HMG HV9 HHI HZ2;generalize dN (bH L)=a at *
    go_wp2_with (go_at_call 71;first|(with_reducible refine(GA.out _).mono ?_;rintro _ w' ⟨rfl,rfl⟩)|(with_reducible refine(GB.out _).mono ?_;rintro _ w' ⟨rfl,rfl⟩))
    go_ret2
    exact⟨_,_,fun y h=>by have h1:=HI.out y h;simp at h1;have h2:=HVA.out _ h1.1 (by omega);have h3:=HVB.out _ h1.1;omega,by omega,by omega,rfl,hY.below⟩
end Bk
end
section
open Go.RowKit Go.Lib
namespace Bk
open Un (ba bt ri rb dO eY)
theorem rs{a b:ByteArray}(h:a=b):Ending.returned (.string a)=.returned (.string b):=by rw[h]
theorem V4(n:Nat)(w:World)(h:n<=99):
 Calls Tryz.prog 69 #[.int .i64 n] w fun r w'=>r=.returned (.string (twoS n))/\Below w.heap.size w w':=by
 have HT:=ZU (aJ7 n (by omega));unfold YS at HT
 go_enter Tryz.func69,Tryz.ntmps69
 go_wp2
 go_quiet (fail)
 go_wp2
 all_goals go_ret
 all_goals exact⟨rs HT.out,below_drewN (aDl _ _) _⟩
theorem vX(s:ByteArray)(n:Nat)(w:World)(h:n<=99):
 Calls Tryz.prog 197 #[.string s,.int .i64 n] w fun r w'=>r=.returned (.int .i64 (if jS s n then 1 else 0))/\Below w.heap.size w w':=by
 have HT:=ZU (fun w=>V4 n w h);obtain⟨R,hR⟩: ∃R:Int,R=if jS s n then 1 else 0:=⟨_,rfl⟩
 rw[<-hR];have hRF:(s.size≠2->R=0)/\(s.size=2->(bH s 0=88\/bH s 0=48+(n:Int) / 10)->(bH s 1=88\/bH s 1=48+(n:Int) % 10)->R=1)/\(s.size=2-> ¬(bH s 0=88\/bH s 0=48+(n:Int) / 10)->R=0)/\(s.size=2-> ¬(bH s 1=88\/bH s 1=48+(n:Int) % 10)->R=0):=by
  rw[hR];refine⟨fun h=>by rw[QA h];rfl,fun h1 h2 h3=>?_,fun h1 h2=>?_,fun h1 h2=>?_⟩
  . rw[aFw];unfold jS;simp[h1,h2,h3]
  . rw[show jS s n=false by unfold jS;rw[aNn];intro c;simp at c;omega];rfl
  rw[show jS s n=false by unfold jS;rw[aNn];intro c;simp at c;omega];rfl
 obtain⟨t,ht⟩: ∃t,t=twoS n:=⟨_,rfl⟩;rw[<-ht]at HT;have t2:t.size=2:=by rw[ht];rfl
 have t20:0<t.size:=by omega
 have t21:1<t.size:=by omega
 have b0:((t[0]'t20).toNat:Int)=48+(n:Int) / 10:=by rw[<-bU t 0 t20,ht];exact aFW h
 have b1:((t[1]'t21).toNat:Int)=48+(n:Int) % 10:=by rw[<-bU t 1 t21,ht];exact aFV h
 by_cases c:s.size=2
 . have s0:0<s.size:=by omega
   have s1:1<s.size:=by omega
   rw[bU s 0 s0,bU s 1 s1,<-b0,<-b1]at hRF;obtain⟨a0,g0⟩: ∃b,(((s[0]'s0).toNat:Int)==88)=b:=⟨_,rfl⟩;obtain⟨a1,g1⟩: ∃b,(((s[0]'s0).toNat:Int)==((t[0]'t20).toNat:Int))=b:=⟨_,rfl⟩;obtain⟨c0,g2⟩: ∃b,(((s[1]'s1).toNat:Int)==88)=b:=⟨_,rfl⟩;obtain⟨c1,g3⟩: ∃b,(((s[1]'s1).toNat:Int)==((t[1]'t21).toNat:Int))=b:=⟨_,rfl⟩;have hR2:R=if(a0||a1)&&(c0||c1)then 1 else 0:=by
    subst g0 g1 g2 g3;simp only[aEx,aL6,aFy]
    split
    . rename_i h;exact hRF.2.1 c h.1 h.2
    rename_i h
    by_cases q:(((s[0]'s0).toNat:Int)=88\/((s[0]'s0).toNat:Int)=((t[0]'t20).toNat:Int))
    . exact hRF.2.2.2 c (fun e=>h ⟨q,e⟩)
    exact hRF.2.2.1 c q
   replace hR2:=ZU hR2;clear hRF hR b0 b1 ht
   cases a0<;>cases a1<;>cases c0<;>cases c1
   all_goals
    as_aux_lemma=>
     go_enter Tryz.func197,Tryz.ntmps197
     go_wp2_with (go_at_call 69;with_reducible refine(HT.out _).mono ?_;rintro _ w' ⟨rfl,hb⟩)
     go_quiet (fail)
     go_wp2
     go_ret
     exact⟨ri hR2.out.symm,below_drewN hb _⟩
 have hR0:=hRF.1 c;clear hR hRF ht b0 b1;subst hR0;have c2:((s.size:Int)==2)=false:=by rw[aB1];omega
 clear c t20 t21 t2
 go_enter Tryz.func197,Tryz.ntmps197
 go_wp2_with (go_at_call 69;with_reducible refine(HT.out _).mono ?_;rintro _ w' ⟨rfl,hb⟩)
 clear HT
 go_quiet (fail)
 go_wp2
 go_ret
 exact⟨rfl,below_drewN hb _⟩
theorem OZ(s:ByteArray)(g:Nat)(w:World)(hg:g<=99):
 Calls Tryz.prog 155 #[.string s,.int .i64 g] w fun r w'=>r=.returned (.int .i64 (if fC s g then 1 else 0))/\Below w.heap.size w w':=by
 have HT:=ZU (fun(k:Nat) (hk:k<g) (x:Int) (hx:x=if jS s ((k:Int)+1)then 1 else 0) w=>(by rw[hx];exact vX s (k+1) w (by omega):Calls Tryz.prog 197 #[.string s,.int .i64 ((k:Int)+1)] w fun r w'=>r=.returned (.int .i64 x)/\Below w.heap.size w w'));have HM:=ZU (fun(k:Nat) (h:k<g) (ht:jS s ((k:Int)+1)=true)=>(I7 (s:=s) (g:=k+1) (h:=g) (by omega) (by rw[sZ,ht,a2f]):fC s g=true));have HN:=ZU (fun(k:Nat) (h:fC s k=false) (ht:jS s ((k:Int)+1)=false)=>(by rw[sZ,h,ht];rfl:fC s (k+1)=false));obtain⟨R,hR⟩: ∃R:Int,R=if fC s g then 1 else 0:=⟨_,rfl⟩
 rw[<-hR];replace hR:=ZU hR
 go_enter Tryz.func155,Tryz.ntmps155
 go_wp2
 go_loopw [5] (fun i wr=> ∃k:Nat,k<=g/\i=.int .i64 ((k:Int)+1)/\fC s k=false/\Below w.heap.size w wr) (fun i _=>g+1 - (intOf i).toNat)
 case atStart=>exact⟨0,aLm _,rfl,rfl,aDl _ _⟩
 case round=>
  obtain⟨k,hk,rfl,hz,hb⟩:=hrel
  by_cases hlt:k<g
  . have hT:=fun x hx w=>HT.out k hlt x hx w;have HB:=ZU hb;have HZ:=ZU hz;clear hb hz
    cases ha:jS s ((k:Int)+1)
    . have HT2:=ZU (hT 0 (by rw[ha];rfl));have HA:=ZU ha;clear hT ha
      go_wp2_with (go_at_call 197;with_reducible refine(HT2.out _).mono ?_;rintro _ w' ⟨rfl,hb⟩)
      go_roundw
      case rel=>exact⟨k+1,by omega,by go_num,HN.out k HZ.out HA.out,bt HB.out hb⟩
      case measure=>simp[intOf];omega
    have HT2:=ZU (hT 1 (by rw[ha];rfl));have HA:=ZU ha;clear hT ha
    go_wp2_with (go_at_call 197;with_reducible refine(HT2.out _).mono ?_;rintro _ w' ⟨rfl,hb⟩)
    go_ret
    exact⟨ri (by rw[hR.out,HM.out k hlt HA.out];rfl),bt HB.out hb⟩
  obtain rfl:k=g:=by omega
  have HB:=ZU hb;have HZ:=ZU hz;clear hb hz
  go_wp2
  go_ret
  exact⟨ri (by rw[hR.out,HZ.out];rfl),HB.out⟩
theorem JQ(d:Dt)(w:World):
 Calls Tryz.prog 46 #[eP d] w fun r w'=>r=.returned (.int .i64 (comps d.mo d.da))/\Below w.heap.size w w':=
 Sk.UK (Sk.aJw d w) (by rw[NG,NG];unfold comps;simp only[aQJ,aEv];(repeat' split)<;>rfl)
theorem qN(d:Dt)(w:World):
 Calls Tryz.prog 44 #[eP d] w fun r w'=>r=.returned (.int .i64 d.aG)/\Below w.heap.size w w':=by
 have hD:=Dm.new d w 30;have HT:=ZU (fun(c:Nat) w (h:c<=41)=>V4 c w (by omega));have HS:=ZU (fun(c:Nat) (h0:21<=c) (h1:c<=41)=>(U3 (s:=d.mo) h0 h1));have HBD:=ZU (lY d.mo);unfold Dt.aG;generalize gZ d.mo=z at *;unfold eP
 go_enter Tryz.func44,Tryz.ntmps44
 go_upto_region 1 with(fail)
 generalize w.alloc (.cells #[.bool d.neg,.bool d.long,.string d.dg,.int .i64 d.ex,.int .i64 d.sig,.string d.mo,.string d.da,.int .u8 d.m0,.int .u8 d.m1,.int .u8 d.m2] 30)=W0 at hD ⊢
 go_wp2
 go_loopw [3] (fun i wr=> ∃c:Nat,21<=c/\c<=42/\i=.int .i64 c/\(z=0\/(c:Int)<=z)/\Dm w.heap.size d w wr) (fun i _=>42 - (intOf i).toNat)
 case atStart=>exact⟨21,by omega,by omega,rfl,by have:=HBD.out;omega,hD⟩
 case round=>
  obtain⟨c,h0,h1,rfl,hz,hD⟩:=hrel;obtain⟨q0,q1,q2,q3,q4,q5,q6,q7,q8,q9,qB⟩:=id hD
  by_cases hlt:c<=41
  . have hT:=fun w=>HT.out c w hlt;have hS:=HS.out c h0 hlt;generalize twoS c=t at *;have hb:(d.mo.toList==t.toList)=decide (d.mo=t):=yX _ _;have HT2:=ZU hT;have HZ:=ZU hz;clear hT hz HT HS
    by_cases e:d.mo=t
    . have hv:=hS.1 e;rw[aEy e]at hb;have HV:=ZU hv;clear e hS hv
      go_wp2
      go_region_with (go_at_call 69;with_reducible refine(HT2.out _).mono ?_;rintro _ w' ⟨rfl,hb⟩;have hD:=hD.later (by first|exact hb|exact bt (aDl _ _).drew hb|exact bt (aDl _ _).drew.drew hb);obtain⟨q0,q1,q2,q3,q4,q5,q6,q7,q8,q9,qB⟩:=id hD)
      all_goals (go_wp2_with fail)
      all_goals go_ret
      all_goals exact⟨ri HV.out.symm,hD.below⟩
    have hv: ¬z=c:=fun h=>e (hS.2 h);rw[aEm e]at hb;have HV:=ZU hv;clear e hS hv
    go_wp2
    go_region_with (go_at_call 69;with_reducible refine(HT2.out _).mono ?_;rintro _ w' ⟨rfl,hb⟩;have hD:=hD.later (by first|exact hb|exact bt (aDl _ _).drew hb|exact bt (aDl _ _).drew.drew hb);obtain⟨q0,q1,q2,q3,q4,q5,q6,q7,q8,q9,qB⟩:=id hD)
    all_goals (go_wp2_with fail)
    all_goals go_roundw
    all_goals first
     |exact⟨c+1,by omega,by omega,by go_num,by have:=HV.out;have:=HZ.out;omega,hD⟩
     |(simp[intOf];omega)
  obtain rfl:c=42:=by omega
  have HV:Hid (z=0):=ZU (by have:=HBD.out;omega);clear hz
  go_wp2
  go_ret
  exact⟨ri HV.out.symm,hD.below⟩
end Bk
end
section
open Go.RowKit Go.Lib
namespace Bk
open Un (ba bt ri rb dO eY)
theorem aGt(a b c n:Int)(w:World)(a0:0<=a)(b0:0<=b)(c0:0<=c)(n0:1<=n)(n1:n<=3):
 Calls Tryz.prog 156 #[.agg #[.int .u8 a,.int .u8 b,.int .u8 c],.int .i64 n] w fun r w'=>r=.returned (.int .i64 (kS a b c n))/\Below w.heap.size w w':=by
 obtain rfl|rfl|rfl:n=1\/n=2\/n=3:=by omega
 . exact Sk.UK (Sk.aFC a b c w) (by unfold kS;simp only[aQJ,aEv,aFy];(repeat' split)<;>first|rfl|(exfalso;omega))
 . exact Sk.UK (Sk.aFB a b c w) (by unfold kS;simp only[aQJ,aEv,aFy];(repeat' split)<;>first|rfl|(exfalso;omega))
 exact Sk.UK (Sk.aFA a b c w) (by unfold kS;simp only[aQJ,aEv,aFy];(repeat' split)<;>first|rfl|(exfalso;omega))
theorem aDO(d:Dt)(w:World)(hy:d.dg.size<=1000)(s0: -9223372036854775808<=d.sig)(s1:d.sig<9223372036854775808):
 Calls Tryz.prog 154 #[eP d] w fun r w'=>r=.returned (.int .i64 (if d.nY then 1 else 0))/\Below w.heap.size w w':=by
 have hC: ∀c:Int,(if d.UR then 1 else 0)=c->Sk.Same w 68 #[yv d.neg d.long d.dg d.ex d.sig] (.int .i64 c):=fun c e=>e ▸ fun W _=>V3 d.neg d.long d.dg d.ex d.sig W hy s0 s1;have hS:=fun W (_:Below w.heap.size w W)=>qN d W;have hM: ∀c:Int,(if d.mask then 1 else 0)=c->Sk.Same w 196 #[yv d.neg d.long d.dg d.ex d.sig] (.int .i64 c):=fun c e=>e ▸ fun W _=>vW d.neg d.long d.dg d.ex d.sig W (by unfold maxLen;omega);unfold Dt.nY Dt.far
 cases hk:d.UR
 . exact Sk.UK (Sk.aJv d w (hC 0 (by rw[hk];rfl))) rfl
 have hmg:d.mask=false-> ∀w,Calls Tryz.prog 71 #[.string d.dg,.int .i64 d.ex] w fun r w'=>r=.returned (.tuple #[.int .i64 d.mag,.int .i64 1])/\w=w':=by
  intro hm w;obtain⟨e,he,hle,hd,hl⟩: ∃e:Nat,d.ex=e/\e<=16/\allB bM d.dg=true/\d.mag<=10000000000000000:=by
   have hk':OJ d.neg d.long d.dg d.ex d.sig=true:=hk
   cases hl:d.long
   . rw[hl]at hk';obtain⟨a1,a2,a3,a4,a5,a6,a7⟩:=jT hk';have hd:=(oO a2).1 hm;refine⟨0,a3,by omega,hd,?_⟩;unfold Dt.mag iH;rw[a3];have:=pY hd a1;have e:p10 (Int.toNat 0)=1:=rfl;rw[e];omega
   rw[hl]at hk';obtain⟨a1,a2,a3,a4,a5,a6,a7,a8,a9⟩:=kW hk';exact⟨d.ex.toNat,by omega,by omega,a3,a7⟩
  have:=nC d.dg e w hy (by omega) hd;rw[he];have e2:pU (iH d.dg e)=(d.mag,1):=by
   unfold pU;rw[show iH d.dg e=d.mag by unfold Dt.mag;rw[he],aFw hl]
  rw[e2]at this;exact this
 have h1:=hC 1 (by rw[hk];rfl)
 cases hx:d.mask
 . refine Sk.UK (Sk.aJt d d.aG d.mag 1 w h1 hS (hM 0 (by rw[hx];rfl)) (fun W _=>Sk.eqB (hmg hx W))) ?_;rw[NG]
   by_cases c:0<d.sig<;>by_cases e:d.mo.size=0<;>by_cases a:d.aG=24<;>by_cases b:d.aG=28<;>by_cases g:d.aG=30<;>by_cases m:d.mag=10000000000000000<;>cases d.neg<;>simp[aQJ,c,e,a,b,g,m]
 refine Sk.UK (Sk.aJu d d.aG w h1 hS (hM 1 (by rw[hx];rfl))) ?_;rw[NG]
 by_cases c:0<d.sig<;>by_cases e:d.mo.size=0<;>simp[c,e]
theorem V7(d:Dt)(w:World)(hy:d.dg.size<=1000)(s0: -9223372036854775808<=d.sig)(s1:d.sig<9223372036854775808)(m0:0<=d.m0)(m1:0<=d.m1)(m2:0<=d.m2):
 Calls Tryz.prog 109 #[eP d] w fun r w'=>r=.returned (.int .i64 d.form)/\Below w.heap.size w w':=by
 refine Sk.UK (Sk.aFD d _ d.aG _ _ _ _ w (fun W _=>aDO d W hy s0 s1) (fun W _=>qN d W) (fun W _=>OZ d.mo 12 W (by omega)) (fun W _=>OZ d.da 31 W (by omega)) (fun W _=>JQ d W)
  (fun W _=>aGt d.m0 d.m1 d.m2 (comps d.mo d.da) W m0 m1 m2 (CS _ _).1 (CS _ _).2)) ?_
 have hz:d.aG=0\/(21<=d.aG/\d.aG<=41):=lY d.mo;rw[NG,NG];unfold Dt.form;rcases hz with e3|e3
 . cases d.nY<;>cases fC d.mo 12<;>cases fC d.da 31<;>by_cases e1:d.mo.size=0<;>by_cases e2:d.da.size=0<;>simp[e1,e2,e3]
 have a: ¬d.aG=0:=by omega
 have b:0<d.aG:=by omega
 cases d.nY<;>cases fC d.mo 12<;>cases fC d.da 31<;>by_cases e1:d.mo.size=0<;>by_cases e2:d.da.size=0<;>simp[aQJ,e1,e2,a,b]
end Bk
end
section
open Go.RowKit
namespace Un
open Cal
theorem DJ(y k:Int):(y.tmod k==0)=decide (y % k=0):=by
 rw[aQP];simp only[aFy,aEv];exact⟨fun h=>Int.emod_eq_zero_of_dvd (a1W h),fun h=>a0M (Int.dvd_of_emod_eq_zero h)⟩
theorem aAf(y k:Int):(y.tmod k !=0)= !decide (y % k=0):=by
 rw[<-DJ];rfl
end Un
end
section
open Go.RowKit
namespace Un
open Cal
end Un
end
section
open Go.RowKit
namespace Un
open Cal
end Un
end
section
open Go.RowKit Go.Lib
namespace Bk
open Un (ba bt ri rb dO eY)
theorem own_below{w w':World}{B e size n:Nat}{v:Value}{xs:List Value}(h:w.ownsRow B e size v n xs)(hb:Below w.heap.size w w'):w'.ownsRow B e size v n xs:=by
 refine⟨h.1,?_⟩;rcases h.2 with hn|⟨g,cap,cur,rfl,hg,hgg,rest⟩
 . exact .inl hn
 exact .inr ⟨g,cap,cur,rfl,hg,by rw[hb.block g (aFU.1 hgg).1];exact hgg,rest⟩
theorem JO(y m:Int)(w:World)(m0:1<=m)(m1:m<=12):Calls Tryz.prog 112 #[.int .i64 y,.int .i64 m] w fun e w'=>e=.returned (.int .i64 (Cal.len y m))/\w=w':=by
 by_cases h2:m=2
 . subst h2;have t4:=Un.DJ y 4;have t1:=Un.aAf y 100;have t5:=Un.DJ y 400
   by_cases a:y % 4=0<;>by_cases b:y % 100=0<;>by_cases c:y % 400=0<;>
    simp only[a,b,c,decide_true,a19,a1Z,aWl]at t4 t1 t5<;>
    (have L:Hid (Cal.len y 2=if(decide (y % 4=0)&&(decide (y % 100≠0)||decide (y % 400=0)))then 29 else 28):=ZU (by
      unfold Cal.len Cal.lp Cal.leap;rw[aFw rfl];split<;>rfl)
     simp only[a,b,c,a1o,not_true_eq_false,not_false_eq_true,decide_true,a19,aVI,aWm,a2f,a1m,Bool.true_or,aVY,aQW,aMz]at L;clear a b c m0 m1
     go_enter Tryz.func112,Tryz.ntmps112
     go_wp2
     go_ret
     exact⟨ri (by first|exact L.out.symm|rfl),rfl⟩)
 have:m=1\/m=3\/m=4\/m=5\/m=6\/m=7\/m=8\/m=9\/m=10\/m=11\/m=12:=by omega
 rcases this with rfl|rfl|rfl|rfl|rfl|rfl|rfl|rfl|rfl|rfl|rfl<;>
  (clear m0 m1 h2
   go_enter Tryz.func112,Tryz.ntmps112
   go_wp2
   go_ret
   exact⟨ri (by unfold Cal.len;simp),rfl⟩)
theorem V6(d:Dt)(w:World)(hf:d.form=0):
 Calls Tryz.prog 198 #[eP d] w (aNj d.ms w):=by
 have hD:=Dm.new d w 30;have HS:=ZU (fun w=>qN d w);unfold eP at HS;have hbd:d.aG=0\/(21<=d.aG/\d.aG<=41):=lY d.mo;unfold eP;rcases jQ hf with⟨h1,h2,-⟩|⟨h1,h2,h3,-⟩|⟨h1,h2,-⟩
 . have x0:=LY h2;rw[Dt.rW h1];have z0:21<=d.aG:=by omega
   clear hbd h1 h2 hf;generalize d.aG=z at *
   go_enter Tryz.func198,Tryz.ntmps198
   go_upto_region 1 with(fail)
   generalize World.alloc _ _=W0 at hD ⊢;obtain⟨q0,q1,q2,q3,q4,q5,q6,q7,q8,q9,qB⟩:=id hD
   go_wp2_with (go_at_call 44;with_reducible refine(HS.out _).mono ?_;rintro _ w' ⟨rfl,hb⟩;replace hD:=hD.later (by first|exact hb|exact bt (aDl _ _).drew hb|exact bt (aDl _ _).drew.drew hb|exact bt (aDl _ _).drew.drew.drew hb);clear hb;obtain⟨q0,q1,q2,q3,q4,q5,q6,q7,q8,q9,qB⟩:=id hD)
   go_ret
   exact⟨_,rfl,dM.lit (w:=w) z,ba hD.below _⟩
 . have x0:=LY h2;obtain⟨s2,sx,sn⟩:=iZ (by omega) h3;rw[Dt.xA h1 h2];rw[h1]at HS;have HT:=ZU (fun(k:Nat) (hk:k<12) (x:Int) (hx:x=if jS d.mo ((k:Int)+1)then 1 else 0) w=>(by rw[hx];exact vX d.mo (k+1) w (by omega):Calls Tryz.prog 197 #[.string d.mo,.int .i64 ((k:Int)+1)] w fun r w'=>r=.returned (.int .i64 x)/\Below w.heap.size w w'));have SN:=ZU sn;obtain⟨i0,hi,hz0,hz1,hz2⟩:=a1O BO;have HI:=ZU hi;have HZ0:=ZU hz0;have HZ1:=ZU hz1;have HZ2:=ZU hz2;clear hbd h1 h2 h3 hf sn sx s2 hi hz0 hz1 hz2
   go_enter Tryz.func198,Tryz.ntmps198
   go_upto_region 1 with(fail)
   generalize World.alloc _ _=W0 at hD ⊢;obtain⟨q0,q1,q2,q3,q4,q5,q6,q7,q8,q9,qB⟩:=id hD
   go_wp2_with (go_at_call 44;with_reducible refine(HS.out _).mono ?_;rintro _ w' ⟨rfl,hb⟩;replace hD:=hD.later (by first|exact hb|exact bt (aDl _ _).drew hb|exact bt (aDl _ _).drew.drew hb|exact bt (aDl _ _).drew.drew.drew hb);clear hb;obtain⟨q0,q1,q2,q3,q4,q5,q6,q7,q8,q9,qB⟩:=id hD)
   go_loopw [3,4] (fun v i wr=> ∃k:Nat,k<=12/\i=.int .i64 ((k:Int)+1)/\wr.ownsRow w'.heap.size 3 1 v (eX d.mo k).length ((eX d.mo k).map (Value.int .i64))/\Below w'.heap.size w' wr) (fun _ i _=>13 - (intOf i).toNat)
   case atStart=>exact⟨0,aLm _,rfl,aWh _ _ _ _,aDl _ _⟩
   case round=>
    obtain⟨k,hk,rfl,hown,hb⟩:=hrel;clear q0 q1 q2 q3 q4 q5 q6 q7 q8 q9 qB
    by_cases hlt:k<12
    . have hle:=aCV d.mo k;have hD2:=hD.later hb;obtain⟨q0,q1,q2,q3,q4,q5,q6,q7,q8,q9,qB⟩:=id hD2
      cases ha:jS d.mo ((k:Int)+1)
      . as_aux_lemma=>
         have HA:=ZU (fun w=>HT.out k hlt 0 (by rw[ha];rfl) w);have HE:=ZU (LQ ha);have HO:=ZU hown;have HB:=ZU hb;clear ha hown hb
         go_wp2_with (go_at_call 197;with_reducible refine(HA.out _).mono ?_;rintro _ w2 ⟨rfl,hb⟩)
         have HB2:=ZU (bt HB.out hb);have hO2:=ZU (own_below HO.out hb)
         go_roundw
         case rel=>exact⟨k+1,by omega,by go_num,by rw[HE.out];exact hO2.out,HB2.out⟩
         case measure=>simp[intOf];omega
      as_aux_lemma=>
       have HA:=ZU (fun w=>HT.out k hlt 1 (by rw[ha];rfl) w);have HE:=ZU (EC ha);have HO:=ZU hown;have HB:=ZU hb;clear ha hown hb
       go_wp2_with (first
        |(go_at_call 197;with_reducible refine(HA.out _).mono ?_;rintro _ w2 ⟨rfl,hb⟩;have hown:=own_below HO.out hb;have hB1:=bt HB.out hb)
        |(at_builtin;refine aZI _ rfl _ _ 165 rfl w'.heap.size 3 i0 (.int .i64 0) 1 8 Tryz.underlying165 HI.out HZ0.out HZ1.out HZ2.out rfl (by decide) _ _ _ rfl (hown.alloc _) ⟨w2.heap.size,0,none⟩ 1 1 [.int .i64 ((k:Int)+1)] rfl rfl ?c1 ?c2 ?c3 ?c4 ?c5 ?_))
       case c1=>
        intro j u hj
        match j,hj with
        |0,hj=>simp at hj;subst hj;simp[Addr.add]
       case c2=>intro u hu;simp at hu;subst hu;rfl
       case c3=>unfold maxLen;omega
       case c4=>omega
       case c5=>have:=hB1.size;simp;omega
       intro v' w3 hown' hgrow _;have hB2:=(hB1.alloc hB1.size (.cells #[.int .i64 ((k:Int)+1)] 3)).grown hgrow (by have:=hB1.size;simp;omega) (fun j hj=>(hown.lt j hj).1);have hO2:w3.ownsRow w'.heap.size 3 1 v' (eX d.mo (k+1)).length ((eX d.mo (k+1)).map (Value.int .i64)):=by rw[HE.out];simpa using hown'
       replace hB2:=ZU hB2;replace hO2:=ZU hO2;clear hown' hgrow hown hB1
       go_wp2
       go_roundw
       case rel=>exact⟨k+1,by omega,by go_num,hO2.out,hB2.out⟩
       case measure=>simp[intOf];omega
    as_aux_lemma=>
     obtain rfl:k=12:=by omega
     have hS:=dM.own hown SN.out;have HB:=ZU (bt hD.below hb);replace hS:=ZU hS;clear hown hb HT
     go_wp2
     go_ret
     exact⟨_,rfl,hS.out,HB.out⟩
 have x0:=TS h2;rw[Dt.BG h1 h2];clear hbd h1 h2 hf HS
 go_enter Tryz.func198,Tryz.ntmps198
 go_upto_region 1 with(fail)
 generalize World.alloc _ _=W0 at hD ⊢;obtain⟨q0,q1,q2,q3,q4,q5,q6,q7,q8,q9,qB⟩:=id hD
 go_wp2_with fail
 go_ret
 exact⟨_,rfl,dM.lit (w:=w) 0,ba hD.below _⟩
end Bk
end
section
open Go.RowKit Go.Lib
namespace Bk
open Un (ba bt ri rb dO eY)
def Dt.yl(d:Dt)(y m:Int):List Int:=if d.da.size=0 then[0]else eX d.da (Cal.len y m).toNat
def aUR(y m k:Int):List Value:=[.int .i64 y,.int .i64 m,.int .i64 k]
def tZ(y m:Int)(l:List Int):List Value:=l.flatMap fun k=>aUR y m k
def Dt.qW(d:Dt)(y:Int)(ms:List Int):Nat:=(ms.map fun m=>(d.yl y m).length).sum
def Dt.qX(d:Dt)(y:Int)(ms:List Int):List Value:=ms.flatMap fun m=>tZ y m (d.yl y m)
theorem XO(y m:Int)(l:List Int)(k:Int):tZ y m (l++[k])=tZ y m l++aUR y m k:=by unfold tZ;rw[aYR];simp
theorem Dt.aDk(d:Dt)(y:Int)(ms:List Int)(m:Int):d.qW y (ms++[m])=d.qW y ms+(d.yl y m).length:=by unfold Dt.qW;simp
theorem Dt.UZ(d:Dt)(y:Int)(ms:List Int)(m:Int):d.qX y (ms++[m])=d.qX y ms++tZ y m (d.yl y m):=by unfold Dt.qX;rw[aYR];simp
theorem aHx{d:Dt}{y m k:Int}:k ∈ d.yl y m↔(k ∈ d.ds/\k<=d.len y m):=by
 have hl:=Cal.vZ y m;unfold Dt.yl Dt.len Dt.ds
 by_cases c:d.da.size=0
 . rw[aFw c,aFw c,aFw c];simp;omega
 rw[aFv c,aFv c,aFv c,iR,iR];constructor
 . rintro⟨h1,h2,h3⟩;exact⟨⟨h1,by omega,h3⟩,by omega⟩
 rintro⟨⟨h1,h2,h3⟩,h4⟩;exact⟨h1,by omega,h3⟩
theorem aCl(d:Dt)(y:Int): ∀ms:List Int,d.qW y ms<=31 * ms.length
 |[]=>aLm _
 | m::r=>by
  have:=aCl d y r;have h2:(d.yl y m).length<=31:=by
   unfold Dt.yl
   split
   . simp
   have:=oW d.da (Cal.len y m).toNat;have:=Cal.vZ y m;omega
  unfold Dt.qW at *;simp at *;omega
theorem aGD{w:World}{base base':Nat}{e:TypeId}{size:Nat}{v:Value}{n:Nat}{xs:List Value}(h:w.ownsRow base e size v n xs)(hb:base'<=base):w.ownsRow base' e size v n xs:=
 ⟨h.1,h.2.imp id fun⟨g,cap,cur,h1,h2,h3⟩=>⟨g,cap,cur,h1,aJi hb h2,h3⟩⟩
theorem aHW:(Tryz.prog.info? 163).map (fun i=>(i.zero,i.size,i.bytes))=some (some (.agg #[.int .i64 0,.int .i64 0,.int .i64 0]),3,24):=by kernel_rfl
def aVE(d:Dt)(y:Int)(w:World)(e:Ending)(w':World):Prop:= ∃v,e=.returned v/\w'.ownsRow w.heap.size 163 3 v (d.qW y d.ms) (d.qX y d.ms)/\Below w.heap.size w w'
theorem aKw (d:Dt) (y:Int) (w:World) (hf:d.form=0):
 Calls Tryz.prog 159 #[eP d,.int .i64 y] w (aVE d y w):=by
 have hD:=Dm.new d w 30;have HM:=ZU (fun w=>V6 d w hf);have hmm:=ZU (fmm hf);have hml:=d.aHq;unfold eP at HM;unfold eP;obtain⟨i0,hi,hz0,hz1,hz2⟩:=a1O aHW;have HI:=ZU hi;have HZ0:=ZU hz0;have HZ1:=ZU hz1;have HZ2:=ZU hz2;clear hi hz0 hz1 hz2 hf
 go_enter Tryz.func159,Tryz.ntmps159
 go_upto_region 1 with(fail)
 generalize World.alloc _ _=W0 at hD ⊢;obtain⟨q0,q1,q2,q3,q4,q5,q6,q7,q8,q9,qB⟩:=id hD
 go_wp2_with (go_at_call 198;refine(HM.out _).mono ?_;rintro _ w1 ⟨mv,rfl,hm,hb⟩;replace hD:=hD.later hb;clear hb)
 clear HM;obtain⟨gm,cm,rfl,hg,hc⟩:=hm;have HC:=ZU hc;clear hc q0 q1 q2 q3 q4 q5 q6 q7 q8 q9 qB;have HW1:=ZU hD.below
 go_loopw [5,7] (fun v i wr=> ∃k:Nat,k<=d.ms.length/\i=.int .i64 k/\wr.ownsRow w1.heap.size 163 3 v (d.qW y (d.ms.take k)) (d.qX y (d.ms.take k))/\Below w1.heap.size w1 wr) (fun _ i _=>14 - (intOf i).toNat)
 case atStart=>exact⟨0,aLm _,rfl,aWh _ _ _ _,aDl _ _⟩
 case round =>
  obtain⟨k,hk,rfl,hown,hb⟩:=hrel;have hD2:=hD.later hb;obtain⟨q0,q1,q2,q3,q4,q5,q6,q7,q8,q9,qB⟩:=id hD2
  by_cases hlt:k<d.ms.length
  . have hcell:wr.cell? ⟨gm,k,none⟩=some (.int .i64 (d.ms[k]'hlt)):=(hb.cell (p:=⟨gm,k,none⟩) hg).trans (HC.out k hlt);have htk:d.ms.take (k+1)=d.ms.take k++[d.ms[k]'hlt]:=by rw[a1n hlt]
    have HL1:=ZU (htk ▸ d.aDk y (d.ms.take k) (d.ms[k]'hlt):d.qW y (d.ms.take (k+1))=d.qW y (d.ms.take k)+(d.yl y (d.ms[k]'hlt)).length);have HL2:=ZU (htk ▸ d.UZ y (d.ms.take k) (d.ms[k]'hlt):d.qX y (d.ms.take (k+1))=d.qX y (d.ms.take k)++tZ y (d.ms[k]'hlt) (d.yl y (d.ms[k]'hlt)));have hle:=aCl d y (d.ms.take k);have htl:(d.ms.take k).length<=k:=List.length_take_le _ _;have aPC:=fun h=>hmm.out h (d.ms[k]'hlt) (aVJ hlt);generalize d.qW y (d.ms.take k)=N0 at *;generalize d.qX y (d.ms.take k)=C0 at *;have HM0:=ZU (HC.out k hlt);generalize (d.ms[k]'hlt)=m at *;clear htk;rcases jY d.da with⟨e1,x1⟩|⟨e1,x1⟩
    . have eyl:d.yl y m=[0]:=by unfold Dt.yl;rw[aFw e1]
      rw[eyl]at HL1 HL2;have HB:=ZU hb;clear eyl aPC e1 hb
      as_aux_lemma=>
       go_wp2_with (at_builtin;refine aZI _ rfl _ _ 232 rfl w1.heap.size 163 i0 (.agg #[.int .i64 0,.int .i64 0,.int .i64 0]) 3 24 Tryz.underlying232 HI.out HZ0.out HZ1.out HZ2.out rfl (by decide) _ _ _ rfl (hown.alloc _) ⟨wr.heap.size,0,none⟩ 1 1 [.int .i64 y,.int .i64 m,.int .i64 0] rfl rfl ?c1 ?c2 ?c3 ?c4 ?c5 ?_)
       case c1=>
        intro j u hj
        match j,hj with
        |0,hj=>simp at hj;subst hj;simp[Addr.add]
        |1,hj=>simp at hj;subst hj;simp[Addr.add]
        |2,hj=>simp at hj;subst hj;simp[Addr.add]
       case c2=>intro u hu;simp at hu;rcases hu with rfl|rfl|rfl<;>rfl
       case c3=>unfold maxLen;omega
       case c4=>omega
       case c5=>have:=HB.out.size;simp;omega
       intro v' w3 hown' hgrow _;have hB2:=(HB.out.alloc HB.out.size (.cells #[.int .i64 y,.int .i64 m,.int .i64 0] 163)).grown hgrow (by have:=HB.out.size;simp;omega) (fun j hj=>(hown.lt j hj).1);have hO2:w3.ownsRow w1.heap.size 163 3 v' (d.qW y (d.ms.take (k+1))) (d.qX y (d.ms.take (k+1))):=by rw[HL1.out,HL2.out];exact hown'
       replace hB2:=ZU hB2;replace hO2:=ZU hO2;clear hown' hgrow hown
       go_wp2
       go_roundw
       case rel=>exact⟨k+1,by omega,by go_num,hO2.out,hB2.out⟩
       case measure=>simp[intOf];omega
    obtain ⟨m0,m12⟩:=aPC e1;have eyl:d.yl y m=eX d.da (Cal.len y m).toNat:=by unfold Dt.yl;rw[aFv e1]
    have hlb:=Cal.vZ y m;have HLen:=ZU (fun w=>JO y m w m0 m12);rw[eyl]at HL1 HL2;have HT:=ZU (fun(j:Nat) (hj:j<31) (x:Int) (hx:x=if jS d.da ((j:Int)+1)then 1 else 0) w=>(by rw[hx];exact vX d.da (j+1) w (by omega):Calls Tryz.prog 197 #[.string d.da,.int .i64 ((j:Int)+1)] w fun r w'=>r=.returned (.int .i64 x)/\Below w.heap.size w w'));obtain⟨L,hL⟩: ∃L:Nat,Cal.len y m=L:=⟨(Cal.len y m).toNat,by omega⟩;rw[hL]at HLen HL1 HL2 hlb;rw[aPt]at HL1 HL2;clear eyl aPC e1 hL m0 m12;have HB:=ZU hb;clear hb
    go_wp2
    clear q0 q1 q2 q3 q4 q5 q6 q7 q8 q9 qB
    go_loopw [5,8] (fun v i wr2=> ∃j:Nat,j<=L/\i=Value.int .i64 ((j:Int)+1)/\wr2.ownsRow w1.heap.size 163 3 v (N0+(eX d.da j).length) (C0++tZ y m (eX d.da j))/\Below w1.heap.size w1 wr2) (fun _ i _=>33 - (intOf i).toNat)
    case atStart=>exact⟨0,aLm _,rfl,by simpa[eX,tZ]using hown,HB.out⟩
    case round=>
     obtain⟨j,hj,rfl,hown,hb⟩:=hrel;have hD2:=hD.later hb;obtain⟨q0,q1,q2,q3,q4,q5,q6,q7,q8,q9,qB⟩:=id hD2;have hcell:wr.cell? ⟨gm,k,none⟩=some (.int .i64 m):=by exact(hb.cell (p:=⟨gm,k,none⟩) hg).trans HM0.out
     by_cases hlt2:j<L
     . have hle2:=oW d.da j
       cases ha:jS d.da ((j:Int)+1)
       . have HA:=ZU (fun w=>HT.out j (by omega) 0 (by rw[ha];rfl) w);have HE:=ZU (LQ ha);have HO:=ZU hown;have HB3:=ZU hb;clear ha hown hb
         as_aux_lemma=>
          go_wp2_with (first
           |(go_at_call 112;with_reducible refine(HLen.out _).mono ?_;rintro _ w' ⟨rfl,rfl⟩)
           |(go_at_call 197;with_reducible refine(HA.out _).mono ?_;rintro _ w4 ⟨rfl,hb⟩))
          have HB4:=ZU (bt HB3.out hb);have hO2:=ZU (own_below HO.out hb)
          go_roundw
          case rel=>exact⟨j+1,by omega,by go_num,by rw[HE.out];exact hO2.out,HB4.out⟩
          case measure=>simp[intOf];omega
       have HA:=ZU (fun w=>HT.out j (by omega) 1 (by rw[ha];rfl) w);have HE:=ZU (EC ha);have HO:=ZU hown;have HB3:=ZU hb;clear ha hown hb
       as_aux_lemma=>
        go_wp2_with (first
         |(go_at_call 112;with_reducible refine(HLen.out _).mono ?_;rintro _ w' ⟨rfl,rfl⟩)
         |(go_at_call 197;with_reducible refine(HA.out _).mono ?_;rintro _ w4 ⟨rfl,hb⟩;have hown:=own_below HO.out hb;have hB1:=bt HB3.out hb;have hcell2:w4.cell? ⟨gm,k,none⟩=some (.int .i64 m):=(hB1.cell (p:=⟨gm,k,none⟩) hg).trans HM0.out)
         |(at_builtin;refine aZI _ rfl _ _ 232 rfl w1.heap.size 163 i0 (.agg #[.int .i64 0,.int .i64 0,.int .i64 0]) 3 24 Tryz.underlying232 HI.out HZ0.out HZ1.out HZ2.out rfl (by decide) _ _ _ rfl (hown.alloc _) ⟨w4.heap.size,0,none⟩ 1 1 [.int .i64 y,.int .i64 m,.int .i64 ((j:Int)+1)] rfl rfl ?c1 ?c2 ?c3 ?c4 ?c5 ?_))
        case c1=>
         intro j u hj
         match j,hj with
         |0,hj=>simp at hj;subst hj;simp[Addr.add]
         |1,hj=>simp at hj;subst hj;simp[Addr.add]
         |2,hj=>simp at hj;subst hj;simp[Addr.add]
        case c2=>intro u hu;simp at hu;rcases hu with rfl|rfl|rfl<;>rfl
        case c3=>unfold maxLen;omega
        case c4=>omega
        case c5=>have:=hB1.size;simp;omega
        intro v' w3 hown' hgrow _;have hB2:=(hB1.alloc hB1.size (.cells #[.int .i64 y,.int .i64 m,.int .i64 ((j:Int)+1)] 163)).grown hgrow (by have:=hB1.size;simp;omega) (fun j hj=>(hown.lt j hj).1);have hO2:w3.ownsRow w1.heap.size 163 3 v' (N0+(eX d.da (j+1)).length) (C0++tZ y m (eX d.da (j+1))):=by
         rw[HE.out,XO,aM5,<-aMC];exact hown'
        replace hB2:=ZU hB2;replace hO2:=ZU hO2;clear hown' hgrow hown
        go_wp2
        go_roundw
        case rel=>exact⟨j+1,by omega,by go_num,hO2.out,hB2.out⟩
        case measure=>simp[intOf];omega
     obtain rfl:j=L:=by omega
     have hO2:wr.ownsRow w1.heap.size 163 3 u5 (d.qW y (d.ms.take (k+1))) (d.qX y (d.ms.take (k+1))):=by rw[HL1.out,HL2.out];exact hown
     replace hO2:=ZU hO2;have HB3:=ZU hb;clear hown hb
     as_aux_lemma=>
      go_wp2_with (go_at_call 112;with_reducible refine(HLen.out _).mono ?_;rintro _ w' ⟨rfl,rfl⟩)
      go_roundw
      case rel=>exact⟨k+1,by omega,by go_num,hO2.out,HB3.out⟩
      case measure=>simp[intOf];omega
  obtain rfl:k=d.ms.length:=by omega
  rw[List.take_length]at hown;have HO:=ZU (aGD hown HW1.out.size);have HB:=ZU (bt HW1.out hb);clear hown hb HC hmm
  go_wp2
  go_ret
  exact⟨_,rfl,HO.out,HB.out⟩
theorem UU{d:Dt}{y:Int}:0<d.qW y d.ms↔ ∃m k,m ∈ d.ms/\k ∈ d.ds/\k<=d.len y m:=by
 unfold Dt.qW;constructor
 . intro h
   by_cases c: ∃m,m ∈ d.ms/\d.yl y m≠[]
   . obtain⟨m,hm,hn⟩:=c;obtain⟨k,hk⟩:=List.exists_mem_of_ne_nil _ hn;exact⟨m,k,hm,aHx.1 hk⟩
   exfalso;have:(d.ms.map fun m=>(d.yl y m).length).sum=0:=by
    have h2: ∀l:List Int,(∀m,m ∈ l->d.yl y m=[])->(l.map fun m=>(d.yl y m).length).sum=0:=by
     intro l
     induction l with
     |nil=>intro _;rfl
     |cons a l ih=>intro h;simp[h a (aHS ..),ih (fun m hm=>h m (aJj _ hm))]
    exact h2 d.ms (fun m hm=>by
     cases e:d.yl y m with
     |nil=>rfl
     |cons a l=>exact absurd ⟨m,hm,by rw[e];simp⟩ c)
   omega
 rintro⟨m,k,hm,hk⟩;have hk:=aHx.2 hk;have h2: ∀l:List Int,m ∈ l->0<(l.map fun m=>(d.yl y m).length).sum:=by
  intro l
  induction l with
  |nil=>intro h;cases h
  |cons a l ih=>
   intro h;rcases aGv.1 h with rfl|h
   . have:0<(d.yl y m).length:=List.length_pos_of_mem hk;simp;omega
   have:=ih h;simp;omega
 exact h2 d.ms hm
theorem aDV{w:World}{base:Nat}{e:TypeId}{size:Nat}{v:Value}{n:Nat}{xs:List Value}(h:w.ownsRow base e size v n xs): ∃bs cp,v=.slice bs n cp:=by
 rcases h.2 with⟨rfl,rfl⟩|⟨g,cap,cur,rfl,_⟩
 . exact⟨none,0,rfl⟩
 exact⟨_,_,rfl⟩
theorem V5 (d:Dt) (w:World) (hy:d.dg.size<=1000) (hf:d.form=0) (hs:d.sig<=0):
 Calls Tryz.prog 110 #[eP d] w (aNk (∃y m k,d.Fill y m k) w):=by
 have hk:=(Dt.kV (Dt.mP hf).1).1;have hD:=Dm.new d w 30;have HSP:=ZU (fun w=>aDP d w hy hk hs);have HIN:=ZU (fun y w h0 h1=>aKx d y w hy hk hs h0 h1);have HYL:=ZU (fun y w=>aKw d y w hf);unfold yv at HSP HIN;unfold eP at HYL;unfold eP;obtain⟨P,hP⟩: ∃P:Prop,P= ∃y m k,d.Fill y m k:=⟨_,rfl⟩;rw[<-hP];have HP1:Hid (∀y,d.In y->0<d.qW y d.ms->P):=ZU (fun y h1 h2=>by
  obtain⟨m,k,hm,hk⟩:=UU.1 h2;rw[hP];exact⟨y,m,k,h1,hm,hk⟩)
 have HP2:Hid (∀a b:Int,(∀y,d.In y->a<=y/\y<=b)->(∀y,a<=y->y<=b->d.In y->d.qW y d.ms=0)-> ¬P):=ZU (fun a b h1 h2 c=>by
  rw[hP]at c;obtain⟨y,m,k,f1,f2,f3⟩:=c;have:=h1 y f1;have h0:=h2 y this.1 this.2 f1;have:=UU.2 ⟨m,k,f2,f3⟩;omega)
 clear hP hk hf
 go_enter Tryz.func110,Tryz.ntmps110
 go_upto_region 1 with(fail)
 generalize World.alloc _ _=W0 at hD ⊢;obtain⟨q0,q1,q2,q3,q4,q5,q6,q7,q8,q9,qB⟩:=id hD
 go_wp2_with (go_at_call 157;refine(HSP.out _).mono ?_;rintro _ w1 ⟨a,b,hab,a0,b0,rfl,hb⟩;replace hD:=hD.later hb;clear hb)
 have HAB:=ZU hab;clear hab q0 q1 q2 q3 q4 q5 q6 q7 q8 q9 qB HSP
 go_loopw [5] (fun i wr=> ∃y:Int,a<=y/\(y<=b+1\/y=a)/\i=.int .i64 y/\(∀z,a<=z->z<y->d.In z->d.qW z d.ms=0)/\Dm w.heap.size d w wr) (fun i _=>(b+1 - intOf i).toNat)
 case atStart=>exact⟨a,by omega,.inr rfl,rfl,fun z h1 h2=>by omega,hD⟩
 case round=>
  obtain⟨y,hy0,hy1,rfl,hz,hD⟩:=hrel;obtain⟨q0,q1,q2,q3,q4,q5,q6,q7,q8,q9,qB⟩:=id hD;have HZ:=ZU hz;clear hz
  by_cases hlt:y<=b
  . have HI:=ZU (fun w=>HIN.out y w (by omega) (by omega))
    by_cases hi:d.In y
    . have HI2:Hid (∀w,Calls Tryz.prog 158 #[.agg #[.bool d.neg,.bool d.long,.string d.dg,.int .i64 d.ex,.int .i64 d.sig],.int .i64 y] w fun r w'=>r=.returned (.int .i64 1)/\Below w.heap.size w w'):=ZU (fun w=>by
       refine(HI.out w).mono ?_;rintro e w' ⟨x,⟨rfl,_⟩|⟨rfl,h⟩,rfl,hb⟩
       . exact⟨rfl,hb⟩
       exact absurd hi h)
      have hL: ∀w,Calls Tryz.prog 159 #[.agg #[.bool d.neg,.bool d.long,.string d.dg,.int .i64 d.ex,.int .i64 d.sig,.string d.mo,.string d.da,.int .u8 d.m0,.int .u8 d.m1,.int .u8 d.m2],.int .i64 y] w fun r w'=>(∃bs cp,r=.returned (.slice bs (d.qW y d.ms) cp))/\Below w.heap.size w w':=fun w=>by
       refine(HYL.out y w).mono ?_;rintro e w' ⟨v,rfl,hown,hb⟩;obtain⟨bs,cp,rfl⟩:=aDV hown;exact⟨⟨bs,cp,rfl⟩,hb⟩
      by_cases hn:d.qW y d.ms=0
      . rw[hn]at hL;have HL:=ZU hL;have HN:=ZU hn;clear hL hn HI HYL HIN
        as_aux_lemma=>
         go_wp2_with (first
          |(go_at_call 158;with_reducible refine(HI2.out _).mono ?_;rintro _ w2 ⟨rfl,hb⟩;replace hD:=hD.later (by first|exact hb|exact bt (aDl _ _).drew hb|exact bt (aDl _ _).drew.drew hb|exact bt (aDl _ _).drew.drew.drew hb);clear hb;obtain⟨q0,q1,q2,q3,q4,q5,q6,q7,q8,q9,qB⟩:=id hD)
          |(go_at_call 159;with_reducible refine(HL.out _).mono ?_;rintro _ w3 ⟨⟨bs,cp,rfl⟩,hb⟩;replace hD:=hD.later (by first|exact hb|exact bt (aDl _ _).drew hb|exact bt (aDl _ _).drew.drew hb|exact bt (aDl _ _).drew.drew.drew hb);clear hb;obtain⟨q0,q1,q2,q3,q4,q5,q6,q7,q8,q9,qB⟩:=id hD))
         go_roundw
         case rel=>exact⟨y+1,by omega,.inl (by omega),by go_num,fun z h1 h2 h3=>by
          by_cases e:z=y
          . subst e;exact HN.out
          exact HZ.out z h1 (by omega) h3,hD⟩
         case measure=>simp[intOf];omega
      have HPP:=ZU (HP1.out y hi (by omega));obtain⟨N,hN⟩: ∃N,d.qW y d.ms=N+1:=⟨d.qW y d.ms - 1,by omega⟩;rw[hN]at hL;have HL:=ZU hL;clear hL hn HI HYL HIN hN
      as_aux_lemma=>
       go_wp2_with (first
        |(go_at_call 158;with_reducible refine(HI2.out _).mono ?_;rintro _ w2 ⟨rfl,hb⟩;replace hD:=hD.later (by first|exact hb|exact bt (aDl _ _).drew hb|exact bt (aDl _ _).drew.drew hb|exact bt (aDl _ _).drew.drew.drew hb);clear hb;obtain⟨q0,q1,q2,q3,q4,q5,q6,q7,q8,q9,qB⟩:=id hD)
        |(go_at_call 159;with_reducible refine(HL.out _).mono ?_;rintro _ w3 ⟨⟨bs,cp,rfl⟩,hb⟩;replace hD:=hD.later (by first|exact hb|exact bt (aDl _ _).drew hb|exact bt (aDl _ _).drew.drew hb|exact bt (aDl _ _).drew.drew.drew hb);clear hb;obtain⟨q0,q1,q2,q3,q4,q5,q6,q7,q8,q9,qB⟩:=id hD))
       all_goals first
        |(go_ret;exact⟨1,.inl ⟨rfl,HPP.out⟩,rfl,hD.below⟩)
        |(exfalso;omega)
    have HI2:Hid (∀w,Calls Tryz.prog 158 #[.agg #[.bool d.neg,.bool d.long,.string d.dg,.int .i64 d.ex,.int .i64 d.sig],.int .i64 y] w fun r w'=>r=.returned (.int .i64 0)/\Below w.heap.size w w'):=ZU (fun w=>by
     refine(HI.out w).mono ?_;rintro e w' ⟨x,⟨rfl,h⟩|⟨rfl,_⟩,rfl,hb⟩
     . exact absurd h hi
     exact⟨rfl,hb⟩)
    have HN:=ZU hi;clear HI HYL HIN hi
    as_aux_lemma=>
     go_wp2_with (go_at_call 158;with_reducible refine(HI2.out _).mono ?_;rintro _ w2 ⟨rfl,hb⟩;replace hD:=hD.later (by first|exact hb|exact bt (aDl _ _).drew hb|exact bt (aDl _ _).drew.drew hb|exact bt (aDl _ _).drew.drew.drew hb);clear hb;obtain⟨q0,q1,q2,q3,q4,q5,q6,q7,q8,q9,qB⟩:=id hD)
     go_roundw
     case rel=>exact⟨y+1,by omega,.inl (by omega),by go_num,fun z h1 h2 h3=>by
      by_cases e:z=y
      . subst e;exact absurd h3 HN.out
      exact HZ.out z h1 (by omega) h3,hD⟩
     case measure=>simp[intOf];omega
  have HNP:=ZU (HP2.out a b HAB.out (fun z h1 h2 h3=>HZ.out z h1 (by omega) h3));clear HZ HAB HYL HIN
  as_aux_lemma=>
   go_wp2
   go_ret
   exact⟨0,.inr ⟨rfl,HNP.out⟩,rfl,hD.below⟩
theorem Q7(d:Dt)(w:World)(hy:d.dg.size<=1000)(s0: -9223372036854775808<=d.sig)(s1:d.sig<9223372036854775808)(m0:0<=d.m0)(m1:0<=d.m1)(m2:0<=d.m2):
 Calls Tryz.prog 64 #[eP d] w fun r w'=>r=.returned (.int .i64 d.err)/\Below w.heap.size w w':=by
 have hD:=Dm.new d w 30;have HC:=ZU (fun w=>V7 d w hy s0 s1 m0 m1 m2);unfold eP at HC;obtain⟨R,hR⟩: ∃R,R=d.err:=⟨_,rfl⟩;rw[<-hR];unfold eP
 by_cases hf:d.form=0
 case neg=>
  rw[LX hf]at hR;rw[<-hR]at HC hf;clear hR
  go_enter Tryz.func64,Tryz.ntmps64
  go_upto_region 1 with(fail)
  generalize World.alloc _ _=W0 at hD ⊢;obtain⟨q0,q1,q2,q3,q4,q5,q6,q7,q8,q9,qB⟩:=id hD
  go_wp2_with (go_at_call 109;with_reducible refine(HC.out _).mono ?_;rintro _ w' ⟨rfl,hb⟩;replace hD:=hD.later (by first|exact hb|exact bt (aDl _ _).drew hb|exact bt (aDl _ _).drew.drew hb|exact bt (aDl _ _).drew.drew.drew hb);clear hb;obtain⟨q0,q1,q2,q3,q4,q5,q6,q7,q8,q9,qB⟩:=id hD)
  go_ret
  exact⟨rfl,hD.below⟩
 rw[hf]at HC;rcases jY d.da with⟨c,x⟩|⟨c,x⟩
 case inl=>
  rw[PO hf c]at hR;subst hR;clear c hf
  go_enter Tryz.func64,Tryz.ntmps64
  go_upto_region 1 with(fail)
  generalize World.alloc _ _=W0 at hD ⊢;obtain⟨q0,q1,q2,q3,q4,q5,q6,q7,q8,q9,qB⟩:=id hD
  go_wp2_with (go_at_call 109;with_reducible refine(HC.out _).mono ?_;rintro _ w' ⟨rfl,hb⟩;replace hD:=hD.later (by first|exact hb|exact bt (aDl _ _).drew hb|exact bt (aDl _ _).drew.drew hb|exact bt (aDl _ _).drew.drew.drew hb);clear hb;obtain⟨q0,q1,q2,q3,q4,q5,q6,q7,q8,q9,qB⟩:=id hD)
  go_ret
  exact⟨rfl,hD.below⟩
 have hsg:d.sig<=0:=by
  have:=(Dt.kV (Dt.mP hf).1).2.1
  by_cases g:0<d.sig
  . exact absurd (fmd hf (this g)) c
  omega
 have hS:=fun w=>V5 d w hy hf hsg;unfold eP at hS
 by_cases hP: ∃y m k,d.Fill y m k
 . have HS:Hid (∀w,Calls Tryz.prog 110 #[.agg #[.bool d.neg,.bool d.long,.string d.dg,.int .i64 d.ex,.int .i64 d.sig,.string d.mo,.string d.da,.int .u8 d.m0,.int .u8 d.m1,.int .u8 d.m2]] w fun r w'=>r=.returned (.int .i64 1)/\Below w.heap.size w w'):=ZU (fun w=>by
    refine(hS w).mono ?_;rintro e w' ⟨x,⟨rfl,_⟩|⟨rfl,h⟩,rfl,hb⟩
    . exact⟨rfl,hb⟩
    exact absurd hP h)
   have hR0:R=0:=by rw[hR];unfold Dt.err;rw[aFv (by omega),aFv (fun h=>h.2 hP)]
   subst hR0;clear hS hR hP hf c
   go_enter Tryz.func64,Tryz.ntmps64
   go_upto_region 1 with(fail)
   generalize World.alloc _ _=W0 at hD ⊢;obtain⟨q0,q1,q2,q3,q4,q5,q6,q7,q8,q9,qB⟩:=id hD
   go_wp2_with (first|(go_at_call 109;with_reducible refine(HC.out _).mono ?_;rintro _ w' ⟨rfl,hb⟩;replace hD:=hD.later (by first|exact hb|exact bt (aDl _ _).drew hb|exact bt (aDl _ _).drew.drew hb|exact bt (aDl _ _).drew.drew.drew hb);clear hb;obtain⟨q0,q1,q2,q3,q4,q5,q6,q7,q8,q9,qB⟩:=id hD)|(go_at_call 110;with_reducible refine(HS.out _).mono ?_;rintro _ w' ⟨rfl,hb⟩;replace hD:=hD.later (by first|exact hb|exact bt (aDl _ _).drew hb|exact bt (aDl _ _).drew.drew hb|exact bt (aDl _ _).drew.drew.drew hb);clear hb;obtain⟨q0,q1,q2,q3,q4,q5,q6,q7,q8,q9,qB⟩:=id hD))
   go_ret
   exact⟨rfl,hD.below⟩
 have HS:Hid (∀w,Calls Tryz.prog 110 #[.agg #[.bool d.neg,.bool d.long,.string d.dg,.int .i64 d.ex,.int .i64 d.sig,.string d.mo,.string d.da,.int .u8 d.m0,.int .u8 d.m1,.int .u8 d.m2]] w fun r w'=>r=.returned (.int .i64 0)/\Below w.heap.size w w'):=ZU (fun w=>by
  refine(hS w).mono ?_;rintro e w' ⟨x,⟨rfl,h⟩|⟨rfl,_⟩,rfl,hb⟩
  . exact absurd h hP
  exact⟨rfl,hb⟩)
 have hR0:R=8:=by rw[hR];unfold Dt.err;rw[aFv (by omega),aFw ⟨c,hP⟩]
 subst hR0;clear hS hR hP hf c
 go_enter Tryz.func64,Tryz.ntmps64
 go_upto_region 1 with(fail)
 generalize World.alloc _ _=W0 at hD ⊢;obtain⟨q0,q1,q2,q3,q4,q5,q6,q7,q8,q9,qB⟩:=id hD
 go_wp2_with (first|(go_at_call 109;with_reducible refine(HC.out _).mono ?_;rintro _ w' ⟨rfl,hb⟩;replace hD:=hD.later (by first|exact hb|exact bt (aDl _ _).drew hb|exact bt (aDl _ _).drew.drew hb|exact bt (aDl _ _).drew.drew.drew hb);clear hb;obtain⟨q0,q1,q2,q3,q4,q5,q6,q7,q8,q9,qB⟩:=id hD)|(go_at_call 110;with_reducible refine(HS.out _).mono ?_;rintro _ w' ⟨rfl,hb⟩;replace hD:=hD.later (by first|exact hb|exact bt (aDl _ _).drew hb|exact bt (aDl _ _).drew.drew hb|exact bt (aDl _ _).drew.drew.drew hb);clear hb;obtain⟨q0,q1,q2,q3,q4,q5,q6,q7,q8,q9,qB⟩:=id hD))
 go_ret
 exact⟨rfl,hD.below⟩
end Bk
end
section
open Go.RowKit Go.Lib
namespace Sk
def xX(d:Bk.Dt):Bool:=Bk.hasB 88 (d.dg++d.mo++d.da)
open Un (ba bt ri rb)
open Bk (Rw Dt eP hasB bH)
open Cal (st lp len oI)
theorem YW(d:Dt)(w:World)(hs:d.mo.size<=1000)(hy:d.dg.size<=1000)(ha:d.da.size<=1000):
 Calls Tryz.prog 165 #[eP d] w fun r w'=>r=.returned (.bool (xX d))/\Below w.heap.size w w':=by
 have hD:=Bk.Dm.new d w 30;have HC: ∀W,Calls Tryz.prog 215 #[.string (d.dg++d.mo++d.da),.string ⟨#[88]⟩] W fun e w'=>e=.returned (.bool (hasB 88 (d.dg++d.mo++d.da)))/\w'=W:=by
  intro W;have:=Tryz.strings_Contains_one (d.dg++d.mo++d.da) 88 W;rw[Bk.rC]at this;exact this
 unfold xX eP;generalize hasB 88 (d.dg++d.mo++d.da)=b at *;have e1:(d.dg++d.mo).size=d.dg.size+d.mo.size:=by simp
 have e2:(d.dg++d.mo++d.da).size=d.dg.size+d.mo.size+d.da.size:=by simp
 replace HC:=ZU HC
 go_enter Tryz.func165,Tryz.ntmps165
 go_upto_region 1 with(fail)
 generalize World.alloc _ _=W0 at hD ⊢;obtain⟨q0,q1,q2,q3,q4,q5,q6,q7,q8,q9,qB⟩:=id hD
 go_wp2_with (go_at_call 215;with_reducible refine(HC.out _).mono ?_;rintro _ w' ⟨rfl,rfl⟩)
 go_ret
 exact⟨rfl,hD.below⟩
def exN(d:Dt):Int:=if xX d then 0 else if d.sig=0 then 1 else 0
theorem Q5(d:Dt)(w:World)(hs:d.mo.size<=1000)(hy:d.dg.size<=1000)(ha:d.da.size<=1000):
 Calls Tryz.prog 70 #[eP d] w fun r w'=>r=.returned (.int .i64 (exN d))/\Below w.heap.size w w':=by
 have hD:=Bk.Dm.new d w 30;obtain⟨R,hR⟩: ∃R:Int,R=exN d:=⟨_,rfl⟩;rw[<-hR];have HR:Hid ((∀k (h:k<(d.dg++d.mo++d.da).size),((((d.dg++d.mo++d.da)[k]'h).toNat:Int))=88->R=0)/\(d.sig≠0->R=0)/\((∀k,k<(d.dg++d.mo++d.da).size->bH (d.dg++d.mo++d.da) k≠88)->d.sig=0->R=1)):=ZU (by
  rw[hR];unfold exN xX;generalize d.dg++d.mo++d.da=s;refine⟨fun k h e=>?_,fun h=>?_,fun h h2=>?_⟩
  . rw[(Bk.KW 88 s).2 ⟨k,h,by rw[Bk.bU s k h];exact e⟩];rfl
  . rw[aFv h];split<;>rfl
  have:hasB 88 s=false:=by
   rw[aNn];intro c;obtain⟨i,hi,he⟩:=(Bk.KW 88 s).1 c;exact h i hi he
  rw[this,aFw h2];rfl)
 clear hR;unfold eP;have e1:(d.dg++d.mo).size=d.dg.size+d.mo.size:=by simp
 have e2:(d.dg++d.mo++d.da).size=d.dg.size+d.mo.size+d.da.size:=by simp
 go_enter Tryz.func70,Tryz.ntmps70
 go_upto_region 1 with(fail)
 generalize World.alloc _ _=W0 at hD ⊢;obtain⟨q0,q1,q2,q3,q4,q5,q6,q7,q8,q9,qB⟩:=id hD
 go_wp2
 generalize d.dg++d.mo++d.da=s at *
 go_loop [4] (fun i=> ∃k:Nat,k<=s.size/\i=.int .i64 k/\ ∀j,j<k->bH s j≠88) (fun i=>s.size - (intOf i).toNat)
 case atStart=>exact⟨0,aLm _,rfl,fun j h=>by omega⟩
 case round=>
  obtain⟨k,hk,rfl,hn⟩:=hrel;have HN:=ZU hn;clear hn
  by_cases hlt:k<s.size
  . by_cases c:((s[k]'hlt).toNat:Int)=88
    . have hv:=HR.out.1 k hlt c
      go_wp2
      go_ret
      exact⟨ri (by first|rfl|exact hv.symm),hD.below⟩
    go_wp2
    go_round
    case rel=>exact⟨k+1,by omega,by go_num,fun j hj=>by
     by_cases e:j=k
     . subst e;rw[Bk.bU s j hlt];exact c
     exact HN.out j (by omega)⟩
    case measure=>simp[intOf];omega
  obtain rfl:k=s.size:=by omega
  by_cases c:d.sig=0
  . have hv:=HR.out.2.2 HN.out c
    go_wp2
    go_ret
    exact⟨ri (by first|rfl|exact hv.symm),hD.below⟩
  have hv:=HR.out.2.1 c
  go_wp2
  go_ret
  exact⟨ri (by first|rfl|exact hv.symm),hD.below⟩
theorem aNR(n:Int):st (n * 400)=n * 146097:=by unfold st Cal.ZI;omega
theorem I4{y:Int}(h0: -10000000000001000<=y)(h1:y<=10000000000001000): -4000000000000000000<=st y/\st y<=4000000000000000000:=by unfold st Cal.ZI;omega
theorem len2(y:Int):len y 2=28+lp y:=by unfold len;simp
theorem E8(y:Int)(w:World)(h0: -10000000000000001<=y)(h1:y<=10000000000000001):
 Calls Tryz.prog 72 #[.int .i64 y] w fun r w'=>r=.returned (.int .i64 (st y))/\w=w':=by
 have HL:Hid (∀z W,Calls Tryz.prog 112 #[.int .i64 z,.int .i64 2] W fun e w'=>e=.returned (.int .i64 (28+lp z))/\W=w'):=ZU fun z W=>by
  have:=Bk.JO z 2 W (by decide) (by decide);rwa[len2]at this
 obtain⟨c1,c2,c3⟩:=@Un.ED y 400 (by omega);have bd:=@Un.CB y 400 (by omega) (by omega) (by omega)
 go_enter Tryz.func72,Tryz.ntmps72
 go_upto_if 10 with(fail)
 go_cut [3] (fun s3 wx=>s3=.int .i64 (y / 400)/\w=wx)
 case first=>
  by_cases hz:y.tmod 400<0
  . obtain⟨e1,e2⟩:=c1 ⟨by omega,by
     apply aZo;intro hy;have:=Int.tmod_nonneg 400 (show 0<=y by omega);omega⟩
    have w1:wrap64 (y.tdiv 400 - 1)=y / 400:=by rw[e1];exact Un.wrap_in bd.1 bd.2
    clear e1 e2 c1 c2 c3 bd HL
    go_wp2
    go_meet
    exact⟨by first|rfl|rw[w1],rfl⟩
  have k:y.tmod 400=0\/0<=y:=by
   by_cases h:y.tmod 400=0
   . exact .inl h
   have:=c3 h;exact .inr (by omega)
  obtain⟨e1,e2⟩:=c2 k;have E1:=ZU e1;clear e1 e2 c1 c2 c3 bd k HL
  go_wp2
  go_meet
  exact⟨by first|rfl|rw[E1.out],rfl⟩
 case rest=>
  obtain⟨rfl,rfl⟩:=hcut;clear c1 c2 c3 bd;obtain⟨n,hn⟩: ∃n:Int,n=y / 400:=⟨_,rfl⟩;rw[<-hn];have HN:=ZU hn;have v1:wrap64 (n * 146097)=n * 146097:=by unfold wrap64;omega
  have v2:wrap64 (n * 400)=n * 400:=by unfold wrap64;omega
  clear hn
  go_upto_block 0 with(fail)
  go_wp2
  simp only[v1,v2]
  go_loopw [4,5] (fun s4 s5 wr=> ∃k:Nat,n * 400+k<=y/\s5=.int .i64 (n * 400+k)/\s4=.int .i64 (st (n * 400+k))/\wr=w) (fun _ s5 _=>(y - intOf s5).toNat)
  case atStart=>exact⟨0,by have:=HN.out;omega,by simp,by rw[show n * 400+((0:Nat):Int)=n * 400 by omega,aNR],by first|rfl|trivial⟩
  case round=>
   obtain⟨k,hk,rfl,rfl,rfl⟩:=hrel;generalize hz:n * 400+(k:Int)=z at *;have zb: -10000000000000401<=z:=by have:=HN.out;omega
   have b:=I4 (y:=z) (by omega) (by omega)
   by_cases hlt:z<y
   . have HS:=ZU (Cal.st_succ z);have q1:wrap64 (st z+365)=st z+365:=by unfold wrap64;omega
     have q2:wrap64 (st z+365+1)=st z+365+1:=by unfold wrap64;omega
     have q3:wrap64 (z+1)=z+1:=by unfold wrap64;omega
     have L:=Cal.aHK z;rcases(show lp z=0\/lp z=1 by omega)with l|l
     all_goals
      have HL2:=HL.out z;rw[l]at HL2;replace HL2:=ZU HL2
      go_wp2_with (go_at_call 112;refine(HL2.out _).mono ?_;rintro _ w' ⟨rfl,rfl⟩)
      go_roundw
      case rel=>
       refine⟨k+1,by omega,?_,?_,trivial⟩
       . rw[show n * 400+((k+1:Nat):Int)=z+1 by omega]
       rw[show n * 400+((k+1:Nat):Int)=z+1 by omega,HS.out,l];try (first|rfl|simp)
      case measure=>simp[intOf];omega
   obtain rfl:z=y:=by omega
   go_wp2
   go_ret
   exact⟨rfl,rfl⟩
theorem BD(y m:Int)(w:World)(h0: -10000000000000001<=y)(h1:y<=10000000000000001)(m0:1<=m)(m1:m<=12):
 Calls Tryz.prog 74 #[.int .i64 y,.int .i64 m] w fun r w'=>r=.returned (.int .i64 (st y+oI y m))/\w=w':=by
 have HY:=ZU fun W=>E8 y W h0 h1;have HL:=ZU fun(i:Int) (W:World) (a:1<=i) (b:i<=12)=>Bk.JO y i W a b;have b:=I4 (y:=y) (by omega) (by omega);have hm: ¬ 12<m:=by omega
 clear h0 h1
 go_enter Tryz.func74,Tryz.ntmps74
 go_wp2_with (go_at_call 72;refine(HY.out _).mono ?_;rintro _ w' ⟨rfl,rfl⟩)
 go_loopw [5,6] (fun s5 s6 wr=> ∃k:Nat,(k:Int)+1<=m/\s6=.int .i64 (k+1)/\s5=.int .i64 (st y+oI y (k+1))/\wr=w) (fun _ s6 _=>(m - intOf s6).toNat)
 case atStart=>exact⟨0,by omega,by simp,by rw[show ((0:Nat):Int)+1=1 by omega,Cal.UA,a2d],by first|rfl|trivial⟩
 case round=>
  obtain⟨k,hk,rfl,rfl,rfl⟩:=hrel
  by_cases hlt:(k:Int)+1<m
  . have HS:=ZU (Cal.MC y (k+1) (by omega) (by omega));have cb:=Cal.EI (y:=y) (m:=k+1) (by omega) (by omega);have lb:=Cal.vZ y (k+1);have q1:wrap64 (st y+oI y (k+1)+len y (k+1))=st y+oI y (k+1)+len y (k+1):=by unfold wrap64;omega
    have q3:wrap64 ((k:Int)+1+1)=(k:Int)+1+1:=by unfold wrap64;omega
    go_wp2_with (go_at_call 112;refine(HL.out _ _ (by omega) (by omega)).mono ?_;rintro _ w' ⟨rfl,rfl⟩)
    go_roundw
    case rel=>exact⟨k+1,by omega,by push_cast;rfl,by push_cast;rw[HS.out,Int.add_assoc],by first|rfl|trivial⟩
    case measure=>simp[intOf];omega
  have e:(k:Int)+1=m:=by omega
  rw[e]
  go_wp2
  go_ret
  exact⟨rfl,rfl⟩
theorem NT(y m:Int)(w:World)(h0: -10000000000000001<=y)(h1:y<=10000000000000000)(m0:13<=m)(m1:m<=24):
 Calls Tryz.prog 74 #[.int .i64 y,.int .i64 m] w fun r w'=>r=.returned (.int .i64 (st (y+1)+oI (y+1) (m - 12)))/\w=w':=by
 have HM:=ZU fun W=>BD (y+1) (m - 12) W (by omega) (by omega) (by omega) (by omega);have q1:wrap64 (y+1)=y+1:=by unfold wrap64;omega
 have q2:wrap64 (m - 12)=m - 12:=by unfold wrap64;omega
 have hm:12<m:=by omega
 go_enter Tryz.func74,Tryz.ntmps74
 go_wp2_with (go_at_call 74;refine(HM.out _).mono ?_;rintro _ w' ⟨rfl,rfl⟩)
 go_ret
 exact⟨rfl,rfl⟩
end Sk
end

section
open Go.RowKit Go.Lib
namespace Sk
open Un Bk
theorem DC{w:World}(hst:SS w):QD w:=by
 obtain⟨ρ,hs⟩:=hst (fun _=>⟨0,0,.nilIface⟩) w (aDl _ _);have look: ∀b o,Ev.YC Ev.hp b=some o->(Ev.Hs.mk Ev.hp 15).look [] b=some o:=fun b o h=>h;have gl:=@Ev.aQ.gl Ev.G0 _ _ _ _ _ hs;obtain⟨_,c0,_⟩:=@Ev.aQ.obj Ev.G0 _ _ _ _ _ hs 2 (.ro Ev.k2) (look _ _ (by kernel_rfl));obtain⟨_,c3,_⟩:=@Ev.aQ.obj Ev.G0 _ _ _ _ _ hs 6 (.ro Ev.k6) (look _ _ (by kernel_rfl));obtain⟨_,c13,_⟩:=@Ev.aQ.obj Ev.G0 _ _ _ _ _ hs 14 (.ro Ev.k14) (look _ _ (by kernel_rfl));obtain⟨_,c1,_⟩:=@Ev.aQ.obj Ev.G0 _ _ _ _ _ hs 0 (.ro Ev.k0) (look _ _ (by kernel_rfl));obtain⟨_,c4,_⟩:=@Ev.aQ.obj Ev.G0 _ _ _ _ _ hs 3 (.ro Ev.k3) (look _ _ (by kernel_rfl));obtain⟨_,c5,_⟩:=@Ev.aQ.obj Ev.G0 _ _ _ _ _ hs 4 (.ro Ev.k4) (look _ _ (by kernel_rfl));have l0:=gl 2 (by show _<12;decide);have l3:=gl 6 (by show _<12;decide);have l1:=gl 0 (by show _<12;decide);have l4:=gl 3 (by show _<12;decide);have l5:=gl 4 (by show _<12;decide);rw[l0.1,l0.2.1]at c0;rw[l3.1,l3.2.1]at c3;rw[l1.1,l1.2.1]at c1;rw[l4.1,l4.2.1]at c4;rw[l5.1,l5.2.1]at c5;refine⟨⟨⟨ρ.blk 14,ρ.off 14,c3 0 _ rfl,c13 0 _ rfl,c13 1 _ rfl,c13 2 _ rfl,c13 3 _ rfl,c13 4 _ rfl,c13 5 _ rfl⟩,fun i hi=>?_⟩,fun i hi=>?_,⟨_,_,c4 0 (.mp 13) rfl⟩,⟨_,_,c5 0 (.mp 12) rfl⟩⟩
 . have:i=0\/i=1\/i=2\/i=3\/i=4\/i=5\/i=6\/i=7\/i=8\/i=9\/i=10\/i=11:=by omega
   rcases this with rfl|rfl|rfl|rfl|rfl|rfl|rfl|rfl|rfl|rfl|rfl|rfl
   . exact c0 0 (.v (.int .i64 (ml 0))) rfl
   . exact c0 1 (.v (.int .i64 (ml 1))) rfl
   . exact c0 2 (.v (.int .i64 (ml 2))) rfl
   . exact c0 3 (.v (.int .i64 (ml 3))) rfl
   . exact c0 4 (.v (.int .i64 (ml 4))) rfl
   . exact c0 5 (.v (.int .i64 (ml 5))) rfl
   . exact c0 6 (.v (.int .i64 (ml 6))) rfl
   . exact c0 7 (.v (.int .i64 (ml 7))) rfl
   . exact c0 8 (.v (.int .i64 (ml 8))) rfl
   . exact c0 9 (.v (.int .i64 (ml 9))) rfl
   . exact c0 10 (.v (.int .i64 (ml 10))) rfl
   exact c0 11 (.v (.int .i64 (ml 11))) rfl
 have:i=0\/i=1\/i=2\/i=3\/i=4\/i=5\/i=6\/i=7\/i=8\/i=9\/i=10\/i=11\/i=12\/i=13\/i=14\/i=15\/i=16\/i=17\/i=18\/i=19\/i=20\/i=21\/i=22\/i=23\/i=24\/i=25\/i=26\/i=27\/i=28\/i=29\/i=30\/i=31\/i=32\/i=33\/i=34\/i=35\/i=36\/i=37\/i=38\/i=39\/i=40\/i=41:=by omega
 rcases this with rfl|rfl|rfl|rfl|rfl|rfl|rfl|rfl|rfl|rfl|rfl|rfl|rfl|rfl|rfl|rfl|rfl|rfl|rfl|rfl|rfl|rfl|rfl|rfl|rfl|rfl|rfl|rfl|rfl|rfl|rfl|rfl|rfl|rfl|rfl|rfl|rfl|rfl|rfl|rfl|rfl|rfl
 . exact c1 0 (.v (.int .i64 (qH 0))) rfl
 . exact c1 1 (.v (.int .i64 (qH 1))) rfl
 . exact c1 2 (.v (.int .i64 (qH 2))) rfl
 . exact c1 3 (.v (.int .i64 (qH 3))) rfl
 . exact c1 4 (.v (.int .i64 (qH 4))) rfl
 . exact c1 5 (.v (.int .i64 (qH 5))) rfl
 . exact c1 6 (.v (.int .i64 (qH 6))) rfl
 . exact c1 7 (.v (.int .i64 (qH 7))) rfl
 . exact c1 8 (.v (.int .i64 (qH 8))) rfl
 . exact c1 9 (.v (.int .i64 (qH 9))) rfl
 . exact c1 10 (.v (.int .i64 (qH 10))) rfl
 . exact c1 11 (.v (.int .i64 (qH 11))) rfl
 . exact c1 12 (.v (.int .i64 (qH 12))) rfl
 . exact c1 13 (.v (.int .i64 (qH 13))) rfl
 . exact c1 14 (.v (.int .i64 (qH 14))) rfl
 . exact c1 15 (.v (.int .i64 (qH 15))) rfl
 . exact c1 16 (.v (.int .i64 (qH 16))) rfl
 . exact c1 17 (.v (.int .i64 (qH 17))) rfl
 . exact c1 18 (.v (.int .i64 (qH 18))) rfl
 . exact c1 19 (.v (.int .i64 (qH 19))) rfl
 . exact c1 20 (.v (.int .i64 (qH 20))) rfl
 . exact c1 21 (.v (.int .i64 (qH 21))) rfl
 . exact c1 22 (.v (.int .i64 (qH 22))) rfl
 . exact c1 23 (.v (.int .i64 (qH 23))) rfl
 . exact c1 24 (.v (.int .i64 (qH 24))) rfl
 . exact c1 25 (.v (.int .i64 (qH 25))) rfl
 . exact c1 26 (.v (.int .i64 (qH 26))) rfl
 . exact c1 27 (.v (.int .i64 (qH 27))) rfl
 . exact c1 28 (.v (.int .i64 (qH 28))) rfl
 . exact c1 29 (.v (.int .i64 (qH 29))) rfl
 . exact c1 30 (.v (.int .i64 (qH 30))) rfl
 . exact c1 31 (.v (.int .i64 (qH 31))) rfl
 . exact c1 32 (.v (.int .i64 (qH 32))) rfl
 . exact c1 33 (.v (.int .i64 (qH 33))) rfl
 . exact c1 34 (.v (.int .i64 (qH 34))) rfl
 . exact c1 35 (.v (.int .i64 (qH 35))) rfl
 . exact c1 36 (.v (.int .i64 (qH 36))) rfl
 . exact c1 37 (.v (.int .i64 (qH 37))) rfl
 . exact c1 38 (.v (.int .i64 (qH 38))) rfl
 . exact c1 39 (.v (.int .i64 (qH 39))) rfl
 . exact c1 40 (.v (.int .i64 (qH 40))) rfl
 exact c1 41 (.v (.int .i64 (qH 41))) rfl
theorem U9{w W:World}(h:SS w)(hb:Below w.heap.size w W):SS W:=fun lv u hu=>by
 obtain⟨ρ,s⟩:=h lv u (bt hb hu)
 letI:Ev.Gh:=Ev.G0
 exact⟨ρ,s.gl,s.KX,s.good,s.gn,s.ln,s.xW,s.pW,hu,s.lt,s.obj,fun b o q hl=>absurd (s.lt b o q) (Nat.not_lt.2 hl),fun b o q hl=>aFz (s.old b o q hl) hb.size,s.inj⟩
end Sk
end
section
open Go.RowKit Go.Lib
namespace Sk
open Bk (Dt eP hasB bH QD bF yVal DF DI bQ dW gU allB bM NG jA jH)
open Cal (st oI len)
structure Sm(d:Dt):Prop where
 mo:d.mo.size<=1000
 dg:d.dg.size<=1000
 da:d.da.size<=1000
 s0: -9223372036854775808<=d.sig
 s1:d.sig<9223372036854775808
 m0:0<=d.m0
 m1:0<=d.m1
 m2:0<=d.m2
theorem dJ(a b:Int):(a==b)=decide (a=b):=by rw[aQP];simp
theorem zS{w:World}{f:FuncId}{args:Array Value}{v u:Value}(g:Same w f args v)(e:v=u):Same w f args u:=e ▸ g
theorem eS{w0:World}{f:FuncId}{args:Array Value}{v:Value}(h: ∀w,Calls Tryz.prog f args w fun r w'=>r=.returned v/\w=w'):Same w0 f args v:=fun w _=>(h w).mono fun _ _ g=>⟨g.1,g.2 ▸ aDl _ _⟩
section
variable{w0:World}(hst:SS w0){d:Dt}(h:Sm d)
include hst h
theorem sFC:Same w0 61 #[eP d] (.int .i64 d.err):=fun w hb=>Bk.aBH d w ((DC hst).below hb) h.mo h.dg h.m0 h.m1 h.m2
theorem sMk:Same w0 165 #[eP d] (.bool (xX d)):=fun w _=>YW d w h.mo h.dg h.da
theorem sSn:Same w0 120 #[eP d] (.tuple #[.int .i64 d.aG,.bool (!decide (d.aG=0))]):=fun w hb=>Bk.tH d w ((DC hst).below hb) h.mo
theorem sPc:Same w0 144 #[eP d] (.int .u8 d.prec):=zS (aRf d _ _ w0 (sSn hst h)) (by
 unfold Dt.prec;rw[NG,NG]
 by_cases a:d.da.size=0<;>by_cases b:d.aG=0<;>by_cases c:d.mo.size=0<;>simp[dJ,a,b,c])
theorem aXB:Same w0 140 #[eP d] (.bool d.xG):=zS (aJ0 d _ w0 (sMk hst h)) (by
 unfold Dt.xG xX
 cases hasB 88 (d.dg++d.mo++d.da)<;>by_cases a:d.sig=0<;>simp[dJ,a])
theorem aXA:Same w0 152 #[eP d] (.bool d.xG):=zS (aJZ d _ w0 (sMk hst h)) (by
 unfold Dt.xG xX
 cases hasB 88 (d.dg++d.mo++d.da)<;>by_cases a:d.sig=0<;>simp[dJ,a])
theorem sPl:Same w0 153 #[eP d] (.bool d.pln):=zS (aNx d _ _ _ w0 (sFC hst h) (sMk hst h) (sPc hst h)) (by
 unfold Dt.pln Dt.xG xX
 by_cases e:d.err=0<;>cases hasB 88 (d.dg++d.mo++d.da)<;>by_cases a:d.sig=0<;>by_cases p:d.prec=0<;>simp[dJ,a,e,p])
theorem sRC:Same w0 64 #[eP d] (.int .i64 d.err):=fun w hb=>Bk.Q7 d w h.dg h.s0 h.s1 h.m0 h.m1 h.m2
theorem aGj:Same w0 70 #[eP d] (.int .i64 (if d.xG=true then 1 else 0)):=fun w hb=>by
 have:=Q5 d w h.mo h.dg h.da;rw[show exN d=if d.xG=true then 1 else 0 by
  unfold exN Dt.xG xX
  cases hasB 88 (d.dg++d.mo++d.da)<;>by_cases a:d.sig=0<;>simp[dJ,a]]at this
 exact this
theorem aSB:Same w0 44 #[eP d] (.int .i64 d.aG):=fun w _=>Bk.qN d w
theorem aSC:Same w0 46 #[eP d] (.int .i64 (Bk.comps d.mo d.da)):=fun w _=>Bk.JQ d w
theorem aN9:Same w0 66 #[eP d] (.int .i64 (if d.pln=true then 1 else 0)):=zS (aJP d _ _ _ w0 (sRC hst h) (aGj hst h) (aSB hst h)) (by
 unfold Dt.pln
 by_cases e:d.err=0
 . cases hx:d.xG
   . simp[dJ,e]
   obtain⟨_,_,_,_,hc⟩:=jA e hx;have hp:d.prec=0↔0<d.aG:=by
    unfold Dt.prec;rcases hc with⟨a,b,c⟩|⟨a,b,c,_,c1,c2,_⟩|⟨a,b,_,_,c|⟨c,_⟩⟩
    . rw[c,aFv (by omega),aFv (by omega),aFv (by omega)];omega
    . rw[aFv (by omega),aFw b];omega
    . rw[b,aFv (by omega),aFv (by omega),aFw (by omega)];omega
    rw[b,aFw (by omega)];omega
   by_cases p:d.prec=0
   . simp[dJ,e,p,hp.1 p]
   have: ¬ 0<d.aG:=fun c=>p (hp.2 c);simp[dJ,e,p,this]
 simp[dJ,e])
theorem aXw(he:d.err=0)(hx:d.xG=true):Same w0 141 #[.agg #[.bool d.neg,.bool d.long,.string d.dg,.int .i64 d.ex,.int .i64 d.sig]] (.tuple #[.int .i64 d.yv,.int .i64 0]):=fun w hb=>by
 obtain⟨_,hk,_⟩:=jA he hx;exact Bk.yV d.neg d.long d.dg d.ex d.sig w h.dg hk (jH hx).1
end
theorem aHt{d:Dt}(he:d.err=0)(hx:d.xG=true):allB bM d.mo=true:=(Bk.aHs (Bk.LW he) (jH hx).2.1).2.1
theorem aIu{d:Dt}(he:d.err=0)(hx:d.xG=true):allB bM d.da=true:=(Bk.aIt (Bk.LW he) (jH hx).2.2.1).2.1
theorem sAt{w0:World}{s:ByteArray}(h2:s.size=2)(hd:allB bM s=true):Same w0 142 #[.string s] (.tuple #[.int .i64 (bF s),.nilIface]):=fun w hb=>Bk.aC9 s _ (aIO h2 hd) (by omega) w
theorem aLD{s:ByteArray}(h:s.size=0):bF s=0:=(Bk.EH h).1
theorem aCv{w0:World}(hst:SS w0){d:Dt}(h:Sm d)(he:d.err=0)(hx:d.xG=true):Same w0 100 #[eP d] (.tuple #[r4 0 d.lo 0 d.hi,.int .i64 0]):=by
 obtain⟨_,hk,y0,y1,hc⟩:=jA he hx;have c:=(DC hst);have hmk:xX d=false:=(jH hx).2.2.2.2;have hs:d.sig=0:=(jH hx).2.2.2.1;have H0:=sFC hst h;rw[he]at H0;have H1:=sMk hst h;rw[hmk]at H1;have H2:=aXw hst h he hx;have HP:=sPc hst h;have md:=aHt he hx;have dd:=aIu he hx;unfold Dt.lo Dt.hi DF DI;rcases hc with⟨a,b,e⟩|⟨a,b,e,e2,c1,c2,sy⟩|⟨a,b,m0,m1,hd⟩
 . rw[show d.prec=1 by unfold Dt.prec;rw[aFv (by omega),aFv (by omega),aFv (by omega)]]at HP;rw[aLD a,aFw rfl,aFw rfl];have HS:Same w0 186 #[.int .i64 d.yv] (.tuple #[.int .i64 (st d.yv),.int .i64 0]):=fun w hb=>Un.xZ d.yv w (c.below hb).cal.steps y0 y1;have HE:Same w0 187 #[.int .i64 d.yv] (.tuple #[.int .i64 (st (d.yv+1) - 1),.int .i64 0]):=fun w hb=>Un.UY d.yv w (c.below hb).cal.steps y0 y1;have em:=aEL a;have ed:=aEL b;generalize d.yv=y at *;obtain⟨ng,lg,dg,ex,sig,mo,da,q0,q1,q2⟩:=d;simp only at em ed hs;subst em;subst ed;subst hs;exact zS (aNF ⟨ng,lg,dg,ex,0,⟨#[]⟩,⟨#[]⟩,q0,q1,q2⟩ _ _ _ hst H0 H1 H2 HP HS HE) rfl
 . rw[show d.prec=0 by unfold Dt.prec;rw[aFv (by omega),aFw b]]at HP;rw[e2,aFv (by omega),aFw (by omega),aFv (by omega),aFw (by omega)];have HS:Same w0 171 #[.int .i64 d.yv,.int .i64 d.aG] (.tuple #[r4 0 (st d.yv+oI d.yv (bQ d.aG)) 0 (st (gU d.yv d.aG)+oI (gU d.yv d.aG) (Bk.ZY d.aG+1) - 1),.int .i64 0]):=fun w hb=>Bk.I9 d.yv d.aG w (c.below hb) y0 y1 c1 c2 sy;have HA:=sAt (w0:=w0) a md;rw[e2]at HA;have ed:=aEL e;generalize d.yv=y at *;generalize d.aG=sc at *;obtain⟨ng,lg,dg,ex,sig,mo,da,q0,q1,q2⟩:=d;simp only at ed hs;subst ed;subst hs;exact zS (aNG ⟨ng,lg,dg,ex,0,mo,⟨#[]⟩,q0,q1,q2⟩ _ _ _ _ hst H0 H1 H2 HP HA HS) rfl
 have HA:=sAt (w0:=w0) a md;have HS:Same w0 190 #[.int .i64 d.yv,.int .i64 (bF d.mo)] (.tuple #[.int .i64 (st d.yv+oI d.yv (bF d.mo)),.int .i64 0]):=fun w hb=>Un.lJ d.yv _ w (c.below hb).cal y0 y1 m0 m1;simp only[aFv (show ¬bF d.mo=0 by omega),aFv (show ¬ 12<bF d.mo by omega)];rcases hd with e|⟨e,k0,k1⟩
 . rw[show d.prec=2 by unfold Dt.prec;rw[aFv (by omega),aFv (by omega),aFw (by omega)]]at HP;rw[aLD e,aFw rfl,aFw rfl];have HE:Same w0 191 #[.int .i64 d.yv,.int .i64 (bF d.mo)] (.tuple #[.int .i64 (st d.yv+oI d.yv (bF d.mo+1) - 1),.int .i64 0]):=fun w hb=>Un.BH d.yv _ w (c.below hb).cal y0 y1 m0 m1;have ed:=aEL e;generalize d.yv=y at *;obtain⟨ng,lg,dg,ex,sig,mo,da,q0,q1,q2⟩:=d;simp only at ed hs;subst ed;subst hs;exact zS (aNE ⟨ng,lg,dg,ex,0,mo,⟨#[]⟩,q0,q1,q2⟩ _ _ _ _ hst H0 H1 H2 HP HA HS HE) rfl
 rw[show d.prec=3 by unfold Dt.prec;rw[aFw (by omega)]]at HP;rw[aFv (by omega),aFv (by omega)];have HL:Same w0 180 #[.int .i64 d.yv,.int .i64 (bF d.mo)] (.tuple #[.int .i64 (len d.yv (bF d.mo)),.int .i64 0]):=fun w hb=>Bk.yQ d.yv _ w (c.below hb) y0 y1 m0 m1;have HB:=sAt (w0:=w0) e dd;have sb:=Sk.I4 (y:=d.yv) (by omega) (by omega);have cb:=@Cal.EI d.yv (bF d.mo) m0 (by omega);have lb:=Cal.vZ d.yv (bF d.mo);have HD:Same w0 193 #[Bk.cvv d.yv (bF d.mo) (bF d.da)] (.tuple #[.int .i64 (st d.yv+oI d.yv (bF d.mo)+bF d.da - 1),.int .i64 0]):=zS (aRj d.yv (bF d.mo) (bF d.da) _ _ w0 HL HS) (by
  rw[aEm (by omega),aEm (by omega)];have q1:IntKind.i64.wrap (st d.yv+oI d.yv (bF d.mo)+bF d.da)=st d.yv+oI d.yv (bF d.mo)+bF d.da:=by rw[aVL];omega
  have q2:IntKind.i64.wrap (st d.yv+oI d.yv (bF d.mo)+bF d.da - 1)=st d.yv+oI d.yv (bF d.mo)+bF d.da - 1:=by rw[aVL];omega
  simp only[aYe,q1,q2])
 refine zS (aND d d.yv _ _ _ w0 H0 H1 H2 HA HB HP HD) ?_;simp[dJ,hs]
end Sk
end
end Go.Proofs.YtebgcnnhokclaaaGreatDoor
