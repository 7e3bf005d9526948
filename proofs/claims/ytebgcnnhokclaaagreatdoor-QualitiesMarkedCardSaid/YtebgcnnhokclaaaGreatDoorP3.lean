import Derived.Test.YtebgcnnhokclaaaGreatDoorP2
import Derived.Deep.DeepCutAuto
import Derived.Lib.AtoiErrMem
import Derived.Defers
import Derived.Deep.QuietTactic
import Derived.BigQuiet
import Derived.WalkMore
import Derived.Deep.MidRow
import Derived.Deep.CutBlock
import Derived.Deep.LoopGhost
set_option linter.unusedSimpArgs false
set_option linter.unusedVariables false
set_option maxRecDepth 1000000
set_option linter.unusedSectionVars false
set_option maxHeartbeats 8000000
namespace Go.Proofs.YtebgcnnhokclaaaGreatDoor
noncomputable section
open Go.Proofs.Tryz
abbrev aRr:=@Go.World.ownsRow_nil
abbrev aSU:=@List.not_mem_nil
abbrev aTL:=@Bool.not_eq_true'
abbrev aUd:=@false_implies
abbrev aUo:=@true_implies
abbrev aUp:=@implies_true
abbrev aUq:=@forall_const
abbrev aUy:=@Go.IntKind.wrap_i64
abbrev aUB:=@cond_false
abbrev aUC:=@List.flatMap_append
abbrev aUM:=@Go.wpList_append_own
abbrev aWF:=@false_or
abbrev aWG:=@and_true
abbrev aXd:=@true_and
abbrev aXj:=@or_false
abbrev aX0:=@Bool.true_or
abbrev aX1:=@Bool.or_true
abbrev aYl:=@Go.info_parts
abbrev aYo:=@Bool.eq_false_or_eq_true
abbrev aYs:=@Go.Lib.bytesWorld_below
abbrev aYF:=@ByteArray.data_append
section
open Go.RowKit Go.Lib
def yv(neg long:Bool)(s:ByteArray)(ex sig:Int):Value:=.agg #[.bool neg,.bool long,.string s,.int .i64 ex,.int .i64 sig]
structure Ym(p:Nat)(neg long:Bool)(s:ByteArray)(ex sig:Int)(w W:World):Prop where
 c0:W.cell? ⟨p,0,none⟩=some (.bool neg)
 c1:W.cell? ⟨p,1,none⟩=some (.bool long)
 c2:W.cell? ⟨p,2,none⟩=some (.string s)
 c3:W.cell? ⟨p,3,none⟩=some (.int .i64 ex)
 c4:W.cell? ⟨p,4,none⟩=some (.int .i64 sig)
 below:Below w.heap.size w W
theorem Ym.later{p:Nat}{neg long:Bool}{s:ByteArray}{ex sig:Int}{w W W2:World}(h:Ym p neg long s ex sig w W)(hb:Below W.heap.size W W2):Ym p neg long s ex sig w W2:=
 have g: ∀ {p:Addr} {v:Value},W.cell? p=some v->W2.cell? p=some v:=fun{p v} hc=>(hb.cell (aO4 _ _ hc)).trans hc
 ⟨g h.c0,g h.c1,g h.c2,g h.c3,g h.c4,aYR h.below hb⟩
theorem Ym.new(neg long:Bool)(s:ByteArray)(ex sig:Int)(w:World)(t:TypeId):Ym w.heap.size neg long s ex sig w (w.alloc (.cells #[.bool neg,.bool long,.string s,.int .i64 ex,.int .i64 sig] t)):=by
 refine⟨?_,?_,?_,?_,?_,ba (aDA _ _) _⟩<;>simp[go_sem]
theorem Ym.drew'{p:Nat}{neg long:Bool}{s:ByteArray}{ex sig:Int}{w W:World}(h:Ym p neg long s ex sig w W):Ym p neg long s ex sig w W.drew:=h.later (aDA _ _).drew
theorem rG(neg long:Bool)(s:ByteArray)(ex sig:Int)(w:World):
 Calls prog 170 #[yv neg long s ex sig] w fun r w'=>r=.returned (.bool (hasB 88 s))/\Below w.heap.size w w':=by
 have HC: ∀W,Calls prog 215 #[.string s,.string ⟨#[88]⟩] W fun e w'=>e=.returned (.bool (hasB 88 s))/\w'=W:=by
  intro W;have:=strings_Contains_one s 88 W;rw[sD]at this;exact this
 replace HC:=aAC HC;unfold yv;go_enter func170,ntmps170
 go_wp2_with (go_at_call 215;with_reducible refine(HC.out _).mono ?_;rintro _ w' ⟨rfl,rfl⟩)
 go_ret;exact⟨rfl,ba (aDA _ _) _⟩
def IG(m:Int):Int × Int:=if m<=10000000000000000 then(m,0)else(0,6)
theorem parse_any(s:ByteArray)(hd:aYP bY s=true)(h1:1<=s.size)(h2:s.size<=17)(W:World):
 Calls prog 235 #[.string s,.int .i64 10,.int .i64 64] W fun e w'=>e=.returned (.tuple #[.int .i64 (bJ s),.nilIface])/\Below W.heap.size W w':=by
 have hl:s.data.toList.length=s.size:=by simp
 have hp:=RG s.data.toList (fun e=>by rw[e]at hl;have:([]:List UInt8).length=0:=rfl;omega) (yU hd) (by omega);refine(strconv_ParseInt_10_at64_ok s (by omega) _ hp W).mono ?_;rintro e w' ⟨rfl,h⟩;refine⟨rfl,?_⟩;rcases h with rfl|⟨t,rfl⟩
 . exact aDA _ _
 exact aYs _ _ _
theorem wE(neg long:Bool)(s:ByteArray)(e:Nat)(sig:Int)(w:World)(hd:aYP bY s=true)(h1:1<=s.size)(h2:s.size<=17)(he:e<=16):
 Calls prog 181 #[yv neg long s e sig] w fun r w'=>r=.returned (.tuple #[.int .i64 (IG (jJ s e)).1,.int .i64 (IG (jJ s e)).2])/\Below w.heap.size w w':=by
 have HP:=aAC (fun w=>parse_any s hd h1 h2 w);have HT:=aAC (fun w=>PV e w (by omega));have hs:=aK5 hd h2;have hs0:=DY s;have hp:=aFP e (by omega);have hM:=fun w=>mul_any (bJ s) (p10 e) w hs0 (by omega) (by omega) (by omega);have hv:jJ s e=bJ s * p10 e:=by unfold jJ;rw[aOd]
 have hv0:=oV s e;have hx:mulC (bJ s) (p10 e)=if jJ s e<=9223372036854775807 then(jJ s e,0)else(0,15):=by unfold mulC;rw[hv]
 rw[hx]at hM;clear hx hv hd;generalize jJ s e=v at *;generalize bJ s=n at *;generalize p10 e=p at *;unfold yv;have hY:=Ym.new neg long s e sig w 27;by_cases c:v<=10000000000000000
 . have HM:Hid (∀w:World,Calls prog 237 #[.int .i64 n,.int .i64 p] w fun r w'=>r=.returned (.tuple #[.int .i64 v,.int .i64 0])/\Below w.heap.size w w'):=aAC (by intro w;have:=hM w;rw[aEo (by omega)]at this;exact this);clear hM;have hR:IG v=(v,0):=by unfold IG;rw[aEo c]
   rw[hR];go_enter func181,ntmps181;go_upto_region 1 with(fail);generalize w.alloc (.cells #[.bool neg,.bool long,.string s,.int .i64 e,.int .i64 sig] 27)=W0 at hY ⊢;obtain⟨q0,q1,q2,q3,q4,qB⟩:=id hY
   go_wp2_with (first
    |(go_at_call 235;with_reducible refine(HP.out _).mono ?_;rintro _ w' ⟨rfl,hb⟩;replace hY:=hY.later hb;clear hb;obtain⟨q0,q1,q2,q3,q4,qB⟩:=id hY)
    |(go_at_call 236;with_reducible refine(HT.out _).mono ?_;rintro _ w' ⟨rfl,rfl⟩)
    |(go_at_call 237;with_reducible refine(HM.out _).mono ?_;rintro _ w' ⟨rfl,hb⟩;replace hY:=hY.later hb;clear hb;obtain⟨q0,q1,q2,q3,q4,qB⟩:=id hY))
   go_ret2;exact⟨rfl,hY.below⟩
 have HM:Hid (∀w:World,Calls prog 237 #[.int .i64 n,.int .i64 p] w fun r w'=>(∃y x:Int,(x≠0\/10000000000000000<y)/\r=.returned (.tuple #[.int .i64 y,.int .i64 x]))/\Below w.heap.size w w'):=aAC (by
  intro w;have:=hM w;by_cases c2:v<=9223372036854775807
  . rw[aEo c2]at this;exact this.mono fun r w' ⟨h1,h2⟩=>⟨⟨v,0,Or.inr (by omega),h1⟩,h2⟩
  rw[aEg c2]at this;exact this.mono fun r w' ⟨h1,h2⟩=>⟨⟨0,15,Or.inl (by omega),h1⟩,h2⟩)
 clear hM;have hR:IG v=(0,6):=by unfold IG;rw[aEg c]
 rw[hR];go_enter func181,ntmps181;go_upto_region 1 with(fail);generalize w.alloc (.cells #[.bool neg,.bool long,.string s,.int .i64 e,.int .i64 sig] 27)=W0 at hY ⊢;obtain⟨q0,q1,q2,q3,q4,qB⟩:=id hY
 go_wp2_with (first
  |(go_at_call 235;with_reducible refine(HP.out _).mono ?_;rintro _ w' ⟨rfl,hb⟩;replace hY:=hY.later hb;clear hb;obtain⟨q0,q1,q2,q3,q4,qB⟩:=id hY)
  |(go_at_call 236;with_reducible refine(HT.out _).mono ?_;rintro _ w' ⟨rfl,rfl⟩)
  |(go_at_call 237;with_reducible refine(HM.out _).mono ?_;rintro _ w' ⟨⟨y,x,hxy,rfl⟩,hb⟩;replace hY:=hY.later hb;clear hb;obtain⟨q0,q1,q2,q3,q4,qB⟩:=id hY))
 all_goals go_ret2
 all_goals first|exact⟨rfl,hY.below⟩|(exfalso;omega)
theorem O4(neg long:Bool)(s:ByteArray)(ex sig:Int)(w:World)(hs:s.size<=1000):
 Calls prog 174 #[yv neg long s ex sig] w fun r w'=>r=.returned (.bool (iO s ex))/\Below w.heap.size w w':=by
 have hY:=Ym.new neg long s ex sig w 27;have HO:=fun w=>WV s w;unfold DV at HO;by_cases c1: ¬(1<=s.size)
 . have hF:iO s ex=false:=by
    unfold iO;simp;omega
   rw[hF];clear hF;clear HO;unfold yv;go_enter func174,ntmps174;go_upto_region 1 with(fail);generalize w.alloc (.cells #[.bool neg,.bool long,.string s,.int .i64 ex,.int .i64 sig] 27)=W0 at hY ⊢;obtain⟨q0,q1,q2,q3,q4,qB⟩:=id hY
   go_wp2_with fail
   go_ret;exact⟨rfl,hY.below⟩
 replace c1:1<=s.size:=by omega
 by_cases c2: ¬(s.size<=17)
 . have hF:iO s ex=false:=by
    unfold iO;simp;omega
   rw[hF];clear hF;clear HO;unfold yv;go_enter func174,ntmps174;go_upto_region 1 with(fail);generalize w.alloc (.cells #[.bool neg,.bool long,.string s,.int .i64 ex,.int .i64 sig] 27)=W0 at hY ⊢;obtain⟨q0,q1,q2,q3,q4,qB⟩:=id hY
   go_wp2_with fail
   go_ret;exact⟨rfl,hY.below⟩
 replace c2:s.size<=17:=by omega
 by_cases c3: ¬(aYP bY s=true)
 . have hF:iO s ex=false:=by
    unfold iO;rw[Bool.not_eq_true]at c3;simp[c3]
   rw[hF];clear hF;rw[show aYP bY s=false by simpa using c3]at HO;replace HO:=aAC HO;clear c3;unfold yv;go_enter func174,ntmps174;go_upto_region 1 with(fail);generalize w.alloc (.cells #[.bool neg,.bool long,.string s,.int .i64 ex,.int .i64 sig] 27)=W0 at hY ⊢;obtain⟨q0,q1,q2,q3,q4,qB⟩:=id hY
   go_wp2_with (first|(go_at_call 172;with_reducible refine(HO.out _).mono ?_;rintro _ w' ⟨rfl,hb⟩;replace hY:=hY.later hb;clear hb;obtain⟨q0,q1,q2,q3,q4,qB⟩:=id hY))
   go_ret;exact⟨rfl,hY.below⟩
 have hd:aYP bY s=true:=by simpa using c3
 rw[hd]at HO;replace HO:=aAC HO;clear c3;have l0:0<s.size:=by omega
 by_cases c4: ¬(fE s 0≠48)
 . have hF:iO s ex=false:=by
    unfold iO;have:fE s 0=48:=by omega
    simp[this]
   have c4b:((s[0]'l0).toNat:Int)=48:=by rw[<-dJ s 0 l0];omega
   rw[hF];clear hF;unfold yv;go_enter func174,ntmps174;go_upto_region 1 with(fail);generalize w.alloc (.cells #[.bool neg,.bool long,.string s,.int .i64 ex,.int .i64 sig] 27)=W0 at hY ⊢;obtain⟨q0,q1,q2,q3,q4,qB⟩:=id hY
   go_wp2_with (first|(go_at_call 172;with_reducible refine(HO.out _).mono ?_;rintro _ w' ⟨rfl,hb⟩;replace hY:=hY.later hb;clear hb;obtain⟨q0,q1,q2,q3,q4,qB⟩:=id hY))
   go_ret;exact⟨rfl,hY.below⟩
 have c4':fE s 0≠48:=by simpa using c4
 clear c4;have c4b: ¬(((s[0]'(by omega)).toNat:Int)=48):=by rw[<-dJ s 0 (by omega)];exact c4'
 have l0:0<s.size:=by omega
 by_cases c5: ¬(0<=ex)
 . have hF:iO s ex=false:=by
    unfold iO;simp;omega
   rw[hF];clear hF;unfold yv;go_enter func174,ntmps174;go_upto_region 1 with(fail);generalize w.alloc (.cells #[.bool neg,.bool long,.string s,.int .i64 ex,.int .i64 sig] 27)=W0 at hY ⊢;obtain⟨q0,q1,q2,q3,q4,qB⟩:=id hY
   go_wp2_with (first|(go_at_call 172;with_reducible refine(HO.out _).mono ?_;rintro _ w' ⟨rfl,hb⟩;replace hY:=hY.later hb;clear hb;obtain⟨q0,q1,q2,q3,q4,qB⟩:=id hY))
   go_ret;exact⟨rfl,hY.below⟩
 replace c5:0<=ex:=by omega
 by_cases c6: ¬(ex<=16)
 . have hF:iO s ex=false:=by
    unfold iO;simp;omega
   rw[hF];clear hF;unfold yv;go_enter func174,ntmps174;go_upto_region 1 with(fail);generalize w.alloc (.cells #[.bool neg,.bool long,.string s,.int .i64 ex,.int .i64 sig] 27)=W0 at hY ⊢;obtain⟨q0,q1,q2,q3,q4,qB⟩:=id hY
   go_wp2_with (first|(go_at_call 172;with_reducible refine(HO.out _).mono ?_;rintro _ w' ⟨rfl,hb⟩;replace hY:=hY.later hb;clear hb;obtain⟨q0,q1,q2,q3,q4,qB⟩:=id hY))
   go_ret;exact⟨rfl,hY.below⟩
 replace c6:ex<=16:=by omega
 by_cases c7: ¬(¬(ex=0/\s.size<5))
 . have hF:iO s ex=false:=by
    unfold iO;have h1:ex=0:=by omega
    have h2:s.size<5:=by omega
    simp[h1,h2]
   rw[hF];clear hF;unfold yv;go_enter func174,ntmps174;go_upto_region 1 with(fail);generalize w.alloc (.cells #[.bool neg,.bool long,.string s,.int .i64 ex,.int .i64 sig] 27)=W0 at hY ⊢;obtain⟨q0,q1,q2,q3,q4,qB⟩:=id hY;have c7a:ex=0:=by omega
   have c7b:s.size<5:=by omega
   go_wp2_with (first|(go_at_call 172;with_reducible refine(HO.out _).mono ?_;rintro _ w' ⟨rfl,hb⟩;replace hY:=hY.later hb;clear hb;obtain⟨q0,q1,q2,q3,q4,qB⟩:=id hY))
   go_ret;exact⟨rfl,hY.below⟩
 replace c7: ¬(ex=0/\s.size<5):=by omega
 obtain⟨e,rfl⟩: ∃e:Nat,ex=e:=⟨ex.toNat,by omega⟩;have hG:=fun w=>wE neg long s e sig w hd c1 c2 (by omega);have hL:iO s e=decide (jJ s e<=10000000000000000):=by
  unfold iO;have h7:(decide ((e:Int)=0)&&decide (s.size<5))=false:=by
   rw[aNt];intro h;simp at h;omega
  rw[hd,h7];simp[c1,c2,c4',show(e:Int)<=16 by omega]
 rw[hL];clear hL;generalize jJ s e=v at *;clear hd;have hE:(((e:Int)==0)=true/\ ¬(s.size:Int)<5)\/((e:Int)==0)=false:=by
  by_cases h0:(e:Int)=0
  . exact .inl ⟨by rw[h0];rfl,by omega⟩
  exact .inr (by rw[aEB];exact h0)
 rcases hE with⟨hE,hE2⟩|hE
 all_goals
  by_cases c:v<=10000000000000000
  . rw[show IG v=(v,0) by unfold IG;rw[aEo c]]at hG;have HG:=aAC hG;clear hG;unfold yv at HG;rw[aDx c];unfold yv;go_enter func174,ntmps174;go_upto_region 1 with(fail);generalize w.alloc (.cells #[.bool neg,.bool long,.string s,.int .i64 e,.int .i64 sig] 27)=W0 at hY ⊢;obtain⟨q0,q1,q2,q3,q4,qB⟩:=id hY
    go_wp2_with (first|(go_at_call 172;with_reducible refine(HO.out _).mono ?_;rintro _ w' ⟨rfl,hb⟩;replace hY:=hY.later hb;clear hb;obtain⟨q0,q1,q2,q3,q4,qB⟩:=id hY)|(go_at_call 181;with_reducible refine(HG.out _).mono ?_;rintro _ w' ⟨rfl,hb⟩;replace hY:=hY.later hb;clear hb;obtain⟨q0,q1,q2,q3,q4,qB⟩:=id hY))
    all_goals go_ret
    all_goals first|exact⟨rfl,hY.below⟩|(exfalso;omega)|(exfalso;rename_i h;simp only[aI3]at h;omega)
  rw[show IG v=(0,6) by unfold IG;rw[aEg c]]at hG;have HG:=aAC hG;clear hG;unfold yv at HG;rw[aBW c];unfold yv;go_enter func174,ntmps174;go_upto_region 1 with(fail);generalize w.alloc (.cells #[.bool neg,.bool long,.string s,.int .i64 e,.int .i64 sig] 27)=W0 at hY ⊢;obtain⟨q0,q1,q2,q3,q4,qB⟩:=id hY
  go_wp2_with (first|(go_at_call 172;with_reducible refine(HO.out _).mono ?_;rintro _ w' ⟨rfl,hb⟩;replace hY:=hY.later hb;clear hb;obtain⟨q0,q1,q2,q3,q4,qB⟩:=id hY)|(go_at_call 181;with_reducible refine(HG.out _).mono ?_;rintro _ w' ⟨rfl,hb⟩;replace hY:=hY.later hb;clear hb;obtain⟨q0,q1,q2,q3,q4,qB⟩:=id hY))
  all_goals go_ret
  all_goals first|exact⟨rfl,hY.below⟩|(exfalso;omega)|(exfalso;rename_i h;simp only[aI3]at h;omega)
theorem aC8(s:ByteArray):(Lib.trimB s.data.toList 48=[])↔aYP U0 s=true:=by
 rw[<-trimS_one,aC7];unfold aYP U0;rw[aIJ,aIJ];constructor
 . intro h b hb;have:=h b hb;rw[aI3]at this;subst this;rfl
 intro h b hb;have:=aEF (h b hb);rw[aI3];exact aX9.1 (by show b.toNat=48;omega)
theorem aC9(s:ByteArray)(hs:s.size<=1000)(W:World):
 Calls prog 173 #[.string s,.string ⟨#[48]⟩] W fun e w'=>(∃t:List UInt8,(t=[]↔aYP U0 s=true)/\e=.returned (.string ⟨t.toArray⟩))/\Below W.heap.size W w':=by
 refine(strings_Trim_one s 48 (by decide) W (by omega)).mono ?_;rintro e w' ⟨rfl,h⟩;refine⟨⟨_,aC8 s,rfl⟩,?_⟩;rcases h with rfl|rfl
 . exact aDA _ _
 exact(aDA _ _).drew
theorem JM (neg long:Bool) (s:ByteArray) (ex sig:Int) (w:World) (hs:s.size<=1000):
 Calls prog 126 #[yv neg long s ex sig] w fun r w'=>r=.returned (.int .i64 (if zH neg long s ex sig then 0 else 6))/\Below w.heap.size w w':=by
 obtain⟨R,hR⟩: ∃R:Int,R=if zH neg long s ex sig then 0 else 6:=⟨_,rfl⟩
 rw[<-hR];replace hR:=aAC hR;have hY:=Ym.new neg long s ex sig w 27;have hO:=fun w=>aDI s w;unfold VB at hO;have hT:=fun w=>aC9 s hs w;have HM:=aAC (fun w=>rG neg long s ex sig w);have HL:=aAC (fun w=>O4 neg long s ex sig w hs);unfold yv at HM HL;unfold yv;go_enter func126,ntmps126;go_upto_region 1 with(fail);generalize w.alloc (.cells #[.bool neg,.bool long,.string s,.int .i64 ex,.int .i64 sig] 27)=W0 at hY ⊢;obtain⟨q0,q1,q2,q3,q4,qB⟩:=id hY;obtain⟨S,hS⟩: ∃S,S=iT neg s ex sig:=⟨_,rfl⟩;replace hS:=aAC hS
 go_cut [3] (fun s3 wx=>s3=.bool S/\Ym w.heap.size neg long s ex sig w wx)
 case first=>
  clear HL;by_cases c1: ¬s.size=4
  . have hF:iT neg s ex sig=false:=by unfold iT;simp[c1]
    obtain rfl:S=false:=hS.out.trans hF;clear hF hS hO hT HM
    go_wp2_with fail
    go_meet;exact⟨rfl,hY⟩
  replace c1:s.size=4:=by omega
  by_cases c2:aYP dW s=true
  case neg=>
   have hF:iT neg s ex sig=false:=by unfold iT;simp[c2]
   obtain rfl:S=false:=hS.out.trans hF;clear hF hS hT HM;rw[show aYP dW s=false by simpa using c2]at hO;have HO:=aAC hO;clear hO c2
   go_wp2_with (first|(go_at_call 172;with_reducible refine(HO.out _).mono ?_;rintro _ w' ⟨rfl,hb⟩;replace hY:=hY.later hb;clear hb;obtain⟨q0,q1,q2,q3,q4,qB⟩:=id hY))
   go_meet;exact⟨rfl,hY⟩
  rw[c2]at hO;have HO:=aAC hO;clear hO;by_cases c3: ¬ex=0
  . have hF:iT neg s ex sig=false:=by unfold iT;simp[c3]
    obtain rfl:S=false:=hS.out.trans hF;clear hF hS hT HM c2
    go_wp2_with (first|(go_at_call 172;with_reducible refine(HO.out _).mono ?_;rintro _ w' ⟨rfl,hb⟩;replace hY:=hY.later hb;clear hb;obtain⟨q0,q1,q2,q3,q4,qB⟩:=id hY))
    go_meet;exact⟨rfl,hY⟩
  obtain rfl:ex=0:=by omega
  have hF:iT neg s 0 sig=(!(neg&&aYP U0 s)&& !(!decide (sig=0)&&hasB 88 s)):=by unfold iT;simp[c1,c2]
  have hV:=hS.out.trans hF;clear hF hS c2 c3;generalize hasB 88 s=x at HM hV;cases neg
  . clear hT;by_cases c4:sig=0
    . subst c4;obtain rfl:S=true:=by rw[hV];simp
      clear hV HM
      go_wp2_with (first|(go_at_call 172;with_reducible refine(HO.out _).mono ?_;rintro _ w' ⟨rfl,hb⟩;replace hY:=hY.later hb;clear hb;obtain⟨q0,q1,q2,q3,q4,qB⟩:=id hY))
      go_meet;exact⟨rfl,hY⟩
    have c4b:(sig !=0)=true:=by rw[aRp];exact c4
    cases x
    . obtain rfl:S=true:=by rw[hV];simp
      clear hV
      go_wp2_with (first|(go_at_call 172;with_reducible refine(HO.out _).mono ?_;rintro _ w' ⟨rfl,hb⟩;replace hY:=hY.later hb;clear hb;obtain⟨q0,q1,q2,q3,q4,qB⟩:=id hY)|(go_at_call 170;with_reducible refine(HM.out _).mono ?_;rintro _ w' ⟨rfl,hb⟩;replace hY:=hY.later hb;clear hb;obtain⟨q0,q1,q2,q3,q4,qB⟩:=id hY))
      go_meet;exact⟨rfl,hY⟩
    obtain rfl:S=false:=by rw[hV];simp[c4]
    clear hV
    go_wp2_with (first|(go_at_call 172;with_reducible refine(HO.out _).mono ?_;rintro _ w' ⟨rfl,hb⟩;replace hY:=hY.later hb;clear hb;obtain⟨q0,q1,q2,q3,q4,qB⟩:=id hY)|(go_at_call 170;with_reducible refine(HM.out _).mono ?_;rintro _ w' ⟨rfl,hb⟩;replace hY:=hY.later hb;clear hb;obtain⟨q0,q1,q2,q3,q4,qB⟩:=id hY))
    go_meet;exact⟨rfl,hY⟩
  cases hz:aYP U0 s
  . rw [hz]at hT hV;have HT:Hid (∀W,Calls prog 173 #[.string s,.string ⟨#[48]⟩] W fun e w'=>(∃u:ByteArray,u.toList.isEmpty=false/\e=.returned (.string u))/\Below W.heap.size W w'):=aAC (by
     intro W;refine(hT W).mono ?_;rintro e w' ⟨⟨t,ht,h⟩,hb⟩;refine⟨⟨_,?_,h⟩,hb⟩;rw[ByteArray.toList_mk];cases t with
     |nil=>exact absurd (ht.1 rfl) (by decide)
     |cons a b=>rfl)
    clear hT hz;by_cases c4:sig=0
    . subst c4;obtain rfl:S=true:=by rw[hV];simp
      clear hV HM
      go_wp2_with (first|(go_at_call 172;with_reducible refine(HO.out _).mono ?_;rintro _ w' ⟨rfl,hb⟩;replace hY:=hY.later hb;clear hb;obtain⟨q0,q1,q2,q3,q4,qB⟩:=id hY)|(go_at_call 173;with_reducible refine(HT.out _).mono ?_;rintro _ w' ⟨⟨u,hu,rfl⟩,hb⟩;replace hY:=hY.later hb;clear hb;obtain⟨q0,q1,q2,q3,q4,qB⟩:=id hY))
      go_meet;exact⟨rfl,hY⟩
    have c4b:(sig !=0)=true:=by rw[aRp];exact c4
    cases x
    . obtain rfl:S=true:=by rw[hV];simp
      clear hV
      go_wp2_with (first|(go_at_call 172;with_reducible refine(HO.out _).mono ?_;rintro _ w' ⟨rfl,hb⟩;replace hY:=hY.later hb;clear hb;obtain⟨q0,q1,q2,q3,q4,qB⟩:=id hY)|(go_at_call 173;with_reducible refine(HT.out _).mono ?_;rintro _ w' ⟨⟨u,hu,rfl⟩,hb⟩;replace hY:=hY.later hb;clear hb;obtain⟨q0,q1,q2,q3,q4,qB⟩:=id hY)|(go_at_call 170;with_reducible refine(HM.out _).mono ?_;rintro _ w' ⟨rfl,hb⟩;replace hY:=hY.later hb;clear hb;obtain⟨q0,q1,q2,q3,q4,qB⟩:=id hY))
      go_meet;exact⟨rfl,hY⟩
    obtain rfl:S=false:=by rw[hV];simp[c4]
    clear hV
    go_wp2_with (first|(go_at_call 172;with_reducible refine(HO.out _).mono ?_;rintro _ w' ⟨rfl,hb⟩;replace hY:=hY.later hb;clear hb;obtain⟨q0,q1,q2,q3,q4,qB⟩:=id hY)|(go_at_call 173;with_reducible refine(HT.out _).mono ?_;rintro _ w' ⟨⟨u,hu,rfl⟩,hb⟩;replace hY:=hY.later hb;clear hb;obtain⟨q0,q1,q2,q3,q4,qB⟩:=id hY)|(go_at_call 170;with_reducible refine(HM.out _).mono ?_;rintro _ w' ⟨rfl,hb⟩;replace hY:=hY.later hb;clear hb;obtain⟨q0,q1,q2,q3,q4,qB⟩:=id hY))
    go_meet;exact⟨rfl,hY⟩
  rw[hz]at hT hV;have HT:Hid (∀W,Calls prog 173 #[.string s,.string ⟨#[48]⟩] W fun e w'=>e=.returned (.string ⟨#[]⟩)/\Below W.heap.size W w'):=aAC (by
   intro W;refine(hT W).mono ?_;rintro e w' ⟨⟨t,ht,h⟩,hb⟩;obtain rfl:=ht.2 rfl;exact⟨h,hb⟩)
  clear hT hz;obtain rfl:S=false:=by rw[hV];rfl
  clear hV
  go_wp2_with (first|(go_at_call 172;with_reducible refine(HO.out _).mono ?_;rintro _ w' ⟨rfl,hb⟩;replace hY:=hY.later hb;clear hb;obtain⟨q0,q1,q2,q3,q4,qB⟩:=id hY)|(go_at_call 173;with_reducible refine(HT.out _).mono ?_;rintro _ w' ⟨rfl,hb⟩;replace hY:=hY.later hb;clear hb;obtain⟨q0,q1,q2,q3,q4,qB⟩:=id hY))
  go_meet;exact⟨rfl,hY⟩
 case rest=>
  obtain⟨rfl,hY⟩:=hcut;obtain rfl:=hS.out;clear hS hO hT HM;obtain⟨q0,q1,q2,q3,q4,qB⟩:=id hY;have hR2:=hR.out;clear hR;unfold zH at hR2;cases long
  . have hk:iT neg s ex sig=true->ex=0:=by unfold iT;intro h;simp at h;exact h.2.2.1
    simp only[aMB,aPv]at hR2;generalize iT neg s ex sig=ok at *;clear HL;have HR:=aAC hR2;clear hR2;cases ok
    . clear hk
      go_wp2_with fail
      go_ret;exact⟨ri (by rw[HR.out];simp),hY.below⟩
    have hk2:ex=0:=hk rfl;clear hk;by_cases d1:sig<0
    . go_wp2_with fail
      go_ret;exact⟨ri (by rw[HR.out,show decide (0<=sig)=false from aBW (by omega)];rfl),hY.below⟩
    by_cases d2:sig<=s.size+ex
    . go_wp2_with fail
      go_ret;exact⟨ri (by rw[HR.out,show decide (0<=sig)=true from aDx (by omega),show decide (sig<=s.size+ex)=true from aDx (by omega)];rfl),hY.below⟩
    go_wp2_with fail
    go_ret;exact⟨ri (by rw[HR.out,show decide (sig<=s.size+ex)=false from aBW (by omega),aPe,aPe];rfl),hY.below⟩
  have hk:iO s ex=true->0<=ex/\ex<=16:=by unfold iO;intro h;simp at h;omega
  simp only[aUj]at hR2;generalize iT neg s ex sig=o2 at *;generalize iO s ex=ok at *;have HR:=aAC hR2;clear hR2;cases ok
  . clear hk
    go_wp2_with (first|(go_at_call 174;with_reducible refine(HL.out _).mono ?_;rintro _ w' ⟨rfl,hb⟩;replace hY:=hY.later hb;clear hb;obtain⟨q0,q1,q2,q3,q4,qB⟩:=id hY))
    go_ret;exact⟨ri (by rw[HR.out];simp),hY.below⟩
  have hk2:=hk rfl;clear hk;by_cases d1:sig<0
  . go_wp2_with (first|(go_at_call 174;with_reducible refine(HL.out _).mono ?_;rintro _ w' ⟨rfl,hb⟩;replace hY:=hY.later hb;clear hb;obtain⟨q0,q1,q2,q3,q4,qB⟩:=id hY))
    go_ret;exact⟨ri (by rw[HR.out,show decide (0<=sig)=false from aBW (by omega)];rfl),hY.below⟩
  by_cases d2:sig<=s.size+ex
  . go_wp2_with (first|(go_at_call 174;with_reducible refine(HL.out _).mono ?_;rintro _ w' ⟨rfl,hb⟩;replace hY:=hY.later hb;clear hb;obtain⟨q0,q1,q2,q3,q4,qB⟩:=id hY))
    go_ret;exact⟨ri (by rw[HR.out,show decide (0<=sig)=true from aDx (by omega),show decide (sig<=s.size+ex)=true from aDx (by omega)];rfl),hY.below⟩
  go_wp2_with (first|(go_at_call 174;with_reducible refine(HL.out _).mono ?_;rintro _ w' ⟨rfl,hb⟩;replace hY:=hY.later hb;clear hb;obtain⟨q0,q1,q2,q3,q4,qB⟩:=id hY))
  go_ret;exact⟨ri (by rw[HR.out,show decide (sig<=s.size+ex)=false from aBW (by omega),aPe,aPe];rfl),hY.below⟩
def yVal(neg:Bool)(s:ByteArray)(ex:Int):Int:=if neg then -jJ s ex else jJ s ex
theorem zX(neg long:Bool)(s:ByteArray)(ex sig:Int)(w:World)(hs:s.size<=1000)(hk:zH neg long s ex sig=true)(hx:hasB 88 s=false):
 Calls prog 141 #[yv neg long s ex sig] w fun r w'=>r=.returned (.tuple #[.int .i64 (yVal neg s ex),.int .i64 0])/\Below w.heap.size w w':=by
 have hK:=fun w=>JM neg long s ex sig w hs;have hM:=fun w=>rG neg long s ex sig w;rw[hk]at hK;rw[hx]at hM;have HK:=aAC hK;have HM:=aAC hM;clear hK hM;have hf: ∃e:Nat,ex=e/\e<=16/\aYP bY s=true/\1<=s.size/\s.size<=17/\jJ s ex<=10000000000000000:=by
  cases long
  . obtain⟨h1,h2,h3,_⟩:=kH hk;have hd:=(lD h2).1 hx;have:=uD hd h1;have hz:jJ s 0=bJ s:=by unfold jJ p10;simp
    exact⟨0,h3,by omega,hd,by omega,by omega,by rw[h3,hz];omega⟩
  obtain⟨h1,h2,h3,h4,h5,h6,h7,_⟩:=kN hk;exact⟨ex.toNat,by omega,by omega,h3,h1,h2,h7⟩
 obtain⟨e,rfl,he,hd,h1,h2,hm⟩:=hf;have hG:=fun w=>wE neg long s e sig w hd h1 h2 he;have hm0:=oV s e;unfold yVal;clear hd hk hx;generalize jJ s e=v at *;rw[show IG v=(v,0) by unfold IG;rw[aEo hm]]at hG;have HG:=aAC hG;clear hG;unfold yv at HK HM HG;have hY:=Ym.new neg long s e sig w 27;cases neg
 . unfold yv;go_enter func141,ntmps141;go_upto_region 1 with(fail);generalize w.alloc (.cells #[.bool false,.bool long,.string s,.int .i64 e,.int .i64 sig] 27)=W0 at hY ⊢;obtain⟨q0,q1,q2,q3,q4,qB⟩:=id hY
   go_wp2_with (first|(go_at_call 126;with_reducible refine(HK.out _).mono ?_;rintro _ w' ⟨rfl,hb⟩;replace hY:=hY.later hb;clear hb;obtain⟨q0,q1,q2,q3,q4,qB⟩:=id hY)|(go_at_call 170;with_reducible refine(HM.out _).mono ?_;rintro _ w' ⟨rfl,hb⟩;replace hY:=hY.later hb;clear hb;obtain⟨q0,q1,q2,q3,q4,qB⟩:=id hY)|(go_at_call 181;with_reducible refine(HG.out _).mono ?_;rintro _ w' ⟨rfl,hb⟩;replace hY:=hY.later hb;clear hb;obtain⟨q0,q1,q2,q3,q4,qB⟩:=id hY))
   go_ret2;exact⟨rfl,hY.below⟩
 unfold yv;go_enter func141,ntmps141;go_upto_region 1 with(fail);generalize w.alloc (.cells #[.bool true,.bool long,.string s,.int .i64 e,.int .i64 sig] 27)=W0 at hY ⊢;obtain⟨q0,q1,q2,q3,q4,qB⟩:=id hY
 go_wp2_with (first|(go_at_call 126;with_reducible refine(HK.out _).mono ?_;rintro _ w' ⟨rfl,hb⟩;replace hY:=hY.later hb;clear hb;obtain⟨q0,q1,q2,q3,q4,qB⟩:=id hY)|(go_at_call 170;with_reducible refine(HM.out _).mono ?_;rintro _ w' ⟨rfl,hb⟩;replace hY:=hY.later hb;clear hb;obtain⟨q0,q1,q2,q3,q4,qB⟩:=id hY)|(go_at_call 181;with_reducible refine(HG.out _).mono ?_;rintro _ w' ⟨rfl,hb⟩;replace hY:=hY.later hb;clear hb;obtain⟨q0,q1,q2,q3,q4,qB⟩:=id hY))
 go_ret2;exact⟨rfl,hY.below⟩
def bU(c:Int):Int:=if c=21\/c=25\/c=31 then 3 else if c=22\/c=26\/c=32 then 6 else if c=23\/c=27\/c=29\/c=39 then 9 else if c=24\/c=28\/c=30 then 12 else if c=34 then 4 else if c=35\/c=41 then 7 else if c=36 then 10 else if c=38 then 5 else 1
def dU(c:Int):Int:=if c<=36 then 3 else if c<=39 then 4 else 6
def qZ(i:Nat):Int:=if i % 2=0 then bU (21+i / 2)else dU (21+i / 2)
structure QL(w:World):Prop where
 cal:G9 w
 span: ∀i:Nat,i<42->w.cell? ⟨0,i,none⟩=some (.int .i64 (qZ i))
 syn: ∃t p,w.cell? ⟨3,0,none⟩=some (.iface t p)
 ran: ∃t p,w.cell? ⟨4,0,none⟩=some (.iface t p)
theorem QL.below{w w':World}(h:QL w)(hb:Below w.heap.size w w'):QL w':=
 ⟨h.cal.below hb,fun i hi=>aSV hb (h.span i hi),by obtain⟨t,p,h⟩:=h.syn;exact⟨t,p,aSV hb h⟩,by obtain⟨t,p,h⟩:=h.ran;exact⟨t,p,aSV hb h⟩⟩
theorem aCP(s:ByteArray)(v:Int)(h:atoiAll s.data.toList=.ok v)(hs:s.size<=1000)(W:World):
 Calls prog 142 #[.string s] W fun e w'=>e=.returned (.tuple #[.int .i64 v,.nilIface])/\Below W.heap.size W w':=by
 refine(strconv_Atoi_ok s (by omega) v h W).mono ?_;rintro e w' ⟨rfl,h⟩;refine⟨rfl,?_⟩;rcases h with rfl|⟨t,rfl⟩
 . exact aDA _ _
 exact aYs _ _ _
theorem aIe(s:ByteArray)(h: ∀v,atoiAll s.data.toList≠ .ok v)(hs:s.size<=1000)(W:World)(hk:QL W):
 Calls prog 142 #[.string s] W fun e w'=>(∃x t p,e=.returned (.tuple #[.int .i64 x,.iface t p]))/\Below W.heap.size W w':=by
 obtain⟨t1,p1,h1⟩:=hk.syn;obtain⟨t2,p2,h2⟩:=hk.ran;by_cases hh:atoiAll s.data.toList=.range
 . refine(strconv_Atoi_range s (by omega) hh _ W h2 (.inr ⟨_,_,rfl⟩)).mono ?_;rintro e w' ⟨N,rfl,_,_,hb⟩;exact⟨⟨_,_,_,rfl⟩,hb⟩
 refine(strconv_Atoi_syntax s (by omega) h hh _ W h1 (.inr ⟨_,_,rfl⟩)).mono ?_;rintro e w' ⟨N,rfl,_,_,hb⟩;exact⟨⟨_,_,_,rfl⟩,hb⟩
theorem aXM(pn pa pb pe:Addr)(n a b:Int)(u:FrameMode)(w:World)(hn:w.cell? pn=some (.int .i64 n))(ha:w.cell? pa=some (.int .i64 a))(hb:w.cell? pb=some (.int .i64 b))(h:decide (a<n)=decide (0<b)):
 CallsD prog 288 #[.pointer (some pn),.pointer (some pa),.pointer (some pb),.pointer (some pe)] u w fun e u' w'=>u'=u/\(e=.returned (.tuple #[])/\w'=w):=by
 by_cases c:0<b
 . have c2:a<n:=by rw[aDx c]at h;exact aEF h
   clear h
   go_enter_d func288,ntmps288
   go_wp2
   go_end0
   exact⟨rfl,rfl⟩
 have c2: ¬a<n:=by rw[aBW c]at h;exact aIH h
 clear h
 go_enter_d func288,ntmps288
 go_wp2
 go_end0
 exact⟨rfl,rfl⟩
theorem MB(a b:Int)(w:World)(a0: -9223372036854775808<=a)(a1:a<9223372036854775808)(b0:0<b)(b1:b<9223372036854775808)(h:a+b<9223372036854775808):
 Calls prog 260 #[.int .i64 a,.int .i64 b] w fun r w'=>r=.returned (.tuple #[.int .i64 (a+b),.int .i64 0])/\Below w.heap.size w w':=by
 have hmf: ∀(fn:Fn) (first cap:Array Value) (w:World),(Instr.makeFunc fn first cap).run prog w=.ok (.func fn first cap) w:=fun _ _ _ _=>rfl;have hb0: ¬b=0:=by omega
 go_enter_defers func260,ntmps260
 go_wp2
 refine leaves_cons (f:=288) (args:= #[.pointer (some ⟨w.heap.size+1+1,0,none⟩),.pointer (some ⟨w.heap.size,0,none⟩),.pointer (some ⟨w.heap.size+1,0,none⟩),.pointer (some ⟨w.heap.size+1+1+1,0,none⟩)]) (by simp) (by simp[go_sem]) ?_;refine(aXM _ _ _ _ (a+b) a b .returning _ (by simp[go_sem]) (by simp[go_sem]) (by simp[go_sem]) (by rw[aDx b0];exact aDx (by omega))).mono ?_;rintro e u' w'' ⟨rfl,rfl,rfl⟩;simp[Leaves,settle,results,results260,go_sem];exact ba (ba (ba (ba (aDA _ _) _) _) _) _
def OJ(y m k:Int):Int × Int:=((12 * y+(m - 1)+k) / 12,(12 * y+(m - 1)+k) % 12+1)
theorem RX(y m k:Int)(w:World)(h0: -10000000000000000<=y)(h1:y<=10000000000000000)(m0:1<=m)(m1:m<=12)(k0:0<k)(k1:k<=12)(hz:(OJ y m k).1<=10000000000000000):
 Calls prog 221 #[.int .i64 y,.int .i64 m,.int .i64 k] w fun r w'=>r=.returned (.tuple #[.int .i64 (OJ y m k).1,.int .i64 (OJ y m k).2,.int .i64 0])/\Below w.heap.size w w':=by
 have HC:Hid (∀w:World,Calls prog 233 #[.int .i64 y,.int .i64 m] w fun e w'=>e=.returned (.int .i64 0)/\w=w'):=aAC (by
  intro w;have:=lW y m w;unfold II at this;rw[aEo ⟨h0,h1⟩,aEo ⟨m0,m1⟩]at this;exact this)
 have HA:=aAC (fun w=>MB (12 * y+(m - 1)) k w (by omega) (by omega) k0 (by omega) (by omega));have hA1: -9223372036854775808<=12 * y+(m - 1)+k:=by omega
 have hA2:12 * y+(m - 1)+k<9223372036854775808:=by omega
 have HD:=aAC (fun w=>CZ (12 * y+(m - 1)+k) 12 w (by omega) (by omega) hA1 hA2);have HM:=aAC (fun w=>aCn (12 * y+(m - 1)+k) 12 w (by omega) (by omega) hA1 hA2);unfold OJ at *;have g0: -10000000000000000<=(12 * y+(m - 1)+k) / 12:=by omega
 have g1:(12 * y+(m - 1)+k) / 12<=10000000000000000:=hz;have HY:=aAC (fun w=>jL ((12 * y+(m - 1)+k) / 12) w g0 g1);have g2:0<=(12 * y+(m - 1)+k) % 12:=by omega
 have g3:(12 * y+(m - 1)+k) % 12<12:=by omega
 clear hz g0 g1 hA1 hA2;generalize (12 * y+(m - 1)+k) / 12=q at *;generalize (12 * y+(m - 1)+k) % 12=r at *;go_enter func221,ntmps221
 go_wp2_with (first
  |(go_at_call 233;with_reducible refine(HC.out _).mono ?_;rintro _ w' ⟨rfl,rfl⟩)
  |(go_at_call 260;with_reducible refine(HA.out _).mono ?_;rintro _ w' ⟨rfl,hb⟩)
  |(go_at_call 261;with_reducible refine(HD.out _).mono ?_;rintro _ w' ⟨rfl,rfl⟩)
  |(go_at_call 262;with_reducible refine(HM.out _).mono ?_;rintro _ w' ⟨rfl,rfl⟩)
  |(go_at_call 243;with_reducible refine(HY.out _).mono ?_;rintro _ w' ⟨rfl,rfl⟩))
 go_ret3;exact⟨rfl,hb⟩
theorem RY(y m k:Int)(w:World)(h0: -10000000000000000<=y)(h1:y<=10000000000000000)(m0:1<=m)(m1:m<=12)(k0:0<k)(k1:k<=12)(hz:10000000000000000<(OJ y m k).1):
 Calls prog 221 #[.int .i64 y,.int .i64 m,.int .i64 k] w fun r w'=>r=.returned (.tuple #[.int .i64 0,.int .i64 0,.int .i64 6])/\Below w.heap.size w w':=by
 have HC:Hid (∀w:World,Calls prog 233 #[.int .i64 y,.int .i64 m] w fun e w'=>e=.returned (.int .i64 0)/\w=w'):=aAC (by
  intro w;have:=lW y m w;unfold II at this;rw[aEo ⟨h0,h1⟩,aEo ⟨m0,m1⟩]at this;exact this)
 have HA:=aAC (fun w=>MB (12 * y+(m - 1)) k w (by omega) (by omega) k0 (by omega) (by omega));have hA1: -9223372036854775808<=12 * y+(m - 1)+k:=by omega
 have hA2:12 * y+(m - 1)+k<9223372036854775808:=by omega
 have HD:=aAC (fun w=>CZ (12 * y+(m - 1)+k) 12 w (by omega) (by omega) hA1 hA2);have HM:=aAC (fun w=>aCn (12 * y+(m - 1)+k) 12 w (by omega) (by omega) hA1 hA2);unfold OJ at *;have g1:10000000000000000<(12 * y+(m - 1)+k) / 12:=hz;have HY:=aAC (fun w=>zG ((12 * y+(m - 1)+k) / 12) w (.inr g1));clear hz g1 hA1 hA2;generalize (12 * y+(m - 1)+k) / 12=q at *;generalize (12 * y+(m - 1)+k) % 12=r at *;go_enter func221,ntmps221
 go_wp2_with (first
  |(go_at_call 233;with_reducible refine(HC.out _).mono ?_;rintro _ w' ⟨rfl,rfl⟩)
  |(go_at_call 260;with_reducible refine(HA.out _).mono ?_;rintro _ w' ⟨rfl,hb⟩)
  |(go_at_call 261;with_reducible refine(HD.out _).mono ?_;rintro _ w' ⟨rfl,rfl⟩)
  |(go_at_call 262;with_reducible refine(HM.out _).mono ?_;rintro _ w' ⟨rfl,rfl⟩)
  |(go_at_call 243;with_reducible refine(HY.out _).mono ?_;rintro _ w' ⟨rfl,rfl⟩))
 go_ret3;exact⟨rfl,hb⟩
theorem aM0{c:Int}(h0:21<=c)(h1:c<=41):qZ ((c - 21).toNat * 2)=bU c/\qZ ((c - 21).toNat * 2+1)=dU c:=by
 unfold qZ;have e:((c - 21).toNat * 2) / 2=(c - 21).toNat:=by omega
 have e2:((c - 21).toNat * 2+1) / 2=(c - 21).toNat:=by omega
 have e3:(21:Int)+(((c - 21).toNat:Nat):Int)=c:=by omega
 constructor
 . rw[aEo (by omega),show(21:Int)+((((c - 21).toNat * 2:Nat):Int) / 2)=c by omega]
 rw[aEg (by omega),show(21:Int)+((((c - 21).toNat * 2+1:Nat):Int) / 2)=c by omega]
theorem wI(c:Int)(w:World)(hk:QL w)(h0:21<=c)(h1:c<=41):
 Calls prog 220 #[.int .i64 c] w fun r w'=>r=.returned (.tuple #[.int .i64 (bU c),.int .i64 (dU c),.int .i64 0])/\Below w.heap.size w w':=by
 have HC:Hid (∀w:World,Calls prog 169 #[.int .i64 c] w fun e w'=>e=.returned (.int .i64 0)/\w=w'):=aAC (by
  intro w;have:=zK c w;rw[aEo ⟨h0,h1⟩]at this;exact this)
 obtain⟨n,rfl⟩: ∃n:Nat,c=(n:Int)+21:=⟨(c - 21).toNat,by omega⟩;obtain⟨e0,e1⟩:=aM0 h0 h1;rw[show ((n:Int)+21 - 21).toNat=n by omega]at e0 e1;have s0:=hk.span (n * 2) (by omega);have s1:=hk.span (n * 2+1) (by omega);rw[e0]at s0;rw[e1]at s1;clear e0 e1 hk;have l0:n<21:=by omega
 generalize bU ((n:Int)+21)=a at *;generalize dU ((n:Int)+21)=b at *;go_enter func220,ntmps220
 go_wp2_with (go_at_call 169;with_reducible refine(HC.out _).mono ?_;rintro _ w' ⟨rfl,rfl⟩)
 go_quiet (fail)
 go_wp2
 go_ret3;exact⟨rfl,below_drewN (ba (aDA _ _) _) _⟩
def UW(c:Int):Int:=if bU c+dU c - 1<=12 then bU c+dU c - 1 else bU c+dU c - 13
def iE(y c:Int):Int:=if bU c+dU c - 1<=12 then y else y+1
def rv(lo hi:Int):Value:=.agg #[.int .i8 0,.int .i64 lo,.int .i8 0,.int .i64 hi]
theorem J7(y c:Int)(w:World)(hk:QL w)(h0: -10000000000000000<=y)(h1:y<=10000000000000000)(c0:21<=c)(c1:c<=41)(hz:iE y c<=10000000000000000):
 Calls prog 171 #[.int .i64 y,.int .i64 c] w fun r w'=>r=.returned (.tuple #[rv (st y+nC y (bU c)) (st (iE y c)+nC (iE y c) (UW c+1) - 1),.int .i64 0])/\Below w.heap.size w w':=by
 have hf:1<=bU c/\bU c<=12/\3<=dU c/\dU c<=6/\bU c+dU c<=15:=by unfold bU dU;(repeat' split)<;>omega
 have HM:=aAC (fun W hb=>wI c W (hk.below (w':=W) hb) c0 c1);have HS:=aAC (fun W hb=>mW y (bU c) W (hk.below (w':=W) hb).cal h0 h1 hf.1 hf.2.1);have HA:Hid (∀w:World,Calls prog 221 #[.int .i64 y,.int .i64 (bU c),.int .i64 (dU c - 1)] w fun r w'=>r=.returned (.tuple #[.int .i64 (iE y c),.int .i64 (UW c),.int .i64 0])/\Below w.heap.size w w'):=aAC (by
  intro w;have e:OJ y (bU c) (dU c - 1)=(iE y c,UW c):=by
   unfold OJ iE UW;split<;>(refine Prod.ext ?_ ?_<;>simp only[]<;>omega)
  have:=RX y (bU c) (dU c - 1) w h0 h1 hf.1 hf.2.1 (by omega) (by omega) (by rw[e];exact hz);rw[e]at this;exact this)
 have y0: -10000000000000000<=iE y c:=by unfold iE;split<;>omega
 have t0:1<=UW c/\UW c<=12:=by unfold UW;split<;>omega
 have HE:=aAC (fun W hb=>CS (iE y c) (UW c) W (hk.below (w':=W) hb).cal y0 hz t0.1 t0.2);generalize st y+nC y (bU c)=lo at *;generalize st (iE y c)+nC (iE y c) (UW c+1) - 1=hi at *;obtain⟨f0,f1,f2,f3,f4⟩:=hf;generalize bU c=sf at *;generalize dU c=sm at *;generalize iE y c=sy at *;generalize UW c=so at *;clear hk hz y0 t0;unfold rv;go_enter func171,ntmps171
 go_wp2_with fail
 refine(HM.out _ (ba (aDA _ _) _)).mono ?_;rintro _ w1 ⟨rfl,hb1⟩
 go_wp2_with fail
 refine(HS.out _ (aYR (ba (aDA _ _) _) hb1)).mono ?_;rintro _ w2 ⟨rfl,hb2⟩
 go_wp2_with fail
 refine(HA.out _).mono ?_;rintro _ w3 ⟨rfl,hb3⟩
 go_wp2_with fail
 refine(HE.out _ (aYR (aYR (aYR (ba (aDA _ _) _) hb1) hb2) hb3)).mono ?_;rintro _ w4 ⟨rfl,hb4⟩;have hB:=aYR (aYR (aYR hb1 hb2) hb3) hb4;obtain⟨q0,q1,q2,q3,z0,z1,z2,z3⟩:=PK hB
 go_wp2_with fail
 refine aT9 (v:=.tuple #[.agg #[.int .i8 0,.int .i64 lo,.int .i8 0,.int .i64 hi],.int .i64 0]) (by simp[results,results171,go_sem,q0,q1,q2,q3]) rfl ⟨rfl,?_⟩;exact((((aYR (ba (aDA _ _) _) hB).setCell (aC4 _) _).setCell (aC4 _) _).setCell (aC4 _) _).setCell (aC4 _) _
theorem aAm(y c:Int)(w:World)(hk:QL w)(h0: -10000000000000000<=y)(h1:y<=10000000000000000)(c0:21<=c)(c1:c<=41)(hz:10000000000000000<iE y c):
 Calls prog 171 #[.int .i64 y,.int .i64 c] w fun r w'=>r=.returned (.tuple #[rv 0 0,.int .i64 6])/\Below w.heap.size w w':=by
 have hf:1<=bU c/\bU c<=12/\3<=dU c/\dU c<=6/\bU c+dU c<=15:=by unfold bU dU;(repeat' split)<;>omega
 have HM:=aAC (fun W hb=>wI c W (hk.below (w':=W) hb) c0 c1);have HS:=aAC (fun W hb=>mW y (bU c) W (hk.below (w':=W) hb).cal h0 h1 hf.1 hf.2.1);have HA:Hid (∀w:World,Calls prog 221 #[.int .i64 y,.int .i64 (bU c),.int .i64 (dU c - 1)] w fun r w'=>r=.returned (.tuple #[.int .i64 0,.int .i64 0,.int .i64 6])/\Below w.heap.size w w'):=aAC (by
  intro w;have e:(OJ y (bU c) (dU c - 1)).1=iE y c:=by
   unfold OJ iE;split<;>(simp only[];omega)
  exact RY y (bU c) (dU c - 1) w h0 h1 hf.1 hf.2.1 (by omega) (by omega) (by rw[e];exact hz))
 generalize st y+nC y (bU c)=lo at *;obtain⟨f0,f1,f2,f3,f4⟩:=hf;generalize bU c=sf at *;generalize dU c=sm at *;clear hk hz;unfold rv;go_enter func171,ntmps171
 go_wp2_with fail
 refine(HM.out _ (ba (aDA _ _) _)).mono ?_;rintro _ w1 ⟨rfl,hb1⟩
 go_wp2_with fail
 refine(HS.out _ (aYR (ba (aDA _ _) _) hb1)).mono ?_;rintro _ w2 ⟨rfl,hb2⟩
 go_wp2_with fail
 refine(HA.out _).mono ?_;rintro _ w3 ⟨rfl,hb3⟩;have hB:=aYR (aYR hb1 hb2) hb3;obtain⟨q0,q1,q2,q3,z0,z1,z2,z3⟩:=PK hB
 go_wp2_with fail
 refine aT9 (v:=.tuple #[.agg #[.int .i8 0,.int .i64 0,.int .i8 0,.int .i64 0],.int .i64 6]) (by simp[results,results171,go_sem,q0,q1,q2,q3]) rfl ⟨rfl,?_⟩;exact((((aYR (ba (aDA _ _) _) hB).setCell (aC4 _) _).setCell (aC4 _) _).setCell (aC4 _) _).setCell (aC4 _) _
structure Dm(p:Nat)(d:Dt)(w W:World):Prop where
 c0:W.cell? ⟨p,0,none⟩=some (.bool d.neg)
 c1:W.cell? ⟨p,1,none⟩=some (.bool d.long)
 c2:W.cell? ⟨p,2,none⟩=some (.string d.dg)
 c3:W.cell? ⟨p,3,none⟩=some (.int .i64 d.ex)
 c4:W.cell? ⟨p,4,none⟩=some (.int .i64 d.sig)
 c5:W.cell? ⟨p,5,none⟩=some (.string d.mo)
 c6:W.cell? ⟨p,6,none⟩=some (.string d.da)
 c7:W.cell? ⟨p,7,none⟩=some (.int .u8 d.m0)
 c8:W.cell? ⟨p,8,none⟩=some (.int .u8 d.m1)
 c9:W.cell? ⟨p,9,none⟩=some (.int .u8 d.m2)
 below:Below w.heap.size w W
theorem Dm.later{p:Nat}{d:Dt}{w W W2:World}(h:Dm p d w W)(hb:Below W.heap.size W W2):Dm p d w W2:=
 have g: ∀ {p:Addr} {v:Value},W.cell? p=some v->W2.cell? p=some v:=fun{p v} hc=>(hb.cell (aO4 _ _ hc)).trans hc
 ⟨g h.c0,g h.c1,g h.c2,g h.c3,g h.c4,g h.c5,g h.c6,g h.c7,g h.c8,g h.c9,aYR h.below hb⟩
theorem Dm.new(d:Dt)(w:World)(t:TypeId):Dm w.heap.size d w (w.alloc (.cells #[.bool d.neg,.bool d.long,.string d.dg,.int .i64 d.ex,.int .i64 d.sig,.string d.mo,.string d.da,.int .u8 d.m0,.int .u8 d.m1,.int .u8 d.m2] t)):=by
 refine⟨?_,?_,?_,?_,?_,?_,?_,?_,?_,?_,ba (aDA _ _) _⟩<;>simp[go_sem]
theorem QJ{s:ByteArray}(h: ¬s.size=2)(n:Int):kF s n=false:=by unfold kF;rw[aBW h,aPd]
theorem J3{s:ByteArray}(h: ¬s.size=2)(g:Nat):fJ s g=false:=by
 unfold fJ;rw[List.any_eq_false];intro i _;rw[QJ h];decide
theorem aCS{s:ByteArray}(h:s.size=2)(n:Int):kF s n=((decide (((s[0]'(by omega)).toNat:Int)=88)||decide (((s[0]'(by omega)).toNat:Int)=48+n / 10))&&(decide (((s[1]'(by omega)).toNat:Int)=88)||decide (((s[1]'(by omega)).toNat:Int)=48+n % 10))):=by
 unfold kF;rw[aDx h,aO8,dJ s 0 (by omega),dJ s 1 (by omega)]
theorem QI{x0 x1:Int}{q r:Int}{a0 a1 b0 b1:Bool}(h0:(x0==88)=a0)(h1:(x0==48+q)=a1)(h2:(x1==88)=b0)(h3:(x1==48+r)=b1):
 ((decide (x0=88)||decide (x0=48+q))&&(decide (x1=88)||decide (x1=48+r)))=((a0||a1)&&(b0||b1)):=by
 subst h0 h1 h2 h3;rfl
theorem NW(s:ByteArray)(g:Nat)(w:World)(hg:g<=99):
 Calls prog 122 #[.string s,.int .i64 g] w fun r w'=>r=.returned (.bool (fJ s g))/\Below w.heap.size w w':=by
 by_cases c:s.size=2
 case neg=>
  rw[J3 c];go_enter func122,ntmps122
  go_wp2
  go_ret;exact⟨rfl,aDA _ _⟩
 have HA:=aAC (aCS c);have HM:=aAC (fun(k:Nat) (h:k<g) (ht:kF s ((k:Int)+1)=true)=>(J4 (s:=s) (g:=k+1) (h:=g) (by omega) (by rw[uK,ht,aX1]):fJ s g=true));have HN:=aAC (fun(k:Nat) (h:fJ s k=false) (ht:kF s ((k:Int)+1)=false)=>(by rw[uK,h,ht];rfl:fJ s (k+1)=false));have l0:0<s.size:=by omega
 have l1:1<s.size:=by omega
 go_enter func122,ntmps122
 go_wp2
 go_loopw [5] (fun i wr=> ∃k:Nat,k<=g/\i=.int .i64 ((k:Int)+1)/\fJ s k=false/\Below w.heap.size w wr) (fun i _=>g+1 - (intOf i).toNat)
 case atStart=>exact⟨0,aLp _,rfl,rfl,aDA _ _⟩
 case round=>
  obtain⟨k,hk,rfl,hz,hb⟩:=hrel;by_cases hlt:k<g
  . have hA:=HA.out ((k:Int)+1);obtain⟨a0,g0⟩: ∃b,(((s[0]'l0).toNat:Int)==88)=b:=⟨_,rfl⟩;obtain⟨a1,g1⟩: ∃b,(((s[0]'l0).toNat:Int)==48+((k:Int)+1) / 10)=b:=⟨_,rfl⟩;obtain⟨b0,g2⟩: ∃b,(((s[1]'l1).toNat:Int)==88)=b:=⟨_,rfl⟩;obtain⟨b1,g3⟩: ∃b,(((s[1]'l1).toNat:Int)==48+((k:Int)+1) % 10)=b:=⟨_,rfl⟩;rw[QI g0 g1 g2 g3]at hA;have HB:=aAC hb;have HZ:=aAC hz;have HA2:=aAC hA;clear hb hz hA;have q0:0<=((k:Int)+1) / 10:=by omega
    have q1:((k:Int)+1) / 10<=9:=by omega
    have r0:0<=((k:Int)+1) % 10:=by omega
    have r1:((k:Int)+1) % 10<=9:=by omega
    have HBt:=aAC (fun W (h:Below wr.heap.size wr W)=>aYR HB.out h);cases a0<;>cases a1<;>cases b0<;>cases b1
    all_goals
     as_aux_lemma=>
      go_wp2
      go_quiet (fail)
      go_wp2
      first
      | (go_ret
         exact⟨rb (HM.out k hlt HA2.out).symm,HBt.out _ (below_drewN (ba (aDA _ _) _) _)⟩)
      | (go_roundw
         case rel=>exact⟨k+1,by omega,by go_num,HN.out k HZ.out HA2.out,HBt.out _ (below_drewN (ba (aDA _ _) _) _)⟩
         case measure=>simp[intOf];omega)
  obtain rfl:k=g:=by omega
  have HB:=aAC hb;have HZ:=aAC hz;clear hb hz
  go_wp2
  go_ret;exact⟨rb HZ.out.symm,HB.out⟩
theorem JC(s:ByteArray):(s.toList==(⟨#[]⟩:ByteArray).toList)=decide (s.size=0):=by
 rw[<-aKX,show(⟨#[]⟩:ByteArray).toList=[]from by kernel_rfl];cases s.toList<;>rfl
theorem aEp(d:Dt)(w:World):
 Calls prog 89 #[dP d] w fun r w'=>r=.returned (.int .i64 (comps d.mo d.da))/\Below w.heap.size w w':=
 UU (aMx d w) (by rw[JC,JC];unfold comps;simp only[aO9,aEZ];(repeat' split)<;>rfl)
theorem uO(d:Dt)(w:World)(hk:QL w)(hs:d.mo.size<=1000):
 Calls prog 120 #[dP d] w fun r w'=>r=.returned (.tuple #[.int .i64 d.aH,.bool (!decide (d.aH=0))])/\Below w.heap.size w w':=by
 have hD:=Dm.new d w 30;have HE:(∃v,atoiAll d.mo.data.toList=.ok v)\/ ∀v,atoiAll d.mo.data.toList≠ .ok v:=by
  cases h:atoiAll d.mo.data.toList
  . exact .inl ⟨_,rfl⟩
  . exact .inr (fun v e=>by cases e)
  exact .inr (fun v e=>by cases e)
 unfold Dt.aH dP;rcases HE with⟨v,hv⟩|hv
 . have HA:=aAC (fun W=>aCP d.mo v hv hs W);by_cases c:d.mo.size=2
   . rw[ZF c hv];have HC:=fun W=>zK v W;clear hv;by_cases cv:21<=v/\v<=41
     . rw[aEo cv]at HC ⊢;have ev:decide (v=0)=false:=aBW (by omega);rw[ev];replace HC:=aAC HC;clear cv ev;go_enter func120,ntmps120;go_upto_region 1 with(fail);generalize w.alloc (.cells #[.bool d.neg,.bool d.long,.string d.dg,.int .i64 d.ex,.int .i64 d.sig,.string d.mo,.string d.da,.int .u8 d.m0,.int .u8 d.m1,.int .u8 d.m2] 30)=W0 at hD ⊢;obtain⟨q0,q1,q2,q3,q4,q5,q6,q7,q8,q9,qB⟩:=id hD
       go_wp2_with fail
       refine(HA.out _).mono ?_;rintro _ w1 ⟨rfl,hb⟩;replace hD:=hD.later hb;clear hb;obtain⟨q0,q1,q2,q3,q4,q5,q6,q7,q8,q9,qB⟩:=id hD
       go_wp2_with (go_at_call 169;with_reducible refine(HC.out _).mono ?_;rintro _ w' ⟨rfl,rfl⟩)
       go_ret2;exact⟨rfl,hD.below⟩
     rw[aEg cv]at HC ⊢;replace HC:=aAC HC;clear cv;go_enter func120,ntmps120;go_upto_region 1 with(fail);generalize w.alloc (.cells #[.bool d.neg,.bool d.long,.string d.dg,.int .i64 d.ex,.int .i64 d.sig,.string d.mo,.string d.da,.int .u8 d.m0,.int .u8 d.m1,.int .u8 d.m2] 30)=W0 at hD ⊢;obtain⟨q0,q1,q2,q3,q4,q5,q6,q7,q8,q9,qB⟩:=id hD
     go_wp2_with fail
     refine(HA.out _).mono ?_;rintro _ w1 ⟨rfl,hb⟩;replace hD:=hD.later hb;clear hb;obtain⟨q0,q1,q2,q3,q4,q5,q6,q7,q8,q9,qB⟩:=id hD
     go_wp2_with (go_at_call 169;with_reducible refine(HC.out _).mono ?_;rintro _ w' ⟨rfl,rfl⟩)
     go_ret2;exact⟨rfl,hD.below⟩
   rw[F5 c];clear hv;have c2:((d.mo.size:Int) !=2)=true:=by rw[aRp];omega
   clear c;go_enter func120,ntmps120;go_upto_region 1 with(fail);generalize w.alloc (.cells #[.bool d.neg,.bool d.long,.string d.dg,.int .i64 d.ex,.int .i64 d.sig,.string d.mo,.string d.da,.int .u8 d.m0,.int .u8 d.m1,.int .u8 d.m2] 30)=W0 at hD ⊢;obtain⟨q0,q1,q2,q3,q4,q5,q6,q7,q8,q9,qB⟩:=id hD
   go_wp2_with fail
   refine(HA.out _).mono ?_;rintro _ w1 ⟨rfl,hb⟩;replace hD:=hD.later hb;clear hb;obtain⟨q0,q1,q2,q3,q4,q5,q6,q7,q8,q9,qB⟩:=id hD
   go_wp2_with fail
   go_ret2;exact⟨rfl,hD.below⟩
 have HA:=aAC (fun W hb=>aIe d.mo hv hs W (hk.below (w':=W) hb));rw[aEu hv];clear hv;go_enter func120,ntmps120;go_upto_region 1 with(fail);generalize w.alloc (.cells #[.bool d.neg,.bool d.long,.string d.dg,.int .i64 d.ex,.int .i64 d.sig,.string d.mo,.string d.da,.int .u8 d.m0,.int .u8 d.m1,.int .u8 d.m2] 30)=W0 at hD ⊢;obtain⟨q0,q1,q2,q3,q4,q5,q6,q7,q8,q9,qB⟩:=id hD
 go_wp2_with fail
 refine(HA.out _ hD.below).mono ?_;rintro _ w1 ⟨⟨x,t,p,rfl⟩,hb⟩;replace hD:=hD.later hb;clear hb;obtain⟨q0,q1,q2,q3,q4,q5,q6,q7,q8,q9,qB⟩:=id hD
 go_wp2_with fail
 go_ret2;exact⟨rfl,hD.below⟩
theorem aBH{neg long:Bool}{s:ByteArray}{ex sig:Int}(hk:zH neg long s ex sig=true)(hx:hasB 88 s=false): -10000000000000000<=yVal neg s ex/\yVal neg s ex<=10000000000000000:=by
 have h0:=oV s ex;have h1:jJ s ex<=10000000000000000:=by
  cases long
  . obtain⟨h1,h2,h3,_⟩:=kH hk;have hd:=(lD h2).1 hx;have:=uD hd h1;have hz:jJ s 0=bJ s:=by unfold jJ p10;simp
    rw[h3,hz];omega
  exact(kN hk).2.2.2.2.2.2.1
 unfold yVal;split<;>omega
theorem O1(d:Dt)(w:World)(hk:QL w)(hs:d.mo.size<=1000)(hy:d.dg.size<=1000):
 Calls prog 121 #[dP d] w fun r w'=>r=.returned (.bool d.mF)/\Below w.heap.size w w':=by
 have hK: ∀c:Int,(if d.U7 then 0 else 6)=c->Same w 126 #[yv d.neg d.long d.dg d.ex d.sig] (.int .i64 c):=fun c e=>e ▸ fun W _=>JM d.neg d.long d.dg d.ex d.sig W hy;have hS:=fun W hb=>uO d W (hk.below (w':=W) hb) hs;have hM: ∀b,d.mask=b->Same w 170 #[yv d.neg d.long d.dg d.ex d.sig] (.bool b):=fun b e=>e ▸ fun W _=>rG d.neg d.long d.dg d.ex d.sig W;unfold Dt.mF Dt.far;cases hok:d.U7
 . exact UU (aPA d w (hK 6 (by rw[hok];rfl))) rfl
 have h0:=hK 0 (by rw[hok];rfl);by_cases e1:d.aH=0
 . rw[e1]at hS;refine UU (aPz d w h0 hS) ?_;rw[JC,e1];by_cases c:0<d.sig<;>by_cases e:d.mo.size=0<;>simp[c,e]
 rw[aBW e1]at hS;have sb:21<=d.aH/\d.aH<=41:=(nO d.mo).resolve_left e1;cases hx:d.mask
 case true=>
  refine UU (aPy d d.aH w h0 hS (hM _ hx)) ?_;rw[JC];by_cases c:0<d.sig<;>by_cases e:d.mo.size=0<;>simp[c,e]
 have hy0: -10000000000000000<=yVal d.neg d.dg d.ex/\yVal d.neg d.dg d.ex<=10000000000000000:=aBH hok hx;have hyv:(decide (d.mag=10000000000000000)&& !d.neg)=decide (yVal d.neg d.dg d.ex=10000000000000000):=by
  have:=oV d.dg d.ex;unfold yVal;cases d.neg
  . rw[aUn,aTY];rfl
  rw[aYt,aPe];symm;apply aBW;simp only[aUj];omega
 have hV:=fun W (_:Below w.heap.size w W)=>zX d.neg d.long d.dg d.ex d.sig W hy hok hx;rw[hyv];generalize yVal d.neg d.dg d.ex=y at *;have aOb:((decide (d.aH=24)||(decide (d.aH=28)||decide (d.aH=30)))&&decide (y=10000000000000000))=decide (10000000000000000<iE y d.aH):=by
  unfold iE bU dU;generalize d.aH=c at *;rw[aPg];simp only[aEb,aMi,aEZ];constructor
  . rintro⟨h|h|h,rfl⟩<;>subst h<;>decide
  intro h
  (repeat' split at h)<;>omega
 rw[aUn,aO8,aO8,aOb];by_cases cz:10000000000000000<iE y d.aH
 . refine UU (aLv d d.aH y 6 0 0 0 0 w h0 hS (hM _ hx) hV (fun W hb=>aAm y d.aH W (hk.below hb) hy0.1 hy0.2 sb.1 sb.2 cz)) ?_;rw[JC];by_cases c:0<d.sig<;>by_cases e:d.mo.size=0<;>simp[c,e,cz]
 refine UU (aLv d d.aH y 0 0 _ 0 _ w h0 hS (hM _ hx) hV (fun W hb=>J7 y d.aH W (hk.below hb) hy0.1 hy0.2 sb.1 sb.2 (by omega))) ?_;rw[JC];by_cases c:0<d.sig<;>by_cases e:d.mo.size=0<;>simp[c,e,cz]
theorem aYS(a b:ByteArray):1<=comps a b/\comps a b<=3:=by unfold comps;(repeat' split)<;>omega
theorem aBq(d:Dt)(w:World)(hk:QL w)(hs:d.mo.size<=1000)(hy:d.dg.size<=1000)(m0:0<=d.m0)(m1:0<=d.m1)(m2:0<=d.m2):
 Calls prog 88 #[dP d] w fun r w'=>r=.returned (.int .i64 d.form)/\Below w.heap.size w w':=by
 refine UU (aIS d d.aH (comps d.mo d.da) (jR d.m0 d.m1 d.m2 (comps d.mo d.da)) _ d.mF (fJ d.mo 12) (fJ d.da 31) w (fun W hb=>uO d W (hk.below hb) hs) (fun W hb=>O1 d W (hk.below hb) hs hy)
  (fun W _=>NW d.mo 12 W (by omega)) (fun W _=>NW d.da 31 W (by omega)) (fun W _=>aEp d W) (fun W _=>SG d.m0 d.m1 d.m2 (comps d.mo d.da) W m0 m1 m2 (aYS _ _).1 (aYS _ _).2)) ?_
 rw[JC,JC];unfold Dt.form;cases d.mF<;>cases fJ d.mo 12<;>cases fJ d.da 31<;>by_cases e1:d.mo.size=0<;>by_cases e2:d.da.size=0<;>by_cases e3:d.aH=0<;>simp[e1,e2,e3]
def dQ(W:World)(v:Value)(l:List Int):Prop:= ∃g cap,v=.slice (some ⟨g,0,none⟩) l.length cap/\g<W.heap.size/\ ∀i (h:i<l.length),W.cell? ⟨g,i,none⟩=some (.int .i64 (l[i]'h))
theorem dQ.later{W W2:World}{v:Value}{l:List Int}(h:dQ W v l)(hb:Below W.heap.size W W2):dQ W2 v l:=by
 obtain⟨g,cap,rfl,hg,hc⟩:=h;exact⟨g,cap,rfl,by have:=hb.size;omega,fun i hi=>(hb.cell (p:=⟨g,i,none⟩) hg).trans (hc i hi)⟩
theorem dQ.own{W:World}{base e:Nat}{v:Value}{l:List Int}(h:W.ownsRow base e 1 v l.length (l.map (.int .i64)))(hne:l≠[]):dQ W v l:=by
 obtain⟨h1,⟨rfl,h2⟩|⟨g,cap,cur,rfl,hg,hh,hn,hc,hs,ht⟩⟩:=h
 . exact absurd (aO5.1 h2) hne
 refine⟨g,cap,rfl,?_,fun i hi=>?_⟩
 . by_cases c:g<W.heap.size
   . exact c
   rw[aL9 (by omega)]at hh;cases hh
 have hown:W.ownsRow base e 1 (.slice (some ⟨g,0,none⟩) l.length cap) l.length (l.map (.int .i64)):=⟨h1,.inr ⟨g,cap,cur,rfl,hg,hh,hn,hc,hs,ht⟩⟩;rw[hown.cellAt i (by omega),aEC,aE5 hi];rfl
theorem dQ.one{W:World}{g cap:Nat}{n:Int}(hg:g<W.heap.size)(hc:W.cell? ⟨g,0,none⟩=some (.int .i64 n)):dQ W (.slice (some ⟨g,0,none⟩) 1 cap) [n]:=
 ⟨g,cap,rfl,hg,fun i hi=>by
  have:i=0:=by simp at hi;omega
  subst this;exact hc⟩
def aMt(l:List Int)(w:World)(e:Ending)(w':World):Prop:= ∃v,e=.returned v/\dQ w' v l/\Below w.heap.size w w'
theorem X6:(prog.info? 3).map (fun i=>(i.zero,i.size,i.bytes))=some (some (.int .i64 0),1,8):=by kernel_rfl
theorem YH(s:ByteArray)(n:Int)(w:World)(h2:s.size=2)(hx: ∀i,i<2->fE s i=88\/(48<=fE s i/\fE s i<=57))(n0:1<=n)(n1:n<=99):
 Calls prog 178 #[.string s,.int .i64 n] w fun r w'=>r=.returned (.bool (kF s n))/\w=w':=by
 have l0:0<s.size:=by omega
 have l1:1<s.size:=by omega
 have hA:=aCS h2 n;have x0:=hx 0 (by omega);have x1:=hx 1 (by omega);rw[dJ s 0 l0]at x0;rw[dJ s 1 l1]at x1;have y0:48<=((s[0]'l0).toNat:Int):=by omega
 have y1:48<=((s[1]'l1).toNat:Int):=by omega
 have z0:((s[0]'l0).toNat:Int)<=88:=by omega
 have z1:((s[1]'l1).toNat:Int)<=88:=by omega
 have q0:0<=n / 10:=by omega
 have r0:0<=n % 10:=by omega
 obtain⟨a0,g0⟩: ∃b,(((s[0]'l0).toNat:Int)==88)=b:=⟨_,rfl⟩;obtain⟨a1,g1⟩: ∃b,(((s[0]'l0).toNat:Int) - 48==n / 10)=b:=⟨_,rfl⟩;obtain⟨b0,g2⟩: ∃b,(((s[1]'l1).toNat:Int)==88)=b:=⟨_,rfl⟩;obtain⟨b1,g3⟩: ∃b,(((s[1]'l1).toNat:Int) - 48==n % 10)=b:=⟨_,rfl⟩;have g1':(((s[0]'l0).toNat:Int)==48+n / 10)=a1:=by rw[<-g1,aPg];simp only[aI3];omega
 have g3':(((s[1]'l1).toNat:Int)==48+n % 10)=b1:=by rw[<-g3,aPg];simp only[aI3];omega
 rw[QI g0 g1' g2 g3']at hA;have HA:=aAC hA;clear hA x0 x1 hx g1' g3' h2;cases a0<;>cases a1<;>cases b0<;>cases b1
 all_goals
  as_aux_lemma=>
   go_enter func178,ntmps178
   go_wp2
   go_ret;exact⟨rb HA.out.symm,rfl⟩
theorem aCw(s:ByteArray)(g:Nat):(fO s g).length<=g:=qH s g
theorem fits_any (s:ByteArray) (g:Nat) (w:World) (h2:s.size=2) (hx: ∀i,i<2->fE s i=88\/(48<=fE s i/\fE s i<=57)) (hg:g<=99) (hne:fO s g≠[]):
 Calls prog 134 #[.string s,.int .i64 g] w (aMt (fO s g) w):=by
 obtain⟨i0,hi,hz0,hz1,hz2⟩:=aYl X6;have HF:=aAC (fun(k:Nat) (hk:k<g) (w:World)=>YH s ((k:Int)+1) w h2 hx (by omega) (by omega));have HNE:=aAC hne;clear hx hne h2;go_enter func134,ntmps134
 go_wp2
 go_loopw [5,8] (fun v i wr=> ∃k:Nat,k<=g/\i=.int .i64 k/\wr.ownsRow w.heap.size 3 1 v (fO s k).length ((fO s k).map (Value.int .i64))/\Below w.heap.size w wr) (fun _ i _=>g - (intOf i).toNat)
 case atStart=>exact⟨0,aLp _,rfl,aRr _ _ _ _,aDA _ _⟩
 case round=>
  obtain⟨k,hk,rfl,hown,hb⟩:=hrel;by_cases hlt:k<g
  . have hf:=HF.out k hlt;have hle:=aCw s k;cases ha:kF s ((k:Int)+1)
    . as_aux_lemma=>
       rw[ha]at hf;have HA:=aAC hf;have HE:=aAC (MP ha);have HO:=aAC hown;have HB:=aAC hb;clear hf ha hown hb
       go_wp2_with (go_at_call 178;with_reducible refine(HA.out _).mono ?_;rintro _ w' ⟨rfl,rfl⟩)
       go_roundw
       case rel=>exact⟨k+1,by omega,by go_num,by rw[HE.out];exact HO.out,HB.out⟩
       case measure=>simp[intOf];omega
    as_aux_lemma=>
     rw[ha]at hf;have HA:=aAC hf;have HE:=aAC (FD ha);have HB:=aAC hb;clear hf ha hb
     go_wp2_with (first
      |(go_at_call 178;with_reducible refine(HA.out _).mono ?_;rintro _ w' ⟨rfl,rfl⟩)
      |(at_builtin;refine aUM _ rfl _ _ 165 rfl w.heap.size 3 i0 (.int .i64 0) 1 8 underlying165 hi hz0 hz1 hz2 rfl (by decide) _ _ _ rfl (hown.alloc _) ⟨wr.heap.size,0,none⟩ 1 1 [.int .i64 ((k:Int)+1)] rfl rfl ?c1 ?c2 ?c3 ?c4 ?c5 ?_))
     case c1=>
      intro j u hj
      match j,hj with
      |0,hj=>simp at hj;subst hj;simp[Addr.add]
     case c2=>intro u hu;simp at hu;subst hu;rfl
     case c3=>unfold maxLen;omega
     case c4=>omega
     case c5=>have:=HB.out.size;simp;omega
     intro v' w1 hown' hgrow _;have hB2:=((HB.out).alloc (HB.out.size) (.cells #[.int .i64 ((k:Int)+1)] 3)).grown hgrow (by have:=HB.out.size;simp;omega) (fun j hj=>(hown.lt j hj).1);have hO2:w1.ownsRow w.heap.size 3 1 v' (fO s (k+1)).length ((fO s (k+1)).map (Value.int .i64)):=by rw[HE.out];simpa using hown'
     replace hB2:=aAC hB2;replace hO2:=aAC hO2;clear hown' hgrow hown HB
     go_wp2
     go_roundw
     case rel=>exact⟨k+1,by omega,by go_num,hO2.out,hB2.out⟩
     case measure=>simp[intOf];omega
  as_aux_lemma=>
   obtain rfl:k=g:=by omega
   have hS:=dQ.own hown HNE.out;have HB:=aAC hb;replace hS:=aAC hS;clear hown hb HF
   go_wp2
   go_ret;exact⟨_,rfl,hS.out,HB.out⟩
theorem jX{s:ByteArray}{g:Nat}(hg:g<=99)(h:fJ s g=true):s.size=2/\(∀i,i<2->fE s i=88\/(48<=fE s i/\fE s i<=57))/\fO s g≠[]:=by
 refine⟨?_,?_,(MO s g).1 h⟩
 . by_cases c:s.size=2
   . exact c
   rw[J3 c]at h;cases h
 obtain⟨n,h1,h2,h3⟩:=(xY s g).1 h;unfold kF at h3;simp only[aEb,aMi,aEZ]at h3;intro i hi;obtain rfl|rfl:i=0\/i=1:=by omega
 all_goals omega
def iZ(d:Dt):List Value:=[.bool d.neg,.bool d.long,.string d.dg,.int .i64 d.ex,.int .i64 d.sig,.string d.mo,.string d.da,.int .u8 d.m0,.int .u8 d.m1,.int .u8 d.m2]
def lG(d:Dt)(mv dv:Value):List Value:=[.bool d.neg,.bool d.long,.string d.dg,.int .i64 d.ex,.int .i64 d.sig,.string d.mo,.string d.da,.int .u8 d.m0,.int .u8 d.m1,.int .u8 d.m2,mv,dv]
def SH:List Value:=[.bool false,.bool false,.string ⟨#[]⟩,.int .i64 0,.int .i64 0,.string ⟨#[]⟩,.string ⟨#[]⟩,.int .u8 0,.int .u8 0,.int .u8 0,.slice none 0 0,.slice none 0 0]
theorem aOn(d:Dt):dP d=.agg (iZ d).toArray:=rfl
theorem yK:(prog.info? 30).map (·.size)=some 10:=by kernel_rfl
theorem nT:(prog.info? 167).map (·.size)=some 12:=by kernel_rfl
def aLo(d:Dt)(w:World)(e:Ending)(w':World):Prop:= ∃mv dv,e=.returned (.agg (lG d mv dv).toArray)/\dQ w' mv d.ms/\dQ w' dv d.ds/\Below w.heap.size w w'
theorem kR{d:Dt}(h:d.form=0):(d.aH≠0/\d.mo.size≠0/\d.da.size=0)\/(d.aH=0/\d.mo.size≠0/\fJ d.mo 12=true/\(d.da.size=0\/fJ d.da 31=true))\/(d.aH=0/\d.mo.size=0/\d.da.size=0):=by
 obtain⟨_,h1,h2,_⟩:=Dt.yM h;by_cases c:d.aH=0
 . by_cases e:d.mo.size=0
   . refine .inr (.inr ⟨c,e,?_⟩);rcases h2 with h2|h2
     . exact h2
     exact absurd e h2.1
   refine .inr (.inl ⟨c,e,?_,?_⟩)
   . rcases h1 with h1|h1|h1
     . exact absurd h1 e
     . exact absurd c h1
     exact h1
   rcases h2 with h2|h2
   . exact .inl h2
   exact .inr h2.2.2
 refine .inl ⟨c,?_,?_⟩
 . intro e;exact c (F5 (by omega))
 rcases h2 with h2|h2
 . exact h2
 exact absurd h2.2.1 c
theorem l7(w:World)(o:Obj):(w.alloc o).heap.size=w.heap.size+1:=by show(w.heap.push o).size=_;simp
theorem aLT(d:Dt){mv dv:Value}(hm:mv.oneCell'=true)(hd:dv.oneCell'=true):(lG d mv dv).toArray.all (·.oneCell')=true:=
 aWR (fun v hv=>by
  unfold lG at hv;simp only[aLr,aSU,aXj]at hv;rcases hv with rfl|rfl|rfl|rfl|rfl|rfl|rfl|rfl|rfl|rfl|rfl|rfl<;>first|rfl|assumption)
theorem dQ.one'{W:World}{v:Value}{l:List Int}(h:dQ W v l):v.oneCell'=true:=by obtain⟨g,cap,rfl,_⟩:=h;rfl
theorem dQ.lit{w W:World}(n:Int):dQ (W.alloc (.cells #[.int .i64 n] 3)) (.slice (some ⟨W.heap.size,0,none⟩) 1 1) [n]:=
 dQ.one (by rw[l7];omega) (by simp[go_sem])
theorem Rw.NG{p:Nat}{d:Dt}{w W:World}(h:Rw p (iZ d) w W):W.cell? ⟨p,0,none⟩=some (.bool d.neg)/\W.cell? ⟨p,1,none⟩=some (.bool d.long)/\W.cell? ⟨p,2,none⟩=some (.string d.dg)/\W.cell? ⟨p,3,none⟩=some (.int .i64 d.ex)/\W.cell? ⟨p,4,none⟩=some (.int .i64 d.sig)/\W.cell? ⟨p,5,none⟩=some (.string d.mo)/\W.cell? ⟨p,6,none⟩=some (.string d.da)/\W.cell? ⟨p,7,none⟩=some (.int .u8 d.m0)/\W.cell? ⟨p,8,none⟩=some (.int .u8 d.m1)/\W.cell? ⟨p,9,none⟩=some (.int .u8 d.m2):=
 ⟨h.cell _ _ rfl,h.cell _ _ rfl,h.cell _ _ rfl,h.cell _ _ rfl,h.cell _ _ rfl,h.cell _ _ rfl,h.cell _ _ rfl,h.cell _ _ rfl,h.cell _ _ rfl,h.cell _ _ rfl⟩
theorem aHo{w W0:World}{p1 p2:Nat}(d:Dt)(h1:Rw p1 (iZ d) w W0)(h2:Rw p2 SH w W0):
 (((W0.alloc (.cells #[.int .i64 0] 3)).alloc (.cells #[.int .i64 0] 3)).alloc (.cells #[.bool false,.bool false,.string ⟨#[]⟩,.int .i64 0,.int .i64 0,.string ⟨#[]⟩,.string ⟨#[]⟩,.int .u8 0,.int .u8 0,.int .u8 0,.slice none 0 0,.slice none 0 0] 167)).there (W0.heap.size+1+1) 0 12/\
 ∀mv dv:Value,mv=.slice (some ⟨W0.heap.size,0,none⟩) 1 1->dv=.slice (some ⟨W0.heap.size+1,0,none⟩) 1 1-> ∀W3,W3=(((W0.alloc (.cells #[.int .i64 0] 3)).alloc (.cells #[.int .i64 0] 3)).alloc (.cells #[.bool false,.bool false,.string ⟨#[]⟩,.int .i64 0,.int .i64 0,.string ⟨#[]⟩,.string ⟨#[]⟩,.int .u8 0,.int .u8 0,.int .u8 0,.slice none 0 0,.slice none 0 0] 167)).setCells (W0.heap.size+1+1) 0 (lG d mv dv)->
  W0.heap.size+1+1≠p2/\W0.heap.size+1+1≠p1/\Rw (W0.heap.size+1+1) (lG d mv dv) w W3/\Rw p2 SH w W3/\Rw p1 (iZ d) w W3/\dQ W3 mv [0]/\dQ W3 dv [0]:=by
 have b0:=h1.below;have e1:(W0.alloc (.cells #[.int .i64 0] 3)).heap.size=W0.heap.size+1:=l7 _ _;have e2:((W0.alloc (.cells #[.int .i64 0] 3)).alloc (.cells #[.int .i64 0] 3)).heap.size=W0.heap.size+1+1:=by rw[l7,e1]
 have h3:Rw (W0.heap.size+1+1) SH w (((W0.alloc (.cells #[.int .i64 0] 3)).alloc (.cells #[.int .i64 0] 3)).alloc (.cells #[.bool false,.bool false,.string ⟨#[]⟩,.int .i64 0,.int .i64 0,.string ⟨#[]⟩,.string ⟨#[]⟩,.int .u8 0,.int .u8 0,.int .u8 0,.slice none 0 0,.slice none 0 0] 167)):=by
  have:=Rw.fresh (ba (ba b0 (.cells #[.int .i64 0] 3)) (.cells #[.int .i64 0] 3)) SH 167;rw[e2]at this;exact this
 refine⟨h3.there,?_⟩;rintro mv dv rfl rfl W3 rfl;have l1:=h1.lt;have l2:=h2.lt;have n1:=h1.new;have bA:Below W0.heap.size W0 (((W0.alloc (.cells #[.int .i64 0] 3)).alloc (.cells #[.int .i64 0] 3)).alloc (.cells #[.bool false,.bool false,.string ⟨#[]⟩,.int .i64 0,.int .i64 0,.string ⟨#[]⟩,.string ⟨#[]⟩,.int .u8 0,.int .u8 0,.int .u8 0,.slice none 0 0,.slice none 0 0] 167)):=ba (ba (ba (aDA _ _) _) _) _;have i1:dQ (((W0.alloc (.cells #[.int .i64 0] 3)).alloc (.cells #[.int .i64 0] 3)).alloc (.cells #[.bool false,.bool false,.string ⟨#[]⟩,.int .i64 0,.int .i64 0,.string ⟨#[]⟩,.string ⟨#[]⟩,.int .u8 0,.int .u8 0,.int .u8 0,.slice none 0 0,.slice none 0 0] 167)) (.slice (some ⟨W0.heap.size,0,none⟩) 1 1) [0]:=
  ((dQ.lit (w:=w) (W:=W0) 0).later (ba (aDA _ _) _)).later (ba (aDA _ _) _)
 have i2:dQ (((W0.alloc (.cells #[.int .i64 0] 3)).alloc (.cells #[.int .i64 0] 3)).alloc (.cells #[.bool false,.bool false,.string ⟨#[]⟩,.int .i64 0,.int .i64 0,.string ⟨#[]⟩,.string ⟨#[]⟩,.int .u8 0,.int .u8 0,.int .u8 0,.slice none 0 0,.slice none 0 0] 167)) (.slice (some ⟨W0.heap.size+1,0,none⟩) 1 1) [0]:=by
  have:=(dQ.lit (w:=w) (W:=W0.alloc (.cells #[.int .i64 0] 3)) 0).later (ba (aDA _ _) (.cells #[.bool false,.bool false,.string ⟨#[]⟩,.int .i64 0,.int .i64 0,.string ⟨#[]⟩,.string ⟨#[]⟩,.int .u8 0,.int .u8 0,.int .u8 0,.slice none 0 0,.slice none 0 0] 167));rw[e1]at this;exact this
 have keep: ∀ {g:Nat} {l:List Int} {v:Value},dQ (((W0.alloc (.cells #[.int .i64 0] 3)).alloc (.cells #[.int .i64 0] 3)).alloc (.cells #[.bool false,.bool false,.string ⟨#[]⟩,.int .i64 0,.int .i64 0,.string ⟨#[]⟩,.string ⟨#[]⟩,.int .u8 0,.int .u8 0,.int .u8 0,.slice none 0 0,.slice none 0 0] 167)) v l->v.ownBlock≠some (W0.heap.size+1+1)->dQ ((((W0.alloc (.cells #[.int .i64 0] 3)).alloc (.cells #[.int .i64 0] 3)).alloc (.cells #[.bool false,.bool false,.string ⟨#[]⟩,.int .i64 0,.int .i64 0,.string ⟨#[]⟩,.string ⟨#[]⟩,.int .u8 0,.int .u8 0,.int .u8 0,.slice none 0 0,.slice none 0 0] 167)).setCells (W0.heap.size+1+1) 0 (lG d (.slice (some ⟨W0.heap.size,0,none⟩) 1 1) (.slice (some ⟨W0.heap.size+1,0,none⟩) 1 1))) v l:=by
  rintro _ l v ⟨g,cap,rfl,hg,hc⟩ hne;refine⟨g,cap,rfl,by rw[setCells_size];exact hg,fun i hi=>?_⟩;rw[aUa _ _ _ _ _ (fun e _=>absurd (by rw[<-e];rfl) hne)];exact hc i hi
 refine⟨by omega,by omega,h3.pJ _ rfl,(h2.later bA).others (by omega) (by omega) _ _,(h1.later bA).others (by omega) (by omega) _ _,keep (g:=0) i1 ?_,keep (g:=0) i2 ?_⟩
 . intro e;have e:W0.heap.size=W0.heap.size+1+1:=aPn e;omega
 intro e;have e:W0.heap.size+1=W0.heap.size+1+1:=aPn e;omega
theorem dQ.set{W:World}{v u:Value}{l:List Int}{p k:Nat}(h:dQ W v l)(hne:v.ownBlock≠some p):dQ (W.setCell ⟨p,k,none⟩ u) v l:=by
 obtain⟨g,cap,rfl,hg,hc⟩:=h;refine⟨g,cap,rfl,by show g<(W.heap.modify _ _).size;rw[aXW];exact hg,fun i hi=>?_⟩;rw[aOX _ _ _ _ (fun e=>by injection e with e1 e2;exact hne (by rw[e1];rfl))];exact hc i hi
theorem dQ.sets{W:World}{v:Value}{l:List Int}{p k:Nat}{us:List Value}(h:dQ W v l)(hne:v.ownBlock≠some p):dQ (W.setCells p k us) v l:=by
 obtain⟨g,cap,rfl,hg,hc⟩:=h;refine⟨g,cap,rfl,by rw[setCells_size];exact hg,fun i hi=>?_⟩;rw[aUa _ _ _ _ _ (fun e _=>absurd (by rw[<-e];rfl) hne)];exact hc i hi
theorem Rw.apart{p:Nat}{vs:List Value}{w W:World}(h:Rw p vs w W){v:Value}{l:List Int}(hv:dQ W v l){x:Value}(hx:vs[0]? =some x)(hne: ∀n,x≠ .int .i64 n)(hl:l≠[]):v.ownBlock≠some p:=by
 obtain⟨g,cap,rfl,hg,hc⟩:=hv;intro e;have e:g=p:=aPn e;subst e;have h1:=h.cell 0 x hx;have h2:=hc 0 (by cases l with|nil=>exact absurd rfl hl|cons a b=>simp);rw[h1]at h2;exact hne _ (aPn h2)
theorem Dt.tH{d:Dt}(h:d.aH≠0):d.ms=[d.aH]:=by unfold Dt.ms;rw[aEo h]
theorem Dt.yE{d:Dt}(h:d.aH=0)(h2:d.mo.size≠0):d.ms=fO d.mo 12:=by unfold Dt.ms;rw[aEg (by omega),aEg h2]
theorem Dt.CQ{d:Dt}(h:d.aH=0)(h2:d.mo.size=0):d.ms=[0]:=by unfold Dt.ms;rw[aEg (by omega),aEo h2]
theorem Dt.TY{d:Dt}(h:d.da.size≠0):d.ds=fO d.da 31:=by unfold Dt.ds;rw[aEg h]
theorem Dt.ds_none{d:Dt}(h:d.da.size=0):d.ds=[0]:=by unfold Dt.ds;rw[aEo h]
theorem Dt.aSk{d:Dt}(h:d.form=0):d.ms≠[]:=by
 rcases kR h with⟨h1,_⟩|⟨h1,h2,h3,_⟩|⟨h1,h2,_⟩
 . rw[Dt.tH h1];simp
 . rw[Dt.yE h1 h2];exact(jX (by omega) h3).2.2
 rw[Dt.CQ h1 h2];simp
theorem Dt.aTp{d:Dt}(h:d.form=0):d.ds≠[]:=by
 by_cases c:d.da.size=0
 . rw[Dt.ds_none c];simp
 rw[Dt.TY c];rcases kR h with⟨_,_,h3⟩|⟨_,_,_,h3⟩|⟨_,_,h3⟩
 . exact absurd h3 c
 . rcases h3 with h3|h3
   . exact absurd h3 c
   exact(jX (by omega) h3).2.2
 exact absurd h3 c
theorem aYO(d:Dt)(w:World)(hk:QL w)(hs:d.mo.size<=1000)(hf:d.form=0):
 Calls prog 97 #[dP d] w (aLo d w):=by
 have hS:=fun W hb=>uO d W (hk.below (w':=W) hb) hs;have hD:Rw w.heap.size (iZ d) w ((w.alloc (.cells #[.bool d.neg,.bool d.long,.string d.dg,.int .i64 d.ex,.int .i64 d.sig,.string d.mo,.string d.da,.int .u8 d.m0,.int .u8 d.m1,.int .u8 d.m2] 30)).alloc (.cells #[.bool false,.bool false,.string ⟨#[]⟩,.int .i64 0,.int .i64 0,.string ⟨#[]⟩,.string ⟨#[]⟩,.int .u8 0,.int .u8 0,.int .u8 0,.slice none 0 0,.slice none 0 0] 167)):=(Rw.fresh (aDA _ _) (iZ d) _).later (ba (aDA _ _) _);have hZ:Rw (w.heap.size+1) SH w ((w.alloc (.cells #[.bool d.neg,.bool d.long,.string d.dg,.int .i64 d.ex,.int .i64 d.sig,.string d.mo,.string d.da,.int .u8 d.m0,.int .u8 d.m1,.int .u8 d.m2] 30)).alloc (.cells #[.bool false,.bool false,.string ⟨#[]⟩,.int .i64 0,.int .i64 0,.string ⟨#[]⟩,.string ⟨#[]⟩,.int .u8 0,.int .u8 0,.int .u8 0,.slice none 0 0,.slice none 0 0] 167)):=by
  have:=Rw.fresh (ba (aDA w.heap.size w) (.cells #[.bool d.neg,.bool d.long,.string d.dg,.int .i64 d.ex,.int .i64 d.sig,.string d.mo,.string d.da,.int .u8 d.m0,.int .u8 d.m1,.int .u8 d.m2] 30)) SH 167;rw[l7]at this;exact this
 unfold dP at hS;obtain⟨z,hz⟩: ∃z,z=decide (d.aH=0):=⟨_,rfl⟩;rw[<-hz]at hS;have HZ0:=aAC hz;clear hz;have HS0:=aAC hS;have HNE:=aAC (⟨Dt.aSk hf,Dt.aTp hf⟩:d.ms≠[]/\d.ds≠[]);have HF:=aAC (kR hf);clear hS hf;unfold dP;go_enter func97,ntmps97;go_upto_region 1 with(fail);generalize (w.alloc (.cells #[.bool d.neg,.bool d.long,.string d.dg,.int .i64 d.ex,.int .i64 d.sig,.string d.mo,.string d.da,.int .u8 d.m0,.int .u8 d.m1,.int .u8 d.m2] 30)).alloc (.cells #[.bool false,.bool false,.string ⟨#[]⟩,.int .i64 0,.int .i64 0,.string ⟨#[]⟩,.string ⟨#[]⟩,.int .u8 0,.int .u8 0,.int .u8 0,.slice none 0 0,.slice none 0 0] 167)=W0 at hD hZ ⊢
 go_cut [3] (fun s3 wx=> ∃p3 mv dv,s3=.pointer (some ⟨p3,0,none⟩)/\p3≠w.heap.size+1/\p3≠w.heap.size/\Rw p3 (lG d mv dv) w wx/\Rw (w.heap.size+1) SH w wx/\Rw w.heap.size (iZ d) w wx/\dQ wx mv [0]/\dQ wx dv [0])
 case first=>
  obtain⟨hT,hN⟩:=aHo d hD hZ;have HN:=aAC (hN _ _ rfl rfl _ rfl);obtain⟨q0,q1,q2,q3,q4,q5,q6,q7,q8,q9⟩:=hD.NG;clear hN hZ hD HF HS0
  go_wp2_with (first
   |(refine aSG rfl 167 (.tmp 3) (.tmp 9) rfl (W0.heap.size+1+1) 0 (lG d (.slice (some ⟨W0.heap.size,0,none⟩) 1 1) (.slice (some ⟨W0.heap.size+1,0,none⟩) 1 1)).toArray rfl rfl hT nT (aLT d rfl rfl) ?_))
  go_meet;obtain⟨g1,g2,g3,g4,g5,g6,g7⟩:=HN.out;exact⟨_,_,_,rfl,g1,g2,g3,g4,g5,g6,g7⟩
 case rest=>
  obtain⟨p3,mv,dv,rfl,n1,n2,hP,hZ,hD,hm,hv⟩:=hcut;obtain⟨q0,q1,q2,q3,q4,q5,q6,q7,q8,q9⟩:=hD.NG;have N1:=aAC n1;have N2:=aAC n2;clear n1 n2
  go_upto_if 15 with(go_at_call 120;with_reducible refine(HS0.out _ hD.below).mono ?_;rintro _ w2 ⟨rfl,hb⟩;replace hP:=hP.later hb;replace hZ:=hZ.later hb;replace hD:=hD.later hb;replace hm:=hm.later hb;replace hv:=hv.later hb;clear hb)
  clear q0 q1 q2 q3 q4 q5 q6 q7 q8 q9 HS0;obtain⟨q0,q1,q2,q3,q4,q5,q6,q7,q8,q9⟩:=hD.NG
  go_cut [] (fun wx=> ∃mv2,Rw p3 (lG d mv2 dv) w wx/\Rw (w.heap.size+1) SH w wx/\Rw w.heap.size (iZ d) w wx/\dQ wx mv2 d.ms/\dQ wx dv [0])
  case first=>
   have aSQ:w2.cell? ⟨p3,10,none⟩=some mv:=hP.cell 10 _ rfl;have aSN:=hP.free 10 (by show 10<12;omega);rcases HF.out with⟨h1,h2,h3⟩|⟨h1,h2,h3,h4⟩|⟨h1,h2,h3⟩
   . obtain rfl:z=false:=HZ0.out.trans (aBW h1);have hms:=Dt.tH h1;have es:(w2.setCell ⟨p3,10,none⟩ (.slice (some ⟨w2.heap.size,0,none⟩) 1 1)).heap.size=w2.heap.size:=by simp[World.setCell]
     have av:=hP.apart hv rfl (fun n e=>by cases e) (by simp);have bl:=ba (aDA (w2.setCell ⟨p3,10,none⟩ (.slice (some ⟨w2.heap.size,0,none⟩) 1 1)).heap.size (w2.setCell ⟨p3,10,none⟩ (.slice (some ⟨w2.heap.size,0,none⟩) 1 1))) (.cells #[.int .i64 d.aH] 3);have hX:Rw p3 (lG d (.slice (some ⟨w2.heap.size,0,none⟩) 1 1) dv) w _:=(hP.set 10 (by show 10<12;omega) (.slice (some ⟨w2.heap.size,0,none⟩) 1 1)).later bl;have hX2:dQ ((w2.setCell ⟨p3,10,none⟩ (.slice (some ⟨w2.heap.size,0,none⟩) 1 1)).alloc (.cells #[.int .i64 d.aH] 3)) (.slice (some ⟨(w2.setCell ⟨p3,10,none⟩ (.slice (some ⟨w2.heap.size,0,none⟩) 1 1)).heap.size,0,none⟩) 1 1) [d.aH]:=dQ.lit (w:=w) d.aH;rw[es]at hX2;have hX3:=(hv.set (k:=10) (u:=.slice (some ⟨w2.heap.size,0,none⟩) 1 1) av).later bl;have hX4:=(hZ.other N1.out hP.new 10 (.slice (some ⟨w2.heap.size,0,none⟩) 1 1)).later bl;have hX5:=(hD.other N2.out hP.new 10 (.slice (some ⟨w2.heap.size,0,none⟩) 1 1)).later bl;rw[<-hms]at hX2;have HX:=aAC (⟨hX,hX4,hX5,hX2,hX3⟩:_/\_/\_/\_/\_);have hlt:=hP.lt;clear hms hX hX2 hX3 hX4 hX5 av bl es h1 h2 h3 HF hP hZ hD hm hv
     go_wp2
     go_meet;exact⟨_,HX.out⟩
   . obtain rfl:z=true:=HZ0.out.trans (aDx h1);have hms:=Dt.yE h1 h2;obtain⟨s2,sx,sn⟩:=jX (by omega) h3;have HFi:=aAC (fun w=>fits_any d.mo 12 w s2 sx (by omega) sn);have m0:=MV h2;have HMS:=aAC hms;have SN:=aAC sn;clear hms h1 h2 h3 h4 s2 sx sn HF;generalize fO d.mo 12=L at *
     go_wp2_with fail
     refine(HFi.out _).mono ?_;rintro _ w4 ⟨v,rfl,hi,hb⟩;clear aSQ aSN;replace hP:=hP.later hb;replace hZ:=hZ.later hb;replace hD:=hD.later hb;replace hm:=hm.later hb;replace hv:=hv.later hb;clear hb;have aSQ:w4.cell? ⟨p3,10,none⟩=some mv:=hP.cell 10 _ rfl;have aSN:=hP.free 10 (by show 10<12;omega);have hl:L≠[]:=SN.out;have ap:=hP.apart hi rfl (fun n e=>by cases e) hl;have hX:Rw p3 (lG d v dv) w _:=hP.set 10 (by show 10<12;omega) v;have hX2:=hi.set (k:=10) (u:=v) ap;rw[<-HMS.out]at hX2;have av:=hP.apart hv rfl (fun n e=>by cases e) (by simp);have hX3:=hv.set (k:=10) (u:=v) av;have HX:=aAC (⟨hX,hZ.other N1.out hP.new 10 v,hD.other N2.out hP.new 10 v,hX2,hX3⟩:_/\_/\_/\_/\_);obtain⟨g,cap,rfl,_⟩:=hi;clear hX hX2 hX3 ap av hP hZ hD hm hv
     go_wp2
     go_meet;exact⟨_,HX.out⟩
   obtain rfl:z=true:=HZ0.out.trans (aDx h1);have hms:=Dt.CQ h1 h2;rw[<-hms]at hm;have m0:=TW h2;have HX:=aAC (⟨hP,hZ,hD,hm,hv⟩:_/\_/\_/\_/\_);clear hms h1 h2 h3 HF hP hZ hD hm hv
   go_wp2
   go_meet;exact⟨_,HX.out⟩
  case rest=>
   obtain⟨mv2,hP,hZ,hD,hm,hv⟩:=hcut;clear q0 q1 q2 q3 q4 q5 q6 q7 q8 q9;obtain⟨q0,q1,q2,q3,q4,q5,q6,q7,q8,q9⟩:=hD.NG;obtain⟨de,hde⟩: ∃z,d.da.toList.isEmpty=z:=⟨_,rfl⟩;have HDE:Hid ((de=true/\d.da.size=0)\/(de=false/\ ¬d.da.size=0)):=aAC (by
    rcases lC d.da with⟨c,e1⟩|⟨c,e1⟩
    . exact .inl ⟨hde.symm.trans e1,c⟩
    exact .inr ⟨hde.symm.trans e1,c⟩)
   go_upto_if 28 with(fail)
   clear hde
   go_cut [] (fun wx=> ∃dv2,Rw p3 (lG d mv2 dv2) w wx/\Rw (w.heap.size+1) SH w wx/\dQ wx mv2 d.ms/\dQ wx dv2 d.ds)
   case first=>
    have aSP:wc.cell? ⟨p3,11,none⟩=some dv:=hP.cell 11 _ rfl;have aSM:=hP.free 11 (by show 11<12;omega);rcases HDE.out with⟨rfl,c⟩|⟨rfl,c⟩
    . rw[<-Dt.ds_none c]at hv;have HX:=aAC (⟨hP,hZ,hm,hv⟩:_/\_/\_/\_);clear hP hZ hD hm hv c HF HZ0
      go_wp2
      go_meet;exact⟨_,HX.out⟩
    have h4:fJ d.da 31=true:=by
     rcases HF.out with⟨_,_,h⟩|⟨_,_,_,h⟩|⟨_,_,h⟩
     . exact absurd h c
     . rcases h with h|h
       . exact absurd h c
       exact h
     exact absurd h c
    obtain⟨s2,sx,sn⟩:=jX (by omega) h4;have HFi:=aAC (fun w=>fits_any d.da 31 w s2 sx (by omega) sn);have HDS:=aAC (Dt.TY c);have SN:=aAC sn;have MN:=aAC (⟨hm,by
     rcases HF.out with⟨h,_,_⟩|⟨h,h2,h3,_⟩|⟨h,h2,_⟩
     . rw[Dt.tH h];simp
     . rw[Dt.yE h h2];exact(jX (by omega) h3).2.2
     rw[Dt.CQ h h2];simp⟩:dQ wc mv2 d.ms/\d.ms≠[])
    clear h4 s2 sx sn c HF HZ0;generalize fO d.da 31=L at *
    go_wp2_with fail
    refine(HFi.out _).mono ?_;rintro _ w4 ⟨v,rfl,hi,hb⟩;clear aSP aSM;have hm2:=MN.out.1.later hb;have mne:=MN.out.2;clear MN hm;replace hP:=hP.later hb;replace hZ:=hZ.later hb;clear hb hD hv;have aSP:w4.cell? ⟨p3,11,none⟩=some dv:=hP.cell 11 _ rfl;have aSM:=hP.free 11 (by show 11<12;omega);have ap:=hP.apart hi rfl (fun n e=>by cases e) SN.out;have am:=hP.apart hm2 rfl (fun n e=>by cases e) mne;have hX:Rw p3 (lG d mv2 v) w _:=hP.set 11 (by show 11<12;omega) v;have hX2:=hi.set (k:=11) (u:=v) ap;rw[<-HDS.out]at hX2;have HX:=aAC (⟨hX,hZ.other N1.out hP.new 11 v,hm2.set (k:=11) (u:=v) am,hX2⟩:_/\_/\_/\_);obtain⟨g,cap,rfl,_⟩:=hi;clear hX hX2 ap am hP hZ hm2 mne
    go_wp2
    go_meet;exact⟨_,HX.out⟩
   case rest=>
    obtain⟨dv2,hP,hZ,hm,hv⟩:=hcut;clear q0 q1 q2 q3 q4 q5 q6 q7 q8 q9;have hR:=hP.range;have hT:=hZ.there;have o1:=aLT d hm.one' hv.one';have hX:=hZ.pJ (lG d mv2 dv2) rfl;have hr:=aRg (P:=prog) _ _ 0 167 (lG d mv2 dv2) _ hX.range underlying167 rfl nT;have HX:=aAC (⟨hm.sets (k:=0) (us:=lG d mv2 dv2) (hZ.apart hm rfl (fun n e=>by cases e) HNE.out.1),hv.sets (k:=0) (us:=lG d mv2 dv2) (hZ.apart hv rfl (fun n e=>by cases e) HNE.out.2),hX.below⟩:_/\_/\_);replace hr:=aAC hr;clear hX hP hZ hm hv HF HZ0
    go_wp2_with (first
     |(refine aOW rfl 167 (.tmp 3) rfl p3 0 rfl (lG d mv2 dv2) _ hR underlying167 rfl nT ?_)
     |(refine aSG rfl 167 (.tmp 2) (.tmp 33) rfl (w.heap.size+1) 0 (lG d mv2 dv2).toArray rfl rfl hT nT o1 ?_))
    exact aT9 (v:=.agg (lG d mv2 dv2).toArray) (mO results97 _ rfl hr.out) rfl ⟨mv2,dv2,rfl,HX.out⟩
theorem zQ(y m:Int)(w:World)(hk:QL w)(h0: -10000000000000000<=y)(h1:y<=10000000000000000)(m0:1<=m)(m1:m<=12):
 Calls prog 180 #[.int .i64 y,.int .i64 m] w fun e w'=>e=.returned (.tuple #[.int .i64 (aYT y m),.int .i64 0])/\Below w.heap.size w w':=by
 have HC:Hid (∀w:World,Calls prog 233 #[.int .i64 y,.int .i64 m] w fun e w'=>e=.returned (.int .i64 0)/\w=w'):=aAC (by
  intro w;have:=lW y m w;unfold II at this;rw[aEo ⟨h0,h1⟩,aEo ⟨m0,m1⟩]at this;exact this)
 have HL:=aAC (AQ y m w hk.cal h0 h1 m0 m1);generalize aYT y m=n at *;clear hk;go_enter func180,ntmps180
 go_wp2_with (first|(go_at_call 233;with_reducible refine(HC.out _).mono ?_;rintro _ w' ⟨rfl,rfl⟩)|(go_at_call 234;with_reducible refine HL.out.mono ?_;rintro _ w' ⟨rfl,hb⟩))
 go_ret2;exact⟨rfl,hb⟩
def fmv(d:Dt)(mv dv:Value):Value:=.agg #[.bool d.neg,.bool d.long,.string d.dg,.int .i64 d.ex,.int .i64 d.sig,.string d.mo,.string d.da,.int .u8 d.m0,.int .u8 d.m1,.int .u8 d.m2,mv,dv]
theorem YE(d:Dt)(mv dv:Value)(y m:Int)(w:World)(hk:QL w)(h0: -10000000000000000<=y)(h1:y<=10000000000000000)(hm:d.da.size≠0->1<=m/\m<=12):
 Calls prog 139 #[fmv d mv dv,.int .i64 y,.int .i64 m] w fun e w'=>e=.returned (.int .i64 (d.len y m))/\Below w.heap.size w w':=by
 have hF:Rw w.heap.size (lG d mv dv) w _:=Rw.fresh (aDA _ _) (lG d mv dv) 167;have q6:=hF.cell 6 _ rfl;have HB:=aAC hF.below;clear hF;unfold fmv;unfold lG at q6 HB;unfold Dt.len;rcases lC d.da with⟨c,e1⟩|⟨c,e1⟩
 . rw[aEo c];clear c;go_enter func139,ntmps139
   go_wp2
   go_ret;exact⟨rfl,HB.out⟩
 rw[aEg c];obtain⟨m0,m1⟩:=hm c;have HL:=aAC (fun W hb=>zQ y m W (hk.below (w':=W) hb) h0 h1 m0 m1);generalize aYT y m=n at *;clear c;go_enter func139,ntmps139
 go_wp2_with (go_at_call 180;with_reducible refine(HL.out _ HB.out).mono ?_;rintro _ w' ⟨rfl,hb⟩)
 go_ret;exact⟨rfl,aYR HB.out hb⟩
theorem aC1{d:Dt}{n:Int}(hm:d.mask=false):d.Year n (yVal d.neg d.dg d.ex) (decide (n<=yVal d.neg d.dg d.ex)):=by
 have hin: ∀u,d.In u↔u=yVal d.neg d.dg d.ex:=fun u=>by
  unfold Dt.In yVal Dt.mag;rw[aEg (by rw[hm];decide)]
 by_cases c:n<=yVal d.neg d.dg d.ex
 . exact .inl ⟨aDx c,(hin _).2 rfl,c,fun u hu _=>by rw[(hin u).1 hu];exact aU2 _⟩
 exact .inr ⟨aBW c,fun u hu h=>by rw[(hin u).1 hu]at h;exact c h⟩
theorem aMF{d:Dt}{n v:Int}{ok:Bool}(hm:d.mask=true)(hn:d.neg=false)(h:UpR (fE d.dg) n 0 v ok):d.Year n v ok:=by
 have hin: ∀u,d.In u↔vZ (fE d.dg) u:=fun u=>by
  unfold Dt.In;rw[aEo hm,aEg (by rw[hn];decide)]
 rcases h.2.2 with⟨h1,h2,h3,_,h4⟩|⟨h1,h2⟩
 . exact .inl ⟨h1,(hin _).2 h2,h3,fun u hu hl=>h4 u ((hin u).1 hu) hl ((hin u).1 hu).1⟩
 exact .inr ⟨h1,fun u hu hl=>by have:=h2 u ((hin u).1 hu) ((hin u).1 hu).1;omega⟩
theorem aMG{d:Dt}{n v:Int}{ok:Bool}(hm:d.mask=true)(hn:d.neg=true)(h:DnR (fE d.dg) (-(max n (-9223372036854775807))) 1 v ok):d.Year n (-v) ok:=by
 have hin: ∀u,d.In u↔(vZ (fE d.dg) (-u)/\u≠0):=fun u=>by
  unfold Dt.In;rw[aEo hm,aEo hn]
 rcases h.2.2 with⟨h1,h2,h3,h5,h4⟩|⟨h1,h2⟩
 . refine .inl ⟨h1,(hin _).2 ⟨by rw[Int.neg_neg];exact h2,by omega⟩,by omega,fun u hu hl=>?_⟩;obtain⟨g1,g2⟩:=(hin u).1 hu;have:=h4 (-u) g1 (by have:=g1.2.1;omega);omega
 refine .inr ⟨h1,fun u hu hl=>?_⟩;obtain⟨g1,g2⟩:=(hin u).1 hu;have:=h2 (-u) g1 (by have:=g1.2.1;omega);have:=g1.1;omega
theorem TQ(d:Dt)(mv dv:Value)(n:Int)(w:World)(hy:d.dg.size<=1000)(hok:d.U7=true)(n0: -9223372036854775808<=n)(n1:n<9223372036854775808):
 Calls prog 138 #[fmv d mv dv,.int .i64 n,.bool true] w (aIy (fun v ok=>d.Year n v ok) w):=by
 have hF:Rw w.heap.size (lG d mv dv) w _:=Rw.fresh (aDA _ _) (lG d mv dv) 167;unfold lG at hF;have hM:=fun W=>rG d.neg d.long d.dg d.ex d.sig W;unfold yv at hM;unfold Dt.U7 at hok;unfold fmv;go_enter func138,ntmps138;go_upto_region 1 with(fail);generalize w.alloc _=W0 at hF ⊢;obtain⟨r0,r1,r2,r3,r4⟩:=(⟨hF.cell 0 _ rfl,hF.cell 1 _ rfl,hF.cell 2 _ rfl,hF.cell 3 _ rfl,hF.cell 4 _ rfl⟩:_/\_/\_/\_/\_);have HB0:=aAC hF.below;clear hF;go_upto_region 2 with(fail);have hY:=Ym.new d.neg d.long d.dg d.ex d.sig W0 27;generalize W0.alloc _=W1 at hY ⊢;clear r0 r1 r2 r3 r4;obtain⟨q0,q1,q2,q3,q4,qB⟩:=id hY;cases hx:hasB 88 d.dg
 . rw[hx]at hM;have HM:=aAC hM;have hV:=fun W=>zX d.neg d.long d.dg d.ex d.sig W hy hok hx;unfold yv at hV;have HV:=aAC hV;have HP:=aAC (aC1 (d:=d) (n:=n) (by unfold Dt.mask;exact hx));have hb:=aBH hok hx;clear hM hV hok hx;generalize yVal d.neg d.dg d.ex=v at *
   go_wp2_with fail
   refine(HM.out _).mono ?_;rintro _ w1 ⟨rfl,hb⟩;replace hY:=hY.later hb;clear hb;obtain⟨q0,q1,q2,q3,q4,qB⟩:=id hY
   go_wp2_with fail
   refine(HV.out _).mono ?_;rintro _ w2 ⟨rfl,hb⟩;replace hY:=hY.later hb;clear hb;obtain⟨q0,q1,q2,q3,q4,qB⟩:=id hY;have HB2:=aAC (aYR HB0.out hY.below);by_cases cn:n<=v
   . rw[aDx cn]at HP
     go_wp2_with fail
     go_ret2;exact⟨_,_,HP.out,rfl,HB2.out⟩
   go_wp2_with fail
   go_ret2;exact⟨_,_,HP.out,rfl,HB2.out⟩
 have hs:d.long=false/\d.dg.size=4/\aYP dW d.dg=true:=by
  rcases aYo d.long with hl|hl
  case inr=>
   rw[hl]at hok;obtain⟨h1,h2,_⟩:=kH hok;exact⟨hl,h1,h2⟩
  case inl=>
   rw[hl]at hok;have hd:=(kN hok).2.2.1;have:=(lD (tZ hd)).2 hd;rw[hx]at this;cases this
 obtain⟨-,h4,hdx⟩:=hs;rw[hx]at hM;have HM:=aAC hM;have hmk:d.mask=true:=by unfold Dt.mask;exact hx
 rcases aYo d.neg with hn|hn
 case inr=>
  as_aux_lemma=>
   have HU:=aAC (fun w=>SC d.dg n w h4 hdx n0 n1);have HP:=aAC (fun v ok h=>aMF (n:=n) (v:=v) (ok:=ok) hmk hn h);have HN:=aAC hn;clear hM hok hx h4 hdx hmk hn
   go_wp2_with fail
   refine(HM.out _).mono ?_;rintro _ w1 ⟨rfl,hb⟩;replace hY:=hY.later hb;clear hb;obtain⟨q0,q1,q2,q3,q4,qB⟩:=id hY;rw[HN.out]at q0
   go_wp2_with fail
   refine(HU.out _).mono ?_;rintro _ w2 ⟨v,ok,hU,rfl,hb⟩;have HP2:=aAC (HP.out _ _ hU);have HB2:=aAC (aYR (aYR HB0.out hY.below) hb);clear hb hU
   go_wp2_with fail
   go_ret2;exact⟨_,_,HP2.out,rfl,HB2.out⟩
 case inl=>
  as_aux_lemma=>
   have HU:=aAC (fun w=>SE d.dg (-(max n (-9223372036854775807))) w h4 hdx);have HP:=aAC (fun v ok h=>aMG (n:=n) (v:=v) (ok:=ok) hmk hn h);have HN:=aAC hn;clear hM hok hx h4 hdx hmk hn
   go_wp2_with fail
   refine(HM.out _).mono ?_;rintro _ w1 ⟨rfl,hb⟩;replace hY:=hY.later hb;clear hb;obtain⟨q0,q1,q2,q3,q4,qB⟩:=id hY;rw[HN.out]at q0
   go_wp2_with fail
   refine(HU.out _).mono ?_;rintro _ w2 ⟨v,ok,hU,rfl,hb⟩;have HP2:=aAC (HP.out _ _ hU);have hw:wrap64 (-v)= -v:=by
    have g0:=hU.1;have g1:=hU.2.1;unfold wrap64;omega
   have HB2:=aAC (aYR (aYR HB0.out hY.below) hb);clear hb hU
   go_wp2_with fail
   rw[hw];go_ret2;exact⟨_,_,HP2.out,rfl,HB2.out⟩
theorem QH(a b:Int)(p:Nat)(w:World)(hc:w.cell? ⟨p,0,none⟩=some (.bool true)):
 Calls prog 137 #[.int .i64 a,.int .i64 b,.pointer (some ⟨p,0,none⟩)] w fun r w'=>r=.returned (.bool (decide (a<b)))/\w=w':=by
 go_enter func137,ntmps137;by_cases c:a<b
 . rw[aDx c]
   go_wp2_with fail
   go_ret;exact⟨rfl,rfl⟩
 rw[aBW c]
 go_wp2_with fail
 go_ret;exact⟨rfl,rfl⟩
def zA(y m k:Int):List Value:=[.int .i64 y,.int .i64 m,.int .i64 k]
def FV(d:Dt)(cy cm ck:Int)(w:World)(e:Ending)(w':World):Prop:= ∃y m k ok,d.FU cy cm ck y m k ok/\e=.returned (.tuple #[cvv y m k,.bool ok])/\Below w.heap.size w w'
structure Sk(d:Dt)(mv dv:Value)(cy cm ck:Int)(p3 p4 p5 p6:Nat)(w W:World):Prop where
 f:Rw p3 (lG d mv dv) w W
 c:Rw p4 (zA cy cm ck) w W
 u:Rw p5 [.bool true] w W
 o:Rw p6 (zA 0 0 0) w W
 m:dQ W mv d.ms
 d:dQ W dv d.ds
theorem Sk.later{d:Dt}{mv dv:Value}{cy cm ck:Int}{p3 p4 p5 p6:Nat}{w W W2:World}(h:Sk d mv dv cy cm ck p3 p4 p5 p6 w W)(hb:Below W.heap.size W W2):Sk d mv dv cy cm ck p3 p4 p5 p6 w W2:=
 ⟨h.f.later hb,h.c.later hb,h.u.later hb,h.o.later hb,h.m.later hb,h.d.later hb⟩
theorem Sk.new(d:Dt){mv dv:Value}(cy cm ck:Int)(w:World)(t1 t2 t3 t4:TypeId)(hm:dQ w mv d.ms)(hd:dQ w dv d.ds):
 Sk d mv dv cy cm ck w.heap.size (w.heap.size+1) (w.heap.size+1+1) (w.heap.size+1+1+1) w ((((w.alloc (.cells (lG d mv dv).toArray t1)).alloc (.cells (zA cy cm ck).toArray t2)).alloc (.cells #[.bool true] t3)).alloc (.cells (zA 0 0 0).toArray t4)):=by
 have f1:=Rw.fresh (aDA w.heap.size w) (lG d mv dv) t1;have f2:=Rw.fresh f1.below (zA cy cm ck) t2;have f3:=Rw.fresh f2.below [.bool true] t3;have f4:=Rw.fresh f3.below (zA 0 0 0) t4;simp only[l7]at f2 f3 f4;refine⟨?_,?_,?_,f4,?_,?_⟩
 . exact((f1.later (ba (aDA _ _) _)).later (ba (aDA _ _) _)).later (ba (aDA _ _) _)
 . exact(f2.later (ba (aDA _ _) _)).later (ba (aDA _ _) _)
 . exact f3.later (ba (aDA _ _) _)
 . exact hm.later f4.below
 exact hd.later f4.below
theorem aJq{d:Dt}{v m k cy cm ck:Int}{s2:Bool}(hmd:d.mo.size=0->d.da.size=0)(hle:cy<=v)(hns: ¬(v=cy/\d.mo.size≠0/\m<cm))(h2:s2=true↔v=cy/\(d.mo.size=0\/m=cm)):
 d.ge v m k cy cm ck↔ ¬(s2=true/\d.da.size≠0/\k<ck):=by
 unfold Dt.ge;rw[h2];by_cases c:cy<v
 . exact⟨fun _ h=>by omega,fun _=>.inl c⟩
 have e:v=cy:=by omega
 constructor
 . rintro(h|⟨_,h⟩) ⟨⟨_,g1⟩,g2,g3⟩
   . exact c h
   have:d.mo.size≠0:=fun h=>g2 (hmd h);omega
 intro h;refine .inr ⟨e,?_⟩;by_cases c1:d.mo.size=0
 . exact .inl c1
 by_cases c2:m=cm
 . refine .inr (.inr ⟨c2,?_⟩);by_cases c3:d.da.size=0
   . exact .inl c3
   right
   by_cases c4:k<ck
   . exact absurd ⟨⟨e,.inr c2⟩,c3,c4⟩ h
   omega
 right;left;omega
theorem dQ.at{W:World}{g n cap:Nat}{l:List Int}(h:dQ W (.slice (some ⟨g,0,none⟩) n cap) l): ∀i (hi:i<l.length),W.cell? ⟨g,i,none⟩=some (.int .i64 (l[i]'hi)):=by
 obtain⟨g2,cap2,he,_,hc⟩:=h;cases he;exact hc
theorem aAZ:(prog.info? 163).map (·.size)=some 3:=by kernel_rfl
theorem WC{fn:Func}{p q:Tmp}{ty:TypeId}(h:fn.results= #[.cell p ty,.tmp q])(tmps:Array Value){P:Program}{w:World}{a:Addr}{v u:Value}
 (hp:tmps.getD p undef=.pointer (some a)) (hq:tmps.getD q undef=u) (hl:(loadVar ty a).run P w=.ok v w):(results fn tmps).run P w=.ok (.tuple #[v,u]) w:=by
 have hp':tmps[p]?.getD undef=.pointer (some a):=by simpa using hp
 have hq':tmps[q]?.getD undef=u:=by simpa using hq
 simp[results,h,hp',hq',asAddr,hl]
theorem VT{d:Dt}{cy cm ck y m k:Int}{ok:Bool}{p6:Nat}{w wO:World}{tmps:Array Value}(ho:Rw p6 (zA 0 0 0) w wO)(h:d.FU cy cm ck y m k ok)
 (hp:tmps.getD 6 undef=.pointer (some ⟨p6,0,none⟩)) (hq:tmps.getD 7 undef=.bool ok):
 bodyPost prog f98 (FV d cy cm ck w) Exit.ret ⟨tmps,[]⟩ (((wO.setCell ⟨p6,0,none⟩ (.int .i64 y)).setCell ⟨p6,1,none⟩ (.int .i64 m)).setCell ⟨p6,2,none⟩ (.int .i64 k)):=by
 have hX:=ho.pJ (zA y m k) rfl;have hr:=aRg (P:=prog) _ p6 0 163 (zA y m k) _ hX.range underlying163 rfl aAZ;exact aT9 (v:=.tuple #[cvv y m k,.bool ok]) (WC results98 _ hp hq hr) rfl ⟨y,m,k,ok,h,rfl,hX.below⟩
def aH9:Value->Nat
 | .bool true=>1
 |_=>0
def muY(y f:Value):Nat:=aH9 f * (10000000000000002 - intOf y).toNat
structure Yst(d:Dt)(cy cm ck:Int)(v:Int)(ok:Bool):Prop where
 yes:ok=true->d.In v/\cy<=v/\d.NoY v cy cm ck
 no:ok=false-> ∀z n j,d.Fill z n j-> ¬d.ge z n j cy cm ck
theorem Yst.start{d:Dt}{cy cm ck v:Int}{ok:Bool}(h:d.Year cy v ok):Yst d cy cm ck v ok:=by
 have hs:=Dt.aDU (cm:=cm) (ck:=ck) h;refine⟨fun e=>?_,hs.2⟩;rcases h with g|g
 . exact⟨g.2.1,g.2.2.1,hs.1 e⟩
 rw[g.1]at e;cases e
theorem Yst.next{d:Dt}{cy cm ck y v:Int}{ok:Bool}(hs:Yst d cy cm ck y true)(hm:d.NoM y cy cm ck d.ms.length)(h:d.Year (y+1) v ok):Yst d cy cm ck v ok/\(ok=true->y<v):=by
 obtain⟨h1,h2,h3⟩:=hs.yes rfl;have hn:=Dt.aGC h3 hm h;rcases h with g|g
 . exact⟨⟨fun e=>⟨g.2.1,by have:=g.2.2.1;omega,hn.1 e⟩,hn.2⟩,fun _=>by have:=g.2.2.1;omega⟩
 refine⟨⟨fun e=>?_,hn.2⟩,fun e=>?_⟩<;>(rw[g.1]at e;cases e)
theorem aFi (d : Dt) (mv dv:Value) (cy cm ck:Int) (w:World) (hk:QL w) (hy:d.dg.size<=1000) (hok:d.U7=true) (hmd:d.mo.size=0->d.da.size=0)
 (y0: -9223372036854775808<=cy) (y1:cy<9223372036854775808) (hm:dQ w mv d.ms) (hd:dQ w dv d.ds) (hmm:d.da.size≠0-> ∀m,m ∈ d.ms->1<=m/\m<=12):
 Calls prog 98 #[fmv d mv dv,cvv cy cm ck,.bool true] w (FV d cy cm ck w):=by
 obtain⟨gm,xm,rfl,-,-⟩:=id hm;obtain⟨gd,xd,rfl,-,-⟩:=id hd;have hS:=Sk.new d cy cm ck w 167 163 4 163 hm hd;have HY:=aAC (fun n W h0 h1=>TQ d (.slice (some ⟨gm,0,none⟩) d.ms.length xm) (.slice (some ⟨gd,0,none⟩) d.ds.length xd) n W hy hok h0 h1);have HL:=aAC (fun y m W hb h0 h1 hm=>YE d (.slice (some ⟨gm,0,none⟩) d.ms.length xm) (.slice (some ⟨gd,0,none⟩) d.ds.length xd) y m W (hk.below (w':=W) hb) h0 h1 hm);have HIN:=aAC (fun y (h:d.In y)=>Dt.aCo hok h);have HMM:=aAC hmm;have HMD:=aAC hmd;unfold fmv at HY HL;unfold fmv cvv;unfold lG zA at hS;go_enter func98,ntmps98;go_upto_region 1 with(fail);generalize World.alloc _ _=W0 at hS ⊢;generalize w.heap.size+1+1+1=p6 at *;generalize w.heap.size+1+1=p5 at *;generalize w.heap.size+1=p4 at *;clear hk hy hok hm hd hmm hmd;replace hS:Hid (Sk d (.slice (some ⟨gm,0,none⟩) d.ms.length xm) (.slice (some ⟨gd,0,none⟩) d.ds.length xd) cy cm ck w.heap.size p4 p5 p6 w W0):=aAC hS;have HB0:=aAC hS.out.f.below
 go_cut [8,9,10] (fun a b c wx=>a=.int .i64 1/\ .slice (some ⟨gm,0,none⟩) d.ms.length xm=b/\ .slice (some ⟨gd,0,none⟩) d.ds.length xd=c/\Sk d b c cy cm ck w.heap.size p4 p5 p6 w wx)
 case first=>
  have f0:=hS.out.f.cell 10 _ rfl;have f1:=hS.out.f.cell 11 _ rfl
  go_region_with (fail)
  all_goals (go_wp2_with fail)
  all_goals (go_meet;exact⟨rfl,rfl,rfl,hS.out.later (aDA W0.heap.size W0).drew⟩)
 case rest=>
 obtain⟨rfl,rfl,rfl,hS⟩:=hcut;have hu:=hS.u.cell 0 _ rfl;have g0:=hS.c.cell 0 _ rfl;have hR:=hS.f.range;replace hS:=aAC hS
 go_wp2_with (first
  |(refine aOW rfl 167 (.tmp 3) rfl w.heap.size 0 rfl (lG d (.slice (some ⟨gm,0,none⟩) d.ms.length xm) (.slice (some ⟨gd,0,none⟩) d.ds.length xd)) _ hR underlying167 rfl nT ?_)
  |(go_at_call 138;refine(HY.out _ _ y0 y1).mono ?_;rintro _ w1 ⟨v,ok,hv,rfl,hb⟩))
 replace hS:Hid (Sk d (.slice (some ⟨gm,0,none⟩) d.ms.length xm) (.slice (some ⟨gd,0,none⟩) d.ds.length xd) cy cm ck w.heap.size p4 p5 p6 w w1):=aAC (hS.out.later hb);have HV0:Hid (Yst d cy cm ck v ok):=aAC (Yst.start hv);clear hu g0 hR hv hb HB0
 go_loopw [7,12,13] (fun r y f wr=> ∃v ok,r=.bool false/\y=.int .i64 v/\f=.bool ok/\Yst d cy cm ck v ok/\Sk d (.slice (some ⟨gm,0,none⟩) d.ms.length xm) (.slice (some ⟨gd,0,none⟩) d.ds.length xd) cy cm ck w.heap.size p4 p5 p6 w wr) (fun _ y f _=>muY y f)
 case atStart=>exact⟨v,ok,rfl,rfl,rfl,HV0.out,hS.out⟩
 case round =>
  obtain⟨v,ok,rfl,rfl,rfl,hV,hS⟩:=hrel;generalize wr=wO at *;have HV:=aAC hV;have HS:=aAC hS;clear hV hS;cases ok
  . have HN:=aAC (HV.out.no rfl);have f0:=HS.out.o.cell 0 _ rfl;have f1:=HS.out.o.cell 1 _ rfl;have f2:=HS.out.o.cell 2 _ rfl;have z0:=HS.out.o.free 0 (by unfold zA;simp);have z1:=HS.out.o.free 1 (by unfold zA;simp);have z2:=HS.out.o.free 2 (by unfold zA;simp)
    go_wp2_with fail
    exact VT HS.out.o (.inr ⟨rfl,rfl,rfl,rfl,HN.out⟩) rfl rfl
  obtain ⟨i1, i2, i3⟩:=HV.out.yes rfl;have HIV:=aAC (HIN.out _ i1);have HLE:=aAC i2;clear i1 i2 i3
  go_wp2_with fail
  go_step3
  go_wp2_with fail
  go_step3
  go_wp2_with fail
  have HM0:=aAC (Dt.aGD d v cy cm ck)
  go_loopw [7,55] (fun r i wr=> ∃i':Nat,r=.bool false/\i=.int .i64 i'/\i'<=d.ms.length/\d.NoM v cy cm ck i'/\Sk d (.slice (some ⟨gm,0,none⟩) d.ms.length xm) (.slice (some ⟨gd,0,none⟩) d.ds.length xd) cy cm ck w.heap.size p4 p5 p6 w wr) (fun _ i _=>d.ms.length - (intOf i).toNat)
  case atStart=>exact⟨0,rfl,rfl,by omega,HM0.out,HS.out⟩
  case round =>
   obtain⟨i,rfl,rfl,hi,hM,hS⟩:=hrel;clear HS HM0;generalize wr=wO at *;have HS:=aAC hS;have HM:=aAC hM;clear hS hM;have ml:=d.aGN;by_cases hlt:i<d.ms.length
   . have hcell :=HS.out.m.at i hlt;generalize hme:d.ms[i]'hlt=m at hcell;have g0:=HS.out.c.cell 0 _ rfl;go_upto_region 13 with(fail)
     go_cut [16] (fun s wx=> ∃b,s=.bool b/\(b=true↔v=cy)/\wO=wx)
     case first=>
      go_wp2_with fail
      go_meet;exact⟨_,rfl,by simp,rfl⟩
     case rest=>
      obtain⟨sb,rfl,hsb,rfl⟩:=hcut;have HSB:=aAC hsb;clear hsb g0 hcell;go_upto_region 14 with(fail)
      go_cut [76] (fun s wx=> ∃b,s=.bool b/\(b=true↔(v=cy/\d.mo.size≠0/\m<cm))/\wO=wx)
      case first=>
       have g5:=HS.out.f.cell 5 _ rfl;have g1:=HS.out.c.cell 1 _ rfl;have hu:=HS.out.u.cell 0 _ rfl;have HA:=aAC (QH m cm p5 wO hu);cases sb
       . have hne:v≠cy:=fun e=>by have:=HSB.out.2 e;cases this
         go_wp2_with fail
         go_meet;exact⟨_,rfl,by simp[hne],rfl⟩
       have hve:=HSB.out.1 rfl;rcases lC d.mo with⟨c,e1⟩|⟨c,e1⟩
       . have HC:=aAC c;clear c hve
         go_wp2_with fail
         go_meet;exact⟨_,rfl,by simp[HC.out],rfl⟩
       have HC:=aAC c;have HVE:=aAC hve;clear c hve;generalize hmc:decide (m<cm)=mc at HA;have HMC:=aAC hmc;clear hmc
       go_wp2_with (go_at_call 137;with_reducible refine HA.out.mono ?_;rintro _ w' ⟨rfl,rfl⟩)
       go_meet;exact⟨_,rfl,by rw[<-HMC.out];simp[HC.out,HVE.out],rfl⟩
      case rest =>
       obtain⟨b,rfl,hb,rfl⟩:=hcut;cases b
       . have HNS : Hid (¬(v=cy/\d.mo.size≠0/\m<cm)):=aAC (fun h=>by have:=hb.2 h;cases this);clear hb;have hR:=HS.out.f.range;have hl:=HL.out v m wO HS.out.f.below HIV.out.1 HIV.out.2 (fun h=>HMM.out h m (by rw[<-hme];exact aUw hlt));have HLN:=aAC hl;clear hl;obtain⟨n,hn⟩: ∃n,n=d.len v m:=⟨_,rfl⟩;rw[<-hn]at HLN;have HNN:=aAC hn;clear hn;go_upto_region 16 with(first
          |(refine aOW rfl 167 (.tmp 3) rfl w.heap.size 0 rfl (lG d (.slice (some ⟨gm,0,none⟩) d.ms.length xm) (.slice (some ⟨gd,0,none⟩) d.ds.length xd)) _ hR underlying167 rfl nT ?_)
          |(go_at_call 139;refine HLN.out.mono ?_;rintro _ w2 ⟨rfl,hb⟩))
         replace HS:=aAC (HS.out.later hb);clear hb hR HLN
         go_cut [16] (fun s wx=> ∃b,s=.bool b/\(b=true↔(v=cy/\(d.mo.size=0\/m=cm)))/\w2=wx)
         case first=>
          have g5:=HS.out.f.cell 5 _ rfl;have g1:=HS.out.c.cell 1 _ rfl;cases sb
          . have hne:v≠cy:=fun e=>by have:=HSB.out.2 e;cases this
            go_wp2_with fail
            go_meet;exact⟨_,rfl,by simp[hne],rfl⟩
          have hve:=HSB.out.1 rfl;have HVE:=aAC hve;clear hve;rcases lC d.mo with⟨c,e1⟩|⟨c,e1⟩
          . have HC:=aAC c;clear c
            go_wp2_with fail
            go_meet;exact⟨_,rfl,by simp[HC.out,HVE.out],rfl⟩
          have HC:=aAC c;clear c
          go_wp2_with fail
          go_meet;exact⟨_,rfl,by simp[HC.out,HVE.out],rfl⟩
         case rest=>
          obtain⟨s2,rfl,hs2,rfl⟩:=hcut;have HS2:=aAC hs2;have HGE:=aAC (fun k=>aJq (k:=k) (ck:=ck) HMD.out HLE.out HNS.out hs2);clear hs2 HSB;have HK0:=aAC (Dt.aGG d v m cy cm ck)
          go_wp2_with fail
          go_loopw [7,96] (fun r i wr=> ∃i':Nat,r=.bool false/\i=.int .i64 i'/\i'<=d.ds.length/\d.NoK v m cy cm ck i'/\Sk d (.slice (some ⟨gm,0,none⟩) d.ms.length xm) (.slice (some ⟨gd,0,none⟩) d.ds.length xd) cy cm ck w.heap.size p4 p5 p6 w wr) (fun _ i _=>d.ds.length - (intOf i).toNat)
          case atStart=>exact⟨0,rfl,rfl,by omega,HK0.out,HS.out⟩
          case round=>
           obtain⟨j,rfl,rfl,hj,hK,hS⟩:=hrel;clear HS HK0;generalize wr=wO at *;have HS:=aAC hS;have HK:=aAC hK;clear hS hK;have dl:=d.aOt;by_cases hjt:j<d.ds.length
           . have hcell:=HS.out.d.at j hjt;generalize hke:d.ds[j]'hjt=k at hcell;go_upto_region 20 with(fail)
             go_cut [119] (fun s wx=> ∃b,s=.bool b/\(b=true↔(k<=n/\ ¬(s2=true/\d.da.size≠0/\k<ck)))/\wO=wx)
             case first=>
              have g6:=HS.out.f.cell 6 _ rfl;have g2:=HS.out.c.cell 2 _ rfl;have hu:=HS.out.u.cell 0 _ rfl;have HA:=aAC (QH k ck p5 wO hu);by_cases hkn:k<=n
              . cases s2
                . go_wp2_with fail
                  go_meet;exact⟨_,rfl,by simp[hkn],rfl⟩
                rcases lC d.da with⟨c,e1⟩|⟨c,e1⟩
                . have HC:=aAC c;clear c
                  go_wp2_with fail
                  go_meet;exact⟨_,rfl,by simp[HC.out,hkn],rfl⟩
                have HC:=aAC c;clear c;generalize hmc:decide (k<ck)=mc at HA;have HMC:=aAC hmc;clear hmc
                go_wp2_with (go_at_call 137;with_reducible refine HA.out.mono ?_;rintro _ w' ⟨rfl,rfl⟩)
                go_meet;exact⟨_,rfl,by rw[<-HMC.out];simp[HC.out,hkn],rfl⟩
              go_wp2_with fail
              go_meet;exact⟨_,rfl,⟨fun h=>by simp[hkn]at h,fun h=>absurd h.1 (by omega)⟩,rfl⟩
             case rest=>
              obtain⟨b,rfl,hb,rfl⟩:=hcut;cases b
              . have HK2:=aAC (Dt.aGH HK.out hjt (fun hle hg=>by
                 rw[hke]at hle hg;have:=hb.2 ⟨by rw[HNN.out];exact hle,(HGE.out k).1 hg⟩;cases this))
                clear hb HK hcell
                go_wp2_with fail
                go_roundw
                case rel=>exact⟨j+1,rfl,by go_num,by omega,HK2.out,HS.out⟩
                case measure=>simp[intOf];omega
              have hb:=hb.1 rfl;have HF:=aAC (Dt.found (HV.out.yes rfl).1 (HV.out.yes rfl).2.2 HM.out hlt (by rw[hme];exact HK.out) hjt (by rw[hme,hke,<-HNN.out];exact hb.1) (by rw[hme,hke];exact(HGE.out k).2 hb.2));rw[hme,hke]at HF;clear hb HK hcell;have f0:=HS.out.o.cell 0 _ rfl;have f1:=HS.out.o.cell 1 _ rfl;have f2:=HS.out.o.cell 2 _ rfl;have z0:=HS.out.o.free 0 (by unfold zA;simp);have z1:=HS.out.o.free 1 (by unfold zA;simp);have z2:=HS.out.o.free 2 (by unfold zA;simp)
              go_wp2_with fail
              exact VT HS.out.o HF.out rfl rfl
           obtain rfl:j=d.ds.length:=by omega
           have HM2:=aAC (Dt.aGE HM.out hlt (by rw[hme];exact HK.out));clear HK HM
           go_wp2_with fail
           go_roundw
           case rel=>exact⟨i+1,rfl,by go_num,by omega,HM2.out,HS.out⟩
           case measure=>simp[intOf];omega
       have hb:=hb.1 rfl;have HB:=aAC hb;have HK:=aAC (Dt.aGF HM.out hlt HB.out.1 HB.out.2.1 (by rw[hme];exact HB.out.2.2));clear hb HM
       go_wp2_with fail
       go_roundw
       case rel=>exact⟨i+1,rfl,by go_num,by omega,HK.out,HS.out⟩
       case measure=>simp[intOf];omega
   obtain rfl:i=d.ms.length:=by omega
   have hR:=HS.out.f.range;have hu:=HS.out.u.cell 0 _ rfl;have hwk:IntKind.i64.wrap (v+1)=v+1:=by rw[aUy];have:=HIV.out;omega
   have hy:=HY.out (v+1) wO (by have:=HIV.out;omega) (by have:=HIV.out;omega);have HY1:=aAC hy;clear hy
   go_wp2_with fail
   rw[aXN]
   go_wp2_with (first
    |(refine aOW rfl 167 (.tmp 3) rfl w.heap.size 0 rfl (lG d (.slice (some ⟨gm,0,none⟩) d.ms.length xm) (.slice (some ⟨gd,0,none⟩) d.ds.length xd)) _ hR underlying167 rfl nT ?_)
    |(go_at_call 138;refine HY1.out.mono ?_;rintro _ w2 ⟨v2,ok2,hv2,rfl,hb⟩))
   have HX:=aAC (Yst.next HV.out HM.out hv2);have HS2:=aAC (HS.out.later hb);clear hv2 hb hR hu;go_roundw
   case rel=>exact⟨v2,ok2,rfl,rfl,rfl,HX.out.1,HS2.out⟩
   case measure=>
    have h1:=HIV.out;have h2:=HX.out.2;unfold muY;cases ok2
    . simp[aH9,intOf];omega
    have:=h2 rfl;simp[aH9,intOf];omega
theorem fmd{d:Dt}(h:d.form=0):d.mo.size=0->d.da.size=0:=fun e=>by
 rcases kR h with⟨_,h1,_⟩|⟨_,h1,_⟩|⟨_,_,h1⟩
 . exact absurd e h1
 . exact absurd e h1
 exact h1
theorem fmm{d:Dt}(h:d.form=0):d.da.size≠0-> ∀m,m ∈ d.ms->1<=m/\m<=12:=fun e m hm=>by
 rcases kR h with⟨_,_,h1⟩|⟨h1,h2,_⟩|⟨_,_,h1⟩
 . exact absurd h1 e
 . rw[Dt.yE h1 h2,iY]at hm;omega
 exact absurd h1 e
theorem aFj(d:Dt)(mv dv:Value)(cy cm ck:Int)(w:World)(hk:QL w)(hy:d.dg.size<=1000)(hf:d.form=0)
 (y0: -9223372036854775808<=cy) (y1:cy<9223372036854775808) (hm:dQ w mv d.ms) (hd:dQ w dv d.ds):
 Calls prog 98 #[fmv d mv dv,cvv cy cm ck,.bool true] w (FV d cy cm ck w):=
 aFi d mv dv cy cm ck w hk hy (Dt.uH (Dt.yM hf).1).1 (fmd hf) y0 y1 hm hd (fmm hf)
theorem YJ{d:Dt}(h:d.form≠0):d.err=d.form:=by unfold Dt.err;rw[aEo h]
theorem aEh{d:Dt}(h:d.form=0)(h2:d.da.size=0):d.err=0:=by unfold Dt.err;rw[aEg (by omega),aEg (fun c=>c.1 h2)]
theorem aHE{d:Dt}{y m k:Int}{ok:Bool}(h:d.form=0)(h2: ¬d.da.size=0)(hs:d.FU (-9223372036854775808) 0 0 y m k ok):d.err=if ok=true then 0 else 8:=by
 have hx:=Dt.VL (fun u hu=>by have:=Dt.aCo (Dt.uH (Dt.yM h).1).1 hu;omega) hs;unfold Dt.err;rw[aEg (by omega)];cases ok
 . rw[aEo ⟨h2,fun hh=>by have:=hx.2 hh;cases this⟩];rfl
 rw[aEg (fun hh=>hh.2 (hx.1 rfl))];rfl
theorem aBd(d:Dt)(w:World)(hk:QL w)(hs:d.mo.size<=1000)(hy:d.dg.size<=1000)(m0:0<=d.m0)(m1:0<=d.m1)(m2:0<=d.m2):
 Calls prog 61 #[dP d] w fun r w'=>r=.returned (.int .i64 d.err)/\Below w.heap.size w w':=by
 have hD:Rw w.heap.size (iZ d) w _:=Rw.fresh (aDA _ _) (iZ d) 30;have HC:=aAC (fun W hb=>aBq d W (hk.below (w':=W) hb) hs hy m0 m1 m2);have HO:=aAC (fun W hb hf=>aYO d W (hk.below (w':=W) hb) hs hf);have HS:=aAC (fun mv dv W hb hf hm hd=>aFj d mv dv (-9223372036854775808) 0 0 W (hk.below (w':=W) hb) hy hf (by omega) (by omega) hm hd);unfold cvv fmv at HS;clear hk hs hy m0 m1 m2;rw[aOn]at HC HO;obtain⟨er,her⟩: ∃er,er=d.err:=⟨_,rfl⟩;rw[<-her];replace her:=aAC her;unfold dP;go_enter func61,ntmps61;unfold iZ at hD;go_upto_region 1 with(fail);generalize World.alloc _ _=W0 at hD ⊢;have HD:Hid (Rw w.heap.size (iZ d) w W0):=aAC hD;clear hD;have hR:=HD.out.range;by_cases hf:d.form=0
 . have HF:=aAC hf;rw[hf]at HC;clear hf;go_upto_region 4 with(first
    |(refine aOW rfl 30 (.tmp 1) rfl w.heap.size 0 rfl (iZ d) _ hR underlying30 rfl yK ?_)
    |(go_at_call 88;refine(HC.out _ HD.out.below).mono ?_;rintro _ w1 ⟨rfl,hb⟩))
   replace HD:=aAC (HD.out.later hb);clear hR hb;have hR:=HD.out.range;have g6:=HD.out.cell 6 _ rfl;rcases lC d.da with⟨c,e1⟩|⟨c,e1⟩
   . have HE:=aAC (her.out.trans (aEh HF.out c));clear c
     go_wp2_with fail
     go_ret;exact⟨by rw[HE.out];rfl,HD.out.below⟩
   have HE:Hid (∀y m k ok,d.FU (-9223372036854775808) 0 0 y m k ok->er=if ok=true then 0 else 8):=aAC (fun y m k ok hs=>her.out.trans (aHE HF.out c hs));clear c
   go_wp2_with (first
    |(refine aOW rfl 30 (.tmp 1) rfl w.heap.size 0 rfl (iZ d) _ hR underlying30 rfl yK ?_)
    |(go_at_call 97;refine(HO.out _ HD.out.below HF.out).mono ?_;rintro _ w2 ⟨mv,dv,rfl,hm,hd,hb2⟩;have HBm:=aAC (aYR HD.out.below hb2);have HS2:=aAC (HS.out mv dv w2 HBm.out HF.out hm hd);clear hm hd hb2))
   refine HS2.out.mono ?_;rintro _ w3 ⟨y,m,k,ok,hso,rfl,hb3⟩;have HB3:=aAC (aYR HBm.out hb3);have HE2:=aAC (HE.out y m k ok hso);unfold cvv;clear hso hb3 HS2;cases ok
   . go_wp2_with fail
     go_ret;exact⟨by rw[HE2.out];rfl,ba HB3.out _⟩
   go_wp2_with fail
   go_ret;exact⟨by rw[HE2.out];rfl,ba HB3.out _⟩
 have HE:=aAC (her.out.trans (YJ hf));generalize d.form=fo at *
 go_wp2_with (first
  |(refine aOW rfl 30 (.tmp 1) rfl w.heap.size 0 rfl (iZ d) _ hR underlying30 rfl yK ?_)
  |(go_at_call 88;refine(HC.out _ HD.out.below).mono ?_;rintro _ w1 ⟨rfl,hb⟩))
 go_ret;exact⟨by rw[HE.out];rfl,aYR HD.out.below hb⟩
theorem jK(c:Int)(a b:ByteArray):hasB c (a++b)=(hasB c a||hasB c b):=by
 unfold hasB;rw[aYF,aPc,List.any_append]
def zY(y m k:Int):Int:=if m=0 then st y else if 12<m then st y+nC y (bU m)else if k=0 then st y+nC y m else st y+nC y m+k - 1
def zZ(y m k:Int):Int:=if m=0 then st (y+1) - 1 else if 12<m then st (iE y m)+nC (iE y m) (UW m+1) - 1 else if k=0 then st y+nC y (m+1) - 1 else st y+nC y m+k - 1
theorem aBR(c:Int):1<=bU c/\bU c<=12/\3<=dU c/\dU c<=6/\bU c+dU c<=15:=by unfold bU dU;(repeat' split)<;>omega
theorem aI4{d:Dt}(hm:d.mask=false):d.In (yVal d.neg d.dg d.ex):=by
 unfold Dt.In yVal;rw[hm];rfl
theorem aSS{a b c:ByteArray}(h:hasB 88 (a++b++c)=false):hasB 88 a=false/\hasB 88 b=false/\hasB 88 c=false:=by
 rw[jK,jK,aM8,aM8]at h;exact⟨h.1.1,h.1.2,h.2⟩
theorem JL{s:ByteArray}{n:Int}(h:kF s n=true)(hx:hasB 88 s=false)(n0:0<=n)(n1:n<=99):s.size=2/\aYP bY s=true/\bJ s=n:=by
 unfold kF at h;simp at h;obtain⟨h2,h0,h1⟩:=h;have nx: ∀i,i<s.size->fE s i≠88:=fun i hi c=>by rw[(wZ 88 s).2 ⟨i,hi,c⟩]at hx;cases hx
 have x0:=nx 0 (by omega);have x1:=nx 1 (by omega);have b0:fE s 0=48+n / 10:=by omega
 have b1:fE s 1=48+n % 10:=by omega
 refine⟨h2,?_,?_⟩
 . rw[kU];intro i hi;obtain rfl|rfl:i=0\/i=1:=by omega
   . unfold bY;exact aDx (by omega)
   unfold bY;exact aDx (by omega)
 obtain⟨a,b,e,e0,e1⟩:=sO h2;unfold bJ;rw[e];simp only[dec];omega
theorem AA{s:ByteArray}(h:dD s≠0):s.size=2/\aYP bY s=true/\bJ s=dD s:=by
 unfold dD at h ⊢;split at h
 . rename_i g;rw[aEo g];refine⟨g.1,?_,?_⟩
   . rw[kU];intro i hi;obtain rfl|rfl:i=0\/i=1:=by omega
     . unfold bY;exact aDx (by omega)
     unfold bY;exact aDx (by omega)
   obtain⟨a,b,e,e0,e1⟩:=sO g.1;unfold bJ;rw[e];simp only[dec];omega
 exact absurd rfl h
theorem FM{s:ByteArray}(h:s.size=0):bJ s=0/\aYP bY s=true:=by
 have e:s.data.toList=[]:=aO5.1 (by simpa using h);unfold bJ aYP;rw[e];exact⟨rfl,rfl⟩
theorem aGQ{d:Dt}(h:d.form=0)(hx:hasB 88 d.mo=false):d.mo.size<=2/\aYP bY d.mo=true/\d.ms=[bJ d.mo]/\(d.mo.size≠0->(1<=bJ d.mo/\bJ d.mo<=12/\d.aH=0)\/(21<=bJ d.mo/\bJ d.mo<=41/\d.aH=bJ d.mo)):=by
 have hbd:d.aH=0\/(21<=d.aH/\d.aH<=41):=nO d.mo;rcases kR h with⟨h1,h2,h3⟩|⟨h1,h2,h3,h4⟩|⟨h1,h2,h3⟩
 . obtain⟨a,b,c⟩:=AA h1;change bJ d.mo=d.aH at c;refine⟨by omega,b,by rw[Dt.tH h1,c],fun _=>.inr (by omega)⟩
 . obtain⟨n,n1,n2,ha⟩:=(xY _ _).1 h3;obtain⟨a,b,c⟩:=JL ha hx (by omega) (by omega);refine⟨by omega,b,?_,fun _=>.inl (by omega)⟩;rw[Dt.yE h1 h2];have hs:=mZ d.mo 12;have hall: ∀u,u ∈ fO d.mo 12->u=bJ d.mo:=fun u hu=>by
    obtain⟨u1,u2,u3⟩:=(iY _ _ _).1 hu;exact(JL u3 hx (by omega) (by omega)).2.2.symm
   have hin:bJ d.mo ∈ fO d.mo 12:=(iY _ _ _).2 ⟨by omega,by omega,by rw[c];exact ha⟩;generalize fO d.mo 12=l at *
   match l,hs,hall,hin with
   |[],_,_,hin=>cases hin
   |[u],_,hall,_=>rw[hall u (aIC ..)]
   |u::v::r,hs,hall,_=>
    have e1:=hall u (aIC ..);have e2:=hall v (aKO _ (aIC ..));have:=(List.pairwise_cons.1 hs).1 v (aIC ..);omega
 obtain⟨e1,e2⟩:=FM h2;refine⟨by omega,e2,by rw[Dt.CQ h1 h2,e1],fun c=>absurd h2 c⟩
theorem aHV{d:Dt}(h:d.form=0)(hx:hasB 88 d.da=false):d.da.size<=2/\aYP bY d.da=true/\d.ds=[bJ d.da]/\(d.da.size≠0->1<=bJ d.da/\bJ d.da<=31):=by
 by_cases c:d.da.size=0
 . obtain⟨e1,e2⟩:=FM c;exact⟨by omega,e2,by rw[Dt.ds_none c,e1],fun h=>absurd c h⟩
 have h4:fJ d.da 31=true:=by
  rcases kR h with⟨_,_,h⟩|⟨_,_,_,h⟩|⟨_,_,h⟩
  . exact absurd h c
  . rcases h with h|h
    . exact absurd h c
    exact h
  exact absurd h c
 obtain⟨n,n1,n2,ha⟩:=(xY _ _).1 h4;obtain⟨a,b,e⟩:=JL ha hx (by omega) (by omega);refine⟨by omega,b,?_,fun _=>by omega⟩;rw[Dt.TY c];have hs:=mZ d.da 31;have hall: ∀u,u ∈ fO d.da 31->u=bJ d.da:=fun u hu=>by
  obtain⟨u1,u2,u3⟩:=(iY _ _ _).1 hu;exact(JL u3 hx (by omega) (by omega)).2.2.symm
 have hin:bJ d.da ∈ fO d.da 31:=(iY _ _ _).2 ⟨by omega,by omega,by rw[e];exact ha⟩;generalize fO d.da 31=l at *
 match l,hs,hall,hin with
 |[],_,_,hin=>cases hin
 |[u],_,hall,_=>rw[hall u (aIC ..)]
 |u::v::r,hs,hall,_=>
  have e1:=hall u (aIC ..);have e2:=hall v (aKO _ (aIC ..));have:=(List.pairwise_cons.1 hs).1 v (aIC ..);omega
theorem MR{d:Dt}(h:d.err=0):d.form=0:=by
 by_cases c:d.form=0
 . exact c
 rw[YJ c]at h;exact absurd h c
theorem aOl{d:Dt}{y m:Int}(hk:d.U7=true)(hf:d.far=false)(hy:d.In y)(hm:m=d.aH)(hs:d.aH≠0):iE y m<=10000000000000000:=by
 have hb:=Dt.aCo hk hy;unfold iE;split
 . omega
 rename_i hc;have hbd:d.aH=0\/(21<=d.aH/\d.aH<=41):=nO d.mo;have hw:d.aH=24\/d.aH=28\/d.aH=30:=by
  rw[hm]at hc;generalize d.aH=z at *;have hz:z=21\/z=22\/z=23\/z=24\/z=25\/z=26\/z=27\/z=28\/z=29\/z=30\/z=31\/z=32\/z=33\/z=34\/z=35\/z=36\/z=37\/z=38\/z=39\/z=40\/z=41:=by omega
  rcases hz with rfl|rfl|rfl|rfl|rfl|rfl|rfl|rfl|rfl|rfl|rfl|rfl|rfl|rfl|rfl|rfl|rfl|rfl|rfl|rfl|rfl<;>first|omega|(exfalso;revert hc;decide)
 have e1:(decide (d.aH=24)||(decide (d.aH=28)||decide (d.aH=30)))=true:=by rcases hw with h|h|h<;>simp[h]
 unfold Dt.far at hf;rw[e1,aO8]at hf;cases hmk:d.mask
 . rw[hmk]at hf;simp at hf;unfold Dt.In at hy;rw[hmk]at hy;simp at hy;cases hn:d.neg
   . rw[hn]at hy;simp at hy;by_cases c:d.mag=10000000000000000
     . have:=hf c;rw[hn]at this;cases this
     omega
   rw[hn]at hy;simp at hy;have:=oV d.dg d.ex;change 0<=d.mag at this;omega
 unfold Dt.In at hy;rw[hmk,aEo rfl]at hy;split at hy
 . have:=hy.1.1;have:=hy.1.2.1;omega
 have:=hy.2.1;omega
def Dt.vO(d:Dt):Bool:= !hasB 88 (d.dg++d.mo++d.da)&&decide (d.sig=0)
theorem gB{d:Dt}(h:d.vO=true):d.mask=false/\hasB 88 d.mo=false/\hasB 88 d.da=false/\d.sig=0/\hasB 88 (d.dg++d.mo++d.da)=false:=by
 unfold Dt.vO at h;rw[aEb,aTL,aEZ]at h;obtain⟨h1,h2,h3⟩:=aSS h.1;exact⟨h1,h2,h3,h.2,h.1⟩
def Dt.prec(d:Dt):Int:=if d.da.size≠0 then 3 else if d.aH≠0 then 0 else if d.mo.size≠0 then 2 else 1
def Dt.UY(d:Dt):Bool:=decide (d.err=0)&&(d.vO&& !decide (d.prec=0))
def Dt.yv(d:Dt):Int:=yVal d.neg d.dg d.ex
def Dt.lo(d:Dt):Int:=zY d.yv (bJ d.mo) (bJ d.da)
def Dt.hi(d:Dt):Int:=zZ d.yv (bJ d.mo) (bJ d.da)
theorem iF {d:Dt} (h:d.err=0) (hx:d.vO=true):d.form=0/\d.U7=true/\ -10000000000000000<=d.yv/\d.yv<=10000000000000000/\
 ((d.mo.size=0/\d.da.size=0/\d.aH=0)\/(d.mo.size=2/\d.aH≠0/\d.da.size=0/\bJ d.mo=d.aH/\21<=d.aH/\d.aH<=41/\iE d.yv d.aH<=10000000000000000)\/
  (d.mo.size=2/\d.aH=0/\1<=bJ d.mo/\bJ d.mo<=12/\(d.da.size=0\/(d.da.size=2/\1<=bJ d.da/\bJ d.da<=aYT d.yv (bJ d.mo))))):=by
 obtain⟨x1,x2,x3,x4,_⟩:=gB hx;have hf:=MR h;obtain⟨f1,f2,f3,f4⟩:=Dt.yM hf;obtain⟨y1,y2,y3⟩:=Dt.uH f1;have hin:=aI4 x1;have hb:=Dt.aCo y1 hin;obtain⟨m1,m2,m3,m4⟩:=aGQ hf x2;obtain⟨d1,d2,d3,d4⟩:=aHV hf x3;refine⟨hf,y1,hb.1,hb.2,?_⟩;by_cases c:d.mo.size=0
 . have c2:d.da.size=0:=fmd hf c;refine .inl ⟨c,c2,?_⟩;by_cases e:d.aH=0
   . exact e
   have:=(AA e).1;omega
 have s2:d.mo.size=2:=by
  by_cases e:d.aH=0
  . rcases f2 with g|g|g
    . exact absurd g c
    . exact absurd e g
    exact(jX (by omega) g).1
  exact(AA e).1
 rcases m4 c with⟨a1,a2,a3⟩|⟨a1,a2,a3⟩
 . refine .inr (.inr ⟨s2,a3,a1,a2,?_⟩);by_cases c2:d.da.size=0
   . exact .inl c2
   right
   have s3:d.da.size=2:=by
    rcases f3 with g|g
    . exact absurd g c2
    exact(jX (by omega) g.2.2).1
   refine⟨s3,(d4 c2).1,?_⟩;unfold Dt.err at h;rw[aEg (by omega)]at h;have hex: ∃y m k,d.Fill y m k:=by
    apply aOY;intro hn;rw[aEo ⟨c2,hn⟩]at h;cases h
   obtain⟨y,m,k,g1,g2,g3,g4⟩:=hex;rw[m3,aL8]at g2;rw[d3,aL8]at g3;unfold Dt.In at g1 hin;rw[x1]at g1 hin;simp only[aMB,aPv]at g1 hin;unfold Dt.len at g4;rw[aEg c2,g2,g3,g1,<-hin]at g4;exact g4
 have e:d.aH≠0:=by omega
 have c2:d.da.size=0:=by
  rcases f3 with g|g
  . exact g
  exact absurd g.2.1 e
 exact .inr (.inl ⟨s2,e,c2,a3.symm,by omega,by omega,aOl y1 y3 hin rfl e⟩)
theorem at2: ∀a b:Fin 10,atoiAll [UInt8.ofNat (48+a.val),UInt8.ofNat (48+b.val)]=.ok (10 * (a.val:Int)+b.val):=by decide
theorem aLB{c:UInt8}(h0:48<=c.toNat)(h1:c.toNat<=57): ∃x:Fin 10,c=UInt8.ofNat (48+x.val)/\x.val=c.toNat - 48:=by
 refine⟨⟨c.toNat - 48,by omega⟩,?_,rfl⟩;show c=UInt8.ofNat (48+(c.toNat - 48));rw[show 48+(c.toNat - 48)=c.toNat by omega];exact(UInt8.ofNat_toNat).symm
theorem aBL{s:ByteArray}(h2:s.size=2)(hd:aYP bY s=true): ∃a b:UInt8,s.data.toList=[a,b]/\48<=a.toNat/\a.toNat<=57/\48<=b.toNat/\b.toNat<=57/\bJ s=10 * ((a.toNat:Int) - 48)+((b.toNat:Int) - 48)/\fE s 0=a.toNat/\fE s 1=b.toNat:=by
 obtain⟨a,b,h,ha,hb⟩:=sO h2;have d0:=(kU bY s).1 hd 0 (by omega);have d1:=(kU bY s).1 hd 1 (by omega);unfold bY at d0 d1;rw[ha,aEZ]at d0;rw[hb,aEZ]at d1;refine⟨a,b,h,by omega,by omega,by omega,by omega,?_,ha,hb⟩;unfold bJ;rw[h];simp only[dec];omega
theorem aId{s:ByteArray}(h2:s.size=2)(hd:aYP bY s=true):atoiAll s.data.toList=.ok (bJ s):=by
 obtain⟨a,b,h,a0,a1,b0,b1,e,_⟩:=aBL h2 hd;obtain⟨x,hx,ex⟩:=aLB a0 a1;obtain⟨y,hy,ey⟩:=aLB b0 b1;rw[h,e,hx,hy,at2 x y,<-hx,<-hy,ex,ey]
 congr 1;omega
theorem MS{s:ByteArray}(h:s.size=0):s=⟨#[]⟩:=by
 cases s with
 |mk a=>congr 1;exact aSu h
theorem KQ(s:ByteArray)(w:World)(h2:s.size=2)(hd:aYP bY s=true):
 Calls prog 75 #[.string s] w fun r w'=>r=.returned (.int .i64 (bJ s))/\Below w.heap.size w w':=by
 obtain⟨a,b,h,a0,a1,b0,b1,e,e0,e1⟩:=aBL h2 hd;have g0:=dJ s 0 (by omega);have g1:=dJ s 1 (by omega);rw[e0]at g0;rw[e1]at g1;have k0:(s[0]'(by omega)).toNat=a.toNat:=by omega
 have k1:(s[1]'(by omega)).toNat=b.toNat:=by omega
 obtain⟨x,hx⟩: ∃x:Int,x=((s[0]'(by omega)).toNat:Int):=⟨_,rfl⟩;obtain⟨y,hy⟩: ∃y:Int,y=((s[1]'(by omega)).toNat:Int):=⟨_,rfl⟩;have x0:48<=x:=by omega
 have x1:x<=57:=by omega
 have y0:48<=y:=by omega
 have y1:y<=57:=by omega
 rw[e,show(a.toNat:Int)=x by omega,show(b.toNat:Int)=y by omega];have w1:IntKind.u8.wrap (x - 48)=x - 48:=by unfold IntKind.wrap;simp[IntKind.signed,IntKind.bits];omega
 have w2:IntKind.u8.wrap (y - 48)=y - 48:=by unfold IntKind.wrap;simp[IntKind.signed,IntKind.bits];omega
 have HX:=aAC hx;have HY:=aAC hy;clear hx hy g0 g1 k0 k1 e e0 e1 h a0 a1 b0 b1;go_enter func75,ntmps75;go_upto_region 1 with(fail)
 go_region_with (fail)
 all_goals go_wp2_with (fail)
 all_goals go_ret
 all_goals refine⟨ri ?_,by first|exact aDA _ _|exact(aDA _ _).drew⟩
 all_goals first|rfl|(rw[<-HX.out,<-HY.out];simp only[w1,w2,aUy];omega)
def yd0:AV:=.eP [(rK q8 (qi 11) q8 (qi 12)),qz]
def yd1:List AV:=[(qb 0),(qb 1),(qs 2),(qi 3),(qi 4)]
def yd2:AV:=.eP [(rK q8 qz q8 qz),(.v (.int .i64 1))]
def yd3:List AV:=[(qb 0),(qb 1),(qs 2),(qi 3),(qi 4),(qs 5),.v (.string ⟨#[]⟩),(qu 6),(qu 7),(qu 8)]
def yd4:List AV:=[(qb 0),(qb 1),(qs 2),(qi 3),(qi 4),.v (.string ⟨#[]⟩),.v (.string ⟨#[]⟩),(qu 5),(qu 6),(qu 7)]
def aIu:DT:=(.node 0 (qi 4) qz (.leaf (.eP [(rK q8 (qi 9) q8 (qi 10)),qz])) (.leaf yd2))
theorem aDO(l:Value):aIu.ok BJ l [] [(61,[.agg yd4],qz),(165,[.agg yd4],qf),(141,[.agg yd1],.eP [(qi 8),qz]),(144,[.agg yd4],.v (.int .u8 1)),(186,[(qi 8)],.eP [(qi 9),qz]),(187,[(qi 8)],.eP [(qi 10),qz])] hp 60 LG 100 [.agg yd4] []=true:=by kernel_rfl
theorem aMP(d:Dt)(y:Int)(a:Int)(b:Int){w0:World}(hst:SS w0) (H0:Same w0 61 #[(.agg #[(.bool d.neg),(.bool d.long),(.string d.dg),(.int .i64 d.ex),(.int .i64 d.sig),(.string ⟨#[]⟩),(.string ⟨#[]⟩),(.int .u8 d.m0),(.int .u8 d.m1),(.int .u8 d.m2)])] (.int .i64 0))(H1:Same w0 165 #[(.agg #[(.bool d.neg),(.bool d.long),(.string d.dg),(.int .i64 d.ex),(.int .i64 d.sig),(.string ⟨#[]⟩),(.string ⟨#[]⟩),(.int .u8 d.m0),(.int .u8 d.m1),(.int .u8 d.m2)])] (.bool false))(H2:Same w0 141 #[(.agg #[(.bool d.neg),(.bool d.long),(.string d.dg),(.int .i64 d.ex),(.int .i64 d.sig)])] (.tuple #[(.int .i64 y),(.int .i64 0)]))(H3:Same w0 144 #[(.agg #[(.bool d.neg),(.bool d.long),(.string d.dg),(.int .i64 d.ex),(.int .i64 d.sig),(.string ⟨#[]⟩),(.string ⟨#[]⟩),(.int .u8 d.m0),(.int .u8 d.m1),(.int .u8 d.m2)])] (.int .u8 1))(H4:Same w0 186 #[(.int .i64 y)] (.tuple #[(.int .i64 a),(.int .i64 0)]))(H5:Same w0 187 #[(.int .i64 y)] (.tuple #[(.int .i64 b),(.int .i64 0)])):Same w0 100 #[(.agg #[(.bool d.neg),(.bool d.long),(.string d.dg),(.int .i64 d.ex),(.int .i64 d.sig),(.string ⟨#[]⟩),(.string ⟨#[]⟩),(.int .u8 d.m0),(.int .u8 d.m1),(.int .u8 d.m2)])] (cond (d.sig==0) (.tuple #[(r4 0 a 0 b),(.int .i64 0)]) (.tuple #[(r4 0 0 0 0),(.int .i64 1)])):=
 eU (aDO (.agg #[.bool d.neg,.bool d.long,.string d.dg,.int .i64 d.ex,.int .i64 d.sig,.int .u8 d.m0,.int .u8 d.m1,.int .u8 d.m2,.int .i64 y,.int .i64 a,.int .i64 b])) (jZ w0) hst .nil (.cons H0 (.cons H1 (.cons H2 (.cons H3 (.cons H4 (.cons H5 .nil)))))) (kL (by kernel_rfl)) (by kernel_rfl)
def aIt:DT:=(.node 0 (qi 4) qz (.leaf yd0) (.leaf yd2))
theorem aDN(l:Value):aIt.ok BJ l [] [(61,[.agg yd3],qz),(165,[.agg yd3],qf),(141,[.agg yd1],.eP [(qi 9),qz]),(144,[.agg yd3],.v (.int .u8 2)),(142,[(qs 5)],.eP [(qi 10),.v .nilIface]),(190,[(qi 9),(qi 10)],.eP [(qi 11),qz]),(191,[(qi 9),(qi 10)],.eP [(qi 12),qz])] hp 60 LG 100 [.agg yd3] []=true:=by kernel_rfl
theorem aMO(d:Dt)(y:Int)(m:Int)(a:Int)(b:Int){w0:World}(hst:SS w0) (H0:Same w0 61 #[(.agg #[(.bool d.neg),(.bool d.long),(.string d.dg),(.int .i64 d.ex),(.int .i64 d.sig),(.string d.mo),(.string ⟨#[]⟩),(.int .u8 d.m0),(.int .u8 d.m1),(.int .u8 d.m2)])] (.int .i64 0))(H1:Same w0 165 #[(.agg #[(.bool d.neg),(.bool d.long),(.string d.dg),(.int .i64 d.ex),(.int .i64 d.sig),(.string d.mo),(.string ⟨#[]⟩),(.int .u8 d.m0),(.int .u8 d.m1),(.int .u8 d.m2)])] (.bool false))(H2:Same w0 141 #[(.agg #[(.bool d.neg),(.bool d.long),(.string d.dg),(.int .i64 d.ex),(.int .i64 d.sig)])] (.tuple #[(.int .i64 y),(.int .i64 0)]))(H3:Same w0 144 #[(.agg #[(.bool d.neg),(.bool d.long),(.string d.dg),(.int .i64 d.ex),(.int .i64 d.sig),(.string d.mo),(.string ⟨#[]⟩),(.int .u8 d.m0),(.int .u8 d.m1),(.int .u8 d.m2)])] (.int .u8 2))(H4:Same w0 142 #[(.string d.mo)] (.tuple #[(.int .i64 m),.nilIface]))(H5:Same w0 190 #[(.int .i64 y),(.int .i64 m)] (.tuple #[(.int .i64 a),(.int .i64 0)]))(H6:Same w0 191 #[(.int .i64 y),(.int .i64 m)] (.tuple #[(.int .i64 b),(.int .i64 0)])):Same w0 100 #[(.agg #[(.bool d.neg),(.bool d.long),(.string d.dg),(.int .i64 d.ex),(.int .i64 d.sig),(.string d.mo),(.string ⟨#[]⟩),(.int .u8 d.m0),(.int .u8 d.m1),(.int .u8 d.m2)])] (cond (d.sig==0) (.tuple #[(r4 0 a 0 b),(.int .i64 0)]) (.tuple #[(r4 0 0 0 0),(.int .i64 1)])):=
 eU (aDN (.agg #[.bool d.neg,.bool d.long,.string d.dg,.int .i64 d.ex,.int .i64 d.sig,.string d.mo,.int .u8 d.m0,.int .u8 d.m1,.int .u8 d.m2,.int .i64 y,.int .i64 m,.int .i64 a,.int .i64 b])) (jZ w0) hst .nil (.cons H0 (.cons H1 (.cons H2 (.cons H3 (.cons H4 (.cons H5 (.cons H6 .nil))))))) (kL (by kernel_rfl)) (by kernel_rfl)
def aIv:DT:=(.node 0 (qi 4) qz (.leaf yd0) (.leaf yd2))
theorem aDP(l:Value):aIv.ok BJ l [] [(61,[.agg yd3],qz),(165,[.agg yd3],qf),(141,[.agg yd1],.eP [(qi 9),qz]),(144,[.agg yd3],.v (.int .u8 0)),(142,[(qs 5)],.eP [(qi 10),.v .nilIface]),(171,[(qi 9),(qi 10)],.eP [rK q8 (qi 11) q8 (qi 12),qz])] hp 60 LG 100 [.agg yd3] []=true:=by kernel_rfl
theorem aMQ(d:Dt)(y:Int)(m:Int)(a:Int)(b:Int){w0:World}(hst:SS w0) (H0:Same w0 61 #[(.agg #[(.bool d.neg),(.bool d.long),(.string d.dg),(.int .i64 d.ex),(.int .i64 d.sig),(.string d.mo),(.string ⟨#[]⟩),(.int .u8 d.m0),(.int .u8 d.m1),(.int .u8 d.m2)])] (.int .i64 0))(H1:Same w0 165 #[(.agg #[(.bool d.neg),(.bool d.long),(.string d.dg),(.int .i64 d.ex),(.int .i64 d.sig),(.string d.mo),(.string ⟨#[]⟩),(.int .u8 d.m0),(.int .u8 d.m1),(.int .u8 d.m2)])] (.bool false))(H2:Same w0 141 #[(.agg #[(.bool d.neg),(.bool d.long),(.string d.dg),(.int .i64 d.ex),(.int .i64 d.sig)])] (.tuple #[(.int .i64 y),(.int .i64 0)]))(H3:Same w0 144 #[(.agg #[(.bool d.neg),(.bool d.long),(.string d.dg),(.int .i64 d.ex),(.int .i64 d.sig),(.string d.mo),(.string ⟨#[]⟩),(.int .u8 d.m0),(.int .u8 d.m1),(.int .u8 d.m2)])] (.int .u8 0))(H4:Same w0 142 #[(.string d.mo)] (.tuple #[(.int .i64 m),.nilIface]))(H5:Same w0 171 #[(.int .i64 y),(.int .i64 m)] (.tuple #[(r4 0 a 0 b),(.int .i64 0)])):Same w0 100 #[(.agg #[(.bool d.neg),(.bool d.long),(.string d.dg),(.int .i64 d.ex),(.int .i64 d.sig),(.string d.mo),(.string ⟨#[]⟩),(.int .u8 d.m0),(.int .u8 d.m1),(.int .u8 d.m2)])] (cond (d.sig==0) (.tuple #[(r4 0 a 0 b),(.int .i64 0)]) (.tuple #[(r4 0 0 0 0),(.int .i64 1)])):=
 eU (aDP (.agg #[.bool d.neg,.bool d.long,.string d.dg,.int .i64 d.ex,.int .i64 d.sig,.string d.mo,.int .u8 d.m0,.int .u8 d.m1,.int .u8 d.m2,.int .i64 y,.int .i64 m,.int .i64 a,.int .i64 b])) (jZ w0) hst .nil (.cons H0 (.cons H1 (.cons H2 (.cons H3 (.cons H4 (.cons H5 .nil)))))) (kL (by kernel_rfl)) (by kernel_rfl)
def yx0:AV:=bH 1 .i64 [(qi 15),(qi 17)]
def yx1:List AV:=[(.v (.int .i64 3)),(.v (.int .i64 3))]
def yx2:List AV:=[(.v (.int .i64 6)),(.v (.int .i64 3))]
def yx3:List AV:=[(.v (.int .i64 9)),(.v (.int .i64 3))]
def yx4:AV:=bH 2 .i64 [yx0,(.v (.int .i64 1))]
def yx5:List AV:=[(.v (.int .i64 12)),(.v (.int .i64 3))]
def yx6:List AV:=[bH 1 .i64 [(qi 8),.v (.int .i64 1)]]
def yx7:List AV:=[bH 1 .i64 [(qi 9),.v (.int .i64 1)]]
def yx8:AV:=bH 2 .i64 [(qi 0),(.v (.int .i64 33))]
def yx9:AV:=bH 3 .i64 [(.v (.int .i64 3)),yx8]
def aUU:AV:=bH 1 .i64 [yx9,(.v (.int .i64 1))]
def aI0:AV:=.eP [aUU,(.v (.int .i64 3))]
def aUT:AV:=bH 2 .i64 [(qi 0),(.v (.int .i64 37))]
def aUS:AV:=bH 3 .i64 [(.v (.int .i64 4)),aUT]
def aUR:AV:=bH 1 .i64 [aUS,(.v (.int .i64 1))]
def aMA:AV:=.eP [aUR,(.v (.int .i64 4))]
def aUQ:AV:=bH 2 .i64 [(qi 12),(.v (.int .i64 1))]
def aIZ:AV:=.eP [(qi 11),aUQ]
def aUP:AV:=bH 2 .i64 [(qi 13),(.v (.int .i64 1))]
def aIY:AV:=.eP [(qi 12),aUP]
def aPM:AV:=bH 2 .i64 [(qi 17),(.v (.int .i64 1))]
def aPL:AV:=bH 2 .i64 [(qi 15),(.v (.int .i64 1))]
def aPK:AV:=bH 2 .i64 [(qi 16),(.v (.int .i64 1))]
def aPJ:List AV:=[bH 2 .i64 [qz,(qi 8)],.v (.int .i64 1)]
def aPI:List AV:=[bH 2 .i64 [qz,(qi 9)],.v (.int .i64 1)]
def aIX:List AV:=[qf,(qb 0),(qs 1),(qi 2),(qi 3),(qs 4),(qs 5),(qu 6),(qu 7),(qu 8)]
def aIW:List AV:=[qt,(qb 0),(qs 1),(qi 2),(qi 3),(qs 4),(qs 5),(qu 6),(qu 7),(qu 8)]
def nJ:List AV:=[(qb 0),(qb 1),(qs 2),(qi 3),(qi 4),(qs 5),(qs 6),(qu 7),(qu 8),(qu 9)]
def aCZ:List AV:=[(qb 1),(qb 2),(qs 3),(qi 4),(qi 5),(qs 6),(qs 7),(qu 8),(qu 9),(qu 10)]
def aPH:List AV:=[qf,(qb 0),(qs 1),(qi 2),(qi 3),.v (.string ⟨#[]⟩),(qs 4),(qu 5),(qu 6),(qu 7)]
def aPG:List AV:=[qf,(qb 0),(qs 1),(qi 2),(qi 3),(qs 4),.v (.string ⟨#[]⟩),(qu 5),(qu 6),(qu 7)]
def aPF:List AV:=[qt,(qb 0),(qs 1),(qi 2),(qi 3),.v (.string ⟨#[]⟩),(qs 4),(qu 5),(qu 6),(qu 7)]
def aPE:List AV:=[qt,(qb 0),(qs 1),(qi 2),(qi 3),(qs 4),.v (.string ⟨#[]⟩),(qu 5),(qu 6),(qu 7)]
def aCY:List AV:=[(qu 0),(qb 1),(qb 2),(qs 3),(qi 4),(qi 5),(qs 6),(qs 7),(qu 8),(qu 9),(qu 10)]
def QN:List AV:=[(qb 10),(qb 11),(qs 12),(qi 13),(qi 14),(qs 15),(qs 16),(qu 17),(qu 18),(qu 19)]
def aMz:List AV:=[(qb 11),(qb 12),(qs 13),(qi 14),(qi 15),(qs 16),(qs 17),(qu 18),(qu 19),(qu 20)]
def U6:List AV:=[.v (.int .u8 1),(qb 0),(qb 1),(qs 2),(qi 3),(qi 4),(qs 5),(qs 6),(qu 7),(qu 8),(qu 9)]
def aIV:List AV:=[(qu 10),(qb 11),(qb 12),(qs 13),(qi 14),(qi 15),(qs 16),(qs 17),(qu 18),(qu 19),(qu 20)]
def aIU:List AV:=[(qu 11),(qb 12),(qb 13),(qs 14),(qi 15),(qi 16),(qs 17),(qs 18),(qu 19),(qu 20),(qu 21)]
def aIT:List AV:=[.v (.int .u8 1),(qb 10),(qb 11),(qs 12),(qi 13),(qi 14),(qs 15),(qs 16),(qu 17),(qu 18),(qu 19)]
def aMy:List AV:=[qf,qf,.v (.string ⟨#[]⟩),qz,qz,.v (.string ⟨#[]⟩),.v (.string ⟨#[]⟩),.v (.int .u8 0),.v (.int .u8 0),.v (.int .u8 0)]
def aPD:List AV:=[(qb 0),(qb 1),(qs 2),(qi 3),(qi 4),(qs 5),(qs 6),(qu 7),(qu 8),(qu 9),(qb 10),(qb 11),(qb 12),(qs 13),(qi 14),(qi 15),(qs 16),(qs 17),(qu 18),(qu 19),(qu 20)]
theorem aPW(d:Dt)(code:Int)(sn:Bool)(w0:World) (H0:Same w0 120 #[(dP d)] (.tuple #[(.int .i64 code),(.bool sn)])):Same w0 144 #[(dP d)] (cond sn (cond (d.da.toList==(⟨#[]⟩:ByteArray).toList) (.int .u8 0) (.int .u8 3)) (cond (d.da.toList==(⟨#[]⟩:ByteArray).toList) (cond (d.mo.toList==(⟨#[]⟩:ByteArray).toList) (.int .u8 1) (.int .u8 2)) (.int .u8 3))):=
 zc (.node 3 (qb 11) (qb 11) (.node 2 (qs 6) (.v (.string ⟨#[]⟩)) (.leaf (.v (.int .u8 0))) (.leaf (.v (.int .u8 3)))) (.node 2 (qs 6) (.v (.string ⟨#[]⟩)) (.node 2 (qs 5) (.v (.string ⟨#[]⟩)) (.leaf (.v (.int .u8 1))) (.leaf (.v (.int .u8 2)))) (.leaf (.v (.int .u8 3))))) [] [(120,[.agg nJ],.eP [(qi 10),(qb 11)])] [.agg nJ] (lv (dL d) [.int .i64 code,.bool sn]) .nil (.cons H0 .nil)
theorem aJa(d:Dt)(mk:Bool)(w0:World) (H0:Same w0 165 #[(dP d)] (.bool mk)):Same w0 140 #[(dP d)] (cond mk (.bool false) (cond (d.sig==0) (.bool true) (.bool false))):=
 zc (.node 3 (qb 10) (qb 10) (.leaf qf) (.node 0 (qi 4) qz (.leaf qt) (.leaf qf))) [] [(165,[.agg nJ],(qb 10))] [.agg nJ] (lv (dL d) [.bool mk]) .nil (.cons H0 .nil)
theorem aI9(d:Dt)(mk:Bool)(w0:World) (H0:Same w0 165 #[(dP d)] (.bool mk)):Same w0 152 #[(dP d)] (cond mk (.bool false) (cond (d.sig==0) (.bool true) (.bool false))):=
 zc (.node 3 (qb 10) (qb 10) (.leaf qf) (.node 0 (qi 4) qz (.leaf qt) (.leaf qf))) [] [(165,[.agg nJ],(qb 10))] [.agg nJ] (lv (dL d) [.bool mk]) .nil (.cons H0 .nil)
theorem aMJ(d:Dt)(mk:Bool)(e:Int)(p:Int)(w0:World) (H0:Same w0 61 #[(dP d)] (.int .i64 e))(H1:Same w0 165 #[(dP d)] (.bool mk))(H2:Same w0 144 #[(dP d)] (.int .u8 p)):Same w0 153 #[(dP d)] (cond (e==0) (cond mk (.bool false) (cond (d.sig==0) (cond (p==0) (.bool false) (.bool true)) (.bool false))) (.bool false)):=
 zc (.node 0 (qi 11) qz (.node 3 (qb 10) (qb 10) (.leaf qf) (.node 0 (qi 4) qz (.node 0 (qu 12) (.v (.int .u8 0)) (.leaf qf) (.leaf qt)) (.leaf qf))) (.leaf qf)) [] [(61,[.agg nJ],(qi 11)),(165,[.agg nJ],(qb 10)),(144,[.agg nJ],(qu 12))] [.agg nJ] (lv (dL d) [.bool mk,.int .i64 e,.int .u8 p]) .nil (.cons H0 (.cons H1 (.cons H2 .nil)))
theorem aPZ (y:Int)(m:Int)(k:Int)(n:Int)(a:Int)(w0:World) (H0:Same w0 180 #[(.int .i64 y),(.int .i64 m)] (.tuple #[(.int .i64 n),(.int .i64 0)]))(H1:Same w0 190 #[(.int .i64 y),(.int .i64 m)] (.tuple #[(.int .i64 a),(.int .i64 0)])):Same w0 193 #[(cvv y m k)] (cond (decide (k<1)) (.tuple #[(.int .i64 0),(.int .i64 8)]) (cond (decide (n<k)) (.tuple #[(.int .i64 0),(.int .i64 8)]) (.tuple #[(.int .i64 (IntKind.i64.wrap ((IntKind.i64.wrap (a+k)) - 1))),(.int .i64 0)]))):=
 zc (.node 1 (qi 2) (.v (.int .i64 1)) (.leaf (.eP [qz,(.v (.int .i64 8))])) (.node 1 (qi 3) (qi 2) (.leaf (.eP [qz,(.v (.int .i64 8))])) (.leaf (.eP [(bH 2 .i64 [(bH 1 .i64 [(qi 4),(qi 2)]),(.v (.int .i64 1))]),qz])))) [] [(180,[(qi 0),(qi 1)],.eP [(qi 3),qz]),(190,[(qi 0),(qi 1)],.eP [(qi 4),qz])] [.agg [(qi 0),(qi 1),(qi 2)]] (.agg #[.int .i64 y,.int .i64 m,.int .i64 k,.int .i64 n,.int .i64 a]) .nil (.cons H0 (.cons H1 .nil))
theorem aMN(d:Dt)(y:Int)(m:Int)(k:Int)(a:Int)(w0:World) (H0:Same w0 61 #[(dP d)] (.int .i64 0))(H1:Same w0 165 #[(dP d)] (.bool false))(H2:Same w0 141 #[(.agg #[(.bool d.neg),(.bool d.long),(.string d.dg),(.int .i64 d.ex),(.int .i64 d.sig)])] (.tuple #[(.int .i64 y),(.int .i64 0)]))(H3:Same w0 142 #[(.string d.mo)] (.tuple #[(.int .i64 m),.nilIface]))(H4:Same w0 142 #[(.string d.da)] (.tuple #[(.int .i64 k),.nilIface]))(H5:Same w0 144 #[(dP d)] (.int .u8 3))(H6:Same w0 193 #[(cvv y m k)] (.tuple #[(.int .i64 a),(.int .i64 0)])):Same w0 100 #[(dP d)] (cond (d.sig==0) (.tuple #[(r4 0 a 0 a),(.int .i64 0)]) (.tuple #[(r4 0 0 0 0),(.int .i64 1)])):=
 zc (.node 0 (qi 4) qz (.leaf (.eP [(rK q8 (qi 13) q8 (qi 13)),qz])) (.leaf (.eP [(rK q8 qz q8 qz),(.v (.int .i64 1))]))) [] [(61,[.agg nJ],qz),(165,[.agg nJ],qf),(141,[.agg [(qb 0),(qb 1),(qs 2),(qi 3),(qi 4)]],.eP [(qi 10),qz]),(142,[(qs 5)],.eP [(qi 11),.v .nilIface]),(142,[(qs 6)],.eP [(qi 12),.v .nilIface]),(144,[.agg nJ],.v (.int .u8 3)),(193,[.agg [(qi 10),(qi 11),(qi 12)]],.eP [(qi 13),qz])] [.agg nJ] (lv (dL d) [.int .i64 y,.int .i64 m,.int .i64 k,.int .i64 a]) .nil (.cons H0 (.cons H1 (.cons H2 (.cons H3 (.cons H4 (.cons H5 (.cons H6 .nil)))))))
theorem aBJ(d:Dt)(bk:Int)(e:Int)(x:Bool)(zd:Bool)(w0:World)(hzd:ZU 30 (dP d) (dP z0) zd)(H0:Same w0 61 #[(dP d)] (.int .i64 e))(H1:Same w0 140 #[(dP d)] (.bool x)):Same w0 99 #[(bV bk d)] (cond (bk==1) (cond (e==0) (cond x (.int .i64 0) (.int .i64 11)) (.int .i64 e)) (cond (bk==2) (cond zd (.int .i64 0) (.int .i64 5)) (cond (bk==3) (cond zd (.int .i64 0) (.int .i64 5)) (.int .i64 18)))):=
 zc (.node 0 (qu 0) (.v (.int .u8 1)) (.node 0 (qi 11) qz (.node 3 (qb 12) (qb 12) (.leaf qz) (.leaf (.v (.int .i64 11)))) (.leaf (qi 11))) (.node 0 (qu 0) (.v (.int .u8 2)) (.node 3 (qb 13) (qb 13) (.leaf qz) (.leaf (.v (.int .i64 5)))) (.node 0 (qu 0) (.v (.int .u8 3)) (.node 3 (qb 13) (qb 13) (.leaf qz) (.leaf (.v (.int .i64 5)))) (.leaf (.v (.int .i64 18)))))) [(30,.agg aCZ,.agg aMy,(qb 13))] [(61,[.agg aCZ],(qi 11)),(140,[.agg aCZ],(qb 12))] [.agg aCY] (lv [.int .u8 bk] (List.append (dL d) [.int .i64 e,.bool x,.bool zd])) (.cons hzd (fun _ _ _=>⟨by kernel_rfl,by kernel_rfl⟩) .nil) (.cons H0 (.cons H1 .nil))
def aIs:DT:=(.node 0 (qi 20) (qi 20) (.node 0 (qi 23) (qi 23) (.node 1 (qi 20) (qi 23) (.leaf qz) (.node 1 (qi 23) (qi 20) (.leaf (.v (.int .i64 11))) (.leaf qz))) DT.no) DT.no)
theorem aDM(l:Value):aIs.ok tb0 l [] [(99,[.agg U6],qz),(99,[.agg aIT],qz),(100,[.agg nJ],.eP [rK q8 (qi 20) q8 (qi 21),qz]),(100,[.agg QN],.eP [rK q8 (qi 22) q8 (qi 23),qz])] .nil 60 LG 62 [.agg U6,.agg aIT] []=true:=by kernel_rfl
theorem aMM(f t:Dt)(a:Int)(b:Int)(u:Int)(v:Int)(w0:World) (H0:Same w0 99 #[(bV 1 f)] (.int .i64 0))(H1:Same w0 99 #[(bV 1 t)] (.int .i64 0))(H2:Same w0 100 #[(dV f)] (.tuple #[(r4 0 a 0 b),(.int .i64 0)]))(H3:Same w0 100 #[(dV t)] (.tuple #[(r4 0 u 0 v),(.int .i64 0)])):Same w0 62 #[(bV 1 f),(bV 1 t)] (cond (a==a) (cond (v==v) (cond (decide (a<v)) (.int .i64 0) (cond (decide (v<a)) (.int .i64 11) (.int .i64 0))) (.bool false)) (.bool false)):=
 eU (aDM (lv (dL f) (List.append (dL t) [.int .i64 a,.int .i64 b,.int .i64 u,.int .i64 v]))) (jO w0) (O8 w0) .nil (.cons H0 (.cons H1 (.cons H2 (.cons H3 .nil)))) (iD (by kernel_rfl:_=((((a==a)=true->(((v==v)=true->(((decide (a<v))=true->True)/\((decide (a<v))=false->(((decide (v<a))=true->True)/\((decide (v<a))=false->True)))))/\((v==v)=false->False)))/\((a==a)=false->False)))) (⟨fun h0=>⟨fun h1=>⟨fun h2=>trivial,fun h2=>⟨fun h3=>trivial,fun h3=>trivial⟩⟩,fun h1=>(by simp only[aI3,aEB,aEZ,aFe]at *;omega)⟩,fun h0=>(by simp only[aI3,aEB,aEZ,aFe]at *;omega)⟩)) (by kernel_rfl)
def aIr:DT:=(.node 0 (qu 10) (.v (.int .u8 1)) DT.no (.leaf qz))
theorem aDL(l:Value):aIr.ok tb0 l [] [(99,[.agg U6],qz),(99,[.agg aIV],qz)] .nil 60 LG 62 [.agg U6,.agg aIV] []=true:=by kernel_rfl
theorem aML(f t:Dt)(tk:Int)(w0:World)(hk:2<=tk)(H0:Same w0 99 #[(bV 1 f)] (.int .i64 0))(H1:Same w0 99 #[(bV tk t)] (.int .i64 0)):Same w0 62 #[(bV 1 f),(bV tk t)] (cond (tk==1) (.bool false) (.int .i64 0)):=
 eU (aDL (lv (dL f) (List.append [.int .u8 tk] (dL t)))) (jO w0) (O8 w0) .nil (.cons H0 (.cons H1 .nil)) (iD (by kernel_rfl:_=((((tk==1)=true->False)/\((tk==1)=false->True)))) (⟨fun h0=>(by simp only[aI3,aEB,aEZ,aFe]at *;omega),fun h0=>trivial⟩)) (by kernel_rfl)
def aIq:DT:=(.node 0 (qu 0) (.v (.int .u8 1)) DT.no (.node 0 (qu 11) (.v (.int .u8 1)) (.leaf qz) (.leaf (.v (.int .i64 11)))))
theorem aDK(l:Value):aIq.ok tb0 l [] [(99,[.agg aCY],qz),(99,[.agg aIU],qz)] .nil 60 LG 62 [.agg aCY,.agg aIU] []=true:=by kernel_rfl
theorem aMK(f t:Dt)(fk:Int)(tk:Int)(w0:World)(hk:2<=fk)(H0:Same w0 99 #[(bV fk f)] (.int .i64 0))(H1:Same w0 99 #[(bV tk t)] (.int .i64 0)):Same w0 62 #[(bV fk f),(bV tk t)] (cond (fk==1) (.bool false) (cond (tk==1) (.int .i64 0) (.int .i64 11))):=
 eU (aDK (lv [.int .u8 fk] (List.append (dL f) (List.append [.int .u8 tk] (dL t))))) (jO w0) (O8 w0) .nil (.cons H0 (.cons H1 .nil)) (iD (by kernel_rfl:_=((((fk==1)=true->False)/\((fk==1)=false->(((tk==1)=true->True)/\((tk==1)=false->True)))))) (⟨fun h0=>(by simp only[aI3,aEB,aEZ,aFe]at *;omega),fun h0=>⟨fun h1=>trivial,fun h1=>trivial⟩⟩)) (by kernel_rfl)
theorem aI8(f t:Dt)(a:Int)(b:Int)(u:Int)(v:Int)(w0:World) (H0:Same w0 47 #[(bV 1 f)] (.int .i64 0))(H1:Same w0 47 #[(bV 1 t)] (.int .i64 0))(H2:Same w0 48 #[(dV f)] (.tuple #[(.int .i64 a),(.int .i64 b)]))(H3:Same w0 48 #[(dV t)] (.tuple #[(.int .i64 u),(.int .i64 v)])):Same w0 25 #[(bV 1 f),(bV 1 t)] (cond (decide (v<a)) (.int .i64 11) (.int .i64 0)):=
 zc (.node 1 (qi 23) (qi 20) (.leaf (.v (.int .i64 11))) (.leaf qz)) [] [(47,[.agg U6],qz),(47,[.agg aIT],qz),(48,[.agg nJ],.eP [(qi 20),(qi 21)]),(48,[.agg QN],.eP [(qi 22),(qi 23)])] [.agg U6,.agg aIT] (lv (dL f) (List.append (dL t) [.int .i64 a,.int .i64 b,.int .i64 u,.int .i64 v])) .nil (.cons H0 (.cons H1 (.cons H2 (.cons H3 .nil))))
def aEA:DT:=(.node 0 (qu 10) (.v (.int .u8 1)) DT.no (.leaf qz))
theorem aAH(l:Value):aEA.ok tb0 l [] [(47,[.agg U6],qz),(47,[.agg aIV],qz)] .nil 60 LG 25 [.agg U6,.agg aIV] []=true:=by kernel_rfl
theorem aI7(f t:Dt)(tk:Int)(w0:World)(hk:2<=tk)(H0:Same w0 47 #[(bV 1 f)] (.int .i64 0))(H1:Same w0 47 #[(bV tk t)] (.int .i64 0)):Same w0 25 #[(bV 1 f),(bV tk t)] (cond (tk==1) (.bool false) (.int .i64 0)):=
 eU (aAH (lv (dL f) (List.append [.int .u8 tk] (dL t)))) (jO w0) (O8 w0) .nil (.cons H0 (.cons H1 .nil)) (iD (by kernel_rfl:_=((((tk==1)=true->False)/\((tk==1)=false->True)))) (⟨fun h0=>(by simp only[aI3,aEB,aEZ,aFe]at *;omega),fun h0=>trivial⟩)) (by kernel_rfl)
def aEz:DT:=(.node 0 (qu 0) (.v (.int .u8 1)) DT.no (.node 0 (qu 11) (.v (.int .u8 1)) (.leaf qz) (.leaf (.v (.int .i64 11)))))
theorem aAG(l:Value):aEz.ok tb0 l [] [(47,[.agg aCY],qz),(47,[.agg aIU],qz)] .nil 60 LG 25 [.agg aCY,.agg aIU] []=true:=by kernel_rfl
theorem aI6(f t:Dt)(fk:Int)(tk:Int)(w0:World)(hk:2<=fk)(H0:Same w0 47 #[(bV fk f)] (.int .i64 0))(H1:Same w0 47 #[(bV tk t)] (.int .i64 0)):Same w0 25 #[(bV fk f),(bV tk t)] (cond (fk==1) (.bool false) (cond (tk==1) (.int .i64 0) (.int .i64 11))):=
 eU (aAG (lv [.int .u8 fk] (List.append (dL f) (List.append [.int .u8 tk] (dL t))))) (jO w0) (O8 w0) .nil (.cons H0 (.cons H1 .nil)) (iD (by kernel_rfl:_=((((fk==1)=true->False)/\((fk==1)=false->(((tk==1)=true->True)/\((tk==1)=false->True)))))) (⟨fun h0=>(by simp only[aI3,aEB,aEZ,aFe]at *;omega),fun h0=>⟨fun h1=>trivial,fun h1=>trivial⟩⟩)) (by kernel_rfl)
theorem aPY(f t:Dt) (w0:World) (H0:Same w0 153 #[(dV f)] (.bool false)):Same w0 150 #[(dV f),(dV t)] (.bool false):=
 zc (.leaf qf) [] [(153,[.agg nJ],qf)] [.agg nJ,.agg QN] (lv (dL f) (dL t)) .nil (.cons H0 .nil)
theorem aPX(f t:Dt) (w0:World) (H0:Same w0 153 #[(dV f)] (.bool true))(H1:Same w0 153 #[(dV t)] (.bool false)):Same w0 150 #[(dV f),(dV t)] (.bool false):=
 zc (.leaf qf) [] [(153,[.agg nJ],qt),(153,[.agg QN],qf)] [.agg nJ,.agg QN] (lv (dL f) (dL t)) .nil (.cons H0 (.cons H1 .nil))
def aOT:DT:=(.node 0 (qu 20) (qu 21) (.node 0 (qi 22) (qi 22) (.node 0 (qi 24) (qi 24) (.node 1 (qi 22) (qi 24) (.leaf qt) (.node 1 (qi 24) (qi 22) (.leaf qf) (.leaf qt))) DT.no) DT.no) (.leaf qf))
theorem aJ1(l:Value):aOT.ok tb0 l [] [(153,[.agg nJ],qt),(153,[.agg QN],qt),(144,[.agg nJ],(qu 20)),(144,[.agg QN],(qu 21)),(100,[.agg nJ],.eP [rK q8 (qi 22) q8 (qi 23),qz]),(100,[.agg QN],.eP [rK q8 (qi 24) q8 (qi 25),qz])] .nil 60 LG 150 [.agg nJ,.agg QN] []=true:=by kernel_rfl
theorem aU9(f t:Dt)(p:Int)(q:Int)(a:Int)(b:Int)(u:Int)(v:Int)(w0:World) (H0:Same w0 153 #[(dV f)] (.bool true))(H1:Same w0 153 #[(dV t)] (.bool true))(H2:Same w0 144 #[(dV f)] (.int .u8 p))(H3:Same w0 144 #[(dV t)] (.int .u8 q))(H4:Same w0 100 #[(dV f)] (.tuple #[(r4 0 a 0 b),(.int .i64 0)]))(H5:Same w0 100 #[(dV t)] (.tuple #[(r4 0 u 0 v),(.int .i64 0)])):Same w0 150 #[(dV f),(dV t)] (cond (p==q) (cond (a==a) (cond (u==u) (cond (decide (a<u)) (.bool true) (cond (decide (u<a)) (.bool false) (.bool true))) (.bool false)) (.bool false)) (.bool false)):=
 eU (aJ1 (lv (dL f) (List.append (dL t) [.int .u8 p,.int .u8 q,.int .i64 a,.int .i64 b,.int .i64 u,.int .i64 v]))) (jO w0) (O8 w0) .nil (.cons H0 (.cons H1 (.cons H2 (.cons H3 (.cons H4 (.cons H5 .nil)))))) (iD (by kernel_rfl:_=((((p==q)=true->(((a==a)=true->(((u==u)=true->(((decide (a<u))=true->True)/\((decide (a<u))=false->(((decide (u<a))=true->True)/\((decide (u<a))=false->True)))))/\((u==u)=false->False)))/\((a==a)=false->False)))/\((p==q)=false->True)))) (⟨fun h0=>⟨fun h1=>⟨fun h2=>⟨fun h3=>trivial,fun h3=>⟨fun h4=>trivial,fun h4=>trivial⟩⟩,fun h2=>(by simp only[aI3,aEB,aEZ,aFe]at *;omega)⟩,fun h1=>(by simp only[aI3,aEB,aEZ,aFe]at *;omega)⟩,fun h0=>trivial⟩)) (by kernel_rfl)
def aLl:DT:=(.node 0 (qu 21) (.v (.int .u8 3)) (.node 0 (qi 22) qz (.node 3 (qb 10) (qb 10) (.node 0 (qi 23) qz (.node 3 (qb 24) (qb 24) (.node 0 (qu 21) (.v (.int .u8 4)) DT.no (.leaf qz)) (.leaf (.v (.int .i64 10)))) (.leaf (qi 23))) (.node 3 (qb 26) (qb 26) (.node 0 (qu 21) (.v (.int .u8 4)) DT.no (.leaf qz)) (.leaf (.v (.int .i64 5))))) (.leaf (qi 22))) (.node 0 (qu 21) (.v (.int .u8 4)) (.node 0 (qi 22) qz (.node 3 (qb 10) (qb 10) (.node 0 (qi 23) qz (.node 3 (qb 24) (qb 24) (.node 3 (qb 25) (qb 25) (.leaf qz) (.leaf (.v (.int .i64 10)))) (.leaf (.v (.int .i64 10)))) (.leaf (qi 23))) (.node 3 (qb 26) (qb 26) (.node 3 (qb 25) (qb 25) (.leaf qz) (.leaf (.v (.int .i64 10)))) (.leaf (.v (.int .i64 5))))) (.leaf (qi 22))) (.leaf (.v (.int .i64 18)))))
theorem aF5(l:Value):aLl.ok tb0 l [(30,.agg aMz,.agg aMy,(qb 26))] [(61,[.agg nJ],(qi 22)),(61,[.agg aMz],(qi 23)),(150,[.agg nJ,.agg aMz],(qb 24)),(152,[.agg nJ],(qb 25))] .nil 60 LG 103 [.agg aPD,(qu 21)] []=true:=by kernel_rfl
theorem aLy(f t:Dt)(rg:Bool)(kd:Int)(e:Int)(g:Int)(o:Bool)(x:Bool)(zd:Bool)(w0:World)(hzd:ZU 30 (dP t) (dP z0) zd)(H0:Same w0 61 #[(dV f)] (.int .i64 e))(H1:Same w0 61 #[(dV t)] (.int .i64 g))(H2:Same w0 150 #[(dV f),(dV t)] (.bool o))(H3:Same w0 152 #[(dV f)] (.bool x)):Same w0 103 #[(iV f rg t),(.int .u8 kd)] (cond (kd==3) (cond (e==0) (cond rg (cond (g==0) (cond o (cond (kd==4) (.bool false) (.int .i64 0)) (.int .i64 10)) (.int .i64 g)) (cond zd (cond (kd==4) (.bool false) (.int .i64 0)) (.int .i64 5))) (.int .i64 e)) (cond (kd==4) (cond (e==0) (cond rg (cond (g==0) (cond o (cond x (.int .i64 0) (.int .i64 10)) (.int .i64 10)) (.int .i64 g)) (cond zd (cond x (.int .i64 0) (.int .i64 10)) (.int .i64 5))) (.int .i64 e)) (.int .i64 18))):=
 eU (aF5 (lv (dL f) (List.append [.bool rg] (List.append (dL t) [.int .u8 kd,.int .i64 e,.int .i64 g,.bool o,.bool x,.bool zd])))) (jO w0) (O8 w0) (.cons hzd (fun _ _ _=>⟨by kernel_rfl,by kernel_rfl⟩) .nil) (.cons H0 (.cons H1 (.cons H2 (.cons H3 .nil)))) (iD (by kernel_rfl:_=((((kd==3)=true->(((e==0)=true->((rg=true->(((g==0)=true->((o=true->(((kd==4)=true->False)/\((kd==4)=false->True)))/\(o=false->True)))/\((g==0)=false->True)))/\(rg=false->((zd=true->(((kd==4)=true->False)/\((kd==4)=false->True)))/\(zd=false->True)))))/\((e==0)=false->True)))/\((kd==3)=false->(((kd==4)=true->(((e==0)=true->((rg=true->(((g==0)=true->((o=true->((x=true->True)/\(x=false->True)))/\(o=false->True)))/\((g==0)=false->True)))/\(rg=false->((zd=true->((x=true->True)/\(x=false->True)))/\(zd=false->True)))))/\((e==0)=false->True)))/\((kd==4)=false->True)))))) (⟨fun h0=>⟨fun h1=>⟨fun h2=>⟨fun h3=>⟨fun h4=>⟨fun h5=>(by simp only[aI3,aEB,aEZ,aFe]at *;omega),fun h5=>trivial⟩,fun h4=>trivial⟩,fun h3=>trivial⟩,fun h2=>⟨fun h3=>⟨fun h4=>(by simp only[aI3,aEB,aEZ,aFe]at *;omega),fun h4=>trivial⟩,fun h3=>trivial⟩⟩,fun h1=>trivial⟩,fun h0=>⟨fun h1=>⟨fun h2=>⟨fun h3=>⟨fun h4=>⟨fun h5=>⟨fun h6=>trivial,fun h6=>trivial⟩,fun h5=>trivial⟩,fun h4=>trivial⟩,fun h3=>⟨fun h4=>⟨fun h5=>trivial,fun h5=>trivial⟩,fun h4=>trivial⟩⟩,fun h2=>trivial⟩,fun h1=>trivial⟩⟩)) (by kernel_rfl)
theorem aVa(f t:Dt)(rg:Bool)(x:Bool)(w0:World) (H0:Same w0 153 #[(dV f)] (.bool x)):Same w0 106 #[(iV f rg t)] (cond rg (.bool false) (.bool x)):=
 zc (.node 3 (qb 10) (qb 10) (.leaf qf) (.leaf (qb 21))) [] [(153,[.agg nJ],(qb 21))] [.agg aPD] (lv (dL f) (List.append [.bool rg] (List.append (dL t) [.bool x]))) .nil (.cons H0 .nil)
theorem aMI (c:Int)(w0:World)  :Same w0 73 #[(.int .i64 c)] (cond (c==21) (.tuple #[(.int .i64 3),(.int .i64 3)]) (cond (c==25) (.tuple #[(.int .i64 3),(.int .i64 3)]) (cond (c==31) (.tuple #[(.int .i64 3),(.int .i64 3)]) (cond (c==22) (.tuple #[(.int .i64 6),(.int .i64 3)]) (cond (c==26) (.tuple #[(.int .i64 6),(.int .i64 3)]) (cond (c==32) (.tuple #[(.int .i64 6),(.int .i64 3)]) (cond (c==23) (.tuple #[(.int .i64 9),(.int .i64 3)]) (cond (c==27) (.tuple #[(.int .i64 9),(.int .i64 3)]) (cond (c==29) (.tuple #[(.int .i64 9),(.int .i64 3)]) (cond (c==24) (.tuple #[(.int .i64 12),(.int .i64 3)]) (cond (c==28) (.tuple #[(.int .i64 12),(.int .i64 3)]) (cond (c==30) (.tuple #[(.int .i64 12),(.int .i64 3)]) (cond (c==33) (.tuple #[(.int .i64 (IntKind.i64.wrap ((IntKind.i64.wrap (3 * (IntKind.i64.wrap (c - 33))))+1))),(.int .i64 3)]) (cond (c==34) (.tuple #[(.int .i64 (IntKind.i64.wrap ((IntKind.i64.wrap (3 * (IntKind.i64.wrap (c - 33))))+1))),(.int .i64 3)]) (cond (c==35) (.tuple #[(.int .i64 (IntKind.i64.wrap ((IntKind.i64.wrap (3 * (IntKind.i64.wrap (c - 33))))+1))),(.int .i64 3)]) (cond (c==36) (.tuple #[(.int .i64 (IntKind.i64.wrap ((IntKind.i64.wrap (3 * (IntKind.i64.wrap (c - 33))))+1))),(.int .i64 3)]) (cond (c==37) (.tuple #[(.int .i64 (IntKind.i64.wrap ((IntKind.i64.wrap (4 * (IntKind.i64.wrap (c - 37))))+1))),(.int .i64 4)]) (cond (c==38) (.tuple #[(.int .i64 (IntKind.i64.wrap ((IntKind.i64.wrap (4 * (IntKind.i64.wrap (c - 37))))+1))),(.int .i64 4)]) (cond (c==39) (.tuple #[(.int .i64 (IntKind.i64.wrap ((IntKind.i64.wrap (4 * (IntKind.i64.wrap (c - 37))))+1))),(.int .i64 4)]) (.tuple #[(.int .i64 (IntKind.i64.wrap ((IntKind.i64.wrap (6 * (IntKind.i64.wrap (c - 40))))+1))),(.int .i64 6)])))))))))))))))))))):=
 zc (.node 0 (qi 0) (.v (.int .i64 21)) (.leaf (.eP yx1)) (.node 0 (qi 0) (.v (.int .i64 25)) (.leaf (.eP yx1)) (.node 0 (qi 0) (.v (.int .i64 31)) (.leaf (.eP yx1)) (.node 0 (qi 0) (.v (.int .i64 22)) (.leaf (.eP yx2)) (.node 0 (qi 0) (.v (.int .i64 26)) (.leaf (.eP yx2)) (.node 0 (qi 0) (.v (.int .i64 32)) (.leaf (.eP yx2)) (.node 0 (qi 0) (.v (.int .i64 23)) (.leaf (.eP yx3)) (.node 0 (qi 0) (.v (.int .i64 27)) (.leaf (.eP yx3)) (.node 0 (qi 0) (.v (.int .i64 29)) (.leaf (.eP yx3)) (.node 0 (qi 0) (.v (.int .i64 24)) (.leaf (.eP yx5)) (.node 0 (qi 0) (.v (.int .i64 28)) (.leaf (.eP yx5)) (.node 0 (qi 0) (.v (.int .i64 30)) (.leaf (.eP yx5)) (.node 0 (qi 0) (.v (.int .i64 33)) (.leaf aI0) (.node 0 (qi 0) (.v (.int .i64 34)) (.leaf aI0) (.node 0 (qi 0) (.v (.int .i64 35)) (.leaf aI0) (.node 0 (qi 0) (.v (.int .i64 36)) (.leaf aI0) (.node 0 (qi 0) (.v (.int .i64 37)) (.leaf aMA) (.node 0 (qi 0) (.v (.int .i64 38)) (.leaf aMA) (.node 0 (qi 0) (.v (.int .i64 39)) (.leaf aMA) (.leaf (.eP [(bH 1 .i64 [(bH 3 .i64 [(.v (.int .i64 6)),(bH 2 .i64 [(qi 0),(.v (.int .i64 40))])]),(.v (.int .i64 1))]),(.v (.int .i64 6))]))))))))))))))))))))) [] [] [(qi 0)] (.agg #[.int .i64 c]) .nil .nil
theorem VD(d:Dt)(bk:Int)(e:Int)(x:Int)(zd:Bool)(w0:World)(hzd:ZU 30 (dP d) (dP z0) zd)(H0:Same w0 64 #[(dP d)] (.int .i64 e))(H1:Same w0 70 #[(dP d)] (.int .i64 x)):Same w0 47 #[(bV bk d)] (cond (bk==1) (cond (e==0) (cond (x==0) (.int .i64 11) (.int .i64 e)) (.int .i64 e)) (cond (bk==2) (cond zd (.int .i64 0) (.int .i64 5)) (cond (bk==3) (cond zd (.int .i64 0) (.int .i64 5)) (.int .i64 18)))):=
 zc (.node 0 (qu 0) (.v (.int .u8 1)) (.node 0 (qi 11) qz (.node 0 (qi 12) qz (.leaf (.v (.int .i64 11))) (.leaf (qi 11))) (.leaf (qi 11))) (.node 0 (qu 0) (.v (.int .u8 2)) (.node 3 (qb 13) (qb 13) (.leaf qz) (.leaf (.v (.int .i64 5)))) (.node 0 (qu 0) (.v (.int .u8 3)) (.node 3 (qb 13) (qb 13) (.leaf qz) (.leaf (.v (.int .i64 5)))) (.leaf (.v (.int .i64 18)))))) [(30,.agg aCZ,.agg aMy,(qb 13))] [(64,[.agg aCZ],(qi 11)),(70,[.agg aCZ],(qi 12))] [.agg aCY] (lv [.int .u8 bk] (List.append (dL d) [.int .i64 e,.int .i64 x,.bool zd])) (.cons hzd (fun _ _ _=>⟨by kernel_rfl,by kernel_rfl⟩) .nil) (.cons H0 (.cons H1 .nil))
theorem aER(d:Dt)(v:Int)(x:Int)(code:Int)(a:Int)(b:Int)(w0:World) (H0:Same w0 71 #[(.string d.dg),(.int .i64 d.ex)] (.tuple #[(.int .i64 v),(.int .i64 x)]))(H1:Same w0 44 #[(.agg #[(.bool false),(.bool d.long),(.string d.dg),(.int .i64 d.ex),(.int .i64 d.sig),(.string ⟨#[]⟩),(.string d.da),(.int .u8 d.m0),(.int .u8 d.m1),(.int .u8 d.m2)])] (.int .i64 code))(H2:Same w0 72 #[(.int .i64 v)] (.int .i64 a))(H3:Same w0 72 #[(.int .i64 (IntKind.i64.wrap (v+1)))] (.int .i64 b)):Same w0 48 #[(.agg #[(.bool false),(.bool d.long),(.string d.dg),(.int .i64 d.ex),(.int .i64 d.sig),(.string ⟨#[]⟩),(.string d.da),(.int .u8 d.m0),(.int .u8 d.m1),(.int .u8 d.m2)])] (.tuple #[(.int .i64 a),(.int .i64 (IntKind.i64.wrap (b - 1)))]):=
 zc (.leaf aIZ) [] [(71,[(qs 1),(qi 2)],.eP [(qi 8),(qi 9)]),(44,[.agg aPH],(qi 10)),(72,[(qi 8)],(qi 11)),(72,yx6,(qi 12))] [.agg aPH] (.agg #[.bool d.long,.string d.dg,.int .i64 d.ex,.int .i64 d.sig,.string d.da,.int .u8 d.m0,.int .u8 d.m1,.int .u8 d.m2,.int .i64 v,.int .i64 x,.int .i64 code,.int .i64 a,.int .i64 b]) .nil (.cons H0 (.cons H1 (.cons H2 (.cons H3 .nil))))
def aBz:DT:=(.node 2 (qs 4) (.v (.string ⟨#[]⟩)) (.leaf aIY) (.node 1 qz (qi 11) (.leaf (.eP [(qi 16),aPM])) DT.no))
theorem WZ(l:Value):aBz.ok tb0 l [] [(71,[(qs 1),(qi 2)],.eP [(qi 9),(qi 10)]),(44,[.agg aIX],(qi 11)),(72,[(qi 9)],(qi 12)),(72,yx7,(qi 13)),(73,[(qi 11)],.eP [(qi 14),(qi 15)]),(74,[(qi 9),(qi 14)],(qi 16)),(74,[(qi 9),bH 1 .i64 [(qi 14),(qi 15)]],(qi 17))] .nil 60 LG 48 [.agg aIX] []=true:=by kernel_rfl
theorem aET(d:Dt)(v:Int)(x:Int)(code:Int)(a:Int)(b:Int)(f:Int)(n:Int)(c:Int)(g:Int)(w0:World)(hc:1<=code)(H0:Same w0 71 #[(.string d.dg),(.int .i64 d.ex)] (.tuple #[(.int .i64 v),(.int .i64 x)]))(H1:Same w0 44 #[(.agg #[(.bool false),(.bool d.long),(.string d.dg),(.int .i64 d.ex),(.int .i64 d.sig),(.string d.mo),(.string d.da),(.int .u8 d.m0),(.int .u8 d.m1),(.int .u8 d.m2)])] (.int .i64 code))(H2:Same w0 72 #[(.int .i64 v)] (.int .i64 a))(H3:Same w0 72 #[(.int .i64 (IntKind.i64.wrap (v+1)))] (.int .i64 b))(H4:Same w0 73 #[(.int .i64 code)] (.tuple #[(.int .i64 f),(.int .i64 n)]))(H5:Same w0 74 #[(.int .i64 v),(.int .i64 f)] (.int .i64 c))(H6:Same w0 74 #[(.int .i64 v),(.int .i64 (IntKind.i64.wrap (f+n)))] (.int .i64 g)):Same w0 48 #[(.agg #[(.bool false),(.bool d.long),(.string d.dg),(.int .i64 d.ex),(.int .i64 d.sig),(.string d.mo),(.string d.da),(.int .u8 d.m0),(.int .u8 d.m1),(.int .u8 d.m2)])] (cond (d.mo.toList==(⟨#[]⟩:ByteArray).toList) (.tuple #[(.int .i64 a),(.int .i64 (IntKind.i64.wrap (b - 1)))]) (cond (decide (0<code)) (.tuple #[(.int .i64 c),(.int .i64 (IntKind.i64.wrap (g - 1)))]) (.bool false))):=
 eU (WZ (.agg #[.bool d.long,.string d.dg,.int .i64 d.ex,.int .i64 d.sig,.string d.mo,.string d.da,.int .u8 d.m0,.int .u8 d.m1,.int .u8 d.m2,.int .i64 v,.int .i64 x,.int .i64 code,.int .i64 a,.int .i64 b,.int .i64 f,.int .i64 n,.int .i64 c,.int .i64 g])) (jO w0) (O8 w0) .nil (.cons H0 (.cons H1 (.cons H2 (.cons H3 (.cons H4 (.cons H5 (.cons H6 .nil))))))) (iD (by kernel_rfl:_=((((d.mo.toList==(⟨#[]⟩:ByteArray).toList)=true->True)/\((d.mo.toList==(⟨#[]⟩:ByteArray).toList)=false->(((decide (0<code))=true->True)/\((decide (0<code))=false->False)))))) (⟨fun h0=>trivial,fun h0=>⟨fun h1=>trivial,fun h1=>(by simp only[aI3,aEB,aEZ,aFe]at *;omega)⟩⟩)) (by kernel_rfl)
def aBB:DT:=(.node 2 (qs 4) (.v (.string ⟨#[]⟩)) (.leaf aIZ) (.node 1 qz (qi 10) DT.no (.leaf (.eP [(qi 14),aPL]))))
theorem XB(l:Value):aBB.ok tb0 l [] [(71,[(qs 1),(qi 2)],.eP [(qi 8),(qi 9)]),(44,[.agg aPG],(qi 10)),(72,[(qi 8)],(qi 11)),(72,yx6,(qi 12)),(75,[(qs 4)],(qi 13)),(74,[(qi 8),(qi 13)],(qi 14)),(74,[(qi 8),bH 1 .i64 [(qi 13),.v (.int .i64 1)]],(qi 15))] .nil 60 LG 48 [.agg aPG] []=true:=by kernel_rfl
theorem aEV(d:Dt)(v:Int)(x:Int)(code:Int)(a:Int)(b:Int)(n:Int)(c:Int)(g:Int)(w0:World)(hc:code<=0)(H0:Same w0 71 #[(.string d.dg),(.int .i64 d.ex)] (.tuple #[(.int .i64 v),(.int .i64 x)]))(H1:Same w0 44 #[(.agg #[(.bool false),(.bool d.long),(.string d.dg),(.int .i64 d.ex),(.int .i64 d.sig),(.string d.mo),(.string ⟨#[]⟩),(.int .u8 d.m0),(.int .u8 d.m1),(.int .u8 d.m2)])] (.int .i64 code))(H2:Same w0 72 #[(.int .i64 v)] (.int .i64 a))(H3:Same w0 72 #[(.int .i64 (IntKind.i64.wrap (v+1)))] (.int .i64 b))(H4:Same w0 75 #[(.string d.mo)] (.int .i64 n))(H5:Same w0 74 #[(.int .i64 v),(.int .i64 n)] (.int .i64 c))(H6:Same w0 74 #[(.int .i64 v),(.int .i64 (IntKind.i64.wrap (n+1)))] (.int .i64 g)):Same w0 48 #[(.agg #[(.bool false),(.bool d.long),(.string d.dg),(.int .i64 d.ex),(.int .i64 d.sig),(.string d.mo),(.string ⟨#[]⟩),(.int .u8 d.m0),(.int .u8 d.m1),(.int .u8 d.m2)])] (cond (d.mo.toList==(⟨#[]⟩:ByteArray).toList) (.tuple #[(.int .i64 a),(.int .i64 (IntKind.i64.wrap (b - 1)))]) (cond (decide (0<code)) (.bool false) (.tuple #[(.int .i64 c),(.int .i64 (IntKind.i64.wrap (g - 1)))]))):=
 eU (XB (.agg #[.bool d.long,.string d.dg,.int .i64 d.ex,.int .i64 d.sig,.string d.mo,.int .u8 d.m0,.int .u8 d.m1,.int .u8 d.m2,.int .i64 v,.int .i64 x,.int .i64 code,.int .i64 a,.int .i64 b,.int .i64 n,.int .i64 c,.int .i64 g])) (jO w0) (O8 w0) .nil (.cons H0 (.cons H1 (.cons H2 (.cons H3 (.cons H4 (.cons H5 (.cons H6 .nil))))))) (iD (by kernel_rfl:_=((((d.mo.toList==(⟨#[]⟩:ByteArray).toList)=true->True)/\((d.mo.toList==(⟨#[]⟩:ByteArray).toList)=false->(((decide (0<code))=true->False)/\((decide (0<code))=false->True)))))) (⟨fun h0=>trivial,fun h0=>⟨fun h1=>(by simp only[aI3,aEB,aEZ,aFe]at *;omega),fun h1=>trivial⟩⟩)) (by kernel_rfl)
def aBD:DT:=(.node 2 (qs 4) (.v (.string ⟨#[]⟩)) (.leaf aIY) (.node 1 qz (qi 11) DT.no (.node 2 (qs 5) (.v (.string ⟨#[]⟩)) (.leaf (.eP [(qi 15),aPK])) (.leaf (.eP [yx4,yx4])))))
theorem XD(l:Value):aBD.ok tb0 l [] [(71,[(qs 1),(qi 2)],.eP [(qi 9),(qi 10)]),(44,[.agg aIX],(qi 11)),(72,[(qi 9)],(qi 12)),(72,yx7,(qi 13)),(75,[(qs 4)],(qi 14)),(74,[(qi 9),(qi 14)],(qi 15)),(74,[(qi 9),bH 1 .i64 [(qi 14),.v (.int .i64 1)]],(qi 16)),(75,[(qs 5)],(qi 17))] .nil 60 LG 48 [.agg aIX] []=true:=by kernel_rfl
theorem aEX(d:Dt)(v:Int)(x:Int)(code:Int)(a:Int)(b:Int)(n:Int)(c:Int)(g:Int)(k:Int)(w0:World)(hc:code<=0)(H0:Same w0 71 #[(.string d.dg),(.int .i64 d.ex)] (.tuple #[(.int .i64 v),(.int .i64 x)]))(H1:Same w0 44 #[(.agg #[(.bool false),(.bool d.long),(.string d.dg),(.int .i64 d.ex),(.int .i64 d.sig),(.string d.mo),(.string d.da),(.int .u8 d.m0),(.int .u8 d.m1),(.int .u8 d.m2)])] (.int .i64 code))(H2:Same w0 72 #[(.int .i64 v)] (.int .i64 a))(H3:Same w0 72 #[(.int .i64 (IntKind.i64.wrap (v+1)))] (.int .i64 b))(H4:Same w0 75 #[(.string d.mo)] (.int .i64 n))(H5:Same w0 74 #[(.int .i64 v),(.int .i64 n)] (.int .i64 c))(H6:Same w0 74 #[(.int .i64 v),(.int .i64 (IntKind.i64.wrap (n+1)))] (.int .i64 g))(H7:Same w0 75 #[(.string d.da)] (.int .i64 k)):Same w0 48 #[(.agg #[(.bool false),(.bool d.long),(.string d.dg),(.int .i64 d.ex),(.int .i64 d.sig),(.string d.mo),(.string d.da),(.int .u8 d.m0),(.int .u8 d.m1),(.int .u8 d.m2)])] (cond (d.mo.toList==(⟨#[]⟩:ByteArray).toList) (.tuple #[(.int .i64 a),(.int .i64 (IntKind.i64.wrap (b - 1)))]) (cond (decide (0<code)) (.bool false) (cond (d.da.toList==(⟨#[]⟩:ByteArray).toList) (.tuple #[(.int .i64 c),(.int .i64 (IntKind.i64.wrap (g - 1)))]) (.tuple #[(.int .i64 (IntKind.i64.wrap ((IntKind.i64.wrap (c+k)) - 1))),(.int .i64 (IntKind.i64.wrap ((IntKind.i64.wrap (c+k)) - 1)))])))):=
 eU (XD (.agg #[.bool d.long,.string d.dg,.int .i64 d.ex,.int .i64 d.sig,.string d.mo,.string d.da,.int .u8 d.m0,.int .u8 d.m1,.int .u8 d.m2,.int .i64 v,.int .i64 x,.int .i64 code,.int .i64 a,.int .i64 b,.int .i64 n,.int .i64 c,.int .i64 g,.int .i64 k])) (jO w0) (O8 w0) .nil (.cons H0 (.cons H1 (.cons H2 (.cons H3 (.cons H4 (.cons H5 (.cons H6 (.cons H7 .nil)))))))) (iD (by kernel_rfl:_=((((d.mo.toList==(⟨#[]⟩:ByteArray).toList)=true->True)/\((d.mo.toList==(⟨#[]⟩:ByteArray).toList)=false->(((decide (0<code))=true->False)/\((decide (0<code))=false->(((d.da.toList==(⟨#[]⟩:ByteArray).toList)=true->True)/\((d.da.toList==(⟨#[]⟩:ByteArray).toList)=false->True)))))))) (⟨fun h0=>trivial,fun h0=>⟨fun h1=>(by simp only[aI3,aEB,aEZ,aFe]at *;omega),fun h1=>⟨fun h2=>trivial,fun h2=>trivial⟩⟩⟩)) (by kernel_rfl)
theorem aES(d:Dt)(v:Int)(x:Int)(code:Int)(a:Int)(b:Int)(w0:World) (H0:Same w0 71 #[(.string d.dg),(.int .i64 d.ex)] (.tuple #[(.int .i64 v),(.int .i64 x)]))(H1:Same w0 44 #[(.agg #[(.bool true),(.bool d.long),(.string d.dg),(.int .i64 d.ex),(.int .i64 d.sig),(.string ⟨#[]⟩),(.string d.da),(.int .u8 d.m0),(.int .u8 d.m1),(.int .u8 d.m2)])] (.int .i64 code))(H2:Same w0 72 #[(.int .i64 (IntKind.i64.wrap (0 - v)))] (.int .i64 a))(H3:Same w0 72 #[(.int .i64 (IntKind.i64.wrap ((IntKind.i64.wrap (0 - v))+1)))] (.int .i64 b)):Same w0 48 #[(.agg #[(.bool true),(.bool d.long),(.string d.dg),(.int .i64 d.ex),(.int .i64 d.sig),(.string ⟨#[]⟩),(.string d.da),(.int .u8 d.m0),(.int .u8 d.m1),(.int .u8 d.m2)])] (.tuple #[(.int .i64 a),(.int .i64 (IntKind.i64.wrap (b - 1)))]):=
 zc (.leaf aIZ) [] [(71,[(qs 1),(qi 2)],.eP [(qi 8),(qi 9)]),(44,[.agg aPF],(qi 10)),(72,[bH 2 .i64 [qz,(qi 8)]],(qi 11)),(72,[bH 1 .i64 aPJ],(qi 12))] [.agg aPF] (.agg #[.bool d.long,.string d.dg,.int .i64 d.ex,.int .i64 d.sig,.string d.da,.int .u8 d.m0,.int .u8 d.m1,.int .u8 d.m2,.int .i64 v,.int .i64 x,.int .i64 code,.int .i64 a,.int .i64 b]) .nil (.cons H0 (.cons H1 (.cons H2 (.cons H3 .nil))))
def aBA:DT:=(.node 2 (qs 4) (.v (.string ⟨#[]⟩)) (.leaf aIY) (.node 1 qz (qi 11) (.leaf (.eP [(qi 16),aPM])) DT.no))
theorem XA(l:Value):aBA.ok tb0 l [] [(71,[(qs 1),(qi 2)],.eP [(qi 9),(qi 10)]),(44,[.agg aIW],(qi 11)),(72,[bH 2 .i64 [qz,(qi 9)]],(qi 12)),(72,[bH 1 .i64 aPI],(qi 13)),(73,[(qi 11)],.eP [(qi 14),(qi 15)]),(74,[bH 2 .i64 [qz,(qi 9)],(qi 14)],(qi 16)),(74,[bH 2 .i64 [qz,(qi 9)],bH 1 .i64 [(qi 14),(qi 15)]],(qi 17))] .nil 60 LG 48 [.agg aIW] []=true:=by kernel_rfl
theorem aEU(d:Dt)(v:Int)(x:Int)(code:Int)(a:Int)(b:Int)(f:Int)(n:Int)(c:Int)(g:Int)(w0:World)(hc:1<=code)(H0:Same w0 71 #[(.string d.dg),(.int .i64 d.ex)] (.tuple #[(.int .i64 v),(.int .i64 x)]))(H1:Same w0 44 #[(.agg #[(.bool true),(.bool d.long),(.string d.dg),(.int .i64 d.ex),(.int .i64 d.sig),(.string d.mo),(.string d.da),(.int .u8 d.m0),(.int .u8 d.m1),(.int .u8 d.m2)])] (.int .i64 code))(H2:Same w0 72 #[(.int .i64 (IntKind.i64.wrap (0 - v)))] (.int .i64 a))(H3:Same w0 72 #[(.int .i64 (IntKind.i64.wrap ((IntKind.i64.wrap (0 - v))+1)))] (.int .i64 b))(H4:Same w0 73 #[(.int .i64 code)] (.tuple #[(.int .i64 f),(.int .i64 n)]))(H5:Same w0 74 #[(.int .i64 (IntKind.i64.wrap (0 - v))),(.int .i64 f)] (.int .i64 c))(H6:Same w0 74 #[(.int .i64 (IntKind.i64.wrap (0 - v))),(.int .i64 (IntKind.i64.wrap (f+n)))] (.int .i64 g)):Same w0 48 #[(.agg #[(.bool true),(.bool d.long),(.string d.dg),(.int .i64 d.ex),(.int .i64 d.sig),(.string d.mo),(.string d.da),(.int .u8 d.m0),(.int .u8 d.m1),(.int .u8 d.m2)])] (cond (d.mo.toList==(⟨#[]⟩:ByteArray).toList) (.tuple #[(.int .i64 a),(.int .i64 (IntKind.i64.wrap (b - 1)))]) (cond (decide (0<code)) (.tuple #[(.int .i64 c),(.int .i64 (IntKind.i64.wrap (g - 1)))]) (.bool false))):=
 eU (XA (.agg #[.bool d.long,.string d.dg,.int .i64 d.ex,.int .i64 d.sig,.string d.mo,.string d.da,.int .u8 d.m0,.int .u8 d.m1,.int .u8 d.m2,.int .i64 v,.int .i64 x,.int .i64 code,.int .i64 a,.int .i64 b,.int .i64 f,.int .i64 n,.int .i64 c,.int .i64 g])) (jO w0) (O8 w0) .nil (.cons H0 (.cons H1 (.cons H2 (.cons H3 (.cons H4 (.cons H5 (.cons H6 .nil))))))) (iD (by kernel_rfl:_=((((d.mo.toList==(⟨#[]⟩:ByteArray).toList)=true->True)/\((d.mo.toList==(⟨#[]⟩:ByteArray).toList)=false->(((decide (0<code))=true->True)/\((decide (0<code))=false->False)))))) (⟨fun h0=>trivial,fun h0=>⟨fun h1=>trivial,fun h1=>(by simp only[aI3,aEB,aEZ,aFe]at *;omega)⟩⟩)) (by kernel_rfl)
def aBC:DT:=(.node 2 (qs 4) (.v (.string ⟨#[]⟩)) (.leaf aIZ) (.node 1 qz (qi 10) DT.no (.leaf (.eP [(qi 14),aPL]))))
theorem XC(l:Value):aBC.ok tb0 l [] [(71,[(qs 1),(qi 2)],.eP [(qi 8),(qi 9)]),(44,[.agg aPE],(qi 10)),(72,[bH 2 .i64 [qz,(qi 8)]],(qi 11)),(72,[bH 1 .i64 aPJ],(qi 12)),(75,[(qs 4)],(qi 13)),(74,[bH 2 .i64 [qz,(qi 8)],(qi 13)],(qi 14)),(74,[bH 2 .i64 [qz,(qi 8)],bH 1 .i64 [(qi 13),.v (.int .i64 1)]],(qi 15))] .nil 60 LG 48 [.agg aPE] []=true:=by kernel_rfl
theorem aEW(d:Dt)(v:Int)(x:Int)(code:Int)(a:Int)(b:Int)(n:Int)(c:Int)(g:Int)(w0:World)(hc:code<=0)(H0:Same w0 71 #[(.string d.dg),(.int .i64 d.ex)] (.tuple #[(.int .i64 v),(.int .i64 x)]))(H1:Same w0 44 #[(.agg #[(.bool true),(.bool d.long),(.string d.dg),(.int .i64 d.ex),(.int .i64 d.sig),(.string d.mo),(.string ⟨#[]⟩),(.int .u8 d.m0),(.int .u8 d.m1),(.int .u8 d.m2)])] (.int .i64 code))(H2:Same w0 72 #[(.int .i64 (IntKind.i64.wrap (0 - v)))] (.int .i64 a))(H3:Same w0 72 #[(.int .i64 (IntKind.i64.wrap ((IntKind.i64.wrap (0 - v))+1)))] (.int .i64 b))(H4:Same w0 75 #[(.string d.mo)] (.int .i64 n))(H5:Same w0 74 #[(.int .i64 (IntKind.i64.wrap (0 - v))),(.int .i64 n)] (.int .i64 c))(H6:Same w0 74 #[(.int .i64 (IntKind.i64.wrap (0 - v))),(.int .i64 (IntKind.i64.wrap (n+1)))] (.int .i64 g)):Same w0 48 #[(.agg #[(.bool true),(.bool d.long),(.string d.dg),(.int .i64 d.ex),(.int .i64 d.sig),(.string d.mo),(.string ⟨#[]⟩),(.int .u8 d.m0),(.int .u8 d.m1),(.int .u8 d.m2)])] (cond (d.mo.toList==(⟨#[]⟩:ByteArray).toList) (.tuple #[(.int .i64 a),(.int .i64 (IntKind.i64.wrap (b - 1)))]) (cond (decide (0<code)) (.bool false) (.tuple #[(.int .i64 c),(.int .i64 (IntKind.i64.wrap (g - 1)))]))):=
 eU (XC (.agg #[.bool d.long,.string d.dg,.int .i64 d.ex,.int .i64 d.sig,.string d.mo,.int .u8 d.m0,.int .u8 d.m1,.int .u8 d.m2,.int .i64 v,.int .i64 x,.int .i64 code,.int .i64 a,.int .i64 b,.int .i64 n,.int .i64 c,.int .i64 g])) (jO w0) (O8 w0) .nil (.cons H0 (.cons H1 (.cons H2 (.cons H3 (.cons H4 (.cons H5 (.cons H6 .nil))))))) (iD (by kernel_rfl:_=((((d.mo.toList==(⟨#[]⟩:ByteArray).toList)=true->True)/\((d.mo.toList==(⟨#[]⟩:ByteArray).toList)=false->(((decide (0<code))=true->False)/\((decide (0<code))=false->True)))))) (⟨fun h0=>trivial,fun h0=>⟨fun h1=>(by simp only[aI3,aEB,aEZ,aFe]at *;omega),fun h1=>trivial⟩⟩)) (by kernel_rfl)
def aBE:DT:=(.node 2 (qs 4) (.v (.string ⟨#[]⟩)) (.leaf aIY) (.node 1 qz (qi 11) DT.no (.node 2 (qs 5) (.v (.string ⟨#[]⟩)) (.leaf (.eP [(qi 15),aPK])) (.leaf (.eP [yx4,yx4])))))
theorem XE(l:Value):aBE.ok tb0 l [] [(71,[(qs 1),(qi 2)],.eP [(qi 9),(qi 10)]),(44,[.agg aIW],(qi 11)),(72,[bH 2 .i64 [qz,(qi 9)]],(qi 12)),(72,[bH 1 .i64 aPI],(qi 13)),(75,[(qs 4)],(qi 14)),(74,[bH 2 .i64 [qz,(qi 9)],(qi 14)],(qi 15)),(74,[bH 2 .i64 [qz,(qi 9)],bH 1 .i64 [(qi 14),.v (.int .i64 1)]],(qi 16)),(75,[(qs 5)],(qi 17))] .nil 60 LG 48 [.agg aIW] []=true:=by kernel_rfl
theorem aEY(d:Dt)(v:Int)(x:Int)(code:Int)(a:Int)(b:Int)(n:Int)(c:Int)(g:Int)(k:Int)(w0:World)(hc:code<=0)(H0:Same w0 71 #[(.string d.dg),(.int .i64 d.ex)] (.tuple #[(.int .i64 v),(.int .i64 x)]))(H1:Same w0 44 #[(.agg #[(.bool true),(.bool d.long),(.string d.dg),(.int .i64 d.ex),(.int .i64 d.sig),(.string d.mo),(.string d.da),(.int .u8 d.m0),(.int .u8 d.m1),(.int .u8 d.m2)])] (.int .i64 code))(H2:Same w0 72 #[(.int .i64 (IntKind.i64.wrap (0 - v)))] (.int .i64 a))(H3:Same w0 72 #[(.int .i64 (IntKind.i64.wrap ((IntKind.i64.wrap (0 - v))+1)))] (.int .i64 b))(H4:Same w0 75 #[(.string d.mo)] (.int .i64 n))(H5:Same w0 74 #[(.int .i64 (IntKind.i64.wrap (0 - v))),(.int .i64 n)] (.int .i64 c))(H6:Same w0 74 #[(.int .i64 (IntKind.i64.wrap (0 - v))),(.int .i64 (IntKind.i64.wrap (n+1)))] (.int .i64 g))(H7:Same w0 75 #[(.string d.da)] (.int .i64 k)):Same w0 48 #[(.agg #[(.bool true),(.bool d.long),(.string d.dg),(.int .i64 d.ex),(.int .i64 d.sig),(.string d.mo),(.string d.da),(.int .u8 d.m0),(.int .u8 d.m1),(.int .u8 d.m2)])] (cond (d.mo.toList==(⟨#[]⟩:ByteArray).toList) (.tuple #[(.int .i64 a),(.int .i64 (IntKind.i64.wrap (b - 1)))]) (cond (decide (0<code)) (.bool false) (cond (d.da.toList==(⟨#[]⟩:ByteArray).toList) (.tuple #[(.int .i64 c),(.int .i64 (IntKind.i64.wrap (g - 1)))]) (.tuple #[(.int .i64 (IntKind.i64.wrap ((IntKind.i64.wrap (c+k)) - 1))),(.int .i64 (IntKind.i64.wrap ((IntKind.i64.wrap (c+k)) - 1)))])))):=
 eU (XE (.agg #[.bool d.long,.string d.dg,.int .i64 d.ex,.int .i64 d.sig,.string d.mo,.string d.da,.int .u8 d.m0,.int .u8 d.m1,.int .u8 d.m2,.int .i64 v,.int .i64 x,.int .i64 code,.int .i64 a,.int .i64 b,.int .i64 n,.int .i64 c,.int .i64 g,.int .i64 k])) (jO w0) (O8 w0) .nil (.cons H0 (.cons H1 (.cons H2 (.cons H3 (.cons H4 (.cons H5 (.cons H6 (.cons H7 .nil)))))))) (iD (by kernel_rfl:_=((((d.mo.toList==(⟨#[]⟩:ByteArray).toList)=true->True)/\((d.mo.toList==(⟨#[]⟩:ByteArray).toList)=false->(((decide (0<code))=true->False)/\((decide (0<code))=false->(((d.da.toList==(⟨#[]⟩:ByteArray).toList)=true->True)/\((d.da.toList==(⟨#[]⟩:ByteArray).toList)=false->True)))))))) (⟨fun h0=>trivial,fun h0=>⟨fun h1=>(by simp only[aI3,aEB,aEZ,aFe]at *;omega),fun h1=>⟨fun h2=>trivial,fun h2=>trivial⟩⟩⟩)) (by kernel_rfl)
end
section
theorem FT{s t:ByteArray}(h:s.data.toList=t.data.toList):s=t:=by
 cases s with|mk a=>cases t with|mk b=>exact aPa _ (aPm h)
theorem Z7(s t:ByteArray):(s.toList==t.toList)=decide (s=t):=by
 rw[aUF,aUF,aPg,aI3,aNF];exact⟨fun h=>FT h,fun h=>by rw[h]⟩
def twoS(n:Nat):ByteArray:=⟨#[UInt8.ofNat (48+n / 10),UInt8.ofNat (48+n % 10)]⟩
theorem aE1{n:Nat}(h:n<=99):fE (twoS n) 0=48+(n:Int) / 10:=by
 show((UInt8.ofNat (48+n / 10)).toNat:Int)=_;rw[aPs];omega
theorem aE0{n:Nat}(h:n<=99):fE (twoS n) 1=48+(n:Int) % 10:=by
 show((UInt8.ofNat (48+n % 10)).toNat:Int)=_;rw[aPs];omega
theorem aJg{s:ByteArray}{n:Nat}(h:n<=99):s=twoS n↔(s.size=2/\fE s 0=48+(n:Int) / 10/\fE s 1=48+(n:Int) % 10):=by
 constructor
 . rintro rfl;exact⟨rfl,aE1 h,aE0 h⟩
 rintro⟨h2,h0,h1⟩;obtain⟨a,b,e,e0,e1⟩:=sO h2;apply FT;rw[e];show[a,b]=[_,_];have ha:a=UInt8.ofNat (48+n / 10):=by apply UInt8.toNat.inj;rw[aPs];omega
 have hb:b=UInt8.ofNat (48+n % 10):=by apply UInt8.toNat.inj;rw[aPs];omega
 rw[ha,hb]
theorem VF{s:ByteArray}{n:Nat}(h0:21<=n)(h1:n<=41):s=twoS n↔dD s=n:=by
 rw[aJg (by omega)];unfold dD;constructor
 . rintro⟨a,b,c⟩;rw[aEo (by omega)];omega
 intro h;split at h
 . omega
 omega
theorem aJf: ∀n:Nat,n<100->(DV.extract (n / 10) (n / 10+1)++DV.extract (n % 10) (n % 10+1))=twoS n:=by decide
def YF(neg long:Bool)(D X Z sz b0 ex sig m R:Int):Prop:=
 (D+X≠sz\/sig<0->R=0)/\
 (D+X=sz->0<=sig->long=false->(sz≠4\/ex≠0\/(neg=true/\Z=4)\/4<sig\/(0<sig/\0<X))->R=0)/\
 (D+X=sz->0<=sig->long=false->sz=4->ex=0->(neg=true->Z≠4)->sig<=4->(sig<=0\/X<=0)->R=1)/\
 (D+X=sz->0<=sig->long=true->(0<X\/D<1\/17<D\/b0=48\/ex<0\/16<ex\/(ex=0/\D<5)\/D+ex<sig)->R=0)/\
 (D+X=sz->0<=sig->long=true->X<=0->1<=D->D<=17->b0≠48->0<=ex->ex<=16->(ex≠0\/5<=D)->sig<=D+ex->(m<=10000000000000000->R=1)/\(10000000000000000<m->R=0))
theorem aYZ(neg long:Bool)(s:ByteArray)(ex sig:Int):YF neg long (nZ 48 57 s) (nZ 88 88 s) (nZ 48 48 s) s.size (fE s 0) ex sig (jJ s ex) (if zH neg long s ex sig then 1 else 0):=by
 have hd:=YN s;have hx:=aEP s;have hz:=aPx s;have hp:=D5 88 88 s;have hdd:aYP dW s=true->(hasB 88 s=false↔aYP bY s=true):=fun h=>lD h;have hdx:aYP bY s=true->aYP dW s=true:=fun h=>tZ h;generalize nZ 48 57 s=D at *;generalize nZ 88 88 s=X at *;generalize nZ 48 48 s=Z at *;have no: ∀ {b:Bool},b=false->(if b then(1:Int)else 0)=0:=fun h=>by rw[h];rfl
 have yes: ∀ {b:Bool},b=true->(if b then(1:Int)else 0)=1:=fun h=>by rw[h];rfl
 refine⟨fun h=>no ?_,fun h1 h2 h3 h=>no ?_,fun h1 h2 h3 h4 h5 h6 h7 h8=>yes ?_,fun h1 h2 h3 h=>no ?_,fun h1 h2 h3 h4 h5 h6 h7 h8 h9 h10 h11=>?_⟩
 . rw[aNt];intro hk;cases long
   . obtain⟨a1,a2,a3,a4,a5,a6,a7⟩:=kH hk;have:=hd.2 a2;omega
   obtain⟨a1,a2,a3,a4,a5,a6,a7,a8,a9⟩:=kN hk;have:=hd.2 (hdx a3);omega
 . subst h3;rw[aNt];intro hk;obtain⟨a1,a2,a3,a4,a5,a6,a7⟩:=kH hk;rcases h with h|h|⟨h,g⟩|h|⟨h,g⟩
   . omega
   . omega
   . have:=(hz a1).1 g;rw[a4 h]at this;cases this
   . omega
   have:=hx.1 g;rw[a5 (by omega)]at this;cases this
 . subst h3;have e4:s.size=4:=by omega
   unfold zH iT;rw[aDx e4,hd.1 h1,aDx h5,aDx h2,aDx (show sig<=s.size+ex by omega)];have n1:(neg&&aYP U0 s)=false:=by
    cases hn:neg
    . rfl
    have:=h6 hn;cases ha:aYP U0 s
    . rfl
    exact absurd ((hz e4).2 ha) this
   have n2:(!decide (sig=0)&&hasB 88 s)=false:=by
    rcases h8 with h|h
    . rw[aDx (show sig=0 by omega)];rfl
    cases ha:hasB 88 s
    . simp
    have:=hx.2 ha;omega
   rw[n1,n2];rfl
 . subst h3;rw[aNt];intro hk;obtain⟨a1,a2,a3,a4,a5,a6,a7,a8,a9⟩:=kN hk;have hX:hasB 88 s=false:=(hdd (hdx a3)).2 a3;have nX: ¬ 0<X:=fun c=>by rw[hx.1 c]at hX;cases hX
   have:=hd.2 (hdx a3);have e5: ¬(ex=0/\s.size<5):=by
    rintro⟨c1,c2⟩;unfold zH iO at hk;simp[c1,c2]at hk
   omega
 subst h3;have hX:hasB 88 s=false:=by
  cases ha:hasB 88 s
  . rfl
  have:=hx.2 ha;omega
 have ax:=hd.1 h1;have ad:=(hdd ax).1 hX;have:zH neg true s ex sig=decide (jJ s ex<=10000000000000000):=by
  unfold zH iO;have q:(decide (ex=0)&&decide (s.size<5))=false:=by
   rw[aNt];intro c;simp at c;omega
  rw[q,ad];simp[h7,h8,h9,h2,show 1<=s.size by omega,show s.size<=17 by omega,show sig<=s.size+ex by omega]
 rw[this];refine⟨fun c=>by rw[aDx c];rfl,fun c=>by rw[aBW (by omega)];rfl⟩
end
section
open Go.RowKit Go.Lib
theorem I5(s:ByteArray)(a b:Int)(w:World)(hs:s.size<=maxLen):
 Calls prog 111 #[.string s,.int .u8 a,.int .u8 b] w fun r w'=>r=.returned (.int .i64 (nZ a b s))/\w=w':=by
 unfold maxLen at hs;unfold nZ;go_enter func111,ntmps111
 go_wp2
 go_loop [7,8] (fun n i=> ∃k:Nat,k<=s.size/\i=.int .i64 k/\n=.int .i64 (rD a b (s.data.toList.take k))) (fun _ i=>s.size - (intOf i).toNat)
 case atStart=>exact⟨0,aLp _,rfl,rfl⟩
 case round=>
  obtain⟨k,hk,rfl,rfl⟩:=hrel;have hd:=JH a b (s.data.toList.take k);have hl:(s.data.toList.take k).length<=k:=List.length_take_le _ _;by_cases hlt:k<s.size
  . have hsn:=aEr a b (s.data.toList.take k) s[k];have hts:=take_snoc s k hlt;have HS:Hid (rD a b (s.data.toList.take (k+1))=rD a b (s.data.toList.take k)+if a<=(s[k].toNat:Int)/\(s[k].toNat:Int)<=b then 1 else 0):=aAC (by rw[hts];exact hsn);clear hsn hts
    go_wp2
    all_goals
     go_round
     case rel=>exact⟨k+1,by omega,by go_num,by rw[HS.out];first|rw[aEo ⟨‹_›,‹_›⟩]|(rw[aEg (by omega)];go_num)⟩
     case measure=>simp[intOf];omega
  go_wp2
  go_ret;exact⟨ri (by rw[aSY (by simp;omega)]),rfl⟩
theorem GH(neg long:Bool)(s:ByteArray)(ex sig:Int)(w:World)(hs:s.size<=maxLen):
 Calls prog 196 #[.agg #[.bool neg,.bool long,.string s,.int .i64 ex,.int .i64 sig]] w fun r w'=>r=.returned (.int .i64 (if hasB 88 s then 1 else 0))/\Below w.heap.size w w':=by
 have HH:=fun w=>I5 s 88 88 w hs;have hx:=aEP s;have hp:=(D5 88 88 s).1;obtain⟨R,hR⟩: ∃R:Int,R=if hasB 88 s then 1 else 0:=⟨_,rfl⟩
 rw[<-hR];have hR2:(0<nZ 88 88 s->R=1)/\(nZ 88 88 s<=0->R=0):=by
  refine⟨fun h=>by rw[hR,aEo (hx.1 h)],fun h=>by rw[hR,aEg (fun c=>by have:=hx.2 c;omega)]⟩
 generalize nZ 88 88 s=n at *;have HX:=aAC hR2;replace HH:=aAC HH;clear hx hR hR2;go_enter func196,ntmps196
 go_wp2_with (go_at_call 111;with_reducible refine(HH.out _).mono ?_;rintro _ w' ⟨rfl,rfl⟩)
 all_goals go_ret
 all_goals refine⟨ri ?_,ba (aDA _ _) _⟩
 all_goals have:=HX.out
 all_goals omega
def rY(m:Int):Int × Int:=if m<=10000000000000000 then(m,1)else(0,0)
theorem rX (s:ByteArray) (e:Nat) (w:World) (hs:s.size<=1000) (he:e<=1000) (hd:aYP bY s=true):
 Calls prog 71 #[.string s,.int .i64 e] w fun r w'=>r=.returned (.tuple #[.int .i64 (rY (jJ s e)).1,.int .i64 (rY (jJ s e)).2])/\w=w':=by
 have HD:=aAC hd;clear hd;go_enter func71,ntmps71
 go_wp2
 go_loop [6,7] (fun n i=> ∃k:Nat,k<=s.size+e/\vV s k<=10000000000000000/\i=.int .i64 k/\n=.int .i64 (vV s k)) (fun _ i=>s.size+e - (intOf i).toNat)
 case atStart=>exact⟨0,aLp _,by rw[PW];omega,rfl,by rw[PW]⟩
 case round=>
  obtain⟨k,hk,hm,rfl,rfl⟩:=hrel;have hp:=XQ s k;by_cases hlt:k<s.size+e
  . by_cases hc:k<s.size
    . have hda:=aBk HD.out k hc;have HS:=aAC (XR HD.out k hc);obtain⟨d0,d1⟩:=hda
      go_wp2
      . go_ret2;have h1:=HS.out;have h2:=EY HD.out (k+1) (s.size+e - (k+1));rw[show k+1+(s.size+e - (k+1))=s.size+e by omega,LV]at h2;refine⟨?_,rfl⟩;unfold rY;rw[aEg (by omega)]
        rfl
      go_round
      case rel=>exact⟨k+1,by omega,by rw[HS.out];omega,by go_num,by rw[HS.out]⟩
      case measure=>simp[intOf];omega
    have HS:=aAC (XP s k (by omega))
    go_wp2
    . go_ret2;have h1:=HS.out;have h2:=EY HD.out (k+1) (s.size+e - (k+1));rw[show k+1+(s.size+e - (k+1))=s.size+e by omega,LV]at h2;refine⟨?_,rfl⟩;unfold rY;rw[aEg (by omega)]
      rfl
    go_round
    case rel=>exact⟨k+1,by omega,by rw[HS.out];omega,by go_num,by rw[HS.out]⟩
    case measure=>simp[intOf];omega
  obtain rfl:k=s.size+e:=by omega
  rw[LV]at hm hp ⊢
  go_wp2
  go_ret2;refine⟨?_,rfl⟩;unfold rY;rw[aEo hm]
  rfl
theorem F9 (neg long:Bool) (s:ByteArray) (ex sig:Int) (w:World) (hs:s.size<=1000) (s0: -9223372036854775808<=sig) (s1:sig<9223372036854775808):
 Calls prog 68 #[yv neg long s ex sig] w fun r w'=>r=.returned (.int .i64 (if zH neg long s ex sig then 1 else 0))/\Below w.heap.size w w':=by
 have hF:=aYZ neg long s ex sig;have hY:=Ym.new neg long s ex sig w 27;have dd:=D5 48 57 s;have dx:=D5 88 88 s;have dz:=D5 48 48 s;have HD:=fun w=>I5 s 48 57 w (by unfold maxLen;omega);have HX:=fun w=>I5 s 88 88 w (by unfold maxLen;omega);have HZ:=fun w=>I5 s 48 48 w (by unfold maxLen;omega);have HM: ∀(e:Nat) w,nZ 48 57 s+nZ 88 88 s=s.size->nZ 88 88 s<=0->e<=1000->Calls prog 71 #[.string s,.int .i64 e] w fun r w'=>r=.returned (.tuple #[.int .i64 (rY (jJ s e)).1,.int .i64 (rY (jJ s e)).2])/\w=w':=fun e w h1 h2 h3=>
  rX s e w hs h3 (by
   have ax:=(YN s).1 h1;refine(lD ax).1 ?_;cases ha:hasB 88 s
   . rfl
   have:=(aEP s).2 ha;omega)
 have hl0:1<=nZ 48 57 s->0<s.size:=fun h=>by omega
 have hb0: ∀h:0<s.size,((s[0]'h).toNat:Int)=fE s 0:=fun h=>(dJ s 0 h).symm;generalize (if zH neg long s ex sig then(1:Int)else 0)=R at *;generalize nZ 48 57 s=D at *;generalize nZ 88 88 s=X at *;generalize nZ 48 48 s=Z at *;generalize fE s 0=b0 at *;replace HD:=aAC HD;replace HX:=aAC HX;replace HZ:=aAC HZ;replace HM:=aAC HM;unfold YF at hF;unfold yv;have HB0:=aAC hb0;clear hb0;cases long
 . have HF:Hid _:=aAC hF;clear hF HM;go_enter func68,ntmps68;go_upto_region 1 with(fail);generalize w.alloc (.cells #[.bool neg,.bool false,.string s,.int .i64 ex,.int .i64 sig] 27)=W0 at hY ⊢;obtain⟨q0,q1,q2,q3,q4,qB⟩:=id hY
   go_cut [3,4] (fun s3 s4 wx=>s3=.int .i64 D/\s4=.int .i64 X/\Ym w.heap.size neg false s ex sig w wx)
   case first=>
    go_region_with (go_at_call 111;first|(with_reducible refine(HD.out _).mono ?_;rintro _ w' ⟨rfl,rfl⟩)|(with_reducible refine(HX.out _).mono ?_;rintro _ w' ⟨rfl,rfl⟩))
    all_goals (go_wp2_with fail)
    all_goals (go_meet;exact⟨rfl,rfl,by first|exact hY|exact hY.drew'|exact hY.drew'.drew'⟩)
   case rest=>
    obtain⟨rfl,rfl,hY⟩:=hcut;clear q0 q1 q2 q3 q4 qB;obtain⟨q0,q1,q2,q3,q4,qB⟩:=id hY;cases neg
    all_goals
     go_wp2_with (go_at_call 111;with_reducible refine(HZ.out _).mono ?_;rintro _ w' ⟨rfl,rfl⟩)
     all_goals go_ret
     all_goals refine⟨ri ?_,hY.below⟩
     all_goals have hF:=HF.out
     all_goals simp only[aUq,reduceCtorEq,aUd,aUp,aUo,aWG,aXd,aUO,aWF,ne_eq]at hF
     all_goals try simp only[aI3]at *
     all_goals omega
 have HF:Hid _:=aAC hF;clear hF HZ;go_enter func68,ntmps68;go_upto_region 1 with(fail);generalize w.alloc (.cells #[.bool neg,.bool true,.string s,.int .i64 ex,.int .i64 sig] 27)=W0 at hY ⊢;obtain⟨q0,q1,q2,q3,q4,qB⟩:=id hY
 go_cut [3,4] (fun s3 s4 wx=>s3=.int .i64 D/\s4=.int .i64 X/\Ym w.heap.size neg true s ex sig w wx)
 case first=>
  go_region_with (go_at_call 111;first|(with_reducible refine(HD.out _).mono ?_;rintro _ w' ⟨rfl,rfl⟩)|(with_reducible refine(HX.out _).mono ?_;rintro _ w' ⟨rfl,rfl⟩))
  all_goals (go_wp2_with fail)
  all_goals (go_meet;exact⟨rfl,rfl,by first|exact hY|exact hY.drew'|exact hY.drew'.drew'⟩)
 case rest=>
  obtain⟨rfl,rfl,hY⟩:=hcut;clear q0 q1 q2 q3 q4 qB;obtain⟨q0,q1,q2,q3,q4,qB⟩:=id hY;by_cases l0:0<s.size
  case neg=>
   clear HM
   go_wp2_with fail
   all_goals go_ret
   all_goals refine⟨ri ?_,hY.below⟩
   all_goals have hF:=HF.out
   all_goals simp only[aUq,reduceCtorEq,aUd,aUp,aUo,aWG,aXd,aUO,aWF,ne_eq]at hF
   all_goals try simp only[aI3]at *
   all_goals omega
  by_cases x0:0<=ex
  case neg=>
   clear HM
   go_wp2_with fail
   all_goals go_ret
   all_goals refine⟨ri ?_,hY.below⟩
   all_goals have hF:=HF.out
   all_goals have hB:=HB0.out l0
   all_goals simp only[aUq,reduceCtorEq,aUd,aUp,aUo,aWG,aXd,aUO,aWF,ne_eq]at hF
   all_goals try simp only[aI3]at *
   all_goals omega
  obtain⟨e,rfl⟩: ∃e:Nat,ex=e:=⟨ex.toNat,by omega⟩;have HM2:=aAC (fun w h1 h2 h3=>HM.out e w h1 h2 h3);clear HM;generalize jJ s e=m at *;rcases aXK e with rfl|e0
  . have HM3:Hid (∀w,D+X=s.size->X<=0->Calls prog 71 #[.string s,.int .i64 0] w fun r w'=>r=.returned (.tuple #[.int .i64 (rY m).1,.int .i64 (rY m).2])/\w=w'):=aAC (fun w h1 h2=>HM2.out w h1 h2 (by omega));clear HM2;by_cases hm:m<=10000000000000000
    . rw[show rY m=(m,1) by unfold rY;rw[aEo hm]]at HM3
      go_wp2_with (go_at_call 71;with_reducible refine(HM3.out _ (by omega) (by omega)).mono ?_;rintro _ w' ⟨rfl,rfl⟩)
      all_goals go_ret
      all_goals refine⟨ri ?_,hY.below⟩
      all_goals have hF:=HF.out
      all_goals have hB:=HB0.out l0
      all_goals simp only[aUq,reduceCtorEq,aUd,aUp,aUo,aWG,aXd,aUO,aWF,ne_eq]at hF
      all_goals try simp only[aI3]at *
      all_goals omega
    rw[show rY m=(0,0) by unfold rY;rw[aEg hm]]at HM3
    go_wp2_with (go_at_call 71;with_reducible refine(HM3.out _ (by omega) (by omega)).mono ?_;rintro _ w' ⟨rfl,rfl⟩)
    all_goals go_ret
    all_goals refine⟨ri ?_,hY.below⟩
    all_goals have hF:=HF.out
    all_goals have hB:=HB0.out l0
    all_goals simp only[aUq,reduceCtorEq,aUd,aUp,aUo,aWG,aXd,aUO,aWF,ne_eq]at hF
    all_goals try simp only[aI3]at *
    all_goals omega
  have e1: ¬(e:Int)=0:=by omega
  by_cases hm:m<=10000000000000000
  . rw[show rY m=(m,1) by unfold rY;rw[aEo hm]]at HM2
    go_wp2_with (go_at_call 71;with_reducible refine(HM2.out _ (by omega) (by omega) (by omega)).mono ?_;rintro _ w' ⟨rfl,rfl⟩)
    all_goals go_ret
    all_goals refine⟨ri ?_,hY.below⟩
    all_goals have hF:=HF.out
    all_goals have hB:=HB0.out l0
    all_goals simp only[aUq,reduceCtorEq,aUd,aUp,aUo,aWG,aXd,aUO,aWF,ne_eq]at hF
    all_goals try simp only[aI3]at *
    all_goals omega
  rw[show rY m=(0,0) by unfold rY;rw[aEg hm]]at HM2
  go_wp2_with (go_at_call 71;with_reducible refine(HM2.out _ (by omega) (by omega) (by omega)).mono ?_;rintro _ w' ⟨rfl,rfl⟩)
  all_goals go_ret
  all_goals refine⟨ri ?_,hY.below⟩
  all_goals have hF:=HF.out
  all_goals have hB:=HB0.out l0
  all_goals simp only[aUq,reduceCtorEq,aUd,aUp,aUo,aWG,aXd,aUO,aWF,ne_eq]at hF
  all_goals try simp only[aI3]at *
  all_goals omega
theorem aB3{d:Dt}(hy:d.dg.size<=1000)(hk:d.U7=true)(hm:d.mask=false): ∀w,Calls prog 71 #[.string d.dg,.int .i64 d.ex] w fun r w'=>r=.returned (.tuple #[.int .i64 d.mag,.int .i64 1])/\w=w':=by
 intro w;obtain⟨e,he,hle,hd,hl⟩: ∃e:Nat,d.ex=e/\e<=16/\aYP bY d.dg=true/\d.mag<=10000000000000000:=by
  have hk':zH d.neg d.long d.dg d.ex d.sig=true:=hk;cases hl:d.long
  . rw[hl]at hk';obtain⟨a1,a2,a3,a4,a5,a6,a7⟩:=kH hk';have hd:=(lD a2).1 hm;refine⟨0,a3,by omega,hd,?_⟩;unfold Dt.mag jJ;rw[a3];have:=uD hd a1;have e:p10 (Int.toNat 0)=1:=rfl;rw[e];omega
  rw[hl]at hk';obtain⟨a1,a2,a3,a4,a5,a6,a7,a8,a9⟩:=kN hk';exact⟨d.ex.toNat,by omega,by omega,a3,a7⟩
 have:=rX d.dg e w hy (by omega) hd;rw[he];have e2:rY (jJ d.dg e)=(d.mag,1):=by
  unfold rY;rw[show jJ d.dg e=d.mag by unfold Dt.mag;rw[he],aEo hl]
 rw[e2]at this;exact this
theorem rs{a b:ByteArray}(h:a=b):Ending.returned (.string a)=.returned (.string b):=by rw[h]
theorem CG(n:Nat)(w:World)(h:n<=99):
 Calls prog 69 #[.int .i64 n] w fun r w'=>r=.returned (.string (twoS n))/\Below w.heap.size w w':=by
 have HT:=aAC (aJf n (by omega));unfold DV at HT;go_enter func69,ntmps69
 go_wp2
 go_quiet (fail)
 go_wp2
 all_goals go_ret
 all_goals exact⟨rs HT.out,below_drewN (aDA _ _) _⟩
theorem wQ(s:ByteArray)(n:Nat)(w:World)(h:n<=99):
 Calls prog 197 #[.string s,.int .i64 n] w fun r w'=>r=.returned (.int .i64 (if kF s n then 1 else 0))/\Below w.heap.size w w':=by
 have HT:=aAC (fun w=>CG n w h);obtain⟨R,hR⟩: ∃R:Int,R=if kF s n then 1 else 0:=⟨_,rfl⟩
 rw[<-hR];have hRF:(s.size≠2->R=0)/\(s.size=2->(fE s 0=88\/fE s 0=48+(n:Int) / 10)->(fE s 1=88\/fE s 1=48+(n:Int) % 10)->R=1)/\(s.size=2-> ¬(fE s 0=88\/fE s 0=48+(n:Int) / 10)->R=0)/\(s.size=2-> ¬(fE s 1=88\/fE s 1=48+(n:Int) % 10)->R=0):=by
  rw[hR];refine⟨fun h=>by rw[QJ h];rfl,fun h1 h2 h3=>?_,fun h1 h2=>?_,fun h1 h2=>?_⟩
  . rw[aEo];unfold kF;simp[h1,h2,h3]
  . rw[show kF s n=false by unfold kF;rw[aNt];intro c;simp at c;omega];rfl
  rw[show kF s n=false by unfold kF;rw[aNt];intro c;simp at c;omega];rfl
 obtain⟨t,ht⟩: ∃t,t=twoS n:=⟨_,rfl⟩;rw[<-ht]at HT;have t2:t.size=2:=by rw[ht];rfl
 have t20:0<t.size:=by omega
 have t21:1<t.size:=by omega
 have b0:((t[0]'t20).toNat:Int)=48+(n:Int) / 10:=by rw[<-dJ t 0 t20,ht];exact aE1 h
 have b1:((t[1]'t21).toNat:Int)=48+(n:Int) % 10:=by rw[<-dJ t 1 t21,ht];exact aE0 h
 by_cases c:s.size=2
 . have s0:0<s.size:=by omega
   have s1:1<s.size:=by omega
   rw[dJ s 0 s0,dJ s 1 s1,<-b0,<-b1]at hRF;obtain⟨a0,g0⟩: ∃b,(((s[0]'s0).toNat:Int)==88)=b:=⟨_,rfl⟩;obtain⟨a1,g1⟩: ∃b,(((s[0]'s0).toNat:Int)==((t[0]'t20).toNat:Int))=b:=⟨_,rfl⟩;obtain⟨c0,g2⟩: ∃b,(((s[1]'s1).toNat:Int)==88)=b:=⟨_,rfl⟩;obtain⟨c1,g3⟩: ∃b,(((s[1]'s1).toNat:Int)==((t[1]'t21).toNat:Int))=b:=⟨_,rfl⟩;have hR2:R=if(a0||a1)&&(c0||c1)then 1 else 0:=by
    subst g0 g1 g2 g3;simp only[aEb,aMi,aI3];split
    . rename_i h;exact hRF.2.1 c h.1 h.2
    rename_i h;by_cases q:(((s[0]'s0).toNat:Int)=88\/((s[0]'s0).toNat:Int)=((t[0]'t20).toNat:Int))
    . exact hRF.2.2.2 c (fun e=>h ⟨q,e⟩)
    exact hRF.2.2.1 c q
   replace hR2:=aAC hR2;clear hRF hR b0 b1 ht;cases a0<;>cases a1<;>cases c0<;>cases c1
   all_goals
    as_aux_lemma=>
     go_enter func197,ntmps197
     go_wp2_with (go_at_call 69;with_reducible refine(HT.out _).mono ?_;rintro _ w' ⟨rfl,hb⟩)
     go_quiet (fail)
     go_wp2
     go_ret;exact⟨ri hR2.out.symm,below_drewN hb _⟩
 have hR0:=hRF.1 c;clear hR hRF ht b0 b1;subst hR0;have c2:((s.size:Int)==2)=false:=by rw[aEB];omega
 clear c t20 t21 t2;go_enter func197,ntmps197
 go_wp2_with (go_at_call 69;with_reducible refine(HT.out _).mono ?_;rintro _ w' ⟨rfl,hb⟩)
 clear HT;go_quiet (fail)
 go_wp2
 go_ret;exact⟨rfl,below_drewN hb _⟩
theorem PS(s:ByteArray)(g:Nat)(w:World)(hg:g<=99):
 Calls prog 155 #[.string s,.int .i64 g] w fun r w'=>r=.returned (.int .i64 (if fJ s g then 1 else 0))/\Below w.heap.size w w':=by
 have HT:=aAC (fun(k:Nat) (hk:k<g) (x:Int) (hx:x=if kF s ((k:Int)+1)then 1 else 0) w=>(by rw[hx];exact wQ s (k+1) w (by omega):Calls prog 197 #[.string s,.int .i64 ((k:Int)+1)] w fun r w'=>r=.returned (.int .i64 x)/\Below w.heap.size w w'));have HM:=aAC (fun(k:Nat) (h:k<g) (ht:kF s ((k:Int)+1)=true)=>(J4 (s:=s) (g:=k+1) (h:=g) (by omega) (by rw[uK,ht,aX1]):fJ s g=true));have HN:=aAC (fun(k:Nat) (h:fJ s k=false) (ht:kF s ((k:Int)+1)=false)=>(by rw[uK,h,ht];rfl:fJ s (k+1)=false));obtain⟨R,hR⟩: ∃R:Int,R=if fJ s g then 1 else 0:=⟨_,rfl⟩
 rw[<-hR];replace hR:=aAC hR;go_enter func155,ntmps155
 go_wp2
 go_loopw [5] (fun i wr=> ∃k:Nat,k<=g/\i=.int .i64 ((k:Int)+1)/\fJ s k=false/\Below w.heap.size w wr) (fun i _=>g+1 - (intOf i).toNat)
 case atStart=>exact⟨0,aLp _,rfl,rfl,aDA _ _⟩
 case round=>
  obtain⟨k,hk,rfl,hz,hb⟩:=hrel;by_cases hlt:k<g
  . have hT:=fun x hx w=>HT.out k hlt x hx w;have HB:=aAC hb;have HZ:=aAC hz;clear hb hz;cases ha:kF s ((k:Int)+1)
    . have HT2:=aAC (hT 0 (by rw[ha];rfl));have HA:=aAC ha;clear hT ha
      go_wp2_with (go_at_call 197;with_reducible refine(HT2.out _).mono ?_;rintro _ w' ⟨rfl,hb⟩)
      go_roundw
      case rel=>exact⟨k+1,by omega,by go_num,HN.out k HZ.out HA.out,aYR HB.out hb⟩
      case measure=>simp[intOf];omega
    have HT2:=aAC (hT 1 (by rw[ha];rfl));have HA:=aAC ha;clear hT ha
    go_wp2_with (go_at_call 197;with_reducible refine(HT2.out _).mono ?_;rintro _ w' ⟨rfl,hb⟩)
    go_ret;exact⟨ri (by rw[hR.out,HM.out k hlt HA.out];rfl),aYR HB.out hb⟩
  obtain rfl:k=g:=by omega
  have HB:=aAC hb;have HZ:=aAC hz;clear hb hz
  go_wp2
  go_ret;exact⟨ri (by rw[hR.out,HZ.out];rfl),HB.out⟩
theorem AL(d:Dt)(w:World):
 Calls prog 46 #[dP d] w fun r w'=>r=.returned (.int .i64 (comps d.mo d.da))/\Below w.heap.size w w':=
 UU (aIO d w) (by rw[JC,JC];unfold comps;simp only[aO9,aEZ];(repeat' split)<;>rfl)
theorem oQ(d:Dt)(w:World):
 Calls prog 44 #[dP d] w fun r w'=>r=.returned (.int .i64 d.aH)/\Below w.heap.size w w':=by
 have hD:=Dm.new d w 30;have HT:=aAC (fun(c:Nat) w (h:c<=41)=>CG c w (by omega));have HS:=aAC (fun(c:Nat) (h0:21<=c) (h1:c<=41)=>(VF (s:=d.mo) h0 h1));have HBD:=aAC (nO d.mo);unfold Dt.aH;generalize dD d.mo=z at *;unfold dP;go_enter func44,ntmps44;go_upto_region 1 with(fail);generalize w.alloc (.cells #[.bool d.neg,.bool d.long,.string d.dg,.int .i64 d.ex,.int .i64 d.sig,.string d.mo,.string d.da,.int .u8 d.m0,.int .u8 d.m1,.int .u8 d.m2] 30)=W0 at hD ⊢
 go_wp2
 go_loopw [3] (fun i wr=> ∃c:Nat,21<=c/\c<=42/\i=.int .i64 c/\(z=0\/(c:Int)<=z)/\Dm w.heap.size d w wr) (fun i _=>42 - (intOf i).toNat)
 case atStart=>exact⟨21,by omega,by omega,rfl,by have:=HBD.out;omega,hD⟩
 case round=>
  obtain⟨c,h0,h1,rfl,hz,hD⟩:=hrel;obtain⟨q0,q1,q2,q3,q4,q5,q6,q7,q8,q9,qB⟩:=id hD;by_cases hlt:c<=41
  . have hT:=fun w=>HT.out c w hlt;have hS:=HS.out c h0 hlt;generalize twoS c=t at *;have hb:(d.mo.toList==t.toList)=decide (d.mo=t):=Z7 _ _;have HT2:=aAC hT;have HZ:=aAC hz;clear hT hz HT HS;by_cases e:d.mo=t
    . have hv:=hS.1 e;rw[aDx e]at hb;have HV:=aAC hv;clear e hS hv
      go_wp2
      go_region_with (go_at_call 69;with_reducible refine(HT2.out _).mono ?_;rintro _ w' ⟨rfl,hb⟩;have hD:=hD.later (by first|exact hb|exact aYR (aDA _ _).drew hb|exact aYR (aDA _ _).drew.drew hb);obtain⟨q0,q1,q2,q3,q4,q5,q6,q7,q8,q9,qB⟩:=id hD)
      all_goals (go_wp2_with fail)
      all_goals go_ret
      all_goals exact⟨ri HV.out.symm,hD.below⟩
    have hv: ¬z=c:=fun h=>e (hS.2 h);rw[aBW e]at hb;have HV:=aAC hv;clear e hS hv
    go_wp2
    go_region_with (go_at_call 69;with_reducible refine(HT2.out _).mono ?_;rintro _ w' ⟨rfl,hb⟩;have hD:=hD.later (by first|exact hb|exact aYR (aDA _ _).drew hb|exact aYR (aDA _ _).drew.drew hb);obtain⟨q0,q1,q2,q3,q4,q5,q6,q7,q8,q9,qB⟩:=id hD)
    all_goals (go_wp2_with fail)
    all_goals go_roundw
    all_goals first
     |exact⟨c+1,by omega,by omega,by go_num,by have:=HV.out;have:=HZ.out;omega,hD⟩
     |(simp[intOf];omega)
  obtain rfl:c=42:=by omega
  have HV:Hid (z=0):=aAC (by have:=HBD.out;omega);clear hz
  go_wp2
  go_ret;exact⟨ri HV.out.symm,hD.below⟩
theorem aFF(a b c n:Int)(w:World)(a0:0<=a)(b0:0<=b)(c0:0<=c)(n0:1<=n)(n1:n<=3):
 Calls prog 156 #[.agg #[.int .u8 a,.int .u8 b,.int .u8 c],.int .i64 n] w fun r w'=>r=.returned (.int .i64 (jR a b c n))/\Below w.heap.size w w':=by
 obtain rfl|rfl|rfl:n=1\/n=2\/n=3:=by omega
 . exact UU (aEK a b c w) (by unfold jR;simp only[aO9,aEZ,aI3];(repeat' split)<;>first|rfl|(exfalso;omega))
 . exact UU (aEJ a b c w) (by unfold jR;simp only[aO9,aEZ,aI3];(repeat' split)<;>first|rfl|(exfalso;omega))
 exact UU (aEI a b c w) (by unfold jR;simp only[aO9,aEZ,aI3];(repeat' split)<;>first|rfl|(exfalso;omega))
theorem aDr(d:Dt)(w:World)(hy:d.dg.size<=1000)(s0: -9223372036854775808<=d.sig)(s1:d.sig<9223372036854775808):
 Calls prog 154 #[dP d] w fun r w'=>r=.returned (.int .i64 (if d.mF then 1 else 0))/\Below w.heap.size w w':=by
 have hC: ∀c:Int,(if d.U7 then 1 else 0)=c->Same w 68 #[yv d.neg d.long d.dg d.ex d.sig] (.int .i64 c):=fun c e=>e ▸ fun W _=>F9 d.neg d.long d.dg d.ex d.sig W hy s0 s1;have hS:=fun W (_:Below w.heap.size w W)=>oQ d W;have hM: ∀c:Int,(if d.mask then 1 else 0)=c->Same w 196 #[yv d.neg d.long d.dg d.ex d.sig] (.int .i64 c):=fun c e=>e ▸ fun W _=>GH d.neg d.long d.dg d.ex d.sig W (by unfold maxLen;omega);unfold Dt.mF Dt.far;cases hk:d.U7
 . exact UU (aIN d w (hC 0 (by rw[hk];rfl))) rfl
 have hmg:d.mask=false-> ∀w,Calls prog 71 #[.string d.dg,.int .i64 d.ex] w fun r w'=>r=.returned (.tuple #[.int .i64 d.mag,.int .i64 1])/\w=w':=by
  intro hm w;obtain⟨e,he,hle,hd,hl⟩: ∃e:Nat,d.ex=e/\e<=16/\aYP bY d.dg=true/\d.mag<=10000000000000000:=by
   have hk':zH d.neg d.long d.dg d.ex d.sig=true:=hk;cases hl:d.long
   . rw[hl]at hk';obtain⟨a1,a2,a3,a4,a5,a6,a7⟩:=kH hk';have hd:=(lD a2).1 hm;refine⟨0,a3,by omega,hd,?_⟩;unfold Dt.mag jJ;rw[a3];have:=uD hd a1;have e:p10 (Int.toNat 0)=1:=rfl;rw[e];omega
   rw[hl]at hk';obtain⟨a1,a2,a3,a4,a5,a6,a7,a8,a9⟩:=kN hk';exact⟨d.ex.toNat,by omega,by omega,a3,a7⟩
  have:=rX d.dg e w hy (by omega) hd;rw[he];have e2:rY (jJ d.dg e)=(d.mag,1):=by
   unfold rY;rw[show jJ d.dg e=d.mag by unfold Dt.mag;rw[he],aEo hl]
  rw[e2]at this;exact this
 have h1:=hC 1 (by rw[hk];rfl);cases hx:d.mask
 . refine UU (aIL d d.aH d.mag 1 w h1 hS (hM 0 (by rw[hx];rfl)) (fun W _=>eqB (hmg hx W))) ?_;rw[JC];by_cases c:0<d.sig<;>by_cases e:d.mo.size=0<;>by_cases a:d.aH=24<;>by_cases b:d.aH=28<;>by_cases g:d.aH=30<;>by_cases m:d.mag=10000000000000000<;>cases d.neg<;>simp[aO9,c,e,a,b,g,m]
 refine UU (aIM d d.aH w h1 hS (hM 1 (by rw[hx];rfl))) ?_;rw[JC];by_cases c:0<d.sig<;>by_cases e:d.mo.size=0<;>simp[c,e]
theorem GK(d:Dt)(w:World)(hy:d.dg.size<=1000)(s0: -9223372036854775808<=d.sig)(s1:d.sig<9223372036854775808)(m0:0<=d.m0)(m1:0<=d.m1)(m2:0<=d.m2):
 Calls prog 109 #[dP d] w fun r w'=>r=.returned (.int .i64 d.form)/\Below w.heap.size w w':=by
 refine UU (aEL d _ d.aH _ _ _ _ w (fun W _=>aDr d W hy s0 s1) (fun W _=>oQ d W) (fun W _=>PS d.mo 12 W (by omega)) (fun W _=>PS d.da 31 W (by omega)) (fun W _=>AL d W)
  (fun W _=>aFF d.m0 d.m1 d.m2 (comps d.mo d.da) W m0 m1 m2 (aYS _ _).1 (aYS _ _).2)) ?_
 have hz:d.aH=0\/(21<=d.aH/\d.aH<=41):=nO d.mo;rw[JC,JC];unfold Dt.form;rcases hz with e3|e3
 . cases d.mF<;>cases fJ d.mo 12<;>cases fJ d.da 31<;>by_cases e1:d.mo.size=0<;>by_cases e2:d.da.size=0<;>simp[e1,e2,e3]
 have a: ¬d.aH=0:=by omega
 have b:0<d.aH:=by omega
 cases d.mF<;>cases fJ d.mo 12<;>cases fJ d.da 31<;>by_cases e1:d.mo.size=0<;>by_cases e2:d.da.size=0<;>simp[aO9,e1,e2,a,b]
end
section
open Go.RowKit
theorem EN(y k:Int):(y.tmod k==0)=decide (y % k=0):=by
 rw[aPg];simp only[aI3,aEZ];exact⟨fun h=>Int.emod_eq_zero_of_dvd (aYr h),fun h=>aU0 (Int.dvd_of_emod_eq_zero h)⟩
theorem Z8(y k:Int):(y.tmod k !=0)= !decide (y % k=0):=by
 rw[<-EN];rfl
end
section
open Go.RowKit Go.Lib
theorem own_below{w w':World}{B e size n:Nat}{v:Value}{xs:List Value}(h:w.ownsRow B e size v n xs)(hb:Below w.heap.size w w'):w'.ownsRow B e size v n xs:=by
 refine⟨h.1,?_⟩;rcases h.2 with hn|⟨g,cap,cur,rfl,hg,hgg,rest⟩
 . exact .inl hn
 exact .inr ⟨g,cap,cur,rfl,hg,by rw[hb.block g (aEH.1 hgg).1];exact hgg,rest⟩
theorem KP(y m:Int)(w:World)(m0:1<=m)(m1:m<=12):Calls prog 112 #[.int .i64 y,.int .i64 m] w fun e w'=>e=.returned (.int .i64 (aYT y m))/\w=w':=by
 by_cases h2:m=2
 . subst h2;have t4:=EN y 4;have t1:=Z8 y 100;have t5:=EN y 400;by_cases a:y % 4=0<;>by_cases b:y % 100=0<;>by_cases c:y % 400=0<;>
    simp only[a,b,c,aWN,aVG,aYt,aUn]at t4 t1 t5<;>
    (have L:Hid (aYT y 2=if(decide (y % 4=0)&&(decide (y % 100≠0)||decide (y % 400=0)))then 29 else 28):=aAC (by
      unfold aYT lp leap;rw[aEo rfl];split<;>rfl)
     simp only[a,b,c,ne_eq,not_true_eq_false,not_false_eq_true,aWN,aVG,aO8,aPd,aX1,aUz,aX0,aUj,aPv,aMB]at L;clear a b c m0 m1;go_enter func112,ntmps112
     go_wp2
     go_ret;exact⟨ri (by first|exact L.out.symm|rfl),rfl⟩)
 have:m=1\/m=3\/m=4\/m=5\/m=6\/m=7\/m=8\/m=9\/m=10\/m=11\/m=12:=by omega
 rcases this with rfl|rfl|rfl|rfl|rfl|rfl|rfl|rfl|rfl|rfl|rfl<;>
  (clear m0 m1 h2
   go_enter func112,ntmps112
   go_wp2
   go_ret;exact⟨ri (by unfold aYT;simp),rfl⟩)
theorem WH(d:Dt)(w:World)(hf:d.form=0):
 Calls prog 198 #[dP d] w (aMt d.ms w):=by
 have hD:=Dm.new d w 30;have HS:=aAC (fun w=>oQ d w);unfold dP at HS;have hbd:d.aH=0\/(21<=d.aH/\d.aH<=41):=nO d.mo;unfold dP;rcases kR hf with⟨h1,h2,-⟩|⟨h1,h2,h3,-⟩|⟨h1,h2,-⟩
 . have x0:=MV h2;rw[Dt.tH h1];have z0:21<=d.aH:=by omega
   clear hbd h1 h2 hf;generalize d.aH=z at *;go_enter func198,ntmps198;go_upto_region 1 with(fail);generalize World.alloc _ _=W0 at hD ⊢;obtain⟨q0,q1,q2,q3,q4,q5,q6,q7,q8,q9,qB⟩:=id hD
   go_wp2_with (go_at_call 44;with_reducible refine(HS.out _).mono ?_;rintro _ w' ⟨rfl,hb⟩;replace hD:=hD.later (by first|exact hb|exact aYR (aDA _ _).drew hb|exact aYR (aDA _ _).drew.drew hb|exact aYR (aDA _ _).drew.drew.drew hb);clear hb;obtain⟨q0,q1,q2,q3,q4,q5,q6,q7,q8,q9,qB⟩:=id hD)
   go_ret;exact⟨_,rfl,dQ.lit (w:=w) z,ba hD.below _⟩
 . have x0:=MV h2;obtain⟨s2,sx,sn⟩:=jX (by omega) h3;rw[Dt.yE h1 h2];rw[h1]at HS;have HT:=aAC (fun(k:Nat) (hk:k<12) (x:Int) (hx:x=if kF d.mo ((k:Int)+1)then 1 else 0) w=>(by rw[hx];exact wQ d.mo (k+1) w (by omega):Calls prog 197 #[.string d.mo,.int .i64 ((k:Int)+1)] w fun r w'=>r=.returned (.int .i64 x)/\Below w.heap.size w w'));have SN:=aAC sn;obtain⟨i0,hi,hz0,hz1,hz2⟩:=aYl X6;have HI:=aAC hi;have HZ0:=aAC hz0;have HZ1:=aAC hz1;have HZ2:=aAC hz2;clear hbd h1 h2 h3 hf sn sx s2 hi hz0 hz1 hz2;go_enter func198,ntmps198;go_upto_region 1 with(fail);generalize World.alloc _ _=W0 at hD ⊢;obtain⟨q0,q1,q2,q3,q4,q5,q6,q7,q8,q9,qB⟩:=id hD
   go_wp2_with (go_at_call 44;with_reducible refine(HS.out _).mono ?_;rintro _ w' ⟨rfl,hb⟩;replace hD:=hD.later (by first|exact hb|exact aYR (aDA _ _).drew hb|exact aYR (aDA _ _).drew.drew hb|exact aYR (aDA _ _).drew.drew.drew hb);clear hb;obtain⟨q0,q1,q2,q3,q4,q5,q6,q7,q8,q9,qB⟩:=id hD)
   go_loopw [3,4] (fun v i wr=> ∃k:Nat,k<=12/\i=.int .i64 ((k:Int)+1)/\wr.ownsRow w'.heap.size 3 1 v (fO d.mo k).length ((fO d.mo k).map (Value.int .i64))/\Below w'.heap.size w' wr) (fun _ i _=>13 - (intOf i).toNat)
   case atStart=>exact⟨0,aLp _,rfl,aRr _ _ _ _,aDA _ _⟩
   case round=>
    obtain⟨k,hk,rfl,hown,hb⟩:=hrel;clear q0 q1 q2 q3 q4 q5 q6 q7 q8 q9 qB;by_cases hlt:k<12
    . have hle:=aCw d.mo k;have hD2:=hD.later hb;obtain⟨q0,q1,q2,q3,q4,q5,q6,q7,q8,q9,qB⟩:=id hD2;cases ha:kF d.mo ((k:Int)+1)
      . as_aux_lemma=>
         have HA:=aAC (fun w=>HT.out k hlt 0 (by rw[ha];rfl) w);have HE:=aAC (MP ha);have HO:=aAC hown;have HB:=aAC hb;clear ha hown hb
         go_wp2_with (go_at_call 197;with_reducible refine(HA.out _).mono ?_;rintro _ w2 ⟨rfl,hb⟩)
         have HB2:=aAC (aYR HB.out hb);have hO2:=aAC (own_below HO.out hb);go_roundw
         case rel=>exact⟨k+1,by omega,by go_num,by rw[HE.out];exact hO2.out,HB2.out⟩
         case measure=>simp[intOf];omega
      as_aux_lemma=>
       have HA:=aAC (fun w=>HT.out k hlt 1 (by rw[ha];rfl) w);have HE:=aAC (FD ha);have HO:=aAC hown;have HB:=aAC hb;clear ha hown hb
       go_wp2_with (first
        |(go_at_call 197;with_reducible refine(HA.out _).mono ?_;rintro _ w2 ⟨rfl,hb⟩;have hown:=own_below HO.out hb;have hB1:=aYR HB.out hb)
        |(at_builtin;refine aUM _ rfl _ _ 165 rfl w'.heap.size 3 i0 (.int .i64 0) 1 8 underlying165 HI.out HZ0.out HZ1.out HZ2.out rfl (by decide) _ _ _ rfl (hown.alloc _) ⟨w2.heap.size,0,none⟩ 1 1 [.int .i64 ((k:Int)+1)] rfl rfl ?c1 ?c2 ?c3 ?c4 ?c5 ?_))
       case c1=>
        intro j u hj
        match j,hj with
        |0,hj=>simp at hj;subst hj;simp[Addr.add]
       case c2=>intro u hu;simp at hu;subst hu;rfl
       case c3=>unfold maxLen;omega
       case c4=>omega
       case c5=>have:=hB1.size;simp;omega
       intro v' w3 hown' hgrow _;have hB2:=(hB1.alloc hB1.size (.cells #[.int .i64 ((k:Int)+1)] 3)).grown hgrow (by have:=hB1.size;simp;omega) (fun j hj=>(hown.lt j hj).1);have hO2:w3.ownsRow w'.heap.size 3 1 v' (fO d.mo (k+1)).length ((fO d.mo (k+1)).map (Value.int .i64)):=by rw[HE.out];simpa using hown'
       replace hB2:=aAC hB2;replace hO2:=aAC hO2;clear hown' hgrow hown hB1
       go_wp2
       go_roundw
       case rel=>exact⟨k+1,by omega,by go_num,hO2.out,hB2.out⟩
       case measure=>simp[intOf];omega
    as_aux_lemma=>
     obtain rfl:k=12:=by omega
     have hS:=dQ.own hown SN.out;have HB:=aAC (aYR hD.below hb);replace hS:=aAC hS;clear hown hb HT
     go_wp2
     go_ret;exact⟨_,rfl,hS.out,HB.out⟩
 have x0:=TW h2;rw[Dt.CQ h1 h2];clear hbd h1 h2 hf HS;go_enter func198,ntmps198;go_upto_region 1 with(fail);generalize World.alloc _ _=W0 at hD ⊢;obtain⟨q0,q1,q2,q3,q4,q5,q6,q7,q8,q9,qB⟩:=id hD
 go_wp2_with fail
 go_ret;exact⟨_,rfl,dQ.lit (w:=w) 0,ba hD.below _⟩
def Dt.yl(d:Dt)(y m:Int):List Int:=if d.da.size=0 then[0]else fO d.da (aYT y m).toNat
def aTD(y m k:Int):List Value:=[.int .i64 y,.int .i64 m,.int .i64 k]
def uQ(y m:Int)(l:List Int):List Value:=l.flatMap fun k=>aTD y m k
def Dt.wC(d:Dt)(y:Int)(ms:List Int):Nat:=(ms.map fun m=>(d.yl y m).length).sum
def Dt.rU(d:Dt)(y:Int)(ms:List Int):List Value:=ms.flatMap fun m=>uQ y m (d.yl y m)
theorem XM(y m:Int)(l:List Int)(k:Int):uQ y m (l++[k])=uQ y m l++aTD y m k:=by unfold uQ;rw[aUC];simp
theorem Dt.aC0(d:Dt)(y:Int)(ms:List Int)(m:Int):d.wC y (ms++[m])=d.wC y ms+(d.yl y m).length:=by unfold Dt.wC;simp
theorem Dt.VA(d:Dt)(y:Int)(ms:List Int)(m:Int):d.rU y (ms++[m])=d.rU y ms++uQ y m (d.yl y m):=by unfold Dt.rU;rw[aUC];simp
theorem aGW{d:Dt}{y m k:Int}:k ∈ d.yl y m↔(k ∈ d.ds/\k<=d.len y m):=by
 have hl:=rZ y m;unfold Dt.yl Dt.len Dt.ds;by_cases c:d.da.size=0
 . rw[aEo c,aEo c,aEo c];simp;omega
 rw[aEg c,aEg c,aEg c,iY,iY];constructor
 . rintro⟨h1,h2,h3⟩;exact⟨⟨h1,by omega,h3⟩,by omega⟩
 rintro⟨⟨h1,h2,h3⟩,h4⟩;exact⟨h1,by omega,h3⟩
theorem aBG(d:Dt)(y:Int): ∀ms:List Int,d.wC y ms<=31 * ms.length
 |[]=>aLp _
 | m::r=>by
  have:=aBG d y r;have h2:(d.yl y m).length<=31:=by
   unfold Dt.yl;split
   . simp
   have:=qH d.da (aYT y m).toNat;have:=rZ y m;omega
  unfold Dt.wC at *;simp at *;omega
theorem aFQ{w:World}{base base':Nat}{e:TypeId}{size:Nat}{v:Value}{n:Nat}{xs:List Value}(h:w.ownsRow base e size v n xs)(hb:base'<=base):w.ownsRow base' e size v n xs:=
 ⟨h.1,h.2.imp id fun⟨g,cap,cur,h1,h2,h3⟩=>⟨g,cap,cur,h1,aKM hb h2,h3⟩⟩
theorem aHa:(prog.info? 163).map (fun i=>(i.zero,i.size,i.bytes))=some (some (.agg #[.int .i64 0,.int .i64 0,.int .i64 0]),3,24):=by kernel_rfl
def aT0(d:Dt)(y:Int)(w:World)(e:Ending)(w':World):Prop:= ∃v,e=.returned v/\w'.ownsRow w.heap.size 163 3 v (d.wC y d.ms) (d.rU y d.ms)/\Below w.heap.size w w'
theorem aJC (d:Dt) (y:Int) (w:World) (hf:d.form=0):
 Calls prog 159 #[dP d,.int .i64 y] w (aT0 d y w):=by
 have hD:=Dm.new d w 30;have HM:=aAC (fun w=>WH d w hf);have hmm:=aAC (fmm hf);have hml:=d.aGN;unfold dP at HM;unfold dP;obtain⟨i0,hi,hz0,hz1,hz2⟩:=aYl aHa;have HI:=aAC hi;have HZ0:=aAC hz0;have HZ1:=aAC hz1;have HZ2:=aAC hz2;clear hi hz0 hz1 hz2 hf;go_enter func159,ntmps159;go_upto_region 1 with(fail);generalize World.alloc _ _=W0 at hD ⊢;obtain⟨q0,q1,q2,q3,q4,q5,q6,q7,q8,q9,qB⟩:=id hD
 go_wp2_with (go_at_call 198;refine(HM.out _).mono ?_;rintro _ w1 ⟨mv,rfl,hm,hb⟩;replace hD:=hD.later hb;clear hb)
 clear HM;obtain⟨gm,cm,rfl,hg,hc⟩:=hm;have HC:=aAC hc;clear hc q0 q1 q2 q3 q4 q5 q6 q7 q8 q9 qB;have HW1:=aAC hD.below
 go_loopw [5,7] (fun v i wr=> ∃k:Nat,k<=d.ms.length/\i=.int .i64 k/\wr.ownsRow w1.heap.size 163 3 v (d.wC y (d.ms.take k)) (d.rU y (d.ms.take k))/\Below w1.heap.size w1 wr) (fun _ i _=>14 - (intOf i).toNat)
 case atStart=>exact⟨0,aLp _,rfl,aRr _ _ _ _,aDA _ _⟩
 case round =>
  obtain⟨k,hk,rfl,hown,hb⟩:=hrel;have hD2:=hD.later hb;obtain⟨q0,q1,q2,q3,q4,q5,q6,q7,q8,q9,qB⟩:=id hD2;by_cases hlt:k<d.ms.length
  . have hcell:wr.cell? ⟨gm,k,none⟩=some (.int .i64 (d.ms[k]'hlt)):=(hb.cell (p:=⟨gm,k,none⟩) hg).trans (HC.out k hlt);have htk:d.ms.take (k+1)=d.ms.take k++[d.ms[k]'hlt]:=by rw[aXP hlt]
    have HL1:=aAC (htk ▸ d.aC0 y (d.ms.take k) (d.ms[k]'hlt):d.wC y (d.ms.take (k+1))=d.wC y (d.ms.take k)+(d.yl y (d.ms[k]'hlt)).length);have HL2:=aAC (htk ▸ d.VA y (d.ms.take k) (d.ms[k]'hlt):d.rU y (d.ms.take (k+1))=d.rU y (d.ms.take k)++uQ y (d.ms[k]'hlt) (d.yl y (d.ms[k]'hlt)));have hle:=aBG d y (d.ms.take k);have htl:(d.ms.take k).length<=k:=List.length_take_le _ _;have aN8:=fun h=>hmm.out h (d.ms[k]'hlt) (aUw hlt);generalize d.wC y (d.ms.take k)=N0 at *;generalize d.rU y (d.ms.take k)=C0 at *;have HM0:=aAC (HC.out k hlt);generalize (d.ms[k]'hlt)=m at *;clear htk;rcases lC d.da with⟨e1,x1⟩|⟨e1,x1⟩
    . have eyl:d.yl y m=[0]:=by unfold Dt.yl;rw[aEo e1]
      rw[eyl]at HL1 HL2;have HB:=aAC hb;clear eyl aN8 e1 hb
      as_aux_lemma=>
       go_wp2_with (at_builtin;refine aUM _ rfl _ _ 232 rfl w1.heap.size 163 i0 (.agg #[.int .i64 0,.int .i64 0,.int .i64 0]) 3 24 underlying232 HI.out HZ0.out HZ1.out HZ2.out rfl (by decide) _ _ _ rfl (hown.alloc _) ⟨wr.heap.size,0,none⟩ 1 1 [.int .i64 y,.int .i64 m,.int .i64 0] rfl rfl ?c1 ?c2 ?c3 ?c4 ?c5 ?_)
       case c1=>
        intro j u hj
        match j,hj with
        |0,hj=>simp at hj;subst hj;simp[Addr.add]
        |1,hj=>simp at hj;subst hj;simp[Addr.add]
        |2,hj=>simp at hj;subst hj;simp[Addr.add]
       case c2=>intro u hu;simp at hu;rcases hu with rfl|rfl|rfl<;>rfl
       case c3=>unfold maxLen;omega
       case c4=>omega
       case c5=>have:=HB.out.size;simp;omega
       intro v' w3 hown' hgrow _;have hB2:=(HB.out.alloc HB.out.size (.cells #[.int .i64 y,.int .i64 m,.int .i64 0] 163)).grown hgrow (by have:=HB.out.size;simp;omega) (fun j hj=>(hown.lt j hj).1);have hO2:w3.ownsRow w1.heap.size 163 3 v' (d.wC y (d.ms.take (k+1))) (d.rU y (d.ms.take (k+1))):=by rw[HL1.out,HL2.out];exact hown'
       replace hB2:=aAC hB2;replace hO2:=aAC hO2;clear hown' hgrow hown
       go_wp2
       go_roundw
       case rel=>exact⟨k+1,by omega,by go_num,hO2.out,hB2.out⟩
       case measure=>simp[intOf];omega
    obtain ⟨m0,m12⟩:=aN8 e1;have eyl:d.yl y m=fO d.da (aYT y m).toNat:=by unfold Dt.yl;rw[aEg e1]
    have hlb:=rZ y m;have HLen:=aAC (fun w=>KP y m w m0 m12);rw[eyl]at HL1 HL2;have HT:=aAC (fun(j:Nat) (hj:j<31) (x:Int) (hx:x=if kF d.da ((j:Int)+1)then 1 else 0) w=>(by rw[hx];exact wQ d.da (j+1) w (by omega):Calls prog 197 #[.string d.da,.int .i64 ((j:Int)+1)] w fun r w'=>r=.returned (.int .i64 x)/\Below w.heap.size w w'));obtain⟨L,hL⟩: ∃L:Nat,aYT y m=L:=⟨(aYT y m).toNat,by omega⟩;rw[hL]at HLen HL1 HL2 hlb;rw[aOd]at HL1 HL2;clear eyl aN8 e1 hL m0 m12;have HB:=aAC hb;clear hb
    go_wp2
    clear q0 q1 q2 q3 q4 q5 q6 q7 q8 q9 qB
    go_loopw [5,8] (fun v i wr2=> ∃j:Nat,j<=L/\i=Value.int .i64 ((j:Int)+1)/\wr2.ownsRow w1.heap.size 163 3 v (N0+(fO d.da j).length) (C0++uQ y m (fO d.da j))/\Below w1.heap.size w1 wr2) (fun _ i _=>33 - (intOf i).toNat)
    case atStart=>exact⟨0,aLp _,rfl,by simpa[fO,uQ]using hown,HB.out⟩
    case round=>
     obtain⟨j,hj,rfl,hown,hb⟩:=hrel;have hD2:=hD.later hb;obtain⟨q0,q1,q2,q3,q4,q5,q6,q7,q8,q9,qB⟩:=id hD2;have hcell:wr.cell? ⟨gm,k,none⟩=some (.int .i64 m):=by exact(hb.cell (p:=⟨gm,k,none⟩) hg).trans HM0.out
     by_cases hlt2:j<L
     . have hle2:=qH d.da j;cases ha:kF d.da ((j:Int)+1)
       . have HA:=aAC (fun w=>HT.out j (by omega) 0 (by rw[ha];rfl) w);have HE:=aAC (MP ha);have HO:=aAC hown;have HB3:=aAC hb;clear ha hown hb
         as_aux_lemma=>
          go_wp2_with (first
           |(go_at_call 112;with_reducible refine(HLen.out _).mono ?_;rintro _ w' ⟨rfl,rfl⟩)
           |(go_at_call 197;with_reducible refine(HA.out _).mono ?_;rintro _ w4 ⟨rfl,hb⟩))
          have HB4:=aAC (aYR HB3.out hb);have hO2:=aAC (own_below HO.out hb);go_roundw
          case rel=>exact⟨j+1,by omega,by go_num,by rw[HE.out];exact hO2.out,HB4.out⟩
          case measure=>simp[intOf];omega
       have HA:=aAC (fun w=>HT.out j (by omega) 1 (by rw[ha];rfl) w);have HE:=aAC (FD ha);have HO:=aAC hown;have HB3:=aAC hb;clear ha hown hb
       as_aux_lemma=>
        go_wp2_with (first
         |(go_at_call 112;with_reducible refine(HLen.out _).mono ?_;rintro _ w' ⟨rfl,rfl⟩)
         |(go_at_call 197;with_reducible refine(HA.out _).mono ?_;rintro _ w4 ⟨rfl,hb⟩;have hown:=own_below HO.out hb;have hB1:=aYR HB3.out hb;have hcell2:w4.cell? ⟨gm,k,none⟩=some (.int .i64 m):=(hB1.cell (p:=⟨gm,k,none⟩) hg).trans HM0.out)
         |(at_builtin;refine aUM _ rfl _ _ 232 rfl w1.heap.size 163 i0 (.agg #[.int .i64 0,.int .i64 0,.int .i64 0]) 3 24 underlying232 HI.out HZ0.out HZ1.out HZ2.out rfl (by decide) _ _ _ rfl (hown.alloc _) ⟨w4.heap.size,0,none⟩ 1 1 [.int .i64 y,.int .i64 m,.int .i64 ((j:Int)+1)] rfl rfl ?c1 ?c2 ?c3 ?c4 ?c5 ?_))
        case c1=>
         intro j u hj
         match j,hj with
         |0,hj=>simp at hj;subst hj;simp[Addr.add]
         |1,hj=>simp at hj;subst hj;simp[Addr.add]
         |2,hj=>simp at hj;subst hj;simp[Addr.add]
        case c2=>intro u hu;simp at hu;rcases hu with rfl|rfl|rfl<;>rfl
        case c3=>unfold maxLen;omega
        case c4=>omega
        case c5=>have:=hB1.size;simp;omega
        intro v' w3 hown' hgrow _;have hB2:=(hB1.alloc hB1.size (.cells #[.int .i64 y,.int .i64 m,.int .i64 ((j:Int)+1)] 163)).grown hgrow (by have:=hB1.size;simp;omega) (fun j hj=>(hown.lt j hj).1);have hO2:w3.ownsRow w1.heap.size 163 3 v' (N0+(fO d.da (j+1)).length) (C0++uQ y m (fO d.da (j+1))):=by
         rw[HE.out,XM,aLx,<-aMR];exact hown'
        replace hB2:=aAC hB2;replace hO2:=aAC hO2;clear hown' hgrow hown
        go_wp2
        go_roundw
        case rel=>exact⟨j+1,by omega,by go_num,hO2.out,hB2.out⟩
        case measure=>simp[intOf];omega
     obtain rfl:j=L:=by omega
     have hO2:wr.ownsRow w1.heap.size 163 3 u5 (d.wC y (d.ms.take (k+1))) (d.rU y (d.ms.take (k+1))):=by rw[HL1.out,HL2.out];exact hown
     replace hO2:=aAC hO2;have HB3:=aAC hb;clear hown hb
     as_aux_lemma=>
      go_wp2_with (go_at_call 112;with_reducible refine(HLen.out _).mono ?_;rintro _ w' ⟨rfl,rfl⟩)
      go_roundw
      case rel=>exact⟨k+1,by omega,by go_num,hO2.out,HB3.out⟩
      case measure=>simp[intOf];omega
  obtain rfl:k=d.ms.length:=by omega
  rw[List.take_length]at hown;have HO:=aAC (aFQ hown HW1.out.size);have HB:=aAC (aYR HW1.out hb);clear hown hb HC hmm
  go_wp2
  go_ret;exact⟨_,rfl,HO.out,HB.out⟩
theorem aEO{d:Dt}{y:Int}:0<d.wC y d.ms↔ ∃m k,m ∈ d.ms/\k ∈ d.ds/\k<=d.len y m:=by
 unfold Dt.wC;constructor
 . intro h;by_cases c: ∃m,m ∈ d.ms/\d.yl y m≠[]
   . obtain⟨m,hm,hn⟩:=c;obtain⟨k,hk⟩:=List.exists_mem_of_ne_nil _ hn;exact⟨m,k,hm,aGW.1 hk⟩
   exfalso;have:(d.ms.map fun m=>(d.yl y m).length).sum=0:=by
    have h2: ∀l:List Int,(∀m,m ∈ l->d.yl y m=[])->(l.map fun m=>(d.yl y m).length).sum=0:=by
     intro l
     induction l with
     |nil=>intro _;rfl
     |cons a l ih=>intro h;simp[h a (aIC ..),ih (fun m hm=>h m (aKO _ hm))]
    exact h2 d.ms (fun m hm=>by
     cases e:d.yl y m with
     |nil=>rfl
     |cons a l=>exact absurd ⟨m,hm,by rw[e];simp⟩ c)
   omega
 rintro⟨m,k,hm,hk⟩;have hk:=aGW.2 hk;have h2: ∀l:List Int,m ∈ l->0<(l.map fun m=>(d.yl y m).length).sum:=by
  intro l
  induction l with
  |nil=>intro h;cases h
  |cons a l ih=>
   intro h;rcases aLr.1 h with rfl|h
   . have:0<(d.yl y m).length:=List.length_pos_of_mem hk;simp;omega
   have:=ih h;simp;omega
 exact h2 d.ms hm
theorem aDC{w:World}{base:Nat}{e:TypeId}{size:Nat}{v:Value}{n:Nat}{xs:List Value}(h:w.ownsRow base e size v n xs): ∃bs cp,v=.slice bs n cp:=by
 rcases h.2 with⟨rfl,rfl⟩|⟨g,cap,cur,rfl,_⟩
 . exact⟨none,0,rfl⟩
 exact⟨_,_,rfl⟩
def xX(d:Dt):Bool:=hasB 88 (d.dg++d.mo++d.da)
theorem YS(d:Dt)(w:World)(hs:d.mo.size<=1000)(hy:d.dg.size<=1000)(ha:d.da.size<=1000):
 Calls prog 165 #[dP d] w fun r w'=>r=.returned (.bool (xX d))/\Below w.heap.size w w':=by
 have hD:=Dm.new d w 30;have HC: ∀W,Calls prog 215 #[.string (d.dg++d.mo++d.da),.string ⟨#[88]⟩] W fun e w'=>e=.returned (.bool (hasB 88 (d.dg++d.mo++d.da)))/\w'=W:=by
  intro W;have:=strings_Contains_one (d.dg++d.mo++d.da) 88 W;rw[sD]at this;exact this
 unfold xX dP;generalize hasB 88 (d.dg++d.mo++d.da)=b at *;have e1:(d.dg++d.mo).size=d.dg.size+d.mo.size:=by simp
 have e2:(d.dg++d.mo++d.da).size=d.dg.size+d.mo.size+d.da.size:=by simp
 replace HC:=aAC HC;go_enter func165,ntmps165;go_upto_region 1 with(fail);generalize World.alloc _ _=W0 at hD ⊢;obtain⟨q0,q1,q2,q3,q4,q5,q6,q7,q8,q9,qB⟩:=id hD
 go_wp2_with (go_at_call 215;with_reducible refine(HC.out _).mono ?_;rintro _ w' ⟨rfl,rfl⟩)
 go_ret;exact⟨rfl,hD.below⟩
def exN(d:Dt):Int:=if xX d then 0 else if d.sig=0 then 1 else 0
theorem RD(d:Dt)(w:World)(hs:d.mo.size<=1000)(hy:d.dg.size<=1000)(ha:d.da.size<=1000):
 Calls prog 70 #[dP d] w fun r w'=>r=.returned (.int .i64 (exN d))/\Below w.heap.size w w':=by
 have hD:=Dm.new d w 30;obtain⟨R,hR⟩: ∃R:Int,R=exN d:=⟨_,rfl⟩;rw[<-hR];have HR:Hid ((∀k (h:k<(d.dg++d.mo++d.da).size),((((d.dg++d.mo++d.da)[k]'h).toNat:Int))=88->R=0)/\(d.sig≠0->R=0)/\((∀k,k<(d.dg++d.mo++d.da).size->fE (d.dg++d.mo++d.da) k≠88)->d.sig=0->R=1)):=aAC (by
  rw[hR];unfold exN xX;generalize d.dg++d.mo++d.da=s;refine⟨fun k h e=>?_,fun h=>?_,fun h h2=>?_⟩
  . rw[(wZ 88 s).2 ⟨k,h,by rw[dJ s k h];exact e⟩];rfl
  . rw[aEg h];split<;>rfl
  have:hasB 88 s=false:=by
   rw[aNt];intro c;obtain⟨i,hi,he⟩:=(wZ 88 s).1 c;exact h i hi he
  rw[this,aEo h2];rfl)
 clear hR;unfold dP;have e1:(d.dg++d.mo).size=d.dg.size+d.mo.size:=by simp
 have e2:(d.dg++d.mo++d.da).size=d.dg.size+d.mo.size+d.da.size:=by simp
 go_enter func70,ntmps70;go_upto_region 1 with(fail);generalize World.alloc _ _=W0 at hD ⊢;obtain⟨q0,q1,q2,q3,q4,q5,q6,q7,q8,q9,qB⟩:=id hD
 go_wp2
 generalize d.dg++d.mo++d.da=s at *
 go_loop [4] (fun i=> ∃k:Nat,k<=s.size/\i=.int .i64 k/\ ∀j,j<k->fE s j≠88) (fun i=>s.size - (intOf i).toNat)
 case atStart=>exact⟨0,aLp _,rfl,fun j h=>by omega⟩
 case round=>
  obtain⟨k,hk,rfl,hn⟩:=hrel;have HN:=aAC hn;clear hn;by_cases hlt:k<s.size
  . by_cases c:((s[k]'hlt).toNat:Int)=88
    . have hv:=HR.out.1 k hlt c
      go_wp2
      go_ret;exact⟨ri (by first|rfl|exact hv.symm),hD.below⟩
    go_wp2
    go_round
    case rel=>exact⟨k+1,by omega,by go_num,fun j hj=>by
     by_cases e:j=k
     . subst e;rw[dJ s j hlt];exact c
     exact HN.out j (by omega)⟩
    case measure=>simp[intOf];omega
  obtain rfl:k=s.size:=by omega
  by_cases c:d.sig=0
  . have hv:=HR.out.2.2 HN.out c
    go_wp2
    go_ret;exact⟨ri (by first|rfl|exact hv.symm),hD.below⟩
  have hv:=HR.out.2.1 c
  go_wp2
  go_ret;exact⟨ri (by first|rfl|exact hv.symm),hD.below⟩
theorem aMZ(n:Int):st (n * 400)=n * 146097:=by unfold st ZE;omega
theorem JZ{y:Int}(h0: -10000000000001000<=y)(h1:y<=10000000000001000): -4000000000000000000<=st y/\st y<=4000000000000000000:=by unfold st ZE;omega
theorem len2(y:Int):aYT y 2=28+lp y:=by unfold aYT;simp
theorem GL(y:Int)(w:World)(h0: -10000000000000001<=y)(h1:y<=10000000000000001):
 Calls prog 72 #[.int .i64 y] w fun r w'=>r=.returned (.int .i64 (st y))/\w=w':=by
 have HL:Hid (∀z W,Calls prog 112 #[.int .i64 z,.int .i64 2] W fun e w'=>e=.returned (.int .i64 (28+lp z))/\W=w'):=aAC fun z W=>by
  have:=KP z 2 W (by decide) (by decide);rwa[len2]at this
 obtain⟨c1,c2,c3⟩:=@FH y 400 (by omega);have bd:=@DR y 400 (by omega) (by omega) (by omega);go_enter func72,ntmps72
 go_upto_if 10 with(fail)
 go_cut [3] (fun s3 wx=>s3=.int .i64 (y / 400)/\w=wx)
 case first=>
  by_cases hz:y.tmod 400<0
  . obtain⟨e1,e2⟩:=c1 ⟨by omega,by
     apply aOY;intro hy;have:=Int.tmod_nonneg 400 (show 0<=y by omega);omega⟩
    have w1:wrap64 (y.tdiv 400 - 1)=y / 400:=by rw[e1];exact wrap_in bd.1 bd.2
    clear e1 e2 c1 c2 c3 bd HL
    go_wp2
    go_meet;exact⟨by first|rfl|rw[w1],rfl⟩
  have k:y.tmod 400=0\/0<=y:=by
   by_cases h:y.tmod 400=0
   . exact .inl h
   have:=c3 h;exact .inr (by omega)
  obtain⟨e1,e2⟩:=c2 k;have E1:=aAC e1;clear e1 e2 c1 c2 c3 bd k HL
  go_wp2
  go_meet;exact⟨by first|rfl|rw[E1.out],rfl⟩
 case rest=>
  obtain⟨rfl,rfl⟩:=hcut;clear c1 c2 c3 bd;obtain⟨n,hn⟩: ∃n:Int,n=y / 400:=⟨_,rfl⟩;rw[<-hn];have HN:=aAC hn;have v1:wrap64 (n * 146097)=n * 146097:=by unfold wrap64;omega
  have v2:wrap64 (n * 400)=n * 400:=by unfold wrap64;omega
  clear hn
  go_upto_block 0 with(fail)
  go_wp2
  simp only[v1,v2]
  go_loopw [4,5] (fun s4 s5 wr=> ∃k:Nat,n * 400+k<=y/\s5=.int .i64 (n * 400+k)/\s4=.int .i64 (st (n * 400+k))/\wr=w) (fun _ s5 _=>(y - intOf s5).toNat)
  case atStart=>exact⟨0,by have:=HN.out;omega,by simp,by rw[show n * 400+((0:Nat):Int)=n * 400 by omega,aMZ],by first|rfl|trivial⟩
  case round=>
   obtain⟨k,hk,rfl,rfl,rfl⟩:=hrel;generalize hz:n * 400+(k:Int)=z at *;have zb: -10000000000000401<=z:=by have:=HN.out;omega
   have b:=JZ (y:=z) (by omega) (by omega);by_cases hlt:z<y
   . have HS:=aAC (st_succ z);have q1:wrap64 (st z+365)=st z+365:=by unfold wrap64;omega
     have q2:wrap64 (st z+365+1)=st z+365+1:=by unfold wrap64;omega
     have q3:wrap64 (z+1)=z+1:=by unfold wrap64;omega
     have L:=aCj z;rcases(show lp z=0\/lp z=1 by omega)with l|l
     all_goals
      have HL2:=HL.out z;rw[l]at HL2;replace HL2:=aAC HL2
      go_wp2_with (go_at_call 112;refine(HL2.out _).mono ?_;rintro _ w' ⟨rfl,rfl⟩)
      go_roundw
      case rel=>
       refine⟨k+1,by omega,?_,?_,trivial⟩
       . rw[show n * 400+((k+1:Nat):Int)=z+1 by omega]
       rw[show n * 400+((k+1:Nat):Int)=z+1 by omega,HS.out,l];try (first|rfl|simp)
      case measure=>simp[intOf];omega
   obtain rfl:z=y:=by omega
   go_wp2
   go_ret;exact⟨rfl,rfl⟩
theorem CJ(y m:Int)(w:World)(h0: -10000000000000001<=y)(h1:y<=10000000000000001)(m0:1<=m)(m1:m<=12):
 Calls prog 74 #[.int .i64 y,.int .i64 m] w fun r w'=>r=.returned (.int .i64 (st y+nC y m))/\w=w':=by
 have HY:=aAC fun W=>GL y W h0 h1;have HL:=aAC fun(i:Int) (W:World) (a:1<=i) (b:i<=12)=>KP y i W a b;have b:=JZ (y:=y) (by omega) (by omega);have hm: ¬ 12<m:=by omega
 clear h0 h1;go_enter func74,ntmps74
 go_wp2_with (go_at_call 72;refine(HY.out _).mono ?_;rintro _ w' ⟨rfl,rfl⟩)
 go_loopw [5,6] (fun s5 s6 wr=> ∃k:Nat,(k:Int)+1<=m/\s6=.int .i64 (k+1)/\s5=.int .i64 (st y+nC y (k+1))/\wr=w) (fun _ s6 _=>(m - intOf s6).toNat)
 case atStart=>exact⟨0,by omega,by simp,by rw[show ((0:Nat):Int)+1=1 by omega,JE,aYE],by first|rfl|trivial⟩
 case round=>
  obtain⟨k,hk,rfl,rfl,rfl⟩:=hrel;by_cases hlt:(k:Int)+1<m
  . have HS:=aAC (xK y (k+1) (by omega) (by omega));have cb:=FN (y:=y) (m:=k+1) (by omega) (by omega);have lb:=rZ y (k+1);have q1:wrap64 (st y+nC y (k+1)+aYT y (k+1))=st y+nC y (k+1)+aYT y (k+1):=by unfold wrap64;omega
    have q3:wrap64 ((k:Int)+1+1)=(k:Int)+1+1:=by unfold wrap64;omega
    go_wp2_with (go_at_call 112;refine(HL.out _ _ (by omega) (by omega)).mono ?_;rintro _ w' ⟨rfl,rfl⟩)
    go_roundw
    case rel=>exact⟨k+1,by omega,by push_cast;rfl,by push_cast;rw[HS.out,Int.add_assoc],by first|rfl|trivial⟩
    case measure=>simp[intOf];omega
  have e:(k:Int)+1=m:=by omega
  rw[e]
  go_wp2
  go_ret;exact⟨rfl,rfl⟩
theorem OE(y m:Int)(w:World)(h0: -10000000000000001<=y)(h1:y<=10000000000000000)(m0:13<=m)(m1:m<=24):
 Calls prog 74 #[.int .i64 y,.int .i64 m] w fun r w'=>r=.returned (.int .i64 (st (y+1)+nC (y+1) (m - 12)))/\w=w':=by
 have HM:=aAC fun W=>CJ (y+1) (m - 12) W (by omega) (by omega) (by omega) (by omega);have q1:wrap64 (y+1)=y+1:=by unfold wrap64;omega
 have q2:wrap64 (m - 12)=m - 12:=by unfold wrap64;omega
 have hm:12<m:=by omega
 go_enter func74,ntmps74
 go_wp2_with (go_at_call 74;refine(HM.out _).mono ?_;rintro _ w' ⟨rfl,rfl⟩)
 go_ret;exact⟨rfl,rfl⟩
end

section
open Go.RowKit Go.Lib
theorem EM{w:World}(hst:SS w):QL w:=by
 obtain⟨ρ,hs⟩:=hst (fun _=>⟨0,0,.nilIface⟩) w (aDA _ _);have look: ∀b o,aHg hp b=some o->(Hs.mk hp 15).look [] b=some o:=fun b o h=>h;have gl:=@aZ.gl G0 _ _ _ _ _ hs;obtain⟨_,c0,_⟩:=@aZ.obj G0 _ _ _ _ _ hs 2 (.ro k2) (look _ _ (by kernel_rfl));obtain⟨_,c3,_⟩:=@aZ.obj G0 _ _ _ _ _ hs 6 (.ro k6) (look _ _ (by kernel_rfl));obtain⟨_,c13,_⟩:=@aZ.obj G0 _ _ _ _ _ hs 14 (.ro k14) (look _ _ (by kernel_rfl));obtain⟨_,c1,_⟩:=@aZ.obj G0 _ _ _ _ _ hs 0 (.ro k0) (look _ _ (by kernel_rfl));obtain⟨_,c4,_⟩:=@aZ.obj G0 _ _ _ _ _ hs 3 (.ro k3) (look _ _ (by kernel_rfl));obtain⟨_,c5,_⟩:=@aZ.obj G0 _ _ _ _ _ hs 4 (.ro k4) (look _ _ (by kernel_rfl));have l0:=gl 2 (by show _<12;decide);have l3:=gl 6 (by show _<12;decide);have l1:=gl 0 (by show _<12;decide);have l4:=gl 3 (by show _<12;decide);have l5:=gl 4 (by show _<12;decide);rw[l0.1,l0.2.1]at c0;rw[l3.1,l3.2.1]at c3;rw[l1.1,l1.2.1]at c1;rw[l4.1,l4.2.1]at c4;rw[l5.1,l5.2.1]at c5;refine⟨⟨⟨ρ.blk 14,ρ.off 14,c3 0 _ rfl,c13 0 _ rfl,c13 1 _ rfl,c13 2 _ rfl,c13 3 _ rfl,c13 4 _ rfl,c13 5 _ rfl⟩,fun i hi=>?_⟩,fun i hi=>?_,⟨_,_,c4 0 (.mp 13) rfl⟩,⟨_,_,c5 0 (.mp 12) rfl⟩⟩
 . have:i=0\/i=1\/i=2\/i=3\/i=4\/i=5\/i=6\/i=7\/i=8\/i=9\/i=10\/i=11:=by omega
   rcases this with rfl|rfl|rfl|rfl|rfl|rfl|rfl|rfl|rfl|rfl|rfl|rfl
   . exact c0 0 (.v (.int .i64 (ml 0))) rfl
   . exact c0 1 (.v (.int .i64 (ml 1))) rfl
   . exact c0 2 (.v (.int .i64 (ml 2))) rfl
   . exact c0 3 (.v (.int .i64 (ml 3))) rfl
   . exact c0 4 (.v (.int .i64 (ml 4))) rfl
   . exact c0 5 (.v (.int .i64 (ml 5))) rfl
   . exact c0 6 (.v (.int .i64 (ml 6))) rfl
   . exact c0 7 (.v (.int .i64 (ml 7))) rfl
   . exact c0 8 (.v (.int .i64 (ml 8))) rfl
   . exact c0 9 (.v (.int .i64 (ml 9))) rfl
   . exact c0 10 (.v (.int .i64 (ml 10))) rfl
   exact c0 11 (.v (.int .i64 (ml 11))) rfl
 have:i=0\/i=1\/i=2\/i=3\/i=4\/i=5\/i=6\/i=7\/i=8\/i=9\/i=10\/i=11\/i=12\/i=13\/i=14\/i=15\/i=16\/i=17\/i=18\/i=19\/i=20\/i=21\/i=22\/i=23\/i=24\/i=25\/i=26\/i=27\/i=28\/i=29\/i=30\/i=31\/i=32\/i=33\/i=34\/i=35\/i=36\/i=37\/i=38\/i=39\/i=40\/i=41:=by omega
 rcases this with rfl|rfl|rfl|rfl|rfl|rfl|rfl|rfl|rfl|rfl|rfl|rfl|rfl|rfl|rfl|rfl|rfl|rfl|rfl|rfl|rfl|rfl|rfl|rfl|rfl|rfl|rfl|rfl|rfl|rfl|rfl|rfl|rfl|rfl|rfl|rfl|rfl|rfl|rfl|rfl|rfl|rfl
 . exact c1 0 (.v (.int .i64 (qZ 0))) rfl
 . exact c1 1 (.v (.int .i64 (qZ 1))) rfl
 . exact c1 2 (.v (.int .i64 (qZ 2))) rfl
 . exact c1 3 (.v (.int .i64 (qZ 3))) rfl
 . exact c1 4 (.v (.int .i64 (qZ 4))) rfl
 . exact c1 5 (.v (.int .i64 (qZ 5))) rfl
 . exact c1 6 (.v (.int .i64 (qZ 6))) rfl
 . exact c1 7 (.v (.int .i64 (qZ 7))) rfl
 . exact c1 8 (.v (.int .i64 (qZ 8))) rfl
 . exact c1 9 (.v (.int .i64 (qZ 9))) rfl
 . exact c1 10 (.v (.int .i64 (qZ 10))) rfl
 . exact c1 11 (.v (.int .i64 (qZ 11))) rfl
 . exact c1 12 (.v (.int .i64 (qZ 12))) rfl
 . exact c1 13 (.v (.int .i64 (qZ 13))) rfl
 . exact c1 14 (.v (.int .i64 (qZ 14))) rfl
 . exact c1 15 (.v (.int .i64 (qZ 15))) rfl
 . exact c1 16 (.v (.int .i64 (qZ 16))) rfl
 . exact c1 17 (.v (.int .i64 (qZ 17))) rfl
 . exact c1 18 (.v (.int .i64 (qZ 18))) rfl
 . exact c1 19 (.v (.int .i64 (qZ 19))) rfl
 . exact c1 20 (.v (.int .i64 (qZ 20))) rfl
 . exact c1 21 (.v (.int .i64 (qZ 21))) rfl
 . exact c1 22 (.v (.int .i64 (qZ 22))) rfl
 . exact c1 23 (.v (.int .i64 (qZ 23))) rfl
 . exact c1 24 (.v (.int .i64 (qZ 24))) rfl
 . exact c1 25 (.v (.int .i64 (qZ 25))) rfl
 . exact c1 26 (.v (.int .i64 (qZ 26))) rfl
 . exact c1 27 (.v (.int .i64 (qZ 27))) rfl
 . exact c1 28 (.v (.int .i64 (qZ 28))) rfl
 . exact c1 29 (.v (.int .i64 (qZ 29))) rfl
 . exact c1 30 (.v (.int .i64 (qZ 30))) rfl
 . exact c1 31 (.v (.int .i64 (qZ 31))) rfl
 . exact c1 32 (.v (.int .i64 (qZ 32))) rfl
 . exact c1 33 (.v (.int .i64 (qZ 33))) rfl
 . exact c1 34 (.v (.int .i64 (qZ 34))) rfl
 . exact c1 35 (.v (.int .i64 (qZ 35))) rfl
 . exact c1 36 (.v (.int .i64 (qZ 36))) rfl
 . exact c1 37 (.v (.int .i64 (qZ 37))) rfl
 . exact c1 38 (.v (.int .i64 (qZ 38))) rfl
 . exact c1 39 (.v (.int .i64 (qZ 39))) rfl
 . exact c1 40 (.v (.int .i64 (qZ 40))) rfl
 exact c1 41 (.v (.int .i64 (qZ 41))) rfl
theorem iQ{w W:World}(h:SS w)(hb:Below w.heap.size w W):SS W:=fun lv u hu=>by
 obtain⟨ρ,s⟩:=h lv u (aYR hb hu)
 letI:Gh:=G0
 exact⟨ρ,s.gl,s.YA,s.good,s.gn,s.ln,s.FC,s.vW,hu,s.lt,s.obj,fun b o q hl=>absurd (s.lt b o q) (Nat.not_lt.2 hl),fun b o q hl=>aG0 (s.old b o q hl) hb.size,s.inj⟩
structure Sm(d:Dt):Prop where
 mo:d.mo.size<=1000
 dg:d.dg.size<=1000
 da:d.da.size<=1000
 s0: -9223372036854775808<=d.sig
 s1:d.sig<9223372036854775808
 m0:0<=d.m0
 m1:0<=d.m1
 m2:0<=d.m2
theorem jW(a b:Int):(a==b)=decide (a=b):=by rw[aPg];simp
theorem zS{w:World}{f:FuncId}{args:Array Value}{v u:Value}(g:Same w f args v)(e:v=u):Same w f args u:=e ▸ g
theorem eS{w0:World}{f:FuncId}{args:Array Value}{v:Value}(h: ∀w,Calls prog f args w fun r w'=>r=.returned v/\w=w'):Same w0 f args v:=fun w _=>(h w).mono fun _ _ g=>⟨g.1,g.2 ▸ aDA _ _⟩
section
variable{w0:World}(hst:SS w0){d:Dt}(h:Sm d)
include hst h
theorem sFC:Same w0 61 #[dP d] (.int .i64 d.err):=fun w hb=>aBd d w ((EM hst).below hb) h.mo h.dg h.m0 h.m1 h.m2
theorem sMk:Same w0 165 #[dP d] (.bool (xX d)):=fun w _=>YS d w h.mo h.dg h.da
theorem sSn:Same w0 120 #[dP d] (.tuple #[.int .i64 d.aH,.bool (!decide (d.aH=0))]):=fun w hb=>uO d w ((EM hst).below hb) h.mo
theorem sPc:Same w0 144 #[dP d] (.int .u8 d.prec):=zS (aPW d _ _ w0 (sSn hst h)) (by
 unfold Dt.prec;rw[JC,JC];by_cases a:d.da.size=0<;>by_cases b:d.aH=0<;>by_cases c:d.mo.size=0<;>simp[jW,a,b,c])
theorem aRo:Same w0 140 #[dP d] (.bool d.vO):=zS (aJa d _ w0 (sMk hst h)) (by
 unfold Dt.vO xX;cases hasB 88 (d.dg++d.mo++d.da)<;>by_cases a:d.sig=0<;>simp[jW,a])
theorem aRn:Same w0 152 #[dP d] (.bool d.vO):=zS (aI9 d _ w0 (sMk hst h)) (by
 unfold Dt.vO xX;cases hasB 88 (d.dg++d.mo++d.da)<;>by_cases a:d.sig=0<;>simp[jW,a])
theorem sPl:Same w0 153 #[dP d] (.bool d.UY):=zS (aMJ d _ _ _ w0 (sFC hst h) (sMk hst h) (sPc hst h)) (by
 unfold Dt.UY Dt.vO xX;by_cases e:d.err=0<;>cases hasB 88 (d.dg++d.mo++d.da)<;>by_cases a:d.sig=0<;>by_cases p:d.prec=0<;>simp[jW,a,e,p])
theorem aRk:Same w0 70 #[dP d] (.int .i64 (if d.vO=true then 1 else 0)):=fun w hb=>by
 have:=RD d w h.mo h.dg h.da;rw[show exN d=if d.vO=true then 1 else 0 by
  unfold exN Dt.vO xX;cases hasB 88 (d.dg++d.mo++d.da)<;>by_cases a:d.sig=0<;>simp[jW,a]]at this
 exact this
theorem aVP:Same w0 44 #[dP d] (.int .i64 d.aH):=fun w _=>oQ d w
theorem aRl:Same w0 46 #[dP d] (.int .i64 (comps d.mo d.da)):=fun w _=>AL d w
theorem aVM(he:d.err=0)(hx:d.vO=true):Same w0 141 #[.agg #[.bool d.neg,.bool d.long,.string d.dg,.int .i64 d.ex,.int .i64 d.sig]] (.tuple #[.int .i64 d.yv,.int .i64 0]):=fun w hb=>by
 obtain⟨_,hk,_⟩:=iF he hx;exact zX d.neg d.long d.dg d.ex d.sig w h.dg hk (gB hx).1
end
theorem aGR{d:Dt}(he:d.err=0)(hx:d.vO=true):aYP bY d.mo=true:=(aGQ (MR he) (gB hx).2.1).2.1
theorem aHW{d:Dt}(he:d.err=0)(hx:d.vO=true):aYP bY d.da=true:=(aHV (MR he) (gB hx).2.2.1).2.1
theorem sAt{w0:World}{s:ByteArray}(h2:s.size=2)(hd:aYP bY s=true):Same w0 142 #[.string s] (.tuple #[.int .i64 (bJ s),.nilIface]):=fun w hb=>aCP s _ (aId h2 hd) (by omega) w
theorem aEm{s:ByteArray}(h:s.size=0):bJ s=0:=(FM h).1
theorem aBT{w0:World}(hst:SS w0){d:Dt}(h:Sm d)(he:d.err=0)(hx:d.vO=true):Same w0 100 #[dP d] (.tuple #[r4 0 d.lo 0 d.hi,.int .i64 0]):=by
 obtain⟨_,hk,y0,y1,hc⟩:=iF he hx;have c:=(EM hst);have hmk:xX d=false:=(gB hx).2.2.2.2;have hs:d.sig=0:=(gB hx).2.2.2.1;have H0:=sFC hst h;rw[he]at H0;have H1:=sMk hst h;rw[hmk]at H1;have H2:=aVM hst h he hx;have HP:=sPc hst h;have md:=aGR he hx;have dd:=aHW he hx;unfold Dt.lo Dt.hi zY zZ;rcases hc with⟨a,b,e⟩|⟨a,b,e,e2,c1,c2,sy⟩|⟨a,b,m0,m1,hd⟩
 . rw[show d.prec=1 by unfold Dt.prec;rw[aEg (by omega),aEg (by omega),aEg (by omega)]]at HP;rw[aEm a,aEo rfl,aEo rfl];have HS:Same w0 186 #[.int .i64 d.yv] (.tuple #[.int .i64 (st d.yv),.int .i64 0]):=fun w hb=>zF d.yv w (c.below hb).cal.steps y0 y1;have HE:Same w0 187 #[.int .i64 d.yv] (.tuple #[.int .i64 (st (d.yv+1) - 1),.int .i64 0]):=fun w hb=>U9 d.yv w (c.below hb).cal.steps y0 y1;have em:=MS a;have ed:=MS b;generalize d.yv=y at *;obtain⟨ng,lg,dg,ex,sig,mo,da,q0,q1,q2⟩:=d;simp only at em ed hs;subst em;subst ed;subst hs;exact zS (aMP ⟨ng,lg,dg,ex,0,⟨#[]⟩,⟨#[]⟩,q0,q1,q2⟩ _ _ _ hst H0 H1 H2 HP HS HE) rfl
 . rw[show d.prec=0 by unfold Dt.prec;rw[aEg (by omega),aEo b]]at HP;rw[e2,aEg (by omega),aEo (by omega),aEg (by omega),aEo (by omega)];have HS:Same w0 171 #[.int .i64 d.yv,.int .i64 d.aH] (.tuple #[r4 0 (st d.yv+nC d.yv (bU d.aH)) 0 (st (iE d.yv d.aH)+nC (iE d.yv d.aH) (UW d.aH+1) - 1),.int .i64 0]):=fun w hb=>J7 d.yv d.aH w (c.below hb) y0 y1 c1 c2 sy;have HA:=sAt (w0:=w0) a md;rw[e2]at HA;have ed:=MS e;generalize d.yv=y at *;generalize d.aH=sc at *;obtain⟨ng,lg,dg,ex,sig,mo,da,q0,q1,q2⟩:=d;simp only at ed hs;subst ed;subst hs;exact zS (aMQ ⟨ng,lg,dg,ex,0,mo,⟨#[]⟩,q0,q1,q2⟩ _ _ _ _ hst H0 H1 H2 HP HA HS) rfl
 have HA:=sAt (w0:=w0) a md;have HS:Same w0 190 #[.int .i64 d.yv,.int .i64 (bJ d.mo)] (.tuple #[.int .i64 (st d.yv+nC d.yv (bJ d.mo)),.int .i64 0]):=fun w hb=>mW d.yv _ w (c.below hb).cal y0 y1 m0 m1;simp only[aEg (show ¬bJ d.mo=0 by omega),aEg (show ¬ 12<bJ d.mo by omega)];rcases hd with e|⟨e,k0,k1⟩
 . rw[show d.prec=2 by unfold Dt.prec;rw[aEg (by omega),aEg (by omega),aEo (by omega)]]at HP;rw[aEm e,aEo rfl,aEo rfl];have HE:Same w0 191 #[.int .i64 d.yv,.int .i64 (bJ d.mo)] (.tuple #[.int .i64 (st d.yv+nC d.yv (bJ d.mo+1) - 1),.int .i64 0]):=fun w hb=>CS d.yv _ w (c.below hb).cal y0 y1 m0 m1;have ed:=MS e;generalize d.yv=y at *;obtain⟨ng,lg,dg,ex,sig,mo,da,q0,q1,q2⟩:=d;simp only at ed hs;subst ed;subst hs;exact zS (aMO ⟨ng,lg,dg,ex,0,mo,⟨#[]⟩,q0,q1,q2⟩ _ _ _ _ hst H0 H1 H2 HP HA HS HE) rfl
 rw[show d.prec=3 by unfold Dt.prec;rw[aEo (by omega)]]at HP;rw[aEg (by omega),aEg (by omega)];have HL:Same w0 180 #[.int .i64 d.yv,.int .i64 (bJ d.mo)] (.tuple #[.int .i64 (aYT d.yv (bJ d.mo)),.int .i64 0]):=fun w hb=>zQ d.yv _ w (c.below hb) y0 y1 m0 m1;have HB:=sAt (w0:=w0) e dd;have sb:=JZ (y:=d.yv) (by omega) (by omega);have cb:=@FN d.yv (bJ d.mo) m0 (by omega);have lb:=rZ d.yv (bJ d.mo);have HD:Same w0 193 #[cvv d.yv (bJ d.mo) (bJ d.da)] (.tuple #[.int .i64 (st d.yv+nC d.yv (bJ d.mo)+bJ d.da - 1),.int .i64 0]):=zS (aPZ d.yv (bJ d.mo) (bJ d.da) _ _ w0 HL HS) (by
  rw[aBW (by omega),aBW (by omega)];have q1:IntKind.i64.wrap (st d.yv+nC d.yv (bJ d.mo)+bJ d.da)=st d.yv+nC d.yv (bJ d.mo)+bJ d.da:=by rw[aUy];omega
  have q2:IntKind.i64.wrap (st d.yv+nC d.yv (bJ d.mo)+bJ d.da - 1)=st d.yv+nC d.yv (bJ d.mo)+bJ d.da - 1:=by rw[aUy];omega
  simp only[aUB,q1,q2])
 refine zS (aMN d d.yv _ _ _ w0 H0 H1 H2 HA HB HP HD) ?_;simp[jW,hs]
end
end
end Go.Proofs.YtebgcnnhokclaaaGreatDoor
