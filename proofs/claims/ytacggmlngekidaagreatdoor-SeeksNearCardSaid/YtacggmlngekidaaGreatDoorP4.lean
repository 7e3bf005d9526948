import Derived.Test.YtacggmlngekidaaGreatDoorProg
import Derived.Test.YtacggmlngekidaaGreatDoorP1
import Derived.Test.YtacggmlngekidaaGreatDoorP2
import Derived.Test.YtacggmlngekidaaGreatDoorP3
import Derived.Lib.OwnBridge
import Derived.Deep.CutBlock
import Derived.Deep.MidRow
import Derived.Deep.RegionHeld3
import Derived.LoopN
import Derived.ChangeKeysEq
set_option linter.unusedSimpArgs false
set_option linter.unusedVariables false
set_option maxRecDepth 1000000
set_option maxHeartbeats 8000000
set_option linter.unusedSectionVars false
namespace Go.Proofs.YtacggmlngekidaaGreatDoor
abbrev aAw:=@List.setIfInBounds_toArray
abbrev aAZ:=@List.set_cons_zero
abbrev aBw:=@List.set_cons_succ
abbrev aTA:=@List.getElem_cons_zero
abbrev aTB:=@List.getElem_cons_succ
abbrev aTV:=@false_implies
abbrev aVa:=@List.getElem_toArray
abbrev aVd:=@cond_true
abbrev aVj:=@Go.Lib.holds_of_ownsRow
abbrev aVp:=@Go.wp_region_held_drew
abbrev aV7:=@implies_true
abbrev aV9:=@forall_const
abbrev aWm:=@true_implies
abbrev aWE:=@Go.AllReadyH.cons
abbrev aWN:=@Go.AllReadyH.nil
abbrev aW4:=@Go.wpAnyH_ready
abbrev aW8:=@true_and
abbrev aXf:=@Go.wpAnyH_done
abbrev aXh:=@List.length_reverse
abbrev aXu:=@false_or
abbrev aXv:=@and_true
abbrev aXS:=@Bool.true_or
abbrev aXV:=@List.take_length
abbrev aXZ:=@Bool.cond_decide
abbrev aX7:=@UInt8.toNat.inj
section
open Go.RowKit Go.Lib
namespace Bk
open Un (ba bt ri rb aS aZ)
theorem fmd{d:Dt}(h:d.form=0):d.mo.size=0->d.da.size=0:=fun e=>by
 rcases jB h with⟨_,h1,_⟩|⟨_,h1,_⟩|⟨_,_,h1⟩
 . exact absurd e h1
 . exact absurd e h1
 exact h1
theorem fmm{d:Dt}(h:d.form=0):d.da.size≠0-> ∀m,m ∈ d.ms->1<=m/\m<=12:=fun e m hm=>by
 rcases jB h with⟨_,_,h1⟩|⟨h1,h2,_⟩|⟨_,_,h1⟩
 . exact absurd h1 e
 . rw[Dt.qY h1 h2,fA]at hm;omega
 exact absurd h1 e
theorem KR(d:Dt)(mv dv:Value)(cy cm ck:Int)(w:World)(hk:lD w)(hy:d.dg.size<=1000)(hf:d.form=0)
 (y0: -9223372036854775808<=cy) (y1:cy<9223372036854775808) (hm:bD w mv d.ms) (hd:bD w dv d.ds):
 Calls Tryz.prog 83 #[fmv d mv dv,cvv cy cm ck,.bool true] w (FU d cy cm ck w):=
 aIi d mv dv cy cm ck w hk hy (Dt.fC (Dt.iO hf).1).1 (fmd hf) y0 y1 hm hd (fmm hf)
theorem wW{d:Dt}(h:d.form≠0):d.err=d.form:=by unfold Dt.err;rw[aDk h]
theorem TP{d:Dt}(h:d.form=0)(h2:d.da.size=0):d.err=0:=by unfold Dt.err;rw[aBx (by omega),aBx (fun c=>c.1 h2)]
theorem aKN{d:Dt}{y m k:Int}{ok:Bool}(h:d.form=0)(h2: ¬d.da.size=0)(hs:d.jG (-9223372036854775808) 0 0 y m k ok):d.err=if ok=true then 0 else 8:=by
 have hx:=Dt.YU (fun u hu=>by have:=Dt.jU (Dt.fC (Dt.iO h).1).1 hu;omega) hs;unfold Dt.err;rw[aBx (by omega)]
 cases ok
 . rw[aDk ⟨h2,fun hh=>by have:=hx.2 hh;cases this⟩];rfl
 rw[aBx (fun hh=>hh.2 (hx.1 rfl))];rfl
theorem uN(d:Dt)(w:World)(hk:lD w)(hs:d.mo.size<=1000)(hy:d.dg.size<=1000)(m0:0<=d.m0)(m1:0<=d.m1)(m2:0<=d.m2):
 Calls Tryz.prog 51 #[aV d] w fun r w'=>r=.returned (.int .i64 d.err)/\Below w.heap.size w w':=by
 have hD:Rw w.heap.size (bK d) w _:=Rw.fresh (aAI _ _) (bK d) 37;have HC:=rG (fun W hb=>aDg d W (hk.below (w':=W) hb) hs hy m0 m1 m2);have HO:=rG (fun W hb hf=>zO d W (hk.below (w':=W) hb) hs hf);have HS:=rG (fun mv dv W hb hf hm hd=>KR d mv dv (-9223372036854775808) 0 0 W (hk.below (w':=W) hb) hy hf (by omega) (by omega) hm hd);unfold cvv fmv at HS;clear hk hs hy m0 m1 m2;rw[zZ]at HC HO;obtain⟨er,her⟩: ∃er,er=d.err:=⟨_,rfl⟩;rw[<-her];replace her:=rG her;unfold aV
 go_enter Tryz.func51,Tryz.ntmps51
 unfold bK at hD
 go_upto_region 1 with(fail)
 generalize World.alloc _ _=W0 at hD ⊢;have HD:Hid (Rw w.heap.size (bK d) w W0):=rG hD;clear hD;have hR:=HD.out.range
 by_cases hf:d.form=0
 . have HF:=rG hf;rw[hf]at HC;clear hf
   go_upto_region 4 with(first
    |(refine aHD rfl 37 (.tmp 1) rfl w.heap.size 0 rfl (bK d) _ hR Tryz.underlying37 rfl dZ ?_)
    |(go_at_call 81;refine(HC.out _ HD.out.below).mono ?_;rintro _ w1 ⟨rfl,hb⟩))
   replace HD:=rG (HD.out.later hb);clear hR hb;have hR:=HD.out.range;have g6:=HD.out.cell 6 _ rfl;rcases fB d.da with⟨c,e1⟩|⟨c,e1⟩
   . have HE:=rG (her.out.trans (TP HF.out c));clear c
     go_wp2_with fail
     go_ret
     exact⟨by rw[HE.out];rfl,HD.out.below⟩
   have HE:Hid (∀y m k ok,d.jG (-9223372036854775808) 0 0 y m k ok->er=if ok=true then 0 else 8):=rG (fun y m k ok hs=>her.out.trans (aKN HF.out c hs));clear c
   go_wp2_with (first
    |(refine aHD rfl 37 (.tmp 1) rfl w.heap.size 0 rfl (bK d) _ hR Tryz.underlying37 rfl dZ ?_)
    |(go_at_call 82;refine(HO.out _ HD.out.below HF.out).mono ?_;rintro _ w2 ⟨mv,dv,rfl,hm,hd,hb2⟩;have HBm:=rG (bt HD.out.below hb2);have HS2:=rG (HS.out mv dv w2 HBm.out HF.out hm hd);clear hm hd hb2))
   refine HS2.out.mono ?_;rintro _ w3 ⟨y,m,k,ok,hso,rfl,hb3⟩;have HB3:=rG (bt HBm.out hb3);have HE2:=rG (HE.out y m k ok hso);unfold cvv;clear hso hb3 HS2
   cases ok
   . go_wp2_with fail
     go_ret
     exact⟨by rw[HE2.out];rfl,ba HB3.out _⟩
   go_wp2_with fail
   go_ret
   exact⟨by rw[HE2.out];rfl,ba HB3.out _⟩
 have HE:=rG (her.out.trans (wW hf));generalize d.form=fo at *
 go_wp2_with (first
  |(refine aHD rfl 37 (.tmp 1) rfl w.heap.size 0 rfl (bK d) _ hR Tryz.underlying37 rfl dZ ?_)
  |(go_at_call 81;refine(HC.out _ HD.out.below).mono ?_;rintro _ w1 ⟨rfl,hb⟩))
 go_ret
 exact⟨by rw[HE.out];rfl,bt HD.out.below hb⟩
noncomputable def Dt.dP(d:Dt):Int:=if d.err≠0 then d.err else if 0<d.sig then 1 else 0
theorem uM(d:Dt)(w:World)(hk:lD w)(hs:d.mo.size<=1000)(hy:d.dg.size<=1000)(m0:0<=d.m0)(m1:0<=d.m1)(m2:0<=d.m2):
 Calls Tryz.prog 292 #[aV d] w fun r w'=>r=.returned (.int .i64 d.dP)/\Below w.heap.size w w':=by
 have hD:Rw w.heap.size (bK d) w _:=Rw.fresh (aAI _ _) (bK d) 37;have HC:=rG (fun W hb=>uN d W (hk.below (w':=W) hb) hs hy m0 m1 m2);clear hk hs hy m0 m1 m2;rw[zZ]at HC;obtain⟨er,her⟩: ∃er,er=d.dP:=⟨_,rfl⟩;rw[<-her];unfold Dt.dP at her;replace her:=rG her;generalize d.err=fo at *;unfold aV
 go_enter Tryz.func292,Tryz.ntmps292
 unfold bK at hD
 go_upto_region 1 with(fail)
 generalize World.alloc _ _=W0 at hD ⊢;have HD:Hid (Rw w.heap.size (bK d) w W0):=rG hD;clear hD;have hR:=HD.out.range
 by_cases hf:fo=0
 . subst hf
   go_upto_region 4 with(first
    |(refine aHD rfl 37 (.tmp 1) rfl w.heap.size 0 rfl (bK d) _ hR Tryz.underlying37 rfl dZ ?_)
    |(go_at_call 51;refine(HC.out _ HD.out.below).mono ?_;rintro _ w1 ⟨rfl,hb⟩))
   replace HD:=rG (HD.out.later hb);clear hR hb;have g4:=HD.out.cell 4 _ rfl
   by_cases hg:0<d.sig
   . have HE:Hid (er=1):=rG (by rw[her.out,aBx (by simp),aDk hg])
     go_wp2_with fail
     go_ret
     exact⟨by rw[HE.out];rfl,HD.out.below⟩
   have HE:Hid (er=0):=rG (by rw[her.out,aBx (by simp),aBx hg])
   go_wp2_with fail
   go_ret
   exact⟨by rw[HE.out];rfl,HD.out.below⟩
 have HE:Hid (er=fo):=rG (by rw[her.out,aDk hf])
 go_wp2_with (first
  |(refine aHD rfl 37 (.tmp 1) rfl w.heap.size 0 rfl (bK d) _ hR Tryz.underlying37 rfl dZ ?_)
  |(go_at_call 51;refine(HC.out _ HD.out.below).mono ?_;rintro _ w1 ⟨rfl,hb⟩))
 go_ret
 exact⟨by rw[HE.out];rfl,bt HD.out.below hb⟩
end Bk
end
section
open Go.RowKit Go.Lib
namespace Bk
open Un (ba bt ri rb aS aZ)
def Dt.oU(d:Dt)(cy cm ck:Int)(y m k:Int)(ok:Bool):Prop:=(d.dP=0/\d.jG cy cm ck y m k ok)\/(d.dP≠0/\y=0/\m=0/\k=0/\ok=false)
def aEH(d:Dt)(cy cm ck:Int)(w:World)(e:Ending)(w':World):Prop:= ∃y m k ok,d.oU cy cm ck y m k ok/\e=.returned (.tuple #[cvv y m k,.bool ok,.int .i64 d.dP])/\Below w.heap.size w w'
theorem fH{d:Dt}(h:d.dP=0):d.form=0:=by
 unfold Dt.dP at h
 by_cases c:d.form=0
 . exact c
 rw[wW c,aDk c]at h;exact absurd h c
theorem yV{fn:Func}{p q r:Tmp}{ty:TypeId}(h:fn.results= #[.cell p ty,.tmp q,.tmp r])(tmps:Array Value){P:Program}{w:World}{a:Addr}{v u x:Value}
 (hp:tmps.getD p undef=.pointer (some a)) (hq:tmps.getD q undef=u) (hr:tmps.getD r undef=x) (hl:(loadVar ty a).run P w=.ok v w):(results fn tmps).run P w=.ok (.tuple #[v,u,x]) w:=by
 have hp':tmps[p]?.getD undef=.pointer (some a):=by simpa using hp
 have hq':tmps[q]?.getD undef=u:=by simpa using hq
 have hr':tmps[r]?.getD undef=x:=by simpa using hr
 simp[results,h,hp',hq',hr',asAddr,hl]
theorem aAg{d:Dt}{cy cm ck y m k:Int}{ok:Bool}{p6:Nat}{w wO:World}{tmps:Array Value}(ho:Rw p6 (aN y m k) w wO)(h:d.oU cy cm ck y m k ok)
 (hp:tmps.getD 4 undef=.pointer (some ⟨p6,0,none⟩)) (hq:tmps.getD 5 undef=.bool ok) (hr:tmps.getD 6 undef=.int .i64 d.dP):
 bodyPost Tryz.prog Tryz.f291 (aEH d cy cm ck w) Exit.ret ⟨tmps,[]⟩ wO:=by
 have hv:=aMj (P:=Tryz.prog) _ p6 0 112 (aN y m k) _ ho.range Tryz.underlying112 rfl qG;exact aHE (v:=.tuple #[cvv y m k,.bool ok,.int .i64 d.dP]) (yV Tryz.results291 _ hp hq hr hv) rfl ⟨y,m,k,ok,h,rfl,ho.below⟩
theorem E8(d:Dt)(cy cm ck:Int)(w:World)(hk:lD w)(hs:d.mo.size<=1000)(hy:d.dg.size<=1000)(m0:0<=d.m0)(m1:0<=d.m1)(m2:0<=d.m2)
 (y0: -9223372036854775808<=cy) (y1:cy<9223372036854775808):
 Calls Tryz.prog 291 #[aV d,cvv cy cm ck] w (aEH d cy cm ck w):=by
 have hD:Rw w.heap.size (bK d) w _:=Rw.fresh (aAI _ _) (bK d) 37;have hD2:=Rw.fresh hD.below (aN cy cm ck) 112;have hD3:=Rw.fresh hD2.below (aN 0 0 0) 112;simp only[dF]at hD2 hD3;have hA:_/\_/\_:=⟨(hD.later (ba (aAI _ _) (.cells (aN cy cm ck).toArray 112))).later (ba (aAI _ _) (.cells (aN 0 0 0).toArray 112)),hD2.later (ba (aAI _ _) (.cells (aN 0 0 0).toArray 112)),hD3⟩;clear hD hD2 hD3;have HC:=rG (fun W hb=>uM d W (hk.below (w':=W) hb) hs hy m0 m1 m2);have HO:=rG (fun W hb hf=>zO d W (hk.below (w':=W) hb) hs hf);have HS:=rG (fun mv dv W hb hf hm hd=>KR d mv dv cy cm ck W (hk.below (w':=W) hb) hy hf y0 y1 hm hd);unfold cvv fmv at HS;clear hk hs hy m0 m1 m2;rw[zZ]at HC HO;unfold aV cvv;unfold bK aN at hA
 go_enter Tryz.func291,Tryz.ntmps291
 go_upto_region 1 with(fail)
 generalize World.alloc _ _=W0 at hA ⊢;have HD:Hid (Rw w.heap.size (bK d) w W0):=rG hA.1;have HE:Hid (Rw (w.heap.size+1) (aN cy cm ck) w W0):=rG hA.2.1;have HF:Hid (Rw (w.heap.size+1+1) (aN 0 0 0) w W0):=rG hA.2.2;clear hA;have hR:=HD.out.range;generalize w.heap.size+1+1=p6 at *;generalize w.heap.size+1=p5 at *
 by_cases hc:d.dP=0
 . have HCE:=rG hc;have HFM:=rG (fH hc);rw[hc]at HC;clear hc
   go_upto_region 4 with(first
    |(refine aHD rfl 37 (.tmp 2) rfl w.heap.size 0 rfl (bK d) _ hR Tryz.underlying37 rfl dZ ?_)
    |(go_at_call 292;refine(HC.out _ HD.out.below).mono ?_;rintro _ w1 ⟨rfl,hb⟩))
   replace HD:=rG (HD.out.later hb);replace HE:=rG (HE.out.later hb);replace HF:=rG (HF.out.later hb);clear hR hb HC
   go_cut [5] (fun s wx=> ∃y m k ok,s=.bool ok/\d.jG cy cm ck y m k ok/\Rw p6 (aN y m k) w wx)
   case first=>
    obtain⟨r0,r1,r2,r3,r4,r5,r6,r7,r8,r9⟩:=HD.out.rV;unfold bK at HO;have e0:=HE.out.cell 0 _ rfl;have e1:=HE.out.cell 1 _ rfl;have e2:=HE.out.cell 2 _ rfl
    go_region_with (first
     |(go_at_call 82;refine(HO.out _ (by first|exact HD.out.below|exact HD.out.below.drew|exact HD.out.below.drew.drew) HFM.out).mono ?_;rintro _ w2 ⟨mv,dv,rfl,hm,hd,hb2⟩;have hb2:Below w1.heap.size w1 w2:=(by first|exact hb2|exact bt (aAI _ _).drew hb2|exact bt (aAI _ _).drew.drew hb2);have HBm:=rG (bt HD.out.below hb2);have HS2:=rG (HS.out mv dv w2 HBm.out HFM.out hm hd);have HE2:=rG (HE.out.later hb2);have HF2:=rG (HF.out.later hb2);clear hm hd hb2;have e0:=HE2.out.cell 0 _ rfl;have e1:=HE2.out.cell 1 _ rfl;have e2:=HE2.out.cell 2 _ rfl)
     |(go_at_call 83;refine HS2.out.mono ?_;rintro _ w3 ⟨y,m,k,ok,hso,rfl,hb3⟩;unfold cvv;have HF3:=rG (HF2.out.later hb3);have HSO:=rG hso;clear hb3 hso;have f0:=HF3.out.cell 0 _ rfl;have f1:=HF3.out.cell 1 _ rfl;have f2:=HF3.out.cell 2 _ rfl;have z0:=HF3.out.free 0 (by unfold aN;simp);have z1:=HF3.out.free 1 (by unfold aN;simp);have z2:=HF3.out.free 2 (by unfold aN;simp)))
    all_goals (go_wp2_with fail)
    all_goals (go_meet;exact⟨_,_,_,_,rfl,HSO.out,HF3.out.dB (aN _ _ _) rfl⟩)
   case rest=>
    obtain⟨y,m,k,ok,rfl,hso,hX⟩:=hcut;have HN:Hid (d.oU cy cm ck y m k ok):=rG (.inl ⟨HCE.out,hso⟩);have HX:=rG hX;clear hX hso HS HO HD HE HF;have f0:=HX.out.cell 0 _ rfl;have f1:=HX.out.cell 1 _ rfl;have f2:=HX.out.cell 2 _ rfl;have z0:=HX.out.free 0 (by unfold aN;simp);have z1:=HX.out.free 1 (by unfold aN;simp);have z2:=HX.out.free 2 (by unfold aN;simp)
    go_wp2_with fail
    exact aAg (HX.out.dB (aN y m k) rfl) HN.out rfl rfl (by rw[HCE.out];rfl)
 have HN:Hid (d.oU cy cm ck 0 0 0 false):=rG (.inr ⟨hc,rfl,rfl,rfl,rfl⟩);obtain⟨er,her⟩: ∃er,er=d.dP:=⟨_,rfl⟩;rw[<-her]at HC hc;have RD:=rG her;clear her
 go_wp2_with (first
  |(refine aHD rfl 37 (.tmp 2) rfl w.heap.size 0 rfl (bK d) _ hR Tryz.underlying37 rfl dZ ?_)
  |(go_at_call 292;refine(HC.out _ HD.out.below).mono ?_;rintro _ w1 ⟨rfl,hb⟩;have HF2:=rG (HF.out.later hb);have f0:=HF2.out.cell 0 _ rfl;have f1:=HF2.out.cell 1 _ rfl;have f2:=HF2.out.cell 2 _ rfl;have z0:=HF2.out.free 0 (by unfold aN;simp);have z1:=HF2.out.free 1 (by unfold aN;simp);have z2:=HF2.out.free 2 (by unfold aN;simp)))
 exact aAg (HF2.out.dB (aN 0 0 0) rfl) HN.out rfl rfl (by rw[<-RD.out];rfl)
end Bk
end
section
open Go.RowKit Go.Lib
namespace Bk
open Un (ba bt ri rb aS aZ)
def Dt.Has(d:Dt)(cy cm ck:Int):Prop:=d.dP=0/\ ∃n j,d.Fill cy n j/\(d.mo.size=0\/n=cm)/\(d.da.size=0\/j=ck)
theorem aAH{d:Dt}{cy cm ck y m k:Int}{ok:Bool}(h:d.oU cy cm ck y m k ok):(d.dP=0/\ok=true/\y=cy/\(d.mo.size=0\/m=cm)/\(d.da.size=0\/k=ck))↔d.Has cy cm ck:=by
 unfold Dt.Has;rcases h with⟨h0,hs⟩|⟨h0,_,_,_,rfl⟩
 . have:=Dt.aBR (fmd (fH h0)) hs;rw[<-this];unfold Dt.Is;simp[h0]
 simp[h0]
def aS8(d:Dt)(cy cm ck:Int)(w:World)(e:Ending)(w':World):Prop:= ∃b:Bool,(b=true↔d.Has cy cm ck)/\e=.returned (.bool b)/\Below w.heap.size w w'
theorem aKL(d:Dt)(cy cm ck:Int)(w:World)(hk:lD w)(hs:d.mo.size<=1000)(hy:d.dg.size<=1000)(m0:0<=d.m0)(m1:0<=d.m1)(m2:0<=d.m2)
 (y0: -9223372036854775808<=cy) (y1:cy<9223372036854775808):
 Calls Tryz.prog 294 #[aV d,cvv cy cm ck] w (aS8 d cy cm ck w):=by
 have hD:Rw w.heap.size (bK d) w _:=Rw.fresh (aAI _ _) (bK d) 37;have hD2:=Rw.fresh hD.below (aN cy cm ck) 112;simp only[dF]at hD2;have hA:_/\_:=⟨hD.later (ba (aAI _ _) (.cells (aN cy cm ck).toArray 112)),hD2⟩;clear hD hD2;have HN:=rG (fun W hb=>E8 d cy cm ck W (hk.below (w':=W) hb) hs hy m0 m1 m2 y0 y1);unfold cvv at HN;clear hk hs hy m0 m1 m2;rw[zZ]at HN;unfold aV cvv;unfold bK aN at hA
 go_enter Tryz.func294,Tryz.ntmps294
 go_upto_region 1 with(fail)
 generalize World.alloc _ _=W0 at hA ⊢;have HD:Hid (Rw w.heap.size (bK d) w W0):=rG hA.1;have HE:Hid (Rw (w.heap.size+1) (aN cy cm ck) w W0):=rG hA.2;clear hA;have hR:=HD.out.range;have e0:=HE.out.cell 0 _ rfl;have e1:=HE.out.cell 1 _ rfl;have e2:=HE.out.cell 2 _ rfl;generalize w.heap.size+1=p5 at *
 go_cut [5,6,7] (fun s5 s6 s7 wx=> ∃p y m k ok,s5=.pointer (some ⟨p,0,none⟩)/\s6=.bool ok/\s7=.int .i64 d.dP/\d.oU cy cm ck y m k ok/\Rw p (aN y m k) w wx/\Rw w.heap.size (bK d) w wx/\Rw p5 (aN cy cm ck) w wx)
 case first=>
  go_wp2_with (first
   |(refine aHD rfl 37 (.tmp 2) rfl w.heap.size 0 rfl (bK d) _ hR Tryz.underlying37 rfl dZ ?_)
   |(go_at_call 291;refine(HN.out _ HD.out.below).mono ?_;rintro _ w1 ⟨y,m,k,ok,hx,rfl,hb⟩;have HX:=rG hx;unfold cvv;have HD2:=rG (HD.out.later hb);have HE2:=rG (HE.out.later hb);have hNb:=bt HD.out.below hb;have HF:=rG (Rw.fresh hNb (aN y m k) 112);clear hx hNb))
  go_meet
  have hb2:=ba (aAI w1.heap.size w1) (.cells (aN y m k).toArray 112);exact⟨_,_,_,_,_,rfl,rfl,rfl,HX.out,HF.out,HD2.out.later hb2,HE2.out.later hb2⟩
 case rest=>
  obtain⟨p,y,m,k,ok,rfl,rfl,rfl,hx,hF,hD,hE⟩:=hcut;have HX:=rG (aAH hx);clear e0 e1 e2 hR HN;have e0:=hE.cell 0 _ rfl;have e1:=hE.cell 1 _ rfl;have e2:=hE.cell 2 _ rfl;have f0:=hF.cell 0 _ rfl;have f1:=hF.cell 1 _ rfl;have f2:=hF.cell 2 _ rfl;obtain⟨q0,q1,q2,q3,q4,q5,q6,q7,q8,q9⟩:=hD.rV;have HB:=rG hD.below;generalize d.dP=er at *;rcases fB d.mo with⟨c0,x0⟩|⟨c0,x0⟩<;>rcases fB d.da with⟨c1,x1⟩|⟨c1,x1⟩<;>cases ok
  all_goals
   as_aux_lemma=>
    go_wp2
    all_goals go_ret
    all_goals
     refine⟨_,?_,rfl,HB.out⟩;rw[<-HX.out];clear HX HB
     (try simp only[aGw,aN0,aBA,aDE,aDG,aTj,aDY,aHW,aXa]at *)
     first|(simp[*];done)|(simp;omega)
end Bk
end
section
namespace Bk
def Dt.EN(d:Dt):List Int:=d.ms.reverse
def Dt.dsr(d:Dt):List Int:=d.ds.reverse
theorem Dt.aNI(d:Dt):d.EN.length<=12:=by unfold Dt.EN;rw[aXh];exact d.MC
theorem Dt.aOk(d:Dt):d.dsr.length<=31:=by unfold Dt.dsr;rw[aXh];exact d.aDb
theorem Dt.JB{d:Dt}{m:Int}:m ∈ d.EN↔m ∈ d.ms:=List.mem_reverse
theorem Dt.VQ{d:Dt}{m:Int}:m ∈ d.dsr↔m ∈ d.ds:=List.mem_reverse
def Dt.le(d:Dt)(y m k cy cm ck:Int):Prop:=y<cy\/(y=cy/\(d.mo.size=0\/m<cm\/(m=cm/\(d.da.size=0\/k<=ck))))
def Dt.jX(d:Dt)(cy cm ck:Int)(y m k:Int)(found:Bool):Prop:=
 (found=true/\d.Fill y m k/\d.le y m k cy cm ck/\ ∀z n j,d.Fill z n j->d.le z n j cy cm ck-> ¬uY y m k z n j)\/
 (found=false/\y=0/\m=0/\k=0/\ ∀z n j,d.Fill z n j-> ¬d.le z n j cy cm ck)
def Dt.G6(d:Dt)(n v:Int)(ok:Bool):Prop:=
 (ok=true/\d.In v/\v<=n/\ ∀u,d.In u->u<=n->u<=v)\/(ok=false/\ ∀u,d.In u-> ¬u<=n)
def Dt.XT(d:Dt)(y cy cm ck:Int)(i:Nat):Prop:= ∀j,j<i-> ∀(h:j<d.EN.length),∀k,k ∈ d.ds->k<=d.len y (d.EN[j]'h)-> ¬d.le y (d.EN[j]'h) k cy cm ck
def Dt.aHz(d:Dt)(y m cy cm ck:Int)(i:Nat):Prop:= ∀j,j<i-> ∀(h:j<d.dsr.length),(d.dsr[j]'h)<=d.len y m-> ¬d.le y m (d.dsr[j]'h) cy cm ck
def Dt.aLZ(d:Dt)(y cy cm ck:Int):Prop:= ∀z n j,d.Fill z n j->y<z-> ¬d.le z n j cy cm ck
theorem Dt.aGa(d:Dt)(y cy cm ck:Int):d.XT y cy cm ck 0:=fun j h=>by omega
theorem Dt.aGd(d:Dt)(y m cy cm ck:Int):d.aHz y m cy cm ck 0:=fun j h=>by omega
theorem Dt.aGe{d:Dt}{y m cy cm ck:Int}{i:Nat}(h:d.aHz y m cy cm ck i)(hi:i<d.dsr.length)(hn:(d.dsr[i]'hi)<=d.len y m-> ¬d.le y m (d.dsr[i]'hi) cy cm ck):d.aHz y m cy cm ck (i+1):=by
 intro j hj hl
 by_cases e:j=i
 . subst e;exact hn
 exact h j (by omega) hl
theorem Dt.aGb{d:Dt}{y cy cm ck:Int}{i:Nat}(h:d.XT y cy cm ck i)(hi:i<d.EN.length)(hn:d.aHz y (d.EN[i]'hi) cy cm ck d.dsr.length):d.XT y cy cm ck (i+1):=by
 intro j hj hl
 by_cases e:j=i
 . subst e;intro k hk hkl;obtain⟨a,ha,rfl⟩:=aNU (Dt.VQ.2 hk);exact hn a ha ha hkl
 exact h j (by omega) hl
theorem Dt.aGc{d:Dt}{y cy cm ck:Int}{i:Nat}(h:d.XT y cy cm ck i)(hi:i<d.EN.length)(hy:y=cy)(hm:d.mo.size≠0)(hlt:cm<(d.EN[i]'hi)):d.XT y cy cm ck (i+1):=by
 intro j hj hl
 by_cases e:j=i
 . subst e;rintro k hk hkl (g|⟨g,g|g|⟨g,_⟩⟩)<;>omega
 exact h j (by omega) hl
theorem Dt.aF9{d:Dt}{y v cy cm ck:Int}{ok:Bool}(h:d.aLZ y cy cm ck)(hm:d.XT y cy cm ck d.EN.length)(hy:d.G6 (y - 1) v ok):
 (ok=true->d.aLZ v cy cm ck)/\(ok=false-> ∀z n j,d.Fill z n j-> ¬d.le z n j cy cm ck):=by
 have key: ∀z n j,d.Fill z n j->y<=z-> ¬d.le z n j cy cm ck:=by
  intro z n j hf hz
  by_cases e:z=y
  . subst e;obtain⟨h1,h2,h3,h4⟩:=hf;obtain⟨a,ha,rfl⟩:=aNU (Dt.JB.2 h2);exact hm a ha ha j h3 h4
  exact h z n j hf (by omega)
 constructor
 . rintro rfl z n j hf hz;rcases hy with⟨_,_,_,hmin⟩|⟨h,_⟩
   . exact key z n j hf (by have:=hmin z hf.1;omega)
   cases h
 rintro rfl z n j hf;rcases hy with⟨h,_⟩|⟨_,hno⟩
 . cases h
 exact key z n j hf (by have:=hno z hf.1;omega)
theorem Dt.aCL{d:Dt}{v cy cm ck:Int}{ok:Bool}(hy:d.G6 cy v ok):
 (ok=true->d.aLZ v cy cm ck)/\(ok=false-> ∀z n j,d.Fill z n j-> ¬d.le z n j cy cm ck):=by
 have low: ∀z n j,cy<z-> ¬d.le z n j cy cm ck:=by rintro z n j h (g|⟨g,_⟩)<;>omega
 constructor
 . rintro rfl z n j hf hz;rcases hy with⟨_,_,_,hmin⟩|⟨h,_⟩
   . exact low z n j (by have:=hmin z hf.1;omega)
   cases h
 rintro rfl z n j hf;rcases hy with⟨h,_⟩|⟨_,hno⟩
 . cases h
 exact low z n j (by have:=hno z hf.1;omega)
theorem RU{l:List Int}(hs:l.Pairwise (· < ·)){i j:Nat}(hi:i<l.reverse.length)(hj:j<l.reverse.length)(h:(l.reverse[i]'hi)<(l.reverse[j]'hj)):j<i:=by
 have hr:l.reverse.Pairwise (fun a b=>b<a):=List.pairwise_reverse.2 hs
 by_cases c:j<i
 . exact c
 exfalso
 by_cases e:i=j
 . subst e;omega
 have:=aTo.1 hr i j hi hj (by omega);omega
theorem Dt.aSh{d:Dt}{y cy cm ck:Int}{i j:Nat}(hY:d.In y)(hN:d.aLZ y cy cm ck)(hM:d.XT y cy cm ck i)(hi:i<d.EN.length)(hK:d.aHz y (d.EN[i]'hi) cy cm ck j)(hj:j<d.dsr.length)
 (hl:(d.dsr[j]'hj)<=d.len y (d.EN[i]'hi)) (hg:d.le y (d.EN[i]'hi) (d.dsr[j]'hj) cy cm ck):d.jX cy cm ck y (d.EN[i]'hi) (d.dsr[j]'hj) true:=by
 refine .inl ⟨rfl,⟨hY,Dt.JB.1 (aRy hi),Dt.VQ.1 (aRy hj),hl⟩,hg,?_⟩;intro z n k hf hge hlt;rcases hlt with h|⟨rfl,h|⟨rfl,h⟩⟩
 . exact hN z n k hf h hge
 . obtain⟨_,h2,h3,h4⟩:=hf;obtain⟨a,ha,rfl⟩:=aNU (Dt.JB.2 h2);exact hM a (RU d.EO hi ha h) ha k h3 h4 hge
 obtain⟨_,h2,h3,h4⟩:=hf;obtain⟨a,ha,rfl⟩:=aNU (Dt.VQ.2 h3);exact hK a (RU d.TQ hj ha h) ha h4 hge
theorem aMY{d:Dt}{v m k cy cm ck:Int}{s2:Bool}(hmd:d.mo.size=0->d.da.size=0)(hle:v<=cy)(hns: ¬(v=cy/\d.mo.size≠0/\cm<m))(h2:s2=true↔v=cy/\(d.mo.size=0\/m=cm)):
 d.le v m k cy cm ck↔ ¬(s2=true/\d.da.size≠0/\ck<k):=by
 unfold Dt.le;rw[h2]
 by_cases c:v<cy
 . exact⟨fun _ h=>by omega,fun _=>.inl c⟩
 have e:v=cy:=by omega
 constructor
 . rintro(h|⟨_,h⟩) ⟨⟨_,g1⟩,g2,g3⟩
   . exact c h
   have:d.mo.size≠0:=fun h=>g2 (hmd h);omega
 intro h;refine .inr ⟨e,?_⟩
 by_cases c1:d.mo.size=0
 . exact .inl c1
 by_cases c2:m=cm
 . refine .inr (.inr ⟨c2,?_⟩)
   by_cases c3:d.da.size=0
   . exact .inl c3
   right
   by_cases c4:ck<k
   . exact absurd ⟨⟨e,.inr c2⟩,c3,c4⟩ h
   omega
 right;left;omega
structure XQ(d:Dt)(cy cm ck:Int)(v:Int)(ok:Bool):Prop where
 yes:ok=true->d.In v/\v<=cy/\d.aLZ v cy cm ck
 no:ok=false-> ∀z n j,d.Fill z n j-> ¬d.le z n j cy cm ck
theorem XQ.start{d:Dt}{cy cm ck v:Int}{ok:Bool}(h:d.G6 cy v ok):XQ d cy cm ck v ok:=by
 have hs:=Dt.aCL (cm:=cm) (ck:=ck) h;refine⟨fun e=>?_,hs.2⟩;rcases h with g|g
 . exact⟨g.2.1,g.2.2.1,hs.1 e⟩
 rw[g.1]at e;cases e
theorem XQ.next{d:Dt}{cy cm ck y v:Int}{ok:Bool}(hs:XQ d cy cm ck y true)(hm:d.XT y cy cm ck d.EN.length)(h:d.G6 (y - 1) v ok):XQ d cy cm ck v ok/\(ok=true->v<y):=by
 obtain⟨h1,h2,h3⟩:=hs.yes rfl;have hn:=Dt.aF9 h3 hm h;rcases h with g|g
 . exact⟨⟨fun e=>⟨g.2.1,by have:=g.2.2.1;omega,hn.1 e⟩,hn.2⟩,fun _=>by have:=g.2.2.1;omega⟩
 refine⟨⟨fun e=>?_,hn.2⟩,fun e=>?_⟩<;>(rw[g.1]at e;cases e)
theorem JD{y m k z n j:Int}(h1: ¬uY y m k z n j)(h2: ¬uY z n j y m k):y=z/\m=n/\k=j:=by
 unfold uY at h1 h2;omega
theorem Dt.aBQ{d:Dt}{cy cm ck y m k y' m' k':Int}{b b':Bool}(h:d.jG cy cm ck y m k b)(h':d.jG cy cm ck y' m' k' b'):(y,m,k,b)=(y',m',k',b'):=by
 rcases h with⟨rfl,h1,h2,h3⟩|⟨rfl,rfl,rfl,rfl,h3⟩<;>rcases h' with⟨rfl,g1,g2,g3⟩|⟨rfl,rfl,rfl,rfl,g3⟩
 . obtain⟨rfl,rfl,rfl⟩:=JD (g3 _ _ _ h1 h2) (h3 _ _ _ g1 g2);rfl
 . exact absurd h2 (g3 _ _ _ h1)
 . exact absurd g2 (h3 _ _ _ g1)
 rfl
theorem Dt.YV{d:Dt}{cy cm ck y m k y' m' k':Int}{b b':Bool}(h:d.jX cy cm ck y m k b)(h':d.jX cy cm ck y' m' k' b'):(y,m,k,b)=(y',m',k',b'):=by
 rcases h with⟨rfl,h1,h2,h3⟩|⟨rfl,rfl,rfl,rfl,h3⟩<;>rcases h' with⟨rfl,g1,g2,g3⟩|⟨rfl,rfl,rfl,rfl,g3⟩
 . obtain⟨rfl,rfl,rfl⟩:=JD (h3 _ _ _ g1 g2) (g3 _ _ _ h1 h2);rfl
 . exact absurd h2 (g3 _ _ _ h1)
 . exact absurd g2 (h3 _ _ _ g1)
 rfl
open Classical in
noncomputable def Dt.nx(d:Dt)(c:Int × Int × Int):Int × Int × Int × Bool:=if h: ∃t:Int × Int × Int × Bool,d.jG c.1 c.2.1 c.2.2 t.1 t.2.1 t.2.2.1 t.2.2.2 then h.choose else(0,0,0,false)
open Classical in
noncomputable def Dt.pv(d:Dt)(c:Int × Int × Int):Int × Int × Int × Bool:=if h: ∃t:Int × Int × Int × Bool,d.jX c.1 c.2.1 c.2.2 t.1 t.2.1 t.2.2.1 t.2.2.2 then h.choose else(0,0,0,false)
theorem Dt.aJC{d:Dt}{cy cm ck y m k:Int}{b:Bool}(h:d.jG cy cm ck y m k b):d.nx (cy,cm,ck)=(y,m,k,b):=by
 have he: ∃t:Int × Int × Int × Bool,d.jG cy cm ck t.1 t.2.1 t.2.2.1 t.2.2.2:=⟨(y,m,k,b),h⟩;unfold Dt.nx;rw[dif_pos he];exact Dt.aBQ he.choose_spec h
theorem Dt.aIr{d:Dt}{cy cm ck y m k:Int}{b:Bool}(h:d.jX cy cm ck y m k b):d.pv (cy,cm,ck)=(y,m,k,b):=by
 have he: ∃t:Int × Int × Int × Bool,d.jX cy cm ck t.1 t.2.1 t.2.2.1 t.2.2.2:=⟨(y,m,k,b),h⟩;unfold Dt.pv;rw[dif_pos he];exact Dt.YV he.choose_spec h
end Bk
end
section
open Go.RowKit Go.Lib
namespace Bk
open Un (ba bt ri rb aS aZ)
theorem QC(s:ByteArray)(n:Int)(w:World)(h4:s.size=4)(hx:allB bV s=true)(n0: -9223372036854775808<=n)(n1:n<9223372036854775808):
 Calls Tryz.prog 137 #[.string s,.int .i64 n,.bool true,.int .i64 1] w (UF (UpR (aX s) n 1) w):=by
 have HN:=rG (fun w=>pO s (max n 1) w h4 hx);have HU: ∀v x,oU (aX s) (max n 1) v x->UpR (aX s) n 1 v (x==0):=by
  intro v x h;obtain⟨b0,b1,_⟩:=aAi h;refine⟨b0,b1,?_⟩;rcases h with⟨rfl,h1,h2,h3⟩|⟨rfl,_,h3⟩
  . exact .inl ⟨rfl,h1,by omega,by omega,fun f hf g1 g2=>h3 f hf (by omega)⟩
  exact .inr ⟨rfl,fun f hf hl=>by have:=h3 f hf;have:=hf.1;omega⟩
 replace HU:=rG HU
 go_enter Tryz.func137,Tryz.ntmps137
 go_wp2_with fail
 refine(HN.out _).mono ?_;rintro _ w1 ⟨v,x,hN,rfl,hb1⟩;have hR:=rG (HU.out _ _ hN);clear hN
 go_wp2_with fail
 go_ret2
 exact⟨_,_,hR.out,rfl,hb1⟩
theorem QD(s:ByteArray)(n:Int)(w:World)(h4:s.size=4)(hx:allB bV s=true):
 Calls Tryz.prog 137 #[.string s,.int .i64 n,.bool false,.int .i64 0] w (UF (DnR (aX s) n 0) w):=by
 have HN:=rG (fun w=>pK s n w h4 hx);have HU: ∀v x,qL (aX s) n v x->DnR (aX s) n 0 v (x==0&&decide (0<=v)):=by
  intro v x h;obtain⟨b0,b1,_⟩:=BL h;refine⟨b0,b1,?_⟩;rcases h with⟨rfl,h1,h2,h3⟩|⟨rfl,_,h3⟩
  . by_cases c:0<=v
    . exact .inl ⟨by rw[aBz c];rfl,h1,h2,c,h3⟩
    exact .inr ⟨by rw[aBy c];rfl,fun f hf hl=>by have:=h3 f hf hl;omega⟩
  exact .inr ⟨rfl,fun f hf hl=>by have:=h3 f hf;omega⟩
 replace HU:=rG HU
 go_enter Tryz.func137,Tryz.ntmps137
 go_wp2_with fail
 refine(HN.out _).mono ?_;rintro _ w1 ⟨v,x,hN,rfl,hb1⟩;have hR:=HU.out _ _ hN;have hx2:=(BL hN).2.2;clear hN;rcases hx2 with rfl|rfl
 . have hR2:=rG (show DnR (aX s) n 0 v (decide (0<=v)) by rw[show ((0:Int)==0)=true from rfl,aQN]at hR;exact hR);clear hR
   go_wp2_with fail
   go_ret2
   exact⟨_,_,hR2.out,rfl,hb1⟩
 have hR2:=rG (show DnR (aX s) n 0 v false by rw[show ((16:Int)==0)=false from rfl,aTz]at hR;exact hR);clear hR
 go_wp2_with fail
 go_ret2
 exact⟨_,_,hR2.out,rfl,hb1⟩
theorem aBE{d:Dt}{n:Int}(hm:d.mask=false):d.G6 n (yVal d.neg d.dg d.ex) (decide (yVal d.neg d.dg d.ex<=n)):=by
 have hin: ∀u,d.In u↔u=yVal d.neg d.dg d.ex:=fun u=>by
  unfold Dt.In yVal Dt.mag;rw[aBx (by rw[hm];decide)]
 by_cases c:yVal d.neg d.dg d.ex<=n
 . exact .inl ⟨aBz c,(hin _).2 rfl,c,fun u hu _=>by rw[(hin u).1 hu];exact aTF _⟩
 exact .inr ⟨aBy c,fun u hu h=>by rw[(hin u).1 hu]at h;exact c h⟩
theorem aMH{d:Dt}{n v:Int}{ok:Bool}(hm:d.mask=true)(hn:d.neg=false)(h:DnR (aX d.dg) n 0 v ok):d.G6 n v ok:=by
 have hin: ∀u,d.In u↔pG (aX d.dg) u:=fun u=>by
  unfold Dt.In;rw[aDk hm,aBx (by rw[hn];decide)]
 rcases h.2.2 with⟨h1,h2,h3,_,h4⟩|⟨h1,h2⟩
 . exact .inl ⟨h1,(hin _).2 h2,h3,fun u hu hl=>h4 u ((hin u).1 hu) hl⟩
 exact .inr ⟨h1,fun u hu hl=>by have:=h2 u ((hin u).1 hu) hl;have:=((hin u).1 hu).1;omega⟩
theorem aMG{d:Dt}{n v:Int}{ok:Bool}(hm:d.mask=true)(hn:d.neg=true)(h:UpR (aX d.dg) (-(max n (-9223372036854775807))) 1 v ok):d.G6 n (-v) ok:=by
 have hin: ∀u,d.In u↔(pG (aX d.dg) (-u)/\u≠0):=fun u=>by
  unfold Dt.In;rw[aDk hm,aDk hn]
 have hv:=h.2.1;rcases h.2.2 with⟨h1,h2,h3,h5,h4⟩|⟨h1,h2⟩
 . refine .inl ⟨h1,(hin _).2 ⟨by rw[Int.neg_neg];exact h2,by omega⟩,by omega,fun u hu hl=>?_⟩;obtain⟨g1,g2⟩:=(hin u).1 hu;have:=h4 (-u) g1 (by have:=g1.2.1;omega) (by have:=g1.1;omega);omega
 refine .inr ⟨h1,fun u hu hl=>?_⟩;obtain⟨g1,g2⟩:=(hin u).1 hu;have:=h2 (-u) g1 (by have:=g1.1;omega);have:=g1.2.1;omega
theorem QV(d:Dt)(mv dv:Value)(n:Int)(w:World)(hy:d.dg.size<=1000)(hok:d.JW=true)(n0: -9223372036854775808<=n)(n1:n<9223372036854775808):
 Calls Tryz.prog 114 #[fmv d mv dv,.int .i64 n,.bool false] w (UF (fun v ok=>d.G6 n v ok) w):=by
 have hF:Rw w.heap.size (iE d mv dv) w _:=Rw.fresh (aAI _ _) (iE d mv dv) 116;unfold iE at hF;have hM:=fun W=>oJ d.neg d.long d.dg d.ex d.sig W;unfold yv at hM;unfold Dt.JW at hok;unfold fmv
 go_enter Tryz.func114,Tryz.ntmps114
 go_upto_region 1 with(fail)
 generalize w.alloc _=W0 at hF ⊢;obtain⟨r0,r1,r2,r3,r4⟩:=(⟨hF.cell 0 _ rfl,hF.cell 1 _ rfl,hF.cell 2 _ rfl,hF.cell 3 _ rfl,hF.cell 4 _ rfl⟩:_/\_/\_/\_/\_);have HB0:=rG hF.below;clear hF
 go_upto_region 2 with(fail)
 have hY:=Ym.new d.neg d.long d.dg d.ex d.sig W0 35;generalize W0.alloc _=W1 at hY ⊢;clear r0 r1 r2 r3 r4;obtain⟨q0,q1,q2,q3,q4,qB⟩:=id hY
 cases hx:hasB 88 d.dg
 . rw[hx]at hM;have HM:=rG hM;have hV:=fun W=>zC d.neg d.long d.dg d.ex d.sig W hy hok hx;unfold yv at hV;have HV:=rG hV;have HP:=rG (aBE (d:=d) (n:=n) (by unfold Dt.mask;exact hx));have hb:=UN hok hx;clear hM hV hok hx;generalize yVal d.neg d.dg d.ex=v at *
   go_wp2_with fail
   refine(HM.out _).mono ?_;rintro _ w1 ⟨rfl,hb⟩;replace hY:=hY.later hb;clear hb;obtain⟨q0,q1,q2,q3,q4,qB⟩:=id hY
   go_wp2_with fail
   refine(HV.out _).mono ?_;rintro _ w2 ⟨rfl,hb⟩;replace hY:=hY.later hb;clear hb;obtain⟨q0,q1,q2,q3,q4,qB⟩:=id hY;have HB2:=rG (bt HB0.out hY.below)
   by_cases cn:v<=n
   . rw[aBz cn]at HP
     go_wp2_with fail
     go_ret2
     exact⟨_,_,HP.out,rfl,HB2.out⟩
   go_wp2_with fail
   go_ret2
   exact⟨_,_,HP.out,rfl,HB2.out⟩
 have hs:d.long=false/\d.dg.size=4/\allB bV d.dg=true:=by
  rcases aTa d.long with hl|hl
  case inr=>
   rw[hl]at hok;obtain⟨h1,h2,_⟩:=iD hok;exact⟨hl,h1,h2⟩
  case inl=>
   rw[hl]at hok;have hd:=(jI hok).2.2.1;have:=(jV (qJ hd)).2 hd;rw[hx]at this;cases this
 obtain⟨-,h4,hdx⟩:=hs;rw[hx]at hM;have HM:=rG hM;have hmk:d.mask=true:=by unfold Dt.mask;exact hx
 rcases aTa d.neg with hn|hn
 case inr=>
  as_aux_lemma=>
   have HU:=rG (fun w=>QD d.dg n w h4 hdx);have HP:=rG (fun v ok h=>aMH (n:=n) (v:=v) (ok:=ok) hmk hn h);have HN:=rG hn;clear hM hok hx h4 hdx hmk hn
   go_wp2_with fail
   refine(HM.out _).mono ?_;rintro _ w1 ⟨rfl,hb⟩;replace hY:=hY.later hb;clear hb;obtain⟨q0,q1,q2,q3,q4,qB⟩:=id hY;rw[HN.out]at q0
   go_wp2_with fail
   refine(HU.out _).mono ?_;rintro _ w2 ⟨v,ok,hU,rfl,hb⟩;have HP2:=rG (HP.out _ _ hU);have HB2:=rG (bt (bt HB0.out hY.below) hb);clear hb hU
   go_wp2_with fail
   go_ret2
   exact⟨_,_,HP2.out,rfl,HB2.out⟩
 case inl=>
  as_aux_lemma=>
   have HU:=rG (fun w=>QC d.dg (-(max n (-9223372036854775807))) w h4 hdx (by omega) (by omega));have HP:=rG (fun v ok h=>aMG (n:=n) (v:=v) (ok:=ok) hmk hn h);have HN:=rG hn;clear hM hok hx h4 hdx hmk hn
   go_wp2_with fail
   refine(HM.out _).mono ?_;rintro _ w1 ⟨rfl,hb⟩;replace hY:=hY.later hb;clear hb;obtain⟨q0,q1,q2,q3,q4,qB⟩:=id hY;rw[HN.out]at q0
   go_wp2_with fail
   refine(HU.out _).mono ?_;rintro _ w2 ⟨v,ok,hU,rfl,hb⟩;have HP2:=rG (HP.out _ _ hU);have hw:wrap64 (-v)= -v:=by
    have g0:=hU.1;have g1:=hU.2.1;unfold wrap64;omega
   have HB2:=rG (bt (bt HB0.out hY.below) hb);clear hb hU
   go_wp2_with fail
   rw[hw]
   go_ret2
   exact⟨_,_,HP2.out,rfl,HB2.out⟩
end Bk
end
section
open Go.RowKit Go.Lib
namespace Bk
open Un (ba bt ri rb aS aZ)
def AQ(base:Nat)(W:World)(v:Value)(l:List Int):Prop:=W.ownsRow base 3 1 v l.length (l.map (.int .i64))/\v≠ .slice none 0 0
theorem AQ.sl{base:Nat}{W:World}{v:Value}{l:List Int}(h:AQ base W v l)(hne:l≠[]):bD W v l:=bD.own h.1 hne
theorem rO{w w':World}{base e size n:Nat}{v:Value}{xs:List Value}(h:w.ownsRow base e size v n xs)(hb: ∀g,v.ownBlock=some g->w'.heap[g]? =w.heap[g]?):w'.ownsRow base e size v n xs:=by
 refine⟨h.1,?_⟩;rcases h.2 with h2|⟨g,cap,cur,rfl,h3,h4,h5⟩
 . exact .inl h2
 exact .inr ⟨g,cap,cur,rfl,h3,(hb g rfl).trans h4,h5⟩
theorem AQ.later{base:Nat}{W W2:World}{v:Value}{l:List Int}(h:AQ base W v l)(hb:Below W.heap.size W W2):AQ base W2 v l:=by
 refine⟨rO h.1 (fun g hg=>?_),h.2⟩;obtain⟨g',cap,rfl,_,hlt,_⟩:=aVj h.1 h.2
 cases hg
 exact hb.block _ hlt
theorem clone_any(v:Value)(l:List Int)(w:World)(hlen:l.length<=1000)(h:bD w v l):
 Calls Tryz.prog 111 #[v] w fun e w'=> ∃v',e=.returned v'/\AQ w.heap.size w' v' l/\Below w.heap.size w w':=by
 obtain⟨g,cap,rfl,_,hc⟩:=h;refine(Tryz.slices_Clone_int g 0 l.length cap l w (aEc _) (by omega) (fun j hj=>?_)).mono ?_
 . rw[aKP,hc j hj];simp[List.getD,aEM hj]
 rintro e w' ⟨v',rfl,h1,h2,h3⟩;rw[aXV]at h1;exact⟨v',rfl,⟨h1,h2⟩,h3⟩
structure Rev(v:Value)(l:List Int)(base:Nat)(w w':World):Prop where
 own:AQ base w' v l.reverse
 below: ∀B w0,Below B w0 w->B<=base->Below B w0 w'
 other: ∀g,v.ownBlock≠some g->w'.heap[g]? =w.heap[g]?
theorem F6(v:Value)(l:List Int)(base:Nat)(w:World)(hlen:l.length<=1000)(h:AQ base w v l):
 Calls Tryz.prog 112 #[v] w fun e w'=>e=.returned (.tuple #[])/\Rev v l base w w':=by
 obtain⟨g,cap,rfl,hb,hlt,_,_,_,hH⟩:=aVj h.1 h.2;refine(Tryz.slices_Reverse_int g 0 cap l w hH (by omega)).mono ?_;rintro e w' ⟨rfl,n,rfl⟩;refine⟨rfl,⟨?_,(by simp)⟩,fun B w0 hB hle=>below_putRow hB (aHU hle hb),fun k hk=>?_⟩
 . have:=ownsRow_putRow (q:=n) (ys:=l.reverse) (k:=l.length) h.1 (by simp) (aEc _);rw[aTf (by simp)]at this;rw[aXh];exact this
 have hne:g≠k:=fun e=>hk (by rw[e];rfl);simp[Sort.putRow,Sort.mapBlock,Sort.ahead,aW7,hne]
theorem OX(a b:Int)(p:Nat)(w:World)(hc:w.cell? ⟨p,0,none⟩=some (.bool false)):
 Calls Tryz.prog 113 #[.int .i64 a,.int .i64 b,.pointer (some ⟨p,0,none⟩)] w fun r w'=>r=.returned (.bool (decide (b<a)))/\w=w':=by
 go_enter Tryz.func113,Tryz.ntmps113
 by_cases c:b<a
 . rw[aBz c]
   go_wp2_with fail
   go_ret
   exact⟨rfl,rfl⟩
 rw[aBy c]
 go_wp2_with fail
 go_ret
 exact⟨rfl,rfl⟩
def AP(d:Dt)(cy cm ck:Int)(w:World)(e:Ending)(w':World):Prop:= ∃y m k ok,d.jX cy cm ck y m k ok/\e=.returned (.tuple #[cvv y m k,.bool ok])/\Below w.heap.size w w'
structure SkD(d:Dt)(mv dv mr dr:Value)(cy cm ck:Int)(p3 p4 p5 p6:Nat)(w W:World):Prop where
 f:Rw p3 (iE d mv dv) w W
 c:Rw p4 (aN cy cm ck) w W
 u:Rw p5 [.bool false] w W
 o:Rw p6 (aN 0 0 0) w W
 m:bD W mr d.EN
 d:bD W dr d.dsr
theorem SkD.later{d:Dt}{mv dv mr dr:Value}{cy cm ck:Int}{p3 p4 p5 p6:Nat}{w W W2:World}(h:SkD d mv dv mr dr cy cm ck p3 p4 p5 p6 w W)(hb:Below W.heap.size W W2):SkD d mv dv mr dr cy cm ck p3 p4 p5 p6 w W2:=
 ⟨h.f.later hb,h.c.later hb,h.u.later hb,h.o.later hb,h.m.later hb,h.d.later hb⟩
structure Sk0(d:Dt)(mv dv:Value)(cy cm ck:Int)(p3 p4 p5 p6:Nat)(w W:World):Prop where
 f:Rw p3 (iE d mv dv) w W
 c:Rw p4 (aN cy cm ck) w W
 u:Rw p5 [.bool false] w W
 o:Rw p6 (aN 0 0 0) w W
 m:bD W mv d.ms
 d:bD W dv d.ds
theorem Sk0.later{d:Dt}{mv dv:Value}{cy cm ck:Int}{p3 p4 p5 p6:Nat}{w W W2:World}(h:Sk0 d mv dv cy cm ck p3 p4 p5 p6 w W)(hb:Below W.heap.size W W2):Sk0 d mv dv cy cm ck p3 p4 p5 p6 w W2:=
 ⟨h.f.later hb,h.c.later hb,h.u.later hb,h.o.later hb,h.m.later hb,h.d.later hb⟩
theorem Sk0.new(d:Dt){mv dv:Value}(cy cm ck:Int)(w:World)(t1 t2 t3 t4:TypeId)(hm:bD w mv d.ms)(hd:bD w dv d.ds):
 Sk0 d mv dv cy cm ck w.heap.size (w.heap.size+1) (w.heap.size+1+1) (w.heap.size+1+1+1) w ((((w.alloc (.cells (iE d mv dv).toArray t1)).alloc (.cells (aN cy cm ck).toArray t2)).alloc (.cells #[.bool false] t3)).alloc (.cells (aN 0 0 0).toArray t4)):=by
 have f1:=Rw.fresh (aAI w.heap.size w) (iE d mv dv) t1;have f2:=Rw.fresh f1.below (aN cy cm ck) t2;have f3:=Rw.fresh f2.below [.bool false] t3;have f4:=Rw.fresh f3.below (aN 0 0 0) t4;simp only[dF]at f2 f3 f4;refine⟨?_,?_,?_,f4,?_,?_⟩
 . exact((f1.later (ba (aAI _ _) _)).later (ba (aAI _ _) _)).later (ba (aAI _ _) _)
 . exact(f2.later (ba (aAI _ _) _)).later (ba (aAI _ _) _)
 . exact f3.later (ba (aAI _ _) _)
 . exact hm.later f4.below
 exact hd.later f4.below
theorem RY{d:Dt}{cy cm ck y m k:Int}{ok:Bool}{p6:Nat}{w wO:World}{tmps:Array Value}(ho:Rw p6 (aN 0 0 0) w wO)(h:d.jX cy cm ck y m k ok)
 (hp:tmps.getD 6 undef=.pointer (some ⟨p6,0,none⟩)) (hq:tmps.getD 7 undef=.bool ok):
 bodyPost Tryz.prog Tryz.f83 (AP d cy cm ck w) Exit.ret ⟨tmps,[]⟩ (((wO.setCell ⟨p6,0,none⟩ (.int .i64 y)).setCell ⟨p6,1,none⟩ (.int .i64 m)).setCell ⟨p6,2,none⟩ (.int .i64 k)):=by
 have hX:=ho.dB (aN y m k) rfl;have hr:=aMj (P:=Tryz.prog) _ p6 0 112 (aN y m k) _ hX.range Tryz.underlying112 rfl qG;exact aHE (v:=.tuple #[cvv y m k,.bool ok]) (qV Tryz.results83 _ hp hq hr) rfl ⟨y,m,k,ok,h,rfl,hX.below⟩
def aUO(y f:Value):Nat:=TT f * (intOf y+10000000000000002).toNat
theorem AQ.other{b1 b2:Nat}{w1 w2 w3:World}{v1 v2:Value}{l1 l2:List Int}(h2:AQ w1.heap.size w2 v2 l2)(r:Rev v1 l1 b1 w2 w3)(h1:AQ b2 w1 v1 l1)(hb:Below w1.heap.size w1 w2):AQ w1.heap.size w3 v2 l2:=by
 refine⟨rO h2.1 (fun g hg=>r.other g (fun e=>?_)),h2.2⟩;obtain⟨g1,c1,rfl,_,hlt,_⟩:=aVj h1.1 h1.2;obtain⟨g2,c2,rfl,hle,_,_⟩:=aVj h2.1 h2.2
 cases hg;cases e
 omega
theorem Sk0.turn{d:Dt}{mv dv v1 v2:Value}{cy cm ck:Int}{p3 p4 p5 p6:Nat}{w wx w1 w2 w3 w4:World}(h:Sk0 d mv dv cy cm ck p3 p4 p5 p6 w wx)(o1:AQ wx.heap.size w1 v1 d.ms)(b1:Below wx.heap.size wx w1)(o2:AQ w1.heap.size w2 v2 d.ds)(b2:Below w1.heap.size w1 w2)
 (r1:Rev v1 d.ms wx.heap.size w2 w3) (r2:Rev v2 d.ds w1.heap.size w3 w4) (hmn:d.ms≠[]) (hdn:d.ds≠[]):SkD d mv dv v1 v2 cy cm ck p3 p4 p5 p6 w w4:=by
 have B2:=bt b1 b2;have B3:=r1.below _ _ B2 (aEc _);have B4:=r2.below _ _ B3 b1.size;refine⟨h.f.later B4,h.c.later B4,h.u.later B4,h.o.later B4,?_,r2.own.sl (by simp[hdn])⟩;have hm:AQ wx.heap.size w4 v1 d.ms.reverse:=by
  refine⟨rO r1.own.1 (fun g hg=>r2.other g (fun e=>?_)),r1.own.2⟩;obtain⟨g1,c1,rfl,_,hlt,_⟩:=aVj o1.1 o1.2;obtain⟨g2,c2,rfl,hle,_,_⟩:=aVj o2.1 o2.2
  cases hg;cases e
  omega
 exact hm.sl (by simp[hmn])
theorem aFc (d : Dt) (mv dv:Value) (cy cm ck:Int) (w:World) (hk:lD w) (hy:d.dg.size<=1000) (hok:d.JW=true) (hmd:d.mo.size=0->d.da.size=0)
 (y0: -9223372036854775808<=cy) (y1:cy<9223372036854775808) (hm:bD w mv d.ms) (hd:bD w dv d.ds) (hmn:d.ms≠[]) (hdn:d.ds≠[]) (hmm:d.da.size≠0-> ∀m,m ∈ d.ms->1<=m/\m<=12):
 Calls Tryz.prog 83 #[fmv d mv dv,cvv cy cm ck,.bool false] w (AP d cy cm ck w):=by
 obtain⟨gm,xm,rfl,-,-⟩:=id hm;obtain⟨gd,xd,rfl,-,-⟩:=id hd;have hS:=Sk0.new d cy cm ck w 116 112 4 112 hm hd;have HY:=rG (fun n W h0 h1=>QV d (.slice (some ⟨gm,0,none⟩) d.ms.length xm) (.slice (some ⟨gd,0,none⟩) d.ds.length xd) n W hy hok h0 h1);have HL:=rG (fun y m W hb h0 h1 hm=>GU d (.slice (some ⟨gm,0,none⟩) d.ms.length xm) (.slice (some ⟨gd,0,none⟩) d.ds.length xd) y m W (hk.below (w':=W) hb) h0 h1 hm);have HIN:=rG (fun y (h:d.In y)=>Dt.jU hok h);have HMM:=rG hmm;have HMD:=rG hmd;unfold fmv at HY HL;unfold fmv cvv;unfold iE aN at hS
 go_enter Tryz.func83,Tryz.ntmps83
 go_upto_region 1 with(fail)
 generalize World.alloc _ _=W0 at hS ⊢;generalize w.heap.size+1+1+1=p6 at *;generalize w.heap.size+1+1=p5 at *;generalize w.heap.size+1=p4 at *;have HMN:=rG hmn;have HDN:=rG hdn;clear hk hy hok hm hd hmm hmd hmn hdn;replace hS:Hid (Sk0 d (.slice (some ⟨gm,0,none⟩) d.ms.length xm) (.slice (some ⟨gd,0,none⟩) d.ds.length xd) cy cm ck w.heap.size p4 p5 p6 w W0):=rG hS;have HB0:=rG hS.out.f.below
 go_cut [8,9,10] (fun a b c wx=>a=.int .i64 1/\ .slice (some ⟨gm,0,none⟩) d.ms.length xm=b/\ .slice (some ⟨gd,0,none⟩) d.ds.length xd=c/\Sk0 d b c cy cm ck w.heap.size p4 p5 p6 w wx)
 case first=>
  have f0:=hS.out.f.cell 10 _ rfl;have f1:=hS.out.f.cell 11 _ rfl
  go_region_with (fail)
  all_goals (go_wp2_with fail)
  all_goals (go_meet;exact⟨rfl,rfl,rfl,hS.out.later (aAI W0.heap.size W0).drew⟩)
 case rest=>
 obtain⟨rfl,rfl,rfl,hS⟩:=hcut;replace hS:=rG hS;have ml:=d.MC;have dl:=d.aDb;have hu:=hS.out.u.cell 0 _ rfl
 go_wp2_with fail
 refine(clone_any _ d.ms _ (by omega) hS.out.m).mono ?_;rintro _ w1 ⟨v1,rfl,o1,b1⟩;have O1:=rG o1;have B1:=rG b1;clear o1 b1 hu
 go_wp2_with fail
 refine(clone_any _ d.ds _ (by omega) (hS.out.d.later B1.out)).mono ?_;rintro _ w2 ⟨v2,rfl,o2,b2⟩;have O2:=rG o2;have B2:=rG b2;clear o2 b2
 go_wp2_with fail
 refine(F6 v1 d.ms _ _ (by omega) (O1.out.later B2.out)).mono ?_;rintro _ w3 ⟨rfl,r1⟩;have R1:=rG r1;clear r1
 go_wp2_with fail
 refine(F6 v2 d.ds w1.heap.size _ (by omega) (O2.out.other R1.out O1.out B2.out)).mono ?_;rintro _ w4 ⟨rfl,r2⟩;have R2:=rG r2;clear r2;have hX:=Sk0.turn hS.out O1.out B1.out O2.out B2.out R1.out R2.out HMN.out HDN.out;obtain⟨gn,xn,rfl,-,-⟩:=id hX.m;obtain⟨ge,xe,rfl,-,-⟩:=id hX.d;replace hS:=rG hX;clear hX O1 B1 O2 B2 R1 R2 ml dl;have hu:=hS.out.u.cell 0 _ rfl;have g0:=hS.out.c.cell 0 _ rfl;have hR:=hS.out.f.range
 go_wp2_with (first
  |(refine aHD rfl 116 (.tmp 3) rfl w.heap.size 0 rfl (iE d (.slice (some ⟨gm,0,none⟩) d.ms.length xm) (.slice (some ⟨gd,0,none⟩) d.ds.length xd)) _ hR Tryz.underlying116 rfl jQ ?_)
  |(go_at_call 114;refine(HY.out _ _ y0 y1).mono ?_;rintro _ w1 ⟨v,ok,hv,rfl,hb⟩))
 replace hS:Hid (SkD d (.slice (some ⟨gm,0,none⟩) d.ms.length xm) (.slice (some ⟨gd,0,none⟩) d.ds.length xd) (.slice (some ⟨gn,0,none⟩) d.EN.length xn) (.slice (some ⟨ge,0,none⟩) d.dsr.length xe) cy cm ck w.heap.size p4 p5 p6 w w1):=rG (hS.out.later hb);have HV0:Hid (XQ d cy cm ck v ok):=rG (XQ.start hv);clear hu g0 hR hv hb HB0
 go_loopw [7,12,13] (fun r y f wr=> ∃v ok,r=.bool false/\y=.int .i64 v/\f=.bool ok/\XQ d cy cm ck v ok/\SkD d (.slice (some ⟨gm,0,none⟩) d.ms.length xm) (.slice (some ⟨gd,0,none⟩) d.ds.length xd) (.slice (some ⟨gn,0,none⟩) d.EN.length xn) (.slice (some ⟨ge,0,none⟩) d.dsr.length xe) cy cm ck w.heap.size p4 p5 p6 w wr) (fun _ y f _=>aUO y f)
 case atStart=>exact⟨v,ok,rfl,rfl,rfl,HV0.out,hS.out⟩
 case round =>
  obtain⟨v,ok,rfl,rfl,rfl,hV,hS⟩:=hrel;generalize wr=wO at *;have HV:=rG hV;have HS:=rG hS;clear hV hS
  cases ok
  . have HN:=rG (HV.out.no rfl);have f0:=HS.out.o.cell 0 _ rfl;have f1:=HS.out.o.cell 1 _ rfl;have f2:=HS.out.o.cell 2 _ rfl;have z0:=HS.out.o.free 0 (by unfold aN;simp);have z1:=HS.out.o.free 1 (by unfold aN;simp);have z2:=HS.out.o.free 2 (by unfold aN;simp)
    go_wp2_with fail
    exact RY HS.out.o (.inr ⟨rfl,rfl,rfl,rfl,HN.out⟩) rfl rfl
  obtain ⟨i1, i2, i3⟩:=HV.out.yes rfl;have HIV:=rG (HIN.out _ i1);have HLE:=rG i2;clear i1 i2 i3
  go_wp2_with fail
  go_step3
  go_wp2_with fail
  go_step3
  go_wp2_with fail
  have HM0:=rG (Dt.aGa d v cy cm ck)
  go_loopw [7,55] (fun r i wr=> ∃i':Nat,r=.bool false/\i=.int .i64 i'/\i'<=d.EN.length/\d.XT v cy cm ck i'/\SkD d (.slice (some ⟨gm,0,none⟩) d.ms.length xm) (.slice (some ⟨gd,0,none⟩) d.ds.length xd) (.slice (some ⟨gn,0,none⟩) d.EN.length xn) (.slice (some ⟨ge,0,none⟩) d.dsr.length xe) cy cm ck w.heap.size p4 p5 p6 w wr) (fun _ i _=>d.EN.length - (intOf i).toNat)
  case atStart=>exact⟨0,rfl,rfl,by omega,HM0.out,HS.out⟩
  case round =>
   obtain⟨i,rfl,rfl,hi,hM,hS⟩:=hrel;clear HS HM0;generalize wr=wO at *;have HS:=rG hS;have HM:=rG hM;clear hS hM;have ml:=d.aNI
   by_cases hlt:i<d.EN.length
   . have hcell :=HS.out.m.at i hlt;generalize hme:d.EN[i]'hlt=m at hcell;have g0:=HS.out.c.cell 0 _ rfl
     go_upto_region 13 with(fail)
     go_cut [16] (fun s wx=> ∃b,s=.bool b/\(b=true↔v=cy)/\wO=wx)
     case first=>
      go_wp2_with fail
      go_meet
      exact⟨_,rfl,by simp,rfl⟩
     case rest=>
      obtain⟨sb,rfl,hsb,rfl⟩:=hcut;have I4:=rG hsb;clear hsb g0 hcell
      go_upto_region 14 with(fail)
      go_cut [76] (fun s wx=> ∃b,s=.bool b/\(b=true↔(v=cy/\d.mo.size≠0/\cm<m))/\wO=wx)
      case first=>
       have g5:=HS.out.f.cell 5 _ rfl;have g1:=HS.out.c.cell 1 _ rfl;have hu:=HS.out.u.cell 0 _ rfl;have HA:=rG (OX m cm p5 wO hu)
       cases sb
       . have hne:v≠cy:=fun e=>by have:=I4.out.2 e;cases this
         go_wp2_with fail
         go_meet
         exact⟨_,rfl,by simp[hne],rfl⟩
       have hve:=I4.out.1 rfl;rcases fB d.mo with⟨c,e1⟩|⟨c,e1⟩
       . have HC:=rG c;clear c hve
         go_wp2_with fail
         go_meet
         exact⟨_,rfl,by simp[HC.out],rfl⟩
       have HC:=rG c;have HVE:=rG hve;clear c hve;generalize hmc:decide (cm<m)=mc at HA;have HMC:=rG hmc;clear hmc
       go_wp2_with (go_at_call 113;with_reducible refine HA.out.mono ?_;rintro _ w' ⟨rfl,rfl⟩)
       go_meet
       exact⟨_,rfl,by rw[<-HMC.out];simp[HC.out,HVE.out],rfl⟩
      case rest =>
       obtain⟨b,rfl,hb,rfl⟩:=hcut
       cases b
       . have HNS : Hid (¬(v=cy/\d.mo.size≠0/\cm<m)):=rG (fun h=>by have:=hb.2 h;cases this);clear hb;have hR:=HS.out.f.range;have hl:=HL.out v m wO HS.out.f.below HIV.out.1 HIV.out.2 (fun h=>HMM.out h m (by rw[<-hme];exact Dt.JB.1 (aRy hlt)));have HLN:=rG hl;clear hl;obtain⟨n,hn⟩: ∃n,n=d.len v m:=⟨_,rfl⟩;rw[<-hn]at HLN;have HNN:=rG hn;clear hn
         go_upto_region 16 with(first
          |(refine aHD rfl 116 (.tmp 3) rfl w.heap.size 0 rfl (iE d (.slice (some ⟨gm,0,none⟩) d.ms.length xm) (.slice (some ⟨gd,0,none⟩) d.ds.length xd)) _ hR Tryz.underlying116 rfl jQ ?_)
          |(go_at_call 115;refine HLN.out.mono ?_;rintro _ w2 ⟨rfl,hb⟩))
         replace HS:=rG (HS.out.later hb);clear hb hR HLN
         go_cut [16] (fun s wx=> ∃b,s=.bool b/\(b=true↔(v=cy/\(d.mo.size=0\/m=cm)))/\w2=wx)
         case first=>
          have g5:=HS.out.f.cell 5 _ rfl;have g1:=HS.out.c.cell 1 _ rfl
          cases sb
          . have hne:v≠cy:=fun e=>by have:=I4.out.2 e;cases this
            go_wp2_with fail
            go_meet
            exact⟨_,rfl,by simp[hne],rfl⟩
          have hve:=I4.out.1 rfl;have HVE:=rG hve;clear hve;rcases fB d.mo with⟨c,e1⟩|⟨c,e1⟩
          . have HC:=rG c;clear c
            go_wp2_with fail
            go_meet
            exact⟨_,rfl,by simp[HC.out,HVE.out],rfl⟩
          have HC:=rG c;clear c
          go_wp2_with fail
          go_meet
          exact⟨_,rfl,by simp[HC.out,HVE.out],rfl⟩
         case rest=>
          obtain⟨s2,rfl,hs2,rfl⟩:=hcut;have HS2:=rG hs2;have HGE:=rG (fun k=>aMY (k:=k) (ck:=ck) HMD.out HLE.out HNS.out hs2);clear hs2 I4;have HK0:=rG (Dt.aGd d v m cy cm ck)
          go_wp2_with fail
          go_loopw [7,96] (fun r i wr=> ∃i':Nat,r=.bool false/\i=.int .i64 i'/\i'<=d.dsr.length/\d.aHz v m cy cm ck i'/\SkD d (.slice (some ⟨gm,0,none⟩) d.ms.length xm) (.slice (some ⟨gd,0,none⟩) d.ds.length xd) (.slice (some ⟨gn,0,none⟩) d.EN.length xn) (.slice (some ⟨ge,0,none⟩) d.dsr.length xe) cy cm ck w.heap.size p4 p5 p6 w wr) (fun _ i _=>d.dsr.length - (intOf i).toNat)
          case atStart=>exact⟨0,rfl,rfl,by omega,HK0.out,HS.out⟩
          case round=>
           obtain⟨j,rfl,rfl,hj,hK,hS⟩:=hrel;clear HS HK0;generalize wr=wO at *;have HS:=rG hS;have HK:=rG hK;clear hS hK;have dl:=d.aOk
           by_cases hjt:j<d.dsr.length
           . have hcell:=HS.out.d.at j hjt;generalize hke:d.dsr[j]'hjt=k at hcell
             go_upto_region 20 with(fail)
             go_cut [119] (fun s wx=> ∃b,s=.bool b/\(b=true↔(k<=n/\ ¬(s2=true/\d.da.size≠0/\ck<k)))/\wO=wx)
             case first=>
              have g6:=HS.out.f.cell 6 _ rfl;have g2:=HS.out.c.cell 2 _ rfl;have hu:=HS.out.u.cell 0 _ rfl;have HA:=rG (OX k ck p5 wO hu)
              by_cases hkn:k<=n
              . cases s2
                . go_wp2_with fail
                  go_meet
                  exact⟨_,rfl,by simp[hkn],rfl⟩
                rcases fB d.da with⟨c,e1⟩|⟨c,e1⟩
                . have HC:=rG c;clear c
                  go_wp2_with fail
                  go_meet
                  exact⟨_,rfl,by simp[HC.out,hkn],rfl⟩
                have HC:=rG c;clear c;generalize hmc:decide (ck<k)=mc at HA;have HMC:=rG hmc;clear hmc
                go_wp2_with (go_at_call 113;with_reducible refine HA.out.mono ?_;rintro _ w' ⟨rfl,rfl⟩)
                go_meet
                exact⟨_,rfl,by rw[<-HMC.out];simp[HC.out,hkn],rfl⟩
              go_wp2_with fail
              go_meet
              exact⟨_,rfl,⟨fun h=>by simp[hkn]at h,fun h=>absurd h.1 (by omega)⟩,rfl⟩
             case rest=>
              obtain⟨b,rfl,hb,rfl⟩:=hcut
              cases b
              . have HK2:=rG (Dt.aGe HK.out hjt (fun hle hg=>by
                 rw[hke]at hle hg;have:=hb.2 ⟨by rw[HNN.out];exact hle,(HGE.out k).1 hg⟩
                 cases this))
                clear hb HK hcell
                go_wp2_with fail
                go_roundw
                case rel=>exact⟨j+1,rfl,by go_num,by omega,HK2.out,HS.out⟩
                case measure=>simp[intOf];omega
              have hb:=hb.1 rfl;have HF:=rG (Dt.aSh (HV.out.yes rfl).1 (HV.out.yes rfl).2.2 HM.out hlt (by rw[hme];exact HK.out) hjt (by rw[hme,hke,<-HNN.out];exact hb.1) (by rw[hme,hke];exact(HGE.out k).2 hb.2));rw[hme,hke]at HF;clear hb HK hcell;have f0:=HS.out.o.cell 0 _ rfl;have f1:=HS.out.o.cell 1 _ rfl;have f2:=HS.out.o.cell 2 _ rfl;have z0:=HS.out.o.free 0 (by unfold aN;simp);have z1:=HS.out.o.free 1 (by unfold aN;simp);have z2:=HS.out.o.free 2 (by unfold aN;simp)
              go_wp2_with fail
              exact RY HS.out.o HF.out rfl rfl
           obtain rfl:j=d.dsr.length:=by omega
           have HM2:=rG (Dt.aGb HM.out hlt (by rw[hme];exact HK.out));clear HK HM
           go_wp2_with fail
           go_roundw
           case rel=>exact⟨i+1,rfl,by go_num,by omega,HM2.out,HS.out⟩
           case measure=>simp[intOf];omega
       have hb:=hb.1 rfl;have HB:=rG hb;have HK:=rG (Dt.aGc HM.out hlt HB.out.1 HB.out.2.1 (by rw[hme];exact HB.out.2.2));clear hb HM
       go_wp2_with fail
       go_roundw
       case rel=>exact⟨i+1,rfl,by go_num,by omega,HK.out,HS.out⟩
       case measure=>simp[intOf];omega
   obtain rfl:i=d.EN.length:=by omega
   have hR:=HS.out.f.range;have hu:=HS.out.u.cell 0 _ rfl;have a1w:IntKind.i64.wrap (v+ -1)=v - 1:=by rw[aHA];have:=HIV.out;omega
   have hwk:IntKind.i64.wrap (v - 1)=v - 1:=by rw[aHA];have:=HIV.out;omega
   have hy:=HY.out (v - 1) wO (by have:=HIV.out;omega) (by have:=HIV.out;omega);have HY1:=rG hy;clear hy
   go_wp2_with fail
   rw[aWD]
   go_wp2_with (first
    |(refine aHD rfl 116 (.tmp 3) rfl w.heap.size 0 rfl (iE d (.slice (some ⟨gm,0,none⟩) d.ms.length xm) (.slice (some ⟨gd,0,none⟩) d.ds.length xd)) _ hR Tryz.underlying116 rfl jQ ?_)
    |(go_at_call 114;refine HY1.out.mono ?_;rintro _ w2 ⟨v2,ok2,hv2,rfl,hb⟩))
   have HX:=rG (XQ.next HV.out HM.out hv2);have HS2:=rG (HS.out.later hb);clear hv2 hb hR hu
   go_roundw
   case rel=>exact⟨v2,ok2,rfl,rfl,rfl,HX.out.1,HS2.out⟩
   case measure=>
    have h1:=HIV.out;have h2:=HX.out.2;unfold aUO
    cases ok2
    . simp[TT,intOf];omega
    have:=h2 rfl;simp[TT,intOf];omega
end Bk
end
section
open Go.RowKit Go.Lib
namespace Bk
open Un (ba bt ri rb aS aZ)
theorem RZ(d:Dt)(mv dv:Value)(cy cm ck:Int)(w:World)(hk:lD w)(hy:d.dg.size<=1000)(hf:d.form=0)
 (y0: -9223372036854775808<=cy) (y1:cy<9223372036854775808) (hm:bD w mv d.ms) (hd:bD w dv d.ds):
 Calls Tryz.prog 83 #[fmv d mv dv,cvv cy cm ck,.bool false] w (AP d cy cm ck w):=
 aFc d mv dv cy cm ck w hk hy (Dt.fC (Dt.iO hf).1).1 (fmd hf) y0 y1 hm hd (Dt.aPY hf) (Dt.aQa hf) (fmm hf)
def Dt.qL(d:Dt)(cy cm ck:Int)(y m k:Int)(ok:Bool):Prop:=(d.dP=0/\d.jX cy cm ck y m k ok)\/(d.dP≠0/\y=0/\m=0/\k=0/\ok=false)
def aEG(d:Dt)(cy cm ck:Int)(w:World)(e:Ending)(w':World):Prop:= ∃y m k ok,d.qL cy cm ck y m k ok/\e=.returned (.tuple #[cvv y m k,.bool ok,.int .i64 d.dP])/\Below w.heap.size w w'
theorem ZI{d:Dt}{cy cm ck y m k:Int}{ok:Bool}{p6:Nat}{w wO:World}{tmps:Array Value}(ho:Rw p6 (aN y m k) w wO)(h:d.qL cy cm ck y m k ok)
 (hp:tmps.getD 4 undef=.pointer (some ⟨p6,0,none⟩)) (hq:tmps.getD 5 undef=.bool ok) (hr:tmps.getD 6 undef=.int .i64 d.dP):
 bodyPost Tryz.prog Tryz.f287 (aEG d cy cm ck w) Exit.ret ⟨tmps,[]⟩ wO:=by
 have hv:=aMj (P:=Tryz.prog) _ p6 0 112 (aN y m k) _ ho.range Tryz.underlying112 rfl qG;exact aHE (v:=.tuple #[cvv y m k,.bool ok,.int .i64 d.dP]) (yV Tryz.results287 _ hp hq hr hv) rfl ⟨y,m,k,ok,h,rfl,ho.below⟩
theorem TM(d:Dt)(cy cm ck:Int)(w:World)(hk:lD w)(hs:d.mo.size<=1000)(hy:d.dg.size<=1000)(m0:0<=d.m0)(m1:0<=d.m1)(m2:0<=d.m2)
 (y0: -9223372036854775808<=cy) (y1:cy<9223372036854775808):
 Calls Tryz.prog 287 #[aV d,cvv cy cm ck] w (aEG d cy cm ck w):=by
 have hD:Rw w.heap.size (bK d) w _:=Rw.fresh (aAI _ _) (bK d) 37;have hD2:=Rw.fresh hD.below (aN cy cm ck) 112;have hD3:=Rw.fresh hD2.below (aN 0 0 0) 112;simp only[dF]at hD2 hD3;have hA:_/\_/\_:=⟨(hD.later (ba (aAI _ _) (.cells (aN cy cm ck).toArray 112))).later (ba (aAI _ _) (.cells (aN 0 0 0).toArray 112)),hD2.later (ba (aAI _ _) (.cells (aN 0 0 0).toArray 112)),hD3⟩;clear hD hD2 hD3;have HC:=rG (fun W hb=>uM d W (hk.below (w':=W) hb) hs hy m0 m1 m2);have HO:=rG (fun W hb hf=>zO d W (hk.below (w':=W) hb) hs hf);have HS:=rG (fun mv dv W hb hf hm hd=>RZ d mv dv cy cm ck W (hk.below (w':=W) hb) hy hf y0 y1 hm hd);unfold cvv fmv at HS;clear hk hs hy m0 m1 m2;rw[zZ]at HC HO;unfold aV cvv;unfold bK aN at hA
 go_enter Tryz.func287,Tryz.ntmps287
 go_upto_region 1 with(fail)
 generalize World.alloc _ _=W0 at hA ⊢;have HD:Hid (Rw w.heap.size (bK d) w W0):=rG hA.1;have HE:Hid (Rw (w.heap.size+1) (aN cy cm ck) w W0):=rG hA.2.1;have HF:Hid (Rw (w.heap.size+1+1) (aN 0 0 0) w W0):=rG hA.2.2;clear hA;have hR:=HD.out.range;generalize w.heap.size+1+1=p6 at *;generalize w.heap.size+1=p5 at *
 by_cases hc:d.dP=0
 . have HCE:=rG hc;have HFM:=rG (fH hc);rw[hc]at HC;clear hc
   go_upto_region 4 with(first
    |(refine aHD rfl 37 (.tmp 2) rfl w.heap.size 0 rfl (bK d) _ hR Tryz.underlying37 rfl dZ ?_)
    |(go_at_call 292;refine(HC.out _ HD.out.below).mono ?_;rintro _ w1 ⟨rfl,hb⟩))
   replace HD:=rG (HD.out.later hb);replace HE:=rG (HE.out.later hb);replace HF:=rG (HF.out.later hb);clear hR hb HC
   go_cut [5] (fun s wx=> ∃y m k ok,s=.bool ok/\d.jX cy cm ck y m k ok/\Rw p6 (aN y m k) w wx)
   case first=>
    obtain⟨r0,r1,r2,r3,r4,r5,r6,r7,r8,r9⟩:=HD.out.rV;unfold bK at HO;have e0:=HE.out.cell 0 _ rfl;have e1:=HE.out.cell 1 _ rfl;have e2:=HE.out.cell 2 _ rfl
    go_region_with (first
     |(go_at_call 82;refine(HO.out _ (by first|exact HD.out.below|exact HD.out.below.drew|exact HD.out.below.drew.drew) HFM.out).mono ?_;rintro _ w2 ⟨mv,dv,rfl,hm,hd,hb2⟩;have hb2:Below w1.heap.size w1 w2:=(by first|exact hb2|exact bt (aAI _ _).drew hb2|exact bt (aAI _ _).drew.drew hb2);have HBm:=rG (bt HD.out.below hb2);have HS2:=rG (HS.out mv dv w2 HBm.out HFM.out hm hd);have HE2:=rG (HE.out.later hb2);have HF2:=rG (HF.out.later hb2);clear hm hd hb2;have e0:=HE2.out.cell 0 _ rfl;have e1:=HE2.out.cell 1 _ rfl;have e2:=HE2.out.cell 2 _ rfl)
     |(go_at_call 83;refine HS2.out.mono ?_;rintro _ w3 ⟨y,m,k,ok,hso,rfl,hb3⟩;unfold cvv;have HF3:=rG (HF2.out.later hb3);have HSO:=rG hso;clear hb3 hso;have f0:=HF3.out.cell 0 _ rfl;have f1:=HF3.out.cell 1 _ rfl;have f2:=HF3.out.cell 2 _ rfl;have z0:=HF3.out.free 0 (by unfold aN;simp);have z1:=HF3.out.free 1 (by unfold aN;simp);have z2:=HF3.out.free 2 (by unfold aN;simp)))
    all_goals (go_wp2_with fail)
    all_goals (go_meet;exact⟨_,_,_,_,rfl,HSO.out,HF3.out.dB (aN _ _ _) rfl⟩)
   case rest=>
    obtain⟨y,m,k,ok,rfl,hso,hX⟩:=hcut;have HN:Hid (d.qL cy cm ck y m k ok):=rG (.inl ⟨HCE.out,hso⟩);have HX:=rG hX;clear hX hso HS HO HD HE HF;have f0:=HX.out.cell 0 _ rfl;have f1:=HX.out.cell 1 _ rfl;have f2:=HX.out.cell 2 _ rfl;have z0:=HX.out.free 0 (by unfold aN;simp);have z1:=HX.out.free 1 (by unfold aN;simp);have z2:=HX.out.free 2 (by unfold aN;simp)
    go_wp2_with fail
    exact ZI (HX.out.dB (aN y m k) rfl) HN.out rfl rfl (by rw[HCE.out];rfl)
 have HN:Hid (d.qL cy cm ck 0 0 0 false):=rG (.inr ⟨hc,rfl,rfl,rfl,rfl⟩);obtain⟨er,her⟩: ∃er,er=d.dP:=⟨_,rfl⟩;rw[<-her]at HC hc;have RD:=rG her;clear her
 go_wp2_with (first
  |(refine aHD rfl 37 (.tmp 2) rfl w.heap.size 0 rfl (bK d) _ hR Tryz.underlying37 rfl dZ ?_)
  |(go_at_call 292;refine(HC.out _ HD.out.below).mono ?_;rintro _ w1 ⟨rfl,hb⟩;have HF2:=rG (HF.out.later hb);have f0:=HF2.out.cell 0 _ rfl;have f1:=HF2.out.cell 1 _ rfl;have f2:=HF2.out.cell 2 _ rfl;have z0:=HF2.out.free 0 (by unfold aN;simp);have z1:=HF2.out.free 1 (by unfold aN;simp);have z2:=HF2.out.free 2 (by unfold aN;simp)))
 exact ZI (HF2.out.dB (aN 0 0 0) rfl) HN.out rfl rfl (by rw[<-RD.out];rfl)
noncomputable def Dt.o8(d:Dt)(c:Int × Int × Int):Int × Int × Int × Bool:=if d.dP=0 then d.nx c else(0,0,0,false)
noncomputable def Dt.qX(d:Dt)(c:Int × Int × Int):Int × Int × Int × Bool:=if d.dP=0 then d.pv c else(0,0,0,false)
def cvF(t:Int × Int × Int × Bool)(e:Int):Value:=.tuple #[cvv t.1 t.2.1 t.2.2.1,.bool t.2.2.2,.int .i64 e]
theorem aC9(d:Dt)(cy cm ck:Int)(w:World)(hk:lD w)(hs:d.mo.size<=1000)(hy:d.dg.size<=1000)(m0:0<=d.m0)(m1:0<=d.m1)(m2:0<=d.m2)
 (y0: -9223372036854775808<=cy) (y1:cy<9223372036854775808):
 Calls Tryz.prog 291 #[aV d,cvv cy cm ck] w fun e w'=>e=.returned (cvF (d.o8 (cy,cm,ck)) d.dP)/\Below w.heap.size w w':=by
 refine(E8 d cy cm ck w hk hs hy m0 m1 m2 y0 y1).mono ?_;rintro e w' ⟨y,m,k,ok,h,rfl,hb⟩;refine⟨?_,hb⟩;have:d.o8 (cy,cm,ck)=(y,m,k,ok):=by
  unfold Dt.o8;rcases h with⟨h1,h2⟩|⟨h1,rfl,rfl,rfl,rfl⟩
  . rw[aDk h1];exact Dt.aJC h2
  rw[aBx h1]
 rw[this];rfl
theorem aC8(d:Dt)(cy cm ck:Int)(w:World)(hk:lD w)(hs:d.mo.size<=1000)(hy:d.dg.size<=1000)(m0:0<=d.m0)(m1:0<=d.m1)(m2:0<=d.m2)
 (y0: -9223372036854775808<=cy) (y1:cy<9223372036854775808):
 Calls Tryz.prog 287 #[aV d,cvv cy cm ck] w fun e w'=>e=.returned (cvF (d.qX (cy,cm,ck)) d.dP)/\Below w.heap.size w w':=by
 refine(TM d cy cm ck w hk hs hy m0 m1 m2 y0 y1).mono ?_;rintro e w' ⟨y,m,k,ok,h,rfl,hb⟩;refine⟨?_,hb⟩;have:d.qX (cy,cm,ck)=(y,m,k,ok):=by
  unfold Dt.qX;rcases h with⟨h1,h2⟩|⟨h1,rfl,rfl,rfl,rfl⟩
  . rw[aDk h1];exact Dt.aIr h2
  rw[aBx h1]
 rw[this];rfl
end Bk
end
section
open Go.RowKit Go.Lib
namespace Bk
open Un (ba bt ri rb aS aZ)
def aDD(d:Dt)(R:Int->Int->Int->Bool->Prop)(w:World)(e:Ending)(w':World):Prop:= ∃y m k,((d.dP=0/\ ∃ok,R y m k ok)\/(d.dP≠0/\y=0/\m=0/\k=0))/\e=.returned (.tuple #[cvv y m k,.int .i64 d.dP])/\Below w.heap.size w w'
theorem JO{d:Dt}{R:Int->Int->Int->Bool->Prop}{y m k:Int}{p6:Nat}{w wO:World}{tmps:Array Value}(ho:Rw p6 (aN y m k) w wO)(h:(d.dP=0/\ ∃ok,R y m k ok)\/(d.dP≠0/\y=0/\m=0/\k=0))
 (hp:tmps.getD 6 undef=.pointer (some ⟨p6,0,none⟩)) (hq:tmps.getD 7 undef=.int .i64 d.dP):
 bodyPost Tryz.prog Tryz.f289 (aDD d R w) Exit.ret ⟨tmps,[]⟩ wO:=by
 have hv:=aMj (P:=Tryz.prog) _ p6 0 112 (aN y m k) _ ho.range Tryz.underlying112 rfl qG;exact aHE (v:=.tuple #[cvv y m k,.int .i64 d.dP]) (qV Tryz.results289 _ hp hq hv) rfl ⟨y,m,k,h,rfl,ho.below⟩
theorem aGM(d:Dt)(cy cm ck:Int)(w:World)(hk:lD w)(hs:d.mo.size<=1000)(hy:d.dg.size<=1000)(m0:0<=d.m0)(m1:0<=d.m1)(m2:0<=d.m2)
 (y0: -9223372036854775808<=cy) (y1:cy<9223372036854775808):
 Calls Tryz.prog 289 #[aV d,cvv cy cm ck,.bool true] w (aDD d (fun y m k ok=>d.jG cy cm ck y m k ok) w):=by
 have hD:Rw w.heap.size (bK d) w _:=Rw.fresh (aAI _ _) (bK d) 37;have hD2:=Rw.fresh hD.below (aN cy cm ck) 112;have hD3:=Rw.fresh hD2.below (aN 0 0 0) 112;simp only[dF]at hD2 hD3;have hA:_/\_/\_:=⟨(hD.later (ba (aAI _ _) (.cells (aN cy cm ck).toArray 112))).later (ba (aAI _ _) (.cells (aN 0 0 0).toArray 112)),hD2.later (ba (aAI _ _) (.cells (aN 0 0 0).toArray 112)),hD3⟩;clear hD hD2 hD3;have HC:=rG (fun W hb=>uM d W (hk.below (w':=W) hb) hs hy m0 m1 m2);have HO:=rG (fun W hb hf=>zO d W (hk.below (w':=W) hb) hs hf);have HS:=rG (fun mv dv W hb hf hm hd=>KR d mv dv cy cm ck W (hk.below (w':=W) hb) hy hf y0 y1 hm hd);unfold cvv fmv at HS;clear hk hs hy m0 m1 m2;rw[zZ]at HC HO;unfold aV cvv;unfold bK aN at hA
 go_enter Tryz.func289,Tryz.ntmps289
 go_upto_region 1 with(fail)
 generalize World.alloc _ _=W0 at hA ⊢;have HD:Hid (Rw w.heap.size (bK d) w W0):=rG hA.1;have HE:Hid (Rw (w.heap.size+1) (aN cy cm ck) w W0):=rG hA.2.1;have HF:Hid (Rw (w.heap.size+1+1) (aN 0 0 0) w W0):=rG hA.2.2;clear hA;have hR:=HD.out.range;generalize w.heap.size+1+1=p6 at *;generalize w.heap.size+1=p5 at *
 by_cases hc:d.dP=0
 . have HCE:=rG hc;have HFM:=rG (fH hc);rw[hc]at HC;clear hc
   go_upto_region 4 with(first
    |(refine aHD rfl 37 (.tmp 3) rfl w.heap.size 0 rfl (bK d) _ hR Tryz.underlying37 rfl dZ ?_)
    |(go_at_call 292;refine(HC.out _ HD.out.below).mono ?_;rintro _ w1 ⟨rfl,hb⟩))
   replace HD:=rG (HD.out.later hb);replace HE:=rG (HE.out.later hb);replace HF:=rG (HF.out.later hb);clear hR hb HC
   go_cut [9] (fun s wx=> ∃p9 y m k ok,s=.pointer (some ⟨p9,0,none⟩)/\d.jG cy cm ck y m k ok/\Rw p9 (aN y m k) w wx/\Rw p6 (aN 0 0 0) w wx)
   case first=>
    obtain⟨r0,r1,r2,r3,r4,r5,r6,r7,r8,r9⟩:=HD.out.rV;unfold bK at HO;have e0:=HE.out.cell 0 _ rfl;have e1:=HE.out.cell 1 _ rfl;have e2:=HE.out.cell 2 _ rfl;have el:=HE.out.lt;have dl:=HD.out.lt;have HFL:=rG HF.out.lt
    go_region_with (first
     |(go_at_call 82;refine(HO.out _ (by first|exact HD.out.below|exact HD.out.below.drew|exact HD.out.below.drew.drew|exact ba HD.out.below.drew _|exact(ba HD.out.below.drew _).drew|exact ba HD.out.below.drew.drew _) HFM.out).mono ?_;rintro _ w2 ⟨mv,dv,rfl,hm,hd,hb2⟩;(first|(have HP:Hid (Rw w1.heap.size (aN 0 0 0) w w2):=rG ((Rw.fresh HD.out.below.drew (aN 0 0 0) 112).later hb2))|skip);have hb2:Below w1.heap.size w1 w2:=(by first|exact hb2|exact bt (aAI _ _).drew hb2|exact bt (aAI _ _).drew.drew hb2|exact bt (ba (aAI _ _).drew _) hb2|exact bt (ba (aAI _ _).drew _).drew hb2|exact bt (ba (aAI _ _).drew.drew _) hb2);have HBm:=rG (bt HD.out.below hb2);have HIM:=rG hm;have HID:=rG hd;have HE2:=rG (HE.out.later hb2);have HF2:=rG (HF.out.later hb2);have HSZ:=rG hb2.size;clear hm hd hb2;have e0:=HE2.out.cell 0 _ rfl;have e1:=HE2.out.cell 1 _ rfl;have e2:=HE2.out.cell 2 _ rfl;have el:=HE2.out.lt)
     |(go_at_call 83;refine(HS.out mv dv _ (by first|exact HBm.out|exact ba HBm.out _|exact HBm.out.drew) HFM.out (by first|exact HIM.out|exact HIM.out.later (ba (aAI _ _) _)) (by first|exact HID.out|exact HID.out.later (ba (aAI _ _) _))).mono ?_;rintro _ w3 ⟨y,m,k,ok,hso,rfl,hb3⟩;unfold cvv;(first|(have XY:Hid (Rw w2.heap.size (aN 0 0 0) w w3):=rG ((Rw.fresh HBm.out (aN 0 0 0) 112).later hb3))|skip);have hb3:Below w2.heap.size w2 w3:=(by first|exact hb3|exact bt (ba (aAI _ _) _) hb3);(first|(have XY:=rG (HP.out.later hb3))|skip);have HF3:=rG (HF2.out.later hb3);have HSO:=rG hso;clear hb3 hso;(first|(have f0:=XY.out.cell 0 _ rfl;have f1:=XY.out.cell 1 _ rfl;have f2:=XY.out.cell 2 _ rfl;have z0:=XY.out.free 0 (by unfold aN;simp);have z1:=XY.out.free 1 (by unfold aN;simp);have z2:=XY.out.free 2 (by unfold aN;simp))|skip)))
    all_goals (go_wp2_with fail)
    all_goals go_meet
    all_goals (have g1:=HFL.out;have g2:=HSZ.out;have g3:=HF3.out.lt;have g4:=HF3.out.new)
    all_goals (first
     |exact⟨_,_,_,_,_,rfl,HSO.out,XY.out.dB (aN _ _ _) rfl,HF3.out.others (q:=w1.heap.size) (by omega) (by have:=HD.out.below.size;omega) (aN _ _ _) 0⟩
     |exact⟨_,_,_,_,_,rfl,HSO.out,XY.out.dB (aN _ _ _) rfl,HF3.out.others (q:=w2.heap.size) (by omega) (by have:=HD.out.below.size;omega) (aN _ _ _) 0⟩
     |exact⟨_,_,_,_,_,rfl,HSO.out,Rw.fresh HF3.out.below (aN _ _ _) _,HF3.out.later (ba (aAI _ _) _)⟩)
   case rest=>
    obtain⟨p9,y,m,k,ok,rfl,hso,hX,hF⟩:=hcut;have HN:=rG hso;have HX:=rG hX;have HF:=rG hF;clear hX hso HS HO HD HE hF;have f0:=HX.out.cell 0 _ rfl;have f1:=HX.out.cell 1 _ rfl;have f2:=HX.out.cell 2 _ rfl;have g0:=HF.out.cell 0 _ rfl;have g1:=HF.out.cell 1 _ rfl;have g2:=HF.out.cell 2 _ rfl;have z0:=HF.out.free 0 (by unfold aN;simp);have z1:=HF.out.free 1 (by unfold aN;simp);have z2:=HF.out.free 2 (by unfold aN;simp)
    go_wp2_with fail
    exact JO (HF.out.dB (aN y m k) rfl) (.inl ⟨HCE.out,ok,HN.out⟩) rfl (by rw[HCE.out];rfl)
 obtain⟨er,her⟩: ∃er,er=d.dP:=⟨_,rfl⟩;rw[<-her]at HC;have hc2:=hc;rw[<-her]at hc;have RD:=rG her;have HC2:=rG hc2;clear her hc2
 go_wp2_with (first
  |(refine aHD rfl 37 (.tmp 3) rfl w.heap.size 0 rfl (bK d) _ hR Tryz.underlying37 rfl dZ ?_)
  |(go_at_call 292;refine(HC.out _ HD.out.below).mono ?_;rintro _ w1 ⟨rfl,hb⟩;have HF2:=rG (HF.out.later hb);have f0:=HF2.out.cell 0 _ rfl;have f1:=HF2.out.cell 1 _ rfl;have f2:=HF2.out.cell 2 _ rfl;have z0:=HF2.out.free 0 (by unfold aN;simp);have z1:=HF2.out.free 1 (by unfold aN;simp);have z2:=HF2.out.free 2 (by unfold aN;simp)))
 exact JO (HF2.out.dB (aN 0 0 0) rfl) (.inr ⟨HC2.out,rfl,rfl,rfl⟩) rfl (by rw[<-RD.out];rfl)
theorem aGO(d:Dt)(cy cm ck:Int)(w:World)(hk:lD w)(hs:d.mo.size<=1000)(hy:d.dg.size<=1000)(m0:0<=d.m0)(m1:0<=d.m1)(m2:0<=d.m2)
 (y0: -9223372036854775808<=cy) (y1:cy<9223372036854775808):
 Calls Tryz.prog 289 #[aV d,cvv cy cm ck,.bool false] w (aDD d (fun y m k ok=>d.jX cy cm ck y m k ok) w):=by
 have hD:Rw w.heap.size (bK d) w _:=Rw.fresh (aAI _ _) (bK d) 37;have hD2:=Rw.fresh hD.below (aN cy cm ck) 112;have hD3:=Rw.fresh hD2.below (aN 0 0 0) 112;simp only[dF]at hD2 hD3;have hA:_/\_/\_:=⟨(hD.later (ba (aAI _ _) (.cells (aN cy cm ck).toArray 112))).later (ba (aAI _ _) (.cells (aN 0 0 0).toArray 112)),hD2.later (ba (aAI _ _) (.cells (aN 0 0 0).toArray 112)),hD3⟩;clear hD hD2 hD3;have HC:=rG (fun W hb=>uM d W (hk.below (w':=W) hb) hs hy m0 m1 m2);have HO:=rG (fun W hb hf=>zO d W (hk.below (w':=W) hb) hs hf);have HS:=rG (fun mv dv W hb hf hm hd=>RZ d mv dv cy cm ck W (hk.below (w':=W) hb) hy hf y0 y1 hm hd);unfold cvv fmv at HS;clear hk hs hy m0 m1 m2;rw[zZ]at HC HO;unfold aV cvv;unfold bK aN at hA
 go_enter Tryz.func289,Tryz.ntmps289
 go_upto_region 1 with(fail)
 generalize World.alloc _ _=W0 at hA ⊢;have HD:Hid (Rw w.heap.size (bK d) w W0):=rG hA.1;have HE:Hid (Rw (w.heap.size+1) (aN cy cm ck) w W0):=rG hA.2.1;have HF:Hid (Rw (w.heap.size+1+1) (aN 0 0 0) w W0):=rG hA.2.2;clear hA;have hR:=HD.out.range;generalize w.heap.size+1+1=p6 at *;generalize w.heap.size+1=p5 at *
 by_cases hc:d.dP=0
 . have HCE:=rG hc;have HFM:=rG (fH hc);rw[hc]at HC;clear hc
   go_upto_region 4 with(first
    |(refine aHD rfl 37 (.tmp 3) rfl w.heap.size 0 rfl (bK d) _ hR Tryz.underlying37 rfl dZ ?_)
    |(go_at_call 292;refine(HC.out _ HD.out.below).mono ?_;rintro _ w1 ⟨rfl,hb⟩))
   replace HD:=rG (HD.out.later hb);replace HE:=rG (HE.out.later hb);replace HF:=rG (HF.out.later hb);clear hR hb HC
   go_cut [9] (fun s wx=> ∃p9 y m k ok,s=.pointer (some ⟨p9,0,none⟩)/\d.jX cy cm ck y m k ok/\Rw p9 (aN y m k) w wx/\Rw p6 (aN 0 0 0) w wx)
   case first=>
    obtain⟨r0,r1,r2,r3,r4,r5,r6,r7,r8,r9⟩:=HD.out.rV;unfold bK at HO;have e0:=HE.out.cell 0 _ rfl;have e1:=HE.out.cell 1 _ rfl;have e2:=HE.out.cell 2 _ rfl;have el:=HE.out.lt;have dl:=HD.out.lt;have HFL:=rG HF.out.lt
    go_region_with (first
     |(go_at_call 82;refine(HO.out _ (by first|exact HD.out.below|exact HD.out.below.drew|exact HD.out.below.drew.drew|exact ba HD.out.below.drew _|exact(ba HD.out.below.drew _).drew|exact ba HD.out.below.drew.drew _) HFM.out).mono ?_;rintro _ w2 ⟨mv,dv,rfl,hm,hd,hb2⟩;(first|(have HP:Hid (Rw w1.heap.size (aN 0 0 0) w w2):=rG ((Rw.fresh HD.out.below.drew (aN 0 0 0) 112).later hb2))|skip);have hb2:Below w1.heap.size w1 w2:=(by first|exact hb2|exact bt (aAI _ _).drew hb2|exact bt (aAI _ _).drew.drew hb2|exact bt (ba (aAI _ _).drew _) hb2|exact bt (ba (aAI _ _).drew _).drew hb2|exact bt (ba (aAI _ _).drew.drew _) hb2);have HBm:=rG (bt HD.out.below hb2);have HIM:=rG hm;have HID:=rG hd;have HE2:=rG (HE.out.later hb2);have HF2:=rG (HF.out.later hb2);have HSZ:=rG hb2.size;clear hm hd hb2;have e0:=HE2.out.cell 0 _ rfl;have e1:=HE2.out.cell 1 _ rfl;have e2:=HE2.out.cell 2 _ rfl;have el:=HE2.out.lt)
     |(go_at_call 83;refine(HS.out mv dv _ (by first|exact HBm.out|exact ba HBm.out _|exact HBm.out.drew) HFM.out (by first|exact HIM.out|exact HIM.out.later (ba (aAI _ _) _)) (by first|exact HID.out|exact HID.out.later (ba (aAI _ _) _))).mono ?_;rintro _ w3 ⟨y,m,k,ok,hso,rfl,hb3⟩;unfold cvv;(first|(have XY:Hid (Rw w2.heap.size (aN 0 0 0) w w3):=rG ((Rw.fresh HBm.out (aN 0 0 0) 112).later hb3))|skip);have hb3:Below w2.heap.size w2 w3:=(by first|exact hb3|exact bt (ba (aAI _ _) _) hb3);(first|(have XY:=rG (HP.out.later hb3))|skip);have HF3:=rG (HF2.out.later hb3);have HSO:=rG hso;clear hb3 hso;(first|(have f0:=XY.out.cell 0 _ rfl;have f1:=XY.out.cell 1 _ rfl;have f2:=XY.out.cell 2 _ rfl;have z0:=XY.out.free 0 (by unfold aN;simp);have z1:=XY.out.free 1 (by unfold aN;simp);have z2:=XY.out.free 2 (by unfold aN;simp))|skip)))
    all_goals (go_wp2_with fail)
    all_goals go_meet
    all_goals (have g1:=HFL.out;have g2:=HSZ.out;have g3:=HF3.out.lt;have g4:=HF3.out.new)
    all_goals (first
     |exact⟨_,_,_,_,_,rfl,HSO.out,XY.out.dB (aN _ _ _) rfl,HF3.out.others (q:=w1.heap.size) (by omega) (by have:=HD.out.below.size;omega) (aN _ _ _) 0⟩
     |exact⟨_,_,_,_,_,rfl,HSO.out,XY.out.dB (aN _ _ _) rfl,HF3.out.others (q:=w2.heap.size) (by omega) (by have:=HD.out.below.size;omega) (aN _ _ _) 0⟩
     |exact⟨_,_,_,_,_,rfl,HSO.out,Rw.fresh HF3.out.below (aN _ _ _) _,HF3.out.later (ba (aAI _ _) _)⟩)
   case rest=>
    obtain⟨p9,y,m,k,ok,rfl,hso,hX,hF⟩:=hcut;have HN:=rG hso;have HX:=rG hX;have HF:=rG hF;clear hX hso HS HO HD HE hF;have f0:=HX.out.cell 0 _ rfl;have f1:=HX.out.cell 1 _ rfl;have f2:=HX.out.cell 2 _ rfl;have g0:=HF.out.cell 0 _ rfl;have g1:=HF.out.cell 1 _ rfl;have g2:=HF.out.cell 2 _ rfl;have z0:=HF.out.free 0 (by unfold aN;simp);have z1:=HF.out.free 1 (by unfold aN;simp);have z2:=HF.out.free 2 (by unfold aN;simp)
    go_wp2_with fail
    exact JO (HF.out.dB (aN y m k) rfl) (.inl ⟨HCE.out,ok,HN.out⟩) rfl (by rw[HCE.out];rfl)
 obtain⟨er,her⟩: ∃er,er=d.dP:=⟨_,rfl⟩;rw[<-her]at HC;have hc2:=hc;rw[<-her]at hc;have RD:=rG her;have HC2:=rG hc2;clear her hc2
 go_wp2_with (first
  |(refine aHD rfl 37 (.tmp 3) rfl w.heap.size 0 rfl (bK d) _ hR Tryz.underlying37 rfl dZ ?_)
  |(go_at_call 292;refine(HC.out _ HD.out.below).mono ?_;rintro _ w1 ⟨rfl,hb⟩;have HF2:=rG (HF.out.later hb);have f0:=HF2.out.cell 0 _ rfl;have f1:=HF2.out.cell 1 _ rfl;have f2:=HF2.out.cell 2 _ rfl;have z0:=HF2.out.free 0 (by unfold aN;simp);have z1:=HF2.out.free 1 (by unfold aN;simp);have z2:=HF2.out.free 2 (by unfold aN;simp)))
 exact JO (HF2.out.dB (aN 0 0 0) rfl) (.inr ⟨HC2.out,rfl,rfl,rfl⟩) rfl (by rw[<-RD.out];rfl)
end Bk
end
section
namespace Bk
theorem sU{s:ByteArray}{l:List UInt8}(h:s.data.toList=l)(i:Nat):aX s i=((l.getD i 0).toNat:Int):=by unfold aX;rw[h]
theorem AL{s t:ByteArray}(h:s.data.toList=t.data.toList):s=t:=by
 cases s with|mk a=>cases t with|mk b=>exact aTd _ (aTk h)
theorem zF(s t:ByteArray):(s.toList==t.toList)=decide (s=t):=by
 rw[aWz,aWz,aK8,aGw,aOr];exact⟨fun h=>AL h,fun h=>by rw[h]⟩
def twoS(n:Nat):ByteArray:=⟨#[UInt8.ofNat (48+n / 10),UInt8.ofNat (48+n % 10)]⟩
theorem aH2{n:Nat}(h:n<=99):aX (twoS n) 0=48+(n:Int) / 10:=by
 show((UInt8.ofNat (48+n / 10)).toNat:Int)=_;rw[aTC];omega
theorem aH1{n:Nat}(h:n<=99):aX (twoS n) 1=48+(n:Int) % 10:=by
 show((UInt8.ofNat (48+n % 10)).toNat:Int)=_;rw[aTC];omega
theorem aMS{s:ByteArray}{n:Nat}(h:n<=99):s=twoS n↔(s.size=2/\aX s 0=48+(n:Int) / 10/\aX s 1=48+(n:Int) % 10):=by
 constructor
 . rintro rfl;exact⟨rfl,aH2 h,aH1 h⟩
 rintro⟨h2,h0,h1⟩;obtain⟨a,b,e,e0,e1⟩:=vK h2;apply AL;rw[e];show[a,b]=[_,_];have ha:a=UInt8.ofNat (48+n / 10):=by apply aX7;rw[aTC];omega
 have hb:b=UInt8.ofNat (48+n % 10):=by apply aX7;rw[aTC];omega
 rw[ha,hb]
theorem YI{s:ByteArray}{n:Nat}(h0:21<=n)(h1:n<=41):s=twoS n↔dD s=n:=by
 rw[aMS (by omega)];unfold dD;constructor
 . rintro⟨a,b,c⟩;rw[aDk (by omega)];omega
 intro h
 split at h
 . omega
 omega
theorem aMR: ∀n:Nat,n<100->(CZ.extract (n / 10) (n / 10+1)++CZ.extract (n % 10) (n % 10+1))=twoS n:=by decide
def YF(neg long:Bool)(D X Z sz b0 ex sig m R:Int):Prop:=
 (D+X≠sz\/sig<0->R=0)/\
 (D+X=sz->0<=sig->long=false->(sz≠4\/ex≠0\/(neg=true/\Z=4)\/4<sig\/(0<sig/\0<X))->R=0)/\
 (D+X=sz->0<=sig->long=false->sz=4->ex=0->(neg=true->Z≠4)->sig<=4->(sig<=0\/X<=0)->R=1)/\
 (D+X=sz->0<=sig->long=true->(0<X\/D<1\/17<D\/b0=48\/ex<0\/16<ex\/(ex=0/\D<5)\/D+ex<sig)->R=0)/\
 (D+X=sz->0<=sig->long=true->X<=0->1<=D->D<=17->b0≠48->0<=ex->ex<=16->(ex≠0\/5<=D)->sig<=D+ex->(m<=10000000000000000->R=1)/\(10000000000000000<m->R=0))
theorem yF(neg long:Bool)(s:ByteArray)(ex sig:Int):YF neg long (nS 48 57 s) (nS 88 88 s) (nS 48 48 s) s.size (aX s 0) ex sig (fJ s ex) (if G8 neg long s ex sig then 1 else 0):=by
 have hd:=aAY s;have hx:=aHX s;have hz:=aTI s;have hp:=DJ 88 88 s;have hdd:allB bV s=true->(hasB 88 s=false↔allB bG s=true):=fun h=>jV h;have hdx:allB bG s=true->allB bV s=true:=fun h=>qJ h;generalize nS 48 57 s=D at *;generalize nS 88 88 s=X at *;generalize nS 48 48 s=Z at *;have no: ∀ {b:Bool},b=false->(if b then(1:Int)else 0)=0:=fun h=>by rw[h];rfl
 have yes: ∀ {b:Bool},b=true->(if b then(1:Int)else 0)=1:=fun h=>by rw[h];rfl
 refine⟨fun h=>no ?_,fun h1 h2 h3 h=>no ?_,fun h1 h2 h3 h4 h5 h6 h7 h8=>yes ?_,fun h1 h2 h3 h=>no ?_,fun h1 h2 h3 h4 h5 h6 h7 h8 h9 h10 h11=>?_⟩
 . rw[aPj];intro hk
   cases long
   . obtain⟨a1,a2,a3,a4,a5,a6,a7⟩:=iD hk;have:=hd.2 a2;omega
   obtain⟨a1,a2,a3,a4,a5,a6,a7,a8,a9⟩:=jI hk;have:=hd.2 (hdx a3);omega
 . subst h3;rw[aPj];intro hk;obtain⟨a1,a2,a3,a4,a5,a6,a7⟩:=iD hk;rcases h with h|h|⟨h,g⟩|h|⟨h,g⟩
   . omega
   . omega
   . have:=(hz a1).1 g;rw[a4 h]at this;cases this
   . omega
   have:=hx.1 g;rw[a5 (by omega)]at this;cases this
 . subst h3;have e4:s.size=4:=by omega
   unfold G8 iC;rw[aBz e4,hd.1 h1,aBz h5,aBz h2,aBz (show sig<=s.size+ex by omega)];have n1:(neg&&allB isZ s)=false:=by
    cases hn:neg
    . rfl
    have:=h6 hn
    cases ha:allB isZ s
    . rfl
    exact absurd ((hz e4).2 ha) this
   have n2:(!decide (sig=0)&&hasB 88 s)=false:=by
    rcases h8 with h|h
    . rw[aBz (show sig=0 by omega)];rfl
    cases ha:hasB 88 s
    . simp
    have:=hx.2 ha;omega
   rw[n1,n2];rfl
 . subst h3;rw[aPj];intro hk;obtain⟨a1,a2,a3,a4,a5,a6,a7,a8,a9⟩:=jI hk;have hX:hasB 88 s=false:=(hdd (hdx a3)).2 a3;have nX: ¬ 0<X:=fun c=>by rw[hx.1 c]at hX;cases hX
   have:=hd.2 (hdx a3);have e5: ¬(ex=0/\s.size<5):=by
    rintro⟨c1,c2⟩;unfold G8 fK at hk;simp[c1,c2]at hk
   omega
 subst h3;have hX:hasB 88 s=false:=by
  cases ha:hasB 88 s
  . rfl
  have:=hx.2 ha;omega
 have ax:=hd.1 h1;have ad:=(hdd ax).1 hX;have:G8 neg true s ex sig=decide (fJ s ex<=10000000000000000):=by
  unfold G8 fK;have q:(decide (ex=0)&&decide (s.size<5))=false:=by
   rw[aPj];intro c;simp at c;omega
  rw[q,ad];simp[h7,h8,h9,h2,show 1<=s.size by omega,show s.size<=17 by omega,show sig<=s.size+ex by omega]
 rw[this];refine⟨fun c=>by rw[aBz c];rfl,fun c=>by rw[aBy (by omega)];rfl⟩
def QF(s:ByteArray)(x:UInt8):Nat->ByteArray
 |0=>⟨#[]⟩
 |k+1=>QF s x k++(if aX s k=88 then⟨#[x]⟩else s.extract k (k+1))
theorem MQ(s:ByteArray)(x:UInt8)(k:Nat):QF s x (k+1)=QF s x k++(if aX s k=88 then⟨#[x]⟩else s.extract k (k+1)):=rfl
end Bk
end
section
open Go.RowKit Go.Lib
namespace Bk
open Un (ba bt ri rb aS aZ)
theorem JK(s:ByteArray)(a b:Int)(w:World)(hs:s.size<=maxLen):
 Calls Tryz.prog 90 #[.string s,.int .u8 a,.int .u8 b] w fun r w'=>r=.returned (.int .i64 (nS a b s))/\w=w':=by
 unfold maxLen at hs;unfold nS
 go_enter Tryz.func90,Tryz.ntmps90
 go_wp2
 go_loop [7,8] (fun n i=> ∃k:Nat,k<=s.size/\i=.int .i64 k/\n=.int .i64 (qQ a b (s.data.toList.take k))) (fun _ i=>s.size - (intOf i).toNat)
 case atStart=>exact⟨0,aJS _,rfl,rfl⟩
 case round=>
  obtain⟨k,hk,rfl,rfl⟩:=hrel;have hd:=JQ a b (s.data.toList.take k);have hl:(s.data.toList.take k).length<=k:=List.length_take_le _ _
  by_cases hlt:k<s.size
  . have hsn:=aGV a b (s.data.toList.take k) s[k];have hts:=take_snoc s k hlt;have HS:Hid (qQ a b (s.data.toList.take (k+1))=qQ a b (s.data.toList.take k)+if a<=(s[k].toNat:Int)/\(s[k].toNat:Int)<=b then 1 else 0):=rG (by rw[hts];exact hsn);clear hsn hts
    go_wp2
    all_goals
     go_round
     case rel=>exact⟨k+1,by omega,by go_num,by rw[HS.out];first|rw[aDk ⟨‹_›,‹_›⟩]|(rw[aBx (by omega)];go_num)⟩
     case measure=>simp[intOf];omega
  go_wp2
  go_ret
  exact⟨ri (by rw[aTf (by simp;omega)]),rfl⟩
theorem vW(neg long:Bool)(s:ByteArray)(ex sig:Int)(w:World)(hs:s.size<=maxLen):
 Calls Tryz.prog 122 #[.agg #[.bool neg,.bool long,.string s,.int .i64 ex,.int .i64 sig]] w fun r w'=>r=.returned (.int .i64 (if hasB 88 s then 1 else 0))/\Below w.heap.size w w':=by
 have HH:=fun w=>JK s 88 88 w hs;have hx:=aHX s;have hp:=(DJ 88 88 s).1;obtain⟨R,hR⟩: ∃R:Int,R=if hasB 88 s then 1 else 0:=⟨_,rfl⟩
 rw[<-hR];have hR2:(0<nS 88 88 s->R=1)/\(nS 88 88 s<=0->R=0):=by
  refine⟨fun h=>by rw[hR,aDk (hx.1 h)],fun h=>by rw[hR,aBx (fun c=>by have:=hx.2 c;omega)]⟩
 generalize nS 88 88 s=n at *;have HX:=rG hR2;replace HH:=rG HH;clear hx hR hR2
 go_enter Tryz.func122,Tryz.ntmps122
 go_wp2_with (go_at_call 90;with_reducible refine(HH.out _).mono ?_;rintro _ w' ⟨rfl,rfl⟩)
 all_goals go_ret
 all_goals refine⟨ri ?_,ba (aAI _ _) _⟩
 all_goals have:=HX.out
 all_goals omega
def qC(m:Int):Int × Int:=if m<=10000000000000000 then(m,1)else(0,0)
theorem nZ (s:ByteArray) (e:Nat) (w:World) (hs:s.size<=1000) (he:e<=1000) (hd:allB bG s=true):
 Calls Tryz.prog 91 #[.string s,.int .i64 e] w fun r w'=>r=.returned (.tuple #[.int .i64 (qC (fJ s e)).1,.int .i64 (qC (fJ s e)).2])/\w=w':=by
 have HD:=rG hd;clear hd
 go_enter Tryz.func91,Tryz.ntmps91
 go_wp2
 go_loop [6,7] (fun n i=> ∃k:Nat,k<=s.size+e/\qP s k<=10000000000000000/\i=.int .i64 k/\n=.int .i64 (qP s k)) (fun _ i=>s.size+e - (intOf i).toNat)
 case atStart=>exact⟨0,aJS _,by rw[EP];omega,rfl,by rw[EP]⟩
 case round=>
  obtain⟨k,hk,hm,rfl,rfl⟩:=hrel;have hp:=MK s k
  by_cases hlt:k<s.size+e
  . by_cases hc:k<s.size
    . have hda:=XB HD.out k hc;have HS:=rG (ML HD.out k hc);obtain⟨d0,d1⟩:=hda
      go_wp2
      . go_ret2
        have h1:=HS.out;have h2:=xK HD.out (k+1) (s.size+e - (k+1));rw[show k+1+(s.size+e - (k+1))=s.size+e by omega,wG]at h2;refine⟨?_,rfl⟩;unfold qC;rw[aBx (by omega)]
        rfl
      go_round
      case rel=>exact⟨k+1,by omega,by rw[HS.out];omega,by go_num,by rw[HS.out]⟩
      case measure=>simp[intOf];omega
    have HS:=rG (aAo s k (by omega))
    go_wp2
    . go_ret2
      have h1:=HS.out;have h2:=xK HD.out (k+1) (s.size+e - (k+1));rw[show k+1+(s.size+e - (k+1))=s.size+e by omega,wG]at h2;refine⟨?_,rfl⟩;unfold qC;rw[aBx (by omega)]
      rfl
    go_round
    case rel=>exact⟨k+1,by omega,by rw[HS.out];omega,by go_num,by rw[HS.out]⟩
    case measure=>simp[intOf];omega
  obtain rfl:k=s.size+e:=by omega
  rw[wG]at hm hp ⊢
  go_wp2
  go_ret2
  refine⟨?_,rfl⟩;unfold qC;rw[aDk hm]
  rfl
theorem F7 (neg long:Bool) (s:ByteArray) (ex sig:Int) (w:World) (hs:s.size<=1000) (s0: -9223372036854775808<=sig) (s1:sig<9223372036854775808):
 Calls Tryz.prog 60 #[yv neg long s ex sig] w fun r w'=>r=.returned (.int .i64 (if G8 neg long s ex sig then 1 else 0))/\Below w.heap.size w w':=by
 have hF:=yF neg long s ex sig;have hY:=Ym.new neg long s ex sig w 35;have dd:=DJ 48 57 s;have dx:=DJ 88 88 s;have dz:=DJ 48 48 s;have HD:=fun w=>JK s 48 57 w (by unfold maxLen;omega);have HX:=fun w=>JK s 88 88 w (by unfold maxLen;omega);have HZ:=fun w=>JK s 48 48 w (by unfold maxLen;omega);have HM: ∀(e:Nat) w,nS 48 57 s+nS 88 88 s=s.size->nS 88 88 s<=0->e<=1000->Calls Tryz.prog 91 #[.string s,.int .i64 e] w fun r w'=>r=.returned (.tuple #[.int .i64 (qC (fJ s e)).1,.int .i64 (qC (fJ s e)).2])/\w=w':=fun e w h1 h2 h3=>
  nZ s e w hs h3 (by
   have ax:=(aAY s).1 h1;refine(jV ax).1 ?_
   cases ha:hasB 88 s
   . rfl
   have:=(aHX s).2 ha;omega)
 have hl0:1<=nS 48 57 s->0<s.size:=fun h=>by omega
 have hb0: ∀h:0<s.size,((s[0]'h).toNat:Int)=aX s 0:=fun h=>(bQ s 0 h).symm;generalize (if G8 neg long s ex sig then(1:Int)else 0)=R at *;generalize nS 48 57 s=D at *;generalize nS 88 88 s=X at *;generalize nS 48 48 s=Z at *;generalize aX s 0=b0 at *;replace HD:=rG HD;replace HX:=rG HX;replace HZ:=rG HZ;replace HM:=rG HM;unfold YF at hF;unfold yv;have HB0:=rG hb0;clear hb0
 cases long
 . have HF:Hid _:=rG hF;clear hF HM
   go_enter Tryz.func60,Tryz.ntmps60
   go_upto_region 1 with(fail)
   generalize w.alloc (.cells #[.bool neg,.bool false,.string s,.int .i64 ex,.int .i64 sig] 35)=W0 at hY ⊢;obtain⟨q0,q1,q2,q3,q4,qB⟩:=id hY
   go_cut [3,4] (fun s3 s4 wx=>s3=.int .i64 D/\s4=.int .i64 X/\Ym w.heap.size neg false s ex sig w wx)
   case first=>
    go_region_with (go_at_call 90;first|(with_reducible refine(HD.out _).mono ?_;rintro _ w' ⟨rfl,rfl⟩)|(with_reducible refine(HX.out _).mono ?_;rintro _ w' ⟨rfl,rfl⟩))
    all_goals (go_wp2_with fail)
    all_goals (go_meet;exact⟨rfl,rfl,by first|exact hY|exact hY.drew'|exact hY.drew'.drew'⟩)
   case rest=>
    obtain⟨rfl,rfl,hY⟩:=hcut;clear q0 q1 q2 q3 q4 qB;obtain⟨q0,q1,q2,q3,q4,qB⟩:=id hY
    cases neg
    all_goals
     go_wp2_with (go_at_call 90;with_reducible refine(HZ.out _).mono ?_;rintro _ w' ⟨rfl,rfl⟩)
     all_goals go_ret
     all_goals refine⟨ri ?_,hY.below⟩
     all_goals have hF:=HF.out
     all_goals simp only[aV9,reduceCtorEq,aTV,aV7,aWm,aXv,aW8,aWF,aXu,aXa]at hF
     all_goals try simp only[aGw]at *
     all_goals omega
 have HF:Hid _:=rG hF;clear hF HZ
 go_enter Tryz.func60,Tryz.ntmps60
 go_upto_region 1 with(fail)
 generalize w.alloc (.cells #[.bool neg,.bool true,.string s,.int .i64 ex,.int .i64 sig] 35)=W0 at hY ⊢;obtain⟨q0,q1,q2,q3,q4,qB⟩:=id hY
 go_cut [3,4] (fun s3 s4 wx=>s3=.int .i64 D/\s4=.int .i64 X/\Ym w.heap.size neg true s ex sig w wx)
 case first=>
  go_region_with (go_at_call 90;first|(with_reducible refine(HD.out _).mono ?_;rintro _ w' ⟨rfl,rfl⟩)|(with_reducible refine(HX.out _).mono ?_;rintro _ w' ⟨rfl,rfl⟩))
  all_goals (go_wp2_with fail)
  all_goals (go_meet;exact⟨rfl,rfl,by first|exact hY|exact hY.drew'|exact hY.drew'.drew'⟩)
 case rest=>
  obtain⟨rfl,rfl,hY⟩:=hcut;clear q0 q1 q2 q3 q4 qB;obtain⟨q0,q1,q2,q3,q4,qB⟩:=id hY
  by_cases l0:0<s.size
  case neg=>
   clear HM
   go_wp2_with fail
   all_goals go_ret
   all_goals refine⟨ri ?_,hY.below⟩
   all_goals have hF:=HF.out
   all_goals simp only[aV9,reduceCtorEq,aTV,aV7,aWm,aXv,aW8,aWF,aXu,aXa]at hF
   all_goals try simp only[aGw]at *
   all_goals omega
  by_cases x0:0<=ex
  case neg=>
   clear HM
   go_wp2_with fail
   all_goals go_ret
   all_goals refine⟨ri ?_,hY.below⟩
   all_goals have hF:=HF.out
   all_goals have hB:=HB0.out l0
   all_goals simp only[aV9,reduceCtorEq,aTV,aV7,aWm,aXv,aW8,aWF,aXu,aXa]at hF
   all_goals try simp only[aGw]at *
   all_goals omega
  obtain⟨e,rfl⟩: ∃e:Nat,ex=e:=⟨ex.toNat,by omega⟩;have HM2:=rG (fun w h1 h2 h3=>HM.out e w h1 h2 h3);clear HM;generalize fJ s e=m at *;rcases Nat.eq_zero_or_pos e with rfl|e0
  . have HM3:Hid (∀w,D+X=s.size->X<=0->Calls Tryz.prog 91 #[.string s,.int .i64 0] w fun r w'=>r=.returned (.tuple #[.int .i64 (qC m).1,.int .i64 (qC m).2])/\w=w'):=rG (fun w h1 h2=>HM2.out w h1 h2 (by omega));clear HM2
    by_cases hm:m<=10000000000000000
    . rw[show qC m=(m,1) by unfold qC;rw[aDk hm]]at HM3
      go_wp2_with (go_at_call 91;with_reducible refine(HM3.out _ (by omega) (by omega)).mono ?_;rintro _ w' ⟨rfl,rfl⟩)
      all_goals go_ret
      all_goals refine⟨ri ?_,hY.below⟩
      all_goals have hF:=HF.out
      all_goals have hB:=HB0.out l0
      all_goals simp only[aV9,reduceCtorEq,aTV,aV7,aWm,aXv,aW8,aWF,aXu,aXa]at hF
      all_goals try simp only[aGw]at *
      all_goals omega
    rw[show qC m=(0,0) by unfold qC;rw[aBx hm]]at HM3
    go_wp2_with (go_at_call 91;with_reducible refine(HM3.out _ (by omega) (by omega)).mono ?_;rintro _ w' ⟨rfl,rfl⟩)
    all_goals go_ret
    all_goals refine⟨ri ?_,hY.below⟩
    all_goals have hF:=HF.out
    all_goals have hB:=HB0.out l0
    all_goals simp only[aV9,reduceCtorEq,aTV,aV7,aWm,aXv,aW8,aWF,aXu,aXa]at hF
    all_goals try simp only[aGw]at *
    all_goals omega
  have e1: ¬(e:Int)=0:=by omega
  by_cases hm:m<=10000000000000000
  . rw[show qC m=(m,1) by unfold qC;rw[aDk hm]]at HM2
    go_wp2_with (go_at_call 91;with_reducible refine(HM2.out _ (by omega) (by omega) (by omega)).mono ?_;rintro _ w' ⟨rfl,rfl⟩)
    all_goals go_ret
    all_goals refine⟨ri ?_,hY.below⟩
    all_goals have hF:=HF.out
    all_goals have hB:=HB0.out l0
    all_goals simp only[aV9,reduceCtorEq,aTV,aV7,aWm,aXv,aW8,aWF,aXu,aXa]at hF
    all_goals try simp only[aGw]at *
    all_goals omega
  rw[show qC m=(0,0) by unfold qC;rw[aBx hm]]at HM2
  go_wp2_with (go_at_call 91;with_reducible refine(HM2.out _ (by omega) (by omega) (by omega)).mono ?_;rintro _ w' ⟨rfl,rfl⟩)
  all_goals go_ret
  all_goals refine⟨ri ?_,hY.below⟩
  all_goals have hF:=HF.out
  all_goals have hB:=HB0.out l0
  all_goals simp only[aV9,reduceCtorEq,aTV,aV7,aWm,aXv,aW8,aWF,aXu,aXa]at hF
  all_goals try simp only[aGw]at *
  all_goals omega
end Bk
end
section
open Go.RowKit
namespace Un
open Cal
theorem rW(y k:Int):(y.tmod k==0)=decide (y % k=0):=by
 rw[aK8];simp only[aGw,aDE];exact⟨fun h=>Int.emod_eq_zero_of_dvd (aYA h),fun h=>aWM (Int.dvd_of_emod_eq_zero h)⟩
theorem KD(y k:Int):(y.tmod k !=0)= !decide (y % k=0):=by
 rw[<-rW];rfl
theorem vV(y:Int)(w:World):Calls Tryz.prog 64 #[.int .i64 y] w fun e w'=>e=.returned (.int .i64 (lp y))/\w=w':=by
 have t4:=rW y 4;have t1:=KD y 100;have t5:=rW y 400
 by_cases a:y % 4=0<;>by_cases b:y % 100=0<;>by_cases c:y % 400=0<;>
  simp only[a,b,c,aWI,aWn,aXz,aVf]at t4 t1 t5<;>
  (have L:Hid (lp y=if(decide (y % 4=0)&&(decide (y % 100≠0)||decide (y % 400=0)))then 1 else 0):=rG rfl
   simp only[a,b,c,aXa,not_true_eq_false,aXB,aWI,aWn,aQN,aTz,aXT,aWs,aXS,aV5,aSC,aMB]at L;clear a b c
   go_enter Tryz.func64,Tryz.ntmps64
   go_wp2
   go_ret
   exact⟨ri (by first|exact L.out.symm|rfl),rfl⟩)
theorem zM(y m:Int)(w:World)(m0:1<=m)(m1:m<=12):Calls Tryz.prog 67 #[.int .i64 y,.int .i64 m] w fun e w'=>e=.returned (.int .i64 (len y m))/\w=w':=by
 have L:=uZ y;have:m=1\/m=2\/m=3\/m=4\/m=5\/m=6\/m=7\/m=8\/m=9\/m=10\/m=11\/m=12:=by omega
 rcases this with rfl|rfl|rfl|rfl|rfl|rfl|rfl|rfl|rfl|rfl|rfl|rfl<;>
  (clear m0 m1
   go_enter Tryz.func67,Tryz.ntmps67
   go_wp2_with (go_at_call 64;refine(vV _ _).mono ?_;rintro e w' ⟨rfl,rfl⟩)
   go_ret
   exact⟨ri (by unfold len;simp),rfl⟩)
theorem o9(a b:Int)(w:World)(hb:1<b)(hb2:b<9223372036854775808)(h0: -9223372036854775808<=a)(h1:a<9223372036854775808):
 Calls Tryz.prog 43 #[.int .i64 a,.int .i64 b] w fun e w'=>e=.returned (.int .i64 (a / b))/\w=w':=by
 obtain⟨c1,c2,c3⟩:=@xY a b (by omega);have b0:(b==0)=false:=by rw[aBA];omega
 have b1:(b== -1)=false:=by rw[aBA];omega
 have bd:=CW (a:=a) hb h0 h1
 by_cases hz:a.tmod b<0
 . have ha:a<0:=(c3 (by omega)).1 hz;obtain⟨e1,e2⟩:=c1 ⟨by omega,ha⟩;have m2:decide (a.tmod b<0)=true:=aBz hz;have w1:wrap64 (a.tdiv b - 1)=a / b:=by rw[e1];exact wrap_in bd.1 bd.2
   clear hz e1 e2 c1 c2 c3 bd
   go_enter Tryz.func43,Tryz.ntmps43
   go_wp2
   go_ret
   exact⟨ri w1,rfl⟩
 have m2:decide (a.tmod b<0)=false:=aBy hz;have k:a.tmod b=0\/0<=a:=by
  by_cases h:a.tmod b=0
  . exact .inl h
  have:=c3 h;exact .inr (by omega)
 obtain⟨e1,e2⟩:=c2 k;have E1:=rG e1;have w1:wrap64 (a.tdiv b)=a / b:=by rw[e1];exact wrap_in bd.1 bd.2
 clear hz e1 e2 c1 c2 c3 bd k
 go_enter Tryz.func43,Tryz.ntmps43
 go_wp2
 go_ret
 exact⟨ri (by first|exact w1|exact E1.out|rfl),rfl⟩
theorem kN(y:Int)(w:World)(h0: -25000000000000000<=y)(h1:y<=25000000000000000):
 Calls Tryz.prog 63 #[.int .i64 y] w fun e w'=>e=.returned (.int .i64 (st y))/\w=w':=by
 have E:=rG (aQ2 y);obtain⟨r,hr⟩: ∃r,r=y - y / 400 * 400:=⟨_,rfl⟩;obtain⟨c,hc⟩: ∃c,c=y / 400:=⟨_,rfl⟩;have r0:0<=r:=by omega
 have r1:r<400:=by omega
 go_enter Tryz.func63,Tryz.ntmps63
 go_wp2_with (go_at_call 43;refine(o9 _ _ _ (by omega) (by omega) (by omega) (by omega)).mono ?_;rintro e w' ⟨rfl,rfl⟩)
 go_ret
 exact⟨ri (by rw[<-E.out];unfold rst;omega),rfl⟩
theorem tY(y m d:Int)(w:World)(h0: -20000000000000000<=y)(h1:y<=20000000000000000)(m0:1<=m)(m1:m<=13)(d0: -1000<=d)(d1:d<=1000):
 Calls Tryz.prog 66 #[.int .i64 y,.int .i64 m,.int .i64 d] w fun e w'=>e=.returned (.int .i64 (st y+bZ y m+d - 1))/\w=w':=by
 obtain⟨n,rfl⟩: ∃n:Nat,m=(n:Int)+1:=⟨(m - 1).toNat,by omega⟩;obtain⟨b0,b1⟩:=lV (y:=y) (by omega) (by omega)
 go_enter Tryz.func66,Tryz.ntmps66
 go_wp2_with (go_at_call 63;refine(kN _ _ (by omega) (by omega)).mono ?_;rintro e w' ⟨rfl,rfl⟩)
 go_loop [7,8] (fun s j=> ∃k:Nat,k<=n/\s=.int .i64 (st y+bZ y ((k:Int)+1))/\j=.int .i64 ((k:Int)+1)) (fun _ j=>n+1 - (intOf j).toNat)
 case atStart=>exact⟨0,by omega,by rw[show ((0:Nat):Int)+1=1 from rfl,yA,aXR],rfl⟩
 case round=>
  obtain⟨k,hk,rfl,rfl⟩:=hrel;have cb:=@fF y ((k:Int)+1) (by omega) (by omega)
  by_cases hlt:k<n
  . have hl:=eG y ((k:Int)+1);have hcs:=bP y ((k:Int)+1) (by omega) (by omega);have HCS:=rG hcs;clear hcs
    go_wp2_with (go_at_call 67;refine(zM _ _ _ (by omega) (by omega)).mono ?_;rintro e w' ⟨rfl,rfl⟩)
    go_round
    case rel=>exact⟨k+1,by omega,vi (by rw[show ((k+1:Nat):Int)+1=(k:Int)+1+1 by omega,HCS.out];omega),by go_num⟩
    case measure=>simp[intOf];omega
  have e:k=n:=by omega
  subst e
  go_wp2
  go_ret
  exact⟨ri (by omega),rfl⟩
end Un
end
section
open Go.RowKit
namespace Un
open Cal
theorem aPN:st (-10000000000000000)= -3652425000000000000:=by decide
theorem aUk:st 10000000000000000=3652425000000000000:=by decide
theorem aQX:st 10000000000000001=3652425000000000366:=by decide
theorem rH{d:Int}:(-10000000000000000<=dH d/\dH d<=10000000000000000)↔(-3652425000000000000<=d/\d<3652425000000000366):=by
 have a:=@aBB d (-10000000000000000);have b:=@aBB d 10000000000000001;rw[aPN]at a;rw[aQX]at b;omega
def inC(d:Int):Int:=if -3652425000000000000<=d/\d<3652425000000000366 then 1 else 0
theorem EG(d:Int)(w:World)(h0: -9223372036854775808<=d)(h1:d<9223372036854775808):
 Calls Tryz.prog 74 #[.int .i64 d] w fun e w'=>e=.returned (.int .i64 (inC d))/\w=w':=by
 have HL: ∀W,Calls Tryz.prog 64 #[.int .i64 10000000000000000] W fun e w'=>e=.returned (.int .i64 1)/\W=w':=fun W=>vV _ W;have HA: ∀W,Calls Tryz.prog 63 #[.int .i64 (-10000000000000000)] W fun e w'=>e=.returned (.int .i64 (-3652425000000000000))/\W=w':=fun W=>by
  have:=kN (-10000000000000000) W (by omega) (by omega);rw[aPN]at this;exact this
 have HB: ∀W,Calls Tryz.prog 63 #[.int .i64 10000000000000000] W fun e w'=>e=.returned (.int .i64 3652425000000000000)/\W=w':=fun W=>by
  have:=kN 10000000000000000 W (by omega) (by omega);rw[aUk]at this;exact this
 replace HL:=rG HL;replace HA:=rG HA;replace HB:=rG HB
 by_cases c1:d< -3652425000000000000
 . have t:Hid (inC d=0):=rG (by unfold inC;rw[aBx (by omega)])
   go_enter Tryz.func74,Tryz.ntmps74
   go_wp2_with fail
   refine(HA.out _).mono ?_;rintro e w' ⟨rfl,rfl⟩
   go_wp2_with fail
   go_ret
   exact⟨ri t.out.symm,rfl⟩
 by_cases c2:d>3652425000000000365
 . have t:Hid (inC d=0):=rG (by unfold inC;rw[aBx (by omega)])
   go_enter Tryz.func74,Tryz.ntmps74
   go_wp2_with fail
   refine(HA.out _).mono ?_;rintro e w' ⟨rfl,rfl⟩
   go_wp2_with fail
   refine(HB.out _).mono ?_;rintro e w' ⟨rfl,rfl⟩
   go_wp2_with fail
   refine(HL.out _).mono ?_;rintro e w' ⟨rfl,rfl⟩
   go_wp2_with fail
   go_ret
   exact⟨ri t.out.symm,rfl⟩
 have t:Hid (inC d=1):=rG (by unfold inC;rw[aDk (by omega)])
 go_enter Tryz.func74,Tryz.ntmps74
 go_wp2_with fail
 refine(HA.out _).mono ?_;rintro e w' ⟨rfl,rfl⟩
 go_wp2_with fail
 refine(HB.out _).mono ?_;rintro e w' ⟨rfl,rfl⟩
 go_wp2_with fail
 refine(HL.out _).mono ?_;rintro e w' ⟨rfl,rfl⟩
 go_wp2_with fail
 go_ret
 exact⟨ri t.out.symm,rfl⟩
theorem aHV(d:Int):st (d / 146097 * 400+d % 146097 / 366)<=d:=by unfold st PE;omega
theorem oL(d:Int)(w:World)(h0: -3652425000000000000<=d)(h1:d<3652425000000000366):
 Calls Tryz.prog 75 #[.int .i64 d] w fun e w'=>e=.returned (.int .i64 (dH d))/\w=w':=by
 obtain⟨y0,y1⟩:=rH.2 ⟨h0,h1⟩;have yl:=aHV d;have ys:=gU d;have ym:d / 146097 * 400+d % 146097 / 366<=dH d:=by
  have:=@aBB d (d / 146097 * 400+d % 146097 / 366);omega
 have YS:=rG ys;have YM:=rG ym;have wr:wrap64 (d - d / 146097 * 146097)=d % 146097:=by rw[wrap_in (by omega) (by omega)];omega
 clear ys ym yl
 go_enter Tryz.func75,Tryz.ntmps75
 go_wp2_with (go_at_call 43;refine(o9 _ _ _ (by omega) (by omega) (by omega) (by omega)).mono ?_;rintro e w' ⟨rfl,rfl⟩)
 go_loop [4] (fun y=> ∃v:Int,y=.int .i64 v/\ -10000000000000010<=v/\v<=dH d) (fun y=>(dH d - intOf y).toNat)
 case atStart=>exact⟨_,rfl,by omega,by have:=YM.out;omega⟩
 case round=>
  obtain⟨v,rfl,v0,v1⟩:=hrel
  by_cases hlt:v<dH d
  . have hle:st (v+1)<=d:=by have:=YS.out.1;have:=gZ (a:=v+1) (b:=dH d) (by omega);omega
    have t:decide (st (v+1)<=d)=true:=aBz hle
    go_wp2_with (go_at_call 63;refine(kN _ _ (by omega) (by omega)).mono ?_;rintro e w' ⟨rfl,rfl⟩)
    go_round
    case rel=>exact⟨v+1,rfl,by omega,by omega⟩
    case measure=>simp[intOf];omega
  have e:v=dH d:=by omega
  subst e;have t:decide (st (dH d+1)<=d)=false:=aBy (by have:=YS.out.2;omega)
  go_wp2_with (go_at_call 63;refine(kN _ _ (by omega) (by omega)).mono ?_;rintro e w' ⟨rfl,rfl⟩)
  go_ret
  exact⟨rfl,rfl⟩
theorem BG(d:Int)(w:World)(h0: -3652425000000000000<=d)(h1:d<3652425000000000366):
 Calls Tryz.prog 76 #[.int .i64 d] w fun e w'=>e=.returned (.int .i64 (DV (dH d) (d - st (dH d))))/\w=w':=by
 obtain⟨y0,y1⟩:=rH.2 ⟨h0,h1⟩;have ys:=gU d;have yn:=st_succ (dH d);obtain⟨m0,m1,m2,m3⟩:=@mG (dH d) (d - st (dH d)) (by omega) (by omega);have HY:=fun W=>oL d W h0 h1;generalize dH d=y at *;generalize DV y (d - st y)=m at *;replace HY:=rG HY;have M2:=rG m2;have M3:=rG m3;clear ys yn m2 m3;have HD: ∀v W,1<=v->v<=12->Calls Tryz.prog 66 #[.int .i64 y,.int .i64 (v+1),.int .i64 1] W fun e w'=>e=.returned (.int .i64 (st y+bZ y (v+1)))/\W=w':=fun v W h0 h1=>by
  have:=tY y (v+1) 1 W (by omega) (by omega) (by omega) (by omega) (by omega) (by omega);rw[show st y+bZ y (v+1)+1 - 1=st y+bZ y (v+1) by omega]at this;exact this
 replace HD:=rG HD
 go_enter Tryz.func76,Tryz.ntmps76
 go_wp2_with (go_at_call 75;refine(HY.out _).mono ?_;rintro e w' ⟨rfl,rfl⟩)
 go_loop [4] (fun j=> ∃v:Int,j=.int .i64 v/\1<=v/\v<=m) (fun j=>(m - intOf j).toNat)
 case atStart=>exact⟨1,rfl,by omega,by omega⟩
 case round=>
  obtain⟨v,rfl,v0,v1⟩:=hrel
  by_cases hlt:v<m
  . have hle:st y+bZ y (v+1)<=d:=by
     have:=M2.out
     by_cases h:v+1=m
     . rw[h];omega
     have:=@DF y (v+1) m (by omega) (by omega) (by omega);have:=eG y (v+1);omega
    have t:decide (st y+bZ y (v+1)<=d)=true:=aBz (by omega);have t2:decide (v<12)=true:=aBz (by omega);clear hle
    go_wp2_with (go_at_call 66;refine(HD.out _ _ (by omega) (by omega)).mono ?_;rintro e w' ⟨rfl,rfl⟩)
    go_round
    case rel=>exact⟨v+1,rfl,by omega,by omega⟩
    case measure=>simp[intOf];omega
  have e:v=m:=by omega
  subst e
  by_cases h12:v<12
  . have t:decide (st y+bZ y (v+1)<=d)=false:=aBy (by have:=M3.out;omega);have t2:decide (v<12)=true:=aBz h12
    go_wp2_with (go_at_call 66;refine(HD.out _ _ (by omega) (by omega)).mono ?_;rintro e w' ⟨rfl,rfl⟩)
    go_ret
    exact⟨rfl,rfl⟩
  have e:v=12:=by omega
  subst e
  go_wp2_with (go_at_call 66;refine(HD.out _ _ (by omega) (by omega)).mono ?_;rintro e w' ⟨rfl,rfl⟩)
  go_ret
  exact⟨rfl,rfl⟩
theorem iZ(lo hi:Int)(w:World):
 Calls Tryz.prog 42 #[.int .i64 lo,.int .i64 hi] w fun r w'=>r=.returned (rv 0 lo 0 hi)/\Below w.heap.size w w':=by
 go_enter Tryz.func42,Tryz.ntmps42
 go_wp2
 refine aHE (v:=rv 0 lo 0 hi) (by simp[results,Tryz.results42,go_sem,rv]) rfl ⟨rfl,?_⟩
 first|exact ba (aAI _ _) _|exact aAI _ _
end Un
end
section
open Go.RowKit
namespace Un
open Cal
theorem tX(y:Int)(w:World)(h0: -10000000000000000<=y)(h1:y<=10000000000000000):
 Calls Tryz.prog 40 #[.int .i64 y,.int .i64 0,.int .i64 0] w fun r w'=>r=.returned (rv 0 (st y) 0 (st (y+1) - 1))/\Below w.heap.size w w':=by
 obtain⟨b0,b1⟩:=lV (y:=y) (by omega) (by omega);obtain⟨l0,l1⟩:=uZ y;have E:Hid (st y+364+lp y=st (y+1) - 1):=rG (by rw[st_succ];omega)
 go_enter Tryz.func40,Tryz.ntmps40
 go_wp2_with (first|(go_at_call 63;refine(kN _ _ (by omega) (by omega)).mono ?_;rintro e w' ⟨rfl,rfl⟩)|(go_at_call 64;refine(vV _ _).mono ?_;rintro e w' ⟨rfl,rfl⟩))
 refine(iZ _ _ _).mono ?_;rintro _ w1 ⟨rfl,hb1⟩;unfold rv;obtain⟨q0,q1,q2,q3,z0,z1,z2,z3⟩:=jM hb1
 go_wp2_with fail
 refine aHE (v:=rv 0 (st y) 0 (st y+364+lp y)) (by simp[results,Tryz.results40,go_sem,rv,q0,q1,q2,q3]) rfl ⟨by rw[E.out],?_⟩;exact((((bt (ba (aAI _ _) _) hb1).setCell (aEc _) _).setCell (aEc _) _).setCell (aEc _) _).setCell (aEc _) _
theorem tV(y m:Int)(w:World)(h0: -10000000000000000<=y)(h1:y<=10000000000000000)(m0:1<=m)(m1:m<=12):
 Calls Tryz.prog 40 #[.int .i64 y,.int .i64 m,.int .i64 0] w fun r w'=>r=.returned (rv 0 (st y+bZ y m) 0 (st y+bZ y (m+1) - 1))/\Below w.heap.size w w':=by
 obtain⟨b0,b1⟩:=lV (y:=y) (by omega) (by omega);have lb:=eG y m;have cb:=@fF y m (by omega) (by omega);have E:Hid (st y+bZ y m+len y m - 1=st y+bZ y (m+1) - 1):=rG (by rw[bP y m m0 m1];omega);have HD: ∀W,Calls Tryz.prog 66 #[.int .i64 y,.int .i64 m,.int .i64 1] W fun e w'=>e=.returned (.int .i64 (st y+bZ y m))/\W=w':=fun W=>by
  have:=tY y m 1 W (by omega) (by omega) (by omega) (by omega) (by omega) (by omega);rw[show st y+bZ y m+1 - 1=st y+bZ y m by omega]at this;exact this
 replace HD:=rG HD;have t:(m==0)=false:=by rw[aBA];omega
 go_enter Tryz.func40,Tryz.ntmps40
 go_wp2_with (first|(go_at_call 66;refine(HD.out _).mono ?_;rintro e w' ⟨rfl,rfl⟩)|(go_at_call 67;refine(zM _ _ _ (by omega) (by omega)).mono ?_;rintro e w' ⟨rfl,rfl⟩))
 refine(iZ _ _ _).mono ?_;rintro _ w1 ⟨rfl,hb1⟩;unfold rv;obtain⟨q0,q1,q2,q3,z0,z1,z2,z3⟩:=jM hb1
 go_wp2_with fail
 refine aHE (v:=rv 0 (st y+bZ y m) 0 (st y+bZ y m+len y m - 1)) (by simp[results,Tryz.results40,go_sem,rv,q0,q1,q2,q3]) rfl ⟨by rw[E.out],?_⟩;exact((((bt (ba (aAI _ _) _) hb1).setCell (aEc _) _).setCell (aEc _) _).setCell (aEc _) _).setCell (aEc _) _
theorem IG(d:Int)(w:World):
 Calls Tryz.prog 47 #[.int .i64 d,.int .i64 3] w fun r w'=>r=.returned (.tuple #[rv 0 d 0 d,.int .i64 0])/\Below w.heap.size w w':=by
 go_enter Tryz.func47,Tryz.ntmps47
 go_wp2_with fail
 refine(iZ _ _ _).mono ?_;rintro _ w1 ⟨rfl,hb1⟩;unfold rv;obtain⟨q0,q1,q2,q3,z0,z1,z2,z3⟩:=jM hb1
 go_wp2_with fail
 refine aHE (v:=.tuple #[rv 0 d 0 d,.int .i64 0]) (by simp[results,Tryz.results47,go_sem,rv,q0,q1,q2,q3]) rfl ⟨rfl,?_⟩;exact((((bt (ba (aAI _ _) _) hb1).setCell (aEc _) _).setCell (aEc _) _).setCell (aEc _) _).setCell (aEc _) _
theorem EH(d p:Int)(w:World)(hp:p<1\/3<p):
 Calls Tryz.prog 47 #[.int .i64 d,.int .i64 p] w fun r w'=>r=.returned (.tuple #[rv 0 0 0 0,.int .i64 18])/\Below w.heap.size w w':=by
 rcases hp with hp|hp
 . go_enter Tryz.func47,Tryz.ntmps47
   go_wp2_with fail
   refine aHE (v:=.tuple #[rv 0 0 0 0,.int .i64 18]) (by simp[results,Tryz.results47,go_sem,rv]) rfl ⟨rfl,?_⟩;exact ba (aAI _ _) _
 go_enter Tryz.func47,Tryz.ntmps47
 go_wp2_with fail
 refine aHE (v:=.tuple #[rv 0 0 0 0,.int .i64 18]) (by simp[results,Tryz.results47,go_sem,rv]) rfl ⟨rfl,?_⟩;exact ba (aAI _ _) _
theorem BI(d p:Int)(w:World)(hp:p=1\/p=2)(h0: -9223372036854775808<=d)(h1:d<9223372036854775808)(hd:inC d=0):
 Calls Tryz.prog 47 #[.int .i64 d,.int .i64 p] w fun r w'=>r=.returned (.tuple #[rv 0 0 0 0,.int .i64 6])/\Below w.heap.size w w':=by
 have HI:=fun W=>EG d W h0 h1;rw[hd]at HI;replace HI:=rG HI;clear hd;rcases hp with rfl|rfl
 . go_enter Tryz.func47,Tryz.ntmps47
   go_wp2_with (first|(go_at_call 74;refine(HI.out _).mono ?_;rintro e w' ⟨rfl,rfl⟩))
   refine aHE (v:=.tuple #[rv 0 0 0 0,.int .i64 6]) (by simp[results,Tryz.results47,go_sem,rv]) rfl ⟨rfl,?_⟩;exact ba (aAI _ _) _
 go_enter Tryz.func47,Tryz.ntmps47
 go_wp2_with (first|(go_at_call 74;refine(HI.out _).mono ?_;rintro e w' ⟨rfl,rfl⟩))
 refine aHE (v:=.tuple #[rv 0 0 0 0,.int .i64 6]) (by simp[results,Tryz.results47,go_sem,rv]) rfl ⟨rfl,?_⟩;exact ba (aAI _ _) _
theorem IJ(d:Int)(w:World)(h0: -3652425000000000000<=d)(h1:d<3652425000000000366):
 Calls Tryz.prog 47 #[.int .i64 d,.int .i64 1] w fun r w'=>r=.returned (.tuple #[rv 0 (st (dH d)) 0 (st (dH d+1) - 1),.int .i64 0])/\Below w.heap.size w w':=by
 have HI:=fun W=>EG d W (by omega) (by omega);rw[show inC d=1 from by unfold inC;rw[aDk ⟨h0,h1⟩]]at HI;have HY:=fun W=>oL d W h0 h1;obtain⟨y0,y1⟩:=rH.2 ⟨h0,h1⟩;generalize dH d=y at *;have HU:=fun W=>tX y W y0 y1;generalize st (y+1) - 1=hi at *;generalize st y=lo at *;unfold rv at HU ⊢;replace HI:=rG HI;replace HY:=rG HY;replace HU:=rG HU
 go_enter Tryz.func47,Tryz.ntmps47
 go_wp2_with (first|(go_at_call 74;refine(HI.out _).mono ?_;rintro e w' ⟨rfl,rfl⟩)|(go_at_call 75;refine(HY.out _).mono ?_;rintro e w' ⟨rfl,rfl⟩))
 refine(HU.out _).mono ?_;rintro _ w1 ⟨rfl,hb1⟩;obtain⟨q0,q1,q2,q3,z0,z1,z2,z3⟩:=jM hb1
 go_wp2_with fail
 refine aHE (v:=.tuple #[rv 0 lo 0 hi,.int .i64 0]) (by simp[results,Tryz.results47,go_sem,rv,q0,q1,q2,q3]) rfl ⟨rfl,?_⟩;exact((((bt (ba (aAI _ _) _) hb1).setCell (aEc _) _).setCell (aEc _) _).setCell (aEc _) _).setCell (aEc _) _
theorem II(d:Int)(w:World)(h0: -3652425000000000000<=d)(h1:d<3652425000000000366):
 Calls Tryz.prog 47 #[.int .i64 d,.int .i64 2] w fun r w'=>r=.returned (.tuple #[rv 0 (st (dH d)+bZ (dH d) (DV (dH d) (d - st (dH d)))) 0 (st (dH d)+bZ (dH d) (DV (dH d) (d - st (dH d))+1) - 1),.int .i64 0])/\Below w.heap.size w w':=by
 have HI:=fun W=>EG d W (by omega) (by omega);rw[show inC d=1 from by unfold inC;rw[aDk ⟨h0,h1⟩]]at HI;have HY:=fun W=>oL d W h0 h1;have HM:=fun W=>BG d W h0 h1;obtain⟨y0,y1⟩:=rH.2 ⟨h0,h1⟩;have ys:=gU d;have yn:=st_succ (dH d);obtain⟨m0,m1,m2,m3⟩:=@mG (dH d) (d - st (dH d)) (by omega) (by omega);clear m2 m3 ys yn;generalize dH d=y at *;generalize DV y (d - st y)=m at *;have HU:=fun W=>tV y m W y0 y1 m0 m1;generalize st y+bZ y (m+1) - 1=hi at *;generalize st y+bZ y m=lo at *;unfold rv at HU ⊢;replace HI:=rG HI;replace HY:=rG HY;replace HU:=rG HU;replace HM:=rG HM
 go_enter Tryz.func47,Tryz.ntmps47
 go_wp2_with (first|(go_at_call 74;refine(HI.out _).mono ?_;rintro e w' ⟨rfl,rfl⟩)|(go_at_call 75;refine(HY.out _).mono ?_;rintro e w' ⟨rfl,rfl⟩)|(go_at_call 76;refine(HM.out _).mono ?_;rintro e w' ⟨rfl,rfl⟩))
 refine(HU.out _).mono ?_;rintro _ w1 ⟨rfl,hb1⟩;obtain⟨q0,q1,q2,q3,z0,z1,z2,z3⟩:=jM hb1
 go_wp2_with fail
 refine aHE (v:=.tuple #[rv 0 lo 0 hi,.int .i64 0]) (by simp[results,Tryz.results47,go_sem,rv,q0,q1,q2,q3]) rfl ⟨rfl,?_⟩;exact((((bt (ba (aAI _ _) _) hb1).setCell (aEc _) _).setCell (aEc _) _).setCell (aEc _) _).setCell (aEc _) _
theorem lZ(d p:Int)(w:World)(h0: -9223372036854775808<=d)(h1:d<9223372036854775808):
 Calls Tryz.prog 47 #[.int .i64 d,.int .i64 p] w fun r w'=>r=.returned (.tuple #[rv 0 (aI p d).1 0 (aI p d).2.1,.int .i64 (aI p d).2.2])/\Below w.heap.size w w':=by
 unfold aI
 by_cases hp:p<1\/3<p
 . rw[aDk hp];exact EH d p w hp
 rw [aBx hp];unfold mM
 by_cases p3:p=3
 . subst p3;rw[aDk rfl];exact IG d w
 rw[aBx p3]
 by_cases hd: -3652425000000000000<=d/\d<3652425000000000366
 . rw[aDk (rH.2 hd)];obtain rfl|rfl:p=1\/p=2:=by omega
   . rw[aDk rfl];exact IJ d w hd.1 hd.2
   rw[aBx (by omega)];exact II d w hd.1 hd.2
 rw[aBx (fun h=>hd (rH.1 h))];exact BI d p w (by omega) h0 h1 (by unfold inC;rw[aBx hd])
end Un
end
section
open Go.RowKit Go.Lib
namespace Bk
open Un (ba bt ri rb aS aZ)
theorem aNR{s:ByteArray}(hd:allB bG s=true)(hs:s.size<=17)(k:Nat)(hk:k<=s.size):0<=qP s k/\qP s k<100000000000000000:=by
 have h1:=MK s k;have h2:=xK hd k (s.size - k);rw[show k+(s.size - k)=s.size+0 by omega,wG]at h2;have h3:=aEs hd hs;have:fJ s (0:Nat)=iP s:=by unfold fJ;rw[show ((0:Nat):Int).toNat=0 from rfl];unfold p10;simp
 omega
theorem aJX(s:ByteArray):qP s s.size=iP s:=by
 have:=wG s 0;rw[aMk]at this;rw[this];unfold fJ;rw[show ((0:Nat):Int).toNat=0 from rfl];unfold p10;simp
theorem YG(s:ByteArray)(w:World)(hs:s.size<=2)(hd:allB bG s=true):
 Calls Tryz.prog 293 #[.string s] w fun r w'=>r=.returned (.int .i64 (iP s))/\Below w.heap.size w w':=by
 obtain⟨cap,W1,hcv,hC,hB⟩:=OD w s;have HC:=rG hC;have HD:=rG hd;have HP:=rG (fun k hk=>aNR hd (by omega) k hk);clear hd hC
 go_enter Tryz.func293,Tryz.ntmps293
 go_wp2
 clear hcv
 go_loop [3,9] (fun n i=> ∃k:Nat,k<=s.size/\i=.int .i64 k/\n=.int .i64 (qP s k)) (fun _ i=>s.size - (intOf i).toNat)
 case atStart=>exact⟨0,aJS _,rfl,by rw[EP]⟩
 case round=>
  obtain⟨k,hk,rfl,rfl⟩:=hrel;have p0:=HP.out k hk
  by_cases hlt:k<s.size
  . have hc:=HC.out k hlt;have hd:=XB HD.out k hlt;have HS:=rG (ML HD.out k hlt);have p1:=HP.out (k+1) (by omega);rw[HS.out]at p1;obtain⟨d0,d1⟩:=hd
    go_wp2
    go_round
    case rel=>exact⟨k+1,by omega,by go_num,by rw[HS.out]⟩
    case measure=>simp[intOf];omega
  obtain rfl:k=s.size:=by omega
  go_wp2
  go_ret
  exact⟨ri (aJX s),hB⟩
def Dt.msk(d:Dt):Bool:=hasB 88 (d.dg++d.mo++d.da)||decide (0<d.sig)
theorem U9(d:Dt)(w:World)(hs:d.mo.size<=1000)(hy:d.dg.size<=1000)(ha:d.da.size<=1000):
 Calls Tryz.prog 38 #[aV d] w fun r w'=>r=.returned (.int .i64 (if d.msk then 1 else 0))/\Below w.heap.size w w':=by
 have hD:=Dm.new d w 37;obtain⟨R,hR⟩: ∃R:Int,R=if d.msk then 1 else 0:=⟨_,rfl⟩
 rw[<-hR];have HR:Hid ((∀k (h:k<(d.dg++d.mo++d.da).size),((((d.dg++d.mo++d.da)[k]'h).toNat:Int))=88->R=1)/\(0<d.sig->R=1)/\((∀k,k<(d.dg++d.mo++d.da).size->aX (d.dg++d.mo++d.da) k≠88)->d.sig<=0->R=0)):=rG (by
  rw[hR];unfold Dt.msk;generalize d.dg++d.mo++d.da=s;refine⟨fun k h e=>?_,fun h=>?_,fun h h2=>?_⟩
  . rw[(wP 88 s).2 ⟨k,h,by rw[bQ s k h];exact e⟩];rfl
  . rw[aBz h];simp
  have:hasB 88 s=false:=by
   rw[aPj];intro c;obtain⟨i,hi,he⟩:=(wP 88 s).1 c;exact h i hi he
  rw[this,aBy (by omega)];rfl)
 clear hR;unfold aV;have e1:(d.dg++d.mo).size=d.dg.size+d.mo.size:=by simp
 have e2:(d.dg++d.mo++d.da).size=d.dg.size+d.mo.size+d.da.size:=by simp
 go_enter Tryz.func38,Tryz.ntmps38
 go_upto_region 1 with(fail)
 generalize World.alloc _ _=W0 at hD ⊢;obtain⟨q0,q1,q2,q3,q4,q5,q6,q7,q8,q9,qB⟩:=id hD
 go_wp2
 generalize d.dg++d.mo++d.da=s at *
 go_loop [4] (fun i=> ∃k:Nat,k<=s.size/\i=.int .i64 k/\ ∀j,j<k->aX s j≠88) (fun i=>s.size - (intOf i).toNat)
 case atStart=>exact⟨0,aJS _,rfl,fun j h=>by omega⟩
 case round=>
  obtain⟨k,hk,rfl,hn⟩:=hrel;have HN:=rG hn;clear hn
  by_cases hlt:k<s.size
  . by_cases c:((s[k]'hlt).toNat:Int)=88
    . have hv:=HR.out.1 k hlt c
      go_wp2
      go_ret
      exact⟨ri (by first|rfl|exact hv.symm),hD.below⟩
    go_wp2
    go_round
    case rel=>exact⟨k+1,by omega,by go_num,fun j hj=>by
     by_cases e:j=k
     . subst e;rw[bQ s j hlt];exact c
     exact HN.out j (by omega)⟩
    case measure=>simp[intOf];omega
  obtain rfl:k=s.size:=by omega
  by_cases c:0<d.sig
  . have hv:=HR.out.2.1 c
    go_wp2
    go_ret
    exact⟨ri (by first|rfl|exact hv.symm),hD.below⟩
  have hv:=HR.out.2.2 HN.out (by omega)
  go_wp2
  go_ret
  exact⟨ri (by first|rfl|exact hv.symm),hD.below⟩
end Bk
end
section
open Go.RowKit Go.Lib
namespace Bk
open Un (ba bt ri rb aS aZ)
def gV(y m k:Int):Int:=if m=0 then Cal.st y else if 12<m then Cal.st y+Cal.bZ y (bH m)else if k=0 then Cal.st y+Cal.bZ y m else Cal.st y+Cal.bZ y m+k - 1
def jS(y m k:Int):Int:=if m=0 then Cal.st (y+1) - 1 else if 12<m then Cal.st (fM y m)+Cal.bZ (fM y m) (sV m+1) - 1 else if k=0 then Cal.st y+Cal.bZ y (m+1) - 1 else Cal.st y+Cal.bZ y m+k - 1
def fQ(y sf k:Int):Int:=if sf+k<=13 then Cal.st y+Cal.bZ y (sf+k) - 1 else Cal.st (y+1)+Cal.bZ (y+1) (sf+k - 12) - 1
theorem aFe{y sf k:Int}(h0:1<=sf)(h1:0<=k)(h2:sf+k<=12):fQ y sf (k+1)=fQ y sf k+Cal.len y (sf+k):=by
 unfold fQ;rw[aDk (by omega),aDk (by omega),show sf+(k+1)=sf+k+1 by omega,Cal.bP y (sf+k) (by omega) (by omega)];omega
theorem aBW{y sf k:Int}(h0:1<=sf)(h1:0<=k)(h2:12<sf+k)(h3:sf+k<=24):fQ y sf (k+1)=fQ y sf k+Cal.len (y+1) (sf+k - 12):=by
 unfold fQ;rw[aBx (by omega),show sf+(k+1) - 12=sf+k - 12+1 by omega,Cal.bP (y+1) (sf+k - 12) (by omega) (by omega)]
 by_cases c:sf+k=13
 . rw[aDk (by omega),c,show(13:Int) - 12=1 from rfl,Cal.jL,Cal.yA,Cal.st_succ];omega
 rw[aBx (by omega)];omega
theorem KX(y c:Int)(h0:21<=c)(h1:c<=41):fQ y (bH c) (eH c)=Cal.st (fM y c)+Cal.bZ (fM y c) (sV c+1) - 1:=by
 unfold fQ fM sV
 by_cases h:bH c+eH c - 1<=12
 . rw[aDk (by omega),aDk h,aDk h,show bH c+eH c - 1+1=bH c+eH c by omega]
 rw[aBx (by omega),aBx h,aBx h,show bH c+eH c - 13+1=bH c+eH c - 12 by omega]
theorem aFg{y sf k:Int}(y0: -10000000000000000<=y)(y1:y<=10000000000000000)(h0:1<=sf)(h1:0<=k)(h2:sf+k<=24): -9200000000000000400<=fQ y sf k/\fQ y sf k<=9200000000000000400:=by
 obtain⟨b0,b1⟩:=Un.lV (y:=y) (by omega) (by omega);obtain⟨b2,b3⟩:=Un.lV (y:=y+1) (by omega) (by omega);unfold fQ
 split
 . have:=@Cal.fF y (sf+k) (by omega) (by omega);omega
 have:=@Cal.fF (y+1) (sf+k - 12) (by omega) (by omega);omega
theorem KP(c:Int):1<=bH c/\bH c<=12/\3<=eH c/\eH c<=6/\bH c+eH c<=15:=by unfold bH eH;(repeat' split)<;>omega
theorem wK:(Tryz.prog.info? 42).map (·.size)=some 4:=by kernel_rfl
theorem P5 (y c:Int) (w:World) (y0: -10000000000000000<=y) (y1:y<=10000000000000000) (c0:21<=c) (c1:c<=41):
 Calls Tryz.prog 65 #[.int .i64 y,.int .i64 c] w fun r w'=>r=.returned (rv (Cal.st y+Cal.bZ y (bH c)) (Cal.st (fM y c)+Cal.bZ (fM y c) (sV c+1) - 1))/\Below w.heap.size w w':=by
 have hf:=KP c;rw[<-KX y c c0 c1];have HL:=rG (fun y m w m0 m1=>Un.zM y m w m0 m1);have HD:Hid (∀w,Calls Tryz.prog 66 #[.int .i64 y,.int .i64 (bH c),.int .i64 1] w fun e w'=>e=.returned (.int .i64 (Cal.st y+Cal.bZ y (bH c)))/\w=w'):=rG (fun w=>by
  have:=Un.tY y (bH c) 1 w (by omega) (by omega) (by omega) (by omega) (by omega) (by omega);rw[show Cal.st y+Cal.bZ y (bH c)+1 - 1=Cal.st y+Cal.bZ y (bH c) by omega]at this;exact this)
 have HB:=rG (fun k h1 h2=>@aFg y (bH c) k y0 y1 hf.1 h1 h2);have HI:=rG (fun k h1 h2=>@aFe y (bH c) k hf.1 h1 h2);have HO:=rG (fun k h1 h2 h3=>@aBW y (bH c) k hf.1 h1 h2 h3);have H0:Hid (fQ y (bH c) 0=Cal.st y+Cal.bZ y (bH c) - 1):=rG (by unfold fQ;rw[aXR,aDk (by omega)]);obtain⟨b0,b1⟩:=HB.out 0 (by omega) (by omega);rw[H0.out]at b0 b1;generalize hsf:bH c=sf at *;generalize hsm:eH c=sm at *;generalize Cal.st y+Cal.bZ y sf=lo at *;obtain⟨f0,f1,f2,f3,f4⟩:=hf;have HSF:=rG hsf;have HSM:=rG hsm;clear hsf hsm;have hR:Rw w.heap.size [.int .i8 0,.int .i64 0,.int .i8 0,.int .i64 0] w _:=Rw.fresh (aAI _ _) _ 42;unfold rv
 go_enter Tryz.func65,Tryz.ntmps65
 go_upto_region 1 with(fail)
 generalize World.alloc _ _=W0 at hR ⊢
 go_cut [5] (fun s5 wx=>s5=.int .i64 sf/\Rw w.heap.size [.int .i8 0,.int .i64 0,.int .i8 0,.int .i64 0] w wx)
 case first=>
  clear HL HD HB HI HO H0 HSM b0 b1;have i0:0<=c - 21:=by omega
  have i1:c - 21<21:=by omega
  go_wp2
  go_meet
  refine⟨?_,hR.later (ba (aAI _ _) _)⟩;have hc:c=21\/c=22\/c=23\/c=24\/c=25\/c=26\/c=27\/c=28\/c=29\/c=30\/c=31\/c=32\/c=33\/c=34\/c=35\/c=36\/c=37\/c=38\/c=39\/c=40\/c=41:=by omega
  rw[<-HSF.out];rcases hc with rfl|rfl|rfl|rfl|rfl|rfl|rfl|rfl|rfl|rfl|rfl|rfl|rfl|rfl|rfl|rfl|rfl|rfl|rfl|rfl|rfl<;>rfl
 case rest=>
  obtain⟨rfl,hR⟩:=hcut
  go_upto_region 7 with(fail)
  . clear HSF;have hsm:=HSM.out;clear HSM;unfold eH at hsm
    first|rw[aDk (by omega)]at hsm|rw[aBx (by omega),aDk (by omega)]at hsm|rw[aBx (by omega),aBx (by omega)]at hsm
    subst hsm
    as_aux_lemma=>
     go_wp2_with (go_at_call 66;with_reducible refine(HD.out _).mono ?_;rintro _ w' ⟨rfl,rfl⟩)
     clear HD
     go_loop [8,9] (fun hi i=> ∃k:Nat,(k:Int)<=6/\i=.int .i64 k/\hi=.int .i64 (fQ y sf k)) (fun _ i=>10 - (intOf i).toNat)
     case atStart=>exact⟨0,by omega,rfl,by rw[show ((0:Nat):Int)=0 from rfl,H0.out]⟩
     case round=>
      obtain⟨k,hk,rfl,rfl⟩:=hrel
      by_cases hlt:(k:Int)<6
      . obtain⟨g0,g1⟩:=HB.out k (by omega) (by omega);obtain⟨g2,g3⟩:=HB.out (k+1) (by omega) (by omega)
        by_cases hc:sf+k<=12
        . have HE:=rG (HI.out k (by omega) hc);rw[HE.out]at g2 g3
          go_wp2_with (go_at_call 67;refine(HL.out _ _ _ (by omega) (by omega)).mono ?_;rintro _ w' ⟨rfl,rfl⟩)
          go_round
          case rel=>exact⟨k+1,by omega,by go_num,by rw[show ((k+1:Nat):Int)=k+1 by omega];exact aTd _ HE.out.symm⟩
          case measure=>simp[intOf];omega
        have HE:=rG (HO.out k (by omega) (by omega) (by omega));rw[HE.out]at g2 g3
        go_wp2_with (go_at_call 67;refine(HL.out _ _ _ (by omega) (by omega)).mono ?_;rintro _ w' ⟨rfl,rfl⟩)
        go_round
        case rel=>exact⟨k+1,by omega,by go_num,by rw[show ((k+1:Nat):Int)=k+1 by omega];exact aTd _ HE.out.symm⟩
        case measure=>simp[intOf];omega
      have hk2:(k:Int)=6:=by omega
      rw[hk2];obtain⟨g0,g1⟩:=HB.out 6 (by omega) (by omega);generalize hhi:fQ y sf 6=hi at *;have HHI:=rG hhi;clear hhi;clear HB HI HO H0 HL
      go_wp2_with (go_at_call 42;refine(Un.iZ _ _ _).mono ?_;rintro _ w1 ⟨rfl,hb⟩;have hX:=hR.later hb;unfold Un.rv;have f0:=hX.cell 0 _ rfl;have f1:=hX.cell 1 _ rfl;have f2:=hX.cell 2 _ rfl;have f3:=hX.cell 3 _ rfl;have z0:=hX.free 0 (by simp);have z1:=hX.free 1 (by simp);have z2:=hX.free 2 (by simp);have z3:=hX.free 3 (by simp))
      have hY:=hX.dB [.int .i8 0,.int .i64 lo,.int .i8 0,.int .i64 hi] rfl;exact aHE (v:=rv lo hi) (dQ Tryz.results65 _ rfl (aMj _ _ 0 42 [.int .i8 0,.int .i64 lo,.int .i8 0,.int .i64 hi] _ hY.range Tryz.underlying42 rfl wK)) rfl ⟨by rw[HHI.out];rfl,hY.below⟩
  . clear HSF;have hsm:=HSM.out;clear HSM;unfold eH at hsm
    first|rw[aDk (by omega)]at hsm|rw[aBx (by omega),aDk (by omega)]at hsm|rw[aBx (by omega),aBx (by omega)]at hsm
    subst hsm
    as_aux_lemma=>
     go_wp2_with (go_at_call 66;with_reducible refine(HD.out _).mono ?_;rintro _ w' ⟨rfl,rfl⟩)
     clear HD
     go_loop [8,9] (fun hi i=> ∃k:Nat,(k:Int)<=4/\i=.int .i64 k/\hi=.int .i64 (fQ y sf k)) (fun _ i=>10 - (intOf i).toNat)
     case atStart=>exact⟨0,by omega,rfl,by rw[show ((0:Nat):Int)=0 from rfl,H0.out]⟩
     case round=>
      obtain⟨k,hk,rfl,rfl⟩:=hrel
      by_cases hlt:(k:Int)<4
      . obtain⟨g0,g1⟩:=HB.out k (by omega) (by omega);obtain⟨g2,g3⟩:=HB.out (k+1) (by omega) (by omega)
        by_cases hc:sf+k<=12
        . have HE:=rG (HI.out k (by omega) hc);rw[HE.out]at g2 g3
          go_wp2_with (go_at_call 67;refine(HL.out _ _ _ (by omega) (by omega)).mono ?_;rintro _ w' ⟨rfl,rfl⟩)
          go_round
          case rel=>exact⟨k+1,by omega,by go_num,by rw[show ((k+1:Nat):Int)=k+1 by omega];exact aTd _ HE.out.symm⟩
          case measure=>simp[intOf];omega
        have HE:=rG (HO.out k (by omega) (by omega) (by omega));rw[HE.out]at g2 g3
        go_wp2_with (go_at_call 67;refine(HL.out _ _ _ (by omega) (by omega)).mono ?_;rintro _ w' ⟨rfl,rfl⟩)
        go_round
        case rel=>exact⟨k+1,by omega,by go_num,by rw[show ((k+1:Nat):Int)=k+1 by omega];exact aTd _ HE.out.symm⟩
        case measure=>simp[intOf];omega
      have hk2:(k:Int)=4:=by omega
      rw[hk2];obtain⟨g0,g1⟩:=HB.out 4 (by omega) (by omega);generalize hhi:fQ y sf 4=hi at *;have HHI:=rG hhi;clear hhi;clear HB HI HO H0 HL
      go_wp2_with (go_at_call 42;refine(Un.iZ _ _ _).mono ?_;rintro _ w1 ⟨rfl,hb⟩;have hX:=hR.later hb;unfold Un.rv;have f0:=hX.cell 0 _ rfl;have f1:=hX.cell 1 _ rfl;have f2:=hX.cell 2 _ rfl;have f3:=hX.cell 3 _ rfl;have z0:=hX.free 0 (by simp);have z1:=hX.free 1 (by simp);have z2:=hX.free 2 (by simp);have z3:=hX.free 3 (by simp))
      have hY:=hX.dB [.int .i8 0,.int .i64 lo,.int .i8 0,.int .i64 hi] rfl;exact aHE (v:=rv lo hi) (dQ Tryz.results65 _ rfl (aMj _ _ 0 42 [.int .i8 0,.int .i64 lo,.int .i8 0,.int .i64 hi] _ hY.range Tryz.underlying42 rfl wK)) rfl ⟨by rw[HHI.out];rfl,hY.below⟩
  clear HSF;have hsm:=HSM.out;clear HSM;unfold eH at hsm
  first|rw[aDk (by omega)]at hsm|rw[aBx (by omega),aDk (by omega)]at hsm|rw[aBx (by omega),aBx (by omega)]at hsm
  subst hsm
  as_aux_lemma=>
   go_wp2_with (go_at_call 66;with_reducible refine(HD.out _).mono ?_;rintro _ w' ⟨rfl,rfl⟩)
   clear HD
   go_loop [8,9] (fun hi i=> ∃k:Nat,(k:Int)<=3/\i=.int .i64 k/\hi=.int .i64 (fQ y sf k)) (fun _ i=>10 - (intOf i).toNat)
   case atStart=>exact⟨0,by omega,rfl,by rw[show ((0:Nat):Int)=0 from rfl,H0.out]⟩
   case round=>
    obtain⟨k,hk,rfl,rfl⟩:=hrel
    by_cases hlt:(k:Int)<3
    . obtain⟨g0,g1⟩:=HB.out k (by omega) (by omega);obtain⟨g2,g3⟩:=HB.out (k+1) (by omega) (by omega)
      by_cases hc:sf+k<=12
      . have HE:=rG (HI.out k (by omega) hc);rw[HE.out]at g2 g3
        go_wp2_with (go_at_call 67;refine(HL.out _ _ _ (by omega) (by omega)).mono ?_;rintro _ w' ⟨rfl,rfl⟩)
        go_round
        case rel=>exact⟨k+1,by omega,by go_num,by rw[show ((k+1:Nat):Int)=k+1 by omega];exact aTd _ HE.out.symm⟩
        case measure=>simp[intOf];omega
      have HE:=rG (HO.out k (by omega) (by omega) (by omega));rw[HE.out]at g2 g3
      go_wp2_with (go_at_call 67;refine(HL.out _ _ _ (by omega) (by omega)).mono ?_;rintro _ w' ⟨rfl,rfl⟩)
      go_round
      case rel=>exact⟨k+1,by omega,by go_num,by rw[show ((k+1:Nat):Int)=k+1 by omega];exact aTd _ HE.out.symm⟩
      case measure=>simp[intOf];omega
    have hk2:(k:Int)=3:=by omega
    rw[hk2];obtain⟨g0,g1⟩:=HB.out 3 (by omega) (by omega);generalize hhi:fQ y sf 3=hi at *;have HHI:=rG hhi;clear hhi;clear HB HI HO H0 HL
    go_wp2_with (go_at_call 42;refine(Un.iZ _ _ _).mono ?_;rintro _ w1 ⟨rfl,hb⟩;have hX:=hR.later hb;unfold Un.rv;have f0:=hX.cell 0 _ rfl;have f1:=hX.cell 1 _ rfl;have f2:=hX.cell 2 _ rfl;have f3:=hX.cell 3 _ rfl;have z0:=hX.free 0 (by simp);have z1:=hX.free 1 (by simp);have z2:=hX.free 2 (by simp);have z3:=hX.free 3 (by simp))
    have hY:=hX.dB [.int .i8 0,.int .i64 lo,.int .i8 0,.int .i64 hi] rfl;exact aHE (v:=rv lo hi) (dQ Tryz.results65 _ rfl (aMj _ _ 0 42 [.int .i8 0,.int .i64 lo,.int .i8 0,.int .i64 hi] _ hY.range Tryz.underlying42 rfl wK)) rfl ⟨by rw[HHI.out];rfl,hY.below⟩
theorem aCd(y c:Int)(w:World)(y0: -10000000000000000<=y)(y1:y<=10000000000000000)(c0:21<=c)(c1:c<=41)(k:Int):
 Calls Tryz.prog 40 #[.int .i64 y,.int .i64 c,.int .i64 k] w fun r w'=>r=.returned (rv (gV y c k) (jS y c k))/\Below w.heap.size w w':=by
 have HS:=rG (fun w=>P5 y c w y0 y1 c0 c1);have e1:gV y c k=Cal.st y+Cal.bZ y (bH c):=by unfold gV;rw[aBx (by omega),aDk (by omega)]
 have e2:jS y c k=Cal.st (fM y c)+Cal.bZ (fM y c) (sV c+1) - 1:=by unfold jS;rw[aBx (by omega),aDk (by omega)]
 rw[e1,e2];clear e1 e2;generalize Cal.st y+Cal.bZ y (bH c)=lo at *;generalize Cal.st (fM y c)+Cal.bZ (fM y c) (sV c+1) - 1=hi at *;have hR:Rw w.heap.size [.int .i8 0,.int .i64 0,.int .i8 0,.int .i64 0] w _:=Rw.fresh (aAI _ _) _ 42;unfold rv at HS
 go_enter Tryz.func40,Tryz.ntmps40
 go_upto_region 1 with(fail)
 generalize World.alloc _ _=W0 at hR ⊢
 go_wp2_with (go_at_call 65;refine(HS.out _).mono ?_;rintro _ w1 ⟨rfl,hb⟩;have hX:=hR.later hb;have f0:=hX.cell 0 _ rfl;have f1:=hX.cell 1 _ rfl;have f2:=hX.cell 2 _ rfl;have f3:=hX.cell 3 _ rfl;have z0:=hX.free 0 (by simp);have z1:=hX.free 1 (by simp);have z2:=hX.free 2 (by simp);have z3:=hX.free 3 (by simp))
 have hY:=hX.dB [.int .i8 0,.int .i64 lo,.int .i8 0,.int .i64 hi] rfl;exact aHE (v:=rv lo hi) (dQ Tryz.results40 _ rfl (aMj _ _ 0 42 [.int .i8 0,.int .i64 lo,.int .i8 0,.int .i64 hi] _ hY.range Tryz.underlying42 rfl wK)) rfl ⟨rfl,hY.below⟩
theorem aCe(y m k:Int)(w:World)(y0: -10000000000000000<=y)(y1:y<=10000000000000000)(m0:1<=m)(m1:m<=12)(k0:1<=k)(k1:k<=31):
 Calls Tryz.prog 40 #[.int .i64 y,.int .i64 m,.int .i64 k] w fun r w'=>r=.returned (rv (gV y m k) (jS y m k))/\Below w.heap.size w w':=by
 have HD:=rG (fun w=>Un.tY y m k w (by omega) (by omega) (by omega) (by omega) (by omega) (by omega));have e1:gV y m k=Cal.st y+Cal.bZ y m+k - 1:=by unfold gV;rw[aBx (by omega),aBx (by omega),aBx (by omega)]
 have e2:jS y m k=Cal.st y+Cal.bZ y m+k - 1:=by unfold jS;rw[aBx (by omega),aBx (by omega),aBx (by omega)]
 rw[e1,e2];clear e1 e2;generalize Cal.st y+Cal.bZ y m+k - 1=lo at *;have hR:Rw w.heap.size [.int .i8 0,.int .i64 0,.int .i8 0,.int .i64 0] w _:=Rw.fresh (aAI _ _) _ 42
 go_enter Tryz.func40,Tryz.ntmps40
 go_upto_region 1 with(fail)
 generalize World.alloc _ _=W0 at hR ⊢
 go_wp2_with (first|(go_at_call 66;with_reducible refine(HD.out _).mono ?_;rintro _ w' ⟨rfl,rfl⟩)|(go_at_call 42;refine(Un.iZ _ _ _).mono ?_;rintro _ w1 ⟨rfl,hb⟩;have hX:=hR.later hb;unfold Un.rv;have f0:=hX.cell 0 _ rfl;have f1:=hX.cell 1 _ rfl;have f2:=hX.cell 2 _ rfl;have f3:=hX.cell 3 _ rfl;have z0:=hX.free 0 (by simp);have z1:=hX.free 1 (by simp);have z2:=hX.free 2 (by simp);have z3:=hX.free 3 (by simp)))
 have hY:=hX.dB [.int .i8 0,.int .i64 lo,.int .i8 0,.int .i64 lo] rfl;exact aHE (v:=rv lo lo) (dQ Tryz.results40 _ rfl (aMj _ _ 0 42 [.int .i8 0,.int .i64 lo,.int .i8 0,.int .i64 lo] _ hY.range Tryz.underlying42 rfl wK)) rfl ⟨rfl,hY.below⟩
theorem aFu(y m k:Int)(w:World)(y0: -10000000000000000<=y)(y1:y<=10000000000000000)(hm:m=0\/(1<=m/\m<=12)\/(21<=m/\m<=41))(hk:k=0\/(1<=m/\m<=12/\1<=k/\k<=31)):
 Calls Tryz.prog 40 #[.int .i64 y,.int .i64 m,.int .i64 k] w fun r w'=>r=.returned (rv (gV y m k) (jS y m k))/\Below w.heap.size w w':=by
 rcases hm with rfl|hm|hm
 . obtain rfl:k=0:=by omega
   exact Un.tX y w y0 y1
 . by_cases c:k=0
   . subst c;have:=Un.tV y m w y0 y1 hm.1 hm.2;have e1:gV y m 0=Cal.st y+Cal.bZ y m:=by unfold gV;rw[aBx (by omega),aBx (by omega),aDk rfl]
     have e2:jS y m 0=Cal.st y+Cal.bZ y (m+1) - 1:=by unfold jS;rw[aBx (by omega),aBx (by omega),aDk rfl]
     rw[e1,e2];exact this
   exact aCe y m k w y0 y1 hm.1 hm.2 (by omega) (by omega)
 exact aCd y m w y0 y1 hm.1 hm.2 k
end Bk
end
section
open Go.RowKit Go.Lib
namespace Bk
open Un (ba bt ri rb aS aZ)
def Dt.mOf(d:Dt)(m:Int):Int:=if d.mo.size=0 then 0 else m
def Dt.kOf(d:Dt)(k:Int):Int:=if d.da.size=0 then 0 else k
theorem aH0(d:Dt)(y m k:Int)(w:World)(hw:lD w)(y0: -10000000000000000<=y)(y1:y<=10000000000000000)
 (hm:d.mo.size≠0->(1<=m/\m<=12)\/(21<=m/\m<=41/\fM y m<=10000000000000000)) (hk:d.da.size≠0->1<=k/\k<=31) (hmd:d.mo.size=0->d.da.size=0):
 Calls Tryz.prog 295 #[aV d,cvv y m k] w fun r w'=>r=.returned (.tuple #[rv (gV y (d.mOf m) (d.kOf k)) (jS y (d.mOf m) (d.kOf k)),.int .i64 0])/\Below w.heap.size w w':=by
 unfold gV jS Dt.mOf Dt.kOf;have cal:=fun W hb=>Un.rM y W (hw.below (w':=W) hb).cal;rw[aDk ⟨y0,y1⟩,aDk ⟨y0,y1⟩,aDk ⟨y0,y1⟩]at cal
 by_cases c0:d.mo.size=0
 . rw[aDk c0,aDk rfl,aDk rfl];obtain⟨ng,lg,dg,ex,sig,mo,da,m0,m1,m2⟩:=d;obtain rfl:mo=⟨#[]⟩:=ByteArray.ext (aTu c0);exact Sk.lJ (Sk.aQo ⟨ng,lg,dg,ex,sig,⟨#[]⟩,da,m0,m1,m2⟩ y m k _ _ w cal) rfl
 rw[aBx c0];rcases hm c0 with⟨m0,m1⟩|⟨m0,m1,hs⟩
 case inr=>
  refine Sk.lJ (Sk.aQn d y m k _ _ _ _ w (by omega) cal (fun W hb=>KW y m W (hw.below hb) y0 y1 m0 m1 hs)) ?_;rw[QY,aBy c0,aBx (show ¬m=0 by omega),aBx (show ¬m=0 by omega),aDk (show 12<m by omega),aDk (show 12<m by omega),aBz (show 12<m by omega)];rfl
 have hq:(12 * y+m - 1) / 12=y/\(12 * y+m - 1) % 12=m - 1:=by omega
 have cam:=fun W hb=>Un.pU (12 * y+m - 1) W (hw.below (w':=W) hb).cal (by omega) (by omega);rw[show Un.jA (12 * y+m - 1)=(Cal.st y+Cal.bZ y m,Cal.st y+Cal.bZ y (m+1) - 1,0) by
  unfold Un.jA;rw[hq.1,hq.2,aDk ⟨y0,y1⟩,show m - 1+1=m by omega,show m - 1+2=m+1 by omega]]at cam
 have sb:=Un.lV (y:=y) (by omega) (by omega);have cb:=@Cal.fF y m (by omega) (by omega);have wr: ∀x:Int,-9223372036854775808<=x->x<9223372036854775808->IntKind.i64.wrap x=x:=fun x h0 h1=>by rw[aHA];omega
 refine Sk.lJ (Sk.aQm d y m k _ _ (Cal.st y+Cal.bZ y m) (Cal.st y+Cal.bZ y (m+1) - 1) w m0 m1 cal ?_) ?_
 rotate_left
 . rw[QY,QY,aBy c0,aBx (show ¬m=0 by omega),aBx (show ¬m=0 by omega),aBx (show ¬ 12<m by omega),aBx (show ¬ 12<m by omega),aBy (show ¬ 12<m by omega)]
   by_cases c1:d.da.size=0
   . rw[aDk c1,aDk rfl,aDk rfl,aBz c1];rfl
   have hkb:=hk c1;rw[aBx c1,aBy c1,wr (Cal.st y+Cal.bZ y m+k) (by omega) (by omega),wr (Cal.st y+Cal.bZ y m+k - 1) (by omega) (by omega),aBx (show ¬k=0 by omega),aBx (show ¬k=0 by omega)];rfl
 rw[wr (12 * y) (by omega) (by omega),wr (12 * y+m) (by omega) (by omega),wr (12 * y+m - 1) (by omega) (by omega)];exact cam
end Bk
end
section
open Go.RowKit Go.Lib
namespace Bk
open Un (ba bt ri rb aS aZ)
theorem aEC{s:ByteArray}{n:Int}(h:jE s n=true)(hx:hasB 88 s=false)(n0:0<=n)(n1:n<=99):s.size=2/\allB bG s=true/\iP s=n:=by
 unfold jE at h;simp at h;obtain⟨h2,h0,h1⟩:=h;have nx: ∀i,i<s.size->aX s i≠88:=fun i hi c=>by rw[(wP 88 s).2 ⟨i,hi,c⟩]at hx;cases hx
 have x0:=nx 0 (by omega);have x1:=nx 1 (by omega);have b0:aX s 0=48+n / 10:=by omega
 have b1:aX s 1=48+n % 10:=by omega
 refine⟨h2,?_,?_⟩
 . rw[kJ];intro i hi;obtain rfl|rfl:i=0\/i=1:=by omega
   . unfold bG;exact aBz (by omega)
   unfold bG;exact aBz (by omega)
 obtain⟨a,b,e,e0,e1⟩:=vK h2;unfold iP;rw[e];simp only[dec];omega
theorem KU{s:ByteArray}(h:dD s≠0):s.size=2/\allB bG s=true/\iP s=dD s:=by
 unfold dD at h ⊢
 split at h
 . rename_i g
   rw[aDk g];refine⟨g.1,?_,?_⟩
   . rw[kJ];intro i hi;obtain rfl|rfl:i=0\/i=1:=by omega
     . unfold bG;exact aBz (by omega)
     unfold bG;exact aBz (by omega)
   obtain⟨a,b,e,e0,e1⟩:=vK g.1;unfold iP;rw[e];simp only[dec];omega
 exact absurd rfl h
theorem aGS{s:ByteArray}(h:s.size=0):iP s=0/\allB bG s=true:=by
 have e:s.data.toList=[]:=aTw.1 (by simpa using h);unfold iP allB;rw[e];exact⟨rfl,rfl⟩
theorem aRP{d:Dt}(h:d.form=0)(hx:hasB 88 d.mo=false):d.mo.size<=2/\allB bG d.mo=true/\d.ms=[iP d.mo]/\(d.mo.size≠0->(1<=iP d.mo/\iP d.mo<=12/\d.aH=0)\/(21<=iP d.mo/\iP d.mo<=41/\d.aH=iP d.mo)):=by
 have hbd:d.aH=0\/(21<=d.aH/\d.aH<=41):=iY d.mo;rcases jB h with⟨h1,h2,h3⟩|⟨h1,h2,h3,h4⟩|⟨h1,h2,h3⟩
 . obtain⟨a,b,c⟩:=KU h1;change iP d.mo=d.aH at c;refine⟨by omega,b,by rw[Dt.nJ h1,c],fun _=>.inr (by omega)⟩
 . obtain⟨n,n1,n2,ha⟩:=(D8 _ _).1 h3;obtain⟨a,b,c⟩:=aEC ha hx (by omega) (by omega);refine⟨by omega,b,?_,fun _=>.inl (by omega)⟩;rw[Dt.qY h1 h2];have hs:=mP d.mo 12;have hall: ∀u,u ∈ dY d.mo 12->u=iP d.mo:=fun u hu=>by
    obtain⟨u1,u2,u3⟩:=(fA _ _ _).1 hu;exact(aEC u3 hx (by omega) (by omega)).2.2.symm
   have hin:iP d.mo ∈ dY d.mo 12:=(fA _ _ _).2 ⟨by omega,by omega,by rw[c];exact ha⟩;generalize dY d.mo 12=l at *
   match l,hs,hall,hin with
   |[],_,_,hin=>cases hin
   |[u],_,hall,_=>rw[hall u (aHB ..)]
   |u::v::r,hs,hall,_=>
    have e1:=hall u (aHB ..);have e2:=hall v (aHJ _ (aHB ..));have:=(List.pairwise_cons.1 hs).1 v (aHB ..);omega
 obtain⟨e1,e2⟩:=aGS h2;refine⟨by omega,e2,by rw[Dt.BP h1 h2,e1],fun c=>absurd h2 c⟩
theorem aAT{d:Dt}(h:d.err=0):d.form=0:=by
 by_cases c:d.form=0
 . exact c
 rw[wW c]at h;exact absurd h c
theorem aSo{d:Dt}{y m:Int}(hk:d.JW=true)(hf:d.far=false)(hy:d.In y)(hm:m=d.aH)(hs:d.aH≠0):fM y m<=10000000000000000:=by
 have hb:=Dt.jU hk hy;unfold fM
 split
 . omega
 rename_i hc
 have hbd:d.aH=0\/(21<=d.aH/\d.aH<=41):=iY d.mo;have hw:d.aH=24\/d.aH=28\/d.aH=30:=by
  rw[hm]at hc;generalize d.aH=z at *;have hz:z=21\/z=22\/z=23\/z=24\/z=25\/z=26\/z=27\/z=28\/z=29\/z=30\/z=31\/z=32\/z=33\/z=34\/z=35\/z=36\/z=37\/z=38\/z=39\/z=40\/z=41:=by omega
  rcases hz with rfl|rfl|rfl|rfl|rfl|rfl|rfl|rfl|rfl|rfl|rfl|rfl|rfl|rfl|rfl|rfl|rfl|rfl|rfl|rfl|rfl<;>first|omega|(exfalso;revert hc;decide)
 have e1:(decide (d.aH=24)||(decide (d.aH=28)||decide (d.aH=30)))=true:=by rcases hw with h|h|h<;>simp[h]
 unfold Dt.far at hf;rw[e1,aQN]at hf
 cases hmk:d.mask
 . rw[hmk]at hf;simp at hf;unfold Dt.In at hy;rw[hmk]at hy;simp at hy
   cases hn:d.neg
   . rw[hn]at hy;simp at hy
     by_cases c:d.mag=10000000000000000
     . have:=hf c;rw[hn]at this;cases this
     omega
   rw[hn]at hy;simp at hy;have:=oM d.dg d.ex;change 0<=d.mag at this;omega
 unfold Dt.In at hy;rw[hmk,aDk rfl]at hy
 split at hy
 . have:=hy.1.1;have:=hy.1.2.1;omega
 have:=hy.2.1;omega
end Bk
end
section
open Go.RowKit Go.Lib
namespace Bk
open Un (ba bt ri rb aS aZ)
def Dt.aMa(d:Dt)(y m k lo hi er:Int):Prop:=((d.err≠0/\er=d.err/\lo=0/\hi=0)\/(d.err=0/\ ¬(d.sig<=0/\d.Has y m k)/\er=1/\lo=0/\hi=0)\/
 (d.err=0/\d.sig<=0/\d.Has y m k/\er=0/\lo=gV y (d.mOf m) (d.kOf k)/\hi=jS y (d.mOf m) (d.kOf k)))
def UG(d:Dt)(y m k:Int)(w:World)(e:Ending)(w':World):Prop:= ∃lo hi er:Int,d.aMa y m k lo hi er/\
 e=.returned (.tuple #[rv lo hi,.int .i64 er])/\Below w.heap.size w w'
theorem EU{d:Dt}{y m k:Int}(h:d.Has y m k): -10000000000000000<=y/\y<=10000000000000000/\(d.mo.size≠0->(1<=m/\m<=12)\/(21<=m/\m<=41/\fM y m<=10000000000000000))/\(d.da.size≠0->1<=k/\k<=31)/\(d.mo.size=0->d.da.size=0):=by
 obtain⟨hc,n,j,⟨hin,hms,hds,hlen⟩,hm,hk⟩:=h;have hf:=fH hc;obtain⟨hyk,_,aKg⟩:=Dt.fC (Dt.iO hf).1;have hb:=Dt.jU hyk hin;have hbd:d.aH=0\/(21<=d.aH/\d.aH<=41):=iY d.mo;refine⟨hb.1,hb.2,fun h0=>?_,fun h0=>?_,fmd hf⟩
 . obtain rfl:=hm.resolve_left h0
   by_cases hs:d.aH=0
   . rw[Dt.qY hs h0,fA]at hms;exact .inl (by omega)
   rw[Dt.nJ hs,aL8]at hms;exact .inr ⟨by omega,by omega,aSo hyk aKg hin hms hs⟩
 obtain rfl:=hk.resolve_left h0;rw[Dt.XA h0,fA]at hds;omega
theorem YH(d:Dt)(y m k:Int)(w:World)(hk:lD w)(hs:d.mo.size<=1000)(hy:d.dg.size<=1000)(m0:0<=d.m0)(m1:0<=d.m1)(m2:0<=d.m2)
 (y0: -9223372036854775808<=y) (y1:y<9223372036854775808):
 Calls Tryz.prog 290 #[aV d,cvv y m k] w (UG d y m k w):=by
 have HC: ∀e,d.err=e->Sk.Same w 51 #[aV d] (.int .i64 e):=fun e h=>h ▸ fun W hb=>uN d W (hk.below hb) hs hy m0 m1 m2;have HH: ∀b:Bool,(b=true↔d.Has y m k)->Sk.Same w 294 #[aV d,cvv y m k] (.bool b):=fun b e W hb=>(aKL d y m k W (hk.below hb) hs hy m0 m1 m2 y0 y1).mono fun r w' ⟨c,hc,he,hb⟩=>by
  obtain rfl:c=b:=by rw[aK8,hc,e]
  exact⟨he,hb⟩
 have fin: ∀ {lo hi er:Int},d.aMa y m k lo hi er->(Calls Tryz.prog 290 #[aV d,cvv y m k] w fun r w'=>r=.returned (.tuple #[rv lo hi,.int .i64 er])/\Below w.heap.size w w')->Calls Tryz.prog 290 #[aV d,cvv y m k] w (UG d y m k w):=
  fun h c=>c.mono fun r w' ⟨e,hb⟩=>⟨_,_,_,h,e,hb⟩
 by_cases c:d.err=0
 case neg=>exact fin (.inl ⟨c,rfl,rfl,rfl⟩) (Sk.lJ (Sk.aHS d y m k d.err w c (HC _ rfl)) (by rw[aBA.2 c];rfl))
 by_cases h:d.Has y m k
 case neg=>exact fin (.inr (.inl ⟨c,fun g=>h g.2,rfl,rfl,rfl⟩)) (Sk.lJ (Sk.aHR d y m k w (HC _ c) (HH false (by simp[h]))) (by cases decide (0<d.sig)<;>rfl))
 have HF:=Sk.aHQ d y m k _ _ w (HC _ c) (HH true (by simp[h])) (fun W hb=>aH0 d y m k W (hk.below hb) (EU h).1 (EU h).2.1 (EU h).2.2.1 (EU h).2.2.2.1 (EU h).2.2.2.2)
 by_cases s:0<d.sig
 . exact fin (.inr (.inl ⟨c,fun g=>by omega,rfl,rfl,rfl⟩)) (Sk.lJ HF (by rw[aBz s];rfl))
 exact fin (.inr (.inr ⟨c,by omega,h,rfl,rfl,rfl⟩)) (Sk.lJ HF (by rw[aBy s];rfl))
def Dt.prec(d:Dt):Int:=if d.da.size≠0 then 3 else if d.mo.size=0 then 1 else if d.aH≠0 then 0 else 2
theorem aOo{s:ByteArray}(h:allB bG s=true):hasB 88 s=false:=(jV (qJ h)).2 h
theorem aEY(d:Dt)(w:World)(hk:lD w)(hs:d.mo.size<=1000)(hy:d.dg.size<=1000)(m0:0<=d.m0)(m1:0<=d.m1)(m2:0<=d.m2):
 Calls Tryz.prog 288 #[aV d] w fun r w'=>r=.returned (.tuple #[.int .u8 (if d.err=0 then d.prec else 0),.int .i64 d.err])/\Below w.heap.size w w':=by
 have HC: ∀e,d.err=e->Sk.Same w 51 #[aV d] (.int .i64 e):=fun e h=>h ▸ fun W hb=>uN d W (hk.below hb) hs hy m0 m1 m2;unfold Dt.prec
 by_cases c:d.err=0
 case neg=>rw[aBx c];exact Sk.lJ (Sk.aQx d d.err w c (HC _ rfl)) (by rw[aBA.2 c];rfl)
 have HK: ∀b,hasB 88 d.mo=b->Sk.Same w 84 #[.string d.mo,.string ⟨#[88]⟩] (.bool b):=fun b e W _=>by
  have:=Tryz.strings_Contains_one d.mo 88 W;rw[oC]at this;subst e;exact Sk.aYK this
 have hf:=aAT c;rw[aDk c,c];have tac: ∀z:Bool,z=decide (d.aH≠0)->cond (d.da.toList==(⟨#[]⟩:ByteArray).toList) (cond (d.mo.toList==(⟨#[]⟩:ByteArray).toList) (Value.tuple #[.int .u8 1,.int .i64 0]) (cond z (.tuple #[.int .u8 0,.int .i64 0]) (.tuple #[.int .u8 2,.int .i64 0]))) (.tuple #[.int .u8 3,.int .i64 0])=
  .tuple #[.int .u8 (if d.da.size≠0 then 3 else if d.mo.size=0 then 1 else if d.aH≠0 then 0 else 2),.int .i64 0]:=fun z hz=>by
  rw[QY,QY,hz]
  by_cases e1:d.mo.size=0<;>by_cases e2:d.da.size=0<;>by_cases e3:d.aH=0<;>simp[e1,e2,e3]
 cases hx:hasB 88 d.mo
 case true=>
  refine Sk.lJ (Sk.aQw d w (HC _ c) (HK _ hx)) (tac false ?_)
  symm
  by_cases c:d.aH=0
  . simp[c]
  have:=aOo (KU c).2.1;rw[this]at hx;cases hx
 obtain⟨a,b,_,e⟩:=aRP hf hx;refine Sk.lJ (Sk.aQv d _ w (HC _ c) (HK _ hx) (fun W _=>YG d.mo W a b)) ?_
 by_cases e0:d.mo.size=0
 . rw[QY,QY,aBz e0]
   by_cases e2:d.da.size=0<;>simp[e0,e2]
 refine tac _ ?_;rw[decide_eq_decide];rcases e e0 with⟨h1,h2,h3⟩|⟨h1,h2,h3⟩<;>omega
end Bk
end
section
open Go.RowKit Go.Lib
namespace Sk
open Un (ba bt ri rb bF)
open Cal
open Bk (Dt aV cvv cvF rv lD gV jS)
open Ev (bM eU hp)
structure RB where
 a:Int
 lo:Int
 b:Int
 hi:Int
 is:Bool
def RB.v(r:RB):Value:=.tuple #[.agg #[.int .i8 r.a,.int .i64 r.lo,.int .i8 r.b,.int .i64 r.hi],.bool r.is]
def RB.Bd(r:RB):Prop:= -9223372036854775808<=r.lo/\r.lo<9223372036854775808
def PG(v:Value):Prop:= ∃r:RB,r.Bd/\v=r.v
theorem PG.cond{c:Bool}{v u:Value}(h:PG v)(g:PG u):PG (cond c v u):=by cases c;exact g;exact h
theorem PG.mk{a lo b hi:Int}{is:Bool}(h: -9223372036854775808<=lo/\lo<9223372036854775808):PG (.tuple #[.agg #[.int .i8 a,.int .i64 lo,.int .i8 b,.int .i64 hi],.bool is]):=⟨⟨a,lo,b,hi,is⟩,h,rfl⟩
structure AX(d:Dt)(w0:World):Prop where
 hk:lD w0
 st:bM eU.g.n eU.l w0 hp
 mo:d.mo.size<=1000
 dg:d.dg.size<=1000
 m0:0<=d.m0
 m1:0<=d.m1
 m2:0<=d.m2
section
variable{d:Dt}{w0:World}(h:AX d w0)
open Classical in
noncomputable def IX(d:Dt)(y m k:Int):Int × Int × Int:=if d.err≠0 then(0,0,d.err)else if ¬(d.sig<=0/\d.Has y m k)then(0,0,1)else(gV y (d.mOf m) (d.kOf k),jS y (d.mOf m) (d.kOf k),0)
theorem aOb{d:Dt}{y m k lo hi er:Int}(h:d.aMa y m k lo hi er):IX d y m k=(lo,hi,er):=by
 unfold IX;rcases h with⟨h1,rfl,rfl,rfl⟩|⟨h1,h2,rfl,rfl,rfl⟩|⟨h1,h2,h3,rfl,rfl,rfl⟩
 . rw[aDk h1]
 . rw[aBx (by simp[h1]),aDk h2]
 rw[aBx (by simp[h1]),aBx (by simp[h2,h3])]
theorem aMO{y m k:Int}(y0: -10000000000000000<=y)(y1:y<=10000000000000000)(hm:m=0\/(1<=m/\m<=12)\/(21<=m/\m<=41))(hk:0<=k/\k<=31): -9223372036854775808<=gV y m k/\gV y m k<9223372036854775808:=by
 have b0:=Un.lV (y:=y) (by omega) (by omega);rcases hm with rfl|hm|hm
 . unfold gV;rw[aDk rfl];omega
 . have c0:=@fF y m (by omega) (by omega);unfold gV;rw[aBx (show ¬m=0 by omega),aBx (show ¬ 12<m by omega)]
   by_cases c:k=0
   . rw[aDk c];omega
   rw[aBx c];omega
 have f:=Bk.KP m;have c0:=@fF y (Bk.bH m) (by omega) (by omega);unfold gV;rw[aBx (show ¬m=0 by omega),aDk (show 12<m by omega)];omega
theorem aOc(d:Dt)(y m k:Int): -9223372036854775808<=(IX d y m k).1/\(IX d y m k).1<9223372036854775808:=by
 unfold IX
 split
 . dsimp only;omega
 split
 . dsimp only;omega
 rename_i h1 h2
 have h3:=(aPi.1 h2).2;obtain⟨y0,y1,hm,hk,hmd⟩:=Bk.EU h3;have hs:=h3;dsimp only;refine aMO y0 y1 ?_ ?_
 . unfold Dt.mOf;split
   . exact .inl rfl
   rename_i c;rcases hm c with g|g<;>omega
 unfold Dt.kOf;split
 . omega
 rename_i c;have:=hk c;omega
theorem CP(y m k:Int)(y0: -9223372036854775808<=y)(y1:y<9223372036854775808)(h:AX d w0):Same w0 290 #[aV d,cvv y m k] (.tuple #[rv (IX d y m k).1 (IX d y m k).2.1,.int .i64 (IX d y m k).2.2]):=fun W hb=>by
 refine(Bk.YH d y m k W (h.hk.below hb) h.mo h.dg h.m0 h.m1 h.m2 y0 y1).mono ?_;rintro e w' ⟨lo,hi,er,hF,rfl,hb'⟩;rw[aOb hF];exact⟨rfl,hb'⟩
theorem vT(y m k:Int)(is:Bool)(y0: -9223372036854775808<=y)(y1:y<9223372036854775808)(h:AX d w0): ∃r:RB,r.Bd/\Same w0 283 #[aV d,cvv y m k,.bool is] r.v:=by
 have key: ∀v,(∀W,Below w0.heap.size w0 W->Calls Tryz.prog 283 #[aV d,cvv y m k,.bool is] W fun r w'=>r=.returned v/\Below W.heap.size W w')->PG v-> ∃r:RB,r.Bd/\Same w0 283 #[aV d,cvv y m k,.bool is] r.v:=by
  rintro v hv ⟨r,hb,rfl⟩;exact⟨r,hb,hv⟩
 have hf:=aOc d y m k;refine key _ (aDR d y m k _ _ _ is h.st (CP y m k y0 y1 h)) ?_;exact PG.cond (PG.cond (PG.mk hf) (PG.mk hf)) (PG.mk (by omega))
theorem jU{d:Dt}(hc:d.dP=0){y:Int}(hy:d.In y): -10000000000000000<=y/\y<=10000000000000000:=Bk.Dt.jU (Bk.Dt.fC (Bk.Dt.iO (Bk.fH hc)).1).1 hy
theorem L8(d:Dt)(c:Int × Int × Int): -10000000000000000<=(d.o8 c).1/\(d.o8 c).1<=10000000000000000:=by
 unfold Bk.Dt.o8
 by_cases hc:d.dP=0
 . rw[aDk hc];unfold Bk.Dt.nx
   split
   . rename_i he
     rcases he.choose_spec with⟨_,g,_⟩|⟨_,g,_⟩
     . exact jU hc g.1
     rw[g];omega
   dsimp only;omega
 rw[aBx hc];dsimp only;omega
theorem aIu(d:Dt)(c:Int × Int × Int): -10000000000000000<=(d.qX c).1/\(d.qX c).1<=10000000000000000:=by
 unfold Bk.Dt.qX
 by_cases hc:d.dP=0
 . rw[aDk hc];unfold Bk.Dt.pv
   split
   . rename_i he
     rcases he.choose_spec with⟨_,g,_⟩|⟨_,g,_⟩
     . exact jU hc g.1
     rw[g];omega
   dsimp only;omega
 rw[aBx hc];dsimp only;omega
theorem xC(n:Int): -9223372036854775808<=IntKind.i64.wrap n/\IntKind.i64.wrap n<9223372036854775808:=by rw[aHA];omega
theorem xI(cy cm ck:Int)(y0: -9223372036854775808<=cy)(y1:cy<9223372036854775808)(h:AX d w0):Same w0 291 #[aV d,cvv cy cm ck] (cvF (d.o8 (cy,cm,ck)) d.dP):=fun W hb=>
 Bk.aC9 d cy cm ck W (h.hk.below hb) h.mo h.dg h.m0 h.m1 h.m2 y0 y1
theorem aFy(cy cm ck:Int)(y0: -9223372036854775808<=cy)(y1:cy<9223372036854775808)(h:AX d w0):Same w0 287 #[aV d,cvv cy cm ck] (cvF (d.qX (cy,cm,ck)) d.dP):=fun W hb=>
 Bk.aC8 d cy cm ck W (h.hk.below hb) h.mo h.dg h.m0 h.m1 h.m2 y0 y1
def cv3(t:Int × Int × Int × Bool)(e:Int):Value:=.tuple #[cvv t.1 t.2.1 t.2.2.1,.int .i64 e]
theorem aGN(cy cm ck:Int)(y0: -9223372036854775808<=cy)(y1:cy<9223372036854775808)(h:AX d w0):Same w0 289 #[aV d,cvv cy cm ck,.bool true] (cv3 (d.o8 (cy,cm,ck)) d.dP):=fun W hb=>by
 refine(Bk.aGM d cy cm ck W (h.hk.below hb) h.mo h.dg h.m0 h.m1 h.m2 y0 y1).mono ?_;rintro e w' ⟨y,m,k,hF,rfl,hb'⟩;refine⟨?_,hb'⟩;have: ∃ok,d.o8 (cy,cm,ck)=(y,m,k,ok):=by
  unfold Bk.Dt.o8;rcases hF with⟨h1,ok,h2⟩|⟨h1,rfl,rfl,rfl⟩
  . rw[aDk h1];exact⟨ok,Bk.Dt.aJC h2⟩
  rw[aBx h1];exact⟨_,rfl⟩
 obtain⟨ok,this⟩:=this;rw[this];rfl
theorem aGP(cy cm ck:Int)(y0: -9223372036854775808<=cy)(y1:cy<9223372036854775808)(h:AX d w0):Same w0 289 #[aV d,cvv cy cm ck,.bool false] (cv3 (d.qX (cy,cm,ck)) d.dP):=fun W hb=>by
 refine(Bk.aGO d cy cm ck W (h.hk.below hb) h.mo h.dg h.m0 h.m1 h.m2 y0 y1).mono ?_;rintro e w' ⟨y,m,k,hF,rfl,hb'⟩;refine⟨?_,hb'⟩;have: ∃ok,d.qX (cy,cm,ck)=(y,m,k,ok):=by
  unfold Bk.Dt.qX;rcases hF with⟨h1,ok,h2⟩|⟨h1,rfl,rfl,rfl⟩
  . rw[aDk h1];exact⟨ok,Bk.Dt.aIr h2⟩
  rw[aBx h1];exact⟨_,rfl⟩
 obtain⟨ok,this⟩:=this;rw[this];rfl
theorem aAP(h:AX d w0):Same w0 282 #[aV d] (cv3 (d.o8 (-9223372036854775808,0,0)) d.dP):=aKH d _ _ _ _ h.st (aGN (-9223372036854775808) 0 0 (by omega) (by omega) h)
theorem NV(h:AX d w0):Same w0 285 #[aV d] (cv3 (d.qX (9223372036854775807,0,0)) d.dP):=aN6 d _ _ _ _ h.st (aGP 9223372036854775807 0 0 (by omega) (by omega) h)
theorem exR{f:FuncId}{args:Array Value}{v:Value}(hv:Same w0 f args v)(h:PG v): ∃r:RB,r.Bd/\Same w0 f args r.v:=by
 obtain⟨r,hb,rfl⟩:=h;exact⟨r,hb,hv⟩
theorem aGu(h:AX d w0): ∃r:RB,r.Bd/\Same w0 278 #[aV d] r.v:=by
 have b:=aIu d (9223372036854775807,0,0);have N:=NV h;unfold cv3 at N;generalize d.qX (9223372036854775807,0,0)=t at N b;obtain⟨y,m,k,ok⟩:=t;dsimp only at N b;obtain⟨r1,b1,H1⟩:=vT (d:=d) y m k true (by omega) (by omega) h;obtain⟨r2,b2,H2⟩:=vT (d:=d) y m k false (by omega) (by omega) h;exact exR (aCT (hst:=h.st) (H0:=N) (H1:=H1) (H2:=H2)) (PG.cond (PG.mk b1) (PG.mk b2))
theorem aK4(day:Int)(hk:lD w0)(st:bM eU.g.n eU.l w0 hp)(h0: -9223372036854775808<=day)(h1:day<9223372036854775808): ∃y m k e:Int,(-9223372036854775808<=y/\y<9223372036854775808)/\Same w0 286 #[.int .i64 day] (.tuple #[cvv y m k,.int .i64 e]):=by
 have HM:=fun W hb=>Un.uD day W (hk.below (w':=W) hb).cal h0 h1;unfold bF at HM
 by_cases c: -10000000000000000<=dH day/\dH day<=10000000000000000
 . simp only[aDk c]at HM;obtain⟨s1,s2⟩:=gU day;rw[st_succ]at s2;have hms:=@mG (dH day) (day - Cal.st (dH day)) (by omega) (by omega);have lp1:=uZ (dH day);refine⟨_,_,_,_,?_,aQc day _ _ _ st HM (fun W hb=>Un.iK _ _ W (hk.below hb).cal c.1 c.2 (by omega) (by omega))⟩;omega
 simp only[aBx c]at HM;exact⟨_,_,_,_,(by omega: -9223372036854775808<=(0:Int)/\(0:Int)<9223372036854775808),aEw day st HM⟩
theorem SH(h:AX d w0):Same w0 288 #[aV d] (.tuple #[.int .u8 (if d.err=0 then d.prec else 0),.int .i64 d.err]):=fun W hb=>
 Bk.aEY d W (h.hk.below hb) h.mo h.dg h.m0 h.m1 h.m2
theorem aRJ(r:RB)(br:r.Bd)(h:AX d w0): ∃q:RB,q.Bd/\Same w0 284 #[aV d,.agg #[.int .i8 r.a,.int .i64 r.lo,.int .i8 r.b,.int .i64 r.hi]] q.v:=by
 obtain⟨L,bL,HL⟩:=aGu h;obtain⟨cy,cm,ck,ce,bc,HC⟩:=aK4 r.lo h.hk h.st br.1 br.2;have HP:=SH h;obtain⟨w1,hw1⟩: ∃n,n=IntKind.i64.wrap (cy+1):=⟨_,rfl⟩;have bw1:=xC (cy+1);rw[<-hw1]at bw1;have P1:=xI w1 0 0 bw1.1 bw1.2 h;have q1:=L8 d (w1,0,0);unfold cvF at P1;generalize d.o8 (w1,0,0)=t at P1 q1;obtain⟨y1,m1,k1,ok1⟩:=t;dsimp only at P1 q1;obtain⟨r1,b1,R1⟩:=vT (d:=d) y1 m1 k1 ok1 (by omega) (by omega) h;rw[hw1]at P1;obtain⟨w2,hw2⟩: ∃n,n=IntKind.i64.wrap (cm+1):=⟨_,rfl⟩;have bw2:=xC (cm+1);rw[<-hw2]at bw2;have P2:=xI cy w2 0 bc.1 bc.2 h;have q2:=L8 d (cy,w2,0);unfold cvF at P2;generalize d.o8 (cy,w2,0)=t at P2 q2;obtain⟨y2,m2,k2,ok2⟩:=t;dsimp only at P2 q2;obtain⟨r2,b2,R2⟩:=vT (d:=d) y2 m2 k2 ok2 (by omega) (by omega) h;rw[hw2]at P2;obtain⟨w3,hw3⟩: ∃n,n=IntKind.i64.wrap (ck+1):=⟨_,rfl⟩;have bw3:=xC (ck+1);rw[<-hw3]at bw3;have P3:=xI cy cm w3 bc.1 bc.2 h;have q3:=L8 d (cy,cm,w3);unfold cvF at P3;generalize d.o8 (cy,cm,w3)=t at P3 q3;obtain⟨y3,m3,k3,ok3⟩:=t;dsimp only at P3 q3;obtain⟨r3,b3,R3⟩:=vT (d:=d) y3 m3 k3 ok3 (by omega) (by omega) h;rw[hw3]at P3;refine exR (aJN (d:=d) (hst:=h.st) (hz:=rfl) (H0:=HL) (H1:=HC) (H2:=HP) (H3:=P1) (H4:=R1) (H5:=P2) (H6:=R2) (H7:=P3) (H8:=R3)) ?_
 repeat (first|exact PG.mk bL|exact PG.mk b1|exact PG.mk b2|exact PG.mk b3|exact PG.mk (by omega)|apply PG.cond)
end
end Sk
end
section
open Go.RowKit Go.Lib
namespace Sk
open Ev (bM DT LG eU aO hp vG kG iU mJ qF PD GL oN aU AV DW vH dS aB aC eF mD)
open Bk (Dt aV)
def ya0:AV:=rK (qe 13) (qi 14) (qe 15) (qi 16)
def aLN:DT:=(.node 1 (qu 0) (.v (.int .u8 1)) (.leaf (.v (.int .i64 18))) (.node 1 (.v (.int .u8 5)) (qu 0) (.leaf (.v (.int .i64 18))) (.node 0 (qu 0) (.v (.int .u8 1)) (.node 0 (qu 0) (.v (.int .u8 2)) DT.no (.node 3 (qb 31) (qb 31) (.node 0 (qu 0) (.v (.int .u8 3)) DT.no (.node 0 (qu 12) (.v (.int .u8 0)) (.node 1 (qu 0) (.v (.int .u8 3)) (.node 3 (qb 32) (qb 32) (.node 0 (aU 8 .i64 [(oN 1)]) qz (.leaf (.v (.int .i64 17))) (.leaf (qi 17))) (.leaf (.v (.int .i64 5)))) DT.no) (.leaf (.v (.int .i64 5))))) (.leaf (.v (.int .i64 5))))) (.node 1 qz (aU 8 .i64 [(oN 1)]) (.leaf (.v (.int .i64 5))) (.node 0 (qu 0) (.v (.int .u8 2)) (.node 0 (qu 0) (.v (.int .u8 3)) DT.no (.node 0 (qu 12) (.v (.int .u8 0)) (.node 1 (qu 0) (.v (.int .u8 3)) (.node 3 (qb 32) (qb 32) (.node 1 qz (qi 18) (.leaf (qi 18)) (.node 1 qz (qi 6) (.leaf (.v (.int .i64 1))) (.node 0 (qi 19) qz (.leaf (.v (.int .i64 1))) (.node 3 (qb 33) (qb 33) (.leaf qz) (.leaf (.v (.int .i64 1))))))) (.leaf (.v (.int .i64 5)))) DT.no) (.leaf (.v (.int .i64 5))))) (.node 3 (qb 31) (qb 31) (.node 0 (qu 0) (.v (.int .u8 3)) (.node 1 (qu 0) (.v (.int .u8 3)) DT.no (.node 1 (qu 12) (.v (.int .u8 1)) (.leaf (.v (.int .i64 18))) (.node 1 (.v (.int .u8 3)) (qu 12) (.leaf (.v (.int .i64 18))) (.node 1 qz (qi 20) (.leaf (.v (.int .i64 1))) (.node 0 (qe 13) q8 (.node 1 qz (qi 25) (.leaf (.v (.int .i64 1))) (.node 3 (qb 34) (qb 34) (.node 0 (qe 15) q8 (.node 1 qz (qi 30) (.leaf (.v (.int .i64 1))) (.node 3 (qb 35) (qb 35) (.leaf qz) (.leaf (.v (.int .i64 1))))) (.leaf qz)) (.leaf (.v (.int .i64 1))))) (.node 0 (qe 15) q8 (.node 1 qz (qi 30) (.leaf (.v (.int .i64 1))) (.node 3 (qb 35) (qb 35) (.leaf qz) (.leaf (.v (.int .i64 1))))) (.leaf (.v (.int .i64 1))))))))) (.node 0 (qu 12) (.v (.int .u8 0)) (.node 1 (qu 0) (.v (.int .u8 3)) DT.no (.node 1 qz (qi 20) (.leaf (.v (.int .i64 1))) (.node 0 (qu 0) (.v (.int .u8 4)) (.node 0 (qe 13) q8 (.leaf (.v (.int .i64 1))) (.node 0 (qe 15) q8 (.node 0 (qu 0) (.v (.int .u8 5)) DT.no (.leaf qz)) (.leaf (.v (.int .i64 1))))) (.node 0 (qu 0) (.v (.int .u8 5)) (.node 0 (qe 13) q8 (.node 0 (qe 15) q8 (.leaf (.v (.int .i64 1))) (.leaf qz)) (.leaf (.v (.int .i64 1)))) DT.no)))) (.leaf (.v (.int .i64 5))))) (.leaf (.v (.int .i64 5)))))))))
theorem aFY(l:Value):aLN.ok eU l [(37,xA,.agg [qf,qf,.v (.string ⟨#[]⟩),qz,qz,.v (.string ⟨#[]⟩),.v (.string ⟨#[]⟩),.v (.int .u8 0),.v (.int .u8 0),.v (.int .u8 0)],(qb 31)),(42,ya0,(rK q8 qz q8 qz),(qb 32)),(26,.agg [(qu 9),(qu 10),(qu 11)],.agg [.v (.int .u8 0),.v (.int .u8 0),.v (.int .u8 0)],(qb 33)),(40,.agg [(qe 21),(qi 22)],.agg [(qe 13),(qi 14)],(qb 34)),(40,.agg [(qe 28),(qi 29)],.agg [(qe 15),(qi 16)],(qb 35))] [(44,[(oN 1)],(qi 17)),(45,[xA],(qi 18)),(17,[xA],(qi 19)),(46,[ya0],(qi 20)),(47,[(qi 14),aU 6 .i64 [(qu 12)]],.aK [rK (qe 21) (qi 22) (qe 23) (qi 24),(qi 25)]),(47,[(qi 16),aU 6 .i64 [(qu 12)]],.aK [rK (qe 26) (qi 27) (qe 28) (qi 29),(qi 30)])] hp 60 LG 21 [bU (qu 0)] []=true:=by kernel_rfl
theorem aQ3(k:Int)(bs:Option Addr)(n cp:Nat)(d:Dt)(p a lo b hi c10 c16 xx JR ua ulo ub uhi be va vlo vb vhi bf:Int)(zd zr zm zu zv:Bool){w0:World}(hst:SS w0)(hk0:0<=k)(hpw:IntKind.i64.wrap p=p)(hd:X3 37 (aV d) (aV z0) zd)(hr:X3 42 (r4 a lo b hi) (r4 0 0 0 0) zr)(hm:X3 26 (.agg #[.int .u8 d.m0,.int .u8 d.m1,.int .u8 d.m2]) (.agg #[.int .u8 0,.int .u8 0,.int .u8 0]) zm)(hu:zu=decide (ua=a/\ulo=lo))(hv:zv=decide (vb=b/\vhi=hi))(CS:Same w0 44 #[(.slice bs n cp)] (.int .i64 c10))(CE:Same w0 45 #[(aV d)] (.int .i64 c16))(CX:Same w0 17 #[(aV d)] (.int .i64 xx))(CR:Same w0 46 #[(r4 a lo b hi)] (.int .i64 JR))(CH1:Same w0 47 #[(.int .i64 lo),(.int .i64 (IntKind.i64.wrap p))] (.tuple #[(r4 ua ulo ub uhi),(.int .i64 be)]))(CH2:Same w0 47 #[(.int .i64 hi),(.int .i64 (IntKind.i64.wrap p))] (.tuple #[(r4 va vlo vb vhi),(.int .i64 bf)])):Same w0 21 #[(fam k (.slice bs n cp) d p a lo b hi)] (cond (decide (k<1)) (.int .i64 18) (cond (decide (5<k)) (.int .i64 18) (cond (k==1) (cond (k==2) (.bool false) (cond zd (cond (k==3) (.bool false) (cond (p==0) (cond (decide (k<3)) (cond zr (cond (((n:Nat):Int)==0) (.int .i64 17) (.int .i64 c10)) (.int .i64 5)) (.bool false)) (.int .i64 5))) (.int .i64 5))) (cond (decide (0<((n:Nat):Int))) (.int .i64 5) (cond (k==2) (cond (k==3) (.bool false) (cond (p==0) (cond (decide (k<3)) (cond zr (cond (decide (0<c16)) (.int .i64 c16) (cond (decide (0<d.sig)) (.int .i64 1) (cond (xx==0) (.int .i64 1) (cond zm (.int .i64 0) (.int .i64 1))))) (.int .i64 5)) (.bool false)) (.int .i64 5))) (cond zd (cond (k==3) (cond (decide (k<3)) (.bool false) (cond (decide (p<1)) (.int .i64 18) (cond (decide (3<p)) (.int .i64 18) (cond (decide (0<JR)) (.int .i64 1) (cond (a==0) (cond (decide (0<be)) (.int .i64 1) (cond zu (cond (b==0) (cond (decide (0<bf)) (.int .i64 1) (cond zv (.int .i64 0) (.int .i64 1))) (.int .i64 0)) (.int .i64 1))) (cond (b==0) (cond (decide (0<bf)) (.int .i64 1) (cond zv (.int .i64 0) (.int .i64 1))) (.int .i64 1))))))) (cond (p==0) (cond (decide (k<3)) (.bool false) (cond (decide (0<JR)) (.int .i64 1) (cond (k==4) (cond (a==0) (.int .i64 1) (cond (b==0) (cond (k==5) (.bool false) (.int .i64 0)) (.int .i64 1))) (cond (k==5) (cond (a==0) (cond (b==0) (.int .i64 1) (.int .i64 0)) (.int .i64 1)) (.bool false))))) (.int .i64 5))) (.int .i64 5))))))):=
 aB (aFY (lv (lF k (.slice bs n cp) d p a lo b hi) [.int .i64 c10,.int .i64 c16,.int .i64 xx,.int .i64 JR,.int .i8 ua,.int .i64 ulo,.int .i8 ub,.int .i64 uhi,.int .i64 be,.int .i8 va,.int .i64 vlo,.int .i8 vb,.int .i64 vhi,.int .i64 bf,.bool zd,.bool zr,.bool zm,.bool zu,.bool zv])) (aO w0) hst (.cons hd (fun _ _ _=>⟨by kernel_rfl,by kernel_rfl⟩) (.cons hr (fun _ _ _=>⟨by kernel_rfl,by kernel_rfl⟩) (.cons hm (fun _ _ _=>⟨by kernel_rfl,by kernel_rfl⟩) (.cons (oD _ _ _ _ _ hu) (fun _ _ _=>⟨by kernel_rfl,by kernel_rfl⟩) (.cons (oD _ _ _ _ _ hv) (fun _ _ _=>⟨by kernel_rfl,by kernel_rfl⟩) .nil))))) (.cons CS (.cons CE (.cons CX (.cons CR (.cons CH1 (.cons CH2 .nil)))))) (eF (by kernel_rfl:_=((((decide (k<1))=true->True)/\((decide (k<1))=false->(((decide (5<k))=true->True)/\((decide (5<k))=false->(((k==1)=true->(((k==2)=true->False)/\((k==2)=false->((zd=true->(((k==3)=true->False)/\((k==3)=false->(((p==0)=true->(((decide (k<3))=true->((zr=true->(((((n:Nat):Int)==0)=true->True)/\((((n:Nat):Int)==0)=false->True)))/\(zr=false->True)))/\((decide (k<3))=false->False)))/\((p==0)=false->True)))))/\(zd=false->True)))))/\((k==1)=false->(((decide (0<((n:Nat):Int)))=true->True)/\((decide (0<((n:Nat):Int)))=false->(((k==2)=true->(((k==3)=true->False)/\((k==3)=false->(((p==0)=true->(((decide (k<3))=true->((zr=true->(((decide (0<c16))=true->True)/\((decide (0<c16))=false->(((decide (0<d.sig))=true->True)/\((decide (0<d.sig))=false->(((xx==0)=true->True)/\((xx==0)=false->((zm=true->True)/\(zm=false->True)))))))))/\(zr=false->True)))/\((decide (k<3))=false->False)))/\((p==0)=false->True)))))/\((k==2)=false->((zd=true->(((k==3)=true->(((decide (k<3))=true->False)/\((decide (k<3))=false->(((decide (p<1))=true->True)/\((decide (p<1))=false->(((decide (3<p))=true->True)/\((decide (3<p))=false->(((decide (0<JR))=true->True)/\((decide (0<JR))=false->(((a==0)=true->(((decide (0<be))=true->True)/\((decide (0<be))=false->((zu=true->(((b==0)=true->(((decide (0<bf))=true->True)/\((decide (0<bf))=false->((zv=true->True)/\(zv=false->True)))))/\((b==0)=false->True)))/\(zu=false->True)))))/\((a==0)=false->(((b==0)=true->(((decide (0<bf))=true->True)/\((decide (0<bf))=false->((zv=true->True)/\(zv=false->True)))))/\((b==0)=false->True)))))))))))))/\((k==3)=false->(((p==0)=true->(((decide (k<3))=true->False)/\((decide (k<3))=false->(((decide (0<JR))=true->True)/\((decide (0<JR))=false->(((k==4)=true->(((a==0)=true->True)/\((a==0)=false->(((b==0)=true->(((k==5)=true->False)/\((k==5)=false->True)))/\((b==0)=false->True)))))/\((k==4)=false->(((k==5)=true->(((a==0)=true->(((b==0)=true->True)/\((b==0)=false->True)))/\((a==0)=false->True)))/\((k==5)=false->False)))))))))/\((p==0)=false->True)))))/\(zd=false->True)))))))))))))) (⟨fun h0=>trivial,fun h0=>⟨fun h1=>trivial,fun h1=>⟨fun h2=>⟨fun h3=>(by simp only[aGw,aBA,aDE,aDG]at *;omega),fun h3=>⟨fun h4=>⟨fun h5=>(by simp only[aGw,aBA,aDE,aDG]at *;omega),fun h5=>⟨fun h6=>⟨fun h7=>⟨fun h8=>⟨fun h9=>trivial,fun h9=>trivial⟩,fun h8=>trivial⟩,fun h7=>(by simp only[aGw,aBA,aDE,aDG]at *;omega)⟩,fun h6=>trivial⟩⟩,fun h4=>trivial⟩⟩,fun h2=>⟨fun h3=>trivial,fun h3=>⟨fun h4=>⟨fun h5=>(by simp only[aGw,aBA,aDE,aDG]at *;omega),fun h5=>⟨fun h6=>⟨fun h7=>⟨fun h8=>⟨fun h9=>trivial,fun h9=>⟨fun h10=>trivial,fun h10=>⟨fun h11=>trivial,fun h11=>⟨fun h12=>trivial,fun h12=>trivial⟩⟩⟩⟩,fun h8=>trivial⟩,fun h7=>(by simp only[aGw,aBA,aDE,aDG]at *;omega)⟩,fun h6=>trivial⟩⟩,fun h4=>⟨fun h5=>⟨fun h6=>⟨fun h7=>(by simp only[aGw,aBA,aDE,aDG]at *;omega),fun h7=>⟨fun h8=>trivial,fun h8=>⟨fun h9=>trivial,fun h9=>⟨fun h10=>trivial,fun h10=>⟨fun h11=>⟨fun h12=>trivial,fun h12=>⟨fun h13=>⟨fun h14=>⟨fun h15=>trivial,fun h15=>⟨fun h16=>trivial,fun h16=>trivial⟩⟩,fun h14=>trivial⟩,fun h13=>trivial⟩⟩,fun h11=>⟨fun h12=>⟨fun h13=>trivial,fun h13=>⟨fun h14=>trivial,fun h14=>trivial⟩⟩,fun h12=>trivial⟩⟩⟩⟩⟩⟩,fun h6=>⟨fun h7=>⟨fun h8=>(by simp only[aGw,aBA,aDE,aDG]at *;omega),fun h8=>⟨fun h9=>trivial,fun h9=>⟨fun h10=>⟨fun h11=>trivial,fun h11=>⟨fun h12=>⟨fun h13=>(by simp only[aGw,aBA,aDE,aDG]at *;omega),fun h13=>trivial⟩,fun h12=>trivial⟩⟩,fun h10=>⟨fun h11=>⟨fun h12=>⟨fun h13=>trivial,fun h13=>trivial⟩,fun h12=>trivial⟩,fun h11=>(by simp only[aGw,aBA,aDE,aDG]at *;omega)⟩⟩⟩⟩,fun h7=>trivial⟩⟩,fun h5=>trivial⟩⟩⟩⟩⟩⟩)) (by kernel_rfl)
end Sk
end
section
open Go.RowKit Go.Lib
namespace Sk
open Ev (bM DT LG eU aO hp tb0 aP kM vG kG iU mJ qF PD GL oN aU AV DW vH dS aB aC eF mD)
def yg0:AV:=.aK [(.agg [(qe 0),(qi 1)]),qz]
def yg1:AV:=aU 1 .i64 [(qi 1),(.v (.int .i64 1))]
def yg2:List AV:=[rK (qe 0) (qi 1) (qe 2) (qi 3),rK (qe 4) (qi 5) (qe 6) (qi 7)]
def yg3:List AV:=[rK (qe 4) (qi 5) (qe 6) (qi 7),rK (qe 0) (qi 1) (qe 2) (qi 3)]
def aHk:DT:=(.node 0 (qe 0) (qe 0) (.node 0 (qe 2) (qe 2) (.node 1 (qe 0) (qe 2) (.node 0 (qi 1) (qi 1) (.node 0 (qi 3) (qi 3) (.node 1 (qi 1) (qi 3) (.leaf (.v (.int .i64 (-1)))) (.node 1 (qi 3) (qi 1) (.leaf (.v (.int .i64 (-1)))) (.leaf (.v (.int .i64 (-1)))))) DT.no) DT.no) (.node 1 (qe 2) (qe 0) (.node 0 (qi 1) (qi 1) (.node 0 (qi 3) (qi 3) (.node 1 (qi 1) (qi 3) (.leaf (.v (.int .i64 1))) (.node 1 (qi 3) (qi 1) (.leaf (.v (.int .i64 1))) (.leaf (.v (.int .i64 1))))) DT.no) DT.no) (.node 0 (qi 1) (qi 1) (.node 0 (qi 3) (qi 3) (.node 1 (qi 1) (qi 3) (.leaf (.v (.int .i64 (-1)))) (.node 1 (qi 3) (qi 1) (.leaf (.v (.int .i64 1))) (.leaf qz))) DT.no) DT.no))) DT.no) DT.no)
theorem aCw(l:Value):aHk.ok tb0 l [] [] .nil 60 LG 78 [.agg [(qe 0),(qi 1)],.agg [(qe 2),(qi 3)]] []=true:=by kernel_rfl
theorem aMy(i d j e:Int)(w0:World)  :Same w0 78 #[(ev i d),(ev j e)] (cond (i==i) (cond (j==j) (cond (decide (i<j)) (cond (d==d) (cond (e==e) (cond (decide (d<e)) (.int .i64 (-1)) (cond (decide (e<d)) (.int .i64 (-1)) (.int .i64 (-1)))) (.bool false)) (.bool false)) (cond (decide (j<i)) (cond (d==d) (cond (e==e) (cond (decide (d<e)) (.int .i64 1) (cond (decide (e<d)) (.int .i64 1) (.int .i64 1))) (.bool false)) (.bool false)) (cond (d==d) (cond (e==e) (cond (decide (d<e)) (.int .i64 (-1)) (cond (decide (e<d)) (.int .i64 1) (.int .i64 0))) (.bool false)) (.bool false)))) (.bool false)) (.bool false)):=
 aB (aCw (.agg #[.int .i8 i,.int .i64 d,.int .i8 j,.int .i64 e])) (aP w0) (kM w0) .nil .nil (eF (by kernel_rfl:_=((((i==i)=true->(((j==j)=true->(((decide (i<j))=true->(((d==d)=true->(((e==e)=true->(((decide (d<e))=true->True)/\((decide (d<e))=false->(((decide (e<d))=true->True)/\((decide (e<d))=false->True)))))/\((e==e)=false->False)))/\((d==d)=false->False)))/\((decide (i<j))=false->(((decide (j<i))=true->(((d==d)=true->(((e==e)=true->(((decide (d<e))=true->True)/\((decide (d<e))=false->(((decide (e<d))=true->True)/\((decide (e<d))=false->True)))))/\((e==e)=false->False)))/\((d==d)=false->False)))/\((decide (j<i))=false->(((d==d)=true->(((e==e)=true->(((decide (d<e))=true->True)/\((decide (d<e))=false->(((decide (e<d))=true->True)/\((decide (e<d))=false->True)))))/\((e==e)=false->False)))/\((d==d)=false->False)))))))/\((j==j)=false->False)))/\((i==i)=false->False)))) (⟨fun h0=>⟨fun h1=>⟨fun h2=>⟨fun h3=>⟨fun h4=>⟨fun h5=>trivial,fun h5=>⟨fun h6=>trivial,fun h6=>trivial⟩⟩,fun h4=>(by simp only[aGw,aBA,aDE,aDG]at *;omega)⟩,fun h3=>(by simp only[aGw,aBA,aDE,aDG]at *;omega)⟩,fun h2=>⟨fun h3=>⟨fun h4=>⟨fun h5=>⟨fun h6=>trivial,fun h6=>⟨fun h7=>trivial,fun h7=>trivial⟩⟩,fun h5=>(by simp only[aGw,aBA,aDE,aDG]at *;omega)⟩,fun h4=>(by simp only[aGw,aBA,aDE,aDG]at *;omega)⟩,fun h3=>⟨fun h4=>⟨fun h5=>⟨fun h6=>trivial,fun h6=>⟨fun h7=>trivial,fun h7=>trivial⟩⟩,fun h5=>(by simp only[aGw,aBA,aDE,aDG]at *;omega)⟩,fun h4=>(by simp only[aGw,aBA,aDE,aDG]at *;omega)⟩⟩⟩,fun h1=>(by simp only[aGw,aBA,aDE,aDG]at *;omega)⟩,fun h0=>(by simp only[aGw,aBA,aDE,aDG]at *;omega)⟩)) (by kernel_rfl)
def aDq:DT:=(.node 1 (qe 0) (qe 2) (.leaf (.v (.int .i64 (-1)))) (.node 1 (qe 2) (qe 0) (.leaf (.v (.int .i64 1))) (.node 1 (qi 1) (qi 3) (.leaf (.v (.int .i64 (-1)))) (.node 1 (qi 3) (qi 1) (.leaf (.v (.int .i64 1))) (.leaf qz)))))
theorem ZX(l:Value):aDq.ok tb0 l [] [] .nil 60 LG 69 [.agg [(qe 0),(qi 1)],.agg [(qe 2),(qi 3)]] []=true:=by kernel_rfl
theorem aHO(i d j e:Int)(w0:World)  :Same w0 69 #[(ev i d),(ev j e)] (cond (decide (i<j)) (.int .i64 (-1)) (cond (decide (j<i)) (.int .i64 1) (cond (decide (d<e)) (.int .i64 (-1)) (cond (decide (e<d)) (.int .i64 1) (.int .i64 0))))):=
 aB (ZX (.agg #[.int .i8 i,.int .i64 d,.int .i8 j,.int .i64 e])) (aP w0) (kM w0) .nil .nil (aC (by kernel_rfl)) (by kernel_rfl)
def aLK:DT:=(.node 0 (qe 0) q8 (.leaf qz) (.node 3 (qb 2) (qb 2) (.leaf qz) (.node 3 (qb 3) (qb 3) (.leaf qz) (.leaf (.v (.int .i64 5))))))
theorem aFV(l:Value):aLK.ok tb0 l [(40,.agg [(qe 0),(qi 1)],.agg [.v (.int .i8 1),qz],(qb 2)),(40,.agg [(qe 0),(qi 1)],.agg [.v (.int .i8 (-1)),qz],(qb 3))] [] .nil 60 LG 77 [.agg [(qe 0),(qi 1)]] []=true:=by kernel_rfl
theorem aQB(i d:Int)(x y:Bool)(w0:World)(hx:x=decide (i=1/\d=0))(hy:y=decide (i= -1/\d=0)):Same w0 77 #[(ev i d)] (cond (i==0) (.int .i64 0) (cond x (.int .i64 0) (cond y (.int .i64 0) (.int .i64 5)))):=
 aB (aFV (.agg #[.int .i8 i,.int .i64 d,.bool x,.bool y])) (aP w0) (kM w0) (.cons (oD _ _ _ _ _ hx) (fun _ _ _=>⟨by kernel_rfl,by kernel_rfl⟩) (.cons (oD _ _ _ _ _ hy) (fun _ _ _=>⟨by kernel_rfl,by kernel_rfl⟩) .nil)) .nil (aC (by kernel_rfl)) (by kernel_rfl)
def aHf:DT:=(.node 0 (qe 0) q8 (.leaf qz) (.node 0 (qe 0) (.v (.int .i8 1)) (.node 0 (qi 1) qz (.leaf qz) (.leaf (.v (.int .i64 5)))) (.node 0 (qe 0) (.v (.int .i8 (-1))) (.node 0 (qi 1) qz (.leaf qz) (.leaf (.v (.int .i64 5)))) (.leaf (.v (.int .i64 5))))))
theorem aCr(l:Value):aHf.ok tb0 l [] [] .nil 60 LG 73 [.agg [(qe 0),(qi 1)]] []=true:=by kernel_rfl
theorem aMt(i d:Int)(w0:World)  :Same w0 73 #[(ev i d)] (cond (i==0) (.int .i64 0) (cond (i==1) (cond (d==0) (.int .i64 0) (.int .i64 5)) (cond (i==(-1)) (cond (d==0) (.int .i64 0) (.int .i64 5)) (.int .i64 5)))):=
 aB (aCr (.agg #[.int .i8 i,.int .i64 d])) (aP w0) (kM w0) .nil .nil (aC (by kernel_rfl)) (by kernel_rfl)
def aLz:DT:=(.node 0 (qi 5) qz (.node 0 (qi 6) qz (.node 1 q8 (qe 0) (.leaf (.v (.int .i64 4))) (.node 1 (qe 2) q8 (.leaf (.v (.int .i64 4))) (.node 1 qz (qi 4) (.leaf (.v (.int .i64 12))) (.leaf qz)))) (.leaf (.v (.int .i64 5)))) (.leaf (.v (.int .i64 5))))
theorem aFK(l:Value):aLz.ok tb0 l [] [(77,[.agg [(qe 0),(qi 1)]],(qi 5)),(77,[.agg [(qe 2),(qi 3)]],(qi 6)),(78,[.agg [(qe 0),(qi 1)],.agg [(qe 2),(qi 3)]],(qi 4))] .nil 60 LG 49 [rK (qe 0) (qi 1) (qe 2) (qi 3)] []=true:=by kernel_rfl
theorem aQq(a lo b hi t x y:Int)(w0:World) (H0:Same w0 77 #[(ev a lo)] (.int .i64 x))(H1:Same w0 77 #[(ev b hi)] (.int .i64 y))(H2:Same w0 78 #[(ev a lo),(ev b hi)] (.int .i64 t)):Same w0 49 #[(r4 a lo b hi)] (cond (x==0) (cond (y==0) (cond (decide (0<a)) (.int .i64 4) (cond (decide (b<0)) (.int .i64 4) (cond (decide (0<t)) (.int .i64 12) (.int .i64 0)))) (.int .i64 5)) (.int .i64 5)):=
 aB (aFK (.agg #[.int .i8 a,.int .i64 lo,.int .i8 b,.int .i64 hi,.int .i64 t,.int .i64 x,.int .i64 y])) (aP w0) (kM w0) .nil (.cons H0 (.cons H1 (.cons H2 .nil))) (aC (by kernel_rfl)) (by kernel_rfl)
def aHe:DT:=(.node 0 (qi 5) qz (.node 0 (qi 6) qz (.node 0 (qe 0) (.v (.int .i8 1)) (.leaf (.v (.int .i64 4))) (.node 0 (qe 2) (.v (.int .i8 (-1))) (.leaf (.v (.int .i64 4))) (.node 0 (qi 4) (.v (.int .i64 1)) (.leaf (.v (.int .i64 12))) (.leaf qz)))) (.leaf (.v (.int .i64 5)))) (.leaf (.v (.int .i64 5))))
theorem aCq(l:Value):aHe.ok tb0 l [] [(73,[.agg [(qe 0),(qi 1)]],(qi 5)),(73,[.agg [(qe 2),(qi 3)]],(qi 6)),(69,[.agg [(qe 0),(qi 1)],.agg [(qe 2),(qi 3)]],(qi 4))] .nil 60 LG 46 [rK (qe 0) (qi 1) (qe 2) (qi 3)] []=true:=by kernel_rfl
theorem aMs(a lo b hi t x y:Int)(w0:World) (H0:Same w0 73 #[(ev a lo)] (.int .i64 x))(H1:Same w0 73 #[(ev b hi)] (.int .i64 y))(H2:Same w0 69 #[(ev a lo),(ev b hi)] (.int .i64 t)):Same w0 46 #[(r4 a lo b hi)] (cond (x==0) (cond (y==0) (cond (a==1) (.int .i64 4) (cond (b==(-1)) (.int .i64 4) (cond (t==1) (.int .i64 12) (.int .i64 0)))) (.int .i64 5)) (.int .i64 5)):=
 aB (aCq (.agg #[.int .i8 a,.int .i64 lo,.int .i8 b,.int .i64 hi,.int .i64 t,.int .i64 x,.int .i64 y])) (aP w0) (kM w0) .nil (.cons H0 (.cons H1 (.cons H2 .nil))) (aC (by kernel_rfl)) (by kernel_rfl)
def aLA:DT:=(.node 0 (qi 8) qz (.node 0 (qi 9) qz (.leaf qt) (.leaf qf)) (.leaf qf))
theorem aFL(l:Value):aLA.ok tb0 l [] [(49,[rK (qe 0) (qi 1) (qe 2) (qi 3)],(qi 8)),(49,[rK (qe 4) (qi 5) (qe 6) (qi 7)],(qi 9))] .nil 60 LG 103 yg2 []=true:=by kernel_rfl
theorem aQr(a lo b hi c lp d hp s t:Int)(w0:World) (H0:Same w0 49 #[(r4 a lo b hi)] (.int .i64 s))(H1:Same w0 49 #[(r4 c lp d hp)] (.int .i64 t)):Same w0 103 #[(r4 a lo b hi),(r4 c lp d hp)] (cond (s==0) (cond (t==0) (.bool true) (.bool false)) (.bool false)):=
 aB (aFL (.agg #[.int .i8 a,.int .i64 lo,.int .i8 b,.int .i64 hi,.int .i8 c,.int .i64 lp,.int .i8 d,.int .i64 hp,.int .i64 s,.int .i64 t])) (aP w0) (kM w0) .nil (.cons H0 (.cons H1 .nil)) (aC (by kernel_rfl)) (by kernel_rfl)
def aG9:DT:=(.node 0 (qi 8) qz (.node 0 (qi 9) qz (.leaf qz) (.leaf (qi 9))) (.leaf (qi 8)))
theorem aCl(l:Value):aG9.ok tb0 l [] [(78,[.agg [(qe 0),(qi 1)],.agg [(qe 4),(qi 5)]],(qi 8)),(78,[.agg [(qe 2),(qi 3)],.agg [(qe 6),(qi 7)]],(qi 9))] .nil 60 LG 79 yg2 []=true:=by kernel_rfl
theorem aMn(a lo b hi c lp d hp s t:Int)(w0:World) (H0:Same w0 78 #[(ev a lo),(ev c lp)] (.int .i64 s))(H1:Same w0 78 #[(ev b hi),(ev d hp)] (.int .i64 t)):Same w0 79 #[(r4 a lo b hi),(r4 c lp d hp)] (cond (s==0) (cond (t==0) (.int .i64 0) (.int .i64 t)) (.int .i64 s)):=
 aB (aCl (.agg #[.int .i8 a,.int .i64 lo,.int .i8 b,.int .i64 hi,.int .i8 c,.int .i64 lp,.int .i8 d,.int .i64 hp,.int .i64 s,.int .i64 t])) (aP w0) (kM w0) .nil (.cons H0 (.cons H1 .nil)) (aC (by kernel_rfl)) (by kernel_rfl)
def aOH:DT:=(.node 0 (qe 0) q8 (.node 1 (qi 1) yg1 (.leaf (.aK [(.agg [q8,yg1]),qz])) (.leaf (.aK [(.agg [q8,qz]),(.v (.int .i64 15))]))) (.node 3 (qb 2) (qb 2) (.leaf yg0) (.node 3 (qb 3) (qb 3) (.leaf yg0) (.leaf (.aK [(.agg [q8,qz]),(.v (.int .i64 5))])))))
theorem aIT(l:Value):aOH.ok tb0 l [(40,.agg [(qe 0),(qi 1)],.agg [.v (.int .i8 1),qz],(qb 2)),(40,.agg [(qe 0),(qi 1)],.agg [.v (.int .i8 (-1)),qz],(qb 3))] [] .nil 60 LG 104 [.agg [(qe 0),(qi 1)]] []=true:=by kernel_rfl
theorem aTO(i d:Int)(x y:Bool)(w0:World)(hx:x=decide (i=1/\d=0))(hy:y=decide (i= -1/\d=0)):Same w0 104 #[(ev i d)] (cond (i==0) (cond (decide (d<(IntKind.i64.wrap (d+1)))) (.tuple #[(ev 0 (IntKind.i64.wrap (d+1))),(.int .i64 0)]) (.tuple #[(ev 0 0),(.int .i64 15)])) (cond x (.tuple #[(ev i d),(.int .i64 0)]) (cond y (.tuple #[(ev i d),(.int .i64 0)]) (.tuple #[(ev 0 0),(.int .i64 5)])))):=
 aB (aIT (.agg #[.int .i8 i,.int .i64 d,.bool x,.bool y])) (aP w0) (kM w0) (.cons (oD _ _ _ _ _ hx) (fun _ _ _=>⟨by kernel_rfl,by kernel_rfl⟩) (.cons (oD _ _ _ _ _ hy) (fun _ _ _=>⟨by kernel_rfl,by kernel_rfl⟩) .nil)) .nil (aC (by kernel_rfl)) (by kernel_rfl)
def aLy:DT:=(.node 1 (qi 14) qz (.node 1 qz (qi 16) (.node 0 (qi 13) qz (.node 3 (qb 18) (qb 18) (.leaf qt) (.leaf qf)) (.leaf qf)) (.leaf qt)) (.node 1 qz (qi 15) (.node 0 (qi 10) qz (.node 3 (qb 17) (qb 17) (.leaf qt) (.leaf qf)) (.leaf qf)) (.leaf qt)))
theorem aFJ(l:Value):aLy.ok tb0 l [(40,.agg [(qe 8),(qi 9)],.agg [(qe 4),(qi 5)],(qb 17)),(40,.agg [(qe 11),(qi 12)],.agg [(qe 0),(qi 1)],(qb 18))] [(103,yg2,qt),(78,[.agg [(qe 4),(qi 5)],.agg [(qe 0),(qi 1)]],(qi 14)),(78,[.agg [(qe 4),(qi 5)],.agg [(qe 2),(qi 3)]],(qi 15)),(78,[.agg [(qe 0),(qi 1)],.agg [(qe 6),(qi 7)]],(qi 16)),(104,[.agg [(qe 2),(qi 3)]],.aK [.agg [(qe 8),(qi 9)],(qi 10)]),(104,[.agg [(qe 6),(qi 7)]],.aK [.agg [(qe 11),(qi 12)],(qi 13)])] .nil 60 LG 80 yg2 []=true:=by kernel_rfl
theorem aQp(a lo b hi c lp d hp j e f k g h r s t:Int)(x y:Bool)(w0:World)(hx:x=decide (j=c/\e=lp))(hy:y=decide (k=a/\g=lo))(H0:Same w0 103 #[(r4 a lo b hi),(r4 c lp d hp)] (.bool true))(H1:Same w0 78 #[(ev c lp),(ev a lo)] (.int .i64 r))(H2:Same w0 78 #[(ev c lp),(ev b hi)] (.int .i64 s))(H3:Same w0 78 #[(ev a lo),(ev d hp)] (.int .i64 t))(H4:Same w0 104 #[(ev b hi)] (.tuple #[(ev j e),(.int .i64 f)]))(H5:Same w0 104 #[(ev d hp)] (.tuple #[(ev k g),(.int .i64 h)])):Same w0 80 #[(r4 a lo b hi),(r4 c lp d hp)] (cond (decide (r<0)) (cond (decide (0<t)) (cond (h==0) (cond y (.bool true) (.bool false)) (.bool false)) (.bool true)) (cond (decide (0<s)) (cond (f==0) (cond x (.bool true) (.bool false)) (.bool false)) (.bool true))):=
 aB (aFJ (.agg #[.int .i8 a,.int .i64 lo,.int .i8 b,.int .i64 hi,.int .i8 c,.int .i64 lp,.int .i8 d,.int .i64 hp,.int .i8 j,.int .i64 e,.int .i64 f,.int .i8 k,.int .i64 g,.int .i64 h,.int .i64 r,.int .i64 s,.int .i64 t,.bool x,.bool y])) (aP w0) (kM w0) (.cons (oD _ _ _ _ _ hx) (fun _ _ _=>⟨by kernel_rfl,by kernel_rfl⟩) (.cons (oD _ _ _ _ _ hy) (fun _ _ _=>⟨by kernel_rfl,by kernel_rfl⟩) .nil)) (.cons H0 (.cons H1 (.cons H2 (.cons H3 (.cons H4 (.cons H5 .nil)))))) (aC (by kernel_rfl)) (by kernel_rfl)
def aOG:DT:=(.node 0 (qe 2) q8 (.node 0 (qe 4) q8 (.node 1 (qi 3) (.v (.int .i64 9223372036854775807)) (.node 0 (aU 1 .i64 [(qi 3),(.v (.int .i64 1))]) (qi 5) (.leaf qt) (.leaf qf)) (.leaf qf)) (.leaf qf)) (.leaf qf))
theorem aIS(l:Value):aOG.ok tb0 l [] [] .nil 60 LG 93 yg2 []=true:=by kernel_rfl
theorem aTN(a lo b hi c lp d hp:Int)(w0:World)  :Same w0 93 #[(r4 a lo b hi),(r4 c lp d hp)] (cond (b==0) (cond (c==0) (cond (decide (hi<9223372036854775807)) (cond ((IntKind.i64.wrap (hi+1))==lp) (.bool true) (.bool false)) (.bool false)) (.bool false)) (.bool false)):=
 aB (aIS (.agg #[.int .i8 a,.int .i64 lo,.int .i8 b,.int .i64 hi,.int .i8 c,.int .i64 lp,.int .i8 d,.int .i64 hp])) (aP w0) (kM w0) .nil .nil (aC (by kernel_rfl)) (by kernel_rfl)
def aOD:DT:=(.node 0 (qe 4) (.v (.int .i8 (-1))) (.node 0 (qe 0) (.v (.int .i8 (-1))) (.leaf qt) (.leaf qf)) (.node 0 (qe 0) (.v (.int .i8 (-1))) (.node 0 (qe 2) (.v (.int .i8 1)) (.leaf qt) (.node 1 (qi 3) (qi 5) (.leaf qf) (.leaf qt))) (.node 1 (qi 5) (qi 1) (.leaf qf) (.node 0 (qe 2) (.v (.int .i8 1)) (.leaf qt) (.node 1 (qi 3) (qi 5) (.leaf qf) (.leaf qt))))))
theorem aIP(l:Value):aOD.ok tb0 l [] [] .nil 60 LG 121 yg2 []=true:=by kernel_rfl
theorem aTK(a lo b hi c lp d hp:Int)(w0:World)  :Same w0 121 #[(r4 a lo b hi),(r4 c lp d hp)] (cond (c==(-1)) (cond (a==(-1)) (.bool true) (.bool false)) (cond (a==(-1)) (cond (b==1) (.bool true) (cond (decide (hi<lp)) (.bool false) (.bool true))) (cond (decide (lp<lo)) (.bool false) (cond (b==1) (.bool true) (cond (decide (hi<lp)) (.bool false) (.bool true)))))):=
 aB (aIP (.agg #[.int .i8 a,.int .i64 lo,.int .i8 b,.int .i64 hi,.int .i8 c,.int .i64 lp,.int .i8 d,.int .i64 hp])) (aP w0) (kM w0) .nil .nil (aC (by kernel_rfl)) (by kernel_rfl)
def aLB:DT:=(.node 3 (qb 8) (qb 8) (.leaf qt) (.leaf (qb 9)))
theorem aFM(l:Value):aLB.ok tb0 l [] [(121,yg2,(qb 8)),(121,yg3,(qb 9))] .nil 60 LG 92 yg2 []=true:=by kernel_rfl
theorem aQs(a lo b hi c lp d hp:Int)(x y:Bool)(w0:World) (H0:Same w0 121 #[(r4 a lo b hi),(r4 c lp d hp)] (.bool x))(H1:Same w0 121 #[(r4 c lp d hp),(r4 a lo b hi)] (.bool y)):Same w0 92 #[(r4 a lo b hi),(r4 c lp d hp)] (cond x (.bool true) (.bool y)):=
 aB (aFM (.agg #[.int .i8 a,.int .i64 lo,.int .i8 b,.int .i64 hi,.int .i8 c,.int .i64 lp,.int .i8 d,.int .i64 hp,.bool x,.bool y])) (aP w0) (kM w0) .nil (.cons H0 (.cons H1 .nil)) (aC (by kernel_rfl)) (by kernel_rfl)
def aHd:DT:=(.node 3 (qb 8) (qb 8) (.leaf qt) (.node 3 (qb 9) (qb 9) (.leaf qt) (.leaf (qb 10))))
theorem aCp(l:Value):aHd.ok tb0 l [] [(92,yg2,(qb 8)),(93,yg2,(qb 9)),(93,yg3,(qb 10))] .nil 60 LG 70 yg2 []=true:=by kernel_rfl
theorem aMr(a lo b hi c lp d hp:Int)(x y z:Bool)(w0:World) (H0:Same w0 92 #[(r4 a lo b hi),(r4 c lp d hp)] (.bool x))(H1:Same w0 93 #[(r4 a lo b hi),(r4 c lp d hp)] (.bool y))(H2:Same w0 93 #[(r4 c lp d hp),(r4 a lo b hi)] (.bool z)):Same w0 70 #[(r4 a lo b hi),(r4 c lp d hp)] (cond x (.bool true) (cond y (.bool true) (.bool z))):=
 aB (aCp (.agg #[.int .i8 a,.int .i64 lo,.int .i8 b,.int .i64 hi,.int .i8 c,.int .i64 lp,.int .i8 d,.int .i64 hp,.bool x,.bool y,.bool z])) (aP w0) (kM w0) .nil (.cons H0 (.cons H1 (.cons H2 .nil))) (aC (by kernel_rfl)) (by kernel_rfl)
end Sk
end
section
namespace Sk
def endOk(i d:Int):Bool:=decide (i=0)||((decide (i=1)||decide (i= -1))&&decide (d=0))
def bW(i d j e:Int):Int:=if i<j then -1 else if j<i then 1 else if d<e then -1 else if e<d then 1 else 0
def dK(a lo b hi:Int):Int:=if endOk a lo=false\/endOk b hi=false then 5 else if a=1\/b= -1 then 4 else if 0<bW a lo b hi then 12 else 0
structure Right(a lo b hi:Int):Prop where
 low:(a= -1/\lo=0)\/a=0
 high:(b=1/\hi=0)\/b=0
 le:a=0->b=0->lo<=hi
theorem pX{a lo b hi:Int}(h:dK a lo b hi=0):Right a lo b hi:=by
 unfold dK at h
 by_cases h1:endOk a lo=false\/endOk b hi=false
 . rw[aDk h1]at h;cases h
 rw [aBx h1]at h
 by_cases h2:a=1\/b= -1
 . rw[aDk h2]at h;cases h
 rw [aBx h2]at h
 by_cases h3:0<bW a lo b hi
 . rw[aDk h3]at h;cases h
 rw[aBx h3]at h;simp only[not_or,Bool.not_eq_false,endOk,aHW,aDY,aDE]at h1 h2;unfold bW at h3;refine⟨by omega,by omega,fun ha hb=>?_⟩;subst ha hb;rw[aBx (by decide),aBx (by decide)]at h3
 by_cases h4:lo<hi
 . omega
 rw[aBx h4]at h3
 by_cases h5:hi<lo
 . rw[aDk h5]at h3;omega
 omega
theorem xG{a lo b hi:Int}(h:Right a lo b hi):dK a lo b hi=0:=by
 obtain⟨h1,h2,h3⟩:=h;unfold dK bW endOk;rcases h1 with⟨rfl,rfl⟩|rfl<;>rcases h2 with⟨rfl,rfl⟩|rfl<;>simp;have:=h3 rfl rfl;omega
theorem U6(a lo b hi:Int):dK a lo b hi=0\/dK a lo b hi=4\/dK a lo b hi=5\/dK a lo b hi=12:=by
 unfold dK
 (repeat' split)<;>omega
def LC(a lo b hi c lp d hp:Int):Int:=if bW a lo c lp=0 then bW b hi d hp else bW a lo c lp
def KA(a lo b hi c lp d hp:Int):Bool:=
 if bW c lp a lo<0 then decide (bW a lo d hp<=0)||(decide (d=0)&&decide (a=0)&&decide (hp+1=lo))
 else decide (bW c lp b hi<=0)||(decide (b=0)&&decide (c=0)&&decide (hi+1=lp))
def aSb(a lo b hi x:Int):Bool:=(decide (a= -1)||decide (lo<=x))&&(decide (b=1)||decide (x<=hi))
def oG(a lo b hi c lp:Int):Bool:=if c= -1 then decide (a= -1)else aSb a lo b hi lp
def aG7(b hi c lp:Int):Bool:=decide (b=0)&&decide (c=0)&&decide (hi<9223372036854775807)&&decide (hi+1=lp)
def J9(a lo b hi c lp d hp:Int):Bool:=oG a lo b hi c lp||oG c lp d hp a lo||aG7 b hi c lp||aG7 d hp a lo
def aGZ(a lo b hi c lp d hp:Int):Bool:=decide (0<LC a lo b hi c lp d hp)||KA a lo b hi c lp d hp
def badR(a lo b hi c lp d hp:Int):Bool:=decide (0<=bW b hi c lp)||J9 a lo b hi c lp d hp
theorem bad_eq{a lo b hi c lp d hp:Int}(h:Right a lo b hi)(g:Right c lp d hp)(h0: -9223372036854775808<=lo)(h1:lo<9223372036854775808)(h2: -9223372036854775808<=hi)(h3:hi<9223372036854775808)
 (g0: -9223372036854775808<=lp) (g1:lp<9223372036854775808) (g2: -9223372036854775808<=hp) (g3:hp<9223372036854775808):aGZ a lo b hi c lp d hp=badR a lo b hi c lp d hp:=by
 obtain⟨x1,x2,x3⟩:=h;obtain⟨y1,y2,y3⟩:=g;rw[aK8];unfold aGZ badR KA J9 LC bW oG aSb aG7;rcases x1 with⟨rfl,rfl⟩|rfl<;>rcases x2 with⟨rfl,rfl⟩|rfl<;>rcases y1 with⟨rfl,rfl⟩|rfl<;>rcases y2 with⟨rfl,rfl⟩|rfl<;>simp at x3 y3 ⊢ <;>(repeat' split)<;>(try simp)<;>(try omega)
end Sk
end
section
namespace Sk
def scan(f:Nat->Int):Nat->Nat->Int
 |0,_=>0
 |k+1,i=>if f i=0 then scan f k (i+1)else f i
theorem aFh(f:Nat->Int)(i:Nat):scan f 0 i=0:=rfl
theorem scan_ok{f:Nat->Int}{k i:Nat}(h:f i=0):scan f (k+1) i=scan f k (i+1):=by
 rw[scan,aDk h]
theorem scan_bad{f:Nat->Int}{k i:Nat}(h:f i≠0):scan f (k+1) i=f i:=by
 rw[scan,aBx h]
theorem KY{f g:Nat->Int}: ∀(k i:Nat),(∀j,j<i->f j=0)->(∀i,(∀j,j<i->f j=0)->f i=g i)->scan f k i=scan g k i
 |0,i,_,_=>rfl
 |k+1,i,h,hh=>by
  have e:=hh i h
  by_cases h0:f i=0
  . rw[scan_ok h0,scan_ok (e ▸ h0)];refine KY k (i+1) (fun j hj=>?_) hh
    by_cases e2:j=i
    . rw[e2];exact h0
    exact h j (by omega)
  rw[scan_bad h0,scan_bad (e ▸ h0)];exact e
structure R4 where
 a:Int
 lo:Int
 b:Int
 hi:Int
def R4.err(r:R4):Int:=dK r.a r.lo r.b r.hi
structure R4.Bd(r:R4):Prop where
 h0: -9223372036854775808<=r.lo
 h1:r.lo<9223372036854775808
 h2: -9223372036854775808<=r.hi
 h3:r.hi<9223372036854775808
def Q8(f:Nat->R4)(i:Nat):Int:=if(f i).err=0 then(if 0<i/\aGZ (f (i - 1)).a (f (i - 1)).lo (f (i - 1)).b (f (i - 1)).hi (f i).a (f i).lo (f i).b (f i).hi=true then 12 else 0)else(f i).err
def atR(f:Nat->R4)(i:Nat):Int:=if(f i).err=0 then(if 0<i/\badR (f (i - 1)).a (f (i - 1)).lo (f (i - 1)).b (f (i - 1)).hi (f i).a (f i).lo (f i).b (f i).hi=true then 12 else 0)else(f i).err
theorem FP{f:Nat->R4}{i:Nat}(h:Q8 f i=0):(f i).err=0:=by
 unfold Q8 at h
 by_cases e:(f i).err=0
 . exact e
 rw[aBx e]at h;exact h
theorem at_eq{f:Nat->R4}{i:Nat}(hb: ∀j,(f j).Bd)(h: ∀j,j<i->Q8 f j=0):Q8 f i=atR f i:=by
 unfold Q8 atR
 by_cases e:(f i).err=0
 . rw[aDk e,aDk e]
   by_cases hi:0<i
   . have e2:=FP (h (i - 1) (by omega));rw[bad_eq (pX e2) (pX e) (hb _).h0 (hb _).h1 (hb _).h2 (hb _).h3 (hb _).h0 (hb _).h1 (hb _).h2 (hb _).h3]
   rw[aBx (fun h=>hi h.1),aBx (fun h=>hi h.1)]
 rw[aBx e,aBx e]
theorem aQ1{f:Nat->R4}(hb: ∀j,(f j).Bd)(n:Nat):scan (Q8 f) n 0=scan (atR f) n 0:=
 KY n 0 (fun j hj=>by omega) (fun i h=>at_eq hb h)
def kT(f:Nat->R4)(n:Nat):Int:=if 4096<n then 3 else scan (Q8 f) n 0
end Sk
end
section
open Go.RowKit Go.Lib
namespace Sk
def l4(a lo b hi:Int):List Value:=[.int .i8 a,.int .i64 lo,.int .i8 b,.int .i64 hi]
theorem iG(i d j e:Int)(w:World):
 Calls Tryz.prog 78 #[ev i d,ev j e] w fun r w'=>r=.returned (.int .i64 (bW i d j e))/\Below w.heap.size w w':=
 lJ (aMy i d j e w) (by unfold bW;simp only[aWO,aVd,aXZ];(repeat' split)<;>first|rfl|(exfalso;omega))
theorem F8(i d j e:Int)(w:World):
 Calls Tryz.prog 69 #[ev i d,ev j e] w fun r w'=>r=.returned (.int .i64 (bW i d j e))/\Below w.heap.size w w':=
 lJ (aHO i d j e w) (by unfold bW;simp only[aXZ];(repeat' split)<;>rfl)
def eck(i d:Int):Int:=if endOk i d then 0 else 5
theorem WZ(i d:Int):(eck i d=0/\(i=0\/i=1\/i= -1))\/eck i d=5:=by
 unfold eck endOk;simp only[aHW,aDY,aDE]
 split<;>omega
theorem aGQ(i d j e:Int):bW i d j e=0\/bW i d j e=1\/bW i d j e= -1:=by unfold bW;(repeat' split)<;>omega
theorem Y6{a lo b hi:Int}:dK a lo b hi=if eck a lo≠0\/eck b hi≠0 then 5 else if a=1\/b= -1 then 4 else if 0<bW a lo b hi then 12 else 0:=by
 unfold dK eck
 cases endOk a lo<;>cases endOk b hi<;>simp
theorem CV(i d:Int)(w:World):Calls Tryz.prog 77 #[ev i d] w fun r w'=>r=.returned (.int .i64 (eck i d))/\Below w.heap.size w w':=
 lJ (aQB i d _ _ w rfl rfl) (by unfold eck endOk;simp only[aHF,aGw,aDY,aHW,aDE];(repeat' split)<;>first|rfl|(exfalso;omega))
theorem yZ(i d:Int)(w:World):Calls Tryz.prog 73 #[ev i d] w fun r w'=>r=.returned (.int .i64 (eck i d))/\Below w.heap.size w w':=
 lJ (aMt i d w) (by unfold eck endOk;simp only[aHF,aGw,aDY,aHW,aDE];(repeat' split)<;>first|rfl|(exfalso;omega))
theorem lY(a lo b hi:Int)(w:World):
 Calls Tryz.prog 49 #[r4 a lo b hi] w fun r w'=>r=.returned (.int .i64 (dK a lo b hi))/\Below w.heap.size w w':=
 lJ (aQq a lo b hi _ _ _ w (fun W _=>CV a lo W) (fun W _=>CV b hi W) (fun W _=>iG a lo b hi W)) (by
  have h1:=WZ a lo;have h2:=WZ b hi;rw[Y6];simp only[aHF,aGw,aDE];(repeat' split)<;>first|rfl|(exfalso;omega))
theorem yY(a lo b hi:Int)(w:World):
 Calls Tryz.prog 46 #[r4 a lo b hi] w fun r w'=>r=.returned (.int .i64 (dK a lo b hi))/\Below w.heap.size w w':=
 lJ (aMs a lo b hi _ _ _ w (fun W _=>yZ a lo W) (fun W _=>yZ b hi W) (fun W _=>F8 a lo b hi W)) (by
  have h1:=WZ a lo;have h2:=WZ b hi;have h3:=aGQ a lo b hi;rw[Y6];simp only[aHF,aGw];(repeat' split)<;>first|rfl|(exfalso;omega))
theorem SA(a lo b hi c lp d hp:Int)(w:World):
 Calls Tryz.prog 103 #[r4 a lo b hi,r4 c lp d hp] w fun r w'=>r=.returned (.bool (decide (dK a lo b hi=0)&&decide (dK c lp d hp=0)))/\Below w.heap.size w w':=
 lJ (aQr a lo b hi c lp d hp _ _ w (fun W _=>lY a lo b hi W) (fun W _=>lY c lp d hp W)) (by
  by_cases h:dK a lo b hi=0<;>by_cases g:dK c lp d hp=0<;>simp[aHF,h,g])
theorem aB4(a lo b hi c lp d hp:Int)(w:World):
 Calls Tryz.prog 79 #[r4 a lo b hi,r4 c lp d hp] w fun r w'=>r=.returned (.int .i64 (LC a lo b hi c lp d hp))/\Below w.heap.size w w':=
 lJ (aMn a lo b hi c lp d hp _ _ w (fun W _=>iG a lo c lp W) (fun W _=>iG b hi d hp W)) (by
  unfold LC;by_cases h:bW a lo c lp=0<;>by_cases g:bW b hi d hp=0<;>simp[aHF,h,g])
theorem NZ(i d:Int)(w:World)(h0: -9223372036854775808<=d)(h1:d<9223372036854775808): ∃j e er,Same w 104 #[ev i d] (.tuple #[ev j e,.int .i64 er])/\(i=0->d<9223372036854775807->er=0/\j=0/\e=d+1):=by
 have h:=aTO i d _ _ w rfl rfl
 by_cases c:i=0
 . subst c
   by_cases g:d<9223372036854775807
   . have e:IntKind.i64.wrap (d+1)=d+1:=by rw[aHA];omega
     exact⟨0,d+1,0,sV h (by rw[e];simp[ev,show d<d+1 by omega]),fun _ _=>⟨rfl,rfl,rfl⟩⟩
   obtain rfl:d=9223372036854775807:=by omega
   exact⟨0,0,15,h,fun _ e=>by omega⟩
 by_cases x:i=1/\d=0
 . exact⟨i,d,0,sV h (by simp[x]),fun e=>absurd e c⟩
 by_cases y:i= -1/\d=0
 . exact⟨i,d,0,sV h (by simp[y]),fun e=>absurd e c⟩
 exact⟨0,0,5,sV h (by simp[aHF,c,x,y]),fun e=>absurd e c⟩
theorem J8{a lo d hp k g h:Int}(ha:(a= -1/\lo=0)\/a=0)(hd:(d=1/\hp=0)\/d=0)(l1:lo<9223372036854775808)(n:d=0->hp<9223372036854775807->h=0/\k=0/\g=hp+1):
 cond (decide (0<bW a lo d hp)) (cond (h==0) (cond (decide (k=a/\g=lo)) (Value.bool true) (.bool false)) (.bool false)) (.bool true)=.bool (decide (bW a lo d hp<=0)||(decide (d=0)&&decide (a=0)&&decide (hp+1=lo))):=by
 by_cases q:0<bW a lo d hp
 . obtain⟨rfl,rfl,hl⟩:a=0/\d=0/\hp<lo:=by unfold bW at q;(repeat' split at q)<;>omega
   obtain⟨rfl,rfl,rfl⟩:=n rfl (by omega)
   by_cases e:hp+1=lo<;>simp[aHF,q,e,show ¬bW 0 lo 0 hp<=0 by omega]
 simp[q,show bW a lo d hp<=0 by omega]
theorem aE3(a lo b hi c lp d hp:Int)(w:World)(h:Right a lo b hi)(g:Right c lp d hp)(h0: -9223372036854775808<=lo)(h1:lo<9223372036854775808)(h2: -9223372036854775808<=hi)(h3:hi<9223372036854775808)
 (g0: -9223372036854775808<=lp) (g1:lp<9223372036854775808) (g2: -9223372036854775808<=hp) (g3:hp<9223372036854775808):
 Calls Tryz.prog 80 #[r4 a lo b hi,r4 c lp d hp] w fun r w'=>r=.returned (.bool (KA a lo b hi c lp d hp))/\Below w.heap.size w w':=by
 obtain⟨j,e,f,N1,n1⟩:=NZ b hi w h2 h3;obtain⟨k,g',h',N2,n2⟩:=NZ d hp w g2 g3;refine lJ (aQp a lo b hi c lp d hp j e f k g' h' _ _ _ _ _ w rfl rfl (fun W _=>?_) (fun W _=>iG c lp a lo W) (fun W _=>iG c lp b hi W) (fun W _=>iG a lo d hp W) N1 N2) ?_
 . have:=SA a lo b hi c lp d hp W;rwa[xG h,xG g]at this
 rw[J8 h.low g.high h1 n2,J8 g.low h.high g1 n1];unfold KA;rw[aXZ]
 split<;>rfl
theorem aCf(a lo b hi c lp d hp:Int)(w:World)(h2: -9223372036854775808<=hi)(h3:hi<9223372036854775808)(g2: -9223372036854775808<=hp)(g3:hp<9223372036854775808):
 Calls Tryz.prog 70 #[r4 a lo b hi,r4 c lp d hp] w fun r w'=>r=.returned (.bool (J9 a lo b hi c lp d hp))/\Below w.heap.size w w':=by
 have B: ∀(a lo b hi c lp d hp:Int) W,Calls Tryz.prog 121 #[r4 a lo b hi,r4 c lp d hp] W fun r w'=>r=.returned (.bool (oG a lo b hi c lp))/\Below W.heap.size W w':=fun a lo b hi c lp d hp W=>
  lJ (aTK a lo b hi c lp d hp W) (by unfold oG aSb;simp only[aHF,aGw,aDE];(repeat' split)<;>simp_all<;>omega)
 have A: ∀(a lo b hi c lp d hp:Int) W,-9223372036854775808<=hi->hi<9223372036854775808->Calls Tryz.prog 93 #[r4 a lo b hi,r4 c lp d hp] W fun r w'=>r=.returned (.bool (aG7 b hi c lp))/\Below W.heap.size W w':=fun a lo b hi c lp d hp W h0 h1=>
  lJ (aTN a lo b hi c lp d hp W) (by
   unfold aG7
   by_cases e:hi<9223372036854775807
   . rw[show IntKind.i64.wrap (hi+1)=hi+1 by rw[aHA];omega]
     by_cases b=0<;>by_cases c=0<;>by_cases hi+1=lp<;>simp_all [aHF]
   have e2:decide (hi<9223372036854775807)=false:=aBy e;rw[e2]
   by_cases b=0<;>by_cases c=0<;>simp_all)
 refine lJ (aMr a lo b hi c lp d hp _ _ _ w (fun W _=>lJ (aQs a lo b hi c lp d hp _ _ W (fun V _=>B _ _ _ _ _ _ _ _ V) (fun V _=>B _ _ _ _ _ _ _ _ V)) (u:=.bool (oG a lo b hi c lp||oG c lp d hp a lo)) (by cases oG a lo b hi c lp<;>rfl)) (fun W _=>A _ _ _ _ _ _ _ _ W h2 h3) (fun W _=>A _ _ _ _ _ _ _ _ W g2 g3)) ?_;unfold J9
 cases oG a lo b hi c lp<;>cases oG c lp d hp a lo<;>cases aG7 b hi c lp<;>rfl
end Sk
end
section
open Go.RowKit Go.Lib
namespace Sk
open Un (ba bt ri rb)
open Bk (Rw)
theorem aH6{P:Program}{md:Region.Mode}{ops:Array Oper}{Q:Exit->Act->World->Prop}{S:World->Prop}(i d:Nat){oi:Oper}{v:Value}{fuel:Nat}{listed:Array Bool}{a:Act}{w:World}(hi:ops[i]? =some oi)(hd:oi.dst=some d)
 (hs:Region.noSelect ops=true) (hf:Region.free md ops listed i=true) (hr:(Region.ready md ops listed).contains i=true)
 (hQ: ∀c a w,Q (.panic c) (a.put oi.dst v) w->Q (.panic c) a w) (hy:YieldsIf P ops S oi v a) (hS:S w)
 (h:wpAnyH P md ops Q S fuel (listed.setIfInBounds i true) (a.put (some d) v) w):wpAnyH P md ops Q S (fuel+1) listed a w:=
 wpAnyH_take hi hs hf hr hQ hy hS (by rw[hd];exact h)
theorem lS{P:Program}{md:Region.Mode}{ops:Array Oper}{Q:Exit->Act->World->Prop}{S:World->Prop}(i d:Nat){oi:Oper}{fuel:Nat}{listed:Array Bool}{a:Act}{w:World}(hS:S w)
 (h:wpAnyH P md ops Q S fuel (listed.setIfInBounds i true) (a.put (some d) undef) w) (hi:ops[i]? =some oi:=by rfl) (hd:oi.dst=some d:=by rfl)
 (hs:Region.noSelect ops=true:=by kernel_rfl) (hf:Region.free md ops listed i=true:=by kernel_rfl) (hr:(Region.ready md ops listed).contains i=true:=by kernel_rfl)
 (hQ: ∀c a w,Q (.panic c) (a.put oi.dst undef) w->Q (.panic c) a w:=by exact fun _ _ _ h=>h) (hy:YieldsIf P ops S oi undef a:=by exact Or.inr ⟨by rfl,rfl⟩):wpAnyH P md ops Q S (fuel+1) listed a w:=
 aH6 i d hi hd hs hf hr hQ hy hS h
theorem nC{P:Program}{md:Region.Mode}{ops:Array Oper}{Q:Exit->Act->World->Prop}{S:World->Prop}(i d:Nat)(v:Value){oi:Oper}{fuel:Nat}{listed:Array Bool}{a:Act}{w:World}(hS:S w)
 (h:wpAnyH P md ops Q S fuel (listed.setIfInBounds i true) (a.put (some d) v) w) (hi:ops[i]? =some oi:=by rfl) (hy: ∀w,S w->(execOp a.eval oi).run P w=.ok (.value v) w:=by(intro w hSw;(try dsimp only at hSw);go_simp;try with_reducible rfl)) (hd:oi.dst=some d:=by rfl)
 (hs:Region.noSelect ops=true:=by kernel_rfl) (hf:Region.free md ops listed i=true:=by kernel_rfl) (hr:(Region.ready md ops listed).contains i=true:=by kernel_rfl)
 (hQ: ∀c a w,Q (.panic c) (a.put oi.dst v) w->Q (.panic c) a w:=by exact fun _ _ _ h=>h) (hw:Region.wanted oi (yielded ops a.tmps)=true:=by rfl):wpAnyH P md ops Q S (fuel+1) listed a w:=
 aH6 i d hi hd hs hf hr hQ (Or.inl ⟨hw,hy⟩) hS h
def qK(W:World)(bs:Option Addr)(n:Nat)(f:Nat->R4):Prop:= ∀i,i<n-> ∃g o,bs=some ⟨g,o,none⟩/\g<W.heap.size/\W.cell? ⟨g,o+i * 4,none⟩=some (.int .i8 (f i).a)/\W.cell? ⟨g,o+i * 4+1,none⟩=some (.int .i64 (f i).lo)/\W.cell? ⟨g,o+i * 4+2,none⟩=some (.int .i8 (f i).b)/\W.cell? ⟨g,o+i * 4+3,none⟩=some (.int .i64 (f i).hi)
theorem qK.later{W W2:World}{bs:Option Addr}{n:Nat}{f:Nat->R4}(h:qK W bs n f)(hb:Below W.heap.size W W2):qK W2 bs n f:=fun i hi=>by
 obtain⟨g,o,e,hg,c0,c1,c2,c3⟩:=h i hi;exact⟨g,o,e,by have:=hb.size;omega,(hb.cell (p:=⟨g,_,none⟩) hg).trans c0,(hb.cell (p:=⟨g,_,none⟩) hg).trans c1,(hb.cell (p:=⟨g,_,none⟩) hg).trans c2,(hb.cell (p:=⟨g,_,none⟩) hg).trans c3⟩
structure Ms(g o k:Nat)(pa pl pb ph:Int)(q:Nat)(ca cl cb ch:Int)(w W:World):Prop where
 p:g<W.heap.size/\W.cell? ⟨g,o+k * 4,none⟩=some (.int .i8 pa)/\W.cell? ⟨g,o+k * 4+1,none⟩=some (.int .i64 pl)/\W.cell? ⟨g,o+k * 4+2,none⟩=some (.int .i8 pb)/\W.cell? ⟨g,o+k * 4+3,none⟩=some (.int .i64 ph)
 c:Rw q (l4 ca cl cb ch) w W
theorem Ms.later{g o k:Nat}{pa pl pb ph:Int}{q:Nat}{ca cl cb ch:Int}{w W W2:World}(h:Ms g o k pa pl pb ph q ca cl cb ch w W)(hb:Below W.heap.size W W2):Ms g o k pa pl pb ph q ca cl cb ch w W2:=by
 obtain⟨⟨hg,c0,c1,c2,c3⟩,hc⟩:=h;exact⟨⟨by have:=hb.size;omega,(hb.cell (p:=⟨g,_,none⟩) hg).trans c0,(hb.cell (p:=⟨g,_,none⟩) hg).trans c1,(hb.cell (p:=⟨g,_,none⟩) hg).trans c2,(hb.cell (p:=⟨g,_,none⟩) hg).trans c3⟩,hc.later hb⟩
theorem Ms.S{g o k:Nat}{pa pl pb ph:Int}{q:Nat}{ca cl cb ch:Int}{w W:World}(h:Ms g o k pa pl pb ph q ca cl cb ch w W):
 W.cell? ⟨g,o+k * 4,none⟩=some (.int .i8 pa)/\W.cell? ⟨g,o+k * 4+1,none⟩=some (.int .i64 pl)/\W.cell? ⟨g,o+k * 4+2,none⟩=some (.int .i8 pb)/\W.cell? ⟨g,o+k * 4+3,none⟩=some (.int .i64 ph)/\
 W.cell? ⟨q,0,none⟩=some (.int .i8 ca)/\W.cell? ⟨q,1,none⟩=some (.int .i64 cl)/\W.cell? ⟨q,2,none⟩=some (.int .i8 cb)/\W.cell? ⟨q,3,none⟩=some (.int .i64 ch)/\Ms g o k pa pl pb ph q ca cl cb ch w W:=
 ⟨h.p.2.1,h.p.2.2.1,h.p.2.2.2.1,h.p.2.2.2.2,h.c.cell 0 _ rfl,h.c.cell 1 _ rfl,h.c.cell 2 _ rfl,h.c.cell 3 _ rfl,h⟩
def YQ(f:Nat->R4)(i:Nat):Bool:=decide (0<i)&&aGZ (f (i - 1)).a (f (i - 1)).lo (f (i - 1)).b (f (i - 1)).hi (f i).a (f i).lo (f i).b (f i).hi
theorem aLe{f:Nat->R4}{i:Nat}(h:(f i).err=0):Q8 f i=if YQ f i then 12 else 0:=by
 unfold Q8 YQ;rw[aDk h];simp only[aDY,aDE]
theorem aEB{f:Nat->R4}{i:Nat}(h:(f i).err≠0):Q8 f i=(f i).err:=by
 unfold Q8;rw[aBx h]
def aV3(v:Int)(w:World)(e:Ending)(w':World):Prop:=e=.returned (.int .i64 v)/\Below w.heap.size w w'
def intOf:Value->Int
 | .int _ n=>n
 |_=>0
theorem UZ (f:Nat->R4) (bs:Option Addr) (n cp:Nat) (w:World) (hb: ∀j,(f j).Bd) (hs:qK w bs n f):
 Calls Tryz.prog 50 #[.slice bs n cp] w (aV3 (kT f n) w):=by
 unfold kT
 by_cases hn:4096<n
 . rw[aDk hn];have hn2:(4096:Int)<n:=by omega
   clear hn hs hb
   go_enter Tryz.func50,Tryz.ntmps50
   go_wp2
   go_ret
   exact⟨rfl,aAI _ _⟩
 rw[aBx hn];have hn2:(n:Int)<=4096:=by omega
 obtain⟨E,hE⟩: ∃E,E=scan (Q8 f) n 0:=⟨_,rfl⟩;rw[<-hE];have HE:=rG hE;have HS:=rG hs;have HBD:=rG hb;have HC:=rG (fun i w=>lY (f i).a (f i).lo (f i).b (f i).hi w);clear hE hs hb hn
 go_enter Tryz.func50,Tryz.ntmps50
 go_wp2
 go_loopw [2,11] (fun r i wr=> ∃i':Nat,r=.int .i64 0/\i=.int .i64 i'/\i'<=n/\(∀j,j<i'->Q8 f j=0)/\scan (Q8 f) (n - i') i'=E/\Below w.heap.size w wr) (fun _ i _=>n - (intOf i).toNat)
 case atStart=>exact⟨0,rfl,rfl,by omega,fun j hj=>by omega,HE.out.symm,aAI _ _⟩
 case round=>
  obtain⟨i,rfl,rfl,hi,hall,hsc,hB⟩:=hrel;generalize wr=wO at *;have aBu:=rG hall;have HSC:=rG hsc;have HB:=rG hB;clear hall hsc hB
  by_cases hlt:i<n
  . obtain⟨g,o,rfl,hg,c0,c1,c2,c3⟩:=(HS.out.later HB.out) i hlt;obtain⟨ca,cl,cb,ch,hf⟩: ∃ca cl cb ch,f i=⟨ca,cl,cb,ch⟩:=⟨_,_,_,_,rfl⟩;have XZ:=HC.out i;have HBI:=HBD.out i;rw[hf]at c0 c1 c2 c3 XZ HBI;have HF:=rG hf;have her:(f i).err=dK ca cl cb ch:=by rw[hf];rfl
    have RD:=rG her;unfold r4 at XZ;dsimp only at c0 c1 c2 c3 XZ;have h0:=HBI.h0;have h1:=HBI.h1;have h2:=HBI.h2;have h3:=HBI.h3;dsimp only at h0 h1 h2 h3;have HCB:Hid (-9223372036854775808<=cl/\cl<9223372036854775808/\ -9223372036854775808<=ch/\ch<9223372036854775808):=rG ⟨h0,h1,h2,h3⟩;clear HBI h0 h1 h2 h3 hf her;obtain⟨e,he⟩: ∃e,e=dK ca cl cb ch:=⟨_,rfl⟩;rw[<-he]at RD XZ;have HEQ:=rG he;clear he;replace XZ:=rG XZ;clear HC;have hT:Rw wO.heap.size (l4 ca cl cb ch) wO _:=Rw.fresh (aAI _ _) _ 42;unfold l4 at hT
    go_upto_region 6 with(fail)
    generalize World.alloc _ _=W1 at hT ⊢;have s0:=hT.cell 0 _ rfl;have s1:=hT.cell 1 _ rfl;have s2:=hT.cell 2 _ rfl;have s3:=hT.cell 3 _ rfl
    by_cases he:e=0
    case neg=>
     have hans:E=e:=by
      rw[<-HSC.out,show n - i=(n - i - 1)+1 by omega,scan_bad (by rw[aEB (by rw[RD.out];exact he),RD.out];exact he),aEB (by rw[RD.out];exact he),RD.out]
     have O7:=rG hans;clear hans
     go_wp2_with (go_at_call 49;refine(XZ.out _).mono ?_;rintro _ w1 ⟨rfl,hb⟩)
     go_ret
     exact⟨by rw[O7.out];rfl,bt HB.out (bt hT.below hb)⟩
    case pos=>
    subst he;clear c0 c1 c2 c3
    go_upto_region 9 with(go_at_call 49;refine(XZ.out _).mono ?_;rintro _ w1 ⟨rfl,hb⟩;replace hT:=hT.later hb;clear hb;clear s0 s1 s2 s3)
    have hat:Q8 f i=if YQ f i then 12 else 0:=aLe RD.out
    obtain⟨sb,hsb⟩: ∃sb,sb=YQ f i:=⟨_,rfl⟩;rw[<-hsb]at hat;have I4:=rG hsb;have HAT:=rG hat;clear hsb hat XZ
    go_cut [41] (fun s wx=>s=.bool sb/\Below wO.heap.size wO wx)
    case first=>
     have s0:=hT.cell 0 _ rfl;have s1:=hT.cell 1 _ rfl;have s2:=hT.cell 2 _ rfl;have s3:=hT.cell 3 _ rfl
     by_cases hz:i=0
     . have hs0:sb=false:=by rw[I4.out,hz];rfl
       subst hs0;have hz2: ¬(0<i):=by omega
       clear I4 HAT hz
       go_wp2_with fail
       refine aVp (S:=fun w'=>Rw wO.heap.size (l4 ca cl cb ch) wO w') (by kernel_rfl) (hT.later (aAI _ _).drew) (fun hHeld=>?_);refine nC 0 21 _ (by assumption) ?_
       try simp only[Act.put,aAw,aAZ,aBw]
       refine nC 1 22 _ (by assumption) ?_
       try simp only[Act.put,aAw,aAZ,aBw]
       refine nC 2 23 _ (by assumption) ?_
       try simp only[Act.put,aAw,aAZ,aBw]
       refine lS 3 24 (by assumption) ?_
       try simp only[Act.put,aAw,aAZ,aBw]
       refine lS 4 25 (by assumption) ?_
       try simp only[Act.put,aAw,aAZ,aBw]
       refine lS 5 26 (by assumption) ?_
       try simp only[Act.put,aAw,aAZ,aBw]
       refine lS 6 27 (by assumption) ?_
       try simp only[Act.put,aAw,aAZ,aBw]
       refine lS 7 28 (by assumption) ?_
       try simp only[Act.put,aAw,aAZ,aBw]
       refine lS 8 29 (by assumption) ?_
       try simp only[Act.put,aAw,aAZ,aBw]
       refine lS 9 30 (by assumption) ?_
       try simp only[Act.put,aAw,aAZ,aBw]
       refine lS 10 31 (by assumption) ?_
       try simp only[Act.put,aAw,aAZ,aBw]
       refine lS 11 32 (by assumption) ?_
       try simp only[Act.put,aAw,aAZ,aBw]
       refine lS 12 33 (by assumption) ?_
       try simp only[Act.put,aAw,aAZ,aBw]
       refine lS 13 34 (by assumption) ?_
       try simp only[Act.put,aAw,aAZ,aBw]
       refine lS 14 35 (by assumption) ?_
       try simp only[Act.put,aAw,aAZ,aBw]
       refine lS 15 36 (by assumption) ?_
       try simp only[Act.put,aAw,aAZ,aBw]
       refine lS 16 37 (by assumption) ?_
       try simp only[Act.put,aAw,aAZ,aBw]
       refine lS 17 38 (by assumption) ?_
       try simp only[Act.put,aAw,aAZ,aBw]
       refine lS 18 39 (by assumption) ?_
       try simp only[Act.put,aAw,aAZ,aBw]
       refine lS 19 40 (by assumption) ?_
       try simp only[Act.put,aAw,aAZ,aBw]
       refine nC 20 41 _ (by assumption) ?_
       try simp only[Act.put,aAw,aAZ,aBw]
       refine aXf (by kernel_rfl) ?_ _
       go_wp2_with fail
       go_meet
       exact⟨rfl,hT.below.drew⟩
     obtain⟨k,hk1⟩: ∃k,i=k+1:=⟨i - 1,by omega⟩;have hk:wrap64 ((i:Int) - 1)=(k:Int):=by unfold wrap64;omega
     have hk2:IntKind.i64.wrap ((i:Int) - 1)=(k:Int):=by rw[aHA];omega
     have hkn:k<n:=by omega
     have hi0:0<i:=by omega
     have aYj:(0:Int)<=(k:Int):=by omega
     have hkn2:(k:Int)<(n:Int):=by omega
     obtain⟨pa,pl,pb,ph,hp⟩: ∃pa pl pb ph,f k=⟨pa,pl,pb,ph⟩:=⟨_,_,_,_,rfl⟩;obtain⟨g',o',e',hg',d0,d1,d2,d3⟩:=(HS.out.later (bt HB.out hT.below)) k hkn
     cases e'
     have HBK:=HBD.out k;have hpr:dK pa pl pb ph=0:=by
      have:=FP (aBu.out k (by omega));rw[hp]at this;exact this
     rw[hp]at d0 d1 d2 d3 HBK;dsimp only at d0 d1 d2 d3;have h0:=HBK.h0;have h1:=HBK.h1;have h2:=HBK.h2;have h3:=HBK.h3;dsimp only at h0 h1 h2 h3;have hst:sb=aGZ pa pl pb ph ca cl cb ch:=by
      rw[I4.out];unfold YQ;rw[show i - 1=k by omega,hp,HF.out,aBz (show 0<i by omega),aQN]
     unfold aGZ at hst;have CC:=fun w=>aB4 pa pl pb ph ca cl cb ch w;have CT:=fun w=>aE3 pa pl pb ph ca cl cb ch w (pX hpr) (pX HEQ.out.symm) h0 h1 h2 h3 HCB.out.1 HCB.out.2.1 HCB.out.2.2.1 HCB.out.2.2.2;unfold r4 at CC CT;generalize LC pa pl pb ph ca cl cb ch=x at *;generalize KA pa pl pb ph ca cl cb ch=y at *;replace CC:=rG CC;replace CT:=rG CT;have hM:Ms g o k pa pl pb ph wO.heap.size ca cl cb ch wO w1:=⟨⟨hg',d0,d1,d2,d3⟩,hT⟩;have hE:=rG (hM.later (aAI _ _).drew);clear hz I4 HAT hpr HBK h0 h1 h2 h3 hM hk1
     by_cases hx:0<x
     . rw[aBz hx,aXS]at hst;subst hst;clear CT;have HW:=rG hE.out;clear hE
       go_wp2_with fail
       refine aVp (S:=fun w'=>w'.cell? ⟨g,o+k * 4,none⟩=some (.int .i8 pa)/\w'.cell? ⟨g,o+k * 4+1,none⟩=some (.int .i64 pl)/\w'.cell? ⟨g,o+k * 4+2,none⟩=some (.int .i8 pb)/\w'.cell? ⟨g,o+k * 4+3,none⟩=some (.int .i64 ph)/\w'.cell? ⟨wO.heap.size,0,none⟩=some (.int .i8 ca)/\w'.cell? ⟨wO.heap.size,1,none⟩=some (.int .i64 cl)/\w'.cell? ⟨wO.heap.size,2,none⟩=some (.int .i8 cb)/\w'.cell? ⟨wO.heap.size,3,none⟩=some (.int .i64 ch)/\Ms g o k pa pl pb ph wO.heap.size ca cl cb ch wO w') (by kernel_rfl) (HW.out.S) (fun hHeld=>?_);refine nC 0 21 _ (by assumption) ?_
       try simp only[Act.put,aAw,aAZ,aBw]
       refine nC 1 22 _ (by assumption) ?_
       try simp only[Act.put,aAw,aAZ,aBw]
       refine nC 2 23 _ (by assumption) ?_
       try simp only[Act.put,aAw,aAZ,aBw]
       refine nC 3 24 _ (by assumption) ?_
       try simp only[Act.put,aAw,aAZ,aBw]
       refine nC 4 25 _ (by assumption) ?_
       try simp only[Act.put,aAw,aAZ,aBw]
       refine nC 5 26 _ (by assumption) ?_
       try simp only[Act.put,aAw,aAZ,aBw]
       refine nC 6 27 _ (by assumption) ?_
       try simp only[Act.put,aAw,aAZ,aBw]
       refine nC 7 28 _ (by assumption) ?_
       try simp only[Act.put,aAw,aAZ,aBw]
       refine nC 8 29 _ (by assumption) ?_
       try simp only[Act.put,aAw,aAZ,aBw]
       refine aW4 (rs:=[9]) (by kernel_rfl) (by simp) ?_;refine aWE rfl (fun K hK=>?_) aWN;simp only[aVa,aTB,aTA]
       go_simp
       go_at_call 79
       refine(CC.out _).mono ?_;rintro _ w6 ⟨rfl,hb2⟩;replace HW:=rG (HW.out.later hb2);clear hb2;refine hK.out _ _ (HW.out.S) (fun hHeld=>?_);clear hK K
       try simp only[Act.put,aAw,aAZ,aBw]
       refine nC 10 31 _ (by assumption) ?_
       try simp only[Act.put,aAw,aAZ,aBw]
       refine nC 11 32 _ (by assumption) ?_
       try simp only[Act.put,aAw,aAZ,aBw]
       refine lS 12 33 (by assumption) ?_
       try simp only[Act.put,aAw,aAZ,aBw]
       refine lS 13 34 (by assumption) ?_
       try simp only[Act.put,aAw,aAZ,aBw]
       refine lS 14 35 (by assumption) ?_
       try simp only[Act.put,aAw,aAZ,aBw]
       refine lS 15 36 (by assumption) ?_
       try simp only[Act.put,aAw,aAZ,aBw]
       refine lS 16 37 (by assumption) ?_
       try simp only[Act.put,aAw,aAZ,aBw]
       refine lS 17 38 (by assumption) ?_
       try simp only[Act.put,aAw,aAZ,aBw]
       refine lS 18 39 (by assumption) ?_
       try simp only[Act.put,aAw,aAZ,aBw]
       refine nC 19 40 _ (by assumption) ?_
       try simp only[Act.put,aAw,aAZ,aBw]
       refine nC 20 41 _ (by assumption) ?_
       try simp only[Act.put,aAw,aAZ,aBw]
       refine aXf (by kernel_rfl) ?_ _
       go_wp2_with fail
       go_meet
       exact⟨rfl,HW.out.c.below⟩
     rw[aBy hx,aXA]at hst;subst hst;have hx3:decide (0<x)=false:=aBy hx;have hx4:x<=0:=by omega
     clear hx
     go_wp2_with fail
     go_region_held3 (fun w'=>w'.cell? ⟨g,o+k * 4,none⟩=some (.int .i8 pa)/\w'.cell? ⟨g,o+k * 4+1,none⟩=some (.int .i64 pl)/\w'.cell? ⟨g,o+k * 4+2,none⟩=some (.int .i8 pb)/\w'.cell? ⟨g,o+k * 4+3,none⟩=some (.int .i64 ph)/\w'.cell? ⟨wO.heap.size,0,none⟩=some (.int .i8 ca)/\w'.cell? ⟨wO.heap.size,1,none⟩=some (.int .i64 cl)/\w'.cell? ⟨wO.heap.size,2,none⟩=some (.int .i8 cb)/\w'.cell? ⟨wO.heap.size,3,none⟩=some (.int .i64 ch)/\Ms g o k pa pl pb ph wO.heap.size ca cl cb ch wO w') (first|exact hE.out.S|(have hk:= ‹_/\_/\_/\_/\_/\_/\_/\_/\Ms _ _ _ _ _ _ _ _ _ _ _ _ _ _›;exact(hk.2.2.2.2.2.2.2.2.later (aAI _ _).drew).S)|(have hk:= ‹_/\_/\_/\_/\_/\_/\_/\_/\Ms _ _ _ _ _ _ _ _ _ _ _ _ _ _›;exact(hk.2.2.2.2.2.2.2.2.later hb2).S)|exact(hE.out.later hb2).S|assumption) ((first|(go_at_call 79;refine(CC.out _).mono ?_;rintro _ w6 ⟨rfl,hb2⟩)|(go_at_call 80;refine(CT.out _).mono ?_;rintro _ w7 ⟨rfl,hb2⟩)))
     rename_i hk
     go_wp2_with fail
     go_meet
     exact⟨by simp,hk.2.2.2.2.2.2.2.2.c.below⟩
    case rest=>
     obtain⟨rfl,hBx⟩:=hcut
     cases sb
     . have ha0:Q8 f i=0:=by rw[HAT.out];rfl
       have hsc:scan (Q8 f) (n - (i+1)) (i+1)=E:=by
        rw[<-HSC.out,show n - i=(n - (i+1))+1 by omega,scan_ok ha0]
       have aTg:=rG hsc;have aL9:Hid (∀j,j<i+1->Q8 f j=0):=rG (fun j hj=>by
        by_cases hj2:j=i
        . rw[hj2];exact ha0
        exact aBu.out j (by omega))
       clear hsc ha0 HSC aBu HAT I4
       go_wp2_with fail
       go_roundw
       case rel=>exact⟨i+1,rfl,by go_num,by omega,aL9.out,aTg.out,bt HB.out hBx⟩
       case measure=>simp[intOf];omega
     have ha0:Q8 f i=12:=by rw[HAT.out];rfl
     have hans:E=12:=by
      rw[<-HSC.out,show n - i=(n - (i+1))+1 by omega,scan_bad (by rw[ha0];decide),ha0]
     have O7:=rG hans;clear hans ha0 HSC aBu HAT I4
     go_wp2_with fail
     go_ret
     exact⟨by rw[O7.out];rfl,bt HB.out hBx⟩
  have hin:i=n:=by omega
  subst hin;have hans:E=0:=by rw[<-HSC.out,Nat.sub_self];rfl
  have O7:=rG hans;clear hans HS
  go_wp2_with fail
  go_ret
  exact⟨by rw[O7.out];rfl,HB.out⟩
end Sk
end
section
open Go.RowKit Go.Lib
namespace Sk
open Un (ba bt ri rb)
open Bk (Rw)
structure Mt(g o k i:Nat)(pa pl pb ph ca cl cb ch:Int)(w W:World):Prop where
 l:g<W.heap.size
 p:W.cell? ⟨g,o+k * 4,none⟩=some (.int .i8 pa)/\W.cell? ⟨g,o+k * 4+1,none⟩=some (.int .i64 pl)/\W.cell? ⟨g,o+k * 4+2,none⟩=some (.int .i8 pb)/\W.cell? ⟨g,o+k * 4+3,none⟩=some (.int .i64 ph)
 c:W.cell? ⟨g,o+i * 4,none⟩=some (.int .i8 ca)/\W.cell? ⟨g,o+i * 4+1,none⟩=some (.int .i64 cl)/\W.cell? ⟨g,o+i * 4+2,none⟩=some (.int .i8 cb)/\W.cell? ⟨g,o+i * 4+3,none⟩=some (.int .i64 ch)
 b:Below w.heap.size w W
theorem Mt.later{g o k i:Nat}{pa pl pb ph ca cl cb ch:Int}{w W W2:World}(h:Mt g o k i pa pl pb ph ca cl cb ch w W)(hb:Below W.heap.size W W2):Mt g o k i pa pl pb ph ca cl cb ch w W2:=by
 obtain⟨hg,⟨c0,c1,c2,c3⟩,⟨d0,d1,d2,d3⟩,hB⟩:=h;exact⟨by have:=hb.size;omega,⟨(hb.cell (p:=⟨g,_,none⟩) hg).trans c0,(hb.cell (p:=⟨g,_,none⟩) hg).trans c1,(hb.cell (p:=⟨g,_,none⟩) hg).trans c2,(hb.cell (p:=⟨g,_,none⟩) hg).trans c3⟩,⟨(hb.cell (p:=⟨g,_,none⟩) hg).trans d0,(hb.cell (p:=⟨g,_,none⟩) hg).trans d1,(hb.cell (p:=⟨g,_,none⟩) hg).trans d2,(hb.cell (p:=⟨g,_,none⟩) hg).trans d3⟩,bt hB hb⟩
theorem Mt.S{g o k i:Nat}{pa pl pb ph ca cl cb ch:Int}{w W:World}(h:Mt g o k i pa pl pb ph ca cl cb ch w W):
 W.cell? ⟨g,o+k * 4,none⟩=some (.int .i8 pa)/\W.cell? ⟨g,o+k * 4+1,none⟩=some (.int .i64 pl)/\W.cell? ⟨g,o+k * 4+2,none⟩=some (.int .i8 pb)/\W.cell? ⟨g,o+k * 4+3,none⟩=some (.int .i64 ph)/\
 W.cell? ⟨g,o+i * 4,none⟩=some (.int .i8 ca)/\W.cell? ⟨g,o+i * 4+1,none⟩=some (.int .i64 cl)/\W.cell? ⟨g,o+i * 4+2,none⟩=some (.int .i8 cb)/\W.cell? ⟨g,o+i * 4+3,none⟩=some (.int .i64 ch)/\Mt g o k i pa pl pb ph ca cl cb ch w W:=
 ⟨h.p.1,h.p.2.1,h.p.2.2.1,h.p.2.2.2,h.c.1,h.c.2.1,h.c.2.2.1,h.c.2.2.2,h⟩
def YP(f:Nat->R4)(i:Nat):Bool:=decide (0<i)&&badR (f (i - 1)).a (f (i - 1)).lo (f (i - 1)).b (f (i - 1)).hi (f i).a (f i).lo (f i).b (f i).hi
theorem aLd{f:Nat->R4}{i:Nat}(h:(f i).err=0):atR f i=if YP f i then 12 else 0:=by
 unfold atR YP;rw[aDk h];simp only[aDY,aDE]
theorem aEA{f:Nat->R4}{i:Nat}(h:(f i).err≠0):atR f i=(f i).err:=by
 unfold atR;rw[aBx h]
theorem PZ (f:Nat->R4) (bs:Option Addr) (n cp:Nat) (w:World) (hb: ∀j,(f j).Bd) (hs:qK w bs n f):
 Calls Tryz.prog 44 #[.slice bs n cp] w (aV3 (kT f n) w):=by
 unfold kT;rw[aQ1 hb]
 by_cases hn:4096<n
 . rw[aDk hn];have hn2:(4096:Int)<n:=by omega
   clear hn hs hb
   go_enter Tryz.func44,Tryz.ntmps44
   go_wp2
   go_ret
   exact⟨rfl,aAI _ _⟩
 rw[aBx hn];have hn2:(n:Int)<=4096:=by omega
 obtain⟨E,hE⟩: ∃E,E=scan (atR f) n 0:=⟨_,rfl⟩;rw[<-hE];have HE:=rG hE;have HS:=rG hs;have HBD:=rG hb;have HC:=rG (fun i w=>yY (f i).a (f i).lo (f i).b (f i).hi w);clear hE hs hb hn
 go_enter Tryz.func44,Tryz.ntmps44
 go_wp2
 go_loopw [2,3] (fun r i wr=> ∃i':Nat,r=.int .i64 0/\i=.int .i64 i'/\i'<=n/\(∀j,j<i'->atR f j=0)/\scan (atR f) (n - i') i'=E/\Below w.heap.size w wr) (fun _ i _=>n - (intOf i).toNat)
 case atStart=>exact⟨0,rfl,rfl,by omega,fun j hj=>by omega,HE.out.symm,aAI _ _⟩
 case round=>
  obtain⟨i,rfl,rfl,hi,hall,hsc,hB⟩:=hrel;generalize wr=wO at *;have aBu:=rG hall;have HSC:=rG hsc;have HB:=rG hB;clear hall hsc hB
  by_cases hlt:i<n
  . obtain⟨g,o,rfl,hg,c0,c1,c2,c3⟩:=(HS.out.later HB.out) i hlt;obtain⟨ca,cl,cb,ch,hf⟩: ∃ca cl cb ch,f i=⟨ca,cl,cb,ch⟩:=⟨_,_,_,_,rfl⟩;have XZ:=HC.out i;have HBI:=HBD.out i;rw[hf]at c0 c1 c2 c3 XZ HBI;have HF:=rG hf;have her:(f i).err=dK ca cl cb ch:=by rw[hf];rfl
    have RD:=rG her;unfold r4 at XZ;dsimp only at c0 c1 c2 c3 XZ;have h0:=HBI.h0;have h1:=HBI.h1;have h2:=HBI.h2;have h3:=HBI.h3;dsimp only at h0 h1 h2 h3;have HCB:Hid (-9223372036854775808<=cl/\cl<9223372036854775808/\ -9223372036854775808<=ch/\ch<9223372036854775808):=rG ⟨h0,h1,h2,h3⟩;clear HBI h0 h1 h2 h3 hf her;obtain⟨e,he⟩: ∃e,e=dK ca cl cb ch:=⟨_,rfl⟩;rw[<-he]at RD XZ;have HEQ:=rG he;clear he;replace XZ:=rG XZ;clear HC
    by_cases he:e=0
    case neg=>
     have hans:E=e:=by
      rw[<-HSC.out,show n - i=(n - i - 1)+1 by omega,scan_bad (by rw[aEA (by rw[RD.out];exact he),RD.out];exact he),aEA (by rw[RD.out];exact he),RD.out]
     have O7:=rG hans;clear hans
     go_wp2_with (go_at_call 46;refine(XZ.out _).mono ?_;rintro _ w1 ⟨rfl,hb⟩)
     go_ret
     exact⟨by rw[O7.out];rfl,bt HB.out hb⟩
    case pos=>
    subst he
    go_upto_region 9 with(go_at_call 46;refine(XZ.out _).mono ?_;rintro _ w1 ⟨rfl,hb⟩)
    clear c0 c1 c2 c3 hg;have HB1:=rG hb;clear hb;have hat:atR f i=if YP f i then 12 else 0:=aLd RD.out
    obtain⟨sb,hsb⟩: ∃sb,sb=YP f i:=⟨_,rfl⟩;rw[<-hsb]at hat;have I4:=rG hsb;have HAT:=rG hat;clear hsb hat XZ
    go_cut [50] (fun s wx=>s=.bool sb/\Below wO.heap.size wO wx)
    case first=>
     by_cases hz:i=0
     . have hs0:sb=false:=by rw[I4.out,hz];rfl
       subst hs0;have hz2: ¬(0<i):=by omega
       clear I4 HAT hz
       go_wp2_with fail
       refine aVp (S:=fun w'=>Below wO.heap.size wO w') (by kernel_rfl) (HB1.out.drew) (fun hHeld=>?_);refine nC 0 22 _ (by assumption) ?_
       try simp only[Act.put,aAw,aAZ,aBw]
       refine nC 1 23 _ (by assumption) ?_
       try simp only[Act.put,aAw,aAZ,aBw]
       refine nC 2 24 _ (by assumption) ?_
       try simp only[Act.put,aAw,aAZ,aBw]
       refine lS 3 25 (by assumption) ?_
       try simp only[Act.put,aAw,aAZ,aBw]
       refine lS 4 26 (by assumption) ?_
       try simp only[Act.put,aAw,aAZ,aBw]
       refine lS 5 27 (by assumption) ?_
       try simp only[Act.put,aAw,aAZ,aBw]
       refine lS 6 28 (by assumption) ?_
       try simp only[Act.put,aAw,aAZ,aBw]
       refine lS 7 29 (by assumption) ?_
       try simp only[Act.put,aAw,aAZ,aBw]
       refine lS 8 30 (by assumption) ?_
       try simp only[Act.put,aAw,aAZ,aBw]
       refine lS 9 31 (by assumption) ?_
       try simp only[Act.put,aAw,aAZ,aBw]
       refine lS 10 32 (by assumption) ?_
       try simp only[Act.put,aAw,aAZ,aBw]
       refine lS 11 33 (by assumption) ?_
       try simp only[Act.put,aAw,aAZ,aBw]
       refine lS 12 34 (by assumption) ?_
       try simp only[Act.put,aAw,aAZ,aBw]
       refine lS 13 35 (by assumption) ?_
       try simp only[Act.put,aAw,aAZ,aBw]
       refine lS 14 36 (by assumption) ?_
       try simp only[Act.put,aAw,aAZ,aBw]
       refine lS 15 37 (by assumption) ?_
       try simp only[Act.put,aAw,aAZ,aBw]
       refine lS 16 38 (by assumption) ?_
       try simp only[Act.put,aAw,aAZ,aBw]
       refine lS 17 39 (by assumption) ?_
       try simp only[Act.put,aAw,aAZ,aBw]
       refine lS 18 40 (by assumption) ?_
       try simp only[Act.put,aAw,aAZ,aBw]
       refine lS 19 41 (by assumption) ?_
       try simp only[Act.put,aAw,aAZ,aBw]
       refine lS 20 42 (by assumption) ?_
       try simp only[Act.put,aAw,aAZ,aBw]
       refine lS 21 43 (by assumption) ?_
       try simp only[Act.put,aAw,aAZ,aBw]
       refine lS 22 44 (by assumption) ?_
       try simp only[Act.put,aAw,aAZ,aBw]
       refine lS 23 45 (by assumption) ?_
       try simp only[Act.put,aAw,aAZ,aBw]
       refine lS 24 46 (by assumption) ?_
       try simp only[Act.put,aAw,aAZ,aBw]
       refine lS 25 47 (by assumption) ?_
       try simp only[Act.put,aAw,aAZ,aBw]
       refine lS 26 48 (by assumption) ?_
       try simp only[Act.put,aAw,aAZ,aBw]
       refine lS 27 49 (by assumption) ?_
       try simp only[Act.put,aAw,aAZ,aBw]
       refine nC 28 50 _ (by assumption) ?_
       try simp only[Act.put,aAw,aAZ,aBw]
       refine aXf (by kernel_rfl) ?_ _
       go_wp2_with fail
       go_meet
       exact⟨rfl,HB1.out.drew⟩
     obtain⟨k,hk1⟩: ∃k,i=k+1:=⟨i - 1,by omega⟩;have hk:wrap64 ((i:Int) - 1)=(k:Int):=by unfold wrap64;omega
     have hk2:IntKind.i64.wrap ((i:Int) - 1)=(k:Int):=by rw[aHA];omega
     have hkn:k<n:=by omega
     have hi0:0<i:=by omega
     have aYj:(0:Int)<=(k:Int):=by omega
     have hkn2:(k:Int)<(n:Int):=by omega
     have hin1:(0:Int)<=(i:Int):=by omega
     have hin2:(i:Int)<(n:Int):=by omega
     obtain⟨pa,pl,pb,ph,hp⟩: ∃pa pl pb ph,f k=⟨pa,pl,pb,ph⟩:=⟨_,_,_,_,rfl⟩;obtain⟨g',o',e',hg',d0,d1,d2,d3⟩:=(HS.out.later (bt HB.out HB1.out)) k hkn
     cases e'
     obtain⟨g',o',e',_,s0,s1,s2,s3⟩:=(HS.out.later (bt HB.out HB1.out)) i hlt
     cases e'
     rw[HF.out]at s0 s1 s2 s3;dsimp only at s0 s1 s2 s3;have HBK:=HBD.out k;rw[hp]at d0 d1 d2 d3 HBK;dsimp only at d0 d1 d2 d3;have h0:=HBK.h0;have h1:=HBK.h1;have h2:=HBK.h2;have h3:=HBK.h3;dsimp only at h0 h1 h2 h3;have hst:sb=badR pa pl pb ph ca cl cb ch:=by
      rw[I4.out];unfold YP;rw[show i - 1=k by omega,hp,HF.out,aBz (show 0<i by omega),aQN]
     unfold badR at hst;have CC:=fun w=>F8 pb ph ca cl w;have CT:=fun w=>aCf pa pl pb ph ca cl cb ch w h2 h3 HCB.out.2.2.1 HCB.out.2.2.2;unfold r4 at CT;unfold ev at CC;generalize bW pb ph ca cl=x at *;generalize J9 pa pl pb ph ca cl cb ch=y at *;replace CC:=rG CC;replace CT:=rG CT;have hM:Mt g o k i pa pl pb ph ca cl cb ch wO w1:=⟨hg',⟨d0,d1,d2,d3⟩,⟨s0,s1,s2,s3⟩,HB1.out⟩;have hE:=rG (hM.later (aAI _ _).drew);clear hz I4 HAT HBK h0 h1 h2 h3 hM hk1 HB1
     by_cases hx:0<=x
     . rw[aBz hx,aXS]at hst;subst hst;clear CT;have HW:=rG hE.out;clear hE
       go_wp2_with fail
       refine aVp (S:=fun w'=>w'.cell? ⟨g,o+k * 4,none⟩=some (.int .i8 pa)/\w'.cell? ⟨g,o+k * 4+1,none⟩=some (.int .i64 pl)/\w'.cell? ⟨g,o+k * 4+2,none⟩=some (.int .i8 pb)/\w'.cell? ⟨g,o+k * 4+3,none⟩=some (.int .i64 ph)/\w'.cell? ⟨g,o+i * 4,none⟩=some (.int .i8 ca)/\w'.cell? ⟨g,o+i * 4+1,none⟩=some (.int .i64 cl)/\w'.cell? ⟨g,o+i * 4+2,none⟩=some (.int .i8 cb)/\w'.cell? ⟨g,o+i * 4+3,none⟩=some (.int .i64 ch)/\Mt g o k i pa pl pb ph ca cl cb ch wO w') (by kernel_rfl) (HW.out.S) (fun hHeld=>?_);refine nC 0 22 _ (by assumption) ?_
       try simp only[Act.put,aAw,aAZ,aBw]
       refine nC 1 23 _ (by assumption) ?_
       try simp only[Act.put,aAw,aAZ,aBw]
       refine nC 2 24 _ (by assumption) ?_
       try simp only[Act.put,aAw,aAZ,aBw]
       refine nC 3 25 _ (by assumption) ?_
       try simp only[Act.put,aAw,aAZ,aBw]
       refine nC 4 26 _ (by assumption) ?_
       try simp only[Act.put,aAw,aAZ,aBw]
       refine nC 5 27 _ (by assumption) ?_
       try simp only[Act.put,aAw,aAZ,aBw]
       refine nC 6 28 _ (by assumption) ?_
       try simp only[Act.put,aAw,aAZ,aBw]
       refine nC 7 29 _ (by assumption) ?_
       try simp only[Act.put,aAw,aAZ,aBw]
       refine nC 8 30 _ (by assumption) ?_
       try simp only[Act.put,aAw,aAZ,aBw]
       refine nC 9 31 _ (by assumption) ?_
       try simp only[Act.put,aAw,aAZ,aBw]
       refine nC 10 32 _ (by assumption) ?_
       try simp only[Act.put,aAw,aAZ,aBw]
       refine nC 11 33 _ (by assumption) ?_
       try simp only[Act.put,aAw,aAZ,aBw]
       refine nC 12 34 _ (by assumption) ?_
       try simp only[Act.put,aAw,aAZ,aBw]
       refine nC 13 35 _ (by assumption) ?_
       try simp only[Act.put,aAw,aAZ,aBw]
       refine aW4 (rs:=[14]) (by kernel_rfl) (by simp) ?_;refine aWE rfl (fun K hK=>?_) aWN;simp only[aVa,aTB,aTA]
       go_simp
       go_at_call 69
       refine(CC.out _).mono ?_;rintro _ w6 ⟨rfl,hb2⟩;replace HW:=rG (HW.out.later hb2);clear hb2;refine hK.out _ _ (HW.out.S) (fun hHeld=>?_);clear hK K
       try simp only[Act.put,aAw,aAZ,aBw]
       refine nC 15 37 _ (by assumption) ?_
       try simp only[Act.put,aAw,aAZ,aBw]
       refine nC 16 38 _ (by assumption) ?_
       try simp only[Act.put,aAw,aAZ,aBw]
       refine lS 17 39 (by assumption) ?_
       try simp only[Act.put,aAw,aAZ,aBw]
       refine lS 18 40 (by assumption) ?_
       try simp only[Act.put,aAw,aAZ,aBw]
       refine lS 19 41 (by assumption) ?_
       try simp only[Act.put,aAw,aAZ,aBw]
       refine lS 20 42 (by assumption) ?_
       try simp only[Act.put,aAw,aAZ,aBw]
       refine lS 21 43 (by assumption) ?_
       try simp only[Act.put,aAw,aAZ,aBw]
       refine lS 22 44 (by assumption) ?_
       try simp only[Act.put,aAw,aAZ,aBw]
       refine lS 23 45 (by assumption) ?_
       try simp only[Act.put,aAw,aAZ,aBw]
       refine lS 24 46 (by assumption) ?_
       try simp only[Act.put,aAw,aAZ,aBw]
       refine lS 25 47 (by assumption) ?_
       try simp only[Act.put,aAw,aAZ,aBw]
       refine lS 26 48 (by assumption) ?_
       try simp only[Act.put,aAw,aAZ,aBw]
       refine nC 27 49 _ (by assumption) ?_
       try simp only[Act.put,aAw,aAZ,aBw]
       refine nC 28 50 _ (by assumption) ?_
       try simp only[Act.put,aAw,aAZ,aBw]
       refine aXf (by kernel_rfl) ?_ _
       go_wp2_with fail
       go_meet
       exact⟨rfl,HW.out.b⟩
     rw[aBy hx,aXA]at hst;subst hst;have hx3:decide (0<=x)=false:=aBy hx;have hx4:x<0:=by omega
     clear hx
     go_wp2_with fail
     go_region_held3 (fun w'=>w'.cell? ⟨g,o+k * 4,none⟩=some (.int .i8 pa)/\w'.cell? ⟨g,o+k * 4+1,none⟩=some (.int .i64 pl)/\w'.cell? ⟨g,o+k * 4+2,none⟩=some (.int .i8 pb)/\w'.cell? ⟨g,o+k * 4+3,none⟩=some (.int .i64 ph)/\w'.cell? ⟨g,o+i * 4,none⟩=some (.int .i8 ca)/\w'.cell? ⟨g,o+i * 4+1,none⟩=some (.int .i64 cl)/\w'.cell? ⟨g,o+i * 4+2,none⟩=some (.int .i8 cb)/\w'.cell? ⟨g,o+i * 4+3,none⟩=some (.int .i64 ch)/\Mt g o k i pa pl pb ph ca cl cb ch wO w') (first|exact hE.out.S|(have hk:= ‹_/\_/\_/\_/\_/\_/\_/\_/\Mt _ _ _ _ _ _ _ _ _ _ _ _ _ _›;exact(hk.2.2.2.2.2.2.2.2.later (aAI _ _).drew).S)|(have hk:= ‹_/\_/\_/\_/\_/\_/\_/\_/\Mt _ _ _ _ _ _ _ _ _ _ _ _ _ _›;exact(hk.2.2.2.2.2.2.2.2.later hb2).S)|exact(hE.out.later hb2).S|assumption) ((first|(go_at_call 69;refine(CC.out _).mono ?_;rintro _ w6 ⟨rfl,hb2⟩)|(go_at_call 70;refine(CT.out _).mono ?_;rintro _ w7 ⟨rfl,hb2⟩)))
     rename_i hk
     go_wp2_with fail
     go_meet
     exact⟨by simp,hk.2.2.2.2.2.2.2.2.b⟩
    case rest=>
     obtain⟨rfl,hBx⟩:=hcut
     cases sb
     . have ha0:atR f i=0:=by rw[HAT.out];rfl
       have hsc:scan (atR f) (n - (i+1)) (i+1)=E:=by
        rw[<-HSC.out,show n - i=(n - (i+1))+1 by omega,scan_ok ha0]
       have aTg:=rG hsc;have aL9:Hid (∀j,j<i+1->atR f j=0):=rG (fun j hj=>by
        by_cases hj2:j=i
        . rw[hj2];exact ha0
        exact aBu.out j (by omega))
       clear hsc ha0 HSC aBu HAT I4
       go_wp2_with fail
       go_roundw
       case rel=>exact⟨i+1,rfl,by go_num,by omega,aL9.out,aTg.out,bt HB.out hBx⟩
       case measure=>simp[intOf];omega
     have ha0:atR f i=12:=by rw[HAT.out];rfl
     have hans:E=12:=by
      rw[<-HSC.out,show n - i=(n - (i+1))+1 by omega,scan_bad (by rw[ha0];decide),ha0]
     have O7:=rG hans;clear hans ha0 HSC aBu HAT I4
     go_wp2_with fail
     go_ret
     exact⟨by rw[O7.out];rfl,bt HB.out hBx⟩
  have hin:i=n:=by omega
  subst hin;have hans:E=0:=by rw[<-HSC.out,Nat.sub_self];rfl
  have O7:=rG hans;clear hans HS
  go_wp2_with fail
  go_ret
  exact⟨by rw[O7.out];rfl,HB.out⟩
end Sk
end
section
open Go.RowKit Go.Lib
namespace Sk
open Un (ba bt ri rb)
open Bk (Rw Dt aV hasB aX)
def xX(d:Dt):Bool:=hasB 88 (d.dg++d.mo++d.da)
theorem aAR(d:Dt)(w:World)(hs:d.mo.size<=1000)(hy:d.dg.size<=1000)(ha:d.da.size<=1000):
 Calls Tryz.prog 52 #[aV d] w fun r w'=>r=.returned (.bool (xX d))/\Below w.heap.size w w':=by
 have hD:=Bk.Dm.new d w 37;have HC: ∀W,Calls Tryz.prog 84 #[.string (d.dg++d.mo++d.da),.string ⟨#[88]⟩] W fun e w'=>e=.returned (.bool (hasB 88 (d.dg++d.mo++d.da)))/\w'=W:=by
  intro W;have:=Tryz.strings_Contains_one (d.dg++d.mo++d.da) 88 W;rw[Bk.oC]at this;exact this
 unfold xX aV;generalize hasB 88 (d.dg++d.mo++d.da)=b at *;have e1:(d.dg++d.mo).size=d.dg.size+d.mo.size:=by simp
 have e2:(d.dg++d.mo++d.da).size=d.dg.size+d.mo.size+d.da.size:=by simp
 replace HC:=rG HC
 go_enter Tryz.func52,Tryz.ntmps52
 go_upto_region 1 with(fail)
 generalize World.alloc _ _=W0 at hD ⊢;obtain⟨q0,q1,q2,q3,q4,q5,q6,q7,q8,q9,qB⟩:=id hD
 go_wp2_with (go_at_call 84;with_reducible refine(HC.out _).mono ?_;rintro _ w' ⟨rfl,rfl⟩)
 go_ret
 exact⟨rfl,hD.below⟩
theorem aIn(d:Dt)(w:World)(hs:d.mo.size<=1000)(hy:d.dg.size<=1000)(ha:d.da.size<=1000):
 Calls Tryz.prog 17 #[aV d] w fun r w'=>r=.returned (.int .i64 (if xX d then 1 else 0))/\Below w.heap.size w w':=by
 have hR:Rw w.heap.size (Bk.bK d) w _:=Rw.fresh (aAI _ _) _ 37;have HM:=fun w=>Bk.U9 { d with sig:=0 } w hs hy ha;rw[show Dt.msk { d with sig:=0 }=xX d by unfold Dt.msk xX;simp]at HM;unfold aV at HM;dsimp only at HM;generalize (if xX d then(1:Int)else 0)=R at *;replace HM:=rG HM;unfold aV;unfold Bk.bK at hR;have q0:=hR.cell 0 _ rfl;have q1:=hR.cell 1 _ rfl;have q2:=hR.cell 2 _ rfl;have q3:=hR.cell 3 _ rfl;have q4:=hR.cell 4 _ rfl;have q5:=hR.cell 5 _ rfl;have q6:=hR.cell 6 _ rfl;have q7:=hR.cell 7 _ rfl;have q8:=hR.cell 8 _ rfl;have q9:=hR.cell 9 _ rfl
 go_enter Tryz.func17,Tryz.ntmps17
 go_wp2_with (go_at_call 38;refine(HM.out _).mono ?_;rintro _ w' ⟨rfl,hb⟩)
 go_ret
 exact⟨rfl,bt (ba (aAI _ _) _) hb⟩
theorem aKa: ∃i,Tryz.prog.info? 5=some i:=⟨_,rfl⟩
theorem SQ(k n:Nat)(hk:k=n+1+1)(m0 m1 m2:Int): ∃r:Bool,∀w,(Op.equalIn k 26 (.agg #[.int .u8 m0,.int .u8 m1,.int .u8 m2]) (.agg #[.int .u8 0,.int .u8 0,.int .u8 0])).run Tryz.prog w=.ok r w:=by
 subst hk;obtain⟨i,hi⟩:=aKa;have hc:Tryz.prog.cellsOf 5=1:=by kernel_rfl
 by_cases h0:m0=0<;>by_cases h1:m1=0<;>by_cases h2:m2=0
 all_goals
  refine⟨?_,fun w=>?_⟩
  rotate_left
  . rw[run_equalIn_array w (n+1) _ _ Tryz.underlying26 hi];simp[Op.eqItems,go_sem,hc, *]
    try rfl
theorem aKX(d:Dt): ∃Z:Bool,(∀w,(binOp .eql 37 (aV d) (aV z0)).run Tryz.prog w=.ok (.bool Z) w)/\(∀w,(binOp .neq 37 (aV d) (aV z0)).run Tryz.prog w=.ok (.bool (!Z)) w):=by
 obtain⟨r,hr⟩:=SQ 9999 9997 rfl d.m0 d.m1 d.m2;unfold aV z0
 by_cases h:d.neg=false/\d.long=false/\d.dg.toList=[]/\d.ex=0/\d.sig=0/\d.mo.toList=[]/\d.da.toList=[]
 . obtain⟨h1,h2,h3,h4,h5,h6,h7⟩:=h;refine⟨r,fun w=>?_,fun w=>?_⟩
   . go_simp;cases r<;>rfl
   go_simp;cases r<;>rfl
 refine⟨false,fun w=>?_,fun w=>?_⟩
 . go_simp
   exact fun h1 h2 h3 h4 h5 h6 h7=>absurd ⟨h1,h2,h3,h4,h5,h6,h7⟩ h
 go_simp
 exact fun h1 h2 h3 h4 h5 h6 h7=>absurd ⟨h1,h2,h3,h4,h5,h6,h7⟩ h
theorem aGj(m0 m1 m2:Int): ∃Z:Bool,(∀w,(binOp .eql 26 (.agg #[.int .u8 m0,.int .u8 m1,.int .u8 m2]) (.agg #[.int .u8 0,.int .u8 0,.int .u8 0])).run Tryz.prog w=.ok (.bool Z) w)/\(∀w,(binOp .neq 26 (.agg #[.int .u8 m0,.int .u8 m1,.int .u8 m2]) (.agg #[.int .u8 0,.int .u8 0,.int .u8 0])).run Tryz.prog w=.ok (.bool (!Z)) w):=by
 obtain⟨r,hr⟩:=SQ 10000 9998 rfl m0 m1 m2;refine⟨r,fun w=>?_,fun w=>?_⟩
 . go_simp
 go_simp
theorem aM0(a lo b hi:Int): ∃Z:Bool,(∀w,(binOp .eql 42 (r4 a lo b hi) (r4 0 0 0 0)).run Tryz.prog w=.ok (.bool Z) w)/\(∀w,(binOp .neq 42 (r4 a lo b hi) (r4 0 0 0 0)).run Tryz.prog w=.ok (.bool (!Z)) w):=by
 unfold r4;refine⟨decide (a=0/\lo=0/\b=0/\hi=0),fun w=>?_,fun w=>?_⟩
 . go_simp
   (repeat' split)<;>simp_all
 go_simp
 (repeat' split)<;>simp_all
def qR(k:Int)(n0 zd p0 zr:Bool):Bool:=if k=1 then zd&&p0&&zr else if k=2 then n0&&p0&&zr else if k=3 then n0&&zd else n0&&zd&&p0
end Sk
end
section
open Go.RowKit Go.Lib
namespace Sk
open Un (ba bt ri rb aI)
open Bk (Rw Dt aV hasB aX lD)
theorem aEq{d:Dt}(h:d.err≠0):0<d.err:=by
 by_cases c:d.form=0
 . unfold Dt.err at h ⊢;rw[aBx (by omega)]at h ⊢
   split at h
   . rw[aDk (by assumption)];omega
   exact absurd rfl h
 rw[Bk.wW c]at h ⊢;unfold Dt.form at h ⊢;have:=Bk.aAn d.m0 d.m1 d.m2 (Bk.comps d.mo d.da)
 (repeat' split at h)<;>(repeat' split)<;>simp_all<;>omega
theorem aQZ{d:Dt}(h:d.err=0):0<=d.sig:=by
 have hk:=(Bk.Dt.fC (Bk.Dt.iO (Bk.aAT h)).1).1;unfold Bk.Dt.JW at hk;rcases aTa d.long with hl|hl
 . rw[hl]at hk;exact(Bk.jI hk).2.2.2.2.2.2.2.1
 rw[hl]at hk;exact(Bk.iD hk).2.2.2.2.2.1
def wV(p a lo b hi:Int):Bool:= !(decide (a≠0)&&decide (b≠0))&&decide (dK a lo b hi=0)&&(decide (a≠0)||(decide ((aI p lo).2.2=0)&&decide ((aI p lo).1=lo)))&&(decide (b≠0)||(decide ((aI p hi).2.2=0)&&decide ((aI p hi).2.1=hi)))
theorem aEm{p a lo b hi r x y e x' y' e':Int}(hr:r=dK a lo b hi)(h1:aI p lo=(x,y,e))(h2:aI p hi=(x',y',e')):
 wV p a lo b hi=(!(decide (a≠0)&&decide (b≠0))&&decide (r=0)&&(decide (a≠0)||(decide (e=0)&&decide (x=lo)))&&(decide (b≠0)||(decide (e'=0)&&decide (y'=hi)))):=by
 unfold wV;rw[h1,h2,<-hr]
end Sk
end
end Go.Proofs.YtacggmlngekidaaGreatDoor
