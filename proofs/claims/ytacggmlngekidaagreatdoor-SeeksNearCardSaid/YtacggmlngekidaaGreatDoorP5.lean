import Derived.Test.YtacggmlngekidaaGreatDoorP2
import Derived.Test.YtacggmlngekidaaGreatDoorP3
import Derived.Test.YtacggmlngekidaaGreatDoorP4
import Derived.Deep.MidRow
import Derived.WalkMore
import Derived.Deep.LoopGhost
import Derived.Deep.CutBlock
import Derived.Deep.DeepCutAuto
import Derived.Deep.Upon
import Derived.OwnWalk
import Derived.Deep.RegionHeld3
set_option linter.unusedVariables false
set_option linter.unusedSimpArgs false
set_option maxRecDepth 1000000
set_option maxHeartbeats 8000000
set_option linter.unusedSectionVars false
namespace Go.Proofs.YtacggmlngekidaaGreatDoor
abbrev aTy:=@cond_false
abbrev aWg:=@ByteArray.size_extract
abbrev aWu:=@bne_eq_false_iff_eq
abbrev aWx:=@List.flatMap_append
abbrev aXK:=@Bool.not_eq_true'
abbrev aXM:=@Nat.zero_mul
abbrev aXY:=@List.eq_nil_of_length_eq_zero
abbrev aYm:=@Array.getElem?_eq_some_iff
abbrev aYz:=@List.cons.inj
abbrev aZh:=@ByteArray.data_append
section
open Go.RowKit Go.Lib
namespace Sk
open Ev (bM DT LG eU aO hp vG kG iU mJ qF PD GL oN aU AV DW vH dS aB aC eF mD)
open Bk (Dt aV cvv)
def yd0:AV:=aU 8 .i64 [(oN 1)]
def yd1:AV:=rK (qe 13) (qi 14) (qe 15) (qi 16)
def aDv:DT:=(.node 0 yd0 qz (.node 3 (qb 17) (qb 17) (.node 0 (qu 12) (.v (.int .u8 0)) (.node 3 (qb 18) (qb 18) (.node 0 (qu 0) (.v (.int .u8 1)) (.leaf qt) (.node 0 (qu 0) (.v (.int .u8 2)) (.leaf qt) (.node 0 (qu 0) (.v (.int .u8 3)) (.leaf qt) (.leaf qt)))) (.node 0 (qu 0) (.v (.int .u8 1)) (.leaf qf) (.node 0 (qu 0) (.v (.int .u8 2)) (.leaf qf) (.node 0 (qu 0) (.v (.int .u8 3)) (.leaf qt) (.leaf qt))))) (.node 3 (qb 18) (qb 18) (.node 0 (qu 0) (.v (.int .u8 1)) (.leaf qf) (.node 0 (qu 0) (.v (.int .u8 2)) (.leaf qf) (.node 0 (qu 0) (.v (.int .u8 3)) (.leaf qt) (.leaf qf)))) (.node 0 (qu 0) (.v (.int .u8 1)) (.leaf qf) (.node 0 (qu 0) (.v (.int .u8 2)) (.leaf qf) (.node 0 (qu 0) (.v (.int .u8 3)) (.leaf qt) (.leaf qf)))))) (.node 0 (qu 12) (.v (.int .u8 0)) (.node 3 (qb 18) (qb 18) (.node 0 (qu 0) (.v (.int .u8 1)) (.leaf qf) (.node 0 (qu 0) (.v (.int .u8 2)) (.leaf qt) (.node 0 (qu 0) (.v (.int .u8 3)) (.leaf qf) (.leaf qf)))) (.node 0 (qu 0) (.v (.int .u8 1)) (.leaf qf) (.node 0 (qu 0) (.v (.int .u8 2)) (.leaf qf) (.node 0 (qu 0) (.v (.int .u8 3)) (.leaf qf) (.leaf qf))))) (.node 3 (qb 18) (qb 18) (.node 0 (qu 0) (.v (.int .u8 1)) (.leaf qf) (.node 0 (qu 0) (.v (.int .u8 2)) (.leaf qf) (.node 0 (qu 0) (.v (.int .u8 3)) (.leaf qf) (.leaf qf)))) (.node 0 (qu 0) (.v (.int .u8 1)) (.leaf qf) (.node 0 (qu 0) (.v (.int .u8 2)) (.leaf qf) (.node 0 (qu 0) (.v (.int .u8 3)) (.leaf qf) (.leaf qf))))))) (.node 3 (qb 17) (qb 17) (.node 0 (qu 12) (.v (.int .u8 0)) (.node 3 (qb 18) (qb 18) (.node 0 (qu 0) (.v (.int .u8 1)) (.leaf qt) (.node 0 (qu 0) (.v (.int .u8 2)) (.leaf qf) (.node 0 (qu 0) (.v (.int .u8 3)) (.leaf qf) (.leaf qf)))) (.node 0 (qu 0) (.v (.int .u8 1)) (.leaf qf) (.node 0 (qu 0) (.v (.int .u8 2)) (.leaf qf) (.node 0 (qu 0) (.v (.int .u8 3)) (.leaf qf) (.leaf qf))))) (.node 3 (qb 18) (qb 18) (.node 0 (qu 0) (.v (.int .u8 1)) (.leaf qf) (.node 0 (qu 0) (.v (.int .u8 2)) (.leaf qf) (.node 0 (qu 0) (.v (.int .u8 3)) (.leaf qf) (.leaf qf)))) (.node 0 (qu 0) (.v (.int .u8 1)) (.leaf qf) (.node 0 (qu 0) (.v (.int .u8 2)) (.leaf qf) (.node 0 (qu 0) (.v (.int .u8 3)) (.leaf qf) (.leaf qf)))))) (.node 0 (qu 12) (.v (.int .u8 0)) (.node 3 (qb 18) (qb 18) (.node 0 (qu 0) (.v (.int .u8 1)) (.leaf qf) (.node 0 (qu 0) (.v (.int .u8 2)) (.leaf qf) (.node 0 (qu 0) (.v (.int .u8 3)) (.leaf qf) (.leaf qf)))) (.node 0 (qu 0) (.v (.int .u8 1)) (.leaf qf) (.node 0 (qu 0) (.v (.int .u8 2)) (.leaf qf) (.node 0 (qu 0) (.v (.int .u8 3)) (.leaf qf) (.leaf qf))))) (.node 3 (qb 18) (qb 18) (.node 0 (qu 0) (.v (.int .u8 1)) (.leaf qf) (.node 0 (qu 0) (.v (.int .u8 2)) (.leaf qf) (.node 0 (qu 0) (.v (.int .u8 3)) (.leaf qf) (.leaf qf)))) (.node 0 (qu 0) (.v (.int .u8 1)) (.leaf qf) (.node 0 (qu 0) (.v (.int .u8 2)) (.leaf qf) (.node 0 (qu 0) (.v (.int .u8 3)) (.leaf qf) (.leaf qf))))))))
theorem Z8(l:Value):aDv.ok eU l [(37,xA,.agg [qf,qf,.v (.string ⟨#[]⟩),qz,qz,.v (.string ⟨#[]⟩),.v (.string ⟨#[]⟩),.v (.int .u8 0),.v (.int .u8 0),.v (.int .u8 0)],(qb 17)),(42,yd1,(rK q8 qz q8 qz),(qb 18))] [] hp 60 LG 48 [bU (qu 0)] []=true:=by kernel_rfl
theorem aHZ(k:Int)(bs:Option Addr)(n cp:Nat)(d:Dt)(p a lo b hi:Int)(zd zr:Bool){w0:World}(hst:SS w0)(hd:X3 37 (aV d) (aV z0) zd)(hr:X3 42 (r4 a lo b hi) (r4 0 0 0 0) zr):Same w0 48 #[(fam k (.slice bs n cp) d p a lo b hi)] (cond (((n:Nat):Int)==0) (cond zd (cond (p==0) (cond zr (cond (k==1) (.bool true) (cond (k==2) (.bool true) (cond (k==3) (.bool true) (.bool true)))) (cond (k==1) (.bool false) (cond (k==2) (.bool false) (cond (k==3) (.bool true) (.bool true))))) (cond zr (cond (k==1) (.bool false) (cond (k==2) (.bool false) (cond (k==3) (.bool true) (.bool false)))) (cond (k==1) (.bool false) (cond (k==2) (.bool false) (cond (k==3) (.bool true) (.bool false)))))) (cond (p==0) (cond zr (cond (k==1) (.bool false) (cond (k==2) (.bool true) (cond (k==3) (.bool false) (.bool false)))) (cond (k==1) (.bool false) (cond (k==2) (.bool false) (cond (k==3) (.bool false) (.bool false))))) (cond zr (cond (k==1) (.bool false) (cond (k==2) (.bool false) (cond (k==3) (.bool false) (.bool false)))) (cond (k==1) (.bool false) (cond (k==2) (.bool false) (cond (k==3) (.bool false) (.bool false))))))) (cond zd (cond (p==0) (cond zr (cond (k==1) (.bool true) (cond (k==2) (.bool false) (cond (k==3) (.bool false) (.bool false)))) (cond (k==1) (.bool false) (cond (k==2) (.bool false) (cond (k==3) (.bool false) (.bool false))))) (cond zr (cond (k==1) (.bool false) (cond (k==2) (.bool false) (cond (k==3) (.bool false) (.bool false)))) (cond (k==1) (.bool false) (cond (k==2) (.bool false) (cond (k==3) (.bool false) (.bool false)))))) (cond (p==0) (cond zr (cond (k==1) (.bool false) (cond (k==2) (.bool false) (cond (k==3) (.bool false) (.bool false)))) (cond (k==1) (.bool false) (cond (k==2) (.bool false) (cond (k==3) (.bool false) (.bool false))))) (cond zr (cond (k==1) (.bool false) (cond (k==2) (.bool false) (cond (k==3) (.bool false) (.bool false)))) (cond (k==1) (.bool false) (cond (k==2) (.bool false) (cond (k==3) (.bool false) (.bool false)))))))):=
 aB (Z8 (lv (lF k (.slice bs n cp) d p a lo b hi) [.bool zd,.bool zr])) (aO w0) hst (.cons hd (fun _ _ _=>⟨by kernel_rfl,by kernel_rfl⟩) (.cons hr (fun _ _ _=>⟨by kernel_rfl,by kernel_rfl⟩) .nil)) .nil (aC (by kernel_rfl)) (by kernel_rfl)
def aPe:DT:=(.node 1 (qu 0) (.v (.int .u8 1)) (.leaf (.v (.int .i64 18))) (.node 1 (.v (.int .u8 5)) (qu 0) (.leaf (.v (.int .i64 18))) (.node 3 (qb 17) (qb 17) (.node 0 (qi 21) qz (.node 0 (qu 0) (.v (.int .u8 1)) (.node 0 yd0 qz (.leaf (.v (.int .i64 17))) (.leaf (qi 18))) (.node 0 (qu 0) (.v (.int .u8 2)) (.node 0 (qi 19) qz (.node 0 (qi 6) qz (.node 3 (qb 20) (qb 20) (.node 3 (qb 23) (qb 23) (.leaf qz) (.leaf (.v (.int .i64 1)))) (.leaf (.v (.int .i64 1)))) (.leaf (.v (.int .i64 1)))) (.leaf (qi 19))) (.node 0 (qu 0) (.v (.int .u8 3)) (.node 1 (qu 12) (.v (.int .u8 1)) (.leaf (.v (.int .i64 18))) (.node 1 (.v (.int .u8 3)) (qu 12) (.leaf (.v (.int .i64 18))) (.node 3 (qb 22) (qb 22) (.leaf qz) (.leaf (.v (.int .i64 1)))))) (.node 0 (qu 0) (.v (.int .u8 4)) (.node 0 (qe 13) (.v (.int .i8 (-1))) (.node 0 (qe 15) q8 (.leaf qz) (.leaf (.v (.int .i64 1)))) (.leaf (.v (.int .i64 1)))) (.node 0 (qu 0) (.v (.int .u8 5)) (.node 0 (qe 13) q8 (.node 0 (qe 15) (.v (.int .i8 1)) (.leaf qz) (.leaf (.v (.int .i64 1)))) (.leaf (.v (.int .i64 1)))) DT.no))))) (.node 0 (qu 0) (.v (.int .u8 1)) (.node 0 yd0 qz (.leaf (.v (.int .i64 17))) (.leaf (qi 18))) (.node 0 (qu 0) (.v (.int .u8 2)) (.node 0 (qi 19) qz (.node 0 (qi 6) qz (.node 3 (qb 20) (qb 20) (.node 3 (qb 23) (qb 23) (.leaf qz) (.leaf (.v (.int .i64 1)))) (.leaf (.v (.int .i64 1)))) (.leaf (.v (.int .i64 1)))) (.leaf (qi 19))) (.node 0 (qu 0) (.v (.int .u8 3)) (.node 1 (qu 12) (.v (.int .u8 1)) (.leaf (.v (.int .i64 18))) (.node 1 (.v (.int .u8 3)) (qu 12) (.leaf (.v (.int .i64 18))) (.node 3 (qb 22) (qb 22) (.leaf qz) (.leaf (.v (.int .i64 1)))))) (.node 0 (qu 0) (.v (.int .u8 4)) (.leaf (.v (.int .i64 1))) (.node 0 (qu 0) (.v (.int .u8 5)) (.leaf (.v (.int .i64 1))) DT.no)))))) (.leaf (.v (.int .i64 5))))))
theorem aJq(l:Value):aPe.ok eU l [(26,.agg [(qu 9),(qu 10),(qu 11)],.agg [.v (.int .u8 0),.v (.int .u8 0),.v (.int .u8 0)],(qb 23))] [(48,[bU (qu 0)],(qb 17)),(50,[(oN 1)],(qi 18)),(51,[xA],(qi 19)),(52,[xA],(qb 20)),(49,[yd1],(qi 21)),(53,[yd1,(qu 12)],(qb 22))] hp 60 LG 22 [bU (qu 0)] []=true:=by kernel_rfl
theorem aVh(k:Int)(bs:Option Addr)(n cp:Nat)(d:Dt)(p a lo b hi:Int)(s er rr:Int)(U X ft zm:Bool){w0:World}(hst:SS w0)(hm:X3 26 (.agg #[.int .u8 d.m0,.int .u8 d.m1,.int .u8 d.m2]) (.agg #[.int .u8 0,.int .u8 0,.int .u8 0]) zm)(H0:Same w0 48 #[(fam k (.slice bs n cp) d p a lo b hi)] (.bool U))(H1:Same w0 50 #[(.slice bs n cp)] (.int .i64 s))(H2:Same w0 51 #[(aV d)] (.int .i64 er))(H3:Same w0 52 #[(aV d)] (.bool X))(H4:Same w0 49 #[(r4 a lo b hi)] (.int .i64 rr))(H5:Same w0 53 #[(r4 a lo b hi),(.int .u8 p)] (.bool ft)):Same w0 22 #[(fam k (.slice bs n cp) d p a lo b hi)] (cond (decide (k<1)) (.int .i64 18) (cond (decide (5<k)) (.int .i64 18) (cond U (cond (rr==0) (cond (k==1) (cond (((n:Nat):Int)==0) (.int .i64 17) (.int .i64 s)) (cond (k==2) (cond (er==0) (cond (d.sig==0) (cond X (cond zm (.int .i64 0) (.int .i64 1)) (.int .i64 1)) (.int .i64 1)) (.int .i64 er)) (cond (k==3) (cond (decide (p<1)) (.int .i64 18) (cond (decide (3<p)) (.int .i64 18) (cond ft (.int .i64 0) (.int .i64 1)))) (cond (k==4) (cond (a==(-1)) (cond (b==0) (.int .i64 0) (.int .i64 1)) (.int .i64 1)) (cond (k==5) (cond (a==0) (cond (b==1) (.int .i64 0) (.int .i64 1)) (.int .i64 1)) (.bool false)))))) (cond (k==1) (cond (((n:Nat):Int)==0) (.int .i64 17) (.int .i64 s)) (cond (k==2) (cond (er==0) (cond (d.sig==0) (cond X (cond zm (.int .i64 0) (.int .i64 1)) (.int .i64 1)) (.int .i64 1)) (.int .i64 er)) (cond (k==3) (cond (decide (p<1)) (.int .i64 18) (cond (decide (3<p)) (.int .i64 18) (cond ft (.int .i64 0) (.int .i64 1)))) (cond (k==4) (.int .i64 1) (cond (k==5) (.int .i64 1) (.bool false))))))) (.int .i64 5)))):=
 aB (aJq (lv (lF k (.slice bs n cp) d p a lo b hi) [.bool U,.int .i64 s,.int .i64 er,.bool X,.int .i64 rr,.bool ft,.bool zm])) (aO w0) hst (.cons hm (fun _ _ _=>⟨by kernel_rfl,by kernel_rfl⟩) .nil) (.cons H0 (.cons H1 (.cons H2 (.cons H3 (.cons H4 (.cons H5 .nil)))))) (eF (by kernel_rfl:_=((((decide (k<1))=true->True)/\((decide (k<1))=false->(((decide (5<k))=true->True)/\((decide (5<k))=false->((U=true->(((rr==0)=true->(((k==1)=true->(((((n:Nat):Int)==0)=true->True)/\((((n:Nat):Int)==0)=false->True)))/\((k==1)=false->(((k==2)=true->(((er==0)=true->(((d.sig==0)=true->((X=true->((zm=true->True)/\(zm=false->True)))/\(X=false->True)))/\((d.sig==0)=false->True)))/\((er==0)=false->True)))/\((k==2)=false->(((k==3)=true->(((decide (p<1))=true->True)/\((decide (p<1))=false->(((decide (3<p))=true->True)/\((decide (3<p))=false->((ft=true->True)/\(ft=false->True)))))))/\((k==3)=false->(((k==4)=true->(((a==(-1))=true->(((b==0)=true->True)/\((b==0)=false->True)))/\((a==(-1))=false->True)))/\((k==4)=false->(((k==5)=true->(((a==0)=true->(((b==1)=true->True)/\((b==1)=false->True)))/\((a==0)=false->True)))/\((k==5)=false->False)))))))))))/\((rr==0)=false->(((k==1)=true->(((((n:Nat):Int)==0)=true->True)/\((((n:Nat):Int)==0)=false->True)))/\((k==1)=false->(((k==2)=true->(((er==0)=true->(((d.sig==0)=true->((X=true->((zm=true->True)/\(zm=false->True)))/\(X=false->True)))/\((d.sig==0)=false->True)))/\((er==0)=false->True)))/\((k==2)=false->(((k==3)=true->(((decide (p<1))=true->True)/\((decide (p<1))=false->(((decide (3<p))=true->True)/\((decide (3<p))=false->((ft=true->True)/\(ft=false->True)))))))/\((k==3)=false->(((k==4)=true->True)/\((k==4)=false->(((k==5)=true->True)/\((k==5)=false->False)))))))))))))/\(U=false->True)))))))) (⟨fun h0=>trivial,fun h0=>⟨fun h1=>trivial,fun h1=>⟨fun h2=>⟨fun h3=>⟨fun h4=>⟨fun h5=>trivial,fun h5=>trivial⟩,fun h4=>⟨fun h5=>⟨fun h6=>⟨fun h7=>⟨fun h8=>⟨fun h9=>trivial,fun h9=>trivial⟩,fun h8=>trivial⟩,fun h7=>trivial⟩,fun h6=>trivial⟩,fun h5=>⟨fun h6=>⟨fun h7=>trivial,fun h7=>⟨fun h8=>trivial,fun h8=>⟨fun h9=>trivial,fun h9=>trivial⟩⟩⟩,fun h6=>⟨fun h7=>⟨fun h8=>⟨fun h9=>trivial,fun h9=>trivial⟩,fun h8=>trivial⟩,fun h7=>⟨fun h8=>⟨fun h9=>⟨fun h10=>trivial,fun h10=>trivial⟩,fun h9=>trivial⟩,fun h8=>(by simp only[aGw,aBA,aDE,aDG]at *;omega)⟩⟩⟩⟩⟩,fun h3=>⟨fun h4=>⟨fun h5=>trivial,fun h5=>trivial⟩,fun h4=>⟨fun h5=>⟨fun h6=>⟨fun h7=>⟨fun h8=>⟨fun h9=>trivial,fun h9=>trivial⟩,fun h8=>trivial⟩,fun h7=>trivial⟩,fun h6=>trivial⟩,fun h5=>⟨fun h6=>⟨fun h7=>trivial,fun h7=>⟨fun h8=>trivial,fun h8=>⟨fun h9=>trivial,fun h9=>trivial⟩⟩⟩,fun h6=>⟨fun h7=>trivial,fun h7=>⟨fun h8=>trivial,fun h8=>(by simp only[aGw,aBA,aDE,aDG]at *;omega)⟩⟩⟩⟩⟩⟩,fun h2=>trivial⟩⟩⟩)) (by kernel_rfl)
def aLU:DT:=(.node 0 (qe 0) q8 (.node 0 (qi 5) qz (.node 0 (qi 8) qz (.node 3 (qb 12) (qb 12) (.node 0 (qe 2) q8 (.node 0 (qi 11) qz (.node 3 (qb 13) (qb 13) (.leaf qt) (.leaf qf)) (.leaf qf)) (.leaf qt)) (.leaf qf)) (.leaf qf)) (.leaf qf)) (.node 0 (qe 2) q8 (.node 0 (qi 5) qz (.node 0 (qi 11) qz (.node 3 (qb 13) (qb 13) (.leaf qt) (.leaf qf)) (.leaf qf)) (.leaf qf)) (.leaf qf)))
theorem aF5(l:Value):aLU.ok eU l [(40,.agg [q8,(qi 6)],.agg [(qe 0),(qi 1)],(qb 12)),(40,.agg [q8,(qi 10)],.agg [(qe 2),(qi 3)],(qb 13))] [(49,[(rK (qe 0) (qi 1) (qe 2) (qi 3))],(qi 5)),(85,[(qi 1),(qu 4)],.aK [rK q8 (qi 6) q8 (qi 7),(qi 8)]),(85,[(qi 3),(qu 4)],.aK [rK q8 (qi 9) q8 (qi 10),(qi 11)])] hp 60 LG 53 [(rK (qe 0) (qi 1) (qe 2) (qi 3)),(qu 4)] []=true:=by kernel_rfl
theorem aSl(a lo b hi p rr x y e x2 y2 e2:Int)(z1 z2:Bool){w0:World}(hst:SS w0)(h1:z1=decide (0=a/\x=lo))(h2:z2=decide (0=b/\y2=hi))(H0:Same w0 49 #[(r4 a lo b hi)] (.int .i64 rr))(H1:Same w0 85 #[(.int .i64 lo),(.int .u8 p)] (.tuple #[(r4 0 x 0 y),(.int .i64 e)]))(H2:Same w0 85 #[(.int .i64 hi),(.int .u8 p)] (.tuple #[(r4 0 x2 0 y2),(.int .i64 e2)])):Same w0 53 #[(r4 a lo b hi),(.int .u8 p)] (cond (a==0) (cond (rr==0) (cond (e==0) (cond z1 (cond (b==0) (cond (e2==0) (cond z2 (.bool true) (.bool false)) (.bool false)) (.bool true)) (.bool false)) (.bool false)) (.bool false)) (cond (b==0) (cond (rr==0) (cond (e2==0) (cond z2 (.bool true) (.bool false)) (.bool false)) (.bool false)) (.bool false))):=
 aB (aF5 (.agg #[.int .i8 a,.int .i64 lo,.int .i8 b,.int .i64 hi,.int .u8 p,.int .i64 rr,.int .i64 x,.int .i64 y,.int .i64 e,.int .i64 x2,.int .i64 y2,.int .i64 e2,.bool z1,.bool z2])) (aO w0) hst (.cons (oD _ _ _ _ _ h1) (fun _ _ _=>⟨by kernel_rfl,by kernel_rfl⟩) (.cons (oD _ _ _ _ _ h2) (fun _ _ _=>⟨by kernel_rfl,by kernel_rfl⟩) .nil)) (.cons H0 (.cons H1 (.cons H2 .nil))) (aC (by kernel_rfl)) (by kernel_rfl)
end Sk
end
section
open Go.RowKit Go.Lib
namespace Sk
open Un (ba bt ri rb aI)
open Bk (Rw Dt aV hasB aX lD)
def zY(k:Int)(n:Nat)(p a b:Int)(U:Bool)(S R ER sig:Int)(X M FT:Bool):Int:=
 if k<1\/5<k then 18 else if U=false then 5 else if k=1 then(if n=0 then 17 else S)else if k=2 then(if ER≠0 then ER else if sig=0/\X=true/\M=true then 0 else 1)
 else if k=3 then(if p<1\/3<p then 18 else if FT=true then 0 else 1)else if k=4 then(if R=0/\a= -1/\b=0 then 0 else 1)else(if R=0/\a=0/\b=1 then 0 else 1)
structure aMc(k:Int)(bs:Option Addr)(n:Nat)(f:Nat->R4)(d:Dt)(p a lo b hi:Int)(w:World):Prop where
 run:qK w bs n f
 bd: ∀j,(f j).Bd
 mo:d.mo.size<=1000
 dg:d.dg.size<=1000
 da:d.da.size<=1000
 s0: -9223372036854775808<=d.sig
 s1:d.sig<9223372036854775808
 m0:0<=d.m0
 m1:0<=d.m1
 m2:0<=d.m2
 p0:0<=p
 p1:p<256
 h0: -9223372036854775808<=lo
 h1:lo<9223372036854775808
 h2: -9223372036854775808<=hi
 h3:hi<9223372036854775808
theorem YE(k:Int)(bs:Option Addr)(n cp:Nat)(d:Dt)(p a lo b hi:Int){zd zr:Bool}{w0:World}(hst:SS w0)(hd:X3 37 (aV d) (aV z0) zd)(hr:X3 42 (r4 a lo b hi) (r4 0 0 0 0) zr):
 Same w0 48 #[fam k (.slice bs n cp) d p a lo b hi] (.bool (qR k (decide (n=0)) zd (p==0) zr)):=by
 refine sV (aHZ k bs n cp d p a lo b hi zd zr hst hd hr) ?_;have e0:(((n:Nat):Int)==0)=decide (n=0):=by rw[aK8];simp
 rw[e0];generalize decide (n=0)=N;generalize (p==0)=P;unfold qR
 by_cases h1:k=1
 . cases N<;>cases zd<;>cases P<;>cases zr<;>simp[h1]
 by_cases h2:k=2
 . cases N<;>cases zd<;>cases P<;>cases zr<;>simp[h2]
 by_cases h3:k=3<;>cases N<;>cases zd<;>cases P<;>cases zr<;>simp[h1,h2,h3,aHF]
theorem aGH(p a lo b hi:Int){w0:World}(hst:SS w0)(hk:lD w0)(p0:0<=p)(p1:p<256)(h0: -9223372036854775808<=lo)(h1:lo<9223372036854775808)(h2: -9223372036854775808<=hi)(h3:hi<9223372036854775808):
 Same w0 53 #[r4 a lo b hi,.int .u8 p] (.bool (wV p a lo b hi)):=by
 obtain⟨x,y,e,hA⟩: ∃x y e,aI p lo=(x,y,e):=⟨_,_,_,rfl⟩;obtain⟨x',y',e',hB⟩: ∃x y e,aI p hi=(x,y,e):=⟨_,_,_,rfl⟩;have CH1:=fun W (hb:Below w0.heap.size w0 W)=>Un.rD lo p W (hk.below hb).cal h0 h1 p0 p1;have CH2:=fun W (hb:Below w0.heap.size w0 W)=>Un.rD hi p W (hk.below hb).cal h2 h3 p0 p1;rw[hA]at CH1;rw[hB]at CH2;refine sV (aSl a lo b hi p (dK a lo b hi) x y e x' y' e' _ _ hst rfl rfl (fun W _=>lY a lo b hi W) CH1 CH2) ?_;rw[aEm rfl hA hB]
 by_cases ha:a=0<;>by_cases hb:b=0<;>by_cases g1:dK a lo b hi=0<;>by_cases g2:e=0<;>by_cases g3:e'=0<;>by_cases g4:x=lo<;>by_cases g5:y'=hi<;>simp[ha,hb,g1,g2,g3,g4,g5,aHF,eq_comm (a:=(0:Int))]
theorem QW(k:Int)(bs:Option Addr)(n cp:Nat)(f:Nat->R4)(d:Dt)(p a lo b hi:Int){zd zr M:Bool}{w0:World}(hst:SS w0)(hw:lD w0)(h:aMc k bs n f d p a lo b hi w0)
 (hd:X3 37 (aV d) (aV z0) zd) (hr:X3 42 (r4 a lo b hi) (r4 0 0 0 0) zr) (hm:X3 26 (.agg #[.int .u8 d.m0,.int .u8 d.m1,.int .u8 d.m2]) (.agg #[.int .u8 0,.int .u8 0,.int .u8 0]) M):
 Same w0 22 #[fam k (.slice bs n cp) d p a lo b hi] (.int .i64 (zY k n p a b (qR k (decide (n=0)) zd (p==0) zr) (kT f n) (dK a lo b hi) d.err d.sig (xX d) M (wV p a lo b hi))):=by
 refine sV (aVh k bs n cp d p a lo b hi (kT f n) d.err (dK a lo b hi) _ (xX d) (wV p a lo b hi) M hst hm (YE k bs n cp d p a lo b hi hst hd hr) (fun W hb=>UZ f bs n cp W h.bd (h.run.later hb)) (fun W hb=>Bk.uN d W (hw.below hb) h.mo h.dg h.m0 h.m1 h.m2)
  (fun W _=>aAR d W h.mo h.dg h.da) (fun W _=>lY a lo b hi W) (aGH p a lo b hi hst hw h.p0 h.p1 h.h0 h.h1 h.h2 h.h3)) ?_
 generalize qR k (decide (n=0)) zd (p==0) zr=U;generalize kT f n=S;generalize dK a lo b hi=R;generalize d.err=ER;generalize xX d=X;generalize wV p a lo b hi=FT;generalize d.sig=sg;have e0:(((n:Nat):Int)==0)=decide (n=0):=by rw[aK8];simp
 rw[e0];unfold zY
 by_cases k1:k<1
 . simp[k1]
 by_cases k2:5<k
 . simp[k1,k2]
 have d1:=aBy k1;have d2:=aBy k2;rw[d1,d2,aBx (by omega)]
 cases U
 . rfl
 have hk5:k=1\/k=2\/k=3\/k=4\/k=5:=by omega
 rcases hk5 with rfl|rfl|rfl|rfl|rfl
 . by_cases hn:n=0<;>by_cases hR:R=0<;>simp[hn,hR,aHF]
 . by_cases hR:R=0<;>by_cases hE:ER=0<;>by_cases hS:sg=0<;>cases X<;>cases M<;>simp[hR,hE,hS,aHF]
 . by_cases hR:R=0<;>by_cases p1:p<1<;>by_cases p3:3<p<;>cases FT<;>simp[hR,p1,p3,aHF]
 . by_cases hR:R=0<;>by_cases ha:a= -1<;>by_cases hb:b=0<;>simp[hR,ha,hb,aHF]
 by_cases hR:R=0<;>by_cases ha:a=0<;>by_cases hb:b=1<;>simp[hR,ha,hb,aHF]
end Sk
end
section
open Go.RowKit Go.Lib
namespace Bk
open Un (ba bt ri rb aS aZ)
theorem aRU{b:Nat->Int}{v:Int}(h0:0<=v):pG b v↔(nd v 4<=0/\ ∀j,j<4->b (3 - j)=88\/b (3 - j)=48+nd v j % 10):=by
 have e4:nd v 4=v / 10000:=rfl;constructor
 . rintro⟨_,h1,f0,f1,f2,f3⟩;refine⟨by omega,fun j hj=>?_⟩;have hf:=MB v h0 h1 j hj;obtain rfl|rfl|rfl|rfl:j=0\/j=1\/j=2\/j=3:=by omega
   . have:=f3;unfold cO at this;rw[<-hf.2.2.2];exact this
   . have:=f2;unfold cO at this;rw[<-hf.2.2.2];exact this
   . have:=f1;unfold cO at this;rw[<-hf.2.2.2];exact this
   have:=f0;unfold cO at this;rw[<-hf.2.2.2];exact this
 rintro⟨h1,hf⟩;have h1:v<=9999:=by omega
 refine MH h0 h1 fun i hi=>?_;have hd:=MB v h0 h1 (3 - i) (by omega);have hj:=hf (3 - i) (by omega);rw[show 3 - (3 - i)=i by omega]at hj hd;unfold cO;rw[hd.2.2.2];exact hj
theorem aDU{d:Dt}(hy:d.dg.size<=1000)(hk:d.JW=true)(hm:d.mask=false): ∀w,Calls Tryz.prog 91 #[.string d.dg,.int .i64 d.ex] w fun r w'=>r=.returned (.tuple #[.int .i64 d.mag,.int .i64 1])/\w=w':=by
 intro w;obtain⟨e,he,hle,hd,hl⟩: ∃e:Nat,d.ex=e/\e<=16/\allB bG d.dg=true/\d.mag<=10000000000000000:=by
  have hk':G8 d.neg d.long d.dg d.ex d.sig=true:=hk
  cases hl:d.long
  . rw[hl]at hk';obtain⟨a1,a2,a3,a4,a5,a6,a7⟩:=iD hk';have hd:=(jV a2).1 hm;refine⟨0,a3,by omega,hd,?_⟩;unfold Dt.mag fJ;rw[a3];have:=oO hd a1;have e:p10 (Int.toNat 0)=1:=rfl;rw[e];omega
  rw[hl]at hk';obtain⟨a1,a2,a3,a4,a5,a6,a7,a8,a9⟩:=jI hk';exact⟨d.ex.toNat,by omega,by omega,a3,a7⟩
 have:=nZ d.dg e w hy (by omega) hd;rw[he];have e2:qC (fJ d.dg e)=(d.mag,1):=by
  unfold qC;rw[show fJ d.dg e=d.mag by unfold Dt.mag;rw[he],aDk hl]
 rw[e2]at this;exact this
theorem MI{d:Dt}(hk:d.JW=true)(hm:d.mask=true):d.dg.size=4/\allB bV d.dg=true/\d.ex=0:=by
 have hk':G8 d.neg d.long d.dg d.ex d.sig=true:=hk
 cases hl:d.long
 . rw[hl]at hk';obtain⟨a1,a2,a3,_⟩:=iD hk';exact⟨a1,a2,a3⟩
 rw[hl]at hk';obtain⟨a1,a2,a3,a4,a5,a6,a7,a8,a9⟩:=jI hk';have:=(jV (qJ a3)).2 a3;have hm:hasB 88 d.dg=true:=hm;rw[this]at hm;cases hm
def aQi(I:Prop)(w:World)(e:Ending)(w':World):Prop:= ∃x:Int,((x=1/\I)\/(x=0/\ ¬I))/\e=.returned (.int .i64 x)/\Below w.heap.size w w'
theorem aDV (d:Dt) (n:Int) (w:World) (hy:d.dg.size<=1000) (hk:d.JW=true) (hs:d.sig<=0) (n0: -9223372036854775808<=n) (n1:n<9223372036854775808):
 Calls Tryz.prog 98 #[yv d.neg d.long d.dg d.ex d.sig,.int .i64 n] w (aQi (d.In n) w):=by
 have hY:=Ym.new d.neg d.long d.dg d.ex d.sig w 35;have hM:=fun w=>vW d.neg d.long d.dg d.ex d.sig w (by unfold maxLen;omega);change ∀w,Calls _ _ _ w fun r w'=>r=.returned (.int .i64 (if d.mask then 1 else 0))/\_ at hM;have hbd:d.In n-> -10000000000000000<=n/\n<=10000000000000000:=fun h=>Dt.jU hk h
 cases hm:d.mask
 . have HG:=rG (aDU hy hk hm);have hI:d.In n↔n=(if d.neg=true then -d.mag else d.mag):=by unfold Dt.In;rw[hm];simp
   have mp:0<=d.mag:=oM _ _;have mp2:d.mag<=10000000000000000:=by
    have hx:d.In (if d.neg=true then -d.mag else d.mag):=by unfold Dt.In;rw[hm];simp
    have:=Dt.jU hk hx
    split at this<;>omega
   rw[hm]at hM;have HM:=rG hM;generalize d.In n=I at *;generalize d.mag=m at *;clear hM hm hk;generalize d.neg=neg at *;generalize d.long=long at *;generalize d.dg=s at *;generalize d.ex=ex at *;generalize d.sig=sig at *;have HI:=rG hI;have HBD:=rG hbd;clear hI hbd;unfold yv
   cases neg
   all_goals
    as_aux_lemma=>
     go_enter Tryz.func98,Tryz.ntmps98
     go_upto_region 1 with(fail)
     generalize World.alloc _ _=W0 at hY ⊢;obtain⟨q0,q1,q2,q3,q4,qB⟩:=id hY
     go_wp2_with (first
      |(go_at_call 122;with_reducible refine(HM.out _).mono ?_;rintro _ w' ⟨rfl,hb⟩;replace hY:=hY.later (by first|exact hb|exact bt (aAI _ _).drew hb|exact bt (aAI _ _).drew.drew hb);clear hb;obtain⟨q0,q1,q2,q3,q4,qB⟩:=id hY)
      |(go_at_call 91;with_reducible refine(HG.out _).mono ?_;rintro _ w' ⟨rfl,rfl⟩))
     rotate_left
     go_quiet (fail)
     go_wp2
     all_goals go_ret
     all_goals
      refine⟨_,?_,rfl,by first|exact hY.below|exact below_drewN hY.below _⟩;have hI:=HI.out;have hbd:=HBD.out
      first
      |exact .inl ⟨rfl,hI.2 (by(try simp only[aGw,aN0,aBA,aDE,aDG,aTj,aDY,aHW,aXa,aV5,aSC,reduceCtorEq]at *);omega)⟩
      |exact .inr ⟨rfl,fun c=>by have h1:=hI.1 c;have h2:=hbd c;(try simp only[aGw,aN0,aBA,aDE,aDG,aTj,aDY,aHW,aXa,aV5,aSC,reduceCtorEq]at *);omega⟩
 obtain ⟨h4,hx,-⟩:=MI hk hm;rw[hm]at hM;have HM:=rG hM;obtain⟨v,hv⟩: ∃v,v=(if d.neg=true then -n else n):=⟨_,rfl⟩;have hI:d.In n↔(pG (aX d.dg) v/\(d.neg=true->v≠0)):=by
  unfold Dt.In;rw[hm,aDk rfl,hv]
  cases d.neg
  . simp
  simp only[aV5];exact⟨fun h=>⟨h.1,fun _=>by omega⟩,fun h=>⟨h.1,by have:=h.2 (by trivial);omega⟩⟩
 have hnd: ∀k,k<4->nd v (k+1)=nd v k / 10:=fun k hk=>by
  obtain rfl|rfl|rfl|rfl:k=0\/k=1\/k=2\/k=3:=by omega
  . rfl
  . show v / 100=v / 10 / 10;omega
  . show v / 1000=v / 100 / 10;omega
  show v / 10000=v / 1000 / 10;omega
 have hn0: ∀k,k<=4->0<=v->v<=10000000000000000->0<=nd v k/\nd v k<=10000000000000000:=fun k hk h0 h1=>by
  obtain rfl|rfl|rfl|rfl|rfl:k=0\/k=1\/k=2\/k=3\/k=4:=by omega
  . exact⟨h0,h1⟩
  . show 0<=v / 10/\v / 10<=_;omega
  . show 0<=v / 100/\v / 100<=_;omega
  . show 0<=v / 1000/\v / 1000<=_;omega
  show 0<=v / 10000/\v / 10000<=_;omega
 have aVb:0<=v->(pG (aX d.dg) v↔(nd v 4<=0/\ ∀j,j<4->aX d.dg (3 - j)=88\/aX d.dg (3 - j)=48+nd v j % 10)):=fun h=>aRU h;have hmb:pG (aX d.dg) v->0<=v/\v<=9999:=fun h=>⟨h.1,h.2.1⟩;have hst:nd v 0=v:=rfl;generalize d.In n=I at *;generalize pG (aX d.dg) v=M at *;generalize nd v=N at *;clear hM hm hk;generalize d.neg=neg at *;generalize d.long=long at *;generalize d.dg=s at *;generalize d.ex=ex at *;generalize d.sig=sig at *;have HI:=rG hI;have HMB:=rG hmb;have aWe:=rG aVb;have HND:=rG hnd;have HN0:=rG hn0;have HST:=rG hst;clear hI hbd hmb aVb hnd hn0 hst hx;unfold yv
 cases neg
 all_goals
  simp only[aV5,aSC,reduceCtorEq]at hv
  as_aux_lemma=>
   go_enter Tryz.func98,Tryz.ntmps98
   go_upto_region 1 with(fail)
   generalize World.alloc _ _=W0 at hY ⊢;obtain⟨q0,q1,q2,q3,q4,qB⟩:=id hY
   go_wp2_with (go_at_call 122;with_reducible refine(HM.out _).mono ?_;rintro _ w' ⟨rfl,hb⟩;replace hY:=hY.later (by first|exact hb|exact bt (aAI _ _).drew hb|exact bt (aAI _ _).drew.drew hb|exact bt (aAI _ _).drew.drew.drew hb);clear hb;obtain⟨q0,q1,q2,q3,q4,qB⟩:=id hY)
   any_goals
    (go_ret
     refine⟨_,?_,rfl,hY.below⟩;have hI:=HI.out;have hmb:=HMB.out;exact .inr ⟨rfl,fun c=>by have h1:=hI.1 c;have h2:=hmb h1.1;have h3:=h1.2;(try simp only[aGw,aN0,aWu,aBA,aDE,aDG,aTj,aDY,aHW,aXa,aV9,reduceCtorEq,aTV,aV7]at *);omega⟩)
   have hvn:0<=v/\v<=10000000000000000/\v≠0\/0<=v/\v<=10000000000000000/\v=n:=by(try simp only[aGw,aN0,aWu,aBA,aDE,aDG,aTj,aDY,aHW,aXa]at *);omega
   have HVN:Hid (I↔M):=rG (by
    have hI:=HI.out;rcases hvn with⟨_,_,hne⟩|⟨_,_,he⟩
    . exact hI.trans ⟨fun h=>h.1,fun h=>⟨h,fun _=>hne⟩⟩
    refine hI.trans ⟨fun h=>h.1,fun h=>⟨h,fun c=>?_⟩⟩
    first|(cases c;done)|((try simp only[aGw,aN0,aWu,aBA,aDE,aDG,aTj,aDY,aHW,aXa]at *);omega))
   have v0:0<=v:=by omega
   have v1:v<=10000000000000000:=by omega
   clear hvn HI HM;have HM4:=rG (aWe.out v0);have HB:Hid (∀k,k<=4->0<=N k/\N k<=10000000000000000):=rG (fun k hk=>HN0.out k hk v0 v1);clear HN0 aWe HMB;have HW:=rG hY.below
   go_loop [1,5] (fun nv iv=> ∃k:Nat,k<=4/\iv=.int .i64 (3 - (k:Int))/\nv=.int .i64 (N k)/\ ∀j,j<k->aX s (3 - j)=88\/aX s (3 - j)=48+N j % 10) (fun _ iv=>(intOf iv+1).toNat)
   case atStart=>exact⟨0,by omega,rfl,aTd _ (by rw[HST.out];omega),fun j h=>by omega⟩
   case round=>
    obtain⟨k,hk,rfl,rfl,hj⟩:=hrel;have HJ:=rG hj;have b0:=HB.out k hk;clear hj;have hk5:k=0\/k=1\/k=2\/k=3\/k=4:=by omega
    by_cases k4:k=4
    . subst k4
      by_cases hz:0<N 4
      . have HR:Hid (¬I):=rG (fun c=>by have:=(HM4.out.1 (HVN.out.1 c)).1;omega);clear hk5;generalize N 4=x at *;rw[show (3:Int) - ((4:Nat):Int)= -1 by omega]
        go_wp2
        go_ret
        exact⟨_,.inr ⟨rfl,HR.out⟩,rfl,HW.out⟩
      have HR:Hid I:=rG (HVN.out.2 (HM4.out.2 ⟨by omega,HJ.out⟩));clear hk5;generalize N 4=x at *;rw[show (3:Int) - ((4:Nat):Int)= -1 by omega]
      go_wp2
      go_ret
      exact⟨_,.inl ⟨rfl,HR.out⟩,rfl,HW.out⟩
    have l3:3 - k<s.size:=by omega
    have hb:=bQ s (3 - k) l3;have HE:=rG (HND.out k (by omega));have bb:=aSL s (3 - k);have HNO:Hid (¬(aX s (3 - k)=88\/aX s (3 - k)=48+N k % 10)-> ¬I):=rG (fun h c=>h ((HM4.out.1 (HVN.out.1 c)).2 k (by omega)));have HOK:Hid ((aX s (3 - k)=88\/aX s (3 - k)=48+N k % 10)-> ∀j,j<k+1->aX s (3 - j)=88\/aX s (3 - j)=48+N j % 10):=rG (fun h j hj=>by
     by_cases e:j=k
     . subst e;exact h
     exact HJ.out j (by omega))
    have e3:(3:Int) - (k:Int)=((3 - k:Nat):Int):=by omega
    rw[e3];have hm2:(3 - k:Nat)=3 - k:=rfl;generalize hq:3 - k=q at *;have Q3:=rG e3;clear hk5 hm2 hq e3 HB HM4 HJ HND;generalize N k=x at *;obtain⟨x0,x1⟩:=b0;have m0:0<=x % 10:=by omega
    have m1:x % 10<=9:=by omega
    have HBQ:=rG hb;clear hb bb;have K4:=rG k4;clear k4
    by_cases c1:((s[q]'l3).toNat:Int)=88
    . go_wp2
      go_round
      case rel=>exact⟨k+1,by have:=K4.out;omega,aTd _ (by have:=Q3.out;omega),aTd _ HE.out.symm,HOK.out (.inl (by rw[HBQ.out];exact c1))⟩
      case measure=>first|(simp[intOf];done)|(simp[intOf];omega)
    by_cases c2:((s[q]'l3).toNat:Int)=48+x % 10
    . go_wp2
      go_round
      case rel=>exact⟨k+1,by have:=K4.out;omega,aTd _ (by have:=Q3.out;omega),aTd _ HE.out.symm,HOK.out (.inr (by rw[HBQ.out];exact c2))⟩
      case measure=>first|(simp[intOf];done)|(simp[intOf];omega)
    have HR:=rG (HNO.out (by rw[HBQ.out];omega))
    go_wp2
    all_goals first
     |(go_ret;exact⟨_,.inr ⟨rfl,HR.out⟩,rfl,HW.out⟩)
     |(exfalso;(try simp only[aGw,aN0,aWu,aBA,aDE,aDG,aTj,aDY,aHW,aXa]at *);omega)
end Bk
end
section
open Go.RowKit Go.Lib
namespace Bk
open Un (ba bt ri rb aS aZ)
theorem WU(s:ByteArray)(k:Nat)(h:k<s.size):(s.extract k (k+1)).data.toList=[s[k]'h]:=by
 rw[aW3,aXc];have:s.data.toList.extract k (k+1)=[s[k]'h]:=by
  rw[aYn,show k+1 - k=1 by omega,List.take_one,List.head?_drop,aEM (by simpa using h)]
  rfl
 exact this
theorem MR(s:ByteArray)(x:UInt8): ∀k,k<=s.size->(QF s x k).data.toList=(List.range k).map fun i=>if aX s i=88 then x else s.data.toList.getD i 0
 |0,_=>rfl
 |k+1,h=>by
  rw[MQ,aZh,aRA,MR s x k (by omega),List.range_succ,aQD]
  congr 1
  by_cases c:aX s k=88
  . rw[aDk c];simp[c]
  rw[aBx c,WU s k (by omega)];simp only[aSc,List.map_nil,aBx c];rw[aQg,aEM (by simp;omega)];rfl
theorem BX(s:ByteArray)(x:UInt8)(k:Nat)(h:k<=s.size):(QF s x k).size=k:=by
 have:=aTd List.length (MR s x k h);simpa using this
theorem JF(s:ByteArray)(x:UInt8)(k:Nat)(h:k<=s.size)(i:Nat)(hi:i<k):aX (QF s x k) i=if aX s i=88 then(x.toNat:Int)else aX s i:=by
 rw[sU (MR s x k h),aQg,aHG,aTx hi];show((if aX s i=88 then x else s.data.toList.getD i 0).toNat:Int)=_
 split
 . rfl
 rfl
theorem aSy{s:ByteArray}(h4:s.size=4)(hd:allB bG s=true):iP s=cZ (aX s):=by
 have h: ∀i,i<4->48<=aX s i/\aX s i<=57:=fun i hi=>by
  have:=(kJ _ _).1 hd i (by omega);exact aL2 this
 have hl:s.data.toList.length=4:=by simpa using h4
 match e:s.data.toList,hl with
 |[a,b,c,d],_=>
  have h0:=h 0 (by omega);have h1:=h 1 (by omega);have h2:=h 2 (by omega);have h3:=h 3 (by omega);rw[sU e]at h0 h1 h2 h3;unfold iP cZ;rw[sU e,sU e,sU e,sU e,e];simp only[dec,List.getD_cons_zero,List.getD_cons_succ]at *;omega
theorem aD9{s:ByteArray}{x:UInt8}(h4:s.size=4)(hx:allB bV s=true)(h0:48<=x.toNat)(h1:x.toNat<=57):allB bG (QF s x 4)=true:=by
 rw[kJ];intro i hi;rw[BX s x 4 (by omega)]at hi;rw[JF s x 4 (by omega) i hi];have:=CY hx i (by omega);unfold bG
 split
 . exact aBz (by omega)
 exact aBz (by omega)
theorem aX1{s:ByteArray}(h4:s.size=4)(hd:allB bG s=true):fJ s 0=cZ (aX s):=by
 unfold fJ;rw[show (0:Int).toNat=0 from rfl,aSy h4 hd];unfold p10;simp
def z4:ByteArray:=⟨#[48,48,48,48]⟩
def aNe(j:Nat):ByteArray:=z4.extract 0 j++⟨#[49]⟩++z4.extract (j+1) 4
theorem aCk: ∀j:Nat,j<4->(aNe j).size=4/\allB bG (aNe j)=true/\(∀i:Nat,i<4->aX (aNe j) i=if i=j then 49 else 48):=by decide
theorem aGr{b:Nat->Int}{f:Int}{j:Nat}(hj:j<4)(hf:pG b f)(hn:f≠0)(hz: ∀i,i<4->b i=88\/b i=48)(hl: ∀i,j<i->i<4->b i≠88){o:Nat->Int}(ho: ∀i,i<4->o i=if i=j then 49 else 48):cZ o<=f:=by
 obtain⟨d0,d1,d2,d3,a0,a1,a2,a3,a4,a5,a6,a7,hv,e0,e1,e2,e3⟩:=(nY b f).1 hf;have z0:=hz 0 (by omega);have z1:=hz 1 (by omega);have z2:=hz 2 (by omega);have z3:=hz 3 (by omega);have o0:=ho 0 (by omega);have o1:=ho 1 (by omega);have o2:=ho 2 (by omega);have o3:=ho 3 (by omega);unfold cZ;obtain rfl|rfl|rfl|rfl:j=0\/j=1\/j=2\/j=3:=by omega
 . have l1:=hl 1 (by omega) (by omega);have l2:=hl 2 (by omega) (by omega);have l3:=hl 3 (by omega) (by omega);simp at o0 o1 o2 o3;omega
 . have l2:=hl 2 (by omega) (by omega);have l3:=hl 3 (by omega) (by omega);simp at o0 o1 o2 o3;omega
 . have l3:=hl 3 (by omega) (by omega);simp at o0 o1 o2 o3;omega
 simp at o0 o1 o2 o3;omega
def XR(d:Dt)(w:World)(e:Ending)(w':World):Prop:= ∃a b:Int,(∀y,d.In y->a<=y/\y<=b)/\ -10000000000000000<=a/\b<=10000000000000000/\e=.returned (.tuple #[.int .i64 a,.int .i64 b])/\Below w.heap.size w w'
theorem SE (d:Dt) (w:World) (hy:d.dg.size<=1000) (hk:d.JW=true) (hs:d.sig<=0):
 Calls Tryz.prog 97 #[yv d.neg d.long d.dg d.ex d.sig] w (XR d w):=by
 have hY:=Ym.new d.neg d.long d.dg d.ex d.sig w 35;have hM:=fun w=>vW d.neg d.long d.dg d.ex d.sig w (by unfold maxLen;omega);change ∀w,Calls _ _ _ w fun r w'=>r=.returned (.int .i64 (if d.mask then 1 else 0))/\_ at hM
 cases hm:d.mask
 . have HG:=rG (aDU hy hk hm);have hI: ∀y,d.In y->y=(if d.neg=true then -d.mag else d.mag):=fun y=>by unfold Dt.In;rw[hm];simp
   have mp:0<=d.mag:=oM _ _;have mp2:d.mag<=10000000000000000:=by
    have hx:d.In (if d.neg=true then -d.mag else d.mag):=by unfold Dt.In;rw[hm];simp
    have:=Dt.jU hk hx
    split at this<;>omega
   rw[hm]at hM;have HM:=rG hM;unfold XR;generalize d.In=I at *;generalize d.mag=m at *;clear hM hm hk;generalize d.neg=neg at *;generalize d.long=long at *;generalize d.dg=s at *;generalize d.ex=ex at *;generalize d.sig=sig at *;have HI:=rG hI;clear hI;unfold yv
   cases neg
   all_goals
    as_aux_lemma=>
     go_enter Tryz.func97,Tryz.ntmps97
     go_upto_region 1 with(fail)
     generalize World.alloc _ _=W0 at hY ⊢;obtain⟨q0,q1,q2,q3,q4,qB⟩:=id hY
     go_wp2_with (first
      |(go_at_call 122;with_reducible refine(HM.out _).mono ?_;rintro _ w' ⟨rfl,hb⟩;replace hY:=hY.later (by first|exact hb|exact bt (aAI _ _).drew hb|exact bt (aAI _ _).drew.drew hb|exact bt (aAI _ _).drew.drew.drew hb);clear hb;obtain⟨q0,q1,q2,q3,q4,qB⟩:=id hY)
      |(go_at_call 91;with_reducible refine(HG.out _).mono ?_;rintro _ w' ⟨rfl,rfl⟩))
     go_quiet (fail)
     go_wp2_with (first
      |(go_at_call 122;with_reducible refine(HM.out _).mono ?_;rintro _ w' ⟨rfl,hb⟩;replace hY:=hY.later (by first|exact hb|exact bt (aAI _ _).drew hb|exact bt (aAI _ _).drew.drew hb|exact bt (aAI _ _).drew.drew.drew hb);clear hb;obtain⟨q0,q1,q2,q3,q4,qB⟩:=id hY)
      |(go_at_call 91;with_reducible refine(HG.out _).mono ?_;rintro _ w' ⟨rfl,rfl⟩))
     go_ret2
     exact⟨_,_,fun y h=>by have:=HI.out y h;simp at this;omega,by omega,by omega,rfl,below_drewN hY.below _⟩
 obtain ⟨h4, hx,hex⟩:=MI hk hm;rw[hm]at hM;have HM:=rG hM;have HMG:Hid (∀L:ByteArray,L.size=4->allB bG L=true-> ∀w,Calls Tryz.prog 91 #[.string L,.int .i64 d.ex] w fun r w'=>r=.returned (.tuple #[.int .i64 (cZ (aX L)),.int .i64 1])/\w=w'):=rG (fun L hl hd w=>by
  have:=nZ L 0 w (by omega) (by omega) hd;rw[hex];have e:fJ L ((0:Nat):Int)=cZ (aX L):=aX1 hl hd;have hb:cZ (aX L)<=9999:=by
   rw[<-aSy hl hd];have:=oO hd hl;omega
  have e2:qC (fJ L ((0:Nat):Int))=(cZ (aX L),1):=by rw[e];unfold qC;rw[aDk (by omega)]
  rw[e2]at this;exact this)
 have hI: ∀y,d.In y->pG (aX d.dg) (if d.neg=true then -y else y)/\(d.neg=true->y≠0):=fun y h=>by
  unfold Dt.In at h;rw[hm,aDk rfl]at h
  cases hn:d.neg
  . rw[hn]at h;simp at h ⊢;exact h
  rw[hn]at h;simp at h ⊢;exact h
 have hmk:=zS h4 hx;have hLO:(QF d.dg 48 4).size=4/\allB bG (QF d.dg 48 4)=true/\ ∀f,pG (aX d.dg) f->cZ (aX (QF d.dg 48 4))<=f:=
  ⟨BX _ _ _ (by omega),aD9 h4 hx (by decide) (by decide),(SX hmk (fun i hi=>JF d.dg 48 4 (by omega) i hi)).2⟩
 have hHI:(QF d.dg 57 4).size=4/\allB bG (QF d.dg 57 4)=true/\ ∀f,pG (aX d.dg) f->f<=cZ (aX (QF d.dg 57 4)):=
  ⟨BX _ _ _ (by omega),aD9 h4 hx (by decide) (by decide),(CB hmk (fun i hi=>JF d.dg 57 4 (by omega) i hi)).2⟩
 have hZ:QF d.dg 48 4=z4-> ∀i,i<4->aX d.dg i=88\/aX d.dg i=48:=fun e i hi=>by
  have h1:=JF d.dg 48 4 (by omega) i hi;rw[e]at h1;have hz: ∀i:Nat,i<4->aX z4 i=48:=by decide
  rw[hz i hi]at h1
  split at h1
  . rename_i c;exact .inl c
  exact .inr h1.symm
 have hv9: ∀L:ByteArray,L.size=4->allB bG L=true->0<=cZ (aX L)/\cZ (aX L)<=9999:=fun L hl hd=>by
  rw[<-aSy hl hd];have:=oO hd hl;have:=wZ L;omega
 have HV9:=rG hv9;unfold XR;generalize d.In=I at *;clear hM hm hk hex hmk hv9 hx;generalize d.neg=neg at *;generalize d.long=long at *;generalize d.dg=s at *;generalize d.ex=ex at *;generalize d.sig=sig at *;have HI:=rG hI;have UJ:=rG hLO;have HHI:=rG hHI;have HZ:=rG hZ;clear hI hLO hHI hZ;have HSZ:Hid (∀x k,k<=4->(QF s x k).size=k):=rG (fun x k hk=>BX s x k (by omega));have HBX:Hid (∀k,k<4->((s.extract k (k+1)).toList==[(88:UInt8)])=decide (aX s k=88)):=rG (fun k hk=>by
  rw[show [(88:UInt8)]=ByteArray.toList ⟨#[88]⟩ by rw[aXi],zF,decide_eq_decide];constructor
  . intro e;have h1:=WU s k (by omega);rw[e]at h1;have h2:[(88:UInt8)]=[s[k]'(by omega)]:=h1;rw[bQ s k (by omega),<-(aYz h2).1];rfl
  intro e;apply AL;rw[WU s k (by omega)];rw[bQ s k (by omega)]at e;have:s[k]'(by omega)=(88:UInt8):=by apply aX7;show _=88;omega
  rw[this])
 unfold yv
 go_enter Tryz.func97,Tryz.ntmps97
 go_upto_region 1 with(fail)
 generalize World.alloc _ _=W0 at hY ⊢;obtain⟨q0,q1,q2,q3,q4,qB⟩:=id hY
 go_wp2_with (go_at_call 122;with_reducible refine(HM.out _).mono ?_;rintro _ w' ⟨rfl,hb⟩;replace hY:=hY.later (by first|exact hb|exact bt (aAI _ _).drew hb|exact bt (aAI _ _).drew.drew hb|exact bt (aAI _ _).drew.drew.drew hb);clear hb;obtain⟨q0,q1,q2,q3,q4,qB⟩:=id hY)
 go_loopw [4,5,6] (fun lo hi i wr=> ∃k:Nat,k<=4/\i=.int .i64 k/\lo=.string (QF s 48 k)/\hi=.string (QF s 57 k)/\Ym w.heap.size neg long s ex sig w wr) (fun _ _ i _=>4 - (intOf i).toNat)
 case atStart=>exact⟨0,by omega,rfl,rfl,rfl,hY⟩
 case round=>
  obtain⟨k,hk,rfl,rfl,rfl,hY⟩:=hrel;clear q0 q1 q2 q3 q4 qB;obtain⟨q0,q1,q2,q3,q4,qB⟩:=id hY
  by_cases hlt:k<4
  . have a0:=HSZ.out 48 k (by omega);have a1:=HSZ.out 57 k (by omega);have HL0:=rG (MQ s 48 k);have HL1:=rG (MQ s 57 k);have hbx:=HBX.out k hlt;generalize QF s 48 k=A at *;generalize QF s 57 k=B at *;have k4:k<s.size:=by omega
    have es:(s.extract k (k+1)).size=1:=by rw[aWg];omega
    by_cases c:aX s k=88
    . rw[aDk c]at HL0 HL1;rw[aBz c]at hbx;have HC:=rG c;clear c
      go_wp2
      go_quiet (fail)
      go_wp2
      go_roundw
      case rel=>exact⟨k+1,by omega,by go_num,by rw[HL0.out],by rw[HL1.out],hY.later (below_drewN (aAI _ _) _)⟩
      case measure=>simp[intOf];omega
    rw[aBx c]at HL0 HL1;rw[aBy c]at hbx;have HC:=rG c;clear c
    go_wp2
    go_quiet (fail)
    go_wp2
    go_roundw
    case rel=>exact⟨k+1,by omega,by go_num,by rw[HL0.out],by rw[HL1.out],hY.later (below_drewN (aAI _ _) _)⟩
    case measure=>simp[intOf];omega
  obtain rfl:k=4:=by omega
  clear HSZ HBX;obtain⟨A,hA⟩: ∃A,A=QF s 48 4:=⟨_,rfl⟩;obtain⟨B,hB⟩: ∃B,B=QF s 57 4:=⟨_,rfl⟩;rw[<-hA]at UJ HZ ⊢;rw[<-hB]at HHI ⊢;clear hA hB;have hZ4:(A.toList==[(48:UInt8),48,48,48])=decide (A=z4):=by
   rw[show [(48:UInt8),48,48,48]=ByteArray.toList z4 by unfold z4;rw[aXi],zF]
  have GB:=rG (HMG.out B HHI.out.1 HHI.out.2.1);have vb:=HV9.out B HHI.out.1 HHI.out.2.1;have HVB:=rG HHI.out.2.2
  by_cases hne:neg=true/\A=z4
  case neg=>
   have GA:=rG (HMG.out A UJ.out.1 UJ.out.2.1);have va:=HV9.out A UJ.out.1 UJ.out.2.1;have HVA:=rG UJ.out.2.2;clear HMG HV9 UJ HHI HZ HM;generalize cZ (aX A)=a at *;generalize cZ (aX B)=b at *
   cases neg
   . clear hZ4
     all_goals
      as_aux_lemma=>
       go_wp2_with (go_at_call 91;first|(with_reducible refine(GA.out _).mono ?_;rintro _ w' ⟨rfl,rfl⟩)|(with_reducible refine(GB.out _).mono ?_;rintro _ w' ⟨rfl,rfl⟩))
       go_ret2
       exact⟨_,_,fun y h=>by have h1:=HI.out y h;simp at h1;have h2:=HVA.out _ h1;have h3:=HVB.out _ h1;omega,by omega,by omega,rfl,hY.below⟩
   have hA4: ¬A=z4:=fun h=>hne ⟨rfl,h⟩;rw[aBy hA4]at hZ4;clear hne hA4
   . as_aux_lemma=>
      go_wp2_with (go_at_call 91;first|(with_reducible refine(GA.out _).mono ?_;rintro _ w' ⟨rfl,rfl⟩)|(with_reducible refine(GB.out _).mono ?_;rintro _ w' ⟨rfl,rfl⟩))
      go_ret2
      exact⟨_,_,fun y h=>by have h1:=HI.out y h;simp at h1;have h2:=HVA.out _ h1.1;have h3:=HVB.out _ h1.1;omega,by omega,by omega,rfl,hY.below⟩
  case pos =>
   obtain⟨rfl,rfl⟩:=hne;have HZ2:=rG (HZ.out rfl);clear HZ UJ hZ4 HM;unfold z4;generalize cZ (aX B)=b at *
   go_wp2
   go_loopw [4,9] (fun lo i wr=> ∃(k:Nat) (L:ByteArray),k<=4/\i=.int .i64 k/\lo=.string L/\((L=z4/\ ∀j,j<k->aX s j≠88)\/(∃j,j<k/\aX s j=88/\(∀l,j<l->l<k->aX s l≠88)/\L=aNe j))/\Ym w.heap.size true long s ex sig w wr) (fun _ i _=>4 - (intOf i).toNat)
   case atStart=>exact⟨0,_,by omega,rfl,rfl,.inl ⟨rfl,fun j h=>by omega⟩,hY⟩
   case round=>
    obtain⟨k,L,hk,rfl,rfl,hL,hY⟩:=hrel;clear q0 q1 q2 q3 q4 qB;obtain⟨q0,q1,q2,q3,q4,qB⟩:=id hY;have HL:=rG hL;clear hL
    by_cases hlt:k<4
    . have k4:k<s.size:=by omega
      have HB2:=rG (bQ s k k4)
      by_cases c:((s[k]'k4).toNat:Int)=88
      . go_wp2
        go_quiet (fail)
        go_wp2
        go_roundw
        case rel=>exact⟨k+1,_,by omega,by go_num,rfl,.inr ⟨k,by omega,by rw[HB2.out];exact c,fun l h1 h2=>by omega,rfl⟩,hY.later (below_drewN (aAI _ _) _)⟩
        case measure=>simp[intOf];omega
      go_wp2
      go_roundw
      case rel=>exact⟨k+1,_,by omega,by go_num,rfl,by
       have hb:aX s k≠88:=by rw[HB2.out];exact c
       rcases HL.out with⟨e1,e2⟩|⟨j,e1,e2,e3,e4⟩
       . refine .inl ⟨e1,fun j hj=>?_⟩
         by_cases e:j=k
         . subst e;exact hb
         exact e2 j (by omega)
       refine .inr ⟨j,by omega,e2,fun l h1 h2=>?_,e4⟩
       by_cases e:l=k
       . subst e;exact hb
       exact e3 l h1 (by omega),hY⟩
      case measure=>simp[intOf];omega
    obtain rfl:k=4:=by omega
    have hL2:L.size=4/\allB bG L=true/\ ∀f,pG (aX s) f->f≠0->cZ (aX L)<=f:=by
     rcases HL.out with⟨rfl,e2⟩|⟨j,e1,e2,e3,rfl⟩
     . refine⟨rfl,by decide,fun f hf hn=>?_⟩;have:cZ (aX z4)=0:=by decide
       have:=hf.1;omega
     obtain⟨g1,g2,g3⟩:=aCk j e1;exact⟨g1,g2,fun f hf hn=>aGr e1 hf hn HZ2.out e3 g3⟩
    have GA:=rG (HMG.out L hL2.1 hL2.2.1);have va:=HV9.out L hL2.1 hL2.2.1;have HVA:=rG hL2.2.2;clear hL2 HL HMG HV9 HHI HZ2;generalize cZ (aX L)=a at *
    go_wp2_with (go_at_call 91;first|(with_reducible refine(GA.out _).mono ?_;rintro _ w' ⟨rfl,rfl⟩)|(with_reducible refine(GB.out _).mono ?_;rintro _ w' ⟨rfl,rfl⟩))
    go_ret2
    exact⟨_,_,fun y h=>by have h1:=HI.out y h;simp at h1;have h2:=HVA.out _ h1.1 (by omega);have h3:=HVB.out _ h1.1;omega,by omega,by omega,rfl,hY.below⟩
end Bk
end
section
open Go.RowKit Go.Lib
namespace Bk
open Un (ba bt ri rb aS aZ)
theorem rs{a b:ByteArray}(h:a=b):Ending.returned (.string a)=.returned (.string b):=by rw[h]
theorem BJ(n:Nat)(w:World)(h:n<=99):
 Calls Tryz.prog 61 #[.int .i64 n] w fun r w'=>r=.returned (.string (twoS n))/\Below w.heap.size w w':=by
 have HT:=rG (aMR n (by omega));unfold CZ at HT
 go_enter Tryz.func61,Tryz.ntmps61
 go_wp2
 go_quiet (fail)
 go_wp2
 all_goals go_ret
 all_goals exact⟨rs HT.out,below_drewN (aAI _ _) _⟩
theorem vX(s:ByteArray)(n:Nat)(w:World)(h:n<=99):
 Calls Tryz.prog 123 #[.string s,.int .i64 n] w fun r w'=>r=.returned (.int .i64 (if jE s n then 1 else 0))/\Below w.heap.size w w':=by
 have HT:=rG (fun w=>BJ n w h);obtain⟨R,hR⟩: ∃R:Int,R=if jE s n then 1 else 0:=⟨_,rfl⟩
 rw[<-hR];have hRF:(s.size≠2->R=0)/\(s.size=2->(aX s 0=88\/aX s 0=48+(n:Int) / 10)->(aX s 1=88\/aX s 1=48+(n:Int) % 10)->R=1)/\(s.size=2-> ¬(aX s 0=88\/aX s 0=48+(n:Int) / 10)->R=0)/\(s.size=2-> ¬(aX s 1=88\/aX s 1=48+(n:Int) % 10)->R=0):=by
  rw[hR];refine⟨fun h=>by rw[UC h];rfl,fun h1 h2 h3=>?_,fun h1 h2=>?_,fun h1 h2=>?_⟩
  . rw[aDk];unfold jE;simp[h1,h2,h3]
  . rw[show jE s n=false by unfold jE;rw[aPj];intro c;simp at c;omega];rfl
  rw[show jE s n=false by unfold jE;rw[aPj];intro c;simp at c;omega];rfl
 obtain⟨t,ht⟩: ∃t,t=twoS n:=⟨_,rfl⟩;rw[<-ht]at HT;have t2:t.size=2:=by rw[ht];rfl
 have t20:0<t.size:=by omega
 have t21:1<t.size:=by omega
 have b0:((t[0]'t20).toNat:Int)=48+(n:Int) / 10:=by rw[<-bQ t 0 t20,ht];exact aH2 h
 have b1:((t[1]'t21).toNat:Int)=48+(n:Int) % 10:=by rw[<-bQ t 1 t21,ht];exact aH1 h
 by_cases c:s.size=2
 . have s0:0<s.size:=by omega
   have s1:1<s.size:=by omega
   rw[bQ s 0 s0,bQ s 1 s1,<-b0,<-b1]at hRF;obtain⟨a0,g0⟩: ∃b,(((s[0]'s0).toNat:Int)==88)=b:=⟨_,rfl⟩;obtain⟨a1,g1⟩: ∃b,(((s[0]'s0).toNat:Int)==((t[0]'t20).toNat:Int))=b:=⟨_,rfl⟩;obtain⟨c0,g2⟩: ∃b,(((s[1]'s1).toNat:Int)==88)=b:=⟨_,rfl⟩;obtain⟨c1,g3⟩: ∃b,(((s[1]'s1).toNat:Int)==((t[1]'t21).toNat:Int))=b:=⟨_,rfl⟩;have hR2:R=if(a0||a1)&&(c0||c1)then 1 else 0:=by
    subst g0 g1 g2 g3;simp only[aDY,aHW,aGw]
    split
    . rename_i h;exact hRF.2.1 c h.1 h.2
    rename_i h
    by_cases q:(((s[0]'s0).toNat:Int)=88\/((s[0]'s0).toNat:Int)=((t[0]'t20).toNat:Int))
    . exact hRF.2.2.2 c (fun e=>h ⟨q,e⟩)
    exact hRF.2.2.1 c q
   replace hR2:=rG hR2;clear hRF hR b0 b1 ht
   cases a0<;>cases a1<;>cases c0<;>cases c1
   all_goals
    as_aux_lemma=>
     go_enter Tryz.func123,Tryz.ntmps123
     go_wp2_with (go_at_call 61;with_reducible refine(HT.out _).mono ?_;rintro _ w' ⟨rfl,hb⟩)
     go_quiet (fail)
     go_wp2
     go_ret
     exact⟨ri hR2.out.symm,below_drewN hb _⟩
 have hR0:=hRF.1 c;clear hR hRF ht b0 b1;subst hR0;have c2:((s.size:Int)==2)=false:=by rw[aBA];omega
 clear c t20 t21 t2
 go_enter Tryz.func123,Tryz.ntmps123
 go_wp2_with (go_at_call 61;with_reducible refine(HT.out _).mono ?_;rintro _ w' ⟨rfl,hb⟩)
 clear HT
 go_quiet (fail)
 go_wp2
 go_ret
 exact⟨rfl,below_drewN hb _⟩
theorem SG(s:ByteArray)(g:Nat)(w:World)(hg:g<=99):
 Calls Tryz.prog 95 #[.string s,.int .i64 g] w fun r w'=>r=.returned (.int .i64 (if dU s g then 1 else 0))/\Below w.heap.size w w':=by
 have HT:=rG (fun(k:Nat) (hk:k<g) (x:Int) (hx:x=if jE s ((k:Int)+1)then 1 else 0) w=>(by rw[hx];exact vX s (k+1) w (by omega):Calls Tryz.prog 123 #[.string s,.int .i64 ((k:Int)+1)] w fun r w'=>r=.returned (.int .i64 x)/\Below w.heap.size w w'));have HM:=rG (fun(k:Nat) (h:k<g) (ht:jE s ((k:Int)+1)=true)=>(KN (s:=s) (g:=k+1) (h:=g) (by omega) (by rw[tN,ht,aXT]):dU s g=true));have HN:=rG (fun(k:Nat) (h:dU s k=false) (ht:jE s ((k:Int)+1)=false)=>(by rw[tN,h,ht];rfl:dU s (k+1)=false));obtain⟨R,hR⟩: ∃R:Int,R=if dU s g then 1 else 0:=⟨_,rfl⟩
 rw[<-hR];replace hR:=rG hR
 go_enter Tryz.func95,Tryz.ntmps95
 go_wp2
 go_loopw [5] (fun i wr=> ∃k:Nat,k<=g/\i=.int .i64 ((k:Int)+1)/\dU s k=false/\Below w.heap.size w wr) (fun i _=>g+1 - (intOf i).toNat)
 case atStart=>exact⟨0,aJS _,rfl,rfl,aAI _ _⟩
 case round=>
  obtain⟨k,hk,rfl,hz,hb⟩:=hrel
  by_cases hlt:k<g
  . have hT:=fun x hx w=>HT.out k hlt x hx w;have HB:=rG hb;have HZ:=rG hz;clear hb hz
    cases ha:jE s ((k:Int)+1)
    . have HT2:=rG (hT 0 (by rw[ha];rfl));have HA:=rG ha;clear hT ha
      go_wp2_with (go_at_call 123;with_reducible refine(HT2.out _).mono ?_;rintro _ w' ⟨rfl,hb⟩)
      go_roundw
      case rel=>exact⟨k+1,by omega,by go_num,HN.out k HZ.out HA.out,bt HB.out hb⟩
      case measure=>simp[intOf];omega
    have HT2:=rG (hT 1 (by rw[ha];rfl));have HA:=rG ha;clear hT ha
    go_wp2_with (go_at_call 123;with_reducible refine(HT2.out _).mono ?_;rintro _ w' ⟨rfl,hb⟩)
    go_ret
    exact⟨ri (by rw[hR.out,HM.out k hlt HA.out];rfl),bt HB.out hb⟩
  obtain rfl:k=g:=by omega
  have HB:=rG hb;have HZ:=rG hz;clear hb hz
  go_wp2
  go_ret
  exact⟨ri (by rw[hR.out,HZ.out];rfl),HB.out⟩
theorem LU(d:Dt)(w:World):
 Calls Tryz.prog 37 #[aV d] w fun r w'=>r=.returned (.int .i64 (comps d.mo d.da))/\Below w.heap.size w w':=
 Sk.lJ (Sk.aMu d w) (by rw[QY,QY];unfold comps;simp only[aHF,aDE];(repeat' split)<;>rfl)
theorem qW(d:Dt)(w:World):
 Calls Tryz.prog 35 #[aV d] w fun r w'=>r=.returned (.int .i64 d.aH)/\Below w.heap.size w w':=by
 have hD:=Dm.new d w 37;have HT:=rG (fun(c:Nat) w (h:c<=41)=>BJ c w (by omega));have HS:=rG (fun(c:Nat) (h0:21<=c) (h1:c<=41)=>(YI (s:=d.mo) h0 h1));have HBD:=rG (iY d.mo);unfold Dt.aH;generalize dD d.mo=z at *;unfold aV
 go_enter Tryz.func35,Tryz.ntmps35
 go_upto_region 1 with(fail)
 generalize w.alloc (.cells #[.bool d.neg,.bool d.long,.string d.dg,.int .i64 d.ex,.int .i64 d.sig,.string d.mo,.string d.da,.int .u8 d.m0,.int .u8 d.m1,.int .u8 d.m2] 37)=W0 at hD ⊢
 go_wp2
 go_loopw [3] (fun i wr=> ∃c:Nat,21<=c/\c<=42/\i=.int .i64 c/\(z=0\/(c:Int)<=z)/\Dm w.heap.size d w wr) (fun i _=>42 - (intOf i).toNat)
 case atStart=>exact⟨21,by omega,by omega,rfl,by have:=HBD.out;omega,hD⟩
 case round=>
  obtain⟨c,h0,h1,rfl,hz,hD⟩:=hrel;obtain⟨q0,q1,q2,q3,q4,q5,q6,q7,q8,q9,qB⟩:=id hD
  by_cases hlt:c<=41
  . have hT:=fun w=>HT.out c w hlt;have hS:=HS.out c h0 hlt;generalize twoS c=t at *;have hb:(d.mo.toList==t.toList)=decide (d.mo=t):=zF _ _;have HT2:=rG hT;have HZ:=rG hz;clear hT hz HT HS
    by_cases e:d.mo=t
    . have hv:=hS.1 e;rw[aBz e]at hb;have HV:=rG hv;clear e hS hv
      go_wp2
      go_region_with (go_at_call 61;with_reducible refine(HT2.out _).mono ?_;rintro _ w' ⟨rfl,hb⟩;have hD:=hD.later (by first|exact hb|exact bt (aAI _ _).drew hb|exact bt (aAI _ _).drew.drew hb);obtain⟨q0,q1,q2,q3,q4,q5,q6,q7,q8,q9,qB⟩:=id hD)
      all_goals (go_wp2_with fail)
      all_goals go_ret
      all_goals exact⟨ri HV.out.symm,hD.below⟩
    have hv: ¬z=c:=fun h=>e (hS.2 h);rw[aBy e]at hb;have HV:=rG hv;clear e hS hv
    go_wp2
    go_region_with (go_at_call 61;with_reducible refine(HT2.out _).mono ?_;rintro _ w' ⟨rfl,hb⟩;have hD:=hD.later (by first|exact hb|exact bt (aAI _ _).drew hb|exact bt (aAI _ _).drew.drew hb);obtain⟨q0,q1,q2,q3,q4,q5,q6,q7,q8,q9,qB⟩:=id hD)
    all_goals (go_wp2_with fail)
    all_goals go_roundw
    all_goals first
     |exact⟨c+1,by omega,by omega,by go_num,by have:=HV.out;have:=HZ.out;omega,hD⟩
     |(simp[intOf];omega)
  obtain rfl:c=42:=by omega
  have HV:Hid (z=0):=rG (by have:=HBD.out;omega);clear hz
  go_wp2
  go_ret
  exact⟨ri HV.out.symm,hD.below⟩
end Bk
end
section
open Go.RowKit Go.Lib
namespace Bk
open Un (ba bt ri rb aS aZ)
theorem aIq(a b c n:Int)(w:World)(a0:0<=a)(b0:0<=b)(c0:0<=c)(n0:1<=n)(n1:n<=3):
 Calls Tryz.prog 96 #[.agg #[.int .u8 a,.int .u8 b,.int .u8 c],.int .i64 n] w fun r w'=>r=.returned (.int .i64 (kD a b c n))/\Below w.heap.size w w':=by
 obtain rfl|rfl|rfl:n=1\/n=2\/n=3:=by omega
 . exact Sk.lJ (Sk.aHN a b c w) (by unfold kD;simp only[aHF,aDE,aGw];(repeat' split)<;>first|rfl|(exfalso;omega))
 . exact Sk.lJ (Sk.aHM a b c w) (by unfold kD;simp only[aHF,aDE,aGw];(repeat' split)<;>first|rfl|(exfalso;omega))
 exact Sk.lJ (Sk.aHL a b c w) (by unfold kD;simp only[aHF,aDE,aGw];(repeat' split)<;>first|rfl|(exfalso;omega))
theorem aFt(d:Dt)(w:World)(hy:d.dg.size<=1000)(s0: -9223372036854775808<=d.sig)(s1:d.sig<9223372036854775808):
 Calls Tryz.prog 94 #[aV d] w fun r w'=>r=.returned (.int .i64 (if d.lN then 1 else 0))/\Below w.heap.size w w':=by
 have hC: ∀c:Int,(if d.JW then 1 else 0)=c->Sk.Same w 60 #[yv d.neg d.long d.dg d.ex d.sig] (.int .i64 c):=fun c e=>e ▸ fun W _=>F7 d.neg d.long d.dg d.ex d.sig W hy s0 s1;have hS:=fun W (_:Below w.heap.size w W)=>qW d W;have hM: ∀c:Int,(if d.mask then 1 else 0)=c->Sk.Same w 122 #[yv d.neg d.long d.dg d.ex d.sig] (.int .i64 c):=fun c e=>e ▸ fun W _=>vW d.neg d.long d.dg d.ex d.sig W (by unfold maxLen;omega);unfold Dt.lN Dt.far
 cases hk:d.JW
 . exact Sk.lJ (Sk.aMq d w (hC 0 (by rw[hk];rfl))) rfl
 have hmg:d.mask=false-> ∀w,Calls Tryz.prog 91 #[.string d.dg,.int .i64 d.ex] w fun r w'=>r=.returned (.tuple #[.int .i64 d.mag,.int .i64 1])/\w=w':=by
  intro hm w;obtain⟨e,he,hle,hd,hl⟩: ∃e:Nat,d.ex=e/\e<=16/\allB bG d.dg=true/\d.mag<=10000000000000000:=by
   have hk':G8 d.neg d.long d.dg d.ex d.sig=true:=hk
   cases hl:d.long
   . rw[hl]at hk';obtain⟨a1,a2,a3,a4,a5,a6,a7⟩:=iD hk';have hd:=(jV a2).1 hm;refine⟨0,a3,by omega,hd,?_⟩;unfold Dt.mag fJ;rw[a3];have:=oO hd a1;have e:p10 (Int.toNat 0)=1:=rfl;rw[e];omega
   rw[hl]at hk';obtain⟨a1,a2,a3,a4,a5,a6,a7,a8,a9⟩:=jI hk';exact⟨d.ex.toNat,by omega,by omega,a3,a7⟩
  have:=nZ d.dg e w hy (by omega) hd;rw[he];have e2:qC (fJ d.dg e)=(d.mag,1):=by
   unfold qC;rw[show fJ d.dg e=d.mag by unfold Dt.mag;rw[he],aDk hl]
  rw[e2]at this;exact this
 have h1:=hC 1 (by rw[hk];rfl)
 cases hx:d.mask
 . refine Sk.lJ (Sk.aMo d d.aH d.mag 1 w h1 hS (hM 0 (by rw[hx];rfl)) (fun W _=>Sk.eqB (hmg hx W))) ?_;rw[QY]
   by_cases c:0<d.sig<;>by_cases e:d.mo.size=0<;>by_cases a:d.aH=24<;>by_cases b:d.aH=28<;>by_cases g:d.aH=30<;>by_cases m:d.mag=10000000000000000<;>cases d.neg<;>simp[aHF,c,e,a,b,g,m]
 refine Sk.lJ (Sk.aMp d d.aH w h1 hS (hM 1 (by rw[hx];rfl))) ?_;rw[QY]
 by_cases c:0<d.sig<;>by_cases e:d.mo.size=0<;>simp[c,e]
theorem ZH(d:Dt)(w:World)(hy:d.dg.size<=1000)(s0: -9223372036854775808<=d.sig)(s1:d.sig<9223372036854775808)(m0:0<=d.m0)(m1:0<=d.m1)(m2:0<=d.m2):
 Calls Tryz.prog 71 #[aV d] w fun r w'=>r=.returned (.int .i64 d.form)/\Below w.heap.size w w':=by
 refine Sk.lJ (Sk.aHP d _ d.aH _ _ _ _ w (fun W _=>aFt d W hy s0 s1) (fun W _=>qW d W) (fun W _=>SG d.mo 12 W (by omega)) (fun W _=>SG d.da 31 W (by omega)) (fun W _=>LU d W)
  (fun W _=>aIq d.m0 d.m1 d.m2 (comps d.mo d.da) W m0 m1 m2 (DI _ _).1 (DI _ _).2)) ?_
 have hz:d.aH=0\/(21<=d.aH/\d.aH<=41):=iY d.mo;rw[QY,QY];unfold Dt.form;rcases hz with e3|e3
 . cases d.lN<;>cases dU d.mo 12<;>cases dU d.da 31<;>by_cases e1:d.mo.size=0<;>by_cases e2:d.da.size=0<;>simp[e1,e2,e3]
 have a: ¬d.aH=0:=by omega
 have b:0<d.aH:=by omega
 cases d.lN<;>cases dU d.mo 12<;>cases dU d.da 31<;>by_cases e1:d.mo.size=0<;>by_cases e2:d.da.size=0<;>simp[aHF,e1,e2,a,b]
end Bk
end
section
open Go.RowKit Go.Lib
namespace Bk
open Un (ba bt ri rb aS aZ)
theorem own_below{w w':World}{B e size n:Nat}{v:Value}{xs:List Value}(h:w.ownsRow B e size v n xs)(hb:Below w.heap.size w w'):w'.ownsRow B e size v n xs:=by
 refine⟨h.1,?_⟩;rcases h.2 with hn|⟨g,cap,cur,rfl,hg,hgg,rest⟩
 . exact .inl hn
 exact .inr ⟨g,cap,cur,rfl,hg,by rw[hb.block g (aYm.1 hgg).1];exact hgg,rest⟩
theorem aIo(y m:Int)(w:World)(m0:1<=m)(m1:m<=12):Calls Tryz.prog 125 #[.int .i64 y,.int .i64 m] w fun e w'=>e=.returned (.int .i64 (Cal.len y m))/\w=w':=by
 by_cases h2:m=2
 . subst h2;have t4:=Un.rW y 4;have t1:=Un.KD y 100;have t5:=Un.rW y 400
   by_cases a:y % 4=0<;>by_cases b:y % 100=0<;>by_cases c:y % 400=0<;>
    simp only[a,b,c,aWI,aWn,aXz,aVf]at t4 t1 t5<;>
    (have L:Hid (Cal.len y 2=if(decide (y % 4=0)&&(decide (y % 100≠0)||decide (y % 400=0)))then 29 else 28):=rG (by
      unfold Cal.len Cal.lp Cal.leap;rw[aDk rfl];split<;>rfl)
     simp only[a,b,c,aXa,not_true_eq_false,aXB,aWI,aWn,aQN,aTz,aXT,aWs,aXS,aV5,aSC,aMB]at L;clear a b c m0 m1
     go_enter Tryz.func125,Tryz.ntmps125
     go_wp2
     go_ret
     exact⟨ri (by first|exact L.out.symm|rfl),rfl⟩)
 have:m=1\/m=3\/m=4\/m=5\/m=6\/m=7\/m=8\/m=9\/m=10\/m=11\/m=12:=by omega
 rcases this with rfl|rfl|rfl|rfl|rfl|rfl|rfl|rfl|rfl|rfl|rfl<;>
  (clear m0 m1 h2
   go_enter Tryz.func125,Tryz.ntmps125
   go_wp2
   go_ret
   exact⟨ri (by unfold Cal.len;simp),rfl⟩)
theorem ZG(d:Dt)(w:World)(hf:d.form=0):
 Calls Tryz.prog 124 #[aV d] w (aQh d.ms w):=by
 have hD:=Dm.new d w 37;have HS:=rG (fun w=>qW d w);unfold aV at HS;have hbd:d.aH=0\/(21<=d.aH/\d.aH<=41):=iY d.mo;unfold aV;rcases jB hf with⟨h1,h2,-⟩|⟨h1,h2,h3,-⟩|⟨h1,h2,-⟩
 . have x0:=N7 h2;rw[Dt.nJ h1];have z0:21<=d.aH:=by omega
   clear hbd h1 h2 hf;generalize d.aH=z at *
   go_enter Tryz.func124,Tryz.ntmps124
   go_upto_region 1 with(fail)
   generalize World.alloc _ _=W0 at hD ⊢;obtain⟨q0,q1,q2,q3,q4,q5,q6,q7,q8,q9,qB⟩:=id hD
   go_wp2_with (go_at_call 35;with_reducible refine(HS.out _).mono ?_;rintro _ w' ⟨rfl,hb⟩;replace hD:=hD.later (by first|exact hb|exact bt (aAI _ _).drew hb|exact bt (aAI _ _).drew.drew hb|exact bt (aAI _ _).drew.drew.drew hb);clear hb;obtain⟨q0,q1,q2,q3,q4,q5,q6,q7,q8,q9,qB⟩:=id hD)
   go_ret
   exact⟨_,rfl,bD.lit (w:=w) z,ba hD.below _⟩
 . have x0:=N7 h2;obtain⟨s2,sx,sn⟩:=lK (by omega) h3;rw[Dt.qY h1 h2];rw[h1]at HS;have HT:=rG (fun(k:Nat) (hk:k<12) (x:Int) (hx:x=if jE d.mo ((k:Int)+1)then 1 else 0) w=>(by rw[hx];exact vX d.mo (k+1) w (by omega):Calls Tryz.prog 123 #[.string d.mo,.int .i64 ((k:Int)+1)] w fun r w'=>r=.returned (.int .i64 x)/\Below w.heap.size w w'));have SN:=rG sn;obtain⟨i0,hi,hz0,hz1,hz2⟩:=aW9 aAy;have HI:=rG hi;have HZ0:=rG hz0;have HZ1:=rG hz1;have HZ2:=rG hz2;clear hbd h1 h2 h3 hf sn sx s2 hi hz0 hz1 hz2
   go_enter Tryz.func124,Tryz.ntmps124
   go_upto_region 1 with(fail)
   generalize World.alloc _ _=W0 at hD ⊢;obtain⟨q0,q1,q2,q3,q4,q5,q6,q7,q8,q9,qB⟩:=id hD
   go_wp2_with (go_at_call 35;with_reducible refine(HS.out _).mono ?_;rintro _ w' ⟨rfl,hb⟩;replace hD:=hD.later (by first|exact hb|exact bt (aAI _ _).drew hb|exact bt (aAI _ _).drew.drew hb|exact bt (aAI _ _).drew.drew.drew hb);clear hb;obtain⟨q0,q1,q2,q3,q4,q5,q6,q7,q8,q9,qB⟩:=id hD)
   go_loopw [3,4] (fun v i wr=> ∃k:Nat,k<=12/\i=.int .i64 ((k:Int)+1)/\wr.ownsRow w'.heap.size 3 1 v (dY d.mo k).length ((dY d.mo k).map (Value.int .i64))/\Below w'.heap.size w' wr) (fun _ i _=>13 - (intOf i).toNat)
   case atStart=>exact⟨0,aJS _,rfl,aTX _ _ _ _,aAI _ _⟩
   case round=>
    obtain⟨k,hk,rfl,hown,hb⟩:=hrel;clear q0 q1 q2 q3 q4 q5 q6 q7 q8 q9 qB
    by_cases hlt:k<12
    . have hle:=aEl d.mo k;have hD2:=hD.later hb;obtain⟨q0,q1,q2,q3,q4,q5,q6,q7,q8,q9,qB⟩:=id hD2
      cases ha:jE d.mo ((k:Int)+1)
      . as_aux_lemma=>
         have HA:=rG (fun w=>HT.out k hlt 0 (by rw[ha];rfl) w);have HE:=rG (NY ha);have HO:=rG hown;have HB:=rG hb;clear ha hown hb
         go_wp2_with (go_at_call 123;with_reducible refine(HA.out _).mono ?_;rintro _ w2 ⟨rfl,hb⟩)
         have HB2:=rG (bt HB.out hb);have hO2:=rG (own_below HO.out hb)
         go_roundw
         case rel=>exact⟨k+1,by omega,by go_num,by rw[HE.out];exact hO2.out,HB2.out⟩
         case measure=>simp[intOf];omega
      as_aux_lemma=>
       have HA:=rG (fun w=>HT.out k hlt 1 (by rw[ha];rfl) w);have HE:=rG (EZ ha);have HO:=rG hown;have HB:=rG hb;clear ha hown hb
       go_wp2_with (first
        |(go_at_call 123;with_reducible refine(HA.out _).mono ?_;rintro _ w2 ⟨rfl,hb⟩;have hown:=own_below HO.out hb;have hB1:=bt HB.out hb)
        |(at_builtin;refine aWh _ rfl _ _ 114 rfl w'.heap.size 3 i0 (.int .i64 0) 1 8 Tryz.underlying114 HI.out HZ0.out HZ1.out HZ2.out rfl (by decide) _ _ _ rfl (hown.alloc _) ⟨w2.heap.size,0,none⟩ 1 1 [.int .i64 ((k:Int)+1)] rfl rfl ?c1 ?c2 ?c3 ?c4 ?c5 ?_))
       case c1=>
        intro j u hj
        match j,hj with
        |0,hj=>simp at hj;subst hj;simp[Addr.add]
       case c2=>intro u hu;simp at hu;subst hu;rfl
       case c3=>unfold maxLen;omega
       case c4=>omega
       case c5=>have:=hB1.size;simp;omega
       intro v' w3 hown' hgrow _;have hB2:=(hB1.alloc hB1.size (.cells #[.int .i64 ((k:Int)+1)] 3)).grown hgrow (by have:=hB1.size;simp;omega) (fun j hj=>(hown.lt j hj).1);have hO2:w3.ownsRow w'.heap.size 3 1 v' (dY d.mo (k+1)).length ((dY d.mo (k+1)).map (Value.int .i64)):=by rw[HE.out];simpa using hown'
       replace hB2:=rG hB2;replace hO2:=rG hO2;clear hown' hgrow hown hB1
       go_wp2
       go_roundw
       case rel=>exact⟨k+1,by omega,by go_num,hO2.out,hB2.out⟩
       case measure=>simp[intOf];omega
    as_aux_lemma=>
     obtain rfl:k=12:=by omega
     have hS:=bD.own hown SN.out;have HB:=rG (bt hD.below hb);replace hS:=rG hS;clear hown hb HT
     go_wp2
     go_ret
     exact⟨_,rfl,hS.out,HB.out⟩
 have x0:=WY h2;rw[Dt.BP h1 h2];clear hbd h1 h2 hf HS
 go_enter Tryz.func124,Tryz.ntmps124
 go_upto_region 1 with(fail)
 generalize World.alloc _ _=W0 at hD ⊢;obtain⟨q0,q1,q2,q3,q4,q5,q6,q7,q8,q9,qB⟩:=id hD
 go_wp2_with fail
 go_ret
 exact⟨_,rfl,bD.lit (w:=w) 0,ba hD.below _⟩
end Bk
end
section
open Go.RowKit Go.Lib
namespace Bk
open Un (ba bt ri rb aS aZ)
def Dt.yl(d:Dt)(y m:Int):List Int:=if d.da.size=0 then[0]else dY d.da (Cal.len y m).toNat
def aK6(y m k:Int):List Value:=[.int .i64 y,.int .i64 m,.int .i64 k]
def rQ(y m:Int)(l:List Int):List Value:=l.flatMap fun k=>aK6 y m k
def Dt.nH(d:Dt)(y:Int)(ms:List Int):Nat:=(ms.map fun m=>(d.yl y m).length).sum
def Dt.lG(d:Dt)(y:Int)(ms:List Int):List Value:=ms.flatMap fun m=>rQ y m (d.yl y m)
theorem aAm(y m:Int)(l:List Int)(k:Int):rQ y m (l++[k])=rQ y m l++aK6 y m k:=by unfold rQ;rw[aWx];simp
theorem Dt.aET(d:Dt)(y:Int)(ms:List Int)(m:Int):d.nH y (ms++[m])=d.nH y ms+(d.yl y m).length:=by unfold Dt.nH;simp
theorem Dt.YA(d:Dt)(y:Int)(ms:List Int)(m:Int):d.lG y (ms++[m])=d.lG y ms++rQ y m (d.yl y m):=by unfold Dt.lG;rw[aWx];simp
theorem VP{d:Dt}{y m k:Int}:k ∈ d.yl y m↔(k ∈ d.ds/\k<=d.len y m):=by
 have hl:=Cal.eG y m;unfold Dt.yl Dt.len Dt.ds
 by_cases c:d.da.size=0
 . rw[aDk c,aDk c,aDk c];simp;omega
 rw[aBx c,aBx c,aBx c,fA,fA];constructor
 . rintro⟨h1,h2,h3⟩;exact⟨⟨h1,by omega,h3⟩,by omega⟩
 rintro⟨⟨h1,h2,h3⟩,h4⟩;exact⟨h1,by omega,h3⟩
theorem UL(d:Dt)(y:Int): ∀ms:List Int,d.nH y ms<=31 * ms.length
 |[]=>aJS _
 | m::r=>by
  have:=UL d y r;have h2:(d.yl y m).length<=31:=by
   unfold Dt.yl
   split
   . simp
   have:=pR d.da (Cal.len y m).toNat;have:=Cal.eG y m;omega
  unfold Dt.nH at *;simp at *;omega
theorem BN{w:World}{base base':Nat}{e:TypeId}{size:Nat}{v:Value}{n:Nat}{xs:List Value}(h:w.ownsRow base e size v n xs)(hb:base'<=base):w.ownsRow base' e size v n xs:=
 ⟨h.1,h.2.imp id fun⟨g,cap,cur,h1,h2,h3⟩=>⟨g,cap,cur,h1,aHU hb h2,h3⟩⟩
theorem aAz:(Tryz.prog.info? 112).map (fun i=>(i.zero,i.size,i.bytes))=some (some (.agg #[.int .i64 0,.int .i64 0,.int .i64 0]),3,24):=by kernel_rfl
def aV1(d:Dt)(y:Int)(w:World)(e:Ending)(w':World):Prop:= ∃v,e=.returned v/\w'.ownsRow w.heap.size 112 3 v (d.nH y d.ms) (d.lG y d.ms)/\Below w.heap.size w w'
theorem aDT (d:Dt) (y:Int) (w:World) (hf:d.form=0):
 Calls Tryz.prog 99 #[aV d,.int .i64 y] w (aV1 d y w):=by
 have hD:=Dm.new d w 37;have HM:=rG (fun w=>ZG d w hf);have hmm:=rG (fmm hf);have hml:=d.MC;unfold aV at HM;unfold aV;obtain⟨i0,hi,hz0,hz1,hz2⟩:=aW9 aAz;have HI:=rG hi;have HZ0:=rG hz0;have HZ1:=rG hz1;have HZ2:=rG hz2;clear hi hz0 hz1 hz2 hf
 go_enter Tryz.func99,Tryz.ntmps99
 go_upto_region 1 with(fail)
 generalize World.alloc _ _=W0 at hD ⊢;obtain⟨q0,q1,q2,q3,q4,q5,q6,q7,q8,q9,qB⟩:=id hD
 go_wp2_with (go_at_call 124;refine(HM.out _).mono ?_;rintro _ w1 ⟨mv,rfl,hm,hb⟩;replace hD:=hD.later hb;clear hb)
 clear HM;obtain⟨gm,cm,rfl,hg,hc⟩:=hm;have HC:=rG hc;clear hc q0 q1 q2 q3 q4 q5 q6 q7 q8 q9 qB;have HW1:=rG hD.below
 go_loopw [5,7] (fun v i wr=> ∃k:Nat,k<=d.ms.length/\i=.int .i64 k/\wr.ownsRow w1.heap.size 112 3 v (d.nH y (d.ms.take k)) (d.lG y (d.ms.take k))/\Below w1.heap.size w1 wr) (fun _ i _=>14 - (intOf i).toNat)
 case atStart=>exact⟨0,aJS _,rfl,aTX _ _ _ _,aAI _ _⟩
 case round =>
  obtain⟨k,hk,rfl,hown,hb⟩:=hrel;have hD2:=hD.later hb;obtain⟨q0,q1,q2,q3,q4,q5,q6,q7,q8,q9,qB⟩:=id hD2
  by_cases hlt:k<d.ms.length
  . have hcell:wr.cell? ⟨gm,k,none⟩=some (.int .i64 (d.ms[k]'hlt)):=(hb.cell (p:=⟨gm,k,none⟩) hg).trans (HC.out k hlt);have htk:d.ms.take (k+1)=d.ms.take k++[d.ms[k]'hlt]:=by rw[aWf hlt]
    have HL1:=rG (htk ▸ d.aET y (d.ms.take k) (d.ms[k]'hlt):d.nH y (d.ms.take (k+1))=d.nH y (d.ms.take k)+(d.yl y (d.ms[k]'hlt)).length);have HL2:=rG (htk ▸ d.YA y (d.ms.take k) (d.ms[k]'hlt):d.lG y (d.ms.take (k+1))=d.lG y (d.ms.take k)++rQ y (d.ms[k]'hlt) (d.yl y (d.ms[k]'hlt)));have hle:=UL d y (d.ms.take k);have htl:(d.ms.take k).length<=k:=List.length_take_le _ _;have aR8:=fun h=>hmm.out h (d.ms[k]'hlt) (aRy hlt);generalize d.nH y (d.ms.take k)=N0 at *;generalize d.lG y (d.ms.take k)=C0 at *;have HM0:=rG (HC.out k hlt);generalize (d.ms[k]'hlt)=m at *;clear htk;rcases fB d.da with⟨e1,x1⟩|⟨e1,x1⟩
    . have eyl:d.yl y m=[0]:=by unfold Dt.yl;rw[aDk e1]
      rw[eyl]at HL1 HL2;have HB:=rG hb;clear eyl aR8 e1 hb
      as_aux_lemma=>
       go_wp2_with (at_builtin;refine aWh _ rfl _ _ 125 rfl w1.heap.size 112 i0 (.agg #[.int .i64 0,.int .i64 0,.int .i64 0]) 3 24 Tryz.underlying125 HI.out HZ0.out HZ1.out HZ2.out rfl (by decide) _ _ _ rfl (hown.alloc _) ⟨wr.heap.size,0,none⟩ 1 1 [.int .i64 y,.int .i64 m,.int .i64 0] rfl rfl ?c1 ?c2 ?c3 ?c4 ?c5 ?_)
       case c1=>
        intro j u hj
        match j,hj with
        |0,hj=>simp at hj;subst hj;simp[Addr.add]
        |1,hj=>simp at hj;subst hj;simp[Addr.add]
        |2,hj=>simp at hj;subst hj;simp[Addr.add]
       case c2=>intro u hu;simp at hu;rcases hu with rfl|rfl|rfl<;>rfl
       case c3=>unfold maxLen;omega
       case c4=>omega
       case c5=>have:=HB.out.size;simp;omega
       intro v' w3 hown' hgrow _;have hB2:=(HB.out.alloc HB.out.size (.cells #[.int .i64 y,.int .i64 m,.int .i64 0] 112)).grown hgrow (by have:=HB.out.size;simp;omega) (fun j hj=>(hown.lt j hj).1);have hO2:w3.ownsRow w1.heap.size 112 3 v' (d.nH y (d.ms.take (k+1))) (d.lG y (d.ms.take (k+1))):=by rw[HL1.out,HL2.out];exact hown'
       replace hB2:=rG hB2;replace hO2:=rG hO2;clear hown' hgrow hown
       go_wp2
       go_roundw
       case rel=>exact⟨k+1,by omega,by go_num,hO2.out,hB2.out⟩
       case measure=>simp[intOf];omega
    obtain ⟨m0,m12⟩:=aR8 e1;have eyl:d.yl y m=dY d.da (Cal.len y m).toNat:=by unfold Dt.yl;rw[aBx e1]
    have hlb:=Cal.eG y m;have HLen:=rG (fun w=>aIo y m w m0 m12);rw[eyl]at HL1 HL2;have HT:=rG (fun(j:Nat) (hj:j<31) (x:Int) (hx:x=if jE d.da ((j:Int)+1)then 1 else 0) w=>(by rw[hx];exact vX d.da (j+1) w (by omega):Calls Tryz.prog 123 #[.string d.da,.int .i64 ((j:Int)+1)] w fun r w'=>r=.returned (.int .i64 x)/\Below w.heap.size w w'));obtain⟨L,hL⟩: ∃L:Nat,Cal.len y m=L:=⟨(Cal.len y m).toNat,by omega⟩;rw[hL]at HLen HL1 HL2 hlb;rw[aQ4]at HL1 HL2;clear eyl aR8 e1 hL m0 m12;have HB:=rG hb;clear hb
    go_wp2
    clear q0 q1 q2 q3 q4 q5 q6 q7 q8 q9 qB
    go_loopw [5,8] (fun v i wr2=> ∃j:Nat,j<=L/\i=Value.int .i64 ((j:Int)+1)/\wr2.ownsRow w1.heap.size 112 3 v (N0+(dY d.da j).length) (C0++rQ y m (dY d.da j))/\Below w1.heap.size w1 wr2) (fun _ i _=>33 - (intOf i).toNat)
    case atStart=>exact⟨0,aJS _,rfl,by simpa[dY,rQ]using hown,HB.out⟩
    case round=>
     obtain⟨j,hj,rfl,hown,hb⟩:=hrel;have hD2:=hD.later hb;obtain⟨q0,q1,q2,q3,q4,q5,q6,q7,q8,q9,qB⟩:=id hD2;have hcell:wr.cell? ⟨gm,k,none⟩=some (.int .i64 m):=by exact(hb.cell (p:=⟨gm,k,none⟩) hg).trans HM0.out
     by_cases hlt2:j<L
     . have hle2:=pR d.da j
       cases ha:jE d.da ((j:Int)+1)
       . have HA:=rG (fun w=>HT.out j (by omega) 0 (by rw[ha];rfl) w);have HE:=rG (NY ha);have HO:=rG hown;have HB3:=rG hb;clear ha hown hb
         as_aux_lemma=>
          go_wp2_with (first
           |(go_at_call 125;with_reducible refine(HLen.out _).mono ?_;rintro _ w' ⟨rfl,rfl⟩)
           |(go_at_call 123;with_reducible refine(HA.out _).mono ?_;rintro _ w4 ⟨rfl,hb⟩))
          have HB4:=rG (bt HB3.out hb);have hO2:=rG (own_below HO.out hb)
          go_roundw
          case rel=>exact⟨j+1,by omega,by go_num,by rw[HE.out];exact hO2.out,HB4.out⟩
          case measure=>simp[intOf];omega
       have HA:=rG (fun w=>HT.out j (by omega) 1 (by rw[ha];rfl) w);have HE:=rG (EZ ha);have HO:=rG hown;have HB3:=rG hb;clear ha hown hb
       as_aux_lemma=>
        go_wp2_with (first
         |(go_at_call 125;with_reducible refine(HLen.out _).mono ?_;rintro _ w' ⟨rfl,rfl⟩)
         |(go_at_call 123;with_reducible refine(HA.out _).mono ?_;rintro _ w4 ⟨rfl,hb⟩;have hown:=own_below HO.out hb;have hB1:=bt HB3.out hb;have hcell2:w4.cell? ⟨gm,k,none⟩=some (.int .i64 m):=(hB1.cell (p:=⟨gm,k,none⟩) hg).trans HM0.out)
         |(at_builtin;refine aWh _ rfl _ _ 125 rfl w1.heap.size 112 i0 (.agg #[.int .i64 0,.int .i64 0,.int .i64 0]) 3 24 Tryz.underlying125 HI.out HZ0.out HZ1.out HZ2.out rfl (by decide) _ _ _ rfl (hown.alloc _) ⟨w4.heap.size,0,none⟩ 1 1 [.int .i64 y,.int .i64 m,.int .i64 ((j:Int)+1)] rfl rfl ?c1 ?c2 ?c3 ?c4 ?c5 ?_))
        case c1=>
         intro j u hj
         match j,hj with
         |0,hj=>simp at hj;subst hj;simp[Addr.add]
         |1,hj=>simp at hj;subst hj;simp[Addr.add]
         |2,hj=>simp at hj;subst hj;simp[Addr.add]
        case c2=>intro u hu;simp at hu;rcases hu with rfl|rfl|rfl<;>rfl
        case c3=>unfold maxLen;omega
        case c4=>omega
        case c5=>have:=hB1.size;simp;omega
        intro v' w3 hown' hgrow _;have hB2:=(hB1.alloc hB1.size (.cells #[.int .i64 y,.int .i64 m,.int .i64 ((j:Int)+1)] 112)).grown hgrow (by have:=hB1.size;simp;omega) (fun j hj=>(hown.lt j hj).1);have hO2:w3.ownsRow w1.heap.size 112 3 v' (N0+(dY d.da (j+1)).length) (C0++rQ y m (dY d.da (j+1))):=by
         rw[HE.out,aAm,aS9,<-aR2];exact hown'
        replace hB2:=rG hB2;replace hO2:=rG hO2;clear hown' hgrow hown
        go_wp2
        go_roundw
        case rel=>exact⟨j+1,by omega,by go_num,hO2.out,hB2.out⟩
        case measure=>simp[intOf];omega
     obtain rfl:j=L:=by omega
     have hO2:wr.ownsRow w1.heap.size 112 3 u5 (d.nH y (d.ms.take (k+1))) (d.lG y (d.ms.take (k+1))):=by rw[HL1.out,HL2.out];exact hown
     replace hO2:=rG hO2;have HB3:=rG hb;clear hown hb
     as_aux_lemma=>
      go_wp2_with (go_at_call 125;with_reducible refine(HLen.out _).mono ?_;rintro _ w' ⟨rfl,rfl⟩)
      go_roundw
      case rel=>exact⟨k+1,by omega,by go_num,hO2.out,HB3.out⟩
      case measure=>simp[intOf];omega
  obtain rfl:k=d.ms.length:=by omega
  rw[aXV]at hown;have HO:=rG (BN hown HW1.out.size);have HB:=rG (bt HW1.out hb);clear hown hb HC hmm
  go_wp2
  go_ret
  exact⟨_,rfl,HO.out,HB.out⟩
theorem X6{d:Dt}{y:Int}:0<d.nH y d.ms↔ ∃m k,m ∈ d.ms/\k ∈ d.ds/\k<=d.len y m:=by
 unfold Dt.nH;constructor
 . intro h
   by_cases c: ∃m,m ∈ d.ms/\d.yl y m≠[]
   . obtain⟨m,hm,hn⟩:=c;obtain⟨k,hk⟩:=List.exists_mem_of_ne_nil _ hn;exact⟨m,k,hm,VP.1 hk⟩
   exfalso;have:(d.ms.map fun m=>(d.yl y m).length).sum=0:=by
    have h2: ∀l:List Int,(∀m,m ∈ l->d.yl y m=[])->(l.map fun m=>(d.yl y m).length).sum=0:=by
     intro l
     induction l with
     |nil=>intro _;rfl
     |cons a l ih=>intro h;simp[h a (aHB ..),ih (fun m hm=>h m (aHJ _ hm))]
    exact h2 d.ms (fun m hm=>by
     cases e:d.yl y m with
     |nil=>rfl
     |cons a l=>exact absurd ⟨m,hm,by rw[e];simp⟩ c)
   omega
 rintro⟨m,k,hm,hk⟩;have hk:=VP.2 hk;have h2: ∀l:List Int,m ∈ l->0<(l.map fun m=>(d.yl y m).length).sum:=by
  intro l
  induction l with
  |nil=>intro h;cases h
  |cons a l ih=>
   intro h;rcases aHC.1 h with rfl|h
   . have:0<(d.yl y m).length:=List.length_pos_of_mem hk;simp;omega
   have:=ih h;simp;omega
 exact h2 d.ms hm
theorem aFA{w:World}{base:Nat}{e:TypeId}{size:Nat}{v:Value}{n:Nat}{xs:List Value}(h:w.ownsRow base e size v n xs): ∃bs cp,v=.slice bs n cp:=by
 rcases h.2 with⟨rfl,rfl⟩|⟨g,cap,cur,rfl,_⟩
 . exact⟨none,0,rfl⟩
 exact⟨_,_,rfl⟩
theorem ZF (d:Dt) (w:World) (hy:d.dg.size<=1000) (hf:d.form=0) (hs:d.sig<=0):
 Calls Tryz.prog 72 #[aV d] w (aQi (∃y m k,d.Fill y m k) w):=by
 have hk:=(Dt.fC (Dt.iO hf).1).1;have hD:=Dm.new d w 37;have HSP:=rG (fun w=>SE d w hy hk hs);have HIN:=rG (fun y w h0 h1=>aDV d y w hy hk hs h0 h1);have HYL:=rG (fun y w=>aDT d y w hf);unfold yv at HSP HIN;unfold aV at HYL;unfold aV;obtain⟨P,hP⟩: ∃P:Prop,P= ∃y m k,d.Fill y m k:=⟨_,rfl⟩;rw[<-hP];have HP1:Hid (∀y,d.In y->0<d.nH y d.ms->P):=rG (fun y h1 h2=>by
  obtain⟨m,k,hm,hk⟩:=X6.1 h2;rw[hP];exact⟨y,m,k,h1,hm,hk⟩)
 have HP2:Hid (∀a b:Int,(∀y,d.In y->a<=y/\y<=b)->(∀y,a<=y->y<=b->d.In y->d.nH y d.ms=0)-> ¬P):=rG (fun a b h1 h2 c=>by
  rw[hP]at c;obtain⟨y,m,k,f1,f2,f3⟩:=c;have:=h1 y f1;have h0:=h2 y this.1 this.2 f1;have:=X6.2 ⟨m,k,f2,f3⟩;omega)
 clear hP hk hf
 go_enter Tryz.func72,Tryz.ntmps72
 go_upto_region 1 with(fail)
 generalize World.alloc _ _=W0 at hD ⊢;obtain⟨q0,q1,q2,q3,q4,q5,q6,q7,q8,q9,qB⟩:=id hD
 go_wp2_with (go_at_call 97;refine(HSP.out _).mono ?_;rintro _ w1 ⟨a,b,hab,a0,b0,rfl,hb⟩;replace hD:=hD.later hb;clear hb)
 have HAB:=rG hab;clear hab q0 q1 q2 q3 q4 q5 q6 q7 q8 q9 qB HSP
 go_loopw [5] (fun i wr=> ∃y:Int,a<=y/\(y<=b+1\/y=a)/\i=.int .i64 y/\(∀z,a<=z->z<y->d.In z->d.nH z d.ms=0)/\Dm w.heap.size d w wr) (fun i _=>(b+1 - intOf i).toNat)
 case atStart=>exact⟨a,by omega,.inr rfl,rfl,fun z h1 h2=>by omega,hD⟩
 case round=>
  obtain⟨y,hy0,hy1,rfl,hz,hD⟩:=hrel;obtain⟨q0,q1,q2,q3,q4,q5,q6,q7,q8,q9,qB⟩:=id hD;have HZ:=rG hz;clear hz
  by_cases hlt:y<=b
  . have HI:=rG (fun w=>HIN.out y w (by omega) (by omega))
    by_cases hi:d.In y
    . have HI2:Hid (∀w,Calls Tryz.prog 98 #[.agg #[.bool d.neg,.bool d.long,.string d.dg,.int .i64 d.ex,.int .i64 d.sig],.int .i64 y] w fun r w'=>r=.returned (.int .i64 1)/\Below w.heap.size w w'):=rG (fun w=>by
       refine(HI.out w).mono ?_;rintro e w' ⟨x,⟨rfl,_⟩|⟨rfl,h⟩,rfl,hb⟩
       . exact⟨rfl,hb⟩
       exact absurd hi h)
      have hL: ∀w,Calls Tryz.prog 99 #[.agg #[.bool d.neg,.bool d.long,.string d.dg,.int .i64 d.ex,.int .i64 d.sig,.string d.mo,.string d.da,.int .u8 d.m0,.int .u8 d.m1,.int .u8 d.m2],.int .i64 y] w fun r w'=>(∃bs cp,r=.returned (.slice bs (d.nH y d.ms) cp))/\Below w.heap.size w w':=fun w=>by
       refine(HYL.out y w).mono ?_;rintro e w' ⟨v,rfl,hown,hb⟩;obtain⟨bs,cp,rfl⟩:=aFA hown;exact⟨⟨bs,cp,rfl⟩,hb⟩
      by_cases hn:d.nH y d.ms=0
      . rw[hn]at hL;have HL:=rG hL;have HN:=rG hn;clear hL hn HI HYL HIN
        as_aux_lemma=>
         go_wp2_with (first
          |(go_at_call 98;with_reducible refine(HI2.out _).mono ?_;rintro _ w2 ⟨rfl,hb⟩;replace hD:=hD.later (by first|exact hb|exact bt (aAI _ _).drew hb|exact bt (aAI _ _).drew.drew hb|exact bt (aAI _ _).drew.drew.drew hb);clear hb;obtain⟨q0,q1,q2,q3,q4,q5,q6,q7,q8,q9,qB⟩:=id hD)
          |(go_at_call 99;with_reducible refine(HL.out _).mono ?_;rintro _ w3 ⟨⟨bs,cp,rfl⟩,hb⟩;replace hD:=hD.later (by first|exact hb|exact bt (aAI _ _).drew hb|exact bt (aAI _ _).drew.drew hb|exact bt (aAI _ _).drew.drew.drew hb);clear hb;obtain⟨q0,q1,q2,q3,q4,q5,q6,q7,q8,q9,qB⟩:=id hD))
         go_roundw
         case rel=>exact⟨y+1,by omega,.inl (by omega),by go_num,fun z h1 h2 h3=>by
          by_cases e:z=y
          . subst e;exact HN.out
          exact HZ.out z h1 (by omega) h3,hD⟩
         case measure=>simp[intOf];omega
      have HPP:=rG (HP1.out y hi (by omega));obtain⟨N,hN⟩: ∃N,d.nH y d.ms=N+1:=⟨d.nH y d.ms - 1,by omega⟩;rw[hN]at hL;have HL:=rG hL;clear hL hn HI HYL HIN hN
      as_aux_lemma=>
       go_wp2_with (first
        |(go_at_call 98;with_reducible refine(HI2.out _).mono ?_;rintro _ w2 ⟨rfl,hb⟩;replace hD:=hD.later (by first|exact hb|exact bt (aAI _ _).drew hb|exact bt (aAI _ _).drew.drew hb|exact bt (aAI _ _).drew.drew.drew hb);clear hb;obtain⟨q0,q1,q2,q3,q4,q5,q6,q7,q8,q9,qB⟩:=id hD)
        |(go_at_call 99;with_reducible refine(HL.out _).mono ?_;rintro _ w3 ⟨⟨bs,cp,rfl⟩,hb⟩;replace hD:=hD.later (by first|exact hb|exact bt (aAI _ _).drew hb|exact bt (aAI _ _).drew.drew hb|exact bt (aAI _ _).drew.drew.drew hb);clear hb;obtain⟨q0,q1,q2,q3,q4,q5,q6,q7,q8,q9,qB⟩:=id hD))
       all_goals first
        |(go_ret;exact⟨1,.inl ⟨rfl,HPP.out⟩,rfl,hD.below⟩)
        |(exfalso;omega)
    have HI2:Hid (∀w,Calls Tryz.prog 98 #[.agg #[.bool d.neg,.bool d.long,.string d.dg,.int .i64 d.ex,.int .i64 d.sig],.int .i64 y] w fun r w'=>r=.returned (.int .i64 0)/\Below w.heap.size w w'):=rG (fun w=>by
     refine(HI.out w).mono ?_;rintro e w' ⟨x,⟨rfl,h⟩|⟨rfl,_⟩,rfl,hb⟩
     . exact absurd h hi
     exact⟨rfl,hb⟩)
    have HN:=rG hi;clear HI HYL HIN hi
    as_aux_lemma=>
     go_wp2_with (go_at_call 98;with_reducible refine(HI2.out _).mono ?_;rintro _ w2 ⟨rfl,hb⟩;replace hD:=hD.later (by first|exact hb|exact bt (aAI _ _).drew hb|exact bt (aAI _ _).drew.drew hb|exact bt (aAI _ _).drew.drew.drew hb);clear hb;obtain⟨q0,q1,q2,q3,q4,q5,q6,q7,q8,q9,qB⟩:=id hD)
     go_roundw
     case rel=>exact⟨y+1,by omega,.inl (by omega),by go_num,fun z h1 h2 h3=>by
      by_cases e:z=y
      . subst e;exact absurd h3 HN.out
      exact HZ.out z h1 (by omega) h3,hD⟩
     case measure=>simp[intOf];omega
  have HNP:=rG (HP2.out a b HAB.out (fun z h1 h2 h3=>HZ.out z h1 (by omega) h3));clear HZ HAB HYL HIN
  as_aux_lemma=>
   go_wp2
   go_ret
   exact⟨0,.inr ⟨rfl,HNP.out⟩,rfl,hD.below⟩
theorem VA(d:Dt)(w:World)(hy:d.dg.size<=1000)(s0: -9223372036854775808<=d.sig)(s1:d.sig<9223372036854775808)(m0:0<=d.m0)(m1:0<=d.m1)(m2:0<=d.m2):
 Calls Tryz.prog 45 #[aV d] w fun r w'=>r=.returned (.int .i64 d.err)/\Below w.heap.size w w':=by
 have hD:=Dm.new d w 37;have HC:=rG (fun w=>ZH d w hy s0 s1 m0 m1 m2);unfold aV at HC;obtain⟨R,hR⟩: ∃R,R=d.err:=⟨_,rfl⟩;rw[<-hR];unfold aV
 by_cases hf:d.form=0
 case neg=>
  rw[wW hf]at hR;rw[<-hR]at HC hf;clear hR
  go_enter Tryz.func45,Tryz.ntmps45
  go_upto_region 1 with(fail)
  generalize World.alloc _ _=W0 at hD ⊢;obtain⟨q0,q1,q2,q3,q4,q5,q6,q7,q8,q9,qB⟩:=id hD
  go_wp2_with (go_at_call 71;with_reducible refine(HC.out _).mono ?_;rintro _ w' ⟨rfl,hb⟩;replace hD:=hD.later (by first|exact hb|exact bt (aAI _ _).drew hb|exact bt (aAI _ _).drew.drew hb|exact bt (aAI _ _).drew.drew.drew hb);clear hb;obtain⟨q0,q1,q2,q3,q4,q5,q6,q7,q8,q9,qB⟩:=id hD)
  go_ret
  exact⟨rfl,hD.below⟩
 rw[hf]at HC;rcases fB d.da with⟨c,x⟩|⟨c,x⟩
 case inl=>
  rw[TP hf c]at hR;subst hR;clear c hf
  go_enter Tryz.func45,Tryz.ntmps45
  go_upto_region 1 with(fail)
  generalize World.alloc _ _=W0 at hD ⊢;obtain⟨q0,q1,q2,q3,q4,q5,q6,q7,q8,q9,qB⟩:=id hD
  go_wp2_with (go_at_call 71;with_reducible refine(HC.out _).mono ?_;rintro _ w' ⟨rfl,hb⟩;replace hD:=hD.later (by first|exact hb|exact bt (aAI _ _).drew hb|exact bt (aAI _ _).drew.drew hb|exact bt (aAI _ _).drew.drew.drew hb);clear hb;obtain⟨q0,q1,q2,q3,q4,q5,q6,q7,q8,q9,qB⟩:=id hD)
  go_ret
  exact⟨rfl,hD.below⟩
 have hsg:d.sig<=0:=by
  have:=(Dt.fC (Dt.iO hf).1).2.1
  by_cases g:0<d.sig
  . exact absurd (fmd hf (this g)) c
  omega
 have hS:=fun w=>ZF d w hy hf hsg;unfold aV at hS
 by_cases hP: ∃y m k,d.Fill y m k
 . have HS:Hid (∀w,Calls Tryz.prog 72 #[.agg #[.bool d.neg,.bool d.long,.string d.dg,.int .i64 d.ex,.int .i64 d.sig,.string d.mo,.string d.da,.int .u8 d.m0,.int .u8 d.m1,.int .u8 d.m2]] w fun r w'=>r=.returned (.int .i64 1)/\Below w.heap.size w w'):=rG (fun w=>by
    refine(hS w).mono ?_;rintro e w' ⟨x,⟨rfl,_⟩|⟨rfl,h⟩,rfl,hb⟩
    . exact⟨rfl,hb⟩
    exact absurd hP h)
   have hR0:R=0:=by rw[hR];unfold Dt.err;rw[aBx (by omega),aBx (fun h=>h.2 hP)]
   subst hR0;clear hS hR hP hf c
   go_enter Tryz.func45,Tryz.ntmps45
   go_upto_region 1 with(fail)
   generalize World.alloc _ _=W0 at hD ⊢;obtain⟨q0,q1,q2,q3,q4,q5,q6,q7,q8,q9,qB⟩:=id hD
   go_wp2_with (first|(go_at_call 71;with_reducible refine(HC.out _).mono ?_;rintro _ w' ⟨rfl,hb⟩;replace hD:=hD.later (by first|exact hb|exact bt (aAI _ _).drew hb|exact bt (aAI _ _).drew.drew hb|exact bt (aAI _ _).drew.drew.drew hb);clear hb;obtain⟨q0,q1,q2,q3,q4,q5,q6,q7,q8,q9,qB⟩:=id hD)|(go_at_call 72;with_reducible refine(HS.out _).mono ?_;rintro _ w' ⟨rfl,hb⟩;replace hD:=hD.later (by first|exact hb|exact bt (aAI _ _).drew hb|exact bt (aAI _ _).drew.drew hb|exact bt (aAI _ _).drew.drew.drew hb);clear hb;obtain⟨q0,q1,q2,q3,q4,q5,q6,q7,q8,q9,qB⟩:=id hD))
   go_ret
   exact⟨rfl,hD.below⟩
 have HS:Hid (∀w,Calls Tryz.prog 72 #[.agg #[.bool d.neg,.bool d.long,.string d.dg,.int .i64 d.ex,.int .i64 d.sig,.string d.mo,.string d.da,.int .u8 d.m0,.int .u8 d.m1,.int .u8 d.m2]] w fun r w'=>r=.returned (.int .i64 0)/\Below w.heap.size w w'):=rG (fun w=>by
  refine(hS w).mono ?_;rintro e w' ⟨x,⟨rfl,h⟩|⟨rfl,_⟩,rfl,hb⟩
  . exact absurd h hP
  exact⟨rfl,hb⟩)
 have hR0:R=8:=by rw[hR];unfold Dt.err;rw[aBx (by omega),aDk ⟨c,hP⟩]
 subst hR0;clear hS hR hP hf c
 go_enter Tryz.func45,Tryz.ntmps45
 go_upto_region 1 with(fail)
 generalize World.alloc _ _=W0 at hD ⊢;obtain⟨q0,q1,q2,q3,q4,q5,q6,q7,q8,q9,qB⟩:=id hD
 go_wp2_with (first|(go_at_call 71;with_reducible refine(HC.out _).mono ?_;rintro _ w' ⟨rfl,hb⟩;replace hD:=hD.later (by first|exact hb|exact bt (aAI _ _).drew hb|exact bt (aAI _ _).drew.drew hb|exact bt (aAI _ _).drew.drew.drew hb);clear hb;obtain⟨q0,q1,q2,q3,q4,q5,q6,q7,q8,q9,qB⟩:=id hD)|(go_at_call 72;with_reducible refine(HS.out _).mono ?_;rintro _ w' ⟨rfl,hb⟩;replace hD:=hD.later (by first|exact hb|exact bt (aAI _ _).drew hb|exact bt (aAI _ _).drew.drew hb|exact bt (aAI _ _).drew.drew.drew hb);clear hb;obtain⟨q0,q1,q2,q3,q4,q5,q6,q7,q8,q9,qB⟩:=id hD))
 go_ret
 exact⟨rfl,hD.below⟩
end Bk
end
section
open Go.RowKit Go.Lib
namespace Sk
open Un (ba bt ri rb aI)
open Bk (Rw Dt aV hasB aX lD)
open Ev (bM eU hp)
theorem aEe(p d:Int):0<=(aI p d).2.2:=by
 unfold aI Un.mM
 (repeat' split)<;>simp
theorem aSp(k:Int)(n:Nat)(p a b sig c16 xx JR c10 be bf:Int)(zd zr zm zu zv X:Bool)(hc16:0<=c16)(hsig:c16=0->0<=sig)(hxx:xx=if X=true then 1 else 0)(h09:0<=JR)(hrt:JR=0->(a= -1\/a=0)/\(b=0\/b=1))(hbe:0<=be)(hbf:0<=bf):
 (cond (decide (k<1)) (.int .i64 (18)) (cond (decide (5<k)) (.int .i64 (18)) (cond (k==1) (cond (k==2) (.bool false) (cond zd (cond (k==3) (.bool false) (cond (p==0) (cond (decide (k<3)) (cond zr (cond (((n:Nat):Int)==0) (.int .i64 (17)) (.int .i64 c10)) (.int .i64 (5))) (.bool false)) (.int .i64 (5)))) (.int .i64 (5)))) (cond (decide (0<((n:Nat):Int))) (.int .i64 (5)) (cond (k==2) (cond (k==3) (.bool false) (cond (p==0) (cond (decide (k<3)) (cond zr (cond (decide (0<c16)) (.int .i64 c16) (cond (decide (0<sig)) (.int .i64 (1)) (cond (xx==0) (.int .i64 (1)) (cond zm (.int .i64 (0)) (.int .i64 (1)))))) (.int .i64 (5))) (.bool false)) (.int .i64 (5)))) (cond zd (cond (k==3) (cond (decide (k<3)) (.bool false) (cond (decide (p<1)) (.int .i64 (18)) (cond (decide (3<p)) (.int .i64 (18)) (cond (decide (0<JR)) (.int .i64 (1)) (cond (a==0) (cond (decide (0<be)) (.int .i64 (1)) (cond zu (cond (b==0) (cond (decide (0<bf)) (.int .i64 (1)) (cond zv (.int .i64 (0)) (.int .i64 (1)))) (.int .i64 (0))) (.int .i64 (1)))) (cond (b==0) (cond (decide (0<bf)) (.int .i64 (1)) (cond zv (.int .i64 (0)) (.int .i64 (1)))) (.int .i64 (1)))))))) (cond (p==0) (cond (decide (k<3)) (.bool false) (cond (decide (0<JR)) (.int .i64 (1)) (cond (k==4) (cond (a==0) (.int .i64 (1)) (cond (b==0) (cond (k==5) (.bool false) (.int .i64 (0))) (.int .i64 (1)))) (cond (k==5) (cond (a==0) (cond (b==0) (.int .i64 (1)) (.int .i64 (0))) (.int .i64 (1))) (.bool false))))) (.int .i64 (5)))) (.int .i64 (5))))))))=Value.int .i64 (zY k n p a b (qR k (decide (n=0)) zd (p==0) zr) c10 JR c16 sig X zm (!(decide (a≠0)&&decide (b≠0))&&decide (JR=0)&&(decide (a≠0)||(decide (be=0)&&zu))&&(decide (b≠0)||(decide (bf=0)&&zv)))):=by
 have e0:(((n:Nat):Int)==0)=decide (n=0):=by rw[aK8];simp
 have e1:decide (0<((n:Nat):Int))= !decide (n=0):=by rw[aK8];simp;omega
 rw[e0,e1];have hN: ∃N,N=decide (n=0):=⟨_,rfl⟩;obtain⟨N,hN⟩:=hN;have hn:(n=0)↔N=true:=by rw[hN];simp
 rw[<-hN];obtain⟨Q,hQ⟩: ∃Q,Q=(p==0):=⟨_,rfl⟩;have hq:(p=0)↔Q=true:=by rw[hQ];simp
 rw[<-hQ];clear e0 e1 hN hQ;unfold zY qR;have hk:k<1\/5<k\/k=1\/k=2\/k=3\/k=4\/k=5:=by omega
 rcases hk with h|h|rfl|rfl|rfl|rfl|rfl
 . rw[aDk (.inl h),aBz h];rfl
 . rw[aDk (.inr h),aBz h,aBy (by omega)];rfl
 . rw[aBx (by omega)]
   cases zd<;>cases zr<;>cases N<;>cases Q<;>simp_all
 . rw[aBx (by omega)];have e1:decide (0<c16)= !decide (c16=0):=by rw[aK8];simp;omega
   rw[e1]
   by_cases hc:c16=0
   . have e2:decide (0<sig)= !decide (sig=0):=by have:=hsig hc;rw[aK8];simp;omega
     rw[e2]
     by_cases hs:sig=0<;>cases X<;>cases zm<;>cases zd<;>cases zr<;>cases N<;>cases Q<;>simp_all
   cases zd<;>cases zr<;>cases N<;>cases Q<;>simp_all
 . rw [aBx (by omega)];have e1:decide (0<JR)= !decide (JR=0):=by rw[aK8];simp;omega
   have e2:decide (0<be)= !decide (be=0):=by rw[aK8];simp;omega
   have e3:decide (0<bf)= !decide (bf=0):=by rw[aK8];simp;omega
   rw[e1,e2,e3]
   by_cases h1:p<1
   . cases zd<;>cases N<;>simp_all
   by_cases h2:3<p
   . cases zd<;>cases N<;>simp_all
   have d1:=aBy h1;have d2:=aBy h2;have o:(p<1\/3<p)=False:=eq_false (by omega);rw[d1,d2];simp only[o,aSC];clear d1 d2 o h1 h2 hq
   cases zd
   . cases N<;>simp_all
   cases N
   . simp_all
   by_cases g1:JR=0
   . by_cases g2:a=0<;>by_cases g3:b=0<;>by_cases g4:be=0<;>by_cases g5:bf=0<;>cases zu<;>cases zv<;>simp_all
   simp_all
 . rw[aBx (by omega)];have e1:decide (0<JR)= !decide (JR=0):=by rw[aK8];simp;omega
   rw[e1]
   by_cases g1:JR=0
   . obtain⟨ha,hb⟩:=hrt g1;rcases ha with rfl|rfl<;>rcases hb with rfl|rfl<;>cases zd<;>cases N<;>cases Q<;>simp_all
   cases zd<;>cases N<;>cases Q<;>simp_all
 rw[aBx (by omega)];have e1:decide (0<JR)= !decide (JR=0):=by rw[aK8];simp;omega
 rw[e1]
 by_cases g1:JR=0
 . obtain⟨ha,hb⟩:=hrt g1;rcases ha with rfl|rfl<;>rcases hb with rfl|rfl<;>cases zd<;>cases N<;>cases Q<;>simp_all
 cases zd<;>cases N<;>cases Q<;>simp_all
theorem P6(k:Int)(bs:Option Addr)(n cp:Nat)(f:Nat->R4)(d:Dt)(p a lo b hi:Int)(zd zr M:Bool)(w0:World)(hst:bM eU.g.n eU.l w0 hp)(h:aMc k bs n f d p a lo b hi w0)(hk0:0<=k)
 (hd:X3 37 (aV d) (aV z0) zd) (hr:X3 42 (r4 a lo b hi) (r4 0 0 0 0) zr) (hm:X3 26 (.agg #[.int .u8 d.m0,.int .u8 d.m1,.int .u8 d.m2]) (.agg #[.int .u8 0,.int .u8 0,.int .u8 0]) M):
 Same w0 21 #[fam k (.slice bs n cp) d p a lo b hi] (.int .i64 (zY k n p a b (qR k (decide (n=0)) zd (p==0) zr) (kT f n) (dK a lo b hi) d.err d.sig (xX d) M (wV p a lo b hi))):=by
 have hpw:IntKind.i64.wrap p=p:=by rw[aHA];have:=h.p0;have:=h.p1;omega
 have hep:0<=d.err:=by
  by_cases c:d.err=0
  . omega
  have:=aEq c;omega
 have hrv:=U6 a lo b hi;have hrt:dK a lo b hi=0->(a= -1\/a=0)/\(b=0\/b=1):=fun e=>by
  have g:=pX e;have:=g.low;have:=g.high;omega
 refine fun W hb0=>(aQ3 k bs n cp d p a lo b hi (kT f n) d.err (if xX d then 1 else 0) (dK a lo b hi) 0 (aI p lo).1 0 (aI p lo).2.1 (aI p lo).2.2 0 (aI p hi).1 0 (aI p hi).2.1 (aI p hi).2.2 zd zr M (decide ((0:Int)=a/\(aI p lo).1=lo)) (decide ((0:Int)=b/\(aI p hi).2.1=hi)) hst hk0 hpw hd hr hm rfl rfl
  (fun W hb=>PZ f bs n cp W h.bd (h.run.later hb)) (fun W _=>Bk.VA d W h.dg h.s0 h.s1 h.m0 h.m1 h.m2) (fun W _=>aIn d W h.mo h.dg h.da) (fun W _=>yY a lo b hi W)
  (fun W _=>by rw[hpw];exact Un.lZ lo p W h.h0 h.h1) (fun W _=>by rw[hpw];exact Un.lZ hi p W h.h2 h.h3) W hb0).mono ?_
 rintro r w' ⟨rfl,hb⟩;refine⟨aTd Ending.returned ?_,hb⟩;rw[aSp (n:=n) (zd:=zd) (zr:=zr) (p:=p) (c10:=kT f n) (zm:=M) (X:=xX d) (hc16:=hep) (hsig:=aQZ) (hxx:=rfl) (h09:=by omega) (hrt:=hrt) (hbe:=aEe p lo) (hbf:=aEe p hi)]
 congr 2
 rw[aEm (p:=p) (a:=a) (lo:=lo) (b:=b) (hi:=hi) rfl (x:=(aI p lo).1) (y:=(aI p lo).2.1) (e:=(aI p lo).2.2) (x':=(aI p hi).1) (y':=(aI p hi).2.1) (e':=(aI p hi).2.2) rfl rfl]
 by_cases ha:a=0<;>by_cases hbb:b=0<;>simp[ha,hbb,eq_comm]
end Sk
end
section
open Go.RowKit Go.Lib
namespace Sk
open Un (ba bt ri rb aI dN)
open Bk (Rw Dt aV hasB aX lD)
open Ev (bM eU hp)
theorem Y1(bs:Option Addr)(n cp:Nat)(f:Nat->R4)(d:Dt)(p a lo b hi:Int)(w:World)(hs:qK w bs n f)(hn:0<n):
 Calls Tryz.prog 58 #[fam 1 (.slice bs n cp) d p a lo b hi] w fun r w'=>r=.returned (.iface 128 (r4 (f 0).a (f 0).lo (f 0).b (f 0).hi))/\Below w.heap.size w w':=by
 obtain⟨g,o,rfl,hg,e0,e1,e2,e3⟩:=hs 0 hn;have hR:Rw w.heap.size (lF 1 (.slice (some ⟨g,o,none⟩) n cp) d p a lo b hi) w _:=Rw.fresh (aAI _ _) _ 44;obtain⟨qa,ql,qb,qh,hq⟩: ∃qa ql qb qh,f 0=⟨qa,ql,qb,qh⟩:=⟨_,_,_,_,rfl⟩;rw[hq]at e0 e1 e2 e3 ⊢;simp only[aXM,aMk]at e0 e1 e2 e3;dsimp only at e0 e1 e2 e3 ⊢;have HE:=rG (And.intro hg (And.intro e0 (And.intro e1 (And.intro e2 e3))));clear hs hg e0 e1 e2 e3;unfold fam r4;have hn1:(0:Int)<n:=by omega
 go_enter Tryz.func58,Tryz.ntmps58
 go_upto_region 1 with(fail)
 have H0: ∀i,World.cell? (World.alloc w _) ⟨g,i,none⟩=w.cell? ⟨g,i,none⟩:=fun i=>(hR.below).cell (p:=⟨g,i,none⟩) HE.out.1;generalize World.alloc _ _=W0 at hR H0 ⊢;have c0:=hR.cell 0 _ rfl;have c1:=hR.cell 1 _ rfl;have e0:=(H0 _).trans HE.out.2.1;have e1:=(H0 _).trans HE.out.2.2.1;have e2:=(H0 _).trans HE.out.2.2.2.1;have e3:=(H0 _).trans HE.out.2.2.2.2;clear H0
 go_wp2
 go_ret
 exact⟨rfl,hR.below⟩
end Sk
end

section
open Go.RowKit Go.Lib
namespace Sk
open Un (ba bt ri rb aI dN)
open Bk (Rw Dt aV hasB aX lD)
open Ev (bM eU hp)
def IY(k:Int)(n:Nat)(e:Int):Int:=if e≠0 then e else if k=1/\1<n then 14 else if 3<k then 1 else 0
theorem aQe(k c:Int)(n:Nat):(cond (c==0) (cond (k==1) (cond (decide (1<((n:Nat):Int))) (.int .i64 (14)) (cond (decide (3<k)) (.bool false) (.int .i64 (0)))) (cond (decide (3<k)) (.int .i64 (1)) (.int .i64 (0)))) (.int .i64 c))=Value.int .i64 (IY k n c):=by
 have e0:decide (1<((n:Nat):Int))=decide (1<n):=by rw[aK8];simp;omega
 rw[e0];unfold IY
 by_cases h1:c=0<;>by_cases h2:k=1<;>by_cases h3:1<n<;>by_cases h4:3<k<;>first|(exfalso;omega)|simp[h1,h2,h3,h4,aHF]
theorem aVH(k c:Int)(n:Nat)(hc:0<=c):(cond (decide (0<c)) (.int .i64 c) (cond (k==1) (cond (decide (1<((n:Nat):Int))) (.int .i64 (14)) (cond (decide (3<k)) (.bool false) (.int .i64 (0)))) (cond (decide (3<k)) (.int .i64 (1)) (.int .i64 (0)))))=Value.int .i64 (IY k n c):=by
 rw[<-aQe]
 by_cases h1:c=0
 . subst h1;simp
 have:0<c:=by omega
 simp[h1,this,aHF]
theorem aFj{w0:World}{k:Int}{bs:Option Addr}{n cp:Nat}{d:Dt}{p a lo b hi c:Int}(hst:bM eU.g.n eU.l w0 hp)(h:Same w0 22 #[fam k (.slice bs n cp) d p a lo b hi] (.int .i64 c)):
 Same w0 8 #[fam k (.slice bs n cp) d p a lo b hi] (.int .i64 (IY k n c)):=by
 have h2:=aIk k bs n cp d p a lo b hi c hst h;rw[aQe]at h2;exact h2
theorem aFv{w0:World}{k:Int}{bs:Option Addr}{n cp:Nat}{d:Dt}{p a lo b hi c:Int}(hst:bM eU.g.n eU.l w0 hp)(hc:0<=c)(h:Same w0 21 #[fam k (.slice bs n cp) d p a lo b hi] (.int .i64 c)):
 Same w0 7 #[fam k (.slice bs n cp) d p a lo b hi] (.int .i64 (IY k n c)):=by
 have h2:=aIp k bs n cp d p a lo b hi c hst h;rw[aVH k c n hc]at h2;exact h2
theorem JJ(p d:Int)(h0: -9223372036854775808<=d)(h1:d<9223372036854775808): -9223372036854775808<=(aI p d).1/\(aI p d).1<9223372036854775808:=by
 by_cases hp:p<1\/3<p
 . unfold aI;rw[aDk hp];dsimp only;omega
 by_cases h3:p=3
 . unfold aI Un.mM;rw[aBx hp,aDk h3];dsimp only;omega
 by_cases hy: -10000000000000000<=Cal.dH d/\Cal.dH d<=10000000000000000
 . unfold aI Un.mM;rw[aBx hp,aBx h3,aDk hy];have b1:=@Un.lV (Cal.dH d) (by omega) (by omega);obtain⟨s1,s2⟩:=Cal.gU d;have ss:=Cal.st_succ (Cal.dH d)
   split
   . dsimp only;omega
   obtain⟨m0,m1,m2,m3⟩:=@Cal.mG (Cal.dH d) (d - Cal.st (Cal.dH d)) (by omega) (by omega);have c0:=@Cal.fF (Cal.dH d) (Cal.DV (Cal.dH d) (d - Cal.st (Cal.dH d))) (by omega) (by omega);dsimp only;omega
 unfold aI Un.mM;rw[aBx hp,aBx h3,aBx hy];dsimp only;omega
end Sk
end
section
open Go.RowKit Go.Lib
namespace Sk
open Un (ba bt ri rb aI mM)
open Cal
open Bk (Rw Dt aV lD)
open Ev (bM eU hp)
def inR(a lo b hi:Int)(t:Int × Int × Int):RB:=if t.2.2=0/\0<=bW 0 t.1 a lo/\bW 0 t.2.1 b hi<=0 then⟨0,t.1,0,t.2.1,true⟩else⟨0,0,0,0,false⟩
section
variable{w0:World}{p a lo b hi:Int}
theorem NJ(ul uh e:Int)(hst:bM eU.g.n eU.l w0 hp):Same w0 269 #[.agg #[.int .i8 a,.int .i64 lo,.int .i8 b,.int .i64 hi,.int .u8 p],r4 0 ul 0 uh,.int .i64 e] (inR a lo b hi (ul,uh,e)).v:=by
 refine sV (aX5 a lo b hi p 0 ul 0 uh e (bW 0 ul a lo) (bW 0 uh b hi) hst (fun W _=>iG 0 ul a lo W) (fun W _=>iG 0 uh b hi W)) ?_;unfold inR;dsimp only
 by_cases h1:e=0
 . by_cases h2:bW 0 ul a lo<0
   . rw[aBx (by omega),h1,aBz h2];rfl
   by_cases h3:0<bW 0 uh b hi
   . rw[aBx (by omega),h1,aBy h2,aBz h3];rfl
   rw[aDk (by omega),h1,aBy h2,aBy h3];rfl
 rw[aBx (by omega),show(e==0)=false by simpa using h1];rfl
theorem BZ(day:Int)(hk:lD w0)(p0:0<=p)(p1:p<256)(h0: -9223372036854775808<=day)(h1:day<9223372036854775808):Same w0 85 #[.int .i64 day,.int .u8 p] (.tuple #[r4 0 (aI p day).1 0 (aI p day).2.1,.int .i64 (aI p day).2.2]):=fun W hb=>
 Un.rD day p W (hk.below hb).cal h0 h1 p0 p1
theorem SL(hk:lD w0)(hst:bM eU.g.n eU.l w0 hp)(p0:0<=p)(p1:p<256)(h0: -9223372036854775808<=lo)(h1:lo<9223372036854775808):
 Same w0 265 #[.agg #[.int .i8 a,.int .i64 lo,.int .i8 b,.int .i64 hi,.int .u8 p]] (if a=0 then inR a lo b hi (aI p lo)else⟨0,0,0,0,false⟩:RB).v:=by
 refine sV (aRW a lo b hi p _ _ _ _ _ _ _ _ hst (BZ lo hk p0 p1 h0 h1) (NJ _ _ _ hst)) ?_
 by_cases c:a=0
 . rw[aDk c,show(a==0)=true by simpa using c];rfl
 rw[aBx c,show(a==0)=false by simpa using c];rfl
theorem aAj(hk:lD w0)(hst:bM eU.g.n eU.l w0 hp)(p0:0<=p)(p1:p<256)(h0: -9223372036854775808<=hi)(h1:hi<9223372036854775808):
 Same w0 267 #[.agg #[.int .i8 a,.int .i64 lo,.int .i8 b,.int .i64 hi,.int .u8 p]] (if b=0 then inR a lo b hi (aI p hi)else⟨0,0,0,0,false⟩:RB).v:=by
 refine sV (aUS a lo b hi p _ _ _ _ _ _ _ _ hst (BZ hi hk p0 p1 h0 h1) (NJ _ _ _ hst)) ?_
 by_cases c:b=0
 . rw[aDk c,show(b==0)=true by simpa using c];rfl
 rw[aBx c,show(b==0)=false by simpa using c];rfl
end
end Sk
end
section
open Go.RowKit Go.Lib
namespace Sk
open Ev (bM DT LG eU aO hp tb0 aP kM vG kG iU mJ qF PD GL oN aU AV DW vH dS aB aC eF mD mX dX Lf zN eY aW fU)
open Bk (Dt aV)
def yx0:AV:=rK q8 (qi 17) q8 (qi 18)
def yx1:AV:=rK q8 (qi 18) q8 (qi 19)
def yx2:AV:=rK q8 (qi 21) q8 (qi 22)
def yx3:AV:=rK q8 (qi 24) q8 (qi 25)
def yx4:AV:=rK q8 (qi 27) q8 (qi 28)
def yx5:AV:=.aK [(rK q8 qz q8 qz),qz]
def yx6:AV:=.aK [yx0,(.v (.int .i64 1))]
def yx7:AV:=rK (qe 9) (qi 10) (qe 11) (qi 12)
def yx8:AV:=rK (qe 21) (qi 22) (qe 23) (qi 24)
def yx9:AV:=rK (qe 45) (qi 46) (qe 47) (qi 48)
def aQG:AV:=rK (qe 40) (qi 41) (qe 42) (qi 43)
def aMA:AV:=.aK [aQG,(qi 44)]
def aQF:AV:=rK (qe 35) (qi 36) (qe 37) (qi 38)
def aEQ:AV:=.aK [aQF,(qi 39)]
def aQE:AV:=rK (qe 30) (qi 31) (qe 32) (qi 33)
def X4:AV:=.aK [aQE,(qi 34)]
def DX:AV:=rK (qe 18) (qi 19) (qe 20) (qi 21)
def aHT:AV:=.aK [DX,(qb 22),(qi 23)]
def aTW:List AV:=[(qe 0),(qi 1),(qe 2),(qi 3),(qu 4)]
def aOQ:DT:=(.node 1 qz (qi 19) (.leaf yx5) (.node 0 (qe 13) q8 (.node 1 (qi 17) (qi 14) (.leaf yx5) (.node 0 (qe 15) q8 (.node 1 (qi 16) (qi 18) (.leaf yx5) (.leaf yx6)) (.leaf yx6))) (.node 0 (qe 15) q8 (.node 1 (qi 16) (qi 18) (.leaf yx5) (.leaf yx6)) (.leaf yx6))))
theorem aI2(l:Value):aOQ.ok eU l [] [] hp 60 LG 54 [bU (.v (.int .u8 3)),yx0,(qi 19)] []=true:=by kernel_rfl
theorem aUq(k:Int)(bs:Option Addr)(n cp:Nat)(d:Dt)(p a lo b hi:Int)(ul uh e:Int){w0:World}(hst:SS w0)  :Same w0 54 #[(fam 3 (.slice bs n cp) d p a lo b hi),(r4 0 ul 0 uh),(.int .i64 e)] (cond (decide (0<e)) (.tuple #[(r4 0 0 0 0),(.int .i64 0)]) (cond (a==0) (cond (decide (ul<lo)) (.tuple #[(r4 0 0 0 0),(.int .i64 0)]) (cond (b==0) (cond (decide (hi<uh)) (.tuple #[(r4 0 0 0 0),(.int .i64 0)]) (.tuple #[(r4 0 ul 0 uh),(.int .i64 1)])) (.tuple #[(r4 0 ul 0 uh),(.int .i64 1)]))) (cond (b==0) (cond (decide (hi<uh)) (.tuple #[(r4 0 0 0 0),(.int .i64 0)]) (.tuple #[(r4 0 ul 0 uh),(.int .i64 1)])) (.tuple #[(r4 0 ul 0 uh),(.int .i64 1)])))):=
 aB (aI2 (lv (lF k (.slice bs n cp) d p a lo b hi) [.int .i64 ul,.int .i64 uh,.int .i64 e])) (aO w0) hst .nil .nil (aC (by kernel_rfl)) (by kernel_rfl)
def aVQ:DT:=(.node 0 (qe 13) q8 (.leaf (.aK [yx8,(qi 25)])) (.leaf yx5))
theorem aRf(l:Value):aVQ.ok eU l [] [(47,[(qi 14),aU 6 .i64 [(qu 12)]],.aK [yx1,(qi 20)]),(54,[bU (.v (.int .u8 3)),yx1,(qi 20)],.aK [yx8,(qi 25)])] hp 60 LG 10 [bU (.v (.int .u8 3)),qz,(qi 17)] []=true:=by kernel_rfl
theorem rU0(k:Int)(bs:Option Addr)(n cp:Nat)(d:Dt)(p a lo b hi:Int)(day ul uh e ca cl cb ch ci:Int){w0:World}(hst:SS w0) (H0:Same w0 47 #[(.int .i64 lo),(.int .i64 (IntKind.i64.wrap p))] (.tuple #[(r4 0 ul 0 uh),(.int .i64 e)]))(H1:Same w0 54 #[(fam 3 (.slice bs n cp) d p a lo b hi),(r4 0 ul 0 uh),(.int .i64 e)] (.tuple #[(r4 ca cl cb ch),(.int .i64 ci)])):Same w0 10 #[(fam 3 (.slice bs n cp) d p a lo b hi),(.int .i64 0),(.int .i64 day)] (cond (a==0) (.tuple #[(r4 ca cl cb ch),(.int .i64 ci)]) (.tuple #[(r4 0 0 0 0),(.int .i64 0)])):=
 aB (aRf (lv (lF k (.slice bs n cp) d p a lo b hi) [.int .i64 day,.int .i64 ul,.int .i64 uh,.int .i64 e,.int .i8 ca,.int .i64 cl,.int .i8 cb,.int .i64 ch,.int .i64 ci])) (aO w0) hst .nil (.cons H0 (.cons H1 .nil)) (aC (by kernel_rfl)) (by kernel_rfl)
def aVP:DT:=(.node 0 (qe 15) q8 (.leaf (.aK [yx8,(qi 25)])) (.leaf yx5))
theorem aRe(l:Value):aVP.ok eU l [] [(47,[(qi 16),aU 6 .i64 [(qu 12)]],.aK [yx1,(qi 20)]),(54,[bU (.v (.int .u8 3)),yx1,(qi 20)],.aK [yx8,(qi 25)])] hp 60 LG 10 [bU (.v (.int .u8 3)),.v (.int .i64 1),(qi 17)] []=true:=by kernel_rfl
theorem rU1(k:Int)(bs:Option Addr)(n cp:Nat)(d:Dt)(p a lo b hi:Int)(day ul uh e ca cl cb ch ci:Int){w0:World}(hst:SS w0) (H0:Same w0 47 #[(.int .i64 hi),(.int .i64 (IntKind.i64.wrap p))] (.tuple #[(r4 0 ul 0 uh),(.int .i64 e)]))(H1:Same w0 54 #[(fam 3 (.slice bs n cp) d p a lo b hi),(r4 0 ul 0 uh),(.int .i64 e)] (.tuple #[(r4 ca cl cb ch),(.int .i64 ci)])):Same w0 10 #[(fam 3 (.slice bs n cp) d p a lo b hi),(.int .i64 1),(.int .i64 day)] (cond (b==0) (.tuple #[(r4 ca cl cb ch),(.int .i64 ci)]) (.tuple #[(r4 0 0 0 0),(.int .i64 0)])):=
 aB (aRe (lv (lF k (.slice bs n cp) d p a lo b hi) [.int .i64 day,.int .i64 ul,.int .i64 uh,.int .i64 e,.int .i8 ca,.int .i64 cl,.int .i8 cb,.int .i64 ch,.int .i64 ci])) (aO w0) hst .nil (.cons H0 (.cons H1 .nil)) (aC (by kernel_rfl)) (by kernel_rfl)
def aVO:DT:=(.node 0 (qi 20) qz (.leaf (.aK [yx8,(qi 25)])) (.leaf (.aK [yx8,(qi 25)])))
theorem aRd(l:Value):aVO.ok eU l [] [(47,[(qi 17),aU 6 .i64 [(qu 12)]],.aK [yx1,(qi 20)]),(54,[bU (.v (.int .u8 3)),yx1,(qi 20)],.aK [yx8,(qi 25)])] hp 60 LG 10 [bU (.v (.int .u8 3)),.v (.int .i64 2),(qi 17)] []=true:=by kernel_rfl
theorem rU2(k:Int)(bs:Option Addr)(n cp:Nat)(d:Dt)(p a lo b hi:Int)(day ul uh e ca cl cb ch ci:Int){w0:World}(hst:SS w0) (H0:Same w0 47 #[(.int .i64 day),(.int .i64 (IntKind.i64.wrap p))] (.tuple #[(r4 0 ul 0 uh),(.int .i64 e)]))(H1:Same w0 54 #[(fam 3 (.slice bs n cp) d p a lo b hi),(r4 0 ul 0 uh),(.int .i64 e)] (.tuple #[(r4 ca cl cb ch),(.int .i64 ci)])):Same w0 10 #[(fam 3 (.slice bs n cp) d p a lo b hi),(.int .i64 2),(.int .i64 day)] (cond (e==0) (.tuple #[(r4 ca cl cb ch),(.int .i64 ci)]) (.tuple #[(r4 ca cl cb ch),(.int .i64 ci)])):=
 aB (aRd (lv (lF k (.slice bs n cp) d p a lo b hi) [.int .i64 day,.int .i64 ul,.int .i64 uh,.int .i64 e,.int .i8 ca,.int .i64 cl,.int .i8 cb,.int .i64 ch,.int .i64 ci])) (aO w0) hst .nil (.cons H0 (.cons H1 .nil)) (aC (by kernel_rfl)) (by kernel_rfl)
def aVN:DT:=(.node 0 (qe 13) q8 (.node 1 (qi 17) (qi 14) (.node 0 (qi 26) qz (.node 1 (qi 24) (qi 14) (.node 0 (qi 29) qz (.leaf (.aK [yx9,(qi 49)])) (.leaf (.aK [yx9,(qi 49)]))) (.leaf aMA)) (.leaf aMA)) (.node 0 (qi 20) qz (.node 1 (qi 18) (qi 17) (.node 0 (qi 23) qz (.leaf aEQ) (.leaf aEQ)) (.leaf X4)) (.leaf X4))) (.node 0 (qi 20) qz (.node 1 (qi 18) (qi 17) (.node 0 (qi 23) qz (.leaf aEQ) (.leaf aEQ)) (.leaf X4)) (.leaf X4)))
theorem aRc(l:Value):aVN.ok eU l [] [(47,[(qi 17),aU 6 .i64 [(qu 12)]],.aK [yx1,(qi 20)]),(55,[yx1,aU 6 .i64 [(qu 12)],.v (.int .i64 1)],.aK [yx2,(qi 23)]),(47,[(qi 14),aU 6 .i64 [(qu 12)]],.aK [yx3,(qi 26)]),(55,[yx3,aU 6 .i64 [(qu 12)],.v (.int .i64 1)],.aK [yx4,(qi 29)]),(54,[bU (.v (.int .u8 3)),yx1,(qi 20)],.aK [aQE,(qi 34)]),(54,[bU (.v (.int .u8 3)),yx2,(qi 23)],.aK [aQF,(qi 39)]),(54,[bU (.v (.int .u8 3)),yx3,(qi 26)],.aK [aQG,(qi 44)]),(54,[bU (.v (.int .u8 3)),yx4,(qi 29)],.aK [yx9,(qi 49)])] hp 60 LG 10 [bU (.v (.int .u8 3)),.v (.int .i64 3),(qi 17)] []=true:=by kernel_rfl
theorem rU3(k:Int)(bs:Option Addr)(n cp:Nat)(d:Dt)(p a lo b hi:Int)(day ul uh e vl vh f xl xh g yl yh h ja jl jb jh ji qa ql qb qh qi ra rl rb rh ri sa sl sb sh si:Int){w0:World}(hst:SS w0) (H0:Same w0 47 #[(.int .i64 day),(.int .i64 (IntKind.i64.wrap p))] (.tuple #[(r4 0 ul 0 uh),(.int .i64 e)]))(H1:Same w0 55 #[(r4 0 ul 0 uh),(.int .i64 (IntKind.i64.wrap p)),(.int .i64 1)] (.tuple #[(r4 0 vl 0 vh),(.int .i64 f)]))(H2:Same w0 47 #[(.int .i64 lo),(.int .i64 (IntKind.i64.wrap p))] (.tuple #[(r4 0 xl 0 xh),(.int .i64 g)]))(H3:Same w0 55 #[(r4 0 xl 0 xh),(.int .i64 (IntKind.i64.wrap p)),(.int .i64 1)] (.tuple #[(r4 0 yl 0 yh),(.int .i64 h)]))(H4:Same w0 54 #[(fam 3 (.slice bs n cp) d p a lo b hi),(r4 0 ul 0 uh),(.int .i64 e)] (.tuple #[(r4 ja jl jb jh),(.int .i64 ji)]))(H5:Same w0 54 #[(fam 3 (.slice bs n cp) d p a lo b hi),(r4 0 vl 0 vh),(.int .i64 f)] (.tuple #[(r4 qa ql qb qh),(.int .i64 qi)]))(H6:Same w0 54 #[(fam 3 (.slice bs n cp) d p a lo b hi),(r4 0 xl 0 xh),(.int .i64 g)] (.tuple #[(r4 ra rl rb rh),(.int .i64 ri)]))(H7:Same w0 54 #[(fam 3 (.slice bs n cp) d p a lo b hi),(r4 0 yl 0 yh),(.int .i64 h)] (.tuple #[(r4 sa sl sb sh),(.int .i64 si)])):Same w0 10 #[(fam 3 (.slice bs n cp) d p a lo b hi),(.int .i64 3),(.int .i64 day)] (cond (a==0) (cond (decide (day<lo)) (cond (g==0) (cond (decide (xl<lo)) (cond (h==0) (.tuple #[(r4 sa sl sb sh),(.int .i64 si)]) (.tuple #[(r4 sa sl sb sh),(.int .i64 si)])) (.tuple #[(r4 ra rl rb rh),(.int .i64 ri)])) (.tuple #[(r4 ra rl rb rh),(.int .i64 ri)])) (cond (e==0) (cond (decide (ul<day)) (cond (f==0) (.tuple #[(r4 qa ql qb qh),(.int .i64 qi)]) (.tuple #[(r4 qa ql qb qh),(.int .i64 qi)])) (.tuple #[(r4 ja jl jb jh),(.int .i64 ji)])) (.tuple #[(r4 ja jl jb jh),(.int .i64 ji)]))) (cond (e==0) (cond (decide (ul<day)) (cond (f==0) (.tuple #[(r4 qa ql qb qh),(.int .i64 qi)]) (.tuple #[(r4 qa ql qb qh),(.int .i64 qi)])) (.tuple #[(r4 ja jl jb jh),(.int .i64 ji)])) (.tuple #[(r4 ja jl jb jh),(.int .i64 ji)]))):=
 aB (aRc (lv (lF k (.slice bs n cp) d p a lo b hi) [.int .i64 day,.int .i64 ul,.int .i64 uh,.int .i64 e,.int .i64 vl,.int .i64 vh,.int .i64 f,.int .i64 xl,.int .i64 xh,.int .i64 g,.int .i64 yl,.int .i64 yh,.int .i64 h,.int .i8 ja,.int .i64 jl,.int .i8 jb,.int .i64 jh,.int .i64 ji,.int .i8 qa,.int .i64 ql,.int .i8 qb,.int .i64 qh,.int .i64 qi,.int .i8 ra,.int .i64 rl,.int .i8 rb,.int .i64 rh,.int .i64 ri,.int .i8 sa,.int .i64 sl,.int .i8 sb,.int .i64 sh,.int .i64 si])) (aO w0) hst .nil (.cons H0 (.cons H1 (.cons H2 (.cons H3 (.cons H4 (.cons H5 (.cons H6 (.cons H7 .nil)))))))) (aC (by kernel_rfl)) (by kernel_rfl)
def aVM:DT:=(.node 0 (qe 15) q8 (.node 1 (qi 17) (qi 16) (.node 0 (qi 20) qz (.node 1 (qi 17) (qi 19) (.leaf aEQ) (.leaf X4)) (.leaf X4)) (.node 0 (qi 26) qz (.node 1 (qi 16) (qi 25) (.leaf (.aK [yx9,(qi 49)])) (.leaf aMA)) (.leaf aMA))) (.node 0 (qi 20) qz (.node 1 (qi 17) (qi 19) (.leaf aEQ) (.leaf X4)) (.leaf X4)))
theorem aRb(l:Value):aVM.ok eU l [] [(47,[(qi 17),aU 6 .i64 [(qu 12)]],.aK [yx1,(qi 20)]),(55,[yx1,aU 6 .i64 [(qu 12)],.v (.int .i64 (-1))],.aK [yx2,(qi 23)]),(47,[(qi 16),aU 6 .i64 [(qu 12)]],.aK [yx3,(qi 26)]),(55,[yx3,aU 6 .i64 [(qu 12)],.v (.int .i64 (-1))],.aK [yx4,(qi 29)]),(54,[bU (.v (.int .u8 3)),yx1,(qi 20)],.aK [aQE,(qi 34)]),(54,[bU (.v (.int .u8 3)),yx2,(qi 23)],.aK [aQF,(qi 39)]),(54,[bU (.v (.int .u8 3)),yx3,(qi 26)],.aK [aQG,(qi 44)]),(54,[bU (.v (.int .u8 3)),yx4,(qi 29)],.aK [yx9,(qi 49)])] hp 60 LG 10 [bU (.v (.int .u8 3)),.v (.int .i64 4),(qi 17)] []=true:=by kernel_rfl
theorem rU4(k:Int)(bs:Option Addr)(n cp:Nat)(d:Dt)(p a lo b hi:Int)(day ul uh e vl vh f xl xh g yl yh h ja jl jb jh ji qa ql qb qh qi ra rl rb rh ri sa sl sb sh si:Int){w0:World}(hst:SS w0) (H0:Same w0 47 #[(.int .i64 day),(.int .i64 (IntKind.i64.wrap p))] (.tuple #[(r4 0 ul 0 uh),(.int .i64 e)]))(H1:Same w0 55 #[(r4 0 ul 0 uh),(.int .i64 (IntKind.i64.wrap p)),(.int .i64 (-1))] (.tuple #[(r4 0 vl 0 vh),(.int .i64 f)]))(H2:Same w0 47 #[(.int .i64 hi),(.int .i64 (IntKind.i64.wrap p))] (.tuple #[(r4 0 xl 0 xh),(.int .i64 g)]))(H3:Same w0 55 #[(r4 0 xl 0 xh),(.int .i64 (IntKind.i64.wrap p)),(.int .i64 (-1))] (.tuple #[(r4 0 yl 0 yh),(.int .i64 h)]))(H4:Same w0 54 #[(fam 3 (.slice bs n cp) d p a lo b hi),(r4 0 ul 0 uh),(.int .i64 e)] (.tuple #[(r4 ja jl jb jh),(.int .i64 ji)]))(H5:Same w0 54 #[(fam 3 (.slice bs n cp) d p a lo b hi),(r4 0 vl 0 vh),(.int .i64 f)] (.tuple #[(r4 qa ql qb qh),(.int .i64 qi)]))(H6:Same w0 54 #[(fam 3 (.slice bs n cp) d p a lo b hi),(r4 0 xl 0 xh),(.int .i64 g)] (.tuple #[(r4 ra rl rb rh),(.int .i64 ri)]))(H7:Same w0 54 #[(fam 3 (.slice bs n cp) d p a lo b hi),(r4 0 yl 0 yh),(.int .i64 h)] (.tuple #[(r4 sa sl sb sh),(.int .i64 si)])):Same w0 10 #[(fam 3 (.slice bs n cp) d p a lo b hi),(.int .i64 4),(.int .i64 day)] (cond (b==0) (cond (decide (day<hi)) (cond (e==0) (cond (decide (day<uh)) (.tuple #[(r4 qa ql qb qh),(.int .i64 qi)]) (.tuple #[(r4 ja jl jb jh),(.int .i64 ji)])) (.tuple #[(r4 ja jl jb jh),(.int .i64 ji)])) (cond (g==0) (cond (decide (hi<xh)) (.tuple #[(r4 sa sl sb sh),(.int .i64 si)]) (.tuple #[(r4 ra rl rb rh),(.int .i64 ri)])) (.tuple #[(r4 ra rl rb rh),(.int .i64 ri)]))) (cond (e==0) (cond (decide (day<uh)) (.tuple #[(r4 qa ql qb qh),(.int .i64 qi)]) (.tuple #[(r4 ja jl jb jh),(.int .i64 ji)])) (.tuple #[(r4 ja jl jb jh),(.int .i64 ji)]))):=
 aB (aRb (lv (lF k (.slice bs n cp) d p a lo b hi) [.int .i64 day,.int .i64 ul,.int .i64 uh,.int .i64 e,.int .i64 vl,.int .i64 vh,.int .i64 f,.int .i64 xl,.int .i64 xh,.int .i64 g,.int .i64 yl,.int .i64 yh,.int .i64 h,.int .i8 ja,.int .i64 jl,.int .i8 jb,.int .i64 jh,.int .i64 ji,.int .i8 qa,.int .i64 ql,.int .i8 qb,.int .i64 qh,.int .i64 qi,.int .i8 ra,.int .i64 rl,.int .i8 rb,.int .i64 rh,.int .i64 ri,.int .i8 sa,.int .i64 sl,.int .i8 sb,.int .i64 sh,.int .i64 si])) (aO w0) hst .nil (.cons H0 (.cons H1 (.cons H2 (.cons H3 (.cons H4 (.cons H5 (.cons H6 (.cons H7 .nil)))))))) (aC (by kernel_rfl)) (by kernel_rfl)
def aOR:DT:=(.node 3 (qb 22) (qb 22) (.leaf (.aK [DX,qt,qz])) (.leaf (.aK [(rK q8 qz q8 qz),qf,qz])))
theorem aI3(l:Value):aOR.ok eU l [] [(8,[bU (.v (.int .u8 1))],qz),(58,[bU (.v (.int .u8 1))],.yM 128 DX),(262,[DX,(qi 17)],(qb 22))] hp 60 LG 29 [bU (.v (.int .u8 1)),(qi 17)] []=true:=by kernel_rfl
theorem aUv(k:Int)(bs:Option Addr)(n cp:Nat)(d:Dt)(p a lo b hi:Int)(day ua ul ub uh:Int)(z:Bool){w0:World}(hst:SS w0) (H0:Same w0 8 #[(fam 1 (.slice bs n cp) d p a lo b hi)] (.int .i64 0))(H1:Same w0 58 #[(fam 1 (.slice bs n cp) d p a lo b hi)] (.iface 128 (r4 ua ul ub uh)))(H2:Same w0 262 #[(r4 ua ul ub uh),(.int .i64 day)] (.bool z)):Same w0 29 #[(fam 1 (.slice bs n cp) d p a lo b hi),(.int .i64 day)] (cond z (.tuple #[(r4 ua ul ub uh),(.bool true),(.int .i64 0)]) (.tuple #[(r4 0 0 0 0),(.bool false),(.int .i64 0)])):=
 aB (aI3 (lv (lF k (.slice bs n cp) d p a lo b hi) [.int .i64 day,.int .i8 ua,.int .i64 ul,.int .i8 ub,.int .i64 uh,.bool z])) (aO w0) hst .nil (.cons H0 (.cons H1 (.cons H2 .nil))) (aC (by kernel_rfl)) (by kernel_rfl)
def aPd:DT:=(.leaf (.aK [DX,(qb 22),qz]))
theorem aJp(l:Value):aPd.ok eU l [] [(8,[bU (.v (.int .u8 2))],qz),(275,[xA,(qi 17)],.aK [DX,(qb 22)])] hp 60 LG 29 [bU (.v (.int .u8 2)),(qi 17)] []=true:=by kernel_rfl
theorem aVg(k:Int)(bs:Option Addr)(n cp:Nat)(d:Dt)(p a lo b hi:Int)(day ra rl rb rh:Int)(ri:Bool){w0:World}(hst:SS w0) (H0:Same w0 8 #[(fam 2 (.slice bs n cp) d p a lo b hi)] (.int .i64 0))(H1:Same w0 275 #[(aV d),(.int .i64 day)] (.tuple #[(r4 ra rl rb rh),(.bool ri)])):Same w0 29 #[(fam 2 (.slice bs n cp) d p a lo b hi),(.int .i64 day)] (.tuple #[(r4 ra rl rb rh),(.bool ri),(.int .i64 0)]):=
 aB (aJp (lv (lF k (.slice bs n cp) d p a lo b hi) [.int .i64 day,.int .i8 ra,.int .i64 rl,.int .i8 rb,.int .i64 rh,.bool ri])) (aO w0) hst .nil (.cons H0 (.cons H1 .nil)) (aC (by kernel_rfl)) (by kernel_rfl)
def aO3:DT:=(.leaf (.aK [DX,(qb 22),qz]))
theorem aJf(l:Value):aO3.ok eU l [] [(8,[bU (.v (.int .u8 3))],qz),(264,[.agg [(qe 13),(qi 14),(qe 15),(qi 16),(qu 12)],(qi 17)],.aK [DX,(qb 22)])] hp 60 LG 29 [bU (.v (.int .u8 3)),(qi 17)] []=true:=by kernel_rfl
theorem aUQ(k:Int)(bs:Option Addr)(n cp:Nat)(d:Dt)(p a lo b hi:Int)(day ra rl rb rh:Int)(ri:Bool){w0:World}(hst:SS w0) (H0:Same w0 8 #[(fam 3 (.slice bs n cp) d p a lo b hi)] (.int .i64 0))(H1:Same w0 264 #[(.agg #[(.int .i8 a),(.int .i64 lo),(.int .i8 b),(.int .i64 hi),(.int .u8 p)]),(.int .i64 day)] (.tuple #[(r4 ra rl rb rh),(.bool ri)])):Same w0 29 #[(fam 3 (.slice bs n cp) d p a lo b hi),(.int .i64 day)] (.tuple #[(r4 ra rl rb rh),(.bool ri),(.int .i64 0)]):=
 aB (aJf (lv (lF k (.slice bs n cp) d p a lo b hi) [.int .i64 day,.int .i8 ra,.int .i64 rl,.int .i8 rb,.int .i64 rh,.bool ri])) (aO w0) hst .nil (.cons H0 (.cons H1 .nil)) (aC (by kernel_rfl)) (by kernel_rfl)
def aVZ:DT:=(.leaf (.aK [yx7,(qb 13)]))
theorem aRo(l:Value):aVZ.ok eU l [] [(85,[(qi 5),(qu 4)],.aK [(rK q8 (qi 6) q8 (qi 7)),(qi 8)]),(269,[.agg aTW,(rK q8 (qi 6) q8 (qi 7)),(qi 8)],.aK [yx7,(qb 13)])] hp 60 LG 264 [.agg aTW,(qi 5)] []=true:=by kernel_rfl
theorem mAt(a lo b hi p day ul uh ue ra rl rb rh:Int)(ri:Bool){w0:World}(hst:SS w0) (H0:Same w0 85 #[(.int .i64 day),(.int .u8 p)] (.tuple #[(r4 0 ul 0 uh),(.int .i64 ue)]))(H1:Same w0 269 #[(.agg #[(.int .i8 a),(.int .i64 lo),(.int .i8 b),(.int .i64 hi),(.int .u8 p)]),(r4 0 ul 0 uh),(.int .i64 ue)] (.tuple #[(r4 ra rl rb rh),(.bool ri)])):Same w0 264 #[(.agg #[(.int .i8 a),(.int .i64 lo),(.int .i8 b),(.int .i64 hi),(.int .u8 p)]),(.int .i64 day)] (.tuple #[(r4 ra rl rb rh),(.bool ri)]):=
 aB (aRo (.agg #[.int .i8 a,.int .i64 lo,.int .i8 b,.int .i64 hi,.int .u8 p,.int .i64 day,.int .i64 ul,.int .i64 uh,.int .i64 ue,.int .i8 ra,.int .i64 rl,.int .i8 rb,.int .i64 rh,.bool ri])) (aO w0) hst .nil (.cons H0 (.cons H1 .nil)) (aC (by kernel_rfl)) (by kernel_rfl)
def aLV:DT:=(.leaf (oN 1))
theorem aF6(l:Value):aLV.ok eU l [] [] hp 60 LG 28 [bU (.v (.int .u8 1))] []=true:=by kernel_rfl
theorem aSn(k:Int)(bs:Option Addr)(n cp:Nat)(d:Dt)(p a lo b hi:Int) {w0:World}(hst:SS w0)  :Same w0 28 #[(fam 1 (.slice bs n cp) d p a lo b hi)] (.slice bs n cp):=
 aB (aF6 (lv (lF k (.slice bs n cp) d p a lo b hi) [])) (aO w0) hst .nil .nil (aC (by kernel_rfl)) (by kernel_rfl)
def aPc:DT:=(.leaf aHT)
theorem aJo(l:Value):aPc.ok eU l [] [(12,[bU (qu 0)],.aK [DX,(qb 22),(qi 23)])] hp 60 LG 11 [bU (qu 0),qz,(qi 17)] []=true:=by kernel_rfl
theorem aKD(k:Int)(bs:Option Addr)(n cp:Nat)(d:Dt)(p a lo b hi:Int)(day ra rl rb rh e:Int)(ri:Bool){w0:World}(hst:SS w0) (H0:Same w0 12 #[(fam k (.slice bs n cp) d p a lo b hi)] (.tuple #[(r4 ra rl rb rh),(.bool ri),(.int .i64 e)])):Same w0 11 #[(fam k (.slice bs n cp) d p a lo b hi),(.int .i64 0),(.int .i64 day)] (.tuple #[(r4 ra rl rb rh),(.bool ri),(.int .i64 e)]):=
 aB (aJo (lv (lF k (.slice bs n cp) d p a lo b hi) [.int .i64 day,.int .i8 ra,.int .i64 rl,.int .i8 rb,.int .i64 rh,.bool ri,.int .i64 e])) (aO w0) hst .nil (.cons H0 .nil) (aC (by kernel_rfl)) (by kernel_rfl)
def aPb:DT:=(.leaf aHT)
theorem aJn(l:Value):aPb.ok eU l [] [(15,[bU (qu 0)],.aK [DX,(qb 22),(qi 23)])] hp 60 LG 11 [bU (qu 0),.v (.int .i64 1),(qi 17)] []=true:=by kernel_rfl
theorem aKC(k:Int)(bs:Option Addr)(n cp:Nat)(d:Dt)(p a lo b hi:Int)(day ra rl rb rh e:Int)(ri:Bool){w0:World}(hst:SS w0) (H0:Same w0 15 #[(fam k (.slice bs n cp) d p a lo b hi)] (.tuple #[(r4 ra rl rb rh),(.bool ri),(.int .i64 e)])):Same w0 11 #[(fam k (.slice bs n cp) d p a lo b hi),(.int .i64 1),(.int .i64 day)] (.tuple #[(r4 ra rl rb rh),(.bool ri),(.int .i64 e)]):=
 aB (aJn (lv (lF k (.slice bs n cp) d p a lo b hi) [.int .i64 day,.int .i8 ra,.int .i64 rl,.int .i8 rb,.int .i64 rh,.bool ri,.int .i64 e])) (aO w0) hst .nil (.cons H0 .nil) (aC (by kernel_rfl)) (by kernel_rfl)
def aPa:DT:=(.leaf aHT)
theorem aJm(l:Value):aPa.ok eU l [] [(29,[bU (qu 0),(qi 17)],.aK [DX,(qb 22),(qi 23)])] hp 60 LG 11 [bU (qu 0),.v (.int .i64 2),(qi 17)] []=true:=by kernel_rfl
theorem aKB(k:Int)(bs:Option Addr)(n cp:Nat)(d:Dt)(p a lo b hi:Int)(day ra rl rb rh e:Int)(ri:Bool){w0:World}(hst:SS w0) (H0:Same w0 29 #[(fam k (.slice bs n cp) d p a lo b hi),(.int .i64 day)] (.tuple #[(r4 ra rl rb rh),(.bool ri),(.int .i64 e)])):Same w0 11 #[(fam k (.slice bs n cp) d p a lo b hi),(.int .i64 2),(.int .i64 day)] (.tuple #[(r4 ra rl rb rh),(.bool ri),(.int .i64 e)]):=
 aB (aJm (lv (lF k (.slice bs n cp) d p a lo b hi) [.int .i64 day,.int .i8 ra,.int .i64 rl,.int .i8 rb,.int .i64 rh,.bool ri,.int .i64 e])) (aO w0) hst .nil (.cons H0 .nil) (aC (by kernel_rfl)) (by kernel_rfl)
def aO9:DT:=(.leaf aHT)
theorem aJl(l:Value):aO9.ok eU l [] [(13,[bU (qu 0),(qi 17)],.aK [DX,(qb 22),(qi 23)])] hp 60 LG 11 [bU (qu 0),.v (.int .i64 3),(qi 17)] []=true:=by kernel_rfl
theorem aKA(k:Int)(bs:Option Addr)(n cp:Nat)(d:Dt)(p a lo b hi:Int)(day ra rl rb rh e:Int)(ri:Bool){w0:World}(hst:SS w0) (H0:Same w0 13 #[(fam k (.slice bs n cp) d p a lo b hi),(.int .i64 day)] (.tuple #[(r4 ra rl rb rh),(.bool ri),(.int .i64 e)])):Same w0 11 #[(fam k (.slice bs n cp) d p a lo b hi),(.int .i64 3),(.int .i64 day)] (.tuple #[(r4 ra rl rb rh),(.bool ri),(.int .i64 e)]):=
 aB (aJl (lv (lF k (.slice bs n cp) d p a lo b hi) [.int .i64 day,.int .i8 ra,.int .i64 rl,.int .i8 rb,.int .i64 rh,.bool ri,.int .i64 e])) (aO w0) hst .nil (.cons H0 .nil) (aC (by kernel_rfl)) (by kernel_rfl)
def aO8:DT:=(.leaf aHT)
theorem aJk(l:Value):aO8.ok eU l [] [(14,[bU (qu 0),(qi 17)],.aK [DX,(qb 22),(qi 23)])] hp 60 LG 11 [bU (qu 0),.v (.int .i64 4),(qi 17)] []=true:=by kernel_rfl
theorem aKz(k:Int)(bs:Option Addr)(n cp:Nat)(d:Dt)(p a lo b hi:Int)(day ra rl rb rh e:Int)(ri:Bool){w0:World}(hst:SS w0) (H0:Same w0 14 #[(fam k (.slice bs n cp) d p a lo b hi),(.int .i64 day)] (.tuple #[(r4 ra rl rb rh),(.bool ri),(.int .i64 e)])):Same w0 11 #[(fam k (.slice bs n cp) d p a lo b hi),(.int .i64 4),(.int .i64 day)] (.tuple #[(r4 ra rl rb rh),(.bool ri),(.int .i64 e)]):=
 aB (aJk (lv (lF k (.slice bs n cp) d p a lo b hi) [.int .i64 day,.int .i8 ra,.int .i64 rl,.int .i8 rb,.int .i64 rh,.bool ri,.int .i64 e])) (aO w0) hst .nil (.cons H0 .nil) (aC (by kernel_rfl)) (by kernel_rfl)
end Sk
end
section
open Go.RowKit Go.Lib
namespace Sk
open Bk (Dt aV)
def RB.w(r:RB):Value:=.tuple #[r4 r.a r.lo r.b r.hi,.int .i64 (cond r.is 1 0)]
def qM(w0:World)(k:Int)(bs:Option Addr)(n cp:Nat)(d:Dt)(p a lo b hi by' day:Int):Prop:=
 ∃r:RB,Same w0 11 #[fam k (.slice bs n cp) d p a lo b hi,.int .i64 by',.int .i64 day] (.tuple #[r4 r.a r.lo r.b r.hi,.bool r.is,.int .i64 0])/\Same w0 10 #[fam k (.slice bs n cp) d p a lo b hi,.int .i64 by',.int .i64 day] r.w
end Sk
end
section
open Go.RowKit
namespace Un
open Cal
theorem aB8(p a lo b hi x y e:Int)(w:World)(he0:0<=e)
 (HH: ∀W,Calls Tryz.prog 47 #[.int .i64 lo,.int .i64 p] W fun r w'=>r=.returned (.tuple #[rv 0 x 0 y,.int .i64 e])/\Below W.heap.size W w'):
 Calls Tryz.prog 87 #[rv a lo b hi,.int .i64 p] w fun r w'=>r=.returned (.int .i64 (if(decide (a=0)&&(decide (e=0)&&(decide (b=0)&&(decide (x=lo)&&decide (y=hi)))))then 1 else 0))/\Below w.heap.size w w':=
 Sk.lJ (Sk.aWR a lo b hi p x y e (decide (0=a/\x=lo/\0=b/\y=hi)) w (Sk.lW _ _ _ _ _ _ _ _ _ rfl) (fun W _=>HH W)) (by
  by_cases h1:a=0
  . by_cases h3:b=0
    . by_cases h2:e=0
      . by_cases h4:x=lo<;>by_cases h5:y=hi<;>simp_all [eq_comm]
      rw[aBz (show 0<e by omega)];simp[h1,h2]
    rw[show (b==0)=false by simpa using h3];simp[h1,h3]
  rw[show (a==0)=false by simpa using h1];simp[h1])
theorem iV(p d:Int):0<=(aI p d).2.2:=by
 unfold aI mM;(repeat' split)<;>(dsimp only;omega)
theorem SC(p a lo b hi:Int)(w:World)(h0: -9223372036854775808<=lo)(h1:lo<9223372036854775808):
 Calls Tryz.prog 87 #[rv a lo b hi,.int .i64 p] w fun r w'=>r=.returned (.int .i64 (if isC p a lo b hi then 1 else 0))/\Below w.heap.size w w':=
 aB8 p a lo b hi _ _ _ w (iV p lo) fun W=>lZ lo p W h0 h1
theorem PU(a lo b hi:Int)(w:World)(h: -3652425000000000000<=lo/\lo<3652425000000000366):
 Calls Tryz.prog 88 #[rv a lo b hi,.int .i64 1] w fun r w'=>r=.returned (.int .i64 (dH lo))/\Below w.heap.size w w':=by
 have HY:=rG (fun W=>oL lo W h.1 h.2);unfold rv
 go_enter Tryz.func88,Tryz.ntmps88
 go_wp2_with (go_at_call 75;refine(HY.out _).mono ?_;rintro e w' ⟨rfl,rfl⟩)
 go_ret
 exact⟨rfl,ba (aAI _ _) _⟩
theorem PS(a lo b hi:Int)(w:World)(h: -3652425000000000000<=lo/\lo<3652425000000000366):
 Calls Tryz.prog 88 #[rv a lo b hi,.int .i64 2] w fun r w'=>r=.returned (.int .i64 (12 * dH lo+DV (dH lo) (lo - st (dH lo)) - 1))/\Below w.heap.size w w':=by
 have HY:=fun W=>oL lo W h.1 h.2;have HM:=fun W=>BG lo W h.1 h.2;obtain⟨y0,y1⟩:=rH.2 h;have ys:=gU lo;have yn:=st_succ (dH lo);obtain⟨m0,m1,m2,m3⟩:=@mG (dH lo) (lo - st (dH lo)) (by omega) (by omega);clear m2 m3 ys yn;generalize dH lo=y at *;generalize DV y (lo - st y)=m at *;replace HY:=rG HY;replace HM:=rG HM;unfold rv
 go_enter Tryz.func88,Tryz.ntmps88
 go_wp2_with (first|(go_at_call 75;refine(HY.out _).mono ?_;rintro e w' ⟨rfl,rfl⟩)|(go_at_call 76;refine(HM.out _).mono ?_;rintro e w' ⟨rfl,rfl⟩))
 go_ret
 exact⟨rfl,ba (aAI _ _) _⟩
theorem PO(a lo b hi:Int)(w:World):
 Calls Tryz.prog 88 #[rv a lo b hi,.int .i64 3] w fun r w'=>r=.returned (.int .i64 lo)/\Below w.heap.size w w':=by
 unfold rv
 go_enter Tryz.func88,Tryz.ntmps88
 go_wp2
 go_ret
 exact⟨rfl,ba (aAI _ _) _⟩
theorem aJ8{p a lo b hi:Int}(h:isC p a lo b hi=true)(hp:p=1\/p=2): -3652425000000000000<=lo/\lo<3652425000000000366:=by
 unfold isC at h;simp only[aDY,aDE]at h;have he:=h.2.1;unfold aI mM at he;rw[aBx (by omega),aBx (by omega)]at he
 by_cases hy: -10000000000000000<=dH lo/\dH lo<=10000000000000000
 . exact rH.1 hy
 rw[aBx hy]at he;exact absurd he (by decide)
theorem BH(p a lo b hi:Int)(w:World)(hp: ¬(p<1\/3<p))(h:isC p a lo b hi=true):
 Calls Tryz.prog 88 #[rv a lo b hi,.int .i64 p] w fun r w'=>r=.returned (.int .i64 (iI p lo).1)/\Below w.heap.size w w':=by
 obtain rfl|rfl|rfl:p=1\/p=2\/p=3:=by omega
 . have hi:=aJ8 h (.inl rfl);unfold iI kK;rw[aDk rfl,aDk (rH.2 hi)];exact PU _ _ _ _ w hi
 . have hi:=aJ8 h (.inr rfl);unfold iI bF;rw[aBx (by omega),aDk rfl,aDk (rH.2 hi)];exact PS _ _ _ _ w hi
 unfold iI;rw[aBx (by omega),aBx (by omega)];exact PO _ _ _ _ w
theorem ZC(i p:Int)(w:World)(hp:p<1\/3<p):
 Calls Tryz.prog 20 #[.int .i64 i,.int .i64 p] w fun r w'=>r=.returned (.tuple #[rv 0 0 0 0,.int .i64 18])/\Below w.heap.size w w':=by
 rcases hp with hp|hp
 . go_enter Tryz.func20,Tryz.ntmps20
   go_wp2_with fail
   refine aHE (v:=.tuple #[rv 0 0 0 0,.int .i64 18]) (by simp[results,Tryz.results20,go_sem,rv]) rfl ⟨rfl,?_⟩;exact ba (aAI _ _) _
 go_enter Tryz.func20,Tryz.ntmps20
 go_wp2_with fail
 refine aHE (v:=.tuple #[rv 0 0 0 0,.int .i64 18]) (by simp[results,Tryz.results20,go_sem,rv]) rfl ⟨rfl,?_⟩;exact ba (aAI _ _) _
theorem aB9(i:Int)(w:World):
 Calls Tryz.prog 20 #[.int .i64 i,.int .i64 3] w fun r w'=>r=.returned (.tuple #[rv 0 i 0 i,.int .i64 0])/\Below w.heap.size w w':=by
 go_enter Tryz.func20,Tryz.ntmps20
 go_wp2_with fail
 refine(iZ _ _ _).mono ?_;rintro _ w1 ⟨rfl,hb1⟩;unfold rv;obtain⟨q0,q1,q2,q3,z0,z1,z2,z3⟩:=jM hb1
 go_wp2_with fail
 refine aHE (v:=.tuple #[rv 0 i 0 i,.int .i64 0]) (by simp[results,Tryz.results20,go_sem,rv,q0,q1,q2,q3]) rfl ⟨rfl,?_⟩;exact((((bt (ba (aAI _ _) _) hb1).setCell (aEc _) _).setCell (aEc _) _).setCell (aEc _) _).setCell (aEc _) _
theorem aCb(i:Int)(w:World)(y0: -10000000000000000<=i)(y1:i<=10000000000000000):
 Calls Tryz.prog 20 #[.int .i64 i,.int .i64 1] w fun r w'=>r=.returned (.tuple #[rv 0 (st i) 0 (st (i+1) - 1),.int .i64 0])/\Below w.heap.size w w':=by
 have HU:=fun W=>tX i W y0 y1;generalize st (i+1) - 1=hi at *;generalize st i=lo at *;unfold rv at HU ⊢;replace HU:=rG HU
 go_enter Tryz.func20,Tryz.ntmps20
 go_wp2_with fail
 refine(HU.out _).mono ?_;rintro _ w1 ⟨rfl,hb1⟩;obtain⟨q0,q1,q2,q3,z0,z1,z2,z3⟩:=jM hb1
 go_wp2_with fail
 refine aHE (v:=.tuple #[rv 0 lo 0 hi,.int .i64 0]) (by simp[results,Tryz.results20,go_sem,rv,q0,q1,q2,q3]) rfl ⟨rfl,?_⟩;exact((((bt (ba (aAI _ _) _) hb1).setCell (aEc _) _).setCell (aEc _) _).setCell (aEc _) _).setCell (aEc _) _
theorem PY(i:Int)(w:World)(hi: ¬(-10000000000000000<=i/\i<=10000000000000000)):
 Calls Tryz.prog 20 #[.int .i64 i,.int .i64 1] w fun r w'=>r=.returned (.tuple #[rv 0 0 0 0,.int .i64 6])/\Below w.heap.size w w':=by
 by_cases c:i< -10000000000000000
 . clear hi
   go_enter Tryz.func20,Tryz.ntmps20
   go_wp2_with fail
   refine aHE (v:=.tuple #[rv 0 0 0 0,.int .i64 6]) (by simp[results,Tryz.results20,go_sem,rv]) rfl ⟨rfl,?_⟩;exact ba (aAI _ _) _
 have c2:10000000000000000<i:=by omega
 clear hi
 go_enter Tryz.func20,Tryz.ntmps20
 go_wp2_with fail
 refine aHE (v:=.tuple #[rv 0 0 0 0,.int .i64 6]) (by simp[results,Tryz.results20,go_sem,rv]) rfl ⟨rfl,?_⟩;exact ba (aAI _ _) _
theorem aCa(i:Int)(w:World)(h0: -9223372036854775808<=i)(h1:i<9223372036854775808)(hy: -10000000000000000<=i / 12/\i / 12<=10000000000000000):
 Calls Tryz.prog 20 #[.int .i64 i,.int .i64 2] w fun r w'=>r=.returned (.tuple #[rv 0 (st (i / 12)+bZ (i / 12) (i % 12+1)) 0 (st (i / 12)+bZ (i / 12) (i % 12+2) - 1),.int .i64 0])/\Below w.heap.size w w':=by
 obtain⟨y0,y1⟩:=hy;have HF:=fun W=>o9 i 12 W (by omega) (by omega) h0 h1;have e:i - 12 * (i / 12)=i % 12:=by omega
 have m0:0<=i % 12:=by omega
 have m1:i % 12<12:=by omega
 have HU:=fun W=>tV (i / 12) (i % 12+1) W y0 y1 (by omega) (by omega);rw[show i % 12+1+1=i % 12+2 by omega]at HU;generalize st (i / 12)+bZ (i / 12) (i % 12+2) - 1=hi at *;generalize st (i / 12)+bZ (i / 12) (i % 12+1)=lo at *;have E:wrap64 (i - 12 * (i / 12))=i % 12:=by rw[e];exact wrap_in (by omega) (by omega)
 clear e;unfold rv at HU ⊢;replace HU:=rG HU;replace HF:=rG HF;generalize i % 12=m at *;generalize i / 12=y at *
 go_enter Tryz.func20,Tryz.ntmps20
 go_wp2_with (go_at_call 43;refine(HF.out _).mono ?_;rintro e w' ⟨rfl,rfl⟩)
 refine(HU.out _).mono ?_;rintro _ w1 ⟨rfl,hb1⟩;obtain⟨q0,q1,q2,q3,z0,z1,z2,z3⟩:=jM hb1
 go_wp2_with fail
 refine aHE (v:=.tuple #[rv 0 lo 0 hi,.int .i64 0]) (by simp[results,Tryz.results20,go_sem,rv,q0,q1,q2,q3]) rfl ⟨rfl,?_⟩;exact((((bt (ba (aAI _ _) _) hb1).setCell (aEc _) _).setCell (aEc _) _).setCell (aEc _) _).setCell (aEc _) _
theorem PX(i:Int)(w:World)(h0: -9223372036854775808<=i)(h1:i<9223372036854775808)(hy: ¬(-10000000000000000<=i / 12/\i / 12<=10000000000000000)):
 Calls Tryz.prog 20 #[.int .i64 i,.int .i64 2] w fun r w'=>r=.returned (.tuple #[rv 0 0 0 0,.int .i64 6])/\Below w.heap.size w w':=by
 have HF:=fun W=>o9 i 12 W (by omega) (by omega) h0 h1;have e:i - 12 * (i / 12)=i % 12:=by omega
 have m0:0<=i % 12:=by omega
 have m1:i % 12<12:=by omega
 have E:wrap64 (i - 12 * (i / 12))=i % 12:=by rw[e];exact wrap_in (by omega) (by omega)
 clear e;replace HF:=rG HF;generalize i % 12=m at *;generalize i / 12=y at *
 by_cases c:y< -10000000000000000
 . clear hy
   go_enter Tryz.func20,Tryz.ntmps20
   go_wp2_with (go_at_call 43;refine(HF.out _).mono ?_;rintro e w' ⟨rfl,rfl⟩)
   refine aHE (v:=.tuple #[rv 0 0 0 0,.int .i64 6]) (by simp[results,Tryz.results20,go_sem,rv]) rfl ⟨rfl,?_⟩;exact ba (aAI _ _) _
 have c2:10000000000000000<y:=by omega
 clear hy
 go_enter Tryz.func20,Tryz.ntmps20
 go_wp2_with (go_at_call 43;refine(HF.out _).mono ?_;rintro e w' ⟨rfl,rfl⟩)
 refine aHE (v:=.tuple #[rv 0 0 0 0,.int .i64 6]) (by simp[results,Tryz.results20,go_sem,rv]) rfl ⟨rfl,?_⟩;exact ba (aAI _ _) _
theorem EI(p i:Int)(w:World)(h0: -9223372036854775808<=i)(h1:i<9223372036854775808):
 Calls Tryz.prog 20 #[.int .i64 i,.int .i64 p] w fun r w'=>r=.returned (.tuple #[rv 0 (FQ p i).1 0 (FQ p i).2.1,.int .i64 (FQ p i).2.2])/\Below w.heap.size w w':=by
 unfold FQ
 by_cases hp:p<1\/3<p
 . rw[aDk hp];exact ZC i p w hp
 rw[aBx hp];obtain rfl|rfl|rfl:p=1\/p=2\/p=3:=by omega
 . rw[aBx (by omega),aDk rfl]
   by_cases hy: -10000000000000000<=i/\i<=10000000000000000
   . rw[aDk hy];exact aCb i w hy.1 hy.2
   rw[aBx hy];exact PY i w hy
 . rw[aBx (by omega),aBx (by omega)];unfold jA
   by_cases hy: -10000000000000000<=i / 12/\i / 12<=10000000000000000
   . rw[aDk hy];exact aCa i w h0 h1 hy
   rw[aBx hy];exact PX i w h0 h1 hy
 rw[aDk rfl];exact aB9 i w
end Un
end
section
open Go.RowKit
namespace Un
open Cal
theorem IQ(p a lo b hi i x y f:Int)(w:World)(h0: -9223372036854775808<=i+(1))(h1:i+(1)<9223372036854775808)(hp:1<=p/\p<=3)(ho:p≠3\/i≠9223372036854775807)
 (HI: ∀W,Calls Tryz.prog 87 #[rv a lo b hi,.int .i64 p] W fun r w'=>r=.returned (.int .i64 1)/\Below W.heap.size W w')
 (HX: ∀W,Calls Tryz.prog 88 #[rv a lo b hi,.int .i64 p] W fun r w'=>r=.returned (.int .i64 i)/\Below W.heap.size W w')
 (HA: ∀W,Calls Tryz.prog 20 #[.int .i64 (i+(1)),.int .i64 p] W fun r w'=>r=.returned (.tuple #[rv 0 x 0 y,.int .i64 f])/\Below W.heap.size W w'):
 Calls Tryz.prog 55 #[rv a lo b hi,.int .i64 p,.int .i64 (1)] w fun r w'=>r=.returned (.tuple #[rv 0 x 0 y,.int .i64 f])/\Below w.heap.size w w':=
 Sk.lJ (Sk.aWT a lo b hi p i x y f w (fun W _=>HI W) (fun W _=>HX W) (fun W _=>by rw[aDI (by omega) (by omega)];exact HA W)) (by
  rw[aBy (show ¬p<1 by omega),aBy (show ¬ 3<p by omega)]
  by_cases h3:p=3
  . rw[show (i==9223372036854775807)=false by rw[aBA];omega];simp[h3,Sk.r4,rv]
  rw[show (p==3)=false by simpa using h3];rfl)
theorem IU(a lo b hi:Int)(w:World)
 (HI: ∀W,Calls Tryz.prog 87 #[rv a lo b hi,.int .i64 3] W fun r w'=>r=.returned (.int .i64 1)/\Below W.heap.size W w')
 (HX: ∀W,Calls Tryz.prog 88 #[rv a lo b hi,.int .i64 3] W fun r w'=>r=.returned (.int .i64 (9223372036854775807))/\Below W.heap.size W w'):
 Calls Tryz.prog 55 #[rv a lo b hi,.int .i64 3,.int .i64 (1)] w fun r w'=>r=.returned (.tuple #[rv 0 0 0 0,.int .i64 15])/\Below w.heap.size w w':=
 Sk.lJ (Sk.aTM a lo b hi w (fun W _=>HI W) (fun W _=>HX W)) rfl
theorem PW(p a lo b hi:Int)(w:World)(hp:1<=p/\p<=3)
 (HI: ∀W,Calls Tryz.prog 87 #[rv a lo b hi,.int .i64 p] W fun r w'=>r=.returned (.int .i64 0)/\Below W.heap.size W w'):
 Calls Tryz.prog 55 #[rv a lo b hi,.int .i64 p,.int .i64 (1)] w fun r w'=>r=.returned (.tuple #[rv 0 0 0 0,.int .i64 1])/\Below w.heap.size w w':=
 Sk.lJ (Sk.aQu a lo b hi p w (fun W _=>HI W)) (by
  rw[aBy (show ¬p<1 by omega),aBy (show ¬ 3<p by omega)];rfl)
theorem LK (p a lo b hi:Int) (w:World) (hpr:1<=p/\p<=3) (h0: -9223372036854775808<=lo) (h1:lo<9223372036854775808):
 Calls Tryz.prog 55 #[rv a lo b hi,.int .i64 p,.int .i64 (1)] w fun r w'=>r=.returned (.tuple #[rv 0 (dN p a lo b hi (1) (9223372036854775807)).1 0 (dN p a lo b hi (1) (9223372036854775807)).2.1,.int .i64 (dN p a lo b hi (1) (9223372036854775807)).2.2])/\Below w.heap.size w w':=by
 have HI:=fun W=>SC p a lo b hi W h0 h1;unfold dN
 by_cases hp:p<1\/3<p
 . simp only[aDk hp];exact absurd hp (by omega)
 simp only[aBx hp]
 by_cases hi1:isC p a lo b hi=true
 . simp only[aDk hi1]at HI ⊢;have HX:=fun W=>BH p a lo b hi W hp hi1
   by_cases ho:p=3/\lo=9223372036854775807
   . rw[aDk ho];obtain⟨rfl,rfl⟩:=ho;exact IU a _ b hi w HI HX
   rw [aBx ho];have bd: -9223372036854775808<=(iI p lo).1+(1)/\(iI p lo).1+(1)<9223372036854775808/\(p≠3\/(iI p lo).1≠9223372036854775807):=by
    by_cases p3:p=3
    . subst p3;have e:iI 3 lo=(lo,0):=by unfold iI;simp
      rw[e];have hne:lo≠9223372036854775807:=fun h=>ho ⟨rfl,h⟩;dsimp only;omega
    have:=JI p lo h0 h1 p3 hp;omega
   exact IQ p a lo b hi (iI p lo).1 _ _ _ w bd.1 bd.2.1 (by omega) bd.2.2 HI HX (fun W=>EI p ((iI p lo).1+(1)) W bd.1 bd.2.1)
 simp only[aBx hi1]at HI ⊢;exact PW p a lo b hi w (by omega) HI
theorem IK(p a lo b hi i x y f:Int)(w:World)(h0: -9223372036854775808<=i+(-1))(h1:i+(-1)<9223372036854775808)(hp:1<=p/\p<=3)(ho:p≠3\/i≠ -9223372036854775808)
 (HI: ∀W,Calls Tryz.prog 87 #[rv a lo b hi,.int .i64 p] W fun r w'=>r=.returned (.int .i64 1)/\Below W.heap.size W w')
 (HX: ∀W,Calls Tryz.prog 88 #[rv a lo b hi,.int .i64 p] W fun r w'=>r=.returned (.int .i64 i)/\Below W.heap.size W w')
 (HA: ∀W,Calls Tryz.prog 20 #[.int .i64 (i+(-1)),.int .i64 p] W fun r w'=>r=.returned (.tuple #[rv 0 x 0 y,.int .i64 f])/\Below W.heap.size W w'):
 Calls Tryz.prog 55 #[rv a lo b hi,.int .i64 p,.int .i64 (-1)] w fun r w'=>r=.returned (.tuple #[rv 0 x 0 y,.int .i64 f])/\Below w.heap.size w w':=
 Sk.lJ (Sk.aWS a lo b hi p i x y f w (fun W _=>HI W) (fun W _=>HX W) (fun W _=>by rw[aDI (by omega) (by omega)];exact HA W)) (by
  rw[aBy (show ¬p<1 by omega),aBy (show ¬ 3<p by omega)]
  by_cases h3:p=3
  . rw[show (i==(-9223372036854775808))=false by rw[aBA];omega];simp[h3,Sk.r4,rv]
  rw[show (p==3)=false by simpa using h3];rfl)
theorem IL(a lo b hi:Int)(w:World)
 (HI: ∀W,Calls Tryz.prog 87 #[rv a lo b hi,.int .i64 3] W fun r w'=>r=.returned (.int .i64 1)/\Below W.heap.size W w')
 (HX: ∀W,Calls Tryz.prog 88 #[rv a lo b hi,.int .i64 3] W fun r w'=>r=.returned (.int .i64 (-9223372036854775808))/\Below W.heap.size W w'):
 Calls Tryz.prog 55 #[rv a lo b hi,.int .i64 3,.int .i64 (-1)] w fun r w'=>r=.returned (.tuple #[rv 0 0 0 0,.int .i64 15])/\Below w.heap.size w w':=
 Sk.lJ (Sk.aTL a lo b hi w (fun W _=>HI W) (fun W _=>HX W)) rfl
theorem PV(p a lo b hi:Int)(w:World)(hp:1<=p/\p<=3)
 (HI: ∀W,Calls Tryz.prog 87 #[rv a lo b hi,.int .i64 p] W fun r w'=>r=.returned (.int .i64 0)/\Below W.heap.size W w'):
 Calls Tryz.prog 55 #[rv a lo b hi,.int .i64 p,.int .i64 (-1)] w fun r w'=>r=.returned (.tuple #[rv 0 0 0 0,.int .i64 1])/\Below w.heap.size w w':=
 Sk.lJ (Sk.aQt a lo b hi p w (fun W _=>HI W)) (by
  rw[aBy (show ¬p<1 by omega),aBy (show ¬ 3<p by omega)];rfl)
theorem LJ (p a lo b hi:Int) (w:World) (hpr:1<=p/\p<=3) (h0: -9223372036854775808<=lo) (h1:lo<9223372036854775808):
 Calls Tryz.prog 55 #[rv a lo b hi,.int .i64 p,.int .i64 (-1)] w fun r w'=>r=.returned (.tuple #[rv 0 (dN p a lo b hi (-1) (-9223372036854775808)).1 0 (dN p a lo b hi (-1) (-9223372036854775808)).2.1,.int .i64 (dN p a lo b hi (-1) (-9223372036854775808)).2.2])/\Below w.heap.size w w':=by
 have HI:=fun W=>SC p a lo b hi W h0 h1;unfold dN
 by_cases hp:p<1\/3<p
 . simp only[aDk hp];exact absurd hp (by omega)
 simp only[aBx hp]
 by_cases hi1:isC p a lo b hi=true
 . simp only[aDk hi1]at HI ⊢;have HX:=fun W=>BH p a lo b hi W hp hi1
   by_cases ho:p=3/\lo= -9223372036854775808
   . rw[aDk ho];obtain⟨rfl,rfl⟩:=ho;exact IL a _ b hi w HI HX
   rw [aBx ho];have bd: -9223372036854775808<=(iI p lo).1+(-1)/\(iI p lo).1+(-1)<9223372036854775808/\(p≠3\/(iI p lo).1≠ -9223372036854775808):=by
    by_cases p3:p=3
    . subst p3;have e:iI 3 lo=(lo,0):=by unfold iI;simp
      rw[e];have hne:lo≠ -9223372036854775808:=fun h=>ho ⟨rfl,h⟩;dsimp only;omega
    have:=JI p lo h0 h1 p3 hp;omega
   exact IK p a lo b hi (iI p lo).1 _ _ _ w bd.1 bd.2.1 (by omega) bd.2.2 HI HX (fun W=>EI p ((iI p lo).1+(-1)) W bd.1 bd.2.1)
 simp only[aBx hi1]at HI ⊢;exact PV p a lo b hi w (by omega) HI
end Un
end
section
open Go.RowKit Go.Lib
namespace Sk
open Bk (Dt aV)
open Ev (bM eU hp dX Lf zN aW fU)
abbrev pt(P:List Nat)(j:Nat):Value:=.pointer (some ⟨P.getD j 0,0,none⟩)
theorem rY{w0 w:World}{N:Nat}{P:List Nat}{F:List (TypeId × List Value)}{S S':List (Nat × Value)}{a:Act}(h:dX w0 N P F S a w)(hs: ∀e ∈ S',e ∈ S):dX w0 N P F S' a w:=
 ⟨h.below,h.new,h.nd,h.fr,h.size,h.defs,fun e he=>h.val e (hs e he)⟩
theorem UR{x:Int}(h0: -9223372036854775808<=x)(h1:x<9223372036854775808):IntKind.i64.wrap x=x:=by rw[aHA];omega
end Sk
end
section
open Go.RowKit Go.Lib
namespace Sk
open Un (aI dN)
open Bk (Dt aV lD)
def upR(p day:Int):Int × Int × Int:=if(aI p day).2.2=0/\(aI p day).1<day then dN p 0 (aI p day).1 0 (aI p day).2.1 1 9223372036854775807 else aI p day
def dnR(p day:Int):Int × Int × Int:=if(aI p day).2.2=0/\day<(aI p day).2.1 then dN p 0 (aI p day).1 0 (aI p day).2.1 (-1) (-9223372036854775808)else aI p day
structure Fit(p a lo b hi:Int):Prop where
 pr:1<=p/\p<=3
 fa:a=0\/a= -1
 fb:b=0\/b=1
 l:a=0->(aI p lo).2.2=0/\(aI p lo).1=lo
 h:b=0->(aI p hi).2.2=0/\(aI p hi).2.1=hi
theorem aSm{n:Nat}{p a lo b hi:Int}{U:Bool}{S R ER sig:Int}{X M:Bool}(h:zY 3 n p a b U S R ER sig X M (wV p a lo b hi)=0):Fit p a lo b hi:=by
 unfold zY at h;rw[aBx (by omega)]at h
 by_cases c:U=false
 . rw[aDk c]at h;omega
 rw[aBx c,aBx (by omega),aBx (by omega),aDk rfl]at h
 by_cases c2:p<1\/3<p
 . rw[aDk c2]at h;omega
 rw[aBx c2]at h
 by_cases c3:wV p a lo b hi=true
 rotate_left
 . rw[aBx c3]at h;omega
 unfold wV at c3;simp only[aDY,aHW,aXK,aDE,aXa,decide_not]at c3;obtain⟨⟨⟨_,h2⟩,h3⟩,h4⟩:=c3;obtain⟨r1,r2,_⟩:=pX h2;exact⟨by omega,by omega,by omega,fun e=>by subst e;simpa using h3,fun e=>by subst e;simpa using h4⟩
theorem jW{e:Int}{c:Bool}{p:Prop}[Decidable p](hc:c=decide p){A B:Value}:cond (e==0) (cond c A B) B=if e=0/\p then A else B:=by
 subst hc
 by_cases h1:e=0
 . by_cases h2:p
   . simp[h1,h2]
   simp[h1,h2]
 rw[show (e==0)=false by simpa using h1,aBx (fun h=>h1 h.1)];rfl
theorem qZ{c:Prop}[Decidable c]{a lo b hi:Int}{s t:Int × Int × Int}(f:RB->Value):(if c then f (inR a lo b hi s)else f (inR a lo b hi t))=f (inR a lo b hi (if c then s else t)):=by split<;>rfl
section
variable{w0:World}{bs:Option Addr}{n cp:Nat}{d:Dt}{p a lo b hi:Int}
theorem aJM{x y:Int}(hk:lD w0)(hp:1<=p/\p<=3)(h0: -9223372036854775808<=x)(h1:x<9223372036854775808)(t:Int × Int × Int)(ht:dN p 0 x 0 y 1 9223372036854775807=t):
 Same w0 270 #[r4 0 x 0 y,.int .u8 p] (.tuple #[r4 0 t.1 0 t.2.1,.int .i64 t.2.2]):=fun W hb=>by
 subst ht;exact Un.next_any p 0 x 0 y W (hk.below hb).cal h0 h1 (by omega) (by omega)
theorem aIs{x y:Int}(hk:lD w0)(hp:1<=p/\p<=3)(h0: -9223372036854775808<=x)(h1:x<9223372036854775808)(t:Int × Int × Int)(ht:dN p 0 x 0 y (-1) (-9223372036854775808)=t):
 Same w0 271 #[r4 0 x 0 y,.int .u8 p] (.tuple #[r4 0 t.1 0 t.2.1,.int .i64 t.2.2]):=fun W hb=>by
 subst ht;exact Un.aIt p 0 x 0 y W (hk.below hb).cal h0 h1 (by omega) (by omega)
theorem pY(day:Int)(hp:1<=p/\p<=3)(h0: -9223372036854775808<=day)(h1:day<9223372036854775808):Same w0 47 #[.int .i64 day,.int .i64 (IntKind.i64.wrap p)] (.tuple #[r4 0 (aI p day).1 0 (aI p day).2.1,.int .i64 (aI p day).2.2]):=fun W _=>by
 rw[UR (by omega) (by omega)];exact Un.lZ day p W h0 h1
theorem ZA{x y:Int}(hp:1<=p/\p<=3)(h0: -9223372036854775808<=x)(h1:x<9223372036854775808)(t:Int × Int × Int)(ht:dN p 0 x 0 y 1 9223372036854775807=t):
 Same w0 55 #[r4 0 x 0 y,.int .i64 (IntKind.i64.wrap p),.int .i64 1] (.tuple #[r4 0 t.1 0 t.2.1,.int .i64 t.2.2]):=fun W _=>by
 rw[UR (by omega) (by omega)];subst ht;exact Un.LK p 0 x 0 y W hp h0 h1
theorem Y7{x y:Int}(hp:1<=p/\p<=3)(h0: -9223372036854775808<=x)(h1:x<9223372036854775808)(t:Int × Int × Int)(ht:dN p 0 x 0 y (-1) (-9223372036854775808)=t):
 Same w0 55 #[r4 0 x 0 y,.int .i64 (IntKind.i64.wrap p),.int .i64 (-1)] (.tuple #[r4 0 t.1 0 t.2.1,.int .i64 t.2.2]):=fun W _=>by
 rw[UR (by omega) (by omega)];subst ht;exact Un.LJ p 0 x 0 y W hp h0 h1
theorem kC(hst:SS w0)(F:Fit p a lo b hi)(t:Int × Int × Int)(ht:0<=t.2.2):Same w0 54 #[fam 3 (.slice bs n cp) d p a lo b hi,r4 0 t.1 0 t.2.1,.int .i64 t.2.2] (inR a lo b hi t).w:=by
 refine sV (aUq 3 bs n cp d p a lo b hi t.1 t.2.1 t.2.2 hst) ?_;obtain⟨x,y,e⟩:=t;dsimp only at ht ⊢;unfold inR bW;dsimp only
 by_cases c:e=0
 . subst c;rcases F.fa with rfl|rfl<;>rcases F.fb with rfl|rfl<;>simp only[Int.lt_irrefl,aWn,aTy,aWO,aVd,aSC,show((-1:Int)==0)=false from rfl,show((1:Int)==0)=false from rfl,aW8]
   . by_cases c1:x<lo
     . rw[aBz c1,aDk c1,aBx (by omega)];rfl
     rw[aBy c1,aBx c1]
     by_cases c2:hi<y
     . rw[aBz c2,aBx (show ¬y<hi by omega),aDk c2,aBx (by omega)];rfl
     rw[aBy c2,aBx c2,aDk (by constructor<;>split<;>omega)];rfl
   . by_cases c1:x<lo
     . rw[aBz c1,aDk c1,aBx (by omega)];rfl
     rw[aBy c1,aBx c1,aDk (by constructor<;>(repeat' split)<;>omega)];rfl
   . by_cases c2:hi<y
     . rw[aBz c2,aBx (show ¬y<hi by omega),aDk c2,aBx (by omega)];rfl
     rw[aBy c2,aBx c2,aDk (by constructor<;>(repeat' split)<;>omega)];rfl
   rw[aDk (by constructor<;>(repeat' split)<;>omega)];rfl
 rw[aBx (by omega),aBz (show 0<e by omega)];rfl
theorem XO(p l u by' lim:Int)(hp:1<=p/\p<=3):0<=(dN p 0 l 0 u by' lim).2.2:=by
 unfold dN;rw[aBx (by omega)]
 split
 . split
   . decide
   unfold Un.FQ Un.jA;rw[aBx (by omega)]
   (repeat' split)<;>first|omega|decide|simp
 decide
theorem aNN(hst:SS w0)(hk:lD w0)(F:Fit p a lo b hi)(day:Int)(h0: -9223372036854775808<=day)(h1:day<9223372036854775808)(hC:Same w0 8 #[fam 3 (.slice bs n cp) d p a lo b hi] (.int .i64 0)):qM w0 3 bs n cp d p a lo b hi 2 day:=by
 have hp:=F.pr;refine⟨inR a lo b hi (aI p day),aKB 3 bs n cp d p a lo b hi day _ _ _ _ _ _ hst (aUQ 3 bs n cp d p a lo b hi day _ _ _ _ _ hst hC (mAt a lo b hi p day _ _ _ _ _ _ _ _ hst (BZ day hk (by omega) (by omega) h0 h1) (NJ _ _ _ hst))),?_⟩;refine sV (rU2 3 bs n cp d p a lo b hi day _ _ _ _ _ _ _ _ hst (pY day hp h0 h1) (kC hst F (aI p day) (Un.iV p day))) ?_
 cases((aI p day).2.2==0)<;>rfl
theorem aCO(hst:SS w0)(hk:lD w0)(F:Fit p a lo b hi)(day:Int)(g0: -9223372036854775808<=lo)(g1:lo<9223372036854775808)(hC:Same w0 8 #[fam 3 (.slice bs n cp) d p a lo b hi] (.int .i64 0)):qM w0 3 bs n cp d p a lo b hi 0 day:=by
 have hp:=F.pr;refine⟨_,aKD 3 bs n cp d p a lo b hi day _ _ _ _ _ _ hst (aJW 3 bs n cp d p a lo b hi _ _ _ _ _ hst hC (SL hk hst (by omega) (by omega) g0 g1)),?_⟩;refine sV (rU0 3 bs n cp d p a lo b hi day _ _ _ _ _ _ _ _ hst (pY lo hp g0 g1) (kC hst F (aI p lo) (Un.iV p lo))) ?_
 by_cases c:a=0
 . rw[aDk c,show(a==0)=true by simpa using c];rfl
 rw[aBx c,show(a==0)=false by simpa using c];rfl
theorem aGl(hst:SS w0)(hk:lD w0)(F:Fit p a lo b hi)(day:Int)(g0: -9223372036854775808<=hi)(g1:hi<9223372036854775808)(hC:Same w0 8 #[fam 3 (.slice bs n cp) d p a lo b hi] (.int .i64 0)):qM w0 3 bs n cp d p a lo b hi 1 day:=by
 have hp:=F.pr;refine⟨_,aKC 3 bs n cp d p a lo b hi day _ _ _ _ _ _ hst (aNP 3 bs n cp d p a lo b hi _ _ _ _ _ hst hC (aAj hk hst (by omega) (by omega) g0 g1)),?_⟩;refine sV (rU1 3 bs n cp d p a lo b hi day _ _ _ _ _ _ _ _ hst (pY hi hp g0 g1) (kC hst F (aI p hi) (Un.iV p hi))) ?_
 by_cases c:b=0
 . rw[aDk c,show(b==0)=true by simpa using c];rfl
 rw[aBx c,show(b==0)=false by simpa using c];rfl
theorem aGm(hst:SS w0)(hk:lD w0)(F:Fit p a lo b hi)(day:Int)(g0: -9223372036854775808<=lo)(g1:lo<9223372036854775808)(h0: -9223372036854775808<=day)(h1:day<9223372036854775808)(hC:Same w0 8 #[fam 3 (.slice bs n cp) d p a lo b hi] (.int .i64 0)):qM w0 3 bs n cp d p a lo b hi 3 day:=by
 have hp:=F.pr;have b2:=JJ p day h0 h1;have b3:=JJ p lo g0 g1;have HU:=BZ day hk (p:=p) (by omega) (by omega) h0 h1;have HF:=SL (a:=a) (lo:=lo) (b:=b) (hi:=hi) hk hst (p:=p) (by omega) (by omega) g0 g1;have U3:=aJM (y:=(aI p day).2.1) hk hp b2.1 b2.2 _ rfl;have M:=sV (aUT a lo b hi p day _ _ _ _ _ _ _ _ _ _ _ _ _ _ _ _ _ _ _ _ _ hst HF HU (NJ _ _ _ hst) U3 (NJ _ _ _ hst)) (u:=(inR a lo b hi (upR p (if a=0/\day<lo then lo else day))).v) ?_
 . refine⟨inR a lo b hi (upR p (if a=0/\day<lo then lo else day)),aKA 3 bs n cp d p a lo b hi day _ _ _ _ _ _ hst (aNQ 3 bs n cp d p a lo b hi day _ _ _ _ _ hst hC M),?_⟩;refine sV (rU3 3 bs n cp d p a lo b hi day _ _ _ _ _ _ _ _ _ _ _ _ _ _ _ _ _ _ _ _ _ _ _ _ _ _ _ _ _ _ _ _ hst (pY day hp h0 h1) (ZA hp b2.1 b2.2 _ rfl) (pY lo hp g0 g1) (ZA hp b3.1 b3.2 _ rfl)
    (kC hst F (aI p day) (Un.iV p day)) (kC hst F _ (XO _ _ _ _ _ hp)) (kC hst F (aI p lo) (Un.iV p lo)) (kC hst F _ (XO _ _ _ _ _ hp))) ?_
   try simp only[Bool.cond_self]
   by_cases ca:a=0
   . rw[show (a==0)=true by simpa using ca,aVd]
     by_cases cd:day<lo
     . rw[aBz cd,aVd,aDk ⟨ca,cd⟩,jW rfl];exact qZ RB.w
     rw[aBy cd,aTy,aBx (fun h=>cd h.2),jW rfl];exact qZ RB.w
   rw[show (a==0)=false by simpa using ca,aTy,aBx (fun h=>ca h.1),jW rfl];exact qZ RB.w
 by_cases ca:a=0
 . rw[show (a==0)=true by simpa using ca,aVd]
   by_cases cd:lo<day
   . rw[aBz cd,aVd,aBx (fun h=>by have:=h.2;omega),jW rfl];exact qZ RB.v
   rw[aBy cd,aTy,aDk ca];have e:(if a=0/\day<lo then lo else day)=lo:=by split<;>omega
   rw[e];unfold upR;rw[aBx (by have:=(F.l ca).2;omega)]
   rfl
 rw[show (a==0)=false by simpa using ca,aTy,aBx (show ¬(a=0/\day<lo)from fun h=>ca h.1),jW rfl];exact qZ RB.v
theorem aGk (hst:SS w0) (hk:lD w0) (F:Fit p a lo b hi) (day:Int) (g0: -9223372036854775808<=hi) (g1:hi<9223372036854775808) (h0: -9223372036854775808<=day) (h1:day<9223372036854775808) (hC:Same w0 8 #[fam 3 (.slice bs n cp) d p a lo b hi] (.int .i64 0)):qM w0 3 bs n cp d p a lo b hi 4 day:=by
 have hp:=F.pr;have b2:=JJ p day h0 h1;have b3:=JJ p hi g0 g1;have HU:=BZ day hk (p:=p) (by omega) (by omega) h0 h1;have HF:=aAj (a:=a) (lo:=lo) (b:=b) (hi:=hi) hk hst (p:=p) (by omega) (by omega) g0 g1;have U3:=aIs (y:=(aI p day).2.1) hk hp b2.1 b2.2 _ rfl;have M:=sV (aUR a lo b hi p day _ _ _ _ _ _ _ _ _ _ _ _ _ _ _ _ _ _ _ _ _ hst HF HU (NJ _ _ _ hst) U3 (NJ _ _ _ hst)) (u:=(inR a lo b hi (dnR p (if b=0/\hi<day then hi else day))).v) ?_
 . refine ⟨inR a lo b hi (dnR p (if b=0/\hi<day then hi else day)),aKz 3 bs n cp d p a lo b hi day _ _ _ _ _ _ hst (aNO 3 bs n cp d p a lo b hi day _ _ _ _ _ hst hC M),?_⟩;refine sV (rU4 3 bs n cp d p a lo b hi day _ _ _ _ _ _ _ _ _ _ _ _ _ _ _ _ _ _ _ _ _ _ _ _ _ _ _ _ _ _ _ _ hst (pY day hp h0 h1) (Y7 hp b2.1 b2.2 _ rfl) (pY hi hp g0 g1) (Y7 hp b3.1 b3.2 _ rfl)
    (kC hst F (aI p day) (Un.iV p day)) (kC hst F _ (XO _ _ _ _ _ hp)) (kC hst F (aI p hi) (Un.iV p hi)) (kC hst F _ (XO _ _ _ _ _ hp))) ?_
   try simp only[Bool.cond_self]
   by_cases ca:b=0
   . rw [show (b==0)=true by simpa using ca,aVd]
     by_cases cd:hi<day
     . rw[aDk (show b=0/\hi<day from⟨ca,cd⟩)]
       first
        |(rw[aBz cd,aVd,jW rfl];exact qZ RB.w)
        |(rw[aBy (show ¬day<=hi by omega),aTy,jW rfl];exact qZ RB.w)
        |(rw[aBy (show ¬day<hi by omega),aTy,jW rfl];exact qZ RB.w)
     rw [aBx (show ¬(b=0/\hi<day)from fun h=>cd h.2)]
     by_cases ce:day<hi
     . first
        |(rw[aBz ce,aVd,jW rfl];exact qZ RB.w)
        |(rw[aBy cd,aTy,jW rfl];exact qZ RB.w)
     obtain rfl:day=hi:=by omega
     rw[aBy (Int.lt_irrefl _),aTy,jW rfl];exact qZ RB.w
   rw[show (b==0)=false by simpa using ca,aTy,aBx (fun h=>ca h.1),jW rfl];exact qZ RB.w
 by_cases ca:b=0
 . rw[show (b==0)=true by simpa using ca,aVd]
   by_cases cd:day<hi
   . rw[aBz cd,aVd,aBx (fun h=>by have:=h.2;omega),jW rfl];exact qZ RB.v
   rw[aBy cd,aTy,aDk ca];have e:(if b=0/\hi<day then hi else day)=hi:=by split<;>omega
   rw[e];unfold dnR;rw[aBx (by have:=(F.h ca).2;omega)]
   rfl
 rw[show (b==0)=false by simpa using ca,aTy,aBx (show ¬(b=0/\hi<day)from fun h=>ca h.1),jW rfl];exact qZ RB.v
end
end Sk
end
section
open Go.RowKit Go.Lib
namespace Sk
open Un (ba bt)
open Bk (Dt aV Rw)
def aV2(F:Nat->R4)(n:Nat)(w:World)(e:Ending)(w':World):Prop:= ∃bs cp,e=.returned (.slice bs n cp)/\qK w' bs n F/\Below w.heap.size w w'
theorem TB:(Tryz.prog.info? 44).map (·.size)=some 17:=by kernel_rfl
theorem aGy:(Tryz.prog.info? 42).map (·.size)=some 4:=by kernel_rfl
def R4.l(r:R4):List Value:=l4 r.a r.lo r.b r.hi
def aBl(r:R4)(day:Int):Bool:=decide (r.a≠0)||decide (r.lo<=day)
def WX(r:R4)(day:Int):Bool:=decide (r.b=0)&&decide (r.hi<day)
def kU(by':Int)(r:R4)(day:Int):Bool:=if by'=2 then aBl r day&& !WX r day else if by'=3 then decide (r.a=0)&&decide (day<=r.lo)else decide (r.b=0)&&decide (r.hi<=day)
def Q9(F:Nat->R4)(n:Nat)(by' day:Int)(x:R4)(is:Int):Prop:=
 if by'=0 then x=F 0/\is=1 else if by'=1 then x=F (n - 1)/\is=1 else if by'=4 then
  (is=1/\ ∃i,i<n/\x=F i/\kU 4 (F i) day=true/\ ∀j,i<j->j<n->kU 4 (F j) day=false)\/(is=0/\x=⟨0,0,0,0⟩/\ ∀j,j<n->kU 4 (F j) day=false)
 else(is=1/\ ∃i,i<n/\x=F i/\kU by' (F i) day=true/\ ∀j,j<i->kU by' (F j) day=false)\/(is=0/\x=⟨0,0,0,0⟩/\ ∀j,j<n->kU by' (F j) day=false)
def aLX(PF:(Nat->R4)->Nat->Prop)(by' day:Int)(w:World)(e:Ending)(w':World):Prop:= ∃F n x is,PF F n/\Q9 F n by' day x is/\e=.returned (.tuple #[r4 x.a x.lo x.b x.hi,.int .i64 is])/\Below w.heap.size w w'
theorem LY{PF:(Nat->R4)->Nat->Prop}{F:Nat->R4}{n:Nat}{by' day is:Int}{x:R4}{w W:World}{tmps:Array Value}(hP:PF F n)(hX:Rw (w.heap.size+1) x.l w W)(h:Q9 F n by' day x is)(h6:tmps.getD 6 undef=.pointer (some ⟨w.heap.size+1,0,none⟩))(h7:tmps.getD 7 undef=.int .i64 is):
 bodyPost Tryz.prog Tryz.f10 (aLX PF by' day w) Exit.ret ⟨tmps,[]⟩ W:=
 aHE (v:=.tuple #[r4 x.a x.lo x.b x.hi,.int .i64 is]) (Bk.qV Tryz.results10 _ h6 h7 (aMj _ _ 0 42 x.l _ hX.range Tryz.underlying42 rfl aGy)) rfl ⟨F,n,x,is,hP,h,rfl,hX.below⟩
def UH(F:Nat->R4)(i:Nat)(by' day:Int)(x:R4)(is:Int):Prop:=
 (is=1/\by'=4/\ ∃j,j<i/\x=F j/\kU 4 (F j) day=true/\ ∀m,j<m->m<i->kU 4 (F m) day=false)\/(is=0/\x=⟨0,0,0,0⟩/\ ∀j,j<i->kU by' (F j) day=false)
section
variable{F:Nat->R4}{i n:Nat}{by' day is:Int}{x:R4}
theorem BM(h:UH F i by' day x is)(hh:kU by' (F i) day=false):UH F (i+1) by' day x is:=by
 rcases h with⟨h1,h2,j,h3,h4,h5,h6⟩|⟨h1,h2,h3⟩
 . refine .inl ⟨h1,h2,j,by omega,h4,h5,fun m a b=>?_⟩
   by_cases e:m=i
   . subst e;rw[<-h2];exact hh
   exact h6 m a (by omega)
 refine .inr ⟨h1,h2,fun j a=>?_⟩
 by_cases e:j=i
 . subst e;exact hh
 exact h3 j (by omega)
theorem aIw(hh:kU 4 (F i) day=true):UH F (i+1) 4 day (F i) 1:=.inl ⟨rfl,rfl,i,by omega,rfl,hh,fun m a b=>by omega⟩
theorem ZK(h:UH F i by' day x is)(hb:by'=2\/by'=3)(hlt:i<n)(hh:kU by' (F i) day=true):Q9 F n by' day (F i) 1:=by
 unfold Q9;rw[aBx (by omega),aBx (by omega),aBx (by omega)];rcases h with⟨_,h2,_⟩|⟨_,_,h3⟩
 . omega
 exact .inl ⟨rfl,i,hlt,rfl,hh,h3⟩
theorem aIx(h:UH F n by' day x is)(hb:2<=by'/\by'<=4):Q9 F n by' day x is:=by
 unfold Q9;rw[aBx (by omega),aBx (by omega)]
 by_cases c:by'=4
 . subst c;rw[aDk rfl];rcases h with⟨h1,_,h⟩|h
   . exact .inl ⟨h1,h⟩
   exact .inr h
 rw[aBx c];rcases h with⟨_,h,_⟩|h
 . exact absurd h c
 exact .inr h
end
theorem aD1 (k:Int) (bs:Option Addr) (nn cp:Nat) (d:Dt) (p a lo b hi:Int) (by' day:Int) (PF:(Nat->R4)->Nat->Prop) (w:World) (hk:k≠3) (hby:0<=by'/\by'<=4)
 (HF: ∀W,Below w.heap.size w W->Calls Tryz.prog 28 #[fam k (.slice bs nn cp) d p a lo b hi] W fun e w'=> ∃F n,PF F n/\1<=n/\n<=7440000/\aV2 F n W e w'):
 Calls Tryz.prog 10 #[fam k (.slice bs nn cp) d p a lo b hi,.int .i64 by',.int .i64 day] w (aLX PF by' day w):=by
 have hD:Rw w.heap.size (lF k (.slice bs nn cp) d p a lo b hi) w _:=Rw.fresh (aAI _ _) _ 44;have hE:=Rw.fresh hD.below (l4 0 0 0 0) 42;rw[Bk.dF]at hE;have hA:_/\_:=⟨hD.later (ba (aAI _ _) (.cells (l4 0 0 0 0).toArray 42)),hE⟩;have HFF:=rG HF;clear HF hD hE;have t1:(k==3)=false:=by rw[aBA];exact hk
 unfold fam;unfold l4 at hA
 go_enter Tryz.func10,Tryz.ntmps10
 go_upto_region 1 with(fail)
 generalize World.alloc _ _=W0 at hA ⊢;obtain⟨hD,hE⟩:=hA;have q0:=hD.cell 0 _ rfl;have hR:=hD.range;have HD:=rG hD;have HE:=rG hE;clear hD hE hk
 go_upto_region 4 with(first
  |(refine aHD rfl 44 (.tmp 3) rfl w.heap.size 0 rfl (lF k (.slice bs nn cp) d p a lo b hi) _ hR Tryz.underlying44 rfl TB ?_)
  |(go_at_call 28;refine(HFF.out _ HD.out.below).mono ?_;rintro _ w1 ⟨F,n,hPF,hn,hn2,fs,fc,rfl,hrs,hb⟩;have HPF:=rG hPF;clear hPF;have RF:=rG (HE.out.later hb);have HB1:=rG (bt HD.out.below hb);clear HD HE hR q0 hb HFF))
 obtain⟨g,o,rfl,hg,-⟩:=hrs 0 (by omega);have HC:Hid (∀i,i<n->w1.rangeAt g (o+i * 4) (F i).l):=rG fun i hi=>by
  obtain⟨g',o',e,_,c0,c1,c2,c3⟩:=hrs i hi
  cases e
  intro j v hv;unfold R4.l l4 at hv
  match j,hv with
  |0,hv=>cases hv;exact c0
  |1,hv=>cases hv;exact c1
  |2,hv=>cases hv;exact c2
  |3,hv=>cases hv;exact c3
 clear hrs;have hnI:(n:Int)<7440001:=by omega
 by_cases b0:by'=0
 . subst b0;have hR0:=HC.out 0 (by omega);rw[aXM,aMk]at hR0;obtain⟨A,LO,B,HI,hf⟩: ∃A LO B HI,F 0=⟨A,LO,B,HI⟩:=⟨_,_,_,_,rfl⟩;rw[hf]at hR0;have HFZ:=rG hf;clear hf hby t1 hn2;unfold R4.l l4 at hR0;have e0:=hR0 0 _ rfl;have e1:=hR0 1 _ rfl;have e2:=hR0 2 _ rfl;have e3:=hR0 3 _ rfl;simp only[aMk]at e0;have r0:=RF.out.cell 0 _ rfl;have r1:=RF.out.cell 1 _ rfl;have r2:=RF.out.cell 2 _ rfl;have r3:=RF.out.cell 3 _ rfl;have s0:=RF.out.free 0 (by decide);have s1:=RF.out.free 1 (by decide);have s2:=RF.out.free 2 (by decide);have s3:=RF.out.free 3 (by decide);clear hR0;have hn0:(0:Int)<n:=by omega
   go_wp2_with (fail)
   exact LY HPF.out (x:=⟨A,LO,B,HI⟩) (RF.out.dB (l4 A LO B HI) rfl) (by unfold Q9;rw[aDk rfl];exact⟨HFZ.out.symm,rfl⟩) rfl rfl
 by_cases b1:by'=1
 . subst b1;obtain⟨m,rfl⟩: ∃m,n=m+1:=⟨n - 1,by omega⟩;have hR0:=HC.out m (by omega);obtain⟨A,LO,B,HI,hf⟩: ∃A LO B HI,F m=⟨A,LO,B,HI⟩:=⟨_,_,_,_,rfl⟩;rw[hf]at hR0;have HFZ:=rG hf;clear hf hby t1 hn2;unfold R4.l l4 at hR0;have e0:=hR0 0 _ rfl;have e1:=hR0 1 _ rfl;have e2:=hR0 2 _ rfl;have e3:=hR0 3 _ rfl;simp only[aMk]at e0;have r0:=RF.out.cell 0 _ rfl;have r1:=RF.out.cell 1 _ rfl;have r2:=RF.out.cell 2 _ rfl;have r3:=RF.out.cell 3 _ rfl;have s0:=RF.out.free 0 (by decide);have s1:=RF.out.free 1 (by decide);have s2:=RF.out.free 2 (by decide);have s3:=RF.out.free 3 (by decide);clear hR0;have x1:IntKind.i64.wrap (((m+1:Nat):Int) - 1)=m:=by rw[aHA];omega
   have x2:wrap64 (((m+1:Nat):Int) - 1)=m:=by unfold wrap64;omega
   have x3:(m:Int)<((m+1:Nat):Int):=by omega
   have x4:(0:Int)<=m:=by omega
   go_wp2_with (fail)
   exact LY HPF.out (x:=⟨A,LO,B,HI⟩) (RF.out.dB (l4 A LO B HI) rfl) (by unfold Q9;rw[aBx (by decide),aDk rfl];exact⟨by rw[Nat.add_sub_cancel];exact HFZ.out.symm,rfl⟩) rfl rfl
 have y0:(by'==0)=false:=by rw[aBA];exact b0
 have y1:(by'==1)=false:=by rw[aBA];exact b1
 have HBY:=rG (show 2<=by'/\by'<=4 by omega);clear b0 b1 hby hn
 go_upto_block 0 with(fail)
 have hP:=Rw.fresh HB1.out (l4 0 0 0 0) 42;have hE:=RF.out.later (ba (aAI _ _) (.cells (l4 0 0 0 0).toArray 42));have hB:=ba (aAI w1.heap.size w1) (.cells (l4 0 0 0 0).toArray 42);unfold l4 at hP hE hB;generalize World.alloc _ _=W2 at hP hE hB ⊢;have a1y:=RF.out.lt;clear RF HB1 t1
 go_wp2
 go_loopw [10,11] (fun s10 s11 wr=> ∃(i:Nat) (x:R4) (is:Int),i<=n/\s11=.int .i64 i/\s10=.int .i64 is/\UH F i by' day x is/\Rw w1.heap.size x.l w wr/\Rw (w.heap.size+1) [.int .i8 0,.int .i64 0,.int .i8 0,.int .i64 0] w wr/\Below w1.heap.size w1 wr) (fun _ i _=>n - (intOf i).toNat)
 case atStart=>exact⟨0,⟨0,0,0,0⟩,0,aJS _,rfl,rfl,.inr ⟨rfl,rfl,fun j h=>absurd h (Nat.not_lt_zero _)⟩,hP,hE,hB⟩
 case round =>
  obtain⟨i,x,is,hi,rfl,rfl,hpart,hX,hR,hb⟩:=hrel;clear hP hE hB;have HPT:=rG hpart;have HX:=rG hX;have HR:=rG hR;have HB:=rG hb;clear hpart hX hR hb
  by_cases hlt:i<n
  . obtain ⟨A,LO,B,HI,hf⟩: ∃A LO B HI,F i=⟨A,LO,B,HI⟩:=⟨_,_,_,_,rfl⟩;have hR0:=HC.out i hlt;rw[hf]at hR0;have HFZ:=rG hf;clear hf;unfold R4.l l4 at hR0;have e0:=(HB.out.cell (p:=⟨g,_,none⟩) hg).trans (hR0 0 _ rfl);have e1:=(HB.out.cell (p:=⟨g,_,none⟩) hg).trans (hR0 1 _ rfl);have e2:=(HB.out.cell (p:=⟨g,_,none⟩) hg).trans (hR0 2 _ rfl);have e3:=(HB.out.cell (p:=⟨g,_,none⟩) hg).trans (hR0 3 _ rfl);simp only[aMk]at e0;clear hR0;have hii:(i:Int)<n:=by omega
    go_upto_region 13 with(fail)
    have hX2:=HX.out.later (ba (aAI _ _) (.cells (l4 A LO B HI).toArray 42));have hR2:=HR.out.later (ba (aAI _ _) (.cells (l4 A LO B HI).toArray 42));have hB2:=ba HB.out (.cells (l4 A LO B HI).toArray 42);have hC2:=Rw.fresh HX.out.below (l4 A LO B HI) 42;have hne:wr.heap.size≠w1.heap.size:=by have:=HX.out.lt;omega
    unfold l4 at hX2 hR2 hB2 hC2;generalize World.alloc _ _=W3 at hX2 hR2 hB2 hC2 ⊢;clear HX HR HB e0 e1 e2 e3;have c0:=hC2.cell 0 _ rfl;have c1:=hC2.cell 1 _ rfl;have c2:=hC2.cell 2 _ rfl;have c3:=hC2.cell 3 _ rfl;replace hX2:=rG hX2;replace hR2:=rG hR2;replace hB2:=rG hB2;replace hC2:=rG hC2
    go_cut [13] (fun s wx=>s=.bool (aBl ⟨A,LO,B,HI⟩ day)/\W3=wx)
    case first=>
     by_cases ha:A=0
     . subst ha
       go_wp2
       go_meet
       exact⟨rfl,rfl⟩
     have u:(A !=0)=true:=aN0.2 ha
     go_wp2
     go_meet
     exact⟨by simp[aBl,ha],rfl⟩
    case rest=>
     obtain⟨rfl,rfl⟩:=hcut
     go_upto_region 14 with(fail)
     go_cut [14] (fun s wx=>s=.bool (WX ⟨A,LO,B,HI⟩ day)/\W3=wx)
     case first=>
      by_cases hb:B=0
      . subst hb
        go_wp2
        go_meet
        exact⟨by simp[WX],rfl⟩
      have u:(B==0)=false:=aBA.2 hb
      go_wp2
      go_meet
      exact⟨by simp[WX,hb],rfl⟩
     case rest=>
      obtain⟨rfl,rfl⟩:=hcut;clear y0 y1 c0 c1 c2 c3 hii;have hw:wrap64 ((i:Int)+1)=((i+1:Nat):Int):=by unfold wrap64;omega
      rcases(show by'=2\/by'=3\/by'=4 by have:=HBY.out;omega)with rfl|rfl|rfl
      . obtain⟨bg,hbg⟩: ∃b,b=aBl ⟨A,LO,B,HI⟩ day:=⟨_,rfl⟩;obtain⟨en,hen⟩: ∃b,b=WX ⟨A,LO,B,HI⟩ day:=⟨_,rfl⟩;have hit:=rG (show kU 2 (F i) day=(bg&& !en) by rw[HFZ.out,hbg,hen];rfl);rw[<-hbg,<-hen];clear hbg hen;rcases aTa (bg&& !en)with hh|hh
        . obtain⟨rfl,hq⟩:=Bool.and_eq_true_iff.1 hh;obtain rfl:en=false:=by cases en;rfl;cases hq
          clear hh hq;have c0:=hC2.out.cell 0 _ rfl;have c1:=hC2.out.cell 1 _ rfl;have c2:=hC2.out.cell 2 _ rfl;have c3:=hC2.out.cell 3 _ rfl;have r0:=hR2.out.cell 0 _ rfl;have r1:=hR2.out.cell 1 _ rfl;have r2:=hR2.out.cell 2 _ rfl;have r3:=hR2.out.cell 3 _ rfl;have s0:=hR2.out.free 0 (by decide);have s1:=hR2.out.free 1 (by decide);have s2:=hR2.out.free 2 (by decide);have s3:=hR2.out.free 3 (by decide)
          go_wp2
          exact LY HPF.out (x:=⟨A,LO,B,HI⟩) (hR2.out.dB (l4 A LO B HI) rfl) (HFZ.out ▸ ZK HPT.out (.inl rfl) hlt (hit.out.trans rfl)) rfl rfl
        have hno:=rG (BM HPT.out (hit.out.trans hh));clear hit
        cases bg<;>cases en
        case true.false=>cases hh
        all_goals
         clear hh
         go_wp2
         go_roundw
         case rel=>exact⟨i+1,x,is,by omega,by go_num,rfl,hno.out,hX2.out,hR2.out,hB2.out⟩
         case measure=>simp[intOf];omega
      . have hit:=rG (show kU 3 (F i) day=(decide (A=0)&&decide (day<=LO)) by rw[HFZ.out];rfl);generalize aBl ⟨A,LO,B,HI⟩ day=bg;generalize WX ⟨A,LO,B,HI⟩ day=en;have c0:=hC2.out.cell 0 _ rfl;have c1:=hC2.out.cell 1 _ rfl;have c2:=hC2.out.cell 2 _ rfl;have c3:=hC2.out.cell 3 _ rfl
        by_cases ha:A=0
        . subst ha
          by_cases hl:day<=LO
          . have r0:=hR2.out.cell 0 _ rfl;have r1:=hR2.out.cell 1 _ rfl;have r2:=hR2.out.cell 2 _ rfl;have r3:=hR2.out.cell 3 _ rfl;have s0:=hR2.out.free 0 (by decide);have s1:=hR2.out.free 1 (by decide);have s2:=hR2.out.free 2 (by decide);have s3:=hR2.out.free 3 (by decide);have hh:=rG (hit.out.trans (show(decide ((0:Int)=0)&&decide (day<=LO))=true by simp[hl]))
            go_wp2
            exact LY HPF.out (x:=⟨0,LO,B,HI⟩) (hR2.out.dB (l4 0 LO B HI) rfl) (HFZ.out ▸ ZK HPT.out (.inr rfl) hlt hh.out) rfl rfl
          have hno:=rG (BM HPT.out (hit.out.trans (by simp[hl])));clear hit
          go_wp2
          go_roundw
          case rel=>exact⟨i+1,x,is,by omega,by go_num,rfl,hno.out,hX2.out,hR2.out,hB2.out⟩
          case measure=>simp[intOf];omega
        have hno:=rG (BM HPT.out (hit.out.trans (by simp[ha])));have u:(A==0)=false:=aBA.2 ha;clear hit ha
        go_wp2
        go_roundw
        case rel=>exact⟨i+1,x,is,by omega,by go_num,rfl,hno.out,hX2.out,hR2.out,hB2.out⟩
        case measure=>simp[intOf];omega
      have hit:=rG (show kU 4 (F i) day=(decide (B=0)&&decide (HI<=day)) by rw[HFZ.out];rfl);generalize aBl ⟨A,LO,B,HI⟩ day=bg;generalize WX ⟨A,LO,B,HI⟩ day=en;have c0:=hC2.out.cell 0 _ rfl;have c1:=hC2.out.cell 1 _ rfl;have c2:=hC2.out.cell 2 _ rfl;have c3:=hC2.out.cell 3 _ rfl
      by_cases ha:B=0
      . subst ha
        by_cases hl:HI<=day
        . have x0:=hX2.out.cell 0 _ rfl;have x1:=hX2.out.cell 1 _ rfl;have x2:=hX2.out.cell 2 _ rfl;have x3:=hX2.out.cell 3 _ rfl;have s0:=hX2.out.free 0 (by decide:0<4);have s1:=hX2.out.free 1 (by decide:1<4);have s2:=hX2.out.free 2 (by decide:2<4);have s3:=hX2.out.free 3 (by decide:3<4);have hh:=rG (aIw (F:=F) (hit.out.trans (by simp[hl])))
          go_wp2
          go_roundw
          case rel=>
           refine⟨i+1,F i,1,by omega,by go_num,rfl,hh.out,?_,?_,?_⟩
           . rw[HFZ.out];exact hX2.out.dB (l4 A LO 0 HI) rfl
           . exact hR2.out.others (q:=w1.heap.size) (by omega) (by omega) (l4 A LO 0 HI) 0
           exact((((hB2.out.setCell (aEc _) _).setCell (aEc _) _).setCell (aEc _) _).setCell (aEc _) _)
          case measure=>simp[intOf];omega
        have hno:=rG (BM HPT.out (hit.out.trans (by simp[hl])));clear hit
        go_wp2
        go_roundw
        case rel=>exact⟨i+1,x,is,by omega,by go_num,rfl,hno.out,hX2.out,hR2.out,hB2.out⟩
        case measure=>simp[intOf];omega
      have hno:=rG (BM HPT.out (hit.out.trans (by simp[ha])));have u:(B==0)=false:=aBA.2 ha;clear hit ha
      go_wp2
      go_roundw
      case rel=>exact⟨i+1,x,is,by omega,by go_num,rfl,hno.out,hX2.out,hR2.out,hB2.out⟩
      case measure=>simp[intOf];omega
  have e:i=n:=by omega
  subst e;have HO:=rG (aIx HPT.out HBY.out);have r0:=HR.out.cell 0 _ rfl;have r1:=HR.out.cell 1 _ rfl;have r2:=HR.out.cell 2 _ rfl;have r3:=HR.out.cell 3 _ rfl;have s0:=HR.out.free 0 (by decide);have s1:=HR.out.free 1 (by decide);have s2:=HR.out.free 2 (by decide);have s3:=HR.out.free 3 (by decide);have x0:=HX.out.cell 0 _ rfl;have x1:=HX.out.cell 1 _ rfl;have x2:=HX.out.cell 2 _ rfl;have x3:=HX.out.cell 3 _ rfl
  go_wp2
  exact LY HPF.out (x:=x) (HR.out.dB x.l rfl) HO.out rfl rfl
end Sk
end
section
open Go.RowKit Go.Lib
namespace Bk
open Un (ba bt ri rb aS aZ)
def Dt.aA8(d:Dt)(y:Int)(ms:List Int):List (Int × Int):=ms.flatMap fun m=>(d.yl y m).map fun k=>(m,k)
def flat3(l:List (Int × Int × Int)):List Value:=l.flatMap fun p=>aK6 p.1 p.2.1 p.2.2
theorem aK3(d:Dt)(y:Int)(ms:List Int):(d.aA8 y ms).length=d.nH y ms:=by
 unfold Dt.aA8 Dt.nH;rw[List.length_flatMap];simp
theorem CO(a b:List (Int × Int × Int)):flat3 (a++b)=flat3 a++flat3 b:=by unfold flat3;rw[aWx]
theorem OG(d:Dt)(y:Int): ∀ms,d.lG y ms=flat3 ((d.aA8 y ms).map fun p=>(y,p.1,p.2))
 |[]=>rfl
 |m::r=>by
  have ih:=OG d y r;unfold Dt.lG Dt.aA8 at *;rw[List.flatMap_cons,List.flatMap_cons,aQD,CO,<-ih]
  congr 1
  unfold rQ flat3;rw[aWA,List.flatMap_map]
  rfl
theorem aAk{d:Dt}{y:Int}{ms:List Int}{p:Int × Int}:p ∈ d.aA8 y ms↔(p.1 ∈ ms/\p.2 ∈ d.ds/\p.2<=d.len y p.1):=by
 unfold Dt.aA8;rw[List.mem_flatMap];constructor
 . rintro⟨m,hm,hp⟩;rw[aPo]at hp;obtain⟨k,hk,rfl⟩:=hp;exact⟨hm,VP.1 hk⟩
 rintro⟨h1,h2⟩;exact⟨p.1,h1,aPo.2 ⟨p.2,VP.2 h2,rfl⟩⟩
end Bk
end
section
open Go.RowKit Go.Lib
namespace Bk
open Un (ba bt ri rb aS aZ)
theorem AZ{P:Program}(w:World){ops:Array Oper}{rest:List Oper}{o:Oper}{a:Act}{Q:Exit->Act->World->Prop}(hgd:o.guard=none)(s x:Operand)(t:TypeId)
 (ho:o.op=.call { callee:=.builtin .append,args:= #[s,x],argTypes:= #[t,t] })
 (base:Nat) (e:TypeId) (i:TypeInfo) (z:Value) (size bytes:Nat) (ht:P.underlying t=some (.slice e)) (hi:P.info? e=some i) (hz:i.zero=some z)
 (hsize:i.size=size) (hby:i.bytes=bytes) (hzs:z.cells.size=size) (hsz:0<size)
 (v:Value) (n:Nat) (xs:List Value) (hs:a.eval s=v) (hown:w.ownsRow base e size v n xs)
 (B2:Nat) (v2:Value) (n2:Nat) (xs2:List Value) (hx:a.eval x=v2) (hown2:w.ownsRow B2 e size v2 n2 xs2) (h1: ∀u ∈ xs2,u.oneCell'=true)
 (h63:n+n2<=maxLen) (hbytes:(n+n2) * bytes<=140737488355328) (hbase:base<=w.heap.size)
 (h: ∀v' w',w'.ownsRow base e size v' (n+n2) (xs++xs2)->w.grownBy w' v.ownBlock->wpList P ops Q rest (a.put o.dst v') w'):wpList P ops Q (o::rest) a w:=by
 have hl2:=hown2.1;rcases hown2.2 with⟨rfl,rfl⟩|⟨g,cap,cur,rfl,_⟩
 . have hx2:xs2=[]:=by rw[aXM]at hl2;exact aTw.1 hl2
   subst hx2;refine wpList_plain hgd fun K hK=>?_;have hr:(Builtin.append_ #[t,t] o.type #[v,.slice none 0 0]).run P w=.ok v w:=by
    rcases hown.2 with⟨rfl,rfl⟩|⟨g,cap,cur,rfl,_,_,hle,_⟩
    . exact run_append_nothing w t t o.type e i ht hi none 0 0 (aEc _) _ (Src.ofNil w ht 0)
    exact run_append_nothing w t t o.type e i ht hi (some ⟨g,0,none⟩) n cap hle _ (Src.ofNil w ht 0)
   have hf:=hK _ _ (h v w (by simpa using hown) ⟨rfl,rfl,rfl,aEc _,fun _ _ _=>rfl⟩);unfold Oper.wp;simp[execOp,ho,resolve,invoke,builtin,hs,hx,hr,Result.andThen];exact hf
 exact aWh w hgd s x t ho base e i z size bytes ht hi hz hsize hby hzs hsz v n xs hs hown ⟨g,0,none⟩ n2 cap xs2 hx hl2 (hown2.cells rfl) h1 h63 hbytes hbase (fun v' w' h2 h3 _=>h v' w' h2 h3)
theorem aSE(d:Dt): ∃K:Int->Nat,(∀y,K y<=K (y+1))/\(∀y,d.In y->K y+1<=K (y+1))/\ ∀y,K y<=20000:=by
 cases hm:d.mask
 . refine⟨fun y=>if y<=(if d.neg=true then -d.mag else d.mag)then 0 else 1,fun y=>?_,fun y hy=>?_,fun y=>?_⟩
   . show(if _ then 0 else 1)<=(if _ then 0 else 1)
     (repeat' split)<;>omega
   . unfold Dt.In at hy;rw[hm,aBx (by decide)]at hy;show(if _ then 0 else 1)+1<=(if _ then 0 else 1);rw[aDk (by omega),aBx (by omega)];omega
   show(if _ then 0 else 1)<=_
   (repeat' split)<;>omega
 refine⟨fun y=>(min (max (y+9999) 0) 19999).toNat,fun y=>?_,fun y hy=>?_,fun y=>?_⟩
 . show(min (max (y+9999) 0) 19999).toNat<=(min (max (y+1+9999) 0) 19999).toNat;omega
 . unfold Dt.In at hy;rw[hm,aDk rfl]at hy;have: -9999<=y/\y<=9999:=by
    split at hy
    . have:=hy.1.1;have:=hy.1.2.1;omega
    have:=hy.1;have:=hy.2.1;omega
   show(min (max (y+9999) 0) 19999).toNat+1<=(min (max (y+1+9999) 0) 19999).toNat;omega
 show(min (max (y+9999) 0) 19999).toNat<=_;omega
def Dt.yfl(d:Dt)(y:Int):List (Int × Int × Int):=(d.aA8 y d.ms).map fun p=>(y,p.1,p.2)
theorem RG(d:Dt)(y:Int):d.lG y d.ms=flat3 (d.yfl y):=OG d y d.ms
theorem aMF(d:Dt)(y:Int):(d.yfl y).length=d.nH y d.ms:=by unfold Dt.yfl;rw[aPZ,aK3]
theorem aQK(d:Dt)(y:Int):d.nH y d.ms<=372:=by
 have h1:=UL d y d.ms;have h2:=d.MC;omega
theorem aNM{d:Dt}{y:Int}(hy:d.In y){p:Int × Int × Int}(hp:p ∈ d.yfl y):d.Fill p.1 p.2.1 p.2.2:=by
 unfold Dt.yfl at hp;rw[aPo]at hp;obtain⟨q,hq,rfl⟩:=hp;have:=aAk.1 hq;exact⟨hy,this.1,this.2.1,this.2.2⟩
theorem aGG(l:List (Int × Int × Int)): ∀u ∈ flat3 l,u.oneCell'=true:=by
 intro u hu;unfold flat3 at hu;rw[List.mem_flatMap]at hu;obtain⟨p,_,h⟩:=hu;simp[aK6]at h;rcases h with rfl|rfl|rfl<;>rfl
end Bk
end
section
open Go.RowKit Go.Lib
namespace Bk
open Un (ba bt ri rb aS aZ)
abbrev L3(p q:Int × Int × Int):Prop:=uY p.1 p.2.1 p.2.2 q.1 q.2.1 q.2.2
def aEJ(d:Dt)(w:World)(e:Ending)(w':World):Prop:= ∃(v:Value) (L:List (Int × Int × Int)),e=.returned v/\w'.ownsRow w.heap.size 112 3 v L.length (flat3 L)/\(∀p,p ∈ L↔d.Fill p.1 p.2.1 p.2.2)/\L.Pairwise L3/\L.length<=7440000/\Below w.heap.size w w'
theorem aBC(d:Dt)(y:Int):(d.yfl y).Pairwise L3:=by
 unfold Dt.yfl Dt.aA8;rw[aXF,List.pairwise_flatMap];refine⟨fun m _=>?_,(d.EO).imp fun{m n} h p hp q hq=>?_⟩
 . rw[aXF];have hs:(d.yl y m).Pairwise (· < ·):=by
    unfold Dt.yl
    split
    . exact List.pairwise_singleton _ _
    exact mP _ _
   exact hs.imp fun h=>.inr ⟨rfl,.inr ⟨rfl,h⟩⟩
 obtain⟨a,_,rfl⟩:=aPo.1 hp;obtain⟨b,_,rfl⟩:=aPo.1 hq;exact .inr ⟨rfl,.inl h⟩
theorem GK{d:Dt}{y:Int}(hy:d.In y){p:Int × Int × Int}:p ∈ d.yfl y↔d.Fill p.1 p.2.1 p.2.2/\p.1=y:=by
 constructor
 . intro h;refine⟨aNM hy h,?_⟩;unfold Dt.yfl at h;obtain⟨q,_,rfl⟩:=aPo.1 h
   rfl
 rintro⟨h,rfl⟩;unfold Dt.yfl;exact aPo.2 ⟨(p.2.1,p.2.2),aAk.2 ⟨h.2.1,h.2.2.1,h.2.2.2⟩,rfl⟩
theorem aFw (d:Dt) (w:World) (hy:d.dg.size<=1000) (hf:d.form=0) (hs:d.sig<=0):
 Calls Tryz.prog 89 #[aV d] w (aEJ d w):=by
 have hk:=(Dt.fC (Dt.iO hf).1).1;have hD:=Dm.new d w 37;have HSP:=rG (fun w=>SE d w hy hk hs);have HIN:=rG (fun y w h0 h1=>aDV d y w hy hk hs h0 h1);have HYL:=rG (fun y w=>aDT d y w hf);obtain⟨K,hK1,hK2,hK3⟩:=aSE d;have HKK:=rG (⟨hK1,hK2,hK3⟩:_/\_/\_);obtain⟨i0,hi,hz0,hz1,hz2⟩:=aW9 aAz;have HI:=rG hi;have HZ0:=rG hz0;have HZ1:=rG hz1;have HZ2:=rG hz2;clear hi hz0 hz1 hz2 hf hk hK1 hK2 hK3;unfold yv at HSP HIN;unfold aV at HYL;unfold aV
 go_enter Tryz.func89,Tryz.ntmps89
 go_upto_region 1 with(fail)
 generalize World.alloc _ _=W0 at hD ⊢;obtain⟨q0,q1,q2,q3,q4,q5,q6,q7,q8,q9,qB⟩:=id hD
 go_wp2_with (go_at_call 97;refine(HSP.out _).mono ?_;rintro _ w1 ⟨a,b,hab,a0,b0,rfl,hb⟩;replace hD:=hD.later hb;clear hb)
 have HAB:=rG hab;have HBA:=rG (⟨a0,b0⟩:_/\_);clear hab q0 q1 q2 q3 q4 q5 q6 q7 q8 q9 qB HSP a0 b0;have HD1:=rG hD;clear hD
 go_loopw [3,6] (fun s3 s6 wr=> ∃(y:Int) (L:List (Int × Int × Int)),a<=y/\(y<=b+1\/y=a)/\s6=.int .i64 y/\wr.ownsRow w1.heap.size 112 3 s3 L.length (flat3 L)/\(∀p,p ∈ L↔d.Fill p.1 p.2.1 p.2.2/\p.1<y)/\L.length<=372 * K y/\L.Pairwise L3/\Below w1.heap.size w1 wr) (fun _ i _=>(b+1 - intOf i).toNat)
 case atStart=>exact⟨a,[],by omega,.inr rfl,rfl,⟨rfl,.inl ⟨rfl,rfl⟩⟩,fun p=>⟨fun h=>(by cases h),fun h=>absurd (HAB.out p.1 h.1.1).1 (by have:=h.2;omega)⟩,by simp,.nil,aAI _ _⟩
 case round =>
  obtain⟨y,L,hy0,hy1,rfl,hown,hF,hlen,hne,hb⟩:=hrel;have HF:=rG hF;have HL:=rG hlen;have HNE:=rG hne;have HB:=rG hb;have HO:=rG hown;have hD:=HD1.out.later hb;obtain⟨q0,q1,q2,q3,q4,q5,q6,q7,q8,q9,qB⟩:=id hD;clear hF hlen hne hb hown;obtain⟨p0,p1⟩:=HBA.out
  by_cases hlt:y<=b
  . have HIX:=rG (fun w=>HIN.out y w (by omega) (by omega))
    by_cases hi:d.In y
    . have HI2:Hid (∀w,Calls Tryz.prog 98 #[.agg #[.bool d.neg,.bool d.long,.string d.dg,.int .i64 d.ex,.int .i64 d.sig],.int .i64 y] w fun r w'=>r=.returned (.int .i64 1)/\Below w.heap.size w w'):=rG (fun w=>by
       refine(HIX.out w).mono ?_;rintro e w' ⟨x,⟨rfl,_⟩|⟨rfl,h⟩,rfl,hb⟩
       . exact⟨rfl,hb⟩
       exact absurd hi h)
      have HII:=rG hi;have aZm:=rG (fun w=>HYL.out y w);have hb1:=HKK.out.2.1 y hi;have hb2:=HKK.out.2.2 (y+1);have hb3:=aQK d y;have hb4:=HL.out;have HT:Hid (L.length+d.nH y d.ms<=372 * K (y+1)/\372 * K (y+1)<=7440000):=rG (by omega);have HOT:Hid (flat3 (L++d.yfl y)=flat3 L++d.lG y d.ms/\(L++d.yfl y).length=L.length+d.nH y d.ms/\(∀u ∈ d.lG y d.ms,u.oneCell'=true)):=rG ⟨by rw[CO,RG],by rw[aS9,aMF],by rw[RG];exact aGG _⟩;clear HIX HIN hi HYL hb1 hb2 hb3 hb4;have a0R:=rG HB.out.size
      as_aux_lemma=>
       go_wp2_with (first
        |(go_at_call 98;with_reducible refine(HI2.out _).mono ?_;rintro _ w2 ⟨rfl,hb⟩;replace HO:=rG (own_below HO.out hb);replace HB:=rG (bt HB.out hb);replace hD:=hD.later hb;clear hb q0 q1 q2 q3 q4 q5 q6 q7 q8 q9 qB;obtain⟨q0,q1,q2,q3,q4,q5,q6,q7,q8,q9,qB⟩:=id hD)
        |(go_at_call 99;refine(aZm.out _).mono ?_;rintro _ w3 ⟨v2,rfl,hown2,hb⟩;replace HO:=rG (own_below HO.out hb);replace HB:=rG (bt HB.out hb);have HO2:=rG hown2;clear hb hown2 hD q0 q1 q2 q3 q4 q5 q6 q7 q8 q9 qB)
        |(at_builtin;refine AZ _ rfl _ _ 125 rfl w1.heap.size 112 i0 (.agg #[.int .i64 0,.int .i64 0,.int .i64 0]) 3 24 Tryz.underlying125 HI.out HZ0.out HZ1.out HZ2.out rfl (by decide) _ _ _ rfl HO.out _ _ _ _ rfl HO2.out HOT.out.2.2 ?c1 ?c2 HB.out.size ?_))
       case c1=>have:=HT.out;unfold maxLen;omega
       case c2=>have:=HT.out;omega
       intro v' w4 hown' hgrow;have hB2:=HB.out.grown hgrow HB.out.size (fun j hj=>(HO.out.lt j hj).1);have hO2:w4.ownsRow w1.heap.size 112 3 v' (L++d.yfl y).length (flat3 (L++d.yfl y)):=by rw[HOT.out.1,HOT.out.2.1];exact hown'
       replace hB2:=rG hB2;replace hO2:=rG hO2;clear hown' hgrow HO2
       go_wp2
       go_roundw
       case rel=>
        refine⟨y+1,L++d.yfl y,by omega,.inl (by omega),by go_num,hO2.out,fun p=>?_,by rw[HOT.out.2.1];exact HT.out.1,List.pairwise_append.2 ⟨HNE.out,aBC d y,fun p hp q hq=>?_⟩,hB2.out⟩
        . rw[aL6,HF.out p,GK HII.out];constructor
          . rintro(⟨h1,h2⟩|⟨h1,h2⟩)
            . exact⟨h1,by omega⟩
            exact⟨h1,by omega⟩
          rintro⟨h1,h2⟩
          by_cases e:p.1=y
          . exact .inr ⟨h1,e⟩
          exact .inl ⟨h1,by omega⟩
        have h1:=((HF.out p).1 hp).2;have h2:=((GK HII.out).1 hq).2;exact .inl (by omega)
       case measure=>simp[intOf];omega
    have HI2:Hid (∀w,Calls Tryz.prog 98 #[.agg #[.bool d.neg,.bool d.long,.string d.dg,.int .i64 d.ex,.int .i64 d.sig],.int .i64 y] w fun r w'=>r=.returned (.int .i64 0)/\Below w.heap.size w w'):=rG (fun w=>by
     refine(HIX.out w).mono ?_;rintro e w' ⟨x,⟨rfl,h⟩|⟨rfl,_⟩,rfl,hb⟩
     . exact absurd h hi
     exact⟨rfl,hb⟩)
    have HNI:=rG hi;clear HIX HYL HIN hi
    as_aux_lemma=>
     go_wp2_with (go_at_call 98;with_reducible refine(HI2.out _).mono ?_;rintro _ w2 ⟨rfl,hb⟩;replace HO:=rG (own_below HO.out hb);replace HB:=rG (bt HB.out hb);clear hb)
     go_roundw
     case rel=>exact⟨y+1,L,by omega,.inl (by omega),by go_num,HO.out,fun p=>(HF.out p).trans ⟨fun h=>⟨h.1,by have:=h.2;omega⟩,fun h=>⟨h.1,by
      by_cases e:p.1=y
      . exact absurd (e ▸ h.1.1) HNI.out
      have:=h.2;omega⟩⟩,by have:=HL.out;have:=HKK.out.1 y;omega,HNE.out,HB.out⟩
     case measure=>simp[intOf];omega
  have HNP:Hid ((∀p,p ∈ L↔d.Fill p.1 p.2.1 p.2.2)/\L.Pairwise L3/\L.length<=7440000):=rG ⟨fun p=>(HF.out p).trans ⟨fun h=>h.1,fun h=>⟨h,by have:=(HAB.out p.1 h.1).2;omega⟩⟩,HNE.out,by have:=HL.out;have:=HKK.out.2.2 y;omega⟩;have HBB:=rG (bt HD1.out.below HB.out);have HO2:=rG (BN HO.out HD1.out.below.size);clear HNE HAB HYL HIN HL HB HO
  as_aux_lemma=>
   go_wp2
   go_ret
   exact⟨_,L,rfl,HO2.out,HNP.out.1,HNP.out.2.1,HNP.out.2.2,HBB.out⟩
end Bk
end
section
namespace Bk
open Cal
def Dt.lo(d:Dt)(y m k:Int):Int:=gV y (d.mOf m) (d.kOf k)
def Dt.hi(d:Dt)(y m k:Int):Int:=jS y (d.mOf m) (d.kOf k)
theorem fO{d:Dt}(hf:d.form=0){y m k:Int}(h:d.Fill y m k):
 (d.aH=0/\d.mo.size=0/\d.da.size=0/\m=0/\k=0/\d.lo y m k=st y/\d.hi y m k=st (y+1) - 1)\/
 (d.aH≠0/\d.mo.size≠0/\d.da.size=0/\m=d.aH/\21<=m/\m<=41/\k=0/\d.lo y m k=st y+bZ y (bH m)/\d.hi y m k=fQ y (bH m) (eH m))\/
 (d.aH=0/\d.mo.size≠0/\d.da.size=0/\1<=m/\m<=12/\k=0/\d.lo y m k=st y+bZ y m/\d.hi y m k=st y+bZ y (m+1) - 1)\/
 (d.aH=0/\d.mo.size≠0/\d.da.size≠0/\1<=m/\m<=12/\1<=k/\k<=Cal.len y m/\d.lo y m k=st y+bZ y m+k - 1/\d.hi y m k=st y+bZ y m+k - 1):=by
 obtain⟨hin,hm,hk,hl⟩:=h;have hbd:d.aH=0\/(21<=d.aH/\d.aH<=41):=iY d.mo;have hk0:d.da.size=0->k=0:=fun e=>by
  unfold Dt.ds at hk;rw[aDk e,aL8]at hk;exact hk
 unfold Dt.lo Dt.hi gV jS Dt.mOf Dt.kOf;rcases jB hf with⟨h1,h2,h3⟩|⟨h1,h2,h3,h4⟩|⟨h1,h2,h3⟩
 . refine .inr (.inl ?_);rw[Dt.nJ h1,aL8]at hm;have e:=KX y m (by omega) (by omega);rw[aBx h2,aBx (by omega),aDk (by omega),aBx (by omega),aDk (by omega),e];exact⟨h1,h2,h3,hm,by omega,by omega,hk0 h3,rfl,rfl⟩
 . rw[Dt.qY h1 h2,fA]at hm
   by_cases c:d.da.size=0
   . refine .inr (.inr (.inl ?_));have:=hk0 c;subst this;rw[aBx h2,aDk c,aBx (by omega),aBx (by omega),aDk rfl,aBx (by omega),aBx (by omega),aDk rfl];exact⟨h1,h2,c,by omega,by omega,rfl,rfl,rfl⟩
   refine .inr (.inr (.inr ?_));unfold Dt.ds at hk;rw[aBx c,fA]at hk;unfold Dt.len at hl;rw[aBx c]at hl;rw[aBx h2,aBx c,aBx (by omega),aBx (by omega),aBx (by omega),aBx (by omega),aBx (by omega),aBx (by omega)];exact⟨h1,h2,c,by omega,by omega,by omega,hl,rfl,rfl⟩
 refine .inl ?_;have:=hk0 h3;subst this;unfold Dt.ms at hm;rw[aBx (by simp[h1]),aDk h2,aL8]at hm;rw[aDk h2,aDk rfl,aDk rfl];exact⟨h1,h2,h3,hm,rfl,rfl,rfl⟩
theorem lI{y a b:Int}(h1:1<=a)(h:a<=b)(h2:b<=13):bZ y a<=bZ y b:=by
 by_cases c:a=b
 . subst c;omega
 have:=@DF y a b h1 (by omega) h2;have:=eG y a;omega
theorem FI{y a b:Int}(h1:1<=a)(h:a<b)(h2:b<=13):bZ y a<bZ y b:=by
 have:=@DF y a b h1 h h2;have:=eG y a;omega
theorem aFd{y z sf k:Int}(h0:1<=sf)(h1:sf<=12)(h2:3<=k)(h3:k<=6)(h4:sf+k<=15)(h:y<z):fQ y sf k<st z+bZ z sf:=by
 have e1:=st_succ y;have m1:=@gZ (y+1) z (by omega);have c0:=@fF z sf (by omega) (by omega);unfold fQ
 split
 . have c1:=@lI y (sf+k) 13 (by omega) (by omega) (by omega);rw[jL]at c1;omega
 have c1:=@lI (y+1) (sf+k - 12) 3 (by omega) (by omega) (by omega);have c2:bZ (y+1) 3<=60:=by
  have:=TR (y+1);have:=eG (y+1) 1;have:=uZ (y+1);unfold bZ;simp;unfold leap at *;unfold lp at *;split<;>omega
 have c3:61<=bZ z sf:=by
  have:=@lI z 8 sf (by omega) (by omega) (by omega);have e:212<=bZ z 8:=by unfold bZ;simp;have:=uZ z;omega
  omega
 by_cases q:z=y+1
 . subst q;omega
 have m2:=@gZ (y+1) z (by omega);omega
theorem aFf{y sf k:Int}(h0:1<=sf)(h1:sf<=12)(h2:3<=k)(h3:k<=6)(h4:sf+k<=15):st y+bZ y sf<=fQ y sf k:=by
 have e1:=st_succ y;unfold fQ
 split
 . have c1:=@FI y sf (sf+k) (by omega) (by omega) (by omega);omega
 have c1:=@lI y sf 13 (by omega) (by omega) (by omega);rw[jL]at c1;have c2:=@FI (y+1) 1 (sf+k - 12) (by omega) (by omega) (by omega);have c3:=yA (y+1);omega
theorem uK{d:Dt}(hf:d.form=0){y m k:Int}(h:d.Fill y m k):d.lo y m k<=d.hi y m k:=by
 have e1:=st_succ y;have l1:=uZ y;rcases fO hf h with⟨_,_,_,_,_,a,b⟩|⟨_,_,_,_,_,_,_,a,b⟩|⟨_,_,_,m0,m1,_,a,b⟩|⟨_,_,_,_,_,_,_,a,b⟩
 . rw[a,b];omega
 . rw[a,b];have f:=KP m;exact aFf (by omega) (by omega) (by omega) (by omega) (by omega)
 . rw[a,b];have:=@FI y m (m+1) (by omega) (by omega) (by omega);omega
 rw[a,b];omega
theorem E5{d:Dt}(hf:d.form=0){y m k z n j:Int}(h:d.Fill y m k)(g:d.Fill z n j)(hl:uY y m k z n j):d.hi y m k<d.lo z n j:=by
 have e1:=st_succ y;have l1:=uZ y;have hyz:y<=z:=by unfold uY at hl;omega
 have m1:=@gZ y z hyz;have hst:y<z->st (y+1)<=st z:=fun c=>by have:=@gZ (y+1) z (by omega);omega
 unfold uY at hl;rcases fO hf h with⟨a1,a2,a3,a4,a5,_,a7⟩|⟨a1,a2,a3,a4,a5,a6,a7,_,a9⟩|⟨a1,a2,a3,a4,a5,a6,_,a8⟩|⟨a1,a2,a3,a4,a5,a6,a7,_,a9⟩<;>
 rcases fO hf g with⟨b1,b2,b3,b4,b5,b6,_⟩|⟨b1,b2,b3,b4,b5,b6,b7,b8,_⟩|⟨b1,b2,b3,b4,b5,b6,b7,_⟩|⟨b1,b2,b3,b4,b5,b6,b7,b8,_⟩<;>
 first|(exfalso;omega)|skip
 . rw[a7,b6];have:=hst (by omega);omega
 . rw[a9,b8];have f:=KP m;have e:n=m:=by omega
   subst e;exact aFd (by omega) (by omega) (by omega) (by omega) (by omega) (by omega)
 . rw[a8,b7]
   by_cases q:y=z
   . subst q;have:=@lI y (m+1) n (by omega) (by omega) (by omega);omega
   have:=hst (by omega);have c1:=@lI y (m+1) 13 (by omega) (by omega) (by omega);rw[jL]at c1;have c0:=@fF z n (by omega) (by omega);omega
 rw [a9,b8];have c2:=bP y m (by omega) (by omega)
 by_cases q:y=z
 . subst q
   by_cases r:m=n
   . subst r;omega
   have:=@lI y (m+1) n (by omega) (by omega) (by omega);omega
 have:=hst (by omega);have c1:=@lI y (m+1) 13 (by omega) (by omega) (by omega);rw[jL]at c1;have c0:=@fF z n (by omega) (by omega);omega
def cY(day:Int):Int:=dH day
def cM(day:Int):Int:=DV (dH day) (day - st (dH day))
def cK(day:Int):Int:=day - st (dH day) - bZ (dH day) (cM day)+1
theorem sQ(day:Int):1<=cM day/\cM day<=12/\1<=cK day/\cK day<=Cal.len (cY day) (cM day)/\day=st (cY day)+bZ (cY day) (cM day)+cK day - 1/\st (cY day)<=day/\day<st (cY day+1):=by
 obtain⟨s1,s2⟩:=gU day;have s3:=s2;rw[st_succ]at s2;obtain⟨m0,m1,m2,m3⟩:=@mG (dH day) (day - st (dH day)) (by omega) (by omega);have c:=bP (dH day) (DV (dH day) (day - st (dH day))) m0 m1;unfold cK cM cY;refine⟨m0,m1,by omega,by omega,by omega,s1,s3⟩
theorem aC7{d:Dt}(hf:d.form=0)(hs:d.aH=0){y m k:Int}(h:d.Fill y m k)(day:Int):d.lo y m k<=day↔d.le y m k (cY day) (cM day) (cK day):=by
 obtain⟨m0,m1,k0,k1,e,s1,s2⟩:=sQ day;generalize cY day=Y at *;generalize cM day=M at *;generalize cK day=K at *;have e1:=st_succ y;have E1:=st_succ Y;have cl:y<Y->st (y+1)<=st Y:=fun c=>by have:=@gZ (y+1) Y (by omega);omega
 have cg:Y<y->st (Y+1)<=st y:=fun c=>by have:=@gZ (Y+1) y (by omega);omega
 have l1:=uZ y;unfold Dt.le;rcases fO hf h with⟨a1,a2,a3,a4,a5,a6,_⟩|⟨a1,_⟩|⟨a1,a2,a3,a4,a5,a6,a7,_⟩|⟨a1,a2,a3,a4,a5,a6,a7,a8,_⟩
 . rw[a6];constructor
   . intro g
     by_cases c:Y<y
     . have:=cg c;omega
     omega
   rintro(g|⟨g,_⟩)
   . have:=cl g;omega
   subst g;omega
 . exact absurd hs a1
 . rw [a7];have c0:=@fF y m (by omega) (by omega);constructor
   . intro g
     by_cases c:Y<y
     . have:=cg c;omega
     by_cases q:y=Y
     . subst q
       by_cases r:M<m
       . have c1:=@lI y (M+1) m (by omega) (by omega) (by omega);rw[bP y M (by omega) (by omega)]at c1;omega
       omega
     omega
   rintro(g|⟨g,g2⟩)
   . have:=cl g;have c1:=@lI y m 13 (by omega) (by omega) (by omega);rw[jL]at c1;omega
   subst g;have c1:=@lI y m M (by omega) (by omega) (by omega);omega
 rw [a8];have c0:=@fF y m (by omega) (by omega);have cs:=bP y m (by omega) (by omega);constructor
 . intro g
   by_cases c:Y<y
   . have:=cg c;omega
   by_cases q:y=Y
   . subst q
     by_cases r:M<m
     . have c1:=@lI y (M+1) m (by omega) (by omega) (by omega);rw[bP y M (by omega) (by omega)]at c1;omega
     by_cases t:m=M
     . subst t;omega
     omega
   omega
 rintro(g|⟨g,g2⟩)
 . have:=cl g;have c1:=@lI y (m+1) 13 (by omega) (by omega) (by omega);rw[jL]at c1;omega
 subst g
 by_cases t:m=M
 . subst t;omega
 have c1:=@lI y (m+1) M (by omega) (by omega) (by omega);omega
theorem qI{d:Dt}(hf:d.form=0)(hs:d.aH≠0){y m k:Int}(h:d.Fill y m k)(cy ck:Int):d.le y m k cy 99 ck↔y<=cy:=by
 rcases fO hf h with⟨a1,_⟩|⟨a1,a2,a3,a4,a5,a6,a7,_⟩|⟨a1,_⟩|⟨a1,_⟩
 . exact absurd a1 hs
 . unfold Dt.le;omega
 . exact absurd a1 hs
 exact absurd a1 hs
theorem BF{d:Dt}(hf:d.form=0)(hs:d.aH≠0){y m k:Int}(h:d.Fill y m k):st y<=d.lo y m k/\d.lo y m k<st (y+1)/\k=0/\m=d.aH/\d.mo.size≠0/\d.da.size=0:=by
 rcases fO hf h with⟨a1,_⟩|⟨a1,a2,a3,a4,a5,a6,a7,a8,_⟩|⟨a1,_⟩|⟨a1,_⟩
 . exact absurd a1 hs
 . have f:=KP m;have c1:=@FI y (bH m) 13 (by omega) (by omega) (by omega);rw[jL]at c1;have c0:=@fF y (bH m) (by omega) (by omega);have:=st_succ y;rw[a8];exact⟨by omega,by omega,a7,a4,a2,a3⟩
 . exact absurd a1 hs
 exact absurd a1 hs
end Bk
end
section
open Go.RowKit Go.Lib
namespace Sk
open Un (ba bt)
open Bk (Dt aV cvv rv aEJ flat3 L3 Rw uY aK6)
theorem aKE{d:Dt}(hf:d.form=0){y m k:Int}(h:d.Fill y m k)(w:World):Calls Tryz.prog 40 #[.int .i64 y,.int .i64 m,.int .i64 k] w fun r w'=>r=.returned (rv (d.lo y m k) (d.hi y m k))/\Below w.heap.size w w':=by
 have hy:=Bk.Dt.jU (Bk.Dt.fC (Bk.Dt.iO hf).1).1 h.1;have hm:d.mOf m=m/\d.kOf k=k:=by
  unfold Bk.Dt.mOf Bk.Dt.kOf;rcases Bk.fO hf h with h|h|h|h
  . exact⟨by rw[aDk h.2.1,h.2.2.2.1],by rw[aDk h.2.2.1,h.2.2.2.2.1]⟩
  . exact⟨by rw[aBx h.2.1],by rw[aDk h.2.2.1,h.2.2.2.2.2.2.1]⟩
  . exact⟨by rw[aBx h.2.1],by rw[aDk h.2.2.1,h.2.2.2.2.2.1]⟩
  exact⟨by rw[aBx h.2.1],by rw[aBx h.2.2.1]⟩
 have hU:=Bk.aFu y m k w hy.1 hy.2 (by rcases Bk.fO hf h with h|h|h|h<;>omega) (by
  have:=Cal.eG y m;rcases Bk.fO hf h with h|h|h|h<;>omega)
 unfold Bk.Dt.lo Bk.Dt.hi;rw[hm.1,hm.2];exact hU
def y9(d:Dt)(L:List (Int × Int × Int)):List Value:=L.flatMap fun p=>l4 0 (d.lo p.1 p.2.1 p.2.2) 0 (d.hi p.1 p.2.1 p.2.2)
def aDC(d:Dt)(w:World)(e:Ending)(w':World):Prop:= ∃(v:Value) (L:List (Int × Int × Int)),e=.returned v/\w'.ownsRow w.heap.size 42 4 v L.length (y9 d L)/\(∀p,p ∈ L↔d.Fill p.1 p.2.1 p.2.2)/\L.Pairwise L3/\L.length<=7440000/\Below w.heap.size w w'
theorem aCX:(Tryz.prog.info? 37).map (·.size)=some 10:=by kernel_rfl
theorem aGz:(Tryz.prog.info? 42).map (fun i=>(i.zero,i.size,i.bytes))=some (some (.agg #[.int .i8 0,.int .i64 0,.int .i8 0,.int .i64 0]),4,32):=by kernel_rfl
theorem aKy{L:List (Int × Int × Int)}{i:Nat}(hi:i<L.length):(flat3 L)[i * 3]? =some (.int .i64 (L[i]'hi).1)/\(flat3 L)[i * 3+1]? =some (.int .i64 (L[i]'hi).2.1)/\(flat3 L)[i * 3+2]? =some (.int .i64 (L[i]'hi).2.2):=by
 induction L generalizing i with
 |nil=>cases hi
 | cons x L ih=>
  have e:flat3 (x::L)=.int .i64 x.1:: .int .i64 x.2.1:: .int .i64 x.2.2::flat3 L:=rfl;rw[e]
  cases i with
  |zero=>exact⟨rfl,rfl,rfl⟩
  |succ i=>
   have:=ih (i:=i) (by simpa using hi);rw[show (i+1) * 3=i * 3+1+1+1 by omega];exact this
theorem aN7(bs:Option Addr)(n cp:Nat)(d:Dt)(p a lo b hi:Int)(w:World)(hy:d.dg.size<=1000)(hf:d.form=0)(hs:d.sig<=0):
 Calls Tryz.prog 56 #[fam 2 (.slice bs n cp) d p a lo b hi] w (aDC d w):=by
 have hD:Rw w.heap.size (lF 2 (.slice bs n cp) d p a lo b hi) w _:=Rw.fresh (aAI _ _) _ 44;have HA:=rG (fun W=>Bk.aFw d W hy hf hs);obtain⟨i0,hi0,hz0,hz1,hz2⟩:=aW9 aGz;have HI:=rG hi0;have HZ0:=rG hz0;have HZ1:=rG hz1;have HZ2:=rG hz2;have HU:=rG (fun y m k (h:d.Fill y m k) W=>aKE hf h W);clear hi0 hz0 hz1 hz2 hf hs;unfold fam
 go_enter Tryz.func56,Tryz.ntmps56
 go_upto_region 1 with(fail)
 generalize World.alloc _ _=W0 at hD ⊢;have q0:=hD.cell 0 _ rfl;have hR:W0.rangeAt w.heap.size 2 (Bk.bK d):=fun j v hv=>by
  have:(lF 2 (.slice bs n cp) d p a lo b hi)[2+j]? =some v:=by
   unfold lF
   match j,hv with
   |0,hv=>exact hv
   |1,hv=>exact hv
   |2,hv=>exact hv
   |3,hv=>exact hv
   |4,hv=>exact hv
   |5,hv=>exact hv
   |6,hv=>exact hv
   |7,hv=>exact hv
   |8,hv=>exact hv
   |9,hv=>exact hv
   |j+10,hv=>cases hv
  exact hD.cell (2+j) v this
 have HD:=rG hD;clear hD
 go_wp2_with (first
  |(refine aHD rfl 37 (.tmp 11) rfl w.heap.size 2 rfl (Bk.bK d) _ hR Tryz.underlying37 rfl aCX ?_)
  |(go_at_call 89;refine(HA.out _).mono ?_;rintro _ w1 ⟨av,L,rfl,hown,hmem,hsort,hlen,hb⟩;have HD1:=rG (HD.out.later hb);clear HD hb hR q0))
 rcases id hown.2 with⟨rfl,hL0⟩|⟨g,cap,cur,rfl,hg1,hg2,hnc,hcm,-⟩
 case inl=>
  obtain rfl:L=[]:=aXY hL0;clear hown hsort
  go_loopw [3,5] (fun v i wr=>v=.slice none 0 0/\i=.int .i64 0/\Below w1.heap.size w1 wr) (fun _ _ _=>0)
  case atStart=>exact⟨rfl,rfl,aAI _ _⟩
  case round=>
   obtain⟨rfl,rfl,hb⟩:=hrel
   go_wp2
   go_ret
   exact⟨_,[],rfl,aTX _ _ _ _,hmem,.nil,hlen,bt HD1.out.below hb⟩
 have hgl:g<w1.heap.size:=by
  rcases aMh g w1.heap.size with h'|h'
  . exact h'
  rw[aKi h']at hg2;cases hg2
 have HC:Hid (∀i (h:i<L.length),w1.cell? ⟨g,i * 3,none⟩=some (.int .i64 (L[i]'h).1)/\w1.cell? ⟨g,i * 3+1,none⟩=some (.int .i64 (L[i]'h).2.1)/\w1.cell? ⟨g,i * 3+2,none⟩=some (.int .i64 (L[i]'h).2.2)):=rG fun i h=>by
  have e: ∀j,((⟨g,0,none⟩:Addr).add j)=⟨g,j,none⟩:=fun j=>by unfold Addr.add;split<;>simp_all
  obtain⟨h0,h1,h2⟩:=aKy h;have k0:=hown.cells rfl _ _ h0;have k1:=hown.cells rfl _ _ h1;have k2:=hown.cells rfl _ _ h2;rw[e]at k0 k1 k2;exact⟨k0,k1,k2⟩
 have HML:=rG hlen;have HM:=rG hmem;have HS:=rG hsort;clear hown hg1 hg2 hmem hsort hnc hcm
 go_loopw [3,5] (fun v i wr=> ∃k:Nat,k<=L.length/\i=.int .i64 k/\wr.ownsRow w1.heap.size 42 4 v k (y9 d (L.take k))/\Below w1.heap.size w1 wr) (fun _ i _=>L.length - (intOf i).toNat)
 case atStart=>exact⟨0,aJS _,rfl,aTX _ _ _ _,aAI _ _⟩
 case round=>
  obtain⟨k,hk,rfl,hown,hb⟩:=hrel
  by_cases hlt:k<L.length
  . obtain⟨c0,c1,c2⟩:=HC.out k hlt;have hF:=(HM.out _).1 (aRy hlt);replace c0:=(hb.cell (p:=⟨g,_,none⟩) hgl).trans c0;replace c1:=(hb.cell (p:=⟨g,_,none⟩) hgl).trans c1;replace c2:=(hb.cell (p:=⟨g,_,none⟩) hgl).trans c2;have HT:Hid (y9 d (L.take (k+1))=y9 d (L.take k)++l4 0 (d.lo (L[k]'hlt).1 (L[k]'hlt).2.1 (L[k]'hlt).2.2) 0 (d.hi (L[k]'hlt).1 (L[k]'hlt).2.1 (L[k]'hlt).2.2)):=rG (by
     unfold y9;rw[aWf hlt,aWx];simp)
    have HU2:=rG (fun W=>HU.out _ _ _ hF W);unfold rv at HU2;obtain⟨E0,E1,E2⟩:=HC.out k hlt;generalize d.lo (L[k]'hlt).1 (L[k]'hlt).2.1 (L[k]'hlt).2.2=RL at *;generalize d.hi (L[k]'hlt).1 (L[k]'hlt).2.1 (L[k]'hlt).2.2=RH at *;generalize (L[k]'hlt).1=Y at *;generalize (L[k]'hlt).2.1=M at *;generalize (L[k]'hlt).2.2=J at *;have HB:=rG hb;have HO:=rG hown;have hki:(k:Int)<L.length:=by omega
    have hk9:(k:Int)<7440000:=by have:=HML.out;omega
    clear hF hb hown HA
    go_wp2_with (fail)
    have E0:=rG E0;have E1:=rG E1;have E2:=rG E2;refine aVp (S:=fun w'=>w'.cell? ⟨g,k * 3,none⟩=some (.int .i64 Y)/\w'.cell? ⟨g,k * 3+1,none⟩=some (.int .i64 M)/\w'.cell? ⟨g,k * 3+2,none⟩=some (.int .i64 J)/\Below w1.heap.size w1 w') (by kernel_rfl) ⟨c0,c1,c2,HB.out.drew⟩ (fun hHeld=>?_);refine nC 0 20 _ (by assumption) ?_
    try simp only[Act.put,aAw,aAZ,aBw]
    refine nC 1 21 _ (by assumption) ?_
    try simp only[Act.put,aAw,aAZ,aBw]
    refine nC 2 22 _ (by assumption) ?_
    try simp only[Act.put,aAw,aAZ,aBw]
    refine nC 3 23 _ (by assumption) ?_
    try simp only[Act.put,aAw,aAZ,aBw]
    refine nC 4 24 _ (by assumption) ?_
    try simp only[Act.put,aAw,aAZ,aBw]
    refine nC 5 25 _ (by assumption) ?_
    try simp only[Act.put,aAw,aAZ,aBw]
    refine nC 6 26 _ (by assumption) ?_
    try simp only[Act.put,aAw,aAZ,aBw]
    refine nC 7 27 _ (by assumption) ?_
    try simp only[Act.put,aAw,aAZ,aBw]
    refine nC 8 28 _ (by assumption) ?_
    try simp only[Act.put,aAw,aAZ,aBw]
    refine nC 9 29 _ (by assumption) ?_
    try simp only[Act.put,aAw,aAZ,aBw]
    refine nC 10 30 _ (by assumption) ?_
    try simp only[Act.put,aAw,aAZ,aBw]
    refine nC 11 31 _ (by assumption) ?_
    try simp only[Act.put,aAw,aAZ,aBw]
    refine nC 12 32 _ (by assumption) ?_
    try simp only[Act.put,aAw,aAZ,aBw]
    refine nC 13 33 _ (by assumption) ?_
    try simp only[Act.put,aAw,aAZ,aBw]
    refine nC 14 34 _ (by assumption) ?_
    try simp only[Act.put,aAw,aAZ,aBw]
    refine nC 15 35 _ (by assumption) ?_
    try simp only[Act.put,aAw,aAZ,aBw]
    refine aW4 (rs:=[16]) (by kernel_rfl) (by simp) ?_;refine aWE rfl (fun K hK=>?_) aWN;simp only[aVa,aTB,aTA]
    go_simp
    go_at_call 40
    refine(HU2.out _).mono ?_;rintro _ w2 ⟨rfl,hb2⟩;have hB2:=bt ((aAI wr.heap.size wr).drew) hb2;have HO2:=rG (Bk.own_below HO.out hB2);have HB2:=rG (bt HB.out hB2);have HSS:Hid (∀W,Below w1.heap.size w1 W->W.cell? ⟨g,k * 3,none⟩=some (.int .i64 Y)/\W.cell? ⟨g,k * 3+1,none⟩=some (.int .i64 M)/\W.cell? ⟨g,k * 3+2,none⟩=some (.int .i64 J)/\Below w1.heap.size w1 W):=rG fun W h=>
     ⟨(h.cell (p:=⟨g,_,none⟩) hgl).trans E0.out,(h.cell (p:=⟨g,_,none⟩) hgl).trans E1.out,(h.cell (p:=⟨g,_,none⟩) hgl).trans E2.out,h⟩
    refine hK.out _ _ (HSS.out _ HB2.out) (fun aSe=>?_);clear hK K hHeld hB2 hb2
    try simp only[Act.put,aAw,aAZ,aBw]
    refine aW4 (rs:=[17]) (by kernel_rfl) (by simp) ?_;refine aWE rfl (fun K hK=>?_) aWN;simp only[aVa,aTB,aTA]
    go_simp
    refine hK.out _ _ (HSS.out _ (ba HB2.out _)) (fun aSd=>?_);clear hK K aSe
    try simp only[Act.put,aAw,aAZ,aBw]
    refine aW4 (rs:=[18]) (by kernel_rfl) (by simp) ?_;refine aWE rfl (fun K hK=>?_) aWN;simp only[aVa,aTB,aTA];refine wp_append_own _ _ _ 33 rfl w1.heap.size 42 i0 (.agg #[.int .i8 0,.int .i64 0,.int .i8 0,.int .i64 0]) 4 32 Tryz.underlying33 HI.out HZ0.out HZ1.out HZ2.out rfl (by decide) _ _ _ rfl (HO2.out.alloc _) ⟨w2.heap.size,0,none⟩ 1 1 (l4 0 RL 0 RH) rfl rfl ?c1 ?c2 ?c3 ?c4 ?c5 ?_
    case c1=>
     intro j u hj;unfold l4 at hj
     match j,hj with
     |0,hj=>simp at hj;subst hj;simp[Addr.add]
     |1,hj=>simp at hj;subst hj;simp[Addr.add]
     |2,hj=>simp at hj;subst hj;simp[Addr.add]
     |3,hj=>simp at hj;subst hj;simp[Addr.add]
    case c2=>intro u hu;simp[l4]at hu;rcases hu with rfl|rfl|rfl|rfl<;>rfl
    case c3=>have:=HML.out;unfold maxLen;omega
    case c4=>have:=HML.out;omega
    case c5=>have:=HB2.out.size;simp;omega
    intro v' w3 hown' hgrow _;have hB3:=(ba HB2.out (.cells (l4 0 RL 0 RH).toArray 42)).grown hgrow (by have:=HB2.out.size;simp;omega) (fun j hj=>(HO2.out.lt j hj).1);have hO3:w3.ownsRow w1.heap.size 42 4 v' (k+1) (y9 d (L.take (k+1))):=by rw[HT.out];exact hown'
    have HB3:=rG hB3;have HO3:=rG hO3;refine hK.out _ _ (HSS.out _ HB3.out) (fun aYo=>?_);clear hK K aSd hown' hgrow hB3 hO3
    try simp only[Act.put,aAw,aAZ,aBw]
    refine nC 19 3 _ (by assumption) ?_
    try simp only[Act.put,aAw,aAZ,aBw]
    refine aXf (by kernel_rfl) ?_ _
    go_wp2
    go_roundw
    case rel=>exact⟨k+1,by omega,by go_num,HO3.out,HB3.out⟩
    case measure=>simp[intOf];omega
  have e:k=L.length:=by omega
  have hO:=Bk.BN hown HD1.out.below.size;rw[e,aXV]at hO;have HOX:=rG hO;have HBX:=rG (bt HD1.out.below hb);clear hown hO hb HA
  go_wp2
  go_ret
  exact⟨_,L,rfl,HOX.out,HM.out,HS.out,HML.out,HBX.out⟩
end Sk
end
section
open Go.RowKit Go.Lib
namespace Sk
open Un (ba bt ri rb bF)
open Cal
open Bk (Dt aV cvv cvF rv lD gV jS uY cY cM cK)
open Ev (bM eU hp)
def eR(d:Dt)(y m k:Int):RB:=⟨0,d.lo y m k,0,d.hi y m k,true⟩
def nR:RB:=⟨0,0,0,0,false⟩
section
variable{d:Dt}{w0:World}
theorem uS(hc:d.dP=0):d.form=0/\d.err=0/\d.sig<=0:=by
 refine⟨Bk.fH hc,?_,?_⟩<;> · unfold Bk.Dt.dP at hc;split at hc<;>first|omega|(split at hc<;>omega)
theorem aGJ(hc:d.dP=0){y m k:Int}(F:d.Fill y m k):IX d y m k=(d.lo y m k,d.hi y m k,0):=by
 obtain⟨_,h1,h2⟩:=uS hc;unfold IX;rw[aBx (by omega),aBx (fun g=>g ⟨h2,hc,m,k,F,.inr rfl,.inr rfl⟩)]
 rfl
theorem aJ1(hc:d.dP=0){y m k:Int}(F:d.Fill y m k): -9223372036854775808<d.lo y m k/\d.lo y m k<9223372036854775807:=by
 have hin:=jU hc F.1;have b0:=Un.lV (y:=y) (by omega) (by omega);have hf:=Bk.fH hc;rcases Bk.fO hf F with⟨_,_,_,_,_,a,b⟩|⟨_,_,_,_,_,_,_,a,b⟩|⟨_,_,_,m0,m1,_,a,b⟩|⟨_,_,_,m0,m1,k0,k1,a,b⟩
 . rw[a];omega
 . have f:=Bk.KP m;have c0:=@fF y (Bk.bH m) (by omega) (by omega);rw[a];omega
 . have c0:=@fF y m (by omega) (by omega);rw[a];omega
 have c0:=@fF y m (by omega) (by omega);have:=eG y m;rw[a];omega
theorem I9(h:AX d w0)(hc:d.dP=0){y m k:Int}(F:d.Fill y m k):Same w0 283 #[aV d,cvv y m k,.bool true] (eR d y m k).v:=by
 have hin:=jU hc F.1;have H:=CP y m k (by omega) (by omega) h;rw[aGJ hc F]at H;exact aDR d y m k _ _ _ true h.st H
theorem EC(h:AX d w0){y m k:Int}(y0: -9223372036854775808<=y)(y1:y<9223372036854775808):Same w0 283 #[aV d,cvv y m k,.bool false] nR.v:=
 aDR d y m k _ _ _ false h.st (CP y m k y0 y1 h)
theorem rZ(h:AX d w0)(hc:d.dP=0)(hn: ∀y m k,¬d.Fill y m k):Same w0 283 #[aV d,cvv 0 0 0,.bool true] nR.v:=by
 have H:=CP 0 0 0 (by omega) (by omega) h;have e:IX d 0 0 0=(0,0,1):=by
  obtain⟨_,h1,h2⟩:=uS hc;unfold IX;rw[aBx (by omega),aDk (fun g=>by obtain⟨_,_,n,j,F,_⟩:=g;exact hn _ _ _ F)]
 rw[e]at H;exact aDR d 0 0 0 _ _ _ true h.st H
theorem RQ(h:AX d w0)(hc:d.dP=0)(cy cm ck:Int)(y0: -9223372036854775808<=cy)(y1:cy<9223372036854775808):
 ∃y m k ok,d.jG cy cm ck y m k ok/\d.o8 (cy,cm,ck)=(y,m,k,ok):=by
 obtain⟨e,w',fr,⟨y,m,k,ok,hF,_⟩,_⟩:=Bk.E8 d cy cm ck w0 h.hk h.mo h.dg h.m0 h.m1 h.m2 y0 y1 [];rcases hF with⟨_,hS⟩|⟨hn,_⟩
 . refine⟨y,m,k,ok,hS,?_⟩;unfold Bk.Dt.o8;rw[aDk hc];exact Bk.Dt.aJC hS
 exact absurd hc hn
theorem KJ(h:AX d w0)(hc:d.dP=0)(cy cm ck:Int)(y0: -9223372036854775808<=cy)(y1:cy<9223372036854775808):
 ∃y m k ok,d.jX cy cm ck y m k ok/\d.qX (cy,cm,ck)=(y,m,k,ok):=by
 obtain⟨e,w',fr,⟨y,m,k,ok,hF,_⟩,_⟩:=Bk.TM d cy cm ck w0 h.hk h.mo h.dg h.m0 h.m1 h.m2 y0 y1 [];rcases hF with⟨_,hS⟩|⟨hn,_⟩
 . refine⟨y,m,k,ok,hS,?_⟩;unfold Bk.Dt.qX;rw[aDk hc];exact Bk.Dt.aIr hS
 exact absurd hc hn
theorem VI(h:AX d w0)(hc:d.dP=0)(cy cm ck:Int)(y0: -9223372036854775808<=cy)(y1:cy<9223372036854775808):
 ∃y m k ok,∃r:RB,d.jG cy cm ck y m k ok/\Same w0 291 #[aV d,cvv cy cm ck] (.tuple #[cvv y m k,.bool ok,.int .i64 0])/\Same w0 283 #[aV d,cvv y m k,.bool ok] r.v/\((ok=true/\r=eR d y m k)\/(ok=false/\r=nR)):=by
 obtain⟨y,m,k,ok,hS,hN⟩:=RQ h hc cy cm ck y0 y1;have P:=xI cy cm ck y0 y1 h;unfold cvF at P;rw[hN,hc]at P;rcases hS with⟨rfl,F,g⟩|⟨rfl,rfl,rfl,rfl,g⟩
 . exact⟨y,m,k,true,eR d y m k,.inl ⟨rfl,F,g⟩,P,I9 h hc F,.inl ⟨rfl,rfl⟩⟩
 exact⟨0,0,0,false,nR,.inr ⟨rfl,rfl,rfl,rfl,g⟩,P,EC h (by omega) (by omega),.inr ⟨rfl,rfl⟩⟩
theorem JA(h:AX d w0)(hc:d.dP=0)(cy cm ck:Int)(y0: -9223372036854775808<=cy)(y1:cy<9223372036854775808):
 ∃y m k ok,∃r:RB,d.jX cy cm ck y m k ok/\Same w0 287 #[aV d,cvv cy cm ck] (.tuple #[cvv y m k,.bool ok,.int .i64 0])/\Same w0 283 #[aV d,cvv y m k,.bool ok] r.v/\((ok=true/\r=eR d y m k)\/(ok=false/\r=nR)):=by
 obtain⟨y,m,k,ok,hS,hN⟩:=KJ h hc cy cm ck y0 y1;have P:=aFy cy cm ck y0 y1 h;unfold cvF at P;rw[hN,hc]at P;rcases hS with⟨rfl,F,g⟩|⟨rfl,rfl,rfl,rfl,g⟩
 . exact⟨y,m,k,true,eR d y m k,.inl ⟨rfl,F,g⟩,P,I9 h hc F,.inl ⟨rfl,rfl⟩⟩
 exact⟨0,0,0,false,nR,.inr ⟨rfl,rfl,rfl,rfl,g⟩,P,EC h (by omega) (by omega),.inr ⟨rfl,rfl⟩⟩
def aEL(d:Dt)(r:RB):Prop:=(∃y m k,d.Fill y m k/\r=eR d y m k/\ ∀z n j,d.Fill z n j-> ¬uY z n j y m k)\/(r=nR/\ ∀z n j,¬d.Fill z n j)
def aL1(d:Dt)(r:RB):Prop:=(∃y m k,d.Fill y m k/\r=eR d y m k/\ ∀z n j,d.Fill z n j-> ¬uY y m k z n j)\/(r=nR/\ ∀z n j,¬d.Fill z n j)
theorem aAO(h:AX d w0)(hc:d.dP=0): ∃r:RB,Same w0 276 #[aV d] r.v/\aEL d r:=by
 obtain⟨y,m,k,ok,hS,hN⟩:=RQ h hc (-9223372036854775808) 0 0 (by omega) (by omega);have N:=aAP h;unfold cv3 at N;rw[hN,hc]at N;have hge: ∀z n j,d.Fill z n j->d.ge z n j (-9223372036854775808) 0 0:=fun z n j F=>by have:=jU hc F.1;unfold Bk.Dt.ge;omega
 rcases hS with⟨_,F,_,g⟩|⟨_,rfl,rfl,rfl,g⟩
 . have hin:=jU hc F.1;exact⟨eR d y m k,aEn (hst:=h.st) (H0:=N) (H1:=I9 h hc F) (H2:=EC h (by omega) (by omega)),.inl ⟨y,m,k,F,rfl,fun z n j G=>g z n j G (hge z n j G)⟩⟩
 have hn: ∀z n j,¬d.Fill z n j:=fun z n j G=>g z n j G (hge z n j G);exact⟨nR,aEn (hst:=h.st) (H0:=N) (H1:=rZ h hc hn) (H2:=EC h (by omega) (by omega)),.inr ⟨rfl,hn⟩⟩
theorem JG(h:AX d w0)(hc:d.dP=0): ∃r:RB,Same w0 278 #[aV d] r.v/\aL1 d r:=by
 obtain⟨y,m,k,ok,hS,hN⟩:=KJ h hc 9223372036854775807 0 0 (by omega) (by omega);have N:=NV h;unfold cv3 at N;rw[hN,hc]at N;have hle: ∀z n j,d.Fill z n j->d.le z n j 9223372036854775807 0 0:=fun z n j F=>by have:=jU hc F.1;unfold Bk.Dt.le;omega
 rcases hS with⟨_,F,_,g⟩|⟨_,rfl,rfl,rfl,g⟩
 . have hin:=jU hc F.1;exact⟨eR d y m k,aCT (hst:=h.st) (H0:=N) (H1:=I9 h hc F) (H2:=EC h (by omega) (by omega)),.inl ⟨y,m,k,F,rfl,fun z n j G=>g z n j G (hle z n j G)⟩⟩
 have hn: ∀z n j,¬d.Fill z n j:=fun z n j G=>g z n j G (hle z n j G);exact⟨nR,aCT (hst:=h.st) (H0:=N) (H1:=rZ h hc hn) (H2:=EC h (by omega) (by omega)),.inr ⟨rfl,hn⟩⟩
theorem aK5(day:Int)(hk:lD w0)(st:bM eU.g.n eU.l w0 hp)(h0: -9223372036854775808<=day)(h1:day<9223372036854775808):
 ∃y m k e:Int,Same w0 286 #[.int .i64 day] (.tuple #[cvv y m k,.int .i64 e])/\(-10000000000000000<=y/\y<=10000000000000000)/\(1<=m+1/\m<=12)/\(0<=k/\k<=31)/\
  ((e=0/\y=cY day/\m=cM day/\k=cK day)\/(e≠0/\ ¬(-10000000000000000<=cY day/\cY day<=10000000000000000))):=by
 have HM:=fun W hb=>Un.uD day W (hk.below (w':=W) hb).cal h0 h1;obtain⟨m0,m1,k0,k1,e,s1,s2⟩:=Bk.sQ day;have hl:=eG (cY day) (cM day);have hcu:=@fF (cY day) (cM day) (by omega) (by omega);unfold bF at HM
 by_cases c: -10000000000000000<=dH day/\dH day<=10000000000000000
 . simp only[aDk c]at HM;have hS:=aQc day _ _ _ st HM (fun W hb=>Un.iK _ _ W (hk.below hb).cal c.1 c.2 m0 m1);have ek:IntKind.i64.wrap (IntKind.i64.wrap (day - (Cal.st (dH day)+bZ (dH day) (DV (dH day) (day - Cal.st (dH day)))))+1)=cK day:=by
    have e2:day - (Cal.st (dH day)+bZ (dH day) (DV (dH day) (day - Cal.st (dH day))))=cK day - 1:=by unfold cK cM;omega
    rw[e2,aHA,aHA];omega
   rw[ek]at hS;refine⟨cY day,cM day,cK day,0,hS,c,by omega,by omega,.inl ⟨rfl,rfl,rfl,rfl⟩⟩
 simp only[aBx c]at HM;exact⟨0,0,0,6,aEw day st HM,by omega,by omega,by omega,.inr ⟨by omega,c⟩⟩
theorem aDX(h:AX d w0)(hc:d.dP=0):Same w0 288 #[aV d] (.tuple #[.int .u8 d.prec,.int .i64 0]):=by
 have H:=SH h;obtain⟨_,h1,_⟩:=uS hc;rw[h1]at H;exact H
end
end Sk
end
section
open Go.RowKit Go.Lib
namespace Sk
open Un (ba bt ri rb bF)
open Cal
open Bk (Dt aV cvv cvF rv lD gV jS uY cY cM cK)
open Ev (bM eU hp)
def DN(d:Dt)(day:Int)(r:RB):Prop:=(∃y m k,d.Fill y m k/\r=eR d y m k/\d.lo y m k<=day/\ ∀z n j,d.Fill z n j->d.lo z n j<=day-> ¬uY y m k z n j)\/(r=nR/\ ∀z n j,d.Fill z n j->day<d.lo z n j)
def XV(d:Dt)(y m k:Int)(r:RB):Prop:=(∃z n j,d.Fill z n j/\r=eR d z n j/\uY y m k z n j/\ ∀a b c,d.Fill a b c->uY y m k a b c-> ¬uY a b c z n j)\/(r=nR/\ ∀a b c,d.Fill a b c-> ¬uY y m k a b c)
def XW(d:Dt)(day:Int)(r:RB):Prop:=(∃y m k,d.Fill y m k/\r=eR d y m k/\day<=d.lo y m k/\ ∀z n j,d.Fill z n j->day<=d.lo z n j-> ¬uY z n j y m k)\/(r=nR/\ ∀z n j,d.Fill z n j->d.lo z n j<day)
def XU(d:Dt)(day:Int)(r:RB):Prop:=(∃y m k,d.Fill y m k/\r=eR d y m k/\d.hi y m k<=day/\ ∀z n j,d.Fill z n j->d.hi z n j<=day-> ¬uY y m k z n j)\/(r=nR/\ ∀z n j,d.Fill z n j->day<d.hi z n j)
section
variable{d:Dt}{w0:World}
theorem JE{d:Dt}(hf:d.form=0){y m k:Int}(F:d.Fill y m k):st y<=d.lo y m k/\d.lo y m k<st (y+1):=by
 have e1:=st_succ y;have l1:=uZ y;rcases Bk.fO hf F with⟨_,_,_,_,_,a,b⟩|⟨_,_,_,_,_,_,_,a,b⟩|⟨_,_,_,m0,m1,_,a,b⟩|⟨_,_,_,m0,m1,k0,k1,a,b⟩
 . rw[a];omega
 . have f:=Bk.KP m;have c0:=@fF y (Bk.bH m) (by omega) (by omega);have c1:=@Bk.FI y (Bk.bH m) 13 (by omega) (by omega) (by omega);rw[jL]at c1;rw[a];omega
 . have c0:=@fF y m (by omega) (by omega);have c1:=@Bk.FI y m 13 (by omega) (by omega) (by omega);rw[jL]at c1;rw[a];omega
 have c0:=@fF y m (by omega) (by omega);have c1:=@Bk.lI y (m+1) 13 (by omega) (by omega) (by omega);rw[jL]at c1;have c2:=bP y m (by omega) (by omega);rw[a];omega
theorem I7{d:Dt}(hf:d.form=0){y m k:Int}(F:d.Fill y m k){day:Int}(h:d.lo y m k<=day):y<=cY day:=by
 have h1:=JE hf F;have h2:=(Bk.sQ day).2.2.2.2.2.2
 by_cases c:y<=cY day
 . exact c
 have:=@gZ (cY day+1) y (by omega);omega
theorem vZ{d:Dt}(hf:d.form=0):(d.prec=0↔d.aH≠0)/\(d.prec=1↔d.mo.size=0)/\(d.prec=2↔d.aH=0/\d.mo.size≠0/\d.da.size=0):=by
 unfold Bk.Dt.prec;rcases Bk.jB hf with⟨h1,h2,h3⟩|⟨h1,h2,h3,h4⟩|⟨h1,h2,h3⟩
 . rw[aBx (by omega),aBx h2,aDk h1];simp[h1,h2]
 . by_cases c:d.da.size=0
   . rw[aBx (by omega),aBx h2,aBx (by omega)];simp[h1,h2,c]
   rw[aDk c];simp[h1,h2,c]
 rw[aBx (by omega),aDk h2];simp[h1,h2]
theorem DK (day:Int) (h0: -9223372036854775808<=day) (h1:day<9223372036854775808) (h:AX d w0) (hc:d.dP=0): ∃r:RB,Same w0 281 #[aV d,.int .i64 day] r.v/\DN d day r:=by
 have hf:=Bk.fH hc;obtain⟨L,HL,sL⟩:=JG h hc;obtain⟨cy,cm,ck,ce,HC,bc,bm,bk,sC⟩:=aK5 day h.hk h.st h0 h1;have HP:=aDX h hc;obtain⟨y1,m1,k1,ok1,r1,S1,P1,R1,e1⟩:=JA h hc cy cm ck (by omega) (by omega);have q1: -10000000000000000<=y1/\y1<=10000000000000000:=by
  rcases S1 with⟨_,F,_⟩|⟨_,g,_⟩
  . exact jU hc F.1
  omega
 obtain⟨y2,m2,k2,ok2,r2,S2,P2,R2,e2⟩:=JA h hc (y1 - 1) 99 0 (by omega) (by omega);obtain⟨y3,m3,k3,ok3,r3,S3,P3,R3,e3⟩:=JA h hc cy 99 ck (by omega) (by omega);have q3: -10000000000000000<=y3/\y3<=10000000000000000:=by
  rcases S3 with⟨_,F,_⟩|⟨_,g,_⟩
  . exact jU hc F.1
  omega
 obtain⟨y4,m4,k4,ok4,r4,S4,P4,R4,e4⟩:=JA h hc (y3 - 1) 99 0 (by omega) (by omega);have w1:y1 - 1=IntKind.i64.wrap (y1 - 1):=by rw[aHA];omega
 have w3:y3 - 1=IntKind.i64.wrap (y3 - 1):=by rw[aHA];omega
 rw[w1]at P2;rw[w3]at P4;have HB:=aOy (d:=d) (day:=day) (hst:=h.st) (H0:=HL) (H1:=HC) (H2:=HP) (H3:=P1) (H4:=R1) (H5:=P2) (H6:=R2) (H7:=P3) (H8:=R3) (H9:=P4) (H10:=R4);clear HL HC HP P1 P2 P3 P4 R1 R2 R3 R4;have key: ∀r:RB,DN d day r->(∀v,Same w0 281 #[aV d,.int .i64 day] v->v=r.v-> ∃r:RB,Same w0 281 #[aV d,.int .i64 day] r.v/\DN d day r):=fun r hr v hv e=>⟨r,e ▸ hv,hr⟩;rcases sL with⟨yL,mL,kL,FL,rfl,gL⟩|⟨rfl,gL⟩
 rotate_left
 . exact key nR (.inr ⟨rfl,fun z n j G=>absurd G (gL z n j)⟩) _ HB rfl
 by_cases cL:day<d.lo yL mL kL
 rotate_left
 . refine key (eR d yL mL kL) (.inl ⟨yL,mL,kL,FL,rfl,by omega,fun z n j G _=>gL z n j G⟩) _ HB ?_;show cond true (cond (decide (day<d.lo yL mL kL)) _ _) _=_;rw[aBy cL];rfl
 have bL:=jU hc FL.1;have hup:cY day<=10000000000000000:=by
  have h1:=(JE hf FL).2;have h2:=(Bk.sQ day).2.2.2.2.2.1
  by_cases c:cY day<=10000000000000000
  . exact c
  have:=@gZ (yL+1) (cY day) (by omega);omega
 rcases sC with⟨rfl,rfl,rfl,rfl⟩|⟨hce,a1z⟩
 rotate_left
 . have hno: ∀z n j,d.Fill z n j->day<d.lo z n j:=fun z n j G=>by
    have hz:=jU hc G.1
    by_cases c:day<d.lo z n j
    . exact c
    have:=I7 hf G (day:=day) (by omega);omega
   refine key nR (.inr ⟨rfl,hno⟩) _ HB ?_;show cond true (cond (decide (day<d.lo yL mL kL)) (cond (ce==0) _ _) _) _=_;rw[aBz cL,show(ce==0)=false by simpa using hce];rfl
 by_cases hs:d.aH=0
 . have hp0:(d.prec==0)=false:=by
    have:=(vZ hf).1;rw[aBA];intro g;exact(this.1 g) hs
   rcases S1 with⟨rfl,F,hle,g⟩|⟨rfl,rfl,rfl,rfl,g⟩
   . rcases e1 with⟨_,rfl⟩|⟨e,_⟩
     rotate_left
     . cases e
     have hlo:=(Bk.aC7 hf hs F day).2 hle;refine key (eR d y1 m1 k1) (.inl ⟨y1,m1,k1,F,rfl,hlo,fun z n j G hz=>g z n j G ((Bk.aC7 hf hs G day).1 hz)⟩) _ HB ?_;show cond true (cond (decide (day<d.lo yL mL kL)) (cond true (cond (d.prec==0) _ (cond true (cond (decide (day<d.lo y1 m1 k1)) _ _) _)) _) _) _=_;rw[aBz cL,hp0,aBy (show ¬day<d.lo y1 m1 k1 by omega)];rfl
   rcases e1 with⟨e,_⟩|⟨_,rfl⟩
   . cases e
   refine key nR (.inr ⟨rfl,fun z n j G=>?_⟩) _ HB ?_
   . by_cases c:day<d.lo z n j
     . exact c
     exact absurd ((Bk.aC7 hf hs G day).1 (by omega)) (g z n j G)
   show cond true (cond (decide (day<d.lo yL mL kL)) (cond true (cond (d.prec==0) _ (cond false _ _)) _) _) _=_;rw[aBz cL,hp0];rfl
 have hp0:(d.prec==0)=true:=by
  have:=(vZ hf).1;rw[aGw];exact this.2 hs
 rcases S3 with⟨rfl,F,hle,g⟩|⟨rfl,rfl,rfl,rfl,g⟩
 . rcases e3 with⟨_,rfl⟩|⟨e,_⟩
   rotate_left
   . cases e
   have hy:=(Bk.qI hf hs F _ _).1 hle;obtain⟨s0,s1,s2,s3,s4,s5⟩:=Bk.BF hf hs F;have hmax: ∀z n j,d.Fill z n j->d.lo z n j<=day->z<=y3:=fun z n j G hz=>by
    have h2:=I7 hf G hz;have h3:=g z n j G ((Bk.qI hf hs G _ _).2 h2);unfold uY at h3;omega
   by_cases c3:day<d.lo y3 m3 k3
   . have hlt: ∀z n j,d.Fill z n j->d.lo z n j<=day->z<=y3 - 1:=fun z n j G hz=>by
      have h2:=hmax z n j G hz;obtain⟨_,_,t2,t3,_⟩:=Bk.BF hf hs G
      by_cases c:z=y3
      . subst c;rw[t2,t3]at hz;rw[s2,s3]at c3;omega
      omega
     rcases S4 with⟨rfl,F4,aYh,g4⟩|⟨rfl,rfl,rfl,rfl,g4⟩
     . rcases e4 with⟨_,rfl⟩|⟨e,_⟩
       rotate_left
       . cases e
       have hy4:=(Bk.qI hf hs F4 _ _).1 aYh;have aYf:d.lo y4 m4 k4<=day:=by
        have h1:=(Bk.BF hf hs F4).2.1;have h2:=@gZ (y4+1) (cY day) (by omega);have h3:=(Bk.sQ day).2.2.2.2.2.1;omega
       refine key (eR d y4 m4 k4) (.inl ⟨y4,m4,k4,F4,rfl,aYf,fun z n j G hz=>g4 z n j G ((Bk.qI hf hs G _ _).2 (hlt z n j G hz))⟩) _ HB ?_;show cond true (cond (decide (day<d.lo yL mL kL)) (cond true (cond (d.prec==0) (cond true (cond (decide (day<d.lo y3 m3 k3)) _ _) _) _) _) _) _=_;rw[aBz cL,hp0,aBz c3];rfl
     rcases e4 with⟨e,_⟩|⟨_,rfl⟩
     . cases e
     refine key nR (.inr ⟨rfl,fun z n j G=>?_⟩) _ HB ?_
     . by_cases c:day<d.lo z n j
       . exact c
       exact absurd ((Bk.qI hf hs G _ _).2 (hlt z n j G (by omega))) (g4 z n j G)
     show cond true (cond (decide (day<d.lo yL mL kL)) (cond true (cond (d.prec==0) (cond true (cond (decide (day<d.lo y3 m3 k3)) _ _) _) _) _) _) _=_;rw[aBz cL,hp0,aBz c3];rfl
   refine key (eR d y3 m3 k3) (.inl ⟨y3,m3,k3,F,rfl,by omega,fun z n j G hz=>?_⟩) _ HB ?_
   . have h2:=I7 hf G hz;exact g z n j G ((Bk.qI hf hs G _ _).2 h2)
   show cond true (cond (decide (day<d.lo yL mL kL)) (cond true (cond (d.prec==0) (cond true (cond (decide (day<d.lo y3 m3 k3)) _ _) _) _) _) _) _=_;rw[aBz cL,hp0,aBy c3];rfl
 rcases e3 with⟨e,_⟩|⟨_,rfl⟩
 . cases e
 refine key nR (.inr ⟨rfl,fun z n j G=>?_⟩) _ HB ?_
 . by_cases c:day<d.lo z n j
   . exact c
   exact absurd ((Bk.qI hf hs G _ _).2 (I7 hf G (by omega))) (g z n j G)
 show cond true (cond (decide (day<d.lo yL mL kL)) (cond true (cond (d.prec==0) (cond false _ _) _) _) _) _=_;rw[aBz cL,hp0];rfl
theorem aOt{d:Dt}(hf:d.form=0){y m k:Int}(F:d.Fill y m k):cY (d.lo y m k)=y/\(d.aH=0->d.mo.size≠0->cM (d.lo y m k)=m/\(d.da.size≠0->cK (d.lo y m k)=k)):=by
 have hy:cY (d.lo y m k)=y:=JX (JE hf F).1 (JE hf F).2;refine⟨hy,fun hs hm=>?_⟩;have e:cM (d.lo y m k)=DV y (d.lo y m k - st y):=by unfold cM;unfold cY at hy;rw[hy]
 have e2:cK (d.lo y m k)=d.lo y m k - st y - bZ y (cM (d.lo y m k))+1:=by unfold cK;unfold cY at hy;rw[hy]
 rcases Bk.fO hf F with⟨_,a,_⟩|⟨a,_⟩|⟨_,_,a2,m0,m1,_,a,b⟩|⟨_,_,a2,m0,m1,k0,k1,a,b⟩
 . exact absurd a hm
 . exact absurd hs a
 . have c:=bP y m m0 m1;have l:=eG y m;have e3:cM (d.lo y m k)=m:=by rw[e];exact zT m0 m1 (by omega) (by omega)
   exact⟨e3,fun g=>absurd a2 g⟩
 have c:=bP y m m0 m1;have e3:cM (d.lo y m k)=m:=by rw[e];exact zT m0 m1 (by omega) (by omega)
 refine⟨e3,fun _=>?_⟩;rw[e2,e3,a];omega
theorem aJ0{d:Dt}(hf:d.form=0){y m k z n j:Int}(F:d.Fill y m k)(G:d.Fill z n j)(h:d.lo y m k<d.lo z n j):uY y m k z n j:=by
 by_cases c:uY y m k z n j
 . exact c
 by_cases e:uY z n j y m k
 . have:=Bk.E5 hf G F e;have:=Bk.uK hf G;omega
 obtain⟨rfl,rfl,rfl⟩:=Bk.JD c e;omega
theorem aJY{d:Dt}(hf:d.form=0){y m k z n j:Int}(F:d.Fill y m k)(G:d.Fill z n j)(h:uY y m k z n j):d.lo y m k<d.lo z n j:=by
 have:=Bk.E5 hf F G h;have:=Bk.uK hf F;omega
theorem xO{y m k cy cm ck z n j:Int}{ok:Bool}{r:RB}(S:d.jG cy cm ck z n j ok)(e:(ok=true/\r=eR d z n j)\/(ok=false/\r=nR))(hg: ∀a b c,d.Fill a b c->(d.ge a b c cy cm ck↔uY y m k a b c)):XV d y m k r:=by
 rcases S with⟨rfl,F,hge,g⟩|⟨rfl,_,_,_,g⟩
 . rcases e with⟨_,rfl⟩|⟨e,_⟩
   . exact .inl ⟨z,n,j,F,rfl,(hg _ _ _ F).1 hge,fun a b c G hl=>g a b c G ((hg _ _ _ G).2 hl)⟩
   cases e
 rcases e with⟨e,_⟩|⟨_,rfl⟩
 . cases e
 exact .inr ⟨rfl,fun a b c G hl=>g a b c G ((hg _ _ _ G).2 hl)⟩
theorem aJL(h:AX d w0)(hc:d.dP=0){y m k:Int}(F:d.Fill y m k): ∃r:RB,Same w0 284 #[aV d,r4 0 (d.lo y m k) 0 (d.hi y m k)] r.v/\XV d y m k r:=by
 have hf:=Bk.fH hc;have bl:=aJ1 hc F;have by':=jU hc F.1
 obtain⟨ey,em⟩:=aOt hf F;obtain⟨m0,m1,k0,k1,_⟩:=Bk.sQ (d.lo y m k);have hlen:=eG (cY (d.lo y m k)) (cM (d.lo y m k));obtain⟨L,HL,sL⟩:=JG h hc;obtain⟨cy,cm,ck,ce,HC,bc,bm,bk,sC⟩:=aK5 (d.lo y m k) h.hk h.st (by omega) (by omega);have HP:=aDX h hc;obtain⟨rfl,rfl,rfl,rfl⟩:ce=0/\cy=y/\cm=cM (d.lo y m k)/\ck=cK (d.lo y m k):=by
  rcases sC with⟨a,b,c,e⟩|⟨_,hn⟩
  . exact⟨a,b.trans ey,c,e⟩
  exact absurd (by rw[ey];omega) hn
 generalize hcm:cM (d.lo cy m k)=M at *;generalize hck:cK (d.lo cy m k)=K at *;have w1:cy+1=IntKind.i64.wrap (cy+1):=by rw[aHA];omega
 have w2:M+1=IntKind.i64.wrap (M+1):=by rw[aHA];omega
 have w3:K+1=IntKind.i64.wrap (K+1):=by rw[aHA];omega
 obtain⟨y1,n1,j1,ok1,r1,S1,P1,R1,e1⟩:=VI h hc (cy+1) 0 0 (by omega) (by omega);obtain⟨y2,n2,j2,ok2,r2,S2,P2,R2,e2⟩:=VI h hc cy (M+1) 0 (by omega) (by omega);obtain⟨y3,n3,j3,ok3,r3,S3,P3,R3,e3⟩:=VI h hc cy M (K+1) (by omega) (by omega);rw[w1]at P1;rw[w2]at P2;rw[w3]at P3;have HB:=aJN (d:=d) (ra:=0) (rl:=d.lo cy m k) (rb:=0) (rh:=d.hi cy m k) (hst:=h.st) (hz:=rfl) (H0:=HL) (H1:=HC) (H2:=HP) (H3:=P1) (H4:=R1) (H5:=P2) (H6:=R2) (H7:=P3) (H8:=R3);clear HL HC HP P1 P2 P3 R1 R2 R3;have key: ∀r:RB,XV d cy m k r->(∀v,Same w0 284 #[aV d,r4 0 (d.lo cy m k) 0 (d.hi cy m k)] v->v=r.v-> ∃r:RB,Same w0 284 #[aV d,r4 0 (d.lo cy m k) 0 (d.hi cy m k)] r.v/\XV d cy m k r):=fun r hr v hv e=>⟨r,e ▸ hv,hr⟩;rcases sL with⟨yL,mL,kL,FL,rfl,gL⟩|⟨rfl,gL⟩
 rotate_left
 . exact absurd F (gL _ _ _)
 by_cases cz:(0:Int)=0/\d.lo yL mL kL=d.lo cy m k/\(0:Int)=0/\d.hi yL mL kL=d.hi cy m k
 . refine key nR (.inr ⟨rfl,fun a b c G hl=>?_⟩) _ HB ?_
   . have h1:=aJY hf F G hl;exact gL a b c G (aJ0 hf FL G (by omega))
   show cond true (cond (decide ((0:Int)=0/\d.lo yL mL kL=d.lo cy m k/\(0:Int)=0/\d.hi yL mL kL=d.hi cy m k)) _ _) _=_;rw[aBz cz];rfl
 have aDZ: ∀v:Value,(cond true (cond (decide ((0:Int)=0/\d.lo yL mL kL=d.lo cy m k/\(0:Int)=0/\d.hi yL mL kL=d.hi cy m k)) (.tuple #[(r4 0 0 0 0),(.bool false)]) (cond ((0:Int)==0) v (.tuple #[(r4 0 0 0 0),(.bool false)]))) (.tuple #[(r4 0 0 0 0),(.bool false)]))=v:=fun v=>by
  rw[aBy cz];rfl
 obtain⟨p0,p1,p2⟩:=vZ hf
 by_cases hs:d.aH=0
 rotate_left
 . obtain⟨_,_,t2,t3,t4,t5⟩:=Bk.BF hf hs F;refine key r1 (xO S1 e1 fun a b c G=>?_) _ HB ?_
   . obtain⟨_,_,u2,u3,_⟩:=Bk.BF hf hs G;have:=Bk.iY d.mo;unfold Bk.Dt.aH at *;unfold Bk.Dt.ge uY;omega
   refine(aDZ _).trans ?_;rw[show (d.prec==0)=true by rw[aGw];exact p0.2 hs];rfl
 have q0:(d.prec==0)=false:=by rw[aBA];intro g;exact p0.1 g hs
 by_cases hm:d.mo.size=0
 . refine key r1 (xO S1 e1 fun a b c G=>?_) _ HB ?_
   . rcases Bk.fO hf F with⟨_,_,a3,a4,a5,_⟩|⟨a1,_⟩|⟨_,a1,_⟩|⟨_,a1,_⟩<;>first|exact absurd hs a1|exact absurd hm a1|skip
     rcases Bk.fO hf G with⟨_,_,b3,b4,b5,_⟩|⟨b1,_⟩|⟨_,b1,_⟩|⟨_,b1,_⟩<;>first|exact absurd hs b1|exact absurd hm b1|skip
     unfold Bk.Dt.ge uY;omega
   refine(aDZ _).trans ?_;rw[q0,show(d.prec==1)=true by rw[aGw];exact p1.2 hm];rfl
 have q1:(d.prec==1)=false:=by rw[aBA];intro g;exact hm (p1.1 g)
 obtain⟨eM,eK⟩:=em hs hm
 by_cases hd:d.da.size=0
 . refine key r2 (xO S2 e2 fun a b c G=>?_) _ HB ?_
   . rcases Bk.fO hf F with⟨_,a1,_⟩|⟨a1,_⟩|⟨_,_,a3,a4,a5,a6,_⟩|⟨_,_,a1,_⟩<;>first|exact absurd hs a1|exact absurd a1 hm|exact absurd hd a1|skip
     rcases Bk.fO hf G with⟨_,b1,_⟩|⟨b1,_⟩|⟨_,_,b3,b4,b5,b6,_⟩|⟨_,_,b1,_⟩<;>first|exact absurd hs b1|exact absurd b1 hm|exact absurd hd b1|skip
     unfold Bk.Dt.ge uY;omega
   refine(aDZ _).trans ?_;rw[q0,q1,show(d.prec==2)=true by rw[aGw];exact p2.2 ⟨hs,hm,hd⟩];rfl
 have eK:=eK hd;refine key r3 (xO S3 e3 fun a b c G=>?_) _ HB ?_
 . unfold Bk.Dt.ge uY;omega
 refine(aDZ _).trans ?_;rw[q0,q1,show(d.prec==2)=false by rw[aBA];intro g;exact hd (p2.1 g).2.2];rfl
theorem aN3(day:Int)(h0: -9223372036854775808<=day)(h1:day<9223372036854775808)(h:AX d w0)(hc:d.dP=0): ∃r:RB,Same w0 277 #[aV d,.int .i64 day] r.v/\XW d day r:=by
 have hf:=Bk.fH hc;obtain⟨F,HF,sF⟩:=aAO h hc;obtain⟨B,HB,sB⟩:=DK day h0 h1 h hc;have key: ∀r:RB,XW d day r->(∀v,Same w0 277 #[aV d,.int .i64 day] v->v=r.v-> ∃r:RB,Same w0 277 #[aV d,.int .i64 day] r.v/\XW d day r):=fun r hr v hv e=>⟨r,e ▸ hv,hr⟩;rcases sB with⟨yB,mB,kB,FB,rfl,lB,gB⟩|⟨rfl,gB⟩
 . obtain⟨N,HN,sN⟩:=aJL h hc FB;have HV:=aKk (d:=d) (day:=day) (hst:=h.st) (H0:=HF) (H1:=HB) (H2:=HN);rcases sF with⟨yF,mF,kF,FF,rfl,gF⟩|⟨rfl,gF⟩
   rotate_left
   . exact absurd FB (gF _ _ _)
   by_cases cF:d.lo yF mF kF<day
   rotate_left
   . refine key (eR d yF mF kF) (.inl ⟨_,_,_,FF,rfl,by omega,fun z n j G _=>gF z n j G⟩) _ HV ?_;show cond true (cond (decide (d.lo yF mF kF<day)) _ _) _=_;rw[aBy cF];rfl
   by_cases cB:d.lo yB mB kB=day
   . refine key (eR d yB mB kB) (.inl ⟨_,_,_,FB,rfl,by omega,fun z n j G hz hl=>?_⟩) _ HV ?_
     . have:=aJY hf G FB hl;omega
     show cond true (cond (decide (d.lo yF mF kF<day)) (cond true (cond (d.lo yB mB kB==day) _ _) _) _) _=_;rw[aBz cF,show(d.lo yB mB kB==day)=true by rw[aGw];exact cB];rfl
   have hv: ∀v:Value,cond true (cond (decide (d.lo yF mF kF<day)) (cond true (cond (d.lo yB mB kB==day) (.tuple #[(r4 0 (d.lo yB mB kB) 0 (d.hi yB mB kB)),(.bool true)]) v) (.tuple #[(r4 0 (d.lo yB mB kB) 0 (d.hi yB mB kB)),(.bool false)])) (.tuple #[(r4 0 (d.lo yF mF kF) 0 (d.hi yF mF kF)),(.bool true)])) (.tuple #[(r4 0 (d.lo yF mF kF) 0 (d.hi yF mF kF)),(.bool false)])=v:=fun v=>by
    rw[aBz cF,show(d.lo yB mB kB==day)=false by rw[aBA];exact cB];rfl
   have hbl: ∀z n j,d.Fill z n j->day<=d.lo z n j->uY yB mB kB z n j:=fun z n j G hz=>aJ0 hf FB G (by omega);rcases sN with⟨z,n,j,G,rfl,hl,g⟩|⟨rfl,g⟩
   . refine key (eR d z n j) (.inl ⟨_,_,_,G,rfl,?_,fun a b c A ha=>g a b c A (hbl a b c A ha)⟩) _ HV (hv _)
     by_cases c:day<=d.lo z n j
     . exact c
     exact absurd hl (gB z n j G (by omega))
   refine key nR (.inr ⟨rfl,fun a b c A=>?_⟩) _ HV (hv _)
   by_cases q:d.lo a b c<day
   . exact q
   exact absurd (hbl a b c A (by omega)) (g a b c A)
 obtain⟨N,_,HN⟩:=aRJ nR ⟨show -9223372036854775808<=(0:Int) by omega,show(0:Int)<9223372036854775808 by omega⟩ h;have HV:=aKk (d:=d) (day:=day) (hst:=h.st) (H0:=HF) (H1:=HB) (H2:=HN);rcases sF with⟨yF,mF,kF,FF,rfl,gF⟩|⟨rfl,gF⟩
 . have:=gB _ _ _ FF;refine key (eR d yF mF kF) (.inl ⟨_,_,_,FF,rfl,by omega,fun z n j G _=>gF z n j G⟩) _ HV ?_;show cond true (cond (decide (d.lo yF mF kF<day)) _ _) _=_;rw[aBy (by omega)];rfl
 exact key nR (.inr ⟨rfl,fun z n j G=>absurd G (gF z n j)⟩) _ HV rfl
theorem aMK(day:Int)(h0: -9223372036854775808<=day)(h1:day<9223372036854775808)(h:AX d w0)(hc:d.dP=0): ∃r:RB,Same w0 280 #[aV d,.int .i64 day] r.v/\XU d day r:=by
 have hf:=Bk.fH hc;obtain⟨L,HL,sL⟩:=JG h hc;obtain⟨B,HB,sB⟩:=DK day h0 h1 h hc;have key: ∀r:RB,XU d day r->(∀v,Same w0 280 #[aV d,.int .i64 day] v->v=r.v-> ∃r:RB,Same w0 280 #[aV d,.int .i64 day] r.v/\XU d day r):=fun r hr v hv e=>⟨r,e ▸ hv,hr⟩;have bB: -9223372036854775808<=B.lo - 1+1/\B.lo - 1<9223372036854775807/\(B.is=true-> -9223372036854775808<B.lo):=by
  rcases sB with⟨y,m,k,FB,rfl,_⟩|⟨rfl,_⟩
  . have:=aJ1 hc FB;show _<=d.lo y m k - 1+1/\d.lo y m k - 1<_/\(true=true->_<d.lo y m k);omega
  show _<=(0:Int) - 1+1/\(0:Int) - 1<_/\(false=true->_);simp
 obtain⟨C,HC,sC⟩:=DK (IntKind.i64.wrap (B.lo - 1)) (xC _).1 (xC _).2 h hc;have HV:=aQO (d:=d) (day:=day) (hst:=h.st) (H0:=HL) (H1:=HB) (H2:=HC);rcases sL with⟨yL,mL,kL,FL,rfl,gL⟩|⟨rfl,gL⟩
 rotate_left
 . exact key nR (.inr ⟨rfl,fun z n j G=>absurd G (gL z n j)⟩) _ HV rfl
 by_cases cL:day<d.hi yL mL kL
 rotate_left
 . refine key (eR d yL mL kL) (.inl ⟨_,_,_,FL,rfl,by omega,fun z n j G _=>gL z n j G⟩) _ HV ?_;show cond true (cond (decide (day<d.hi yL mL kL)) _ _) _=_;rw[aBy cL];rfl
 rcases sB with⟨yB,mB,kB,FB,rfl,lB,gB⟩|⟨rfl,gB⟩
 rotate_left
 . refine key nR (.inr ⟨rfl,fun z n j G=>by have:=gB z n j G;have:=Bk.uK hf G;omega⟩) _ HV ?_;show cond true (cond (decide (day<d.hi yL mL kL)) (cond false _ _) _) _=_;rw[aBz cL];rfl
 by_cases cB:day<d.hi yB mB kB
 rotate_left
 . refine key (eR d yB mB kB) (.inl ⟨_,_,_,FB,rfl,by omega,fun z n j G hz=>gB z n j G (by have:=Bk.uK hf G;omega)⟩) _ HV ?_;show cond true (cond (decide (day<d.hi yL mL kL)) (cond true (cond (decide (day<d.hi yB mB kB)) _ _) _) _) _=_;rw[aBz cL,aBy cB];rfl
 have bl:=aJ1 hc FB;have ew:IntKind.i64.wrap (d.lo yB mB kB - 1)=d.lo yB mB kB - 1:=by rw[aHA];omega
 have sC:DN d (d.lo yB mB kB - 1) C:=by rw[<-ew];exact sC
 have hv: ∀v:Value,cond true (cond (decide (day<d.hi yL mL kL)) (cond true (cond (decide (day<d.hi yB mB kB)) (cond (d.lo yB mB kB==(-9223372036854775808)) (.tuple #[(r4 0 0 0 0),(.bool false)]) v) (.tuple #[(r4 0 (d.lo yB mB kB) 0 (d.hi yB mB kB)),(.bool true)])) (.tuple #[(r4 0 (d.lo yB mB kB) 0 (d.hi yB mB kB)),(.bool false)])) (.tuple #[(r4 0 (d.lo yL mL kL) 0 (d.hi yL mL kL)),(.bool true)])) (.tuple #[(r4 0 (d.lo yL mL kL) 0 (d.hi yL mL kL)),(.bool false)])=v:=fun v=>by
  rw[aBz cL,aBz cB,show(d.lo yB mB kB==(-9223372036854775808))=false by rw[aBA];omega];rfl
 have hz: ∀z n j,d.Fill z n j->d.hi z n j<=day->uY z n j yB mB kB:=fun z n j G hz=>by
  have h2:=Bk.uK hf G;have h3:=gB z n j G (by omega)
  by_cases c:uY z n j yB mB kB
  . exact c
  obtain⟨rfl,rfl,rfl⟩:=Bk.JD h3 c;omega
 rcases sC with⟨y,m,k,FC,rfl,lC,gC⟩|⟨rfl,gC⟩
 . have hl:=Bk.E5 hf FC FB (aJ0 hf FC FB (by omega));refine key (eR d y m k) (.inl ⟨_,_,_,FC,rfl,by omega,fun z n j G hh=>gC z n j G ?_⟩) _ HV (hv _);have:=Bk.E5 hf G FB (hz z n j G hh);have:=Bk.uK hf G;omega
 refine key nR (.inr ⟨rfl,fun z n j G=>?_⟩) _ HV (hv _)
 by_cases c:day<d.hi z n j
 . exact c
 have:=aJY hf G FB (hz z n j G (by omega));have:=gC z n j G;omega
end
end Sk
end
section
open Go.RowKit Go.Lib
namespace Sk
open Bk (Dt aV L3 uY E5 uK)
structure Ls(d:Dt)(L:List (Int × Int × Int)):Prop where
 mem: ∀p,p ∈ L↔d.Fill p.1 p.2.1 p.2.2
 srt:L.Pairwise L3
def nD(d:Dt)(L:List (Int × Int × Int))(i:Nat):R4:=match L[i]? with
 |some p=>⟨0,d.lo p.1 p.2.1 p.2.2,0,d.hi p.1 p.2.1 p.2.2⟩
 |none=>⟨0,0,0,0⟩
def Agr(r:RB)(x:R4)(is:Int):Prop:=(r.is=true/\is=1\/r.is=false/\is=0)/\r.a=x.a/\r.lo=x.lo/\r.b=x.b/\r.hi=x.hi
section
variable{d:Dt}{L:List (Int × Int × Int)}{r:RB}{x:R4}{is day:Int}
theorem Ls.get(h:Ls d L){y m k:Int}(F:d.Fill y m k): ∃i,i<L.length/\L[i]? =some (y,m,k):=by
 obtain⟨i,hi,e⟩:=aNU ((h.mem (y,m,k)).2 F);exact⟨i,hi,by rw[aEM hi,e]⟩
theorem Ls.at(h:Ls d L){i:Nat}(hi:i<L.length): ∃y m k,L[i]? =some (y,m,k)/\d.Fill y m k/\nD d L i=⟨0,d.lo y m k,0,d.hi y m k⟩:=by
 refine⟨(L[i]'hi).1,(L[i]'hi).2.1,(L[i]'hi).2.2,aEM hi,(h.mem _).1 (aRy hi),?_⟩;unfold nD;rw[aEM hi]
theorem Ls.lt(h:Ls d L){i j:Nat}{p q:Int × Int × Int}(hi:L[i]? =some p)(hj:L[j]? =some q):i<j↔L3 p q:=by
 obtain⟨h1,rfl⟩:=aHI.1 hi;obtain⟨h2,rfl⟩:=aHI.1 hj;constructor
 . exact fun g=>aTo.1 h.srt i j h1 h2 g
 intro g;rcases aXC i j with c|c|c
 . exact c
 . subst c;unfold L3 uY at g;omega
 have:=aTo.1 h.srt j i h2 h1 c;unfold L3 uY at this g;omega
theorem oK{i:Nat}{y m k:Int}(h:L[i]? =some (y,m,k)):nD d L i=⟨0,d.lo y m k,0,d.hi y m k⟩:=by unfold nD;rw[h]
theorem OZ{y m k:Int}(e:r=eR d y m k)(hx:x=⟨0,d.lo y m k,0,d.hi y m k⟩)(hi:is=1):Agr r x is:=by subst e hx hi;exact⟨.inl ⟨rfl,rfl⟩,rfl,rfl,rfl,rfl⟩
theorem XP(e:r=nR)(hx:x=⟨0,0,0,0⟩)(hi:is=0):Agr r x is:=by subst e hx hi;exact⟨.inr ⟨rfl,rfl⟩,rfl,rfl,rfl,rfl⟩
theorem aG6(h:Ls d L)(hn:1<=L.length)(hr:aEL d r)(ho:Q9 (nD d L) L.length 0 day x is):Agr r x is:=by
 unfold Q9 at ho;rw[aDk rfl]at ho;obtain⟨y0,m0,k0,g0,F0,e0⟩:=h.at (i:=0) (by omega);rcases hr with⟨y,m,k,F,rfl,hmin⟩|⟨_,hno⟩
 . obtain⟨i,hi,e⟩:=h.get F
   by_cases c:i=0
   . subst c;exact OZ rfl (ho.1.trans (oK e)) ho.2
   exact absurd ((h.lt g0 e).1 (by omega)) (hmin _ _ _ F0)
 exact absurd F0 (hno _ _ _)
theorem aLs(h:Ls d L)(hn:1<=L.length)(hr:aL1 d r)(ho:Q9 (nD d L) L.length 1 day x is):Agr r x is:=by
 unfold Q9 at ho;rw[aBx (by decide),aDk rfl]at ho;obtain⟨y0,m0,k0,g0,F0,e0⟩:=h.at (i:=L.length - 1) (by omega);rcases hr with⟨y,m,k,F,rfl,hmax⟩|⟨_,hno⟩
 . obtain⟨i,hi,e⟩:=h.get F
   by_cases c:i=L.length - 1
   . rw[<-c]at ho;exact OZ rfl (ho.1.trans (oK e)) ho.2
   exact absurd ((h.lt e g0).1 (by omega)) (hmax _ _ _ F0)
 exact absurd F0 (hno _ _ _)
theorem aR9{i:Nat}{y m k:Int}(h:L[i]? =some (y,m,k)):kU 4 (nD d L i) day=decide (d.hi y m k<=day):=by rw[oK h];unfold kU;simp
theorem hit3{i:Nat}{y m k:Int}(h:L[i]? =some (y,m,k)):kU 3 (nD d L i) day=decide (day<=d.lo y m k):=by rw[oK h];unfold kU;simp
theorem hit2{i:Nat}{y m k:Int}(h:L[i]? =some (y,m,k)):kU 2 (nD d L i) day=(decide (d.lo y m k<=day)&& !decide (d.hi y m k<day)):=by rw[oK h];unfold kU aBl WX;simp
theorem aLr(h:Ls d L)(hr:XU d day r)(ho:Q9 (nD d L) L.length 4 day x is):Agr r x is:=by
 unfold Q9 at ho;rw[aBx (by decide),aBx (by decide),aDk rfl]at ho;rcases ho with⟨h1,i,hi,hx,hh,hl⟩|⟨h1,hx,hh⟩
 . obtain⟨y0,m0,k0,g0,F0,e0⟩:=h.at hi;rw[aR9 g0]at hh;have hh:=aL2 hh;rcases hr with⟨y,m,k,F,rfl,hd,hmax⟩|⟨_,hno⟩
   . obtain⟨j,hj,e⟩:=h.get F;have c1: ¬i<j:=fun c=>by
      have:=hl j c hj;rw[aR9 e]at this;exact aMm this hd
     have c2: ¬j<i:=fun c=>hmax _ _ _ F0 hh ((h.lt e g0).1 c);obtain rfl:i=j:=by omega
     exact OZ rfl (hx.trans (oK e)) h1
   exact absurd hh (by have:=hno _ _ _ F0;omega)
 rcases hr with⟨y,m,k,F,rfl,hd,hmax⟩|⟨rfl,hno⟩
 . obtain⟨j,hj,e⟩:=h.get F;have:=hh j hj;rw[aR9 e]at this;exact absurd hd (aMm this)
 exact XP rfl hx h1
theorem aLt(h:Ls d L)(hr:XW d day r)(ho:Q9 (nD d L) L.length 3 day x is):Agr r x is:=by
 unfold Q9 at ho;rw[aBx (by decide),aBx (by decide),aBx (by decide)]at ho;rcases ho with⟨h1,i,hi,hx,hh,hl⟩|⟨h1,hx,hh⟩
 . obtain⟨y0,m0,k0,g0,F0,e0⟩:=h.at hi;rw[hit3 g0]at hh;have hh:=aL2 hh;rcases hr with⟨y,m,k,F,rfl,hd,hmin⟩|⟨_,hno⟩
   . obtain⟨j,hj,e⟩:=h.get F;have c1: ¬j<i:=fun c=>by
      have:=hl j c;rw[hit3 e]at this;exact aMm this hd
     have c2: ¬i<j:=fun c=>hmin _ _ _ F0 hh ((h.lt g0 e).1 c);obtain rfl:i=j:=by omega
     exact OZ rfl (hx.trans (oK e)) h1
   exact absurd hh (by have:=hno _ _ _ F0;omega)
 rcases hr with⟨y,m,k,F,rfl,hd,hmin⟩|⟨rfl,hno⟩
 . obtain⟨j,hj,e⟩:=h.get F;have:=hh j hj;rw[hit3 e]at this;exact absurd hd (aMm this)
 exact XP rfl hx h1
def aV6(d:Dt)(day:Int)(r:RB):Prop:= ∃b,DN d day b/\r=if b.is=true/\ ¬b.hi<day then b else nR
theorem aSP(hf:d.form=0)(h:Ls d L)(hr:aV6 d day r)(ho:Q9 (nD d L) L.length 2 day x is):Agr r x is:=by
 obtain⟨b,hb,rfl⟩:=hr;unfold Q9 at ho;rw[aBx (by decide),aBx (by decide),aBx (by decide)]at ho;rcases ho with⟨h1,i,hi,hx,hh,hl⟩|⟨h1,hx,hh⟩
 . obtain⟨y0,m0,k0,g0,F0,e0⟩:=h.at hi;rw[hit2 g0,aDY,aXK,aDE,aDG]at hh;rcases hb with⟨y,m,k,F,rfl,hd,hmax⟩|⟨_,hno⟩
   . obtain⟨j,hj,e⟩:=h.get F;have c1: ¬i<j:=fun c=>by have:=E5 hf F0 F ((h.lt g0 e).1 c);omega
     have c2: ¬j<i:=fun c=>hmax _ _ _ F0 hh.1 ((h.lt e g0).1 c);obtain rfl:i=j:=by omega
     rw[e]at g0
     cases g0
     rw[aDk ⟨rfl,hh.2⟩];exact OZ rfl (hx.trans (oK e)) h1
   exact absurd hh.1 (by have:=hno _ _ _ F0;omega)
 rcases hb with⟨y,m,k,F,rfl,hd,hmax⟩|⟨rfl,hno⟩
 . obtain⟨j,hj,e⟩:=h.get F;have:=hh j hj;rw[hit2 e,aBz hd,aQN,Bool.not_eq_false',aDE]at this;rw[aBx (fun g=>g.2 this)];exact XP rfl hx h1
 rw[aBx (fun g=>by cases g.1)];exact XP rfl hx h1
end
end Sk
end
end Go.Proofs.YtacggmlngekidaaGreatDoor
