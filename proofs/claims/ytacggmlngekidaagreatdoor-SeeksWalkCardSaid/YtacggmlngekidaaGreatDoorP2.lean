import Derived.Test.YtacggmlngekidaaGreatDoorRows
import Derived.Test.YtacggmlngekidaaGreatDoorProg
import Derived.Test.YtacggmlngekidaaGreatDoorP1
import Derived.WalkKit
import Derived.WalkSpells
import Derived.WalkLawsBesides
import Derived.Lib.Hide
import Derived.LoopN
import Derived.Deep.RegionHeld3
import Derived.Deep.LoopGhost
import Derived.Deep.DeepCutAuto
import Derived.Shelf.GgClosure.StringsIndexFunc
import Derived.Laws.RangeAny
import Derived.Lib.AtoiAll
import Derived.Lib.ParseIntB
import Derived.Lib.SlTrimSet
import Derived.Lib.IndexMore
import Derived.Shelf.Strings.Trim
import Derived.Shelf.Small.Utf8
import Derived.Shelf.Small.Strs
import Derived.Shelf.Strconv.Atoi
import Derived.Shelf.Strconv.Itoa0
import Derived.Shelf.Strconv.AtoiErrFast
import Derived.Shelf.Strconv.ParseIntEmpty
import Derived.Shelf.Strconv.AtoiFail
import Derived.Shelf.LaysM
import Derived.Shelf.Strconv.Clone
import Derived.Shelf.Strconv.SyntaxError
import Derived.Shelf.LaysC
import Derived.Shelf.Strconv.ToError
import Derived.Shelf.Strconv.Lower
import Derived.Shelf.Strconv.ParseUint10
import Derived.Shelf.Strconv.ParseUint10Empty
import Derived.Shelf.Strconv.ParseUint10Any
import Derived.Shelf.Strconv.ParseInt10
import Derived.Shelf.Strconv.AtoiLong
import Derived.Shelf.Strconv.AtoiInnerAll
import Derived.Shelf.Strconv.RangeError
import Derived.Shelf.Strconv.ToErrorRange
import Derived.Shelf.Strconv.AtoiAll
import Derived.Shelf.Strconv.ParseUintEmpty
import Derived.Shelf.Strconv.ParseUint10b64
import Derived.Shelf.Strconv.ParseUint10b32
import Derived.Shelf.Strconv.ParseUint10b16
import Derived.Shelf.Strconv.ParseUint10b8
import Derived.Shelf.Strconv.ParseUint10At
import Derived.Shelf.Strconv.ParseInt10At64
import Derived.Shelf.Strconv.ParseInt10At32
import Derived.Shelf.Strconv.ParseInt10At16
import Derived.Shelf.Strconv.ParseInt10At8
import Derived.Shelf.Strconv.ParseInt10All
import Derived.Shelf.Strconv.ParseIntPublic10
import Derived.Shelf.Strings.Search1
import Derived.Shelf.Strings.Search2
import Derived.Shelf.Strings.Search3
import Derived.Shelf.Strings.Shaped
import Derived.Ground.GgwProg
import Derived.Shelf.GgClosure.StringsIndexFuncTop
import Derived.Shelf.Strings.Runes
import Derived.Shelf.Strings.AsciiSet
import Derived.Shelf.Bits.Mul64
import Derived.Shelf.Unicode.DecodeSlow
import Derived.Shelf.Unicode.DecodeAny
import Derived.Shelf.Unicode.DecodeLast
import Derived.Shelf.Strings.FuncGrows
import Derived.Shelf.Slices.Reverse
import Derived.Ground.Names2Prog
import Derived.Shelf.Slices.Clone
import Derived.Shelf.Slices.Cells
import Derived.Laws.Runes
import Derived.WalkMore
import Derived.Deep.QuietTactic
import Derived.BigQuiet
import Derived.Laws.Strings
set_option linter.unusedSimpArgs false
set_option linter.unusedVariables false
set_option maxRecDepth 1000000
set_option maxHeartbeats 8000000
set_option linter.unusedSectionVars false
namespace Go.Proofs.YtacggmlngekidaaGreatDoor
abbrev GK:=@Go.Lib.hid
abbrev aAO:=@beq_eq_false_iff_ne
abbrev aAP:=@decide_eq_true
abbrev aGZ:=@Go.IntKind.wrap_i64
abbrev aG3:=@Bool.cond_eq_ite
abbrev aLa:=@bne_iff_ne
abbrev aLi:=@List.mem_singleton
abbrev aNI:=@List.getElem_of_mem
abbrev aOK:=@Go.World.block_lt_of_cell?
abbrev aPE:=@Go.World.cell?_setCell_other
abbrev aRA:=@List.getD_eq_getElem?_getD
abbrev aRE:=@Go.World.frozen?_setCell
abbrev aRK:=@Nat.pow_le_pow_right
abbrev aRM:=@Go.World.cell?_setCells_out
abbrev aRN:=@Go.Exit.noGoto_ret
abbrev aRT:=@Int.le_refl
abbrev aRV:=@List.getElem_mem
abbrev aUg:=@Go.World.cell?_setCell_same
abbrev aUl:=@Int.emod_nonneg
abbrev aUm:=@ByteArray.getElem_eq_getElem_data
abbrev aUE:=@List.dropWhile_cons
abbrev aUF:=@Go.ByteArray.toList_eq
abbrev aUL:=@Int.emod_lt_of_pos
abbrev aUP:=@List.pairwise_iff_getElem
abbrev aU0:=@Int.tmod_eq_zero_of_dvd
abbrev aU2:=@List.any_eq_true
abbrev aVK:=@List.any_cons
abbrev aVL:=@Bool.not_true
abbrev aVT:=@List.take_succ_eq_append_getElem
abbrev aV2:=@Array.size_modify
abbrev aWx:=@Go.rounds_succ
abbrev aWI:=@Int.mul_nonneg
abbrev aWL:=@Array.getElem_mem_toList
abbrev aWP:=@Int.dvd_of_tmod_eq_zero
abbrev aXa:=@List.getElem?_set_self
abbrev aXe:=@Go.World.cell?_alloc_new
abbrev aXA:=@Int.add_zero
section
namespace Cal
def OM(y:Int):Int:=1+(y - 1) / 4 - (y - 1) / 100+(y - 1) / 400
def st(y:Int):Int:=365 * y+OM y
def leap(y:Int):Bool:=decide (y % 4=0)&&(decide (y % 100≠0)||decide (y % 400=0))
def lp(y:Int):Int:=if leap y then 1 else 0
theorem pK(y:Int):0<=lp y/\lp y<=1:=by unfold lp;split<;>omega
theorem aAx(y:Int):OM (y+1)=OM y+lp y:=by
 unfold OM lp leap
 by_cases h4:y % 4=0<;>by_cases h1:y % 100=0<;>by_cases h5:y % 400=0<;>simp[h4,h1,h5]<;>omega
theorem st_succ(y:Int):st (y+1)=st y+365+lp y:=by
 unfold st;rw[aAx];omega
theorem fU{a b:Int}(h:a<=b):st a+365 * (b - a)<=st b:=by
 unfold st OM;omega
theorem aHz{a b:Int}(h:a<b):st a<st b:=by
 have:=fU (a:=a) (b:=b) (by omega);omega
def bT(d:Int):Int:=let y:=400 * d / 146097;if st (y+1)<=d then y+1 else if d<st y then y - 1 else y
theorem gK(d:Int):st (bT d)<=d/\d<st (bT d+1):=by
 unfold bT;have h1:st (400 * d / 146097+2)=st (400 * d / 146097+1)+365+lp (400 * d / 146097+1):=by
  have:=st_succ (400 * d / 146097+1);rw[show 400 * d / 146097+1+1=400 * d / 146097+2 by omega]at this;exact this
 have a:d<st (400 * d / 146097+2):=by unfold st OM;omega
 have b:st (400 * d / 146097 - 1)<=d:=by unfold st OM;omega
 generalize 400 * d / 146097=y at *;show st (if st (y+1)<=d then y+1 else if d<st y then y - 1 else y)<=d/\d<st ((if st (y+1)<=d then y+1 else if d<st y then y - 1 else y)+1)
 split
 . exact⟨by assumption,by rw[show y+1+1=y+2 by omega];exact a⟩
 split
 . exact⟨b,by rw[show y - 1+1=y by omega];assumption⟩
 omega
theorem jY{d y:Int}(h1:st y<=d)(h2:d<st (y+1)):bT d=y:=by
 obtain⟨a,b⟩:=gK d
 by_cases c:bT d=y
 . exact c
 rcases Int.lt_or_gt_of_ne c with c|c
 . have:=fU (a:=bT d+1) (b:=y) (by omega);omega
 have:=fU (a:=y+1) (b:=bT d) (by omega);omega
theorem aAQ{d y:Int}:bT d<y↔d<st y:=by
 obtain⟨a,b⟩:=gK d;constructor
 . intro h;have:=fU (a:=bT d+1) (b:=y) (by omega);omega
 intro h
 by_cases c:bT d<y
 . exact c
 have:=fU (a:=y) (b:=bT d) (by omega);omega
def rst(y:Int):Int:=y / 400 * 146097+365 * (y - y / 400 * 400)+(y - y / 400 * 400+3) / 4 - (y - y / 400 * 400+99) / 100+(y - y / 400 * 400+399) / 400
theorem aPv(y:Int):rst y=st y:=by unfold rst st OM;omega
def len(y m:Int):Int:=if m=2 then 28+lp y else if m=4\/m=6\/m=9\/m=11 then 30 else 31
def bY(y m:Int):Int:=if m<=1 then 0 else if m<=2 then 31 else(if m<=3 then 59 else if m<=4 then 90 else if m<=5 then 120 else if m<=6 then 151 else if m<=7 then 181 else if m<=8 then 212 else if m<=9 then 243 else if m<=10 then 273 else if m<=11 then 304 else if m<=12 then 334 else 365)+lp y
theorem bH(y m:Int)(h1:1<=m)(h2:m<=12):bY y (m+1)=bY y m+len y m:=by
 unfold bY len;have:m=1\/m=2\/m=3\/m=4\/m=5\/m=6\/m=7\/m=8\/m=9\/m=10\/m=11\/m=12:=by omega
 rcases this with rfl|rfl|rfl|rfl|rfl|rfl|rfl|rfl|rfl|rfl|rfl|rfl<;>simp<;>omega
theorem dJ(y m:Int):28<=len y m/\len y m<=31:=by
 have:=pK y;unfold len;split
 . omega
 split<;>omega
theorem dW{y m:Int}(h1:1<=m)(h2:m<=13):0<=bY y m/\bY y m<=366:=by
 have:=pK y;unfold bY;have:m=1\/m=2\/m=3\/m=4\/m=5\/m=6\/m=7\/m=8\/m=9\/m=10\/m=11\/m=12\/m=13:=by omega
 rcases this with rfl|rfl|rfl|rfl|rfl|rfl|rfl|rfl|rfl|rfl|rfl|rfl|rfl<;>simp<;>omega
theorem uQ(y:Int):bY y 1=0:=by unfold bY;simp
theorem iG(y:Int):bY y 13=365+lp y:=by unfold bY;simp
theorem SH(y:Int):bY y 2=bY y 1+len y 1/\bY y 3=bY y 2+len y 2/\bY y 4=bY y 3+len y 3/\bY y 5=bY y 4+len y 4/\bY y 6=bY y 5+len y 5/\bY y 7=bY y 6+len y 6/\bY y 8=bY y 7+len y 7/\bY y 9=bY y 8+len y 8/\bY y 10=bY y 9+len y 9/\bY y 11=bY y 10+len y 10/\bY y 12=bY y 11+len y 11/\bY y 13=bY y 12+len y 12:=
 ⟨bH y 1 (by omega) (by omega),bH y 2 (by omega) (by omega),bH y 3 (by omega) (by omega),bH y 4 (by omega) (by omega),bH y 5 (by omega) (by omega),bH y 6 (by omega) (by omega),bH y 7 (by omega) (by omega),bH y 8 (by omega) (by omega),bH y 9 (by omega) (by omega),bH y 10 (by omega) (by omega),bH y 11 (by omega) (by omega),bH y 12 (by omega) (by omega)⟩
theorem wX{y a b:Int}(h1:1<=a)(h:a<b)(h2:b<=13):bY y a+len y a<=bY y b:=by
 obtain⟨n,rfl⟩: ∃n:Nat,b=a+1+n:=⟨(b - a - 1).toNat,by omega⟩;clear h
 induction n with
 |zero=>have:=bH y a h1 (by omega);simp;omega
 |succ n ih=>
  have h3:=ih (by omega);have h4:=bH y (a+1+n) (by omega) (by omega);have h5:=dJ y (a+1+n);rw[show a+1+((n+1:Nat):Int)=a+1+n+1 by omega];omega
def AL(y d:Int):Int:=if d<bY y 2 then 1 else if d<bY y 3 then 2 else if d<bY y 4 then 3 else if d<bY y 5 then 4 else if d<bY y 6 then 5 else if d<bY y 7 then 6 else if d<bY y 8 then 7 else if d<bY y 9 then 8 else if d<bY y 10 then 9 else if d<bY y 11 then 10 else if d<bY y 12 then 11 else 12
theorem tV{y d m:Int}(h1:1<=m)(h2:m<=12)(ha:bY y m<=d)(hb:d<bY y (m+1)):AL y d=m:=by
 obtain⟨c1,c2,c3,c4,c5,c6,c7,c8,c9,c10,c11,c12⟩:=SH y;have l1:=dJ y 1;have l2:=dJ y 2;have l3:=dJ y 3;have l4:=dJ y 4;have l5:=dJ y 5;have l6:=dJ y 6;have l7:=dJ y 7;have l8:=dJ y 8;have l9:=dJ y 9;have l10:=dJ y 10;have l11:=dJ y 11;have l12:=dJ y 12;unfold AL;have:m=1\/m=2\/m=3\/m=4\/m=5\/m=6\/m=7\/m=8\/m=9\/m=10\/m=11\/m=12:=by omega
 rcases this with rfl|rfl|rfl|rfl|rfl|rfl|rfl|rfl|rfl|rfl|rfl|rfl
 . rw[show (1:Int)+1=2 from rfl]at hb;rw[aFV hb]
 . rw[show (2:Int)+1=3 from rfl]at hb;rw[aB9 (by omega),aFV hb]
 . rw[show (3:Int)+1=4 from rfl]at hb;rw[aB9 (by omega),aB9 (by omega),aFV hb]
 . rw[show (4:Int)+1=5 from rfl]at hb;rw[aB9 (by omega),aB9 (by omega),aB9 (by omega),aFV hb]
 . rw[show (5:Int)+1=6 from rfl]at hb;rw[aB9 (by omega),aB9 (by omega),aB9 (by omega),aB9 (by omega),aFV hb]
 . rw[show (6:Int)+1=7 from rfl]at hb;rw[aB9 (by omega),aB9 (by omega),aB9 (by omega),aB9 (by omega),aB9 (by omega),aFV hb]
 . rw[show (7:Int)+1=8 from rfl]at hb;rw[aB9 (by omega),aB9 (by omega),aB9 (by omega),aB9 (by omega),aB9 (by omega),aB9 (by omega),aFV hb]
 . rw[show (8:Int)+1=9 from rfl]at hb;rw[aB9 (by omega),aB9 (by omega),aB9 (by omega),aB9 (by omega),aB9 (by omega),aB9 (by omega),aB9 (by omega),aFV hb]
 . rw[show (9:Int)+1=10 from rfl]at hb;rw[aB9 (by omega),aB9 (by omega),aB9 (by omega),aB9 (by omega),aB9 (by omega),aB9 (by omega),aB9 (by omega),aB9 (by omega),aFV hb]
 . rw[show (10:Int)+1=11 from rfl]at hb;rw[aB9 (by omega),aB9 (by omega),aB9 (by omega),aB9 (by omega),aB9 (by omega),aB9 (by omega),aB9 (by omega),aB9 (by omega),aB9 (by omega),aFV hb]
 . rw[show (11:Int)+1=12 from rfl]at hb;rw[aB9 (by omega),aB9 (by omega),aB9 (by omega),aB9 (by omega),aB9 (by omega),aB9 (by omega),aB9 (by omega),aB9 (by omega),aB9 (by omega),aB9 (by omega),aFV hb]
 rw[aB9 (by omega),aB9 (by omega),aB9 (by omega),aB9 (by omega),aB9 (by omega),aB9 (by omega),aB9 (by omega),aB9 (by omega),aB9 (by omega),aB9 (by omega),aB9 (by omega)]
theorem lS{y d:Int}(h0:0<=d)(h:d<365+lp y):1<=AL y d/\AL y d<=12/\bY y (AL y d)<=d/\d<bY y (AL y d+1):=by
 have key: ∃m,1<=m/\m<=12/\bY y m<=d/\d<bY y (m+1):=by
  by_cases c2:d<bY y 2
  . exact⟨1,by omega,by omega,by rw[uQ];omega,c2⟩
  by_cases c3:d<bY y 3
  . exact⟨2,by omega,by omega,by omega,c3⟩
  by_cases c4:d<bY y 4
  . exact⟨3,by omega,by omega,by omega,c4⟩
  by_cases c5:d<bY y 5
  . exact⟨4,by omega,by omega,by omega,c5⟩
  by_cases c6:d<bY y 6
  . exact⟨5,by omega,by omega,by omega,c6⟩
  by_cases c7:d<bY y 7
  . exact⟨6,by omega,by omega,by omega,c7⟩
  by_cases c8:d<bY y 8
  . exact⟨7,by omega,by omega,by omega,c8⟩
  by_cases c9:d<bY y 9
  . exact⟨8,by omega,by omega,by omega,c9⟩
  by_cases c10:d<bY y 10
  . exact⟨9,by omega,by omega,by omega,c10⟩
  by_cases c11:d<bY y 11
  . exact⟨10,by omega,by omega,by omega,c11⟩
  by_cases c12:d<bY y 12
  . exact⟨11,by omega,by omega,by omega,c12⟩
  exact⟨12,by omega,by omega,by omega,by rw[show (12:Int)+1=13 by rfl,iG];exact h⟩
 obtain⟨m,h1,h2,h3,h4⟩:=key;rw[tV h1 h2 h3 h4];exact⟨h1,h2,h3,h4⟩
end Cal
end
section
open Go.RowKit
namespace Un
theorem ri{k:IntKind}{a b:Int}(h:a=b):Ending.returned (.int k a)=.returned (.int k b):=by rw[h]
theorem rb{a b:Bool}(h:a=b):Ending.returned (.bool a)=.returned (.bool b):=by rw[h]
theorem aU{a b c d:Int}{k k':IntKind}(h:a=b)(h2:c=d):Ending.returned (.tuple #[.int k a,.int k' c])=.returned (.tuple #[.int k b,.int k' d]):=by rw[h,h2]
theorem bF{a b:Bool}{c d:Int}{k:IntKind}(h:a=b)(h2:c=d):Ending.returned (.tuple #[.bool a,.int k c])=.returned (.tuple #[.bool b,.int k d]):=by rw[h,h2]
theorem yA{a b:Int}(hb:0<b):
 (a.tmod b≠0/\a<0->a.tdiv b - 1=a / b/\a.tmod b+b=a % b)/\(a.tmod b=0\/0<=a->a.tdiv b=a / b/\a.tmod b=a % b)/\(a.tmod b≠0->(a.tmod b<0↔a<0)):=by
 have h1:=@Int.tdiv_eq_ediv a b;have h2:=@Int.tmod_eq_emod a b;rw[Int.sign_eq_one_of_pos hb]at h1;have h3:=aUl a (show b≠0 by omega);have h4:=aUL a hb
 by_cases c:0<=a\/b ∣ a
 . rw[aFV c]at h1 h2;simp only[Int.natCast_zero,Int.sub_zero,aXA]at h1 h2;refine⟨fun⟨h5,h6⟩=>?_,fun _=>⟨h1,h2⟩,fun h5=>?_⟩
   . exfalso;rcases c with c|c
     . omega
     exact h5 (aU0 c)
   rcases c with c|c
   . constructor<;>intro h<;>omega
   exact absurd (aU0 c) h5
 rw[aB9 c]at h1 h2;have hn:(b.natAbs:Int)=b:=by omega
 rw[hn]at h2;have ha:a<0:=by
  by_cases q:a<0
  . exact q
  exact absurd (Or.inl (by omega)) c
 have h5:a.tmod b≠0:=fun h=>c (Or.inr (aWP h));refine⟨fun _=>⟨by omega,by omega⟩,fun h=>?_,fun _=>⟨fun _=>ha,fun _=>by omega⟩⟩;rcases h with h|h
 . exact absurd h h5
 omega
theorem wrap_in{n:Int}(h0: -9223372036854775808<=n)(h1:n<9223372036854775808):wrap64 n=n:=by
 unfold wrap64;omega
theorem BX{a b:Int}(hb:1<b)(h0: -9223372036854775808<=a)(h1:a<9223372036854775808): -9223372036854775808<=a / b/\a / b<9223372036854775808:=by
 refine⟨(Int.le_ediv_iff_mul_le (by omega)).2 (by omega),(Int.ediv_lt_iff_lt_mul (by omega)).2 (by omega)⟩
theorem uG(a b:Int)(w:World)(hb:1<b)(hb2:b<9223372036854775808)(h0: -9223372036854775808<=a)(h1:a<9223372036854775808):
 Calls Tryz.prog 168 #[.int .i64 a,.int .i64 b] w fun e w'=>e=.returned (.tuple #[.int .i64 (a / b),.int .i64 0])/\w=w':=by
 obtain⟨c1,c2,c3⟩:=@yA a b (by omega);have b0:(b==0)=false:=by rw[aAO];omega
 have b1:(b== -1)=false:=by rw[aAO];omega
 have b2:decide (b<0)=false:=aCw (by omega)
 by_cases ha:0<=a
 . have a2:decide (a<0)=false:=aCw (by omega);clear c1 c2 c3
   by_cases hz:a % b=0
   . have hz2:(a % b !=0)=false:=by rw[hz];rfl
     have HZ:=GK hz;clear hz
     go_enter Tryz.func168,Tryz.ntmps168
     go_wp2
     go_ret2
     exact⟨aU (by first|rfl|exact HZ.out.symm) rfl,rfl⟩
   have hz2:(a % b !=0)=true:=by rw[aLa];exact hz
   have m2:decide (a % b<0)=false:=aCw (by have:=aUl a (show b≠0 by omega);omega);clear hz
   go_enter Tryz.func168,Tryz.ntmps168
   go_wp2
   go_ret2
   exact⟨rfl,rfl⟩
 have a2:decide (a<0)=true:=aAP (by omega)
 by_cases hz:a.tmod b=0
 . obtain⟨e1,e2⟩:=c2 (Or.inl hz);have hz2:(a.tmod b !=0)=false:=by rw[hz];rfl
   have E1:=GK e1;have E2:=GK e2;clear hz e1 e2 c1 c2 c3
   go_enter Tryz.func168,Tryz.ntmps168
   go_wp2
   go_ret2
   exact⟨aU E1.out rfl,rfl⟩
 obtain⟨e1,e2⟩:=c1 ⟨hz,by omega⟩;have hz2:(a.tmod b !=0)=true:=by rw[aLa];exact hz
 have m2:decide (a.tmod b<0)=true:=aAP ((c3 hz).2 (by omega));have w1:wrap64 (a.tdiv b - 1)=a / b:=by rw[e1];exact wrap_in (BX hb h0 h1).1 (BX hb h0 h1).2
 have w2:wrap64 (a.tmod b+b)=a % b:=by rw[e2];exact wrap_in (by have:=aUl a (show b≠0 by omega);omega) (by have:=aUL a (show 0<b by omega);omega)
 have E1:=GK e1;have E2:=GK e2;clear hz e1 e2 c1 c2 c3
 go_enter Tryz.func168,Tryz.ntmps168
 go_wp2
 go_ret2
 exact⟨rfl,rfl⟩
theorem I4(a b:Int)(w:World)(hb:1<b)(hb2:b<9223372036854775808)(h0: -9223372036854775808<=a)(h1:a<9223372036854775808):
 Calls Tryz.prog 169 #[.int .i64 a,.int .i64 b] w fun e w'=>e=.returned (.tuple #[.int .i64 (a % b),.int .i64 0])/\w=w':=by
 obtain⟨c1,c2,c3⟩:=@yA a b (by omega);have b0:(b==0)=false:=by rw[aAO];omega
 have b1:(b== -1)=false:=by rw[aAO];omega
 have b2:decide (b<0)=false:=aCw (by omega)
 by_cases ha:0<=a
 . have a2:decide (a<0)=false:=aCw (by omega);clear c1 c2 c3
   by_cases hz:a % b=0
   . have hz2:(a % b !=0)=false:=by rw[hz];rfl
     have HZ:=GK hz;clear hz
     go_enter Tryz.func169,Tryz.ntmps169
     go_wp2
     go_ret2
     exact⟨aU (by first|rfl|exact HZ.out.symm) rfl,rfl⟩
   have hz2:(a % b !=0)=true:=by rw[aLa];exact hz
   have m2:decide (a % b<0)=false:=aCw (by have:=aUl a (show b≠0 by omega);omega);clear hz
   go_enter Tryz.func169,Tryz.ntmps169
   go_wp2
   go_ret2
   exact⟨rfl,rfl⟩
 have a2:decide (a<0)=true:=aAP (by omega)
 by_cases hz:a.tmod b=0
 . obtain⟨e1,e2⟩:=c2 (Or.inl hz);have hz2:(a.tmod b !=0)=false:=by rw[hz];rfl
   have E1:=GK e1;have E2:=GK e2;clear hz e1 e2 c1 c2 c3
   go_enter Tryz.func169,Tryz.ntmps169
   go_wp2
   go_ret2
   exact⟨aU E2.out rfl,rfl⟩
 obtain⟨e1,e2⟩:=c1 ⟨hz,by omega⟩;have hz2:(a.tmod b !=0)=true:=by rw[aLa];exact hz
 have m2:decide (a.tmod b<0)=true:=aAP ((c3 hz).2 (by omega));have w1:wrap64 (a.tdiv b - 1)=a / b:=by rw[e1];exact wrap_in (BX hb h0 h1).1 (BX hb h0 h1).2
 have w2:wrap64 (a.tmod b+b)=a % b:=by rw[e2];exact wrap_in (by have:=aUl a (show b≠0 by omega);omega) (by have:=aUL a (show 0<b by omega);omega)
 have E1:=GK e1;have E2:=GK e2;clear hz e1 e2 c1 c2 c3
 go_enter Tryz.func169,Tryz.ntmps169
 go_wp2
 go_ret2
 exact⟨rfl,rfl⟩
theorem gG(y:Int)(w:World)(h0: -10000000000000000<=y)(h1:y<=10000000000000000):
 Calls Tryz.prog 173 #[.int .i64 y] w fun e w'=>e=.returned (.int .i64 0)/\w=w':=by
 go_enter Tryz.func173,Tryz.ntmps173
 go_wp2
 go_ret
 exact⟨rfl,rfl⟩
theorem kP(y:Int)(w:World)(h:y< -10000000000000000\/10000000000000000<y):
 Calls Tryz.prog 173 #[.int .i64 y] w fun e w'=>e=.returned (.int .i64 6)/\w=w':=by
 rcases h with h|h
 . go_enter Tryz.func173,Tryz.ntmps173
   go_wp2
   go_ret
   exact⟨rfl,rfl⟩
 have h2: ¬y< -10000000000000000:=by omega
 go_enter Tryz.func173,Tryz.ntmps173
 go_wp2
 go_ret
 exact⟨rfl,rfl⟩
end Un
end
section
open Go.RowKit
namespace Un
open Cal
def jE(w:World):Prop:= ∃b o,w.cell? ⟨5,0,none⟩=some (.slice (some ⟨b,o,none⟩) 3 3)/\
 w.cell? ⟨b,o,none⟩=some (.int .i64 4)/\w.cell? ⟨b,o+1,none⟩=some (.int .i64 1)/\
 w.cell? ⟨b,o+2,none⟩=some (.int .i64 100)/\w.cell? ⟨b,o+3,none⟩=some (.int .i64 (-1))/\
 w.cell? ⟨b,o+4,none⟩=some (.int .i64 400)/\w.cell? ⟨b,o+5,none⟩=some (.int .i64 1)
theorem jE.below{w w':World}(h:jE w)(hb:Below w.heap.size w w'):jE w':=by
 obtain⟨b,o,h0,h1,h2,h3,h4,h5,h6⟩:=h;exact⟨b,o,aRB hb h0,aRB hb h1,aRB hb h2,aRB hb h3,aRB hb h4,aRB hb h5,aRB hb h6⟩
theorem ba{W w:World}(h:Below W.heap.size W w)(o:Obj):Below W.heap.size W (w.alloc o):=h.alloc h.size o
theorem bt{W w w2:World}(h:Below W.heap.size W w)(h2:Below w.heap.size w w2):Below W.heap.size W w2:=h.trans (h2.mono h.size)
theorem zW(y:Int)(w:World)(hs:jE w)(h0: -30000000000000000<=y)(h1:y<=30000000000000000):
 Calls Tryz.prog 205 #[.int .i64 y] w fun e w'=>e=.returned (.int .i64 (OM y))/\Below w.heap.size w w':=by
 obtain⟨b,o,g0,g1,g2,g3,g4,g5,g6⟩:=hs;have l0:=aOK _ _ g0;have l1:=aOK _ _ g1
 go_enter Tryz.func205,Tryz.ntmps205
 go_wp2
 refine wp_loop_rounds 4 ?_;rw[aWx]
 go_wp2_with (go_at_call 168;refine(uG _ _ _ (by omega) (by omega) (by omega) (by omega)).mono ?_;rintro e w' ⟨rfl,rfl⟩)
 rw[aWx]
 go_wp2_with (go_at_call 168;refine(uG _ _ _ (by omega) (by omega) (by omega) (by omega)).mono ?_;rintro e w' ⟨rfl,rfl⟩)
 rw[aWx]
 go_wp2_with (go_at_call 168;refine(uG _ _ _ (by omega) (by omega) (by omega) (by omega)).mono ?_;rintro e w' ⟨rfl,rfl⟩)
 rw[aWx]
 go_wp2
 go_ret
 exact⟨ri (by unfold OM;omega),ba (ba (ba (aAL _ _) _) _) _⟩
theorem aQ4{y:Int}(h0: -30000000000000000<=y)(h1:y<=30000000000000000): -30000000000000000<=OM y/\OM y<=30000000000000000:=by
 unfold OM;omega
theorem jQ{y:Int}(h0: -25000000000000000<=y)(h1:y<=25000000000000000): -9200000000000000000<=st y/\st y<=9200000000000000000:=by
 unfold st OM;omega
theorem DN(y:Int)(w:World)(hs:jE w)(h0: -25000000000000000<=y)(h1:y<=25000000000000000):
 Calls Tryz.prog 172 #[.int .i64 y] w fun e w'=>e=.returned (.int .i64 (st y))/\Below w.heap.size w w':=by
 have hb:=aQ4 (y:=y) (by omega) (by omega);have hb2:=jQ h0 h1;have e:365 * y+OM y=st y:=rfl;have k1: -9200000000000000000<=365 * y+OM y:=by omega
 have k2:365 * y+OM y<=9200000000000000000:=by omega
 have E:=GK e;clear e hb2
 go_enter Tryz.func172,Tryz.ntmps172
 go_wp2_with (go_at_call 205;refine(zW _ _ hs (by omega) (by omega)).mono ?_;rintro e w' ⟨rfl,hb1⟩)
 go_ret
 exact⟨ri E.out,hb1⟩
theorem qW(y:Int)(w:World)(hs:jE w)(h0: -10000000000000000<=y)(h1:y<=10000000000000000):
 Calls Tryz.prog 174 #[.int .i64 y] w fun e w'=>e=.returned (.tuple #[.int .i64 (st y),.int .i64 0])/\Below w.heap.size w w':=by
 go_enter Tryz.func174,Tryz.ntmps174
 go_wp2_with (first|(go_at_call 173;refine(gG _ _ (by omega) (by omega)).mono ?_;rintro e w' ⟨rfl,rfl⟩)|(go_at_call 172;refine(DN _ _ hs (by omega) (by omega)).mono ?_;rintro e w' ⟨rfl,hb1⟩))
 go_ret2
 exact⟨rfl,hb1⟩
theorem OW(y:Int)(w:World)(h:y< -10000000000000000\/10000000000000000<y):
 Calls Tryz.prog 174 #[.int .i64 y] w fun e w'=>e=.returned (.tuple #[.int .i64 0,.int .i64 6])/\w=w':=by
 have H:=GK h;clear h
 go_enter Tryz.func174,Tryz.ntmps174
 go_wp2_with (go_at_call 173;refine(kP _ _ H.out).mono ?_;rintro e w' ⟨rfl,rfl⟩)
 go_ret2
 exact⟨rfl,rfl⟩
theorem WY(y:Int)(w:World)(hs:jE w)(h0: -10000000000000000<=y)(h1:y<=10000000000000000):
 Calls Tryz.prog 175 #[.int .i64 y] w fun e w'=>e=.returned (.tuple #[.int .i64 (st (y+1) - 1),.int .i64 0])/\Below w.heap.size w w':=by
 have hb2:=jQ (y:=y+1) (by omega) (by omega);obtain⟨k1,k2⟩:=hb2
 go_enter Tryz.func175,Tryz.ntmps175
 go_wp2_with (first|(go_at_call 173;refine(gG _ _ (by omega) (by omega)).mono ?_;rintro e w' ⟨rfl,rfl⟩)|(go_at_call 172;refine(DN _ _ hs (by omega) (by omega)).mono ?_;rintro e w' ⟨rfl,hb1⟩))
 go_ret2
 exact⟨rfl,hb1⟩
theorem WZ(y:Int)(w:World)(h:y< -10000000000000000\/10000000000000000<y):
 Calls Tryz.prog 175 #[.int .i64 y] w fun e w'=>e=.returned (.tuple #[.int .i64 0,.int .i64 6])/\w=w':=by
 have H:=GK h;clear h
 go_enter Tryz.func175,Tryz.ntmps175
 go_wp2_with (go_at_call 173;refine(kP _ _ H.out).mono ?_;rintro e w' ⟨rfl,rfl⟩)
 go_ret2
 exact⟨rfl,rfl⟩
theorem TN(y:Int)(w:World)(hs:jE w)(h0: -10000000000000000<=y)(h1:y<=10000000000000000):
 Calls Tryz.prog 201 #[.int .i64 y] w fun e w'=>e=.returned (.tuple #[.bool (leap y),.int .i64 0])/\Below w.heap.size w w':=by
 have e:decide (OM y<OM (y+1))=leap y:=by
  rw[aAx];unfold lp
  cases leap y
  . exact aCw (by simp)
  exact aAP (by simp;omega)
 have E:=GK e;clear e
 go_enter Tryz.func201,Tryz.ntmps201
 go_wp2_with fail
 refine(gG _ _ (by omega) (by omega)).mono ?_;rintro e w' ⟨rfl,rfl⟩
 go_wp2_with fail
 refine(zW _ _ hs (by omega) (by omega)).mono ?_;rintro e w1 ⟨rfl,hb1⟩
 go_wp2_with fail
 refine(zW _ _ (hs.below hb1) (by omega) (by omega)).mono ?_;rintro e w2 ⟨rfl,hb2⟩
 go_wp2
 go_ret2
 exact⟨bF E.out rfl,bt hb1 hb2⟩
end Un
end
section
open Go.RowKit
namespace Un
open Cal
theorem vi{k:IntKind}{a b:Int}(h:a=b):Value.int k a=Value.int k b:=by rw[h]
theorem jE.drew{w:World}(h:jE w):jE w.drew:=h
theorem aBd(g:Nat)(cb:Array Value)(n k:Nat)(p:Int->Bool)(w:World)(eg: ∀args w,(callFunc g args).run Tryz.prog w=.ok (.enter g args) w)(hn:n<=4611686018427387904)(hk:k<=n)
 (hlo: ∀i:Nat,i<k->p i=false) (hhi: ∀i:Nat,k<=i->i<n->p i=true)
 (hf: ∀(i:Nat) (W:World),i<n->Below w.heap.size w W->Calls Tryz.prog g (#[.int .i64 i]++cb) W fun e w'=>e=.returned (.bool (p i))/\Below W.heap.size W w'):
 Calls Tryz.prog 170 #[.int .i64 n,.func (.func g) #[] cb] w fun e w'=>e=.returned (.int .i64 k)/\Below w.heap.size w w':=by
 have HF:=GK hf;have TK:=GK hlo;have HHI:=GK hhi;clear hf hlo hhi
 go_enter Tryz.func170,Tryz.ntmps170
 go_wp2
 go_loopw [5,6] (fun i j wr=> ∃lo hi:Nat,lo<=k/\k<=hi/\hi<=n/\i=.int .i64 (lo:Int)/\j=.int .i64 (hi:Int)/\Below w.heap.size w wr) (fun i j _=>(intOf j - intOf i).toNat)
 case atStart=>exact⟨0,n,by omega,by omega,by omega,rfl,rfl,aAL _ _⟩
 case round=>
  obtain⟨lo,hi,h1,h2,h3,rfl,rfl,hb⟩:=hrel;have HB:=GK hb;clear hb
  by_cases hlt:lo<hi
  . obtain⟨m,hm⟩: ∃m:Nat,m=(lo+hi) / 2:=⟨_,rfl⟩
    by_cases hmk:m<k
    . have HP:=GK (TK.out m hmk)
      go_wp2_with fail
      rw[show ((lo:Int)+(hi:Int)) / 2=(m:Int)from by omega];refine(HF.out m _ (by omega) HB.out).mono ?_;rintro e w' ⟨rfl,hb1⟩;rw[HP.out];have HB1:=GK (bt HB.out hb1);clear hb1
      go_wp2
      go_roundw
      case rel=>exact⟨m+1,hi,by omega,by omega,by omega,vi (by omega),rfl,HB1.out⟩
      case measure=>simp[intOf];omega
    have HP:=GK (HHI.out m (by omega) (by omega))
    go_wp2_with fail
    rw[show ((lo:Int)+(hi:Int)) / 2=(m:Int)from by omega];refine(HF.out m _ (by omega) HB.out).mono ?_;rintro e w' ⟨rfl,hb1⟩;rw[HP.out];have HB1:=GK (bt HB.out hb1);clear hb1
    go_wp2
    go_roundw
    case rel=>exact⟨lo,m,by omega,by omega,by omega,rfl,vi (by omega),HB1.out⟩
    case measure=>simp[intOf];omega
  have e:lo=k:=by omega
  subst e
  go_wp2
  go_ret
  exact⟨rfl,HB.out⟩
theorem XA(i r:Int)(a:Addr)(w:World)(hs:jE w)(hc:w.cell? a=some (.int .i64 r))(h0: -1000<=i)(h1:i<=1000):
 Calls Tryz.prog 171 #[.int .i64 i,.pointer (some a)] w fun e w'=>e=.returned (.bool (decide (r<st (i+1))))/\Below w.heap.size w w':=by
 have hw:IntKind.i64.wrap (i+1)=i+1:=by rw[aGZ];omega
 have hn:=aOK _ _ hc
 go_enter Tryz.func171,Tryz.ntmps171
 go_wp2
 go_region_held3 (fun w'=>w'.cell? a=some (.int .i64 r)/\jE w'/\Below w.heap.size w w') (first|exact⟨hc,hs.drew,(aAL _ _).drew⟩|exact⟨aRB hb1 hc,hs.drew.below hb1,bt (aAL _ _).drew hb1⟩) ((first|(go_at_call 172;refine(DN _ _ hs.drew (by omega) (by omega)).mono ?_;rintro e w' ⟨rfl,hb1⟩)))
 rename_i hh
 have HB:=GK hh.2.2;clear hh hb1
 go_wp2
 go_ret
 exact⟨rfl,HB.out⟩
theorem XQ(q z:Int):st (400 * q+z)=146097 * q+st z:=by unfold st OM;omega
theorem aEc(d:Int):bT d=400 * (d / 146097)+bT (d % 146097):=by
 obtain⟨h1,h2⟩:=gK (d % 146097);refine jY ?_ ?_
 . rw[XQ];omega
 rw[show 400 * (d / 146097)+bT (d % 146097)+1=400 * (d / 146097)+(bT (d % 146097)+1) by omega,XQ];omega
theorem aEb{r:Int}(h0:0<=r)(h1:r<146097):0<=bT r/\bT r<400:=by
 obtain⟨a,b⟩:=gK r;have z0:st 0=0:=by decide
 have z1:st 400=146097:=by decide
 constructor
 . by_cases c:0<=bT r
   . exact c
   have:=fU (a:=bT r+1) (b:=0) (by omega);omega
 by_cases c:bT r<400
 . exact c
 have:=fU (a:=400) (b:=bT r) (by omega);omega
def oI(d:Int):Int × Int:=if -10000000000000000<=bT d/\bT d<=10000000000000000 then(bT d,0)else(0,6)
theorem zB(d:Int)(w:World)(hs:jE w)(h0: -9223372036854775808<=d)(h1:d<9223372036854775808):
 Calls Tryz.prog 140 #[.int .i64 d] w fun e w'=>e=.returned (.tuple #[.int .i64 (oI d).1,.int .i64 (oI d).2])/\Below w.heap.size w w':=by
 have hsm:=@aEb (d % 146097) (by omega) (by omega);obtain⟨s1,s2⟩:=gK (d % 146097);have aQu:=aEc d;obtain⟨k,hk⟩: ∃k:Nat,(k:Int)=bT (d % 146097):=⟨(bT (d % 146097)).toNat,by omega⟩;rw[<-hk]at hsm s1 s2 aQu;have hlo: ∀i:Nat,i<k->decide (d % 146097<st ((i:Int)+1))=false:=fun i hi=>aCw (by have:=fU (a:=(i:Int)+1) (b:=k) (by omega);omega);have hhi: ∀i:Nat,k<=i->i<400->decide (d % 146097<st ((i:Int)+1))=true:=fun i hi _=>aAP (by have:=fU (a:=(k:Int)+1) (b:=(i:Int)+1) (by omega);omega);have hk4:k<=400:=by omega
 have q0: -63131877573220<=d / 146097:=by omega
 have q1:d / 146097<=63131877573220:=by omega
 have k0:(0:Int)<=(k:Int):=by omega
 have k1:(k:Int)<=400:=by omega
 have hsz: ∀o W,Below (w.alloc o).heap.size (w.alloc o) W->Below w.heap.size w W:=fun o W h=>bt (ba (aAL _ _) o) h;have hse: ∀W,Below (w.alloc (.cells #[.int .i64 (d % 146097)] 2)).heap.size (w.alloc (.cells #[.int .i64 (d % 146097)] 2)) W->W.cell? ⟨w.heap.size,0,none⟩=some (.int .i64 (d % 146097)):=fun W h=>
  aRB h (by rw[aXe];rfl)
 have HS:=GK (fun W:World=>fun hb:Below (w.alloc (.cells #[.int .i64 (d % 146097)] 2)).heap.size (w.alloc (.cells #[.int .i64 (d % 146097)] 2)) W=>aBd 171 #[.pointer (some ⟨w.heap.size,0,none⟩)] 400 k (fun i=>decide (d % 146097<st (i+1))) W (fun args w=>by kernel_rfl) (by omega) hk4 hlo hhi (fun i W2 hi hb2=>XA i (d % 146097) _ W2 ((hs.below (hsz _ _ hb)).below hb2) (hse W2 (bt hb hb2)) (by omega) (by omega)));have hres:oI d=if -10000000000000000<=400 * (d / 146097)+(k:Int)/\400 * (d / 146097)+(k:Int)<=10000000000000000 then(400 * (d / 146097)+(k:Int),0)else(0,6):=by
  unfold oI;rw[aQu]
 have aUf:=GK hres;have HSZ:=GK hsz;clear hres hlo hhi hsm s1 s2 aQu hk hse hsz
 by_cases c: -10000000000000000<=400 * (d / 146097)+(k:Int)/\400 * (d / 146097)+(k:Int)<=10000000000000000
 . have hr:=aUf.out;rw[aFV c]at hr;have HR:=GK hr;obtain⟨c0,c1⟩:=c;clear hr
   go_enter Tryz.func140,Tryz.ntmps140
   go_wp2_with (first
    |(go_at_call 168;refine(uG _ _ _ (by omega) (by omega) (by omega) (by omega)).mono ?_;rintro e w' ⟨rfl,rfl⟩)
    |(go_at_call 169;refine(I4 _ _ _ (by omega) (by omega) (by omega) (by omega)).mono ?_;rintro e w' ⟨rfl,rfl⟩)
    |(go_at_call 173;refine(gG _ _ (by omega) (by omega)).mono ?_;rintro e w' ⟨rfl,rfl⟩)
    |(go_at_call 170;refine(HS.out _ (aAL _ _)).mono ?_;rintro e w' ⟨rfl,hb1⟩))
   go_ret2
   exact⟨aU (by rw[HR.out]) (by rw[HR.out]),HSZ.out _ _ hb1⟩
 have hr:=aUf.out;rw[aB9 c]at hr;have HR:=GK hr;have HC:Hid (400 * (d / 146097)+(k:Int)< -10000000000000000\/10000000000000000<400 * (d / 146097)+(k:Int)):=GK (by omega);clear hr c
 go_enter Tryz.func140,Tryz.ntmps140
 go_wp2_with (first
  |(go_at_call 168;refine(uG _ _ _ (by omega) (by omega) (by omega) (by omega)).mono ?_;rintro e w' ⟨rfl,rfl⟩)
  |(go_at_call 169;refine(I4 _ _ _ (by omega) (by omega) (by omega) (by omega)).mono ?_;rintro e w' ⟨rfl,rfl⟩)
  |(go_at_call 173;refine(kP _ _ HC.out).mono ?_;rintro e w' ⟨rfl,rfl⟩)
  |(go_at_call 170;refine(HS.out _ (aAL _ _)).mono ?_;rintro e w' ⟨rfl,hb1⟩))
 go_ret2
 exact⟨aU (by rw[HR.out]) (by rw[HR.out]),HSZ.out _ _ hb1⟩
end Un
end
section
open Go.RowKit
namespace Un
open Cal
def ml(i:Nat):Int:=if i=1 then 28 else if i=3\/i=5\/i=8\/i=10 then 30 else 31
def yK(w:World):Prop:= ∀i:Nat,i<12->w.cell? ⟨2,i,none⟩=some (.int .i64 (ml i))
theorem yK.below{w w':World}(h:yK w)(hb:Below w.heap.size w w'):yK w':=fun i hi=>aRB hb (h i hi)
structure fD(w:World):Prop where
 steps:jE w
 lens:yK w
theorem fD.below{w w':World}(h:fD w)(hb:Below w.heap.size w w'):fD w':=⟨h.steps.below hb,h.lens.below hb⟩
theorem aIR{y:Int}{n:Nat}(h:n<12)(hl:leap y=false\/n≠1):ml n=len y ((n:Int)+1):=by
 unfold ml len lp;rcases hl with hl|hl
 . rw[hl];simp only[aLe,aRv]
   (repeat' split)<;>omega
 (repeat' split)<;>omega
theorem pO(y m:Int)(w:World)(hs:fD w)(h0: -10000000000000000<=y)(h1:y<=10000000000000000)(m0:1<=m)(m1:m<=12):
 Calls Tryz.prog 163 #[.int .i64 y,.int .i64 m] w fun e w'=>e=.returned (.int .i64 (len y m))/\Below w.heap.size w w':=by
 obtain⟨n,rfl⟩: ∃n:Nat,m=(n:Int)+1:=⟨(m - 1).toNat,by omega⟩;have hn:n<12:=by omega
 have HC:=GK (fun(W:World) (hb:Below w.heap.size w W)=>(hs.below hb).lens n hn);have HL:=GK (TN y w hs.steps h0 h1);have i0:(0:Int)<=(n:Int):=by omega
 have i1:(n:Int)<12:=by omega
 by_cases hl:leap y=true
 . rw[hl]at HL
   by_cases h2:n=1
   . subst h2;have e:29=len y ((1:Nat)+1):=by unfold len lp;rw[hl];rfl
     have E:=GK e;clear e hl
     go_enter Tryz.func163,Tryz.ntmps163
     go_wp2_with (go_at_call 201;refine HL.out.mono ?_;rintro e w' ⟨rfl,hb1⟩)
     go_ret
     exact⟨ri E.out,hb1⟩
   have E:=GK (aIR (y:=y) hn (Or.inr h2));have t:((n:Int)+1==2)=false:=by rw[aAO];omega
   clear h2 hl
   go_enter Tryz.func163,Tryz.ntmps163
   go_wp2_with fail
   refine HL.out.mono ?_;rintro e w' ⟨rfl,hb1⟩;have hc:=HC.out _ hb1
   go_wp2
   go_ret
   exact⟨ri E.out,hb1⟩
 have hl2:leap y=false:=by cases h:leap y;rfl;exact absurd h hl
 rw[hl2]at HL;have E:=GK (aIR (y:=y) hn (Or.inl hl2));clear hl hl2
 go_enter Tryz.func163,Tryz.ntmps163
 go_wp2_with fail
 refine HL.out.mono ?_;rintro e w' ⟨rfl,hb1⟩;have hc:=HC.out _ hb1
 go_wp2
 go_ret
 exact⟨ri E.out,hb1⟩
def rW(y m:Int):Int:=if -10000000000000000<=y/\y<=10000000000000000 then(if 1<=m/\m<=12 then 0 else 7)else 6
theorem jH(y m:Int)(w:World):
 Calls Tryz.prog 162 #[.int .i64 y,.int .i64 m] w fun e w'=>e=.returned (.int .i64 (rW y m))/\w=w':=by
 by_cases c: -10000000000000000<=y/\y<=10000000000000000
 . by_cases c2:1<=m/\m<=12
   . have E:Hid (0=rW y m):=GK (by unfold rW;rw[aFV c,aFV c2]);obtain⟨a,b⟩:=c;obtain⟨p,q⟩:=c2
     go_enter Tryz.func162,Tryz.ntmps162
     go_wp2_with (go_at_call 173;refine(gG _ _ (by omega) (by omega)).mono ?_;rintro e w' ⟨rfl,rfl⟩)
     go_ret
     exact⟨ri E.out,rfl⟩
   have E:Hid (7=rW y m):=GK (by unfold rW;rw[aFV c,aB9 c2]);obtain⟨a,b⟩:=c
   by_cases p:m<1
   . clear c2
     go_enter Tryz.func162,Tryz.ntmps162
     go_wp2_with (go_at_call 173;refine(gG _ _ (by omega) (by omega)).mono ?_;rintro e w' ⟨rfl,rfl⟩)
     go_ret
     exact⟨ri E.out,rfl⟩
   have q:12<m:=by omega
   clear c2
   go_enter Tryz.func162,Tryz.ntmps162
   go_wp2_with (go_at_call 173;refine(gG _ _ (by omega) (by omega)).mono ?_;rintro e w' ⟨rfl,rfl⟩)
   go_ret
   exact⟨ri E.out,rfl⟩
 have E:Hid (6=rW y m):=GK (by unfold rW;rw[aB9 c]);have C:Hid (y< -10000000000000000\/10000000000000000<y):=GK (by omega);clear c
 go_enter Tryz.func162,Tryz.ntmps162
 go_wp2_with (go_at_call 173;refine(kP _ _ C.out).mono ?_;rintro e w' ⟨rfl,rfl⟩)
 go_ret
 exact⟨ri E.out,rfl⟩
theorem wB(y m:Int)(w:World)(h:rW y m≠0):
 Calls Tryz.prog 157 #[.int .i64 y,.int .i64 m] w fun e w'=>e=.returned (.tuple #[.int .i64 0,.int .i64 (rW y m)])/\w=w':=by
 have t:(rW y m !=0)=true:=by rw[aLa];exact h
 clear h
 go_enter Tryz.func157,Tryz.ntmps157
 go_wp2_with (go_at_call 162;refine(jH _ _ _).mono ?_;rintro e w' ⟨rfl,rfl⟩)
 go_ret2
 exact⟨rfl,rfl⟩
theorem iP(y m:Int)(w:World)(hs:fD w)(h0: -10000000000000000<=y)(h1:y<=10000000000000000)(m0:1<=m)(m1:m<=12):
 Calls Tryz.prog 157 #[.int .i64 y,.int .i64 m] w fun e w'=>e=.returned (.tuple #[.int .i64 (st y+bY y m),.int .i64 0])/\Below w.heap.size w w':=by
 obtain⟨n,rfl⟩: ∃n:Nat,m=(n:Int)+1:=⟨(m - 1).toNat,by omega⟩;have e:rW y ((n:Int)+1)=0:=by unfold rW;rw[aFV ⟨h0,h1⟩,aFV ⟨m0,m1⟩]
 have HM:=jH y ((n:Int)+1) w;rw[e]at HM;have HM:=GK HM;obtain⟨b0,b1⟩:=jQ (y:=y) (by omega) (by omega);have HS:=GK hs;clear hs e
 go_enter Tryz.func157,Tryz.ntmps157
 go_wp2_with (first|(go_at_call 162;refine HM.out.mono ?_;rintro e w' ⟨rfl,rfl⟩)|(go_at_call 174;refine(qW _ _ HS.out.steps (by omega) (by omega)).mono ?_;rintro e w' ⟨rfl,hb1⟩))
 have HB:=GK hb1;clear hb1
 go_loopw [7,9,23] (fun d i j wr=> ∃k:Nat,k<=n/\d=.int .i64 (st y+bY y ((k:Int)+1))/\j=.int .i64 (k:Int)/\Below w.heap.size w wr) (fun _ _ j _=>n - (intOf j).toNat)
 case atStart=>exact⟨0,by omega,by rw[show ((0:Nat):Int)+1=1 from rfl,uQ,aXA],rfl,HB.out⟩
 case round=>
  obtain⟨k,hk,rfl,rfl,hb⟩:=hrel;have HB2:=GK hb;clear hb;have cb:=@dW y ((k:Int)+1) (by omega) (by omega)
  by_cases hlt:k<n
  . have hl:=dJ y ((k:Int)+1);have hcs:=bH y ((k:Int)+1) (by omega) (by omega);have HCS:=GK hcs;clear hcs
    go_wp2_with (go_at_call 163;refine(pO _ _ _ (HS.out.below HB2.out) (by omega) (by omega) (by omega) (by omega)).mono ?_;rintro e w' ⟨rfl,hb3⟩)
    have HB3:=GK (bt HB2.out hb3);clear hb3
    go_roundw
    case rel=>exact⟨k+1,by omega,vi (by rw[show ((k+1:Nat):Int)+1=(k:Int)+1+1 by omega,HCS.out];omega),by go_num,HB3.out⟩
    case measure=>simp[intOf];omega
  have e:k=n:=by omega
  subst e
  go_wp2
  go_ret2
  exact⟨rfl,HB2.out⟩
theorem UZ(y m:Int)(w:World)(h:rW y m≠0):
 Calls Tryz.prog 159 #[.int .i64 y,.int .i64 m] w fun e w'=>e=.returned (.tuple #[.int .i64 0,.int .i64 (rW y m)])/\w=w':=by
 have t:(rW y m !=0)=true:=by rw[aLa];exact h
 have H:=GK h;clear h
 go_enter Tryz.func159,Tryz.ntmps159
 go_wp2_with (go_at_call 157;refine(wB _ _ _ H.out).mono ?_;rintro e w' ⟨rfl,rfl⟩)
 go_ret2
 exact⟨rfl,rfl⟩
theorem BG(y m:Int)(w:World)(hs:fD w)(h0: -10000000000000000<=y)(h1:y<=10000000000000000)(m0:1<=m)(m1:m<=12):
 Calls Tryz.prog 159 #[.int .i64 y,.int .i64 m] w fun e w'=>e=.returned (.tuple #[.int .i64 (st y+bY y (m+1) - 1),.int .i64 0])/\Below w.heap.size w w':=by
 obtain⟨b0,b1⟩:=jQ (y:=y) (by omega) (by omega);have cb:=@dW y m (by omega) (by omega);have lb:=dJ y m;have E:Hid (st y+bY y m+len y m - 1=st y+bY y (m+1) - 1):=GK (by rw[bH y m m0 m1];omega)
 go_enter Tryz.func159,Tryz.ntmps159
 go_wp2_with fail
 refine(iP _ _ _ hs h0 h1 m0 m1).mono ?_;rintro e w1 ⟨rfl,hb1⟩
 go_wp2_with fail
 refine(pO _ _ _ (hs.below hb1) h0 h1 m0 m1).mono ?_;rintro e w2 ⟨rfl,hb2⟩
 go_wp2
 go_ret2
 exact⟨aU E.out rfl,bt hb1 hb2⟩
theorem gV{a b c d e f:Int}{k k' k2:IntKind}(h:a=b)(h2:c=d)(h3:e=f):Ending.returned (.tuple #[.int k a,.int k' c,.int k2 e])=.returned (.tuple #[.int k b,.int k' d,.int k2 f]):=by rw[h,h2,h3]
def bZ(d:Int):Int × Int × Int:=if -10000000000000000<=bT d/\bT d<=10000000000000000 then(bT d,AL (bT d) (d - st (bT d)),0)else(0,0,6)
theorem oK(d:Int)(w:World)(hs:fD w)(h0: -9223372036854775808<=d)(h1:d<9223372036854775808):
 Calls Tryz.prog 143 #[.int .i64 d] w fun e w'=>e=.returned (.tuple #[.int .i64 (bZ d).1,.int .i64 (bZ d).2.1,.int .i64 (bZ d).2.2])/\Below w.heap.size w w':=by
 have HY:=zB d w hs.steps h0 h1
 by_cases c: -10000000000000000<=bT d/\bT d<=10000000000000000
 . rw [show oI d=(bT d,0) by unfold oI;rw[aFV c]]at HY;have HR:Hid (bZ d=(bT d,AL (bT d) (d - st (bT d)),0)):=GK (by unfold bZ;rw[aFV c]);obtain⟨s1,s2⟩:=gK d;rw[st_succ]at s2;have hms:=@lS (bT d) (d - st (bT d)) (by omega) (by omega);obtain⟨c0,c1⟩:=c;generalize bT d=y at *;generalize hm:AL y (d - st y)=m at *;have HMU:=GK hm;obtain⟨m0,m1,g0,g1⟩:=hms;have lp1:=pK y;have HY:=GK HY;have HS:=GK hs;clear hs hm;have sb:=jQ (y:=y) (by omega) (by omega);obtain⟨sb0,sb1⟩:=sb;have k0:0<=d - st y:=by omega
   have k1:d - st y<=366:=by omega
   have G0:=GK g0;have G1:=GK g1;clear g0 g1 s1 s2
   go_enter Tryz.func143,Tryz.ntmps143
   go_wp2_with fail
   refine HY.out.mono ?_;rintro e w1 ⟨rfl,hb1⟩
   go_wp2_with fail
   refine(qW _ _ (HS.out.below hb1).steps (by omega) (by omega)).mono ?_;rintro e w2 ⟨rfl,hb2⟩;have HB:=GK (bt hb1 hb2);clear hb1 hb2
   go_wp2_with fail
   go_loopw [2,7,26] (fun yy l j wr=> ∃k:Nat,(k:Int)+1<=m/\yy=.int .i64 y/\l=.int .i64 (d - st y - bY y ((k:Int)+1))/\j=.int .i64 (k:Int)/\Below w.heap.size w wr) (fun _ _ j _=>12 - (intOf j).toNat)
   case atStart=>exact⟨0,by omega,rfl,by rw[show ((0:Nat):Int)+1=1 from rfl,uQ,Int.sub_zero],rfl,HB.out⟩
   case round=>
    obtain⟨k,hk,rfl,rfl,rfl,hb⟩:=hrel;have HB2:=GK hb;clear hb h0 h1 sb0 sb1;have cb:=@dW y ((k:Int)+1) (by omega) (by omega);have hl:=dJ y ((k:Int)+1);have HCS:=GK (bH y ((k:Int)+1) (by omega) (by omega))
    by_cases hlt:(k:Int)+1<m
    . have t: ¬d - st y - bY y ((k:Int)+1)<len y ((k:Int)+1):=by
       have:=HCS.out;have:=G0.out
       by_cases q:(k:Int)+1+1=m
       . rw[<-q]at this;omega
       have:=@wX y ((k:Int)+1) m (by omega) (by omega) (by omega);omega
      go_wp2_with (go_at_call 163;refine(pO _ _ _ (HS.out.below HB2.out) (by omega) (by omega) (by omega) (by omega)).mono ?_;rintro e w' ⟨rfl,hb3⟩)
      have HB3:=GK (bt HB2.out hb3);clear hb3
      go_roundw
      case rel=>exact⟨k+1,by omega,rfl,vi (by rw[show ((k+1:Nat):Int)+1=(k:Int)+1+1 by omega,HCS.out];omega),by go_num,HB3.out⟩
      case measure=>simp[intOf];omega
    have e:m=(k:Int)+1:=by omega
    subst e;have t:d - st y - bY y ((k:Int)+1)<len y ((k:Int)+1):=by have:=HCS.out;have:=G1.out;omega
    go_wp2_with (go_at_call 163;refine(pO _ _ _ (HS.out.below HB2.out) (by omega) (by omega) (by omega) (by omega)).mono ?_;rintro e w' ⟨rfl,hb3⟩)
    go_ret3
    exact⟨gV (by rw[HR.out]) (by rw[HR.out]) (by rw[HR.out]),bt HB2.out hb3⟩
 rw[show oI d=(0,6) by unfold oI;rw[aB9 c]]at HY;have HR:Hid (bZ d=(0,0,6)):=GK (by unfold bZ;rw[aB9 c]);have HY:=GK HY;clear c hs
 go_enter Tryz.func143,Tryz.ntmps143
 go_wp2_with (go_at_call 140;refine HY.out.mono ?_;rintro e w1 ⟨rfl,hb1⟩)
 go_ret3
 exact⟨gV (by rw[HR.out]) (by rw[HR.out]) (by rw[HR.out]),hb1⟩
end Un
end
section
open Go.RowKit Go.Lib
namespace Bk
open Un (ba bt ri rb)
structure Rw(p:Nat)(vs:List Value)(w W:World):Prop where
 cell: ∀i v,vs[i]? =some v->W.cell? ⟨p,i,none⟩=some v
 free: ∀i,i<vs.length->W.frozen? ⟨p,i,none⟩=false
 new:w.heap.size<=p
 lt:p<W.heap.size
 below:Below w.heap.size w W
theorem Rw.later{p:Nat}{vs:List Value}{w W W2:World}(h:Rw p vs w W)(hb:Below W.heap.size W W2):Rw p vs w W2:=
 ⟨fun i v hv=>(hb.cell (p:=⟨p,i,none⟩) h.lt).trans (h.cell i v hv),fun i hi=>(hb.frozen (p:=⟨p,i,none⟩) h.lt).trans (h.free i hi),h.new,by have:=h.lt;have:=hb.size;omega,bt h.below hb⟩
theorem Rw.range{p:Nat}{vs:List Value}{w W:World}(h:Rw p vs w W):W.rangeAt p 0 vs:=fun j v hv=>by rw[aJU];exact h.cell j v hv
theorem Rw.there{p:Nat}{vs:List Value}{w W:World}(h:Rw p vs w W):W.there p 0 vs.length:=fun j hj=>by
 rw[aJU,h.cell j _ (aGX hj)];exact⟨rfl,h.free j hj⟩
theorem Rw.fresh{w W:World}(hb:Below w.heap.size w W)(vs:List Value)(t:TypeId):Rw W.heap.size vs w (W.alloc (.cells vs.toArray t)):=
 ⟨fun i v hv=>by rw[aXe];simpa using hv,fun i hi=>by simp,hb.size,by show W.heap.size<(W.heap.push _).size;simp,ba hb _⟩
theorem uU(p:Nat)(b:Addr): ∀(vs:List Value) (k:Nat) (W:World),(W.setCells p k vs).frozen? b=W.frozen? b
 |[],_,_=>rfl
 |u::r,k,W=>by unfold World.setCells;rw[uU p b r,aRE]
theorem vH{p:Nat}{w:World}(hp:w.heap.size<=p): ∀(vs:List Value) (k:Nat) (W:World),Below w.heap.size w W->Below w.heap.size w (W.setCells p k vs)
 |[],_,_,h=>h
 |u::r,k,W,h=>by unfold World.setCells;exact vH hp r _ _ (h.setCell hp _)
theorem setCells_size{p:Nat}: ∀(vs:List Value) (k:Nat) (W:World),(W.setCells p k vs).heap.size=W.heap.size
 |[],_,_=>rfl
 |u::r,k,W=>by unfold World.setCells;rw[setCells_size r];simp[World.setCell]
theorem yQ{p:Nat}: ∀(vs:List Value) (k:Nat) (W:World),(∀i,k<=i->i<k+vs.length->(W.cell? ⟨p,i,none⟩).isSome=true)-> ∀j v,vs[j]? =some v->(W.setCells p k vs).cell? ⟨p,k+j,none⟩=some v
 |[],k,W,_,j,v,hv=>by simp at hv
 | u::r,k,W,hs,j,v,hv=>by
  unfold World.setCells
  cases j with
  |zero=>
   simp at hv;subst hv;rw[aRM p r (k+1) _ ⟨p,k+0,none⟩ (fun _ _=>.inl (by show k+0<k+1;omega))];obtain⟨x,hx⟩:=aUS.1 (hs k (aCU _) (by simp));exact aUg _ _ _ hx
  |succ j=>
   rw[show k+(j+1)=k+1+j by omega];refine yQ r (k+1) _ (fun i h1 h2=>?_) j v (by simpa using hv);rw[aPE _ _ _ _ (by intro e;injection e with _ e2;omega)];exact hs i (by omega) (by simp;omega)
theorem Rw.eU{p:Nat}{vs:List Value}{w W:World}(h:Rw p vs w W)(us:List Value)(hl:us.length=vs.length):Rw p us w (W.setCells p 0 us):=by
 refine⟨fun i v hv=>?_,fun i hi=>by rw[uU];exact h.free i (by omega),h.new,by rw[setCells_size];exact h.lt,vH h.new _ _ _ h.below⟩;have:=yQ us 0 W (fun j _ hj=>by
  rw[h.cell j _ (aGX (by omega))];rfl) i v hv
 rw[aJU]at this;exact this
theorem Rw.set{p:Nat}{vs:List Value}{w W:World}(h:Rw p vs w W)(k:Nat)(hk:k<vs.length)(v:Value):Rw p (vs.set k v) w (W.setCell ⟨p,k,none⟩ v):=by
 refine⟨fun i u hu=>?_,fun i hi=>by rw[aRE];exact h.free i (by simpa using hi),h.new,by show p<(W.heap.modify _ _).size;rw[aV2];exact h.lt,h.below.setCell h.new _⟩
 by_cases c:k=i
 . subst c;rw[aXa hk]at hu
   cases hu
   exact aUg _ _ _ (h.cell k _ (aGX hk))
 rw[List.getElem?_set_ne c]at hu;rw[aPE _ _ _ _ (by intro e;injection e with e1 e2;exact c e2)];exact h.cell i u hu
theorem Rw.other{p q:Nat}{vs:List Value}{w W:World}(h:Rw p vs w W)(hne:q≠p)(hq:w.heap.size<=q)(k:Nat)(v:Value):Rw p vs w (W.setCell ⟨q,k,none⟩ v):=by
 refine⟨fun i u hu=>?_,fun i hi=>by rw[aRE];exact h.free i hi,h.new,by show p<(W.heap.modify _ _).size;rw[aV2];exact h.lt,h.below.setCell hq _⟩;rw[aPE _ _ _ _ (by intro e;injection e with e1 e2;exact hne e1)];exact h.cell i u hu
theorem Rw.others{p q:Nat}{vs:List Value}{w W:World}(h:Rw p vs w W)(hne:q≠p)(hq:w.heap.size<=q): ∀(us:List Value) (k:Nat),Rw p vs w (W.setCells q k us):=by
 intro us
 induction us generalizing W with
 |nil=>intro k;exact h
 |cons u r ih=>intro k;unfold World.setCells;exact ih (h.other hne hq k u) (k+1)
end Bk
end
section
open Go.Lib
namespace Bk
def aY(s:ByteArray)(i:Nat):Int:=((s.data.toList.getD i 0).toNat:Int)
theorem bQ(s:ByteArray)(i:Nat)(h:i<s.size):aY s i=((s[i]'h).toNat:Int):=by
 unfold aY;rw[aRA,aGX (by simpa using h)]
 rfl
theorem aQ3(s:ByteArray)(i:Nat):0<=aY s i/\aY s i<256:=by
 unfold aY;have:=(s.data.toList.getD i 0).toNat_lt;omega
def allB(q:Int->Bool)(s:ByteArray):Bool:=s.data.toList.all fun b=>q (b.toNat:Int)
theorem kH(q:Int->Bool)(s:ByteArray):allB q s=true↔ ∀i,i<s.size->q (aY s i)=true:=by
 unfold allB;rw[aJL];constructor
 . intro h i hi;rw[bQ s i hi];exact h _ (by rw[aUm];exact aWL ..)
 intro h b hb;obtain⟨i,hi,rfl⟩:=aNI hb;have:=h i (by simpa using hi);rw[bQ s i (by simpa using hi)]at this;exact this
theorem ZR (q:Int->Bool) (p:Nat->Bool) (hp: ∀x:Nat,x<128->p x= !q x) (hh: ∀x:Nat,128<=x->p x=true) (hq: ∀x:Int,q x=true->x<128) (s:ByteArray):
 ∀(g pos:Nat),s.size<=pos+g->(idxFuncFrom p true s g pos<0↔ ∀i,pos<=i->i<s.size->q (aY s i)=true)
 |0,pos,hg=>by
  simp only[idxFuncFrom];exact⟨fun _ i h1 h2=>by omega,fun _=>by decide⟩
 | g + 1, pos,hg=>by
  unfold idxFuncFrom
  by_cases hlt:pos<s.size
  . rw [aFV hlt]
    by_cases ha:(s[pos]'hlt).toNat<128
    . rw [aV3 s pos hlt ha];dsimp only;rw[hp _ ha]
      cases hqb:q ((s[pos]'hlt).toNat:Int)
      . rw[aTw,aFV rfl];constructor
        . intro h;omega
        intro h;have:=h pos (aCU _) hlt;rw[bQ s pos hlt,hqb]at this
        cases this
      rw[aVL,aB9 (by decide),ZR q p hp hh hq s g (pos+1) (by omega)];constructor
      . intro h i h1 h2
        by_cases e:i=pos
        . subst e;rw[bQ s i h2];exact hqb
        exact h i (by omega) h2
      intro h i h1 h2;exact h i (by omega) h2
    obtain⟨h1,h2⟩:=decode_high s pos hlt (by omega);rw[hh _ h1,aFV rfl];constructor
    . intro h;omega
    intro h;have:=hq _ (h pos (aCU _) hlt);rw[bQ s pos hlt]at this;omega
  rw[aB9 hlt];exact⟨fun _ i h1 h2=>by omega,fun _=>by decide⟩
theorem aJh(q:Int->Bool)(p:Nat->Bool)(hp: ∀x:Nat,x<128->p x= !q x)(hh: ∀x:Nat,128<=x->p x=true)(hq: ∀x:Int,q x=true->x<128)(s:ByteArray):
 decide (idxFunc p true s<0)=allB q s:=by
 have h:=ZR q p hp hh hq s s.size 0 (by omega);rw[aKX,aNo,kH];unfold idxFunc;rw[h];exact⟨fun h i hi=>h i (aKS _) hi,fun h i _ hi=>h i hi⟩
def hasB(c:Int)(s:ByteArray):Bool:=s.data.toList.any fun b=>decide ((b.toNat:Int)=c)
theorem wK(c:Int)(s:ByteArray):hasB c s=true↔ ∃i,i<s.size/\aY s i=c:=by
 unfold hasB;rw[aU2];constructor
 . rintro⟨b,hb,h⟩;obtain⟨i,hi,rfl⟩:=aNI hb;exact⟨i,by simpa using hi,by rw[bQ s i (by simpa using hi)];exact aK1 h⟩
 rintro⟨i,hi,h⟩;rw[bQ s i hi]at h;exact⟨_,by rw[aUm];exact aWL ..,aAP h⟩
theorem aCm{α:Type}(p:α->Bool): ∀l:List α,l.dropWhile p=[]↔l.all p=true
 |[]=>by simp
 |a::l=>by
  cases h:p a
  . simp[aUE,h]
  simp[aUE,h,aCm p l]
theorem dw_head{α:Type}(p:α->Bool): ∀ {l:List α} {a:α} {t:List α},l.dropWhile p=a::t->p a=false
 |[],a,t,h=>by simp at h
 |b::l,a,t,h=>by
  cases hb:p b
  . simp[aUE,hb]at h;rw[<-h.1];exact hb
  simp[aUE,hb]at h;exact dw_head p h
theorem aEm(l:List UInt8)(c:UInt8):(trimS l [c]=[])↔l.all (· ==c)=true:=by
 have e:(fun x=>[c].contains x)=(fun x:UInt8=>x==c):=by funext x;exact contains_one c x
 have hr:(l.all (· ==c)=true)↔l.reverse.dropWhile (fun x:UInt8=>x==c)=[]:=by rw[aCm,List.all_reverse]
 rw[hr];unfold trimS trimLeftS trimRightS;rw[e];constructor
 . intro h;rw[aCm,List.all_reverse]at h
   cases hd:l.reverse.dropWhile (fun x=>x==c)with
   |nil=>rfl
   |cons a t=>
    rw[hd]at h;have h1:=dw_head _ hd;rw[aOx,h1]at h
    cases h
 intro h;rw[h];rfl
end Bk
end
section
open Go.Lib
namespace Bk
def dec:List UInt8->Nat->Nat
 |[],a=>a
 |c::r,a=>dec r (10 * a+(c.toNat - 48))
def aJR(c:UInt8):Bool:=decide (48<=c.toNat/\c.toNat<=57)
def bG(x:Int):Bool:=decide (48<=x/\x<=57)
def bU(x:Int):Bool:=decide (48<=x/\x<=57)||decide (x=88)
theorem aAi: ∀(l:List UInt8) (c:UInt8) (a:Nat),dec (l++[c]) a=10 * dec l a+(c.toNat - 48)
 |[],c,a=>rfl
 |x::l,c,a=>by simp only[List.cons_append,dec];exact aAi l c _
theorem dec_lt: ∀(l:List UInt8) (a k:Nat),l.all aJR=true->a<10 ^ k->dec l a<10 ^ (k+l.length)
 |[],a,k,_,h=>by simpa[dec]using h
 |c::l,a,k,hl,h=>by
  simp only[aOx,aFU]at hl;have hc:c.toNat<=57:=(aK1 hl.1).2;have:=dec_lt l (10 * a+(c.toNat - 48)) (k+1) hl.2 (by rw[Nat.pow_succ];omega);simp only[dec,aRU];rw[show k+(l.length+1)=k+1+l.length by omega];exact this
theorem yY: ∀(l:List UInt8) (a k:Nat),l.all aJR=true->a<10 ^ k->k+l.length<=17->parseUintM 18446744073709551615 a l=.ok (dec l a)
 |[],a,k,_,h,hk=>rfl
 |c::l,a,k,hl,h,hk=>by
  simp only[aOx,aFU]at hl;have hc:=aK1 hl.1;simp only[aRU]at hk;have hp:(10:Nat) ^ k<=10 ^ 16:=aRK (by omega) (by omega);have hp2:(10:Nat) ^ 16=10000000000000000:=by decide
  simp only[parseUintM,dec];rw[aFV hc,aB9 (by omega),aB9 (by omega),show a * 10+(c.toNat - 48)=10 * a+(c.toNat - 48) by omega];exact yY l _ (k+1) hl.2 (by rw[Nat.pow_succ];omega) (by omega)
theorem UM(l:List UInt8)(h0:l≠[])(hl:l.all aJR=true)(hk:l.length<=17):parseIntB 64 l=.ok (dec l 0:Nat):=by
 have h:=yY l 0 0 hl (by decide) (by omega);have hb:=dec_lt l 0 0 hl (by decide);rw[aJU]at hb;have hp:(10:Nat) ^ l.length<=10 ^ 17:=aRK (by omega) hk;have hp2:(10:Nat) ^ 17=100000000000000000:=by decide
 cases l with
 |nil=>exact absurd rfl h0
 |cons c r=>
  have hc:48<=c.toNat/\c.toNat<=57:=aK1 (by simp only[aOx,aFU]at hl;exact hl.1);unfold parseIntB;simp only;rw[aB9 (by omega)];unfold parseUintB;rw[aB9 h0,show 2 ^ 64 - 1=18446744073709551615 by decide,h];simp only;have e63:2 ^ (64 - 1)=9223372036854775808:=by decide
  rw[aB9 (by rw[e63];omega),aB9 (by omega),aB9 (by omega)]
def dB(s:ByteArray):Int:=
 if s.size=2/\48<=aY s 0/\aY s 0<=57/\48<=aY s 1/\aY s 1<=57/\21<=10 * (aY s 0 - 48)+(aY s 1 - 48)/\10 * (aY s 0 - 48)+(aY s 1 - 48)<=41 then 10 * (aY s 0 - 48)+(aY s 1 - 48)else 0
theorem iZ(s:ByteArray):dB s=0\/(21<=dB s/\dB s<=41):=by
 unfold dB;split
 . next h=>exact Or.inr ⟨h.2.2.2.2.2.1,h.2.2.2.2.2.2⟩
 exact Or.inl rfl
theorem N7 (a b:UInt8) (v:Int):(atoiAll [a,b]=.ok v/\21<=v/\v<=41)↔((48<=a.toNat/\a.toNat<=57/\48<=b.toNat/\b.toNat<=57/\21<=10 * (a.toNat - 48)+(b.toNat - 48)/\10 * (a.toNat - 48)+(b.toNat - 48)<=41)/\v=((10 * (a.toNat - 48)+(b.toNat - 48):Nat):Int)):=by
 unfold atoiAll;simp only
 by_cases hs:a.toNat=43\/a.toNat=45
 . rw [aFV hs];constructor
   . rintro⟨h,h1,h2⟩;exfalso;unfold parseMag at h;rw[aB9 (by simp)]at h;unfold parseUint10 at h
     by_cases hb:48<=b.toNat/\b.toNat<=57
     . rw [aFV hb,aB9 (by omega),aB9 (by omega)]at h;unfold parseUint10 at h;simp only at h
       split at h
       . cases h
       split at h
       . cases h
       injection h with h
       split at h<;>omega
     rw[aB9 hb]at h
     cases h
   rintro⟨h,_⟩;omega
 rw [aB9 hs];unfold parseMag;rw[aB9 (by simp)];unfold parseUint10
 by_cases ha:48<=a.toNat/\a.toNat<=57
 . rw [aFV ha,aB9 (by omega),aB9 (by omega)];unfold parseUint10
   by_cases hb:48<=b.toNat/\b.toNat<=57
   . rw[aFV hb,aB9 (by omega),aB9 (by omega)];unfold parseUint10;simp only;rw[aB9 (by omega),aB9 (by omega),aB9 (by omega)];constructor
     . rintro⟨h,h1,h2⟩;injection h with h;refine⟨⟨ha.1,ha.2,hb.1,hb.2,?_,?_⟩,?_⟩<;>omega
     rintro⟨⟨_,_,_,_,h1,h2⟩,rfl⟩;refine⟨?_,by omega,by omega⟩
     congr 1
     omega
   rw[aB9 hb];constructor
   . rintro⟨h,_⟩;cases h
   rintro⟨⟨_,_,h1,h2,_⟩,_⟩;exact absurd ⟨h1,h2⟩ hb
 rw[aB9 ha];constructor
 . rintro⟨h,_⟩;cases h
 rintro⟨⟨h1,h2,_⟩,_⟩;exact absurd ⟨h1,h2⟩ ha
theorem vF{s:ByteArray}(h:s.size=2): ∃a b:UInt8,s.data.toList=[a,b]/\aY s 0=a.toNat/\aY s 1=b.toNat:=by
 have hl:s.data.toList.length=2:=by simpa using h
 match e:s.data.toList,hl with
 |[a,b],_=>exact⟨a,b,rfl,by unfold aY;rw[e];rfl,by unfold aY;rw[e];rfl⟩
theorem aAy{s:ByteArray}(h2:s.size=2){v:Int}(h:atoiAll s.data.toList=.ok v):dB s=if 21<=v/\v<=41 then v else 0:=by
 obtain⟨a,b,e,e0,e1⟩:=vF h2;rw[e]at h
 by_cases c:21<=v/\v<=41
 . obtain⟨g,hv⟩:=(N7 a b v).1 ⟨h,c.1,c.2⟩;rw[aFV c];unfold dB;rw[e0,e1,aFV (by omega)];omega
 rw[aB9 c];unfold dB;rw[e0,e1]
 split
 . rename_i g
   exfalso;have:=((N7 a b _).2 ⟨by omega,rfl⟩).1;rw[h]at this;injection this with this;omega
 rfl
theorem aGo{s:ByteArray}(h: ∀v,atoiAll s.data.toList≠ .ok v):dB s=0:=by
 unfold dB
 split
 . rename_i g
   exfalso;obtain⟨a,b,e,e0,e1⟩:=vF g.1;rw[e]at h;exact h _ ((N7 a b _).2 ⟨by omega,rfl⟩).1
 rfl
theorem E5{s:ByteArray}(h: ¬s.size=2):dB s=0:=by
 unfold dB;rw[aB9 (fun g=>h g.1)]
end Bk
end
section
namespace Bk
def dg(v:Int)(i:Nat):Int:=if i=0 then v / 1000 else if i=1 then v / 100 % 10 else if i=2 then v / 10 % 10 else v % 10
def cO(b:Nat->Int)(v:Int)(i:Nat):Prop:=b i=88\/b i=48+dg v i
def oO(b:Nat->Int)(v:Int):Prop:=0<=v/\v<=9999/\cO b v 0/\cO b v 1/\cO b v 2/\cO b v 3
def cZ(o:Nat->Int):Int:=1000 * (o 0 - 48)+100 * (o 1 - 48)+10 * (o 2 - 48)+(o 3 - 48)
def MOk(b:Nat->Int):Prop:= ∀i,i<4->b i=88\/(48<=b i/\b i<=57)
theorem mQ(v:Int)(h0:0<=v)(h1:v<=9999): ∃d0 d1 d2 d3:Int,0<=d0/\d0<=9/\0<=d1/\d1<=9/\0<=d2/\d2<=9/\0<=d3/\d3<=9/\v=1000 * d0+100 * d1+10 * d2+d3/\dg v 0=d0/\dg v 1=d1/\dg v 2=d2/\dg v 3=d3:=
 ⟨v / 1000,v / 100 % 10,v / 10 % 10,v % 10,by omega,by omega,by omega,by omega,by omega,by omega,by omega,by omega,by omega,rfl,rfl,rfl,rfl⟩
theorem aTD{v d0 d1 d2 d3:Int}(h:v=1000 * d0+100 * d1+10 * d2+d3)(a0:0<=d0)(a1:d0<=9)(b0:0<=d1)(b1:d1<=9)(c0:0<=d2)(c1:d2<=9)(e0:0<=d3)(e1:d3<=9):
 dg v 0=d0/\dg v 1=d1/\dg v 2=d2/\dg v 3=d3:=by
 refine⟨?_,?_,?_,?_⟩<;>simp only[dg]<;>simp<;>omega
theorem nD(b:Nat->Int)(v:Int):oO b v↔ ∃d0 d1 d2 d3:Int,0<=d0/\d0<=9/\0<=d1/\d1<=9/\0<=d2/\d2<=9/\0<=d3/\d3<=9/\v=1000 * d0+100 * d1+10 * d2+d3/\(b 0=88\/b 0=48+d0)/\(b 1=88\/b 1=48+d1)/\(b 2=88\/b 2=48+d2)/\(b 3=88\/b 3=48+d3):=by
 constructor
 . rintro⟨h0,h1,f0,f1,f2,f3⟩;obtain⟨d0,d1,d2,d3,a0,a1,a2,a3,a4,a5,a6,a7,e,e0,e1,e2,e3⟩:=mQ v h0 h1;unfold cO at f0 f1 f2 f3;rw[e0]at f0;rw[e1]at f1;rw[e2]at f2;rw[e3]at f3;exact⟨d0,d1,d2,d3,a0,a1,a2,a3,a4,a5,a6,a7,e,f0,f1,f2,f3⟩
 rintro⟨d0,d1,d2,d3,a0,a1,a2,a3,a4,a5,a6,a7,e,f0,f1,f2,f3⟩;obtain⟨e0,e1,e2,e3⟩:=aTD e a0 a1 a2 a3 a4 a5 a6 a7;refine⟨by omega,by omega,?_,?_,?_,?_⟩<;>unfold cO
 . rw[e0];exact f0
 . rw[e1];exact f1
 . rw[e2];exact f2
 rw[e3];exact f3
theorem LX{b:Nat->Int}{n:Int}(h0:0<=n)(h1:n<=9999)(h: ∀i,i<4->cO b n i):oO b n:=⟨h0,h1,h 0 (by omega),h 1 (by omega),h 2 (by omega),h 3 (by omega)⟩
theorem aLH{b o:Nat->Int}{n:Int}{k:Nat}(hb:MOk b)(h0:0<=n)(h1:n<=9999)(hk:k<4)(hf: ∀i,i<k->cO b n i)(hx:b k≠88)(hg:48+dg n k<b k)
 (ho: ∀i,i<k->o i=48+dg n i) (hr: ∀i,k<=i->i<4->o i=if b i=88 then 48 else b i):oO b (cZ o)/\n<=cZ o/\ ∀f,oO b f->n<=f->cZ o<=f:=by
 obtain⟨d0,d1,d2,d3,a0,a1,a2,a3,a4,a5,a6,a7,e,e0,e1,e2,e3⟩:=mQ n h0 h1;have m0:=hb 0 (by omega);have m1:=hb 1 (by omega);have m2:=hb 2 (by omega);have m3:=hb 3 (by omega);simp only[nD];obtain rfl|rfl|rfl|rfl:k=0\/k=1\/k=2\/k=3:=by omega
 . have r0:=hr 0 (by omega) (by omega);have r1:=hr 1 (by omega) (by omega);have r2:=hr 2 (by omega) (by omega);have r3:=hr 3 (by omega) (by omega);rw[e0]at hg;clear hf ho hr hb e0 e1 e2 e3;unfold cZ;refine⟨⟨o 0 - 48,o 1 - 48,o 2 - 48,o 3 - 48,?_⟩,?_,?_⟩
   . split at r0<;>split at r1<;>split at r2<;>split at r3<;>omega
   . split at r0<;>split at r1<;>split at r2<;>split at r3<;>omega
   rintro f ⟨f0,f1,f2,f3,g⟩ hn;split at r0<;>split at r1<;>split at r2<;>split at r3<;>omega
 . have p0:=hf 0 (by omega);unfold cO at p0;rw[e0]at p0;have q0:=ho 0 (by omega);rw[e0]at q0;have r1:=hr 1 (by omega) (by omega);have r2:=hr 2 (by omega) (by omega);have r3:=hr 3 (by omega) (by omega);rw[e1]at hg;clear hf ho hr hb e0 e1 e2 e3;unfold cZ;refine⟨⟨o 0 - 48,o 1 - 48,o 2 - 48,o 3 - 48,?_⟩,?_,?_⟩
   . split at r1<;>split at r2<;>split at r3<;>omega
   . split at r1<;>split at r2<;>split at r3<;>omega
   rintro f ⟨f0,f1,f2,f3,g⟩ hn;split at r1<;>split at r2<;>split at r3<;>omega
 . have p0:=hf 0 (by omega);unfold cO at p0;rw[e0]at p0;have q0:=ho 0 (by omega);rw[e0]at q0;have p1:=hf 1 (by omega);unfold cO at p1;rw[e1]at p1;have q1:=ho 1 (by omega);rw[e1]at q1;have r2:=hr 2 (by omega) (by omega);have r3:=hr 3 (by omega) (by omega);rw[e2]at hg;clear hf ho hr hb e0 e1 e2 e3;unfold cZ;refine⟨⟨o 0 - 48,o 1 - 48,o 2 - 48,o 3 - 48,?_⟩,?_,?_⟩
   . split at r2<;>split at r3<;>omega
   . split at r2<;>split at r3<;>omega
   rintro f ⟨f0,f1,f2,f3,g⟩ hn;split at r2<;>split at r3<;>omega
 have p0:=hf 0 (by omega);unfold cO at p0;rw[e0]at p0;have q0:=ho 0 (by omega);rw[e0]at q0;have p1:=hf 1 (by omega);unfold cO at p1;rw[e1]at p1;have q1:=ho 1 (by omega);rw[e1]at q1;have p2:=hf 2 (by omega);unfold cO at p2;rw[e2]at p2;have q2:=ho 2 (by omega);rw[e2]at q2;have r3:=hr 3 (by omega) (by omega);rw[e3]at hg;clear hf ho hr hb e0 e1 e2 e3;unfold cZ;refine⟨⟨o 0 - 48,o 1 - 48,o 2 - 48,o 3 - 48,?_⟩,?_,?_⟩
 . split at r3<;>omega
 . split at r3<;>omega
 rintro f ⟨f0,f1,f2,f3,g⟩ hn;split at r3<;>omega
theorem aLI{b o:Nat->Int}{n:Int}{k j:Nat}(hb:MOk b)(h0:0<=n)(h1:n<=9999)(hk:k<4)(hf: ∀i,i<k->cO b n i)(hx:b k≠88)(hg:b k<48+dg n k)
 (hj:j<k) (hbx:b j=88) (hd:dg n j≠9) (hn: ∀i,j<i->i<k-> ¬(b i=88/\dg n i≠9))
 (ho: ∀i,i<j->o i=48+dg n i) (hoj:o j=48+dg n j+1) (hr: ∀i,j<i->i<4->o i=if b i=88 then 48 else b i):oO b (cZ o)/\n<=cZ o/\ ∀f,oO b f->n<=f->cZ o<=f:=by
 obtain⟨d0,d1,d2,d3,a0,a1,a2,a3,a4,a5,a6,a7,e,e0,e1,e2,e3⟩:=mQ n h0 h1;have m0:=hb 0 (by omega);have m1:=hb 1 (by omega);have m2:=hb 2 (by omega);have m3:=hb 3 (by omega);simp only[nD];obtain⟨rfl,rfl⟩|⟨rfl,rfl⟩|⟨rfl,rfl⟩|⟨rfl,rfl⟩|⟨rfl,rfl⟩|⟨rfl,rfl⟩:(j=0/\k=1)\/(j=0/\k=2)\/(j=0/\k=3)\/(j=1/\k=2)\/(j=1/\k=3)\/(j=2/\k=3):=by omega
 . have p0:=hf 0 (by omega);unfold cO at p0;rw[e0]at p0;rw[e0]at hoj hd;have r1:=hr 1 (by omega) (by omega);have r2:=hr 2 (by omega) (by omega);have r3:=hr 3 (by omega) (by omega);rw[e1]at hg;clear hf ho hr hb hn e0 e1 e2 e3;unfold cZ;refine⟨⟨o 0 - 48,o 1 - 48,o 2 - 48,o 3 - 48,?_⟩,?_,?_⟩
   . split at r1<;>split at r2<;>split at r3<;>omega
   . split at r1<;>split at r2<;>split at r3<;>omega
   rintro f ⟨f0,f1,f2,f3,g⟩ hn;split at r1<;>split at r2<;>split at r3<;>omega
 . have p0:=hf 0 (by omega);unfold cO at p0;rw[e0]at p0;have p1:=hf 1 (by omega);unfold cO at p1;rw[e1]at p1;rw[e0]at hoj hd;have s1:=hn 1 (by omega) (by omega);rw[e1]at s1;have r1:=hr 1 (by omega) (by omega);have r2:=hr 2 (by omega) (by omega);have r3:=hr 3 (by omega) (by omega);rw[e2]at hg;clear hf ho hr hb hn e0 e1 e2 e3;unfold cZ;refine⟨⟨o 0 - 48,o 1 - 48,o 2 - 48,o 3 - 48,?_⟩,?_,?_⟩
   . split at r1<;>split at r2<;>split at r3<;>omega
   . split at r1<;>split at r2<;>split at r3<;>omega
   rintro f ⟨f0,f1,f2,f3,g⟩ hn;split at r1<;>split at r2<;>split at r3<;>omega
 . have p0:=hf 0 (by omega);unfold cO at p0;rw[e0]at p0;have p1:=hf 1 (by omega);unfold cO at p1;rw[e1]at p1;have p2:=hf 2 (by omega);unfold cO at p2;rw[e2]at p2;rw[e0]at hoj hd;have s1:=hn 1 (by omega) (by omega);rw[e1]at s1;have s2:=hn 2 (by omega) (by omega);rw[e2]at s2;have r1:=hr 1 (by omega) (by omega);have r2:=hr 2 (by omega) (by omega);have r3:=hr 3 (by omega) (by omega);rw[e3]at hg;clear hf ho hr hb hn e0 e1 e2 e3;unfold cZ;refine⟨⟨o 0 - 48,o 1 - 48,o 2 - 48,o 3 - 48,?_⟩,?_,?_⟩
   . split at r1<;>split at r2<;>split at r3<;>omega
   . split at r1<;>split at r2<;>split at r3<;>omega
   rintro f ⟨f0,f1,f2,f3,g⟩ hn;split at r1<;>split at r2<;>split at r3<;>omega
 . have p0:=hf 0 (by omega);unfold cO at p0;rw[e0]at p0;have p1:=hf 1 (by omega);unfold cO at p1;rw[e1]at p1;have q0:=ho 0 (by omega);rw[e0]at q0;rw[e1]at hoj hd;have r2:=hr 2 (by omega) (by omega);have r3:=hr 3 (by omega) (by omega);rw[e2]at hg;clear hf ho hr hb hn e0 e1 e2 e3;unfold cZ;refine⟨⟨o 0 - 48,o 1 - 48,o 2 - 48,o 3 - 48,?_⟩,?_,?_⟩
   . split at r2<;>split at r3<;>omega
   . split at r2<;>split at r3<;>omega
   rintro f ⟨f0,f1,f2,f3,g⟩ hn;split at r2<;>split at r3<;>omega
 . have p0:=hf 0 (by omega);unfold cO at p0;rw[e0]at p0;have p1:=hf 1 (by omega);unfold cO at p1;rw[e1]at p1;have p2:=hf 2 (by omega);unfold cO at p2;rw[e2]at p2;have q0:=ho 0 (by omega);rw[e0]at q0;rw[e1]at hoj hd;have s2:=hn 2 (by omega) (by omega);rw[e2]at s2;have r2:=hr 2 (by omega) (by omega);have r3:=hr 3 (by omega) (by omega);rw[e3]at hg;clear hf ho hr hb hn e0 e1 e2 e3;unfold cZ;refine⟨⟨o 0 - 48,o 1 - 48,o 2 - 48,o 3 - 48,?_⟩,?_,?_⟩
   . split at r2<;>split at r3<;>omega
   . split at r2<;>split at r3<;>omega
   rintro f ⟨f0,f1,f2,f3,g⟩ hn;split at r2<;>split at r3<;>omega
 have p0:=hf 0 (by omega);unfold cO at p0;rw[e0]at p0;have p1:=hf 1 (by omega);unfold cO at p1;rw[e1]at p1;have p2:=hf 2 (by omega);unfold cO at p2;rw[e2]at p2;have q0:=ho 0 (by omega);rw[e0]at q0;have q1:=ho 1 (by omega);rw[e1]at q1;rw[e2]at hoj hd;have r3:=hr 3 (by omega) (by omega);rw[e3]at hg;clear hf ho hr hb hn e0 e1 e2 e3;unfold cZ;refine⟨⟨o 0 - 48,o 1 - 48,o 2 - 48,o 3 - 48,?_⟩,?_,?_⟩
 . split at r3<;>omega
 . split at r3<;>omega
 rintro f ⟨f0,f1,f2,f3,g⟩ hn;split at r3<;>omega
theorem aLG{b:Nat->Int}{n:Int}{k:Nat}(h0:0<=n)(h1:n<=9999)(hk:k<4)(hf: ∀i,i<k->cO b n i)(hx:b k≠88)(hg:b k<48+dg n k)
 (hn: ∀i,i<k-> ¬(b i=88/\dg n i≠9)): ∀f,oO b f->f<n:=by
 obtain⟨d0,d1,d2,d3,a0,a1,a2,a3,a4,a5,a6,a7,e,e0,e1,e2,e3⟩:=mQ n h0 h1;simp only[nD];obtain rfl|rfl|rfl|rfl:k=0\/k=1\/k=2\/k=3:=by omega
 . rw[e0]at hg;clear hf hn e0 e1 e2 e3;rintro f ⟨f0,f1,f2,f3,g⟩;omega
 . have p0:=hf 0 (by omega);unfold cO at p0;rw[e0]at p0;have s0:=hn 0 (by omega);rw[e0]at s0;rw[e1]at hg;clear hf hn e0 e1 e2 e3;rintro f ⟨f0,f1,f2,f3,g⟩;omega
 . have p0:=hf 0 (by omega);unfold cO at p0;rw[e0]at p0;have s0:=hn 0 (by omega);rw[e0]at s0;have p1:=hf 1 (by omega);unfold cO at p1;rw[e1]at p1;have s1:=hn 1 (by omega);rw[e1]at s1;rw[e2]at hg;clear hf hn e0 e1 e2 e3;rintro f ⟨f0,f1,f2,f3,g⟩;omega
 have p0:=hf 0 (by omega);unfold cO at p0;rw[e0]at p0;have s0:=hn 0 (by omega);rw[e0]at s0;have p1:=hf 1 (by omega);unfold cO at p1;rw[e1]at p1;have s1:=hn 1 (by omega);rw[e1]at s1;have p2:=hf 2 (by omega);unfold cO at p2;rw[e2]at p2;have s2:=hn 2 (by omega);rw[e2]at s2;rw[e3]at hg;clear hf hn e0 e1 e2 e3;rintro f ⟨f0,f1,f2,f3,g⟩;omega
theorem aM9{b o:Nat->Int}{n:Int}{k:Nat}(hb:MOk b)(h0:0<=n)(h1:n<=9999)(hk:k<4)(hf: ∀i,i<k->cO b n i)(hx:b k≠88)(hg:b k<48+dg n k)
 (ho: ∀i,i<k->o i=48+dg n i) (hr: ∀i,k<=i->i<4->o i=if b i=88 then 57 else b i):oO b (cZ o)/\cZ o<=n/\ ∀f,oO b f->f<=n->f<=cZ o:=by
 obtain⟨d0,d1,d2,d3,a0,a1,a2,a3,a4,a5,a6,a7,e,e0,e1,e2,e3⟩:=mQ n h0 h1;have m0:=hb 0 (by omega);have m1:=hb 1 (by omega);have m2:=hb 2 (by omega);have m3:=hb 3 (by omega);simp only[nD];obtain rfl|rfl|rfl|rfl:k=0\/k=1\/k=2\/k=3:=by omega
 . have r0:=hr 0 (by omega) (by omega);have r1:=hr 1 (by omega) (by omega);have r2:=hr 2 (by omega) (by omega);have r3:=hr 3 (by omega) (by omega);rw[e0]at hg;clear hf ho hr hb e0 e1 e2 e3;unfold cZ;refine⟨⟨o 0 - 48,o 1 - 48,o 2 - 48,o 3 - 48,?_⟩,?_,?_⟩
   . split at r0<;>split at r1<;>split at r2<;>split at r3<;>omega
   . split at r0<;>split at r1<;>split at r2<;>split at r3<;>omega
   rintro f ⟨f0,f1,f2,f3,g⟩ hn;split at r0<;>split at r1<;>split at r2<;>split at r3<;>omega
 . have p0:=hf 0 (by omega);unfold cO at p0;rw[e0]at p0;have q0:=ho 0 (by omega);rw[e0]at q0;have r1:=hr 1 (by omega) (by omega);have r2:=hr 2 (by omega) (by omega);have r3:=hr 3 (by omega) (by omega);rw[e1]at hg;clear hf ho hr hb e0 e1 e2 e3;unfold cZ;refine⟨⟨o 0 - 48,o 1 - 48,o 2 - 48,o 3 - 48,?_⟩,?_,?_⟩
   . split at r1<;>split at r2<;>split at r3<;>omega
   . split at r1<;>split at r2<;>split at r3<;>omega
   rintro f ⟨f0,f1,f2,f3,g⟩ hn;split at r1<;>split at r2<;>split at r3<;>omega
 . have p0:=hf 0 (by omega);unfold cO at p0;rw[e0]at p0;have q0:=ho 0 (by omega);rw[e0]at q0;have p1:=hf 1 (by omega);unfold cO at p1;rw[e1]at p1;have q1:=ho 1 (by omega);rw[e1]at q1;have r2:=hr 2 (by omega) (by omega);have r3:=hr 3 (by omega) (by omega);rw[e2]at hg;clear hf ho hr hb e0 e1 e2 e3;unfold cZ;refine⟨⟨o 0 - 48,o 1 - 48,o 2 - 48,o 3 - 48,?_⟩,?_,?_⟩
   . split at r2<;>split at r3<;>omega
   . split at r2<;>split at r3<;>omega
   rintro f ⟨f0,f1,f2,f3,g⟩ hn;split at r2<;>split at r3<;>omega
 have p0:=hf 0 (by omega);unfold cO at p0;rw[e0]at p0;have q0:=ho 0 (by omega);rw[e0]at q0;have p1:=hf 1 (by omega);unfold cO at p1;rw[e1]at p1;have q1:=ho 1 (by omega);rw[e1]at q1;have p2:=hf 2 (by omega);unfold cO at p2;rw[e2]at p2;have q2:=ho 2 (by omega);rw[e2]at q2;have r3:=hr 3 (by omega) (by omega);rw[e3]at hg;clear hf ho hr hb e0 e1 e2 e3;unfold cZ;refine⟨⟨o 0 - 48,o 1 - 48,o 2 - 48,o 3 - 48,?_⟩,?_,?_⟩
 . split at r3<;>omega
 . split at r3<;>omega
 rintro f ⟨f0,f1,f2,f3,g⟩ hn;split at r3<;>omega
theorem aNa{b o:Nat->Int}{n:Int}{k j:Nat}(hb:MOk b)(h0:0<=n)(h1:n<=9999)(hk:k<4)(hf: ∀i,i<k->cO b n i)(hx:b k≠88)(hg:48+dg n k<b k)
 (hj:j<k) (hbx:b j=88) (hd:dg n j≠0) (hn: ∀i,j<i->i<k-> ¬(b i=88/\dg n i≠0))
 (ho: ∀i,i<j->o i=48+dg n i) (hoj:o j=48+dg n j - 1) (hr: ∀i,j<i->i<4->o i=if b i=88 then 57 else b i):oO b (cZ o)/\cZ o<=n/\ ∀f,oO b f->f<=n->f<=cZ o:=by
 obtain⟨d0,d1,d2,d3,a0,a1,a2,a3,a4,a5,a6,a7,e,e0,e1,e2,e3⟩:=mQ n h0 h1;have m0:=hb 0 (by omega);have m1:=hb 1 (by omega);have m2:=hb 2 (by omega);have m3:=hb 3 (by omega);simp only[nD];obtain⟨rfl,rfl⟩|⟨rfl,rfl⟩|⟨rfl,rfl⟩|⟨rfl,rfl⟩|⟨rfl,rfl⟩|⟨rfl,rfl⟩:(j=0/\k=1)\/(j=0/\k=2)\/(j=0/\k=3)\/(j=1/\k=2)\/(j=1/\k=3)\/(j=2/\k=3):=by omega
 . have p0:=hf 0 (by omega);unfold cO at p0;rw[e0]at p0;rw[e0]at hoj hd;have r1:=hr 1 (by omega) (by omega);have r2:=hr 2 (by omega) (by omega);have r3:=hr 3 (by omega) (by omega);rw[e1]at hg;clear hf ho hr hb hn e0 e1 e2 e3;unfold cZ;refine⟨⟨o 0 - 48,o 1 - 48,o 2 - 48,o 3 - 48,?_⟩,?_,?_⟩
   . split at r1<;>split at r2<;>split at r3<;>omega
   . split at r1<;>split at r2<;>split at r3<;>omega
   rintro f ⟨f0,f1,f2,f3,g⟩ hn;split at r1<;>split at r2<;>split at r3<;>omega
 . have p0:=hf 0 (by omega);unfold cO at p0;rw[e0]at p0;have p1:=hf 1 (by omega);unfold cO at p1;rw[e1]at p1;rw[e0]at hoj hd;have s1:=hn 1 (by omega) (by omega);rw[e1]at s1;have r1:=hr 1 (by omega) (by omega);have r2:=hr 2 (by omega) (by omega);have r3:=hr 3 (by omega) (by omega);rw[e2]at hg;clear hf ho hr hb hn e0 e1 e2 e3;unfold cZ;refine⟨⟨o 0 - 48,o 1 - 48,o 2 - 48,o 3 - 48,?_⟩,?_,?_⟩
   . split at r1<;>split at r2<;>split at r3<;>omega
   . split at r1<;>split at r2<;>split at r3<;>omega
   rintro f ⟨f0,f1,f2,f3,g⟩ hn;split at r1<;>split at r2<;>split at r3<;>omega
 . have p0:=hf 0 (by omega);unfold cO at p0;rw[e0]at p0;have p1:=hf 1 (by omega);unfold cO at p1;rw[e1]at p1;have p2:=hf 2 (by omega);unfold cO at p2;rw[e2]at p2;rw[e0]at hoj hd;have s1:=hn 1 (by omega) (by omega);rw[e1]at s1;have s2:=hn 2 (by omega) (by omega);rw[e2]at s2;have r1:=hr 1 (by omega) (by omega);have r2:=hr 2 (by omega) (by omega);have r3:=hr 3 (by omega) (by omega);rw[e3]at hg;clear hf ho hr hb hn e0 e1 e2 e3;unfold cZ;refine⟨⟨o 0 - 48,o 1 - 48,o 2 - 48,o 3 - 48,?_⟩,?_,?_⟩
   . split at r1<;>split at r2<;>split at r3<;>omega
   . split at r1<;>split at r2<;>split at r3<;>omega
   rintro f ⟨f0,f1,f2,f3,g⟩ hn;split at r1<;>split at r2<;>split at r3<;>omega
 . have p0:=hf 0 (by omega);unfold cO at p0;rw[e0]at p0;have p1:=hf 1 (by omega);unfold cO at p1;rw[e1]at p1;have q0:=ho 0 (by omega);rw[e0]at q0;rw[e1]at hoj hd;have r2:=hr 2 (by omega) (by omega);have r3:=hr 3 (by omega) (by omega);rw[e2]at hg;clear hf ho hr hb hn e0 e1 e2 e3;unfold cZ;refine⟨⟨o 0 - 48,o 1 - 48,o 2 - 48,o 3 - 48,?_⟩,?_,?_⟩
   . split at r2<;>split at r3<;>omega
   . split at r2<;>split at r3<;>omega
   rintro f ⟨f0,f1,f2,f3,g⟩ hn;split at r2<;>split at r3<;>omega
 . have p0:=hf 0 (by omega);unfold cO at p0;rw[e0]at p0;have p1:=hf 1 (by omega);unfold cO at p1;rw[e1]at p1;have p2:=hf 2 (by omega);unfold cO at p2;rw[e2]at p2;have q0:=ho 0 (by omega);rw[e0]at q0;rw[e1]at hoj hd;have s2:=hn 2 (by omega) (by omega);rw[e2]at s2;have r2:=hr 2 (by omega) (by omega);have r3:=hr 3 (by omega) (by omega);rw[e3]at hg;clear hf ho hr hb hn e0 e1 e2 e3;unfold cZ;refine⟨⟨o 0 - 48,o 1 - 48,o 2 - 48,o 3 - 48,?_⟩,?_,?_⟩
   . split at r2<;>split at r3<;>omega
   . split at r2<;>split at r3<;>omega
   rintro f ⟨f0,f1,f2,f3,g⟩ hn;split at r2<;>split at r3<;>omega
 have p0:=hf 0 (by omega);unfold cO at p0;rw[e0]at p0;have p1:=hf 1 (by omega);unfold cO at p1;rw[e1]at p1;have p2:=hf 2 (by omega);unfold cO at p2;rw[e2]at p2;have q0:=ho 0 (by omega);rw[e0]at q0;have q1:=ho 1 (by omega);rw[e1]at q1;rw[e2]at hoj hd;have r3:=hr 3 (by omega) (by omega);rw[e3]at hg;clear hf ho hr hb hn e0 e1 e2 e3;unfold cZ;refine⟨⟨o 0 - 48,o 1 - 48,o 2 - 48,o 3 - 48,?_⟩,?_,?_⟩
 . split at r3<;>omega
 . split at r3<;>omega
 rintro f ⟨f0,f1,f2,f3,g⟩ hn;split at r3<;>omega
theorem aM8{b:Nat->Int}{n:Int}{k:Nat}(h0:0<=n)(h1:n<=9999)(hk:k<4)(hf: ∀i,i<k->cO b n i)(hx:b k≠88)(hg:48+dg n k<b k)
 (hn: ∀i,i<k-> ¬(b i=88/\dg n i≠0)): ∀f,oO b f->n<f:=by
 obtain⟨d0,d1,d2,d3,a0,a1,a2,a3,a4,a5,a6,a7,e,e0,e1,e2,e3⟩:=mQ n h0 h1;simp only[nD];obtain rfl|rfl|rfl|rfl:k=0\/k=1\/k=2\/k=3:=by omega
 . rw[e0]at hg;clear hf hn e0 e1 e2 e3;rintro f ⟨f0,f1,f2,f3,g⟩;omega
 . have p0:=hf 0 (by omega);unfold cO at p0;rw[e0]at p0;have s0:=hn 0 (by omega);rw[e0]at s0;rw[e1]at hg;clear hf hn e0 e1 e2 e3;rintro f ⟨f0,f1,f2,f3,g⟩;omega
 . have p0:=hf 0 (by omega);unfold cO at p0;rw[e0]at p0;have s0:=hn 0 (by omega);rw[e0]at s0;have p1:=hf 1 (by omega);unfold cO at p1;rw[e1]at p1;have s1:=hn 1 (by omega);rw[e1]at s1;rw[e2]at hg;clear hf hn e0 e1 e2 e3;rintro f ⟨f0,f1,f2,f3,g⟩;omega
 have p0:=hf 0 (by omega);unfold cO at p0;rw[e0]at p0;have s0:=hn 0 (by omega);rw[e0]at s0;have p1:=hf 1 (by omega);unfold cO at p1;rw[e1]at p1;have s1:=hn 1 (by omega);rw[e1]at s1;have p2:=hf 2 (by omega);unfold cO at p2;rw[e2]at p2;have s2:=hn 2 (by omega);rw[e2]at s2;rw[e3]at hg;clear hf hn e0 e1 e2 e3;rintro f ⟨f0,f1,f2,f3,g⟩;omega
end Bk
end
section
namespace Bk
def p10(k:Nat):Int:=10 ^ k
theorem aLY(k:Nat)(h:k<=18):(1:Int)<=10 ^ k/\(10:Int) ^ k<=1000000000000000000:=by
 have h1:(10:Nat) ^ k<=10 ^ 18:=aRK (by omega) h;have h2:0<(10:Nat) ^ k:=aVG (by simp);have h3:(10:Nat) ^ 18=1000000000000000000:=by decide
 have e:((10:Int) ^ k)=((10 ^ k:Nat):Int):=by simp
 rw[e];omega
theorem YJ(k:Nat):p10 (k+1)=p10 k * 10:=by unfold p10;rw[Int.pow_succ]
theorem aHW(k:Nat)(h:k<=18):1<=p10 k/\p10 k<=1000000000000000000:=aLY k h
theorem UN(k:Nat):1<=p10 k:=by
 unfold p10;have e:((10:Int) ^ k)=((10 ^ k:Nat):Int):=by simp
 have h2:0<(10:Nat) ^ k:=aVG (by simp);rw[e];omega
def iT(s:ByteArray):Int:=(dec s.data.toList 0:Nat)
theorem wW(s:ByteArray):0<=iT s:=by unfold iT;omega
def fK(s:ByteArray)(ex:Int):Int:=iT s * p10 ex.toNat
def ZO(x:Int):Bool:=decide (x=48)
def fM(s:ByteArray)(ex:Int):Bool:=
 decide (1<=s.size)&&(decide (s.size<=17)&&(allB bG s&&(!decide (aY s 0=48)&&(decide (0<=ex)&&(decide (ex<=16)&&(!(decide (ex=0)&&decide (s.size<5))&&decide (fK s ex<=10000000000000000)))))))
def gX(neg:Bool)(s:ByteArray)(ex sig:Int):Bool:=
 decide (s.size=4)&&(allB bU s&&(decide (ex=0)&&(!(neg&&allB ZO s)&& !(!decide (sig=0)&&hasB 88 s))))
def GN(neg long:Bool)(s:ByteArray)(ex sig:Int):Bool:=(if long then fM s ex else gX neg s ex sig)&&(decide (0<=sig)&&decide (sig<=s.size+ex))
theorem jG{neg:Bool}{s:ByteArray}{ex sig:Int}(h:GN neg true s ex sig=true):1<=s.size/\s.size<=17/\allB bG s=true/\aY s 0≠48/\0<=ex/\ex<=16/\fK s ex<=10000000000000000/\0<=sig/\sig<=s.size+ex:=by
 unfold GN fM at h;simp at h;obtain⟨⟨h1,h2,h3,h4,h5,h6,h7,h8⟩,h9,h10⟩:=h;exact⟨h1,h2,h3,h4,h5,h6,h8,h9,h10⟩
theorem iC{neg:Bool}{s:ByteArray}{ex sig:Int}(h:GN neg false s ex sig=true):s.size=4/\allB bU s=true/\ex=0/\(neg=true->allB ZO s=false)/\(sig≠0->hasB 88 s=false)/\0<=sig/\sig<=4:=by
 unfold GN gX at h;simp at h;obtain⟨⟨h1,h2,h3,h4,h5⟩,h9,h10⟩:=h;exact⟨h1,h2,h3,fun hn=>by cases h4 with
  |inl h=>rw[hn]at h;cases h
  |inr h=>exact h,fun hs=>by cases h5 with
  |inl h=>exact absurd h hs
  |inr h=>exact h,h9,by omega⟩
def jD(s:ByteArray)(n:Int):Bool:=decide (s.size=2)&&((decide (aY s 0=88)||decide (aY s 0=48+n / 10))&&(decide (aY s 1=88)||decide (aY s 1=48+n % 10)))
def dP(s:ByteArray)(g:Nat):Bool:=(List.range g).any fun i=>jD s ((i:Int)+1)
theorem tH(s:ByteArray)(g:Nat):dP s (g+1)=(dP s g||jD s ((g:Int)+1)):=by
 unfold dP;rw[List.range_succ,List.any_append];simp
theorem J7{s:ByteArray}{g h:Nat}(hle:g<=h)(hs:dP s g=true):dP s h=true:=by
 unfold dP at hs ⊢;rw[aU2]at hs ⊢;obtain⟨i,hi,ha⟩:=hs;exact⟨i,by rw[aRH]at hi ⊢;omega,ha⟩
theorem DU(s:ByteArray)(g:Nat):dP s g=true↔ ∃n:Int,1<=n/\n<=g/\jD s n=true:=by
 unfold dP;rw[aU2];constructor
 . rintro⟨i,hi,ha⟩;rw[aRH]at hi;exact⟨(i:Int)+1,by omega,by omega,ha⟩
 rintro⟨n,h1,h2,ha⟩;refine⟨(n - 1).toNat,by rw[aRH];omega,?_⟩;rw[show (((n - 1).toNat:Nat):Int)+1=n by omega];exact ha
def comps(mo da:ByteArray):Int:=1+(if mo.size=0 then 0 else 1)+(if da.size=0 then 0 else 1)
def jZ(a b c n:Int):Int:=if a<=3/\b<=3/\c<=3/\(n<3->c=0)/\(n<2->b=0)then 0 else 9
structure Dt where
 neg:Bool
 long:Bool
 dg:ByteArray
 ex:Int
 sig:Int
 mo:ByteArray
 da:ByteArray
 m0:Int
 m1:Int
 m2:Int
def Dt.JG(d:Dt):Bool:=GN d.neg d.long d.dg d.ex d.sig
def Dt.mag(d:Dt):Int:=fK d.dg d.ex
def Dt.mask(d:Dt):Bool:=hasB 88 d.dg
def Dt.aH(d:Dt):Int:=dB d.mo
def Dt.far(d:Dt):Bool:=(decide (d.aH=24)||(decide (d.aH=28)||decide (d.aH=30)))&&(!d.mask&&(decide (d.mag=10000000000000000)&& !d.neg))
def Dt.lI(d:Dt):Bool:=d.JG&&(!(decide (0<d.sig)&& !decide (d.mo.size=0))&& !d.far)
def Dt.form(d:Dt):Int:=
 if d.lI=false then 6
 else if(!decide (d.mo.size=0)&&(decide (d.aH=0)&& !dP d.mo 12))=true then 7
 else if(!decide (d.da.size=0)&&(decide (d.mo.size=0)||(!decide (d.aH=0)|| !dP d.da 31)))=true then 8
 else jZ d.m0 d.m1 d.m2 (comps d.mo d.da)
def Dt.In(d:Dt)(y:Int):Prop:=if d.mask=true then(if d.neg=true then oO (aY d.dg) (-y)/\y≠0 else oO (aY d.dg) y)else y=(if d.neg=true then -d.mag else d.mag)
def cvv(y m k:Int):Value:=.agg #[.int .i64 y,.int .i64 m,.int .i64 k]
def aW(d:Dt):Value:=.agg #[.bool d.neg,.bool d.long,.string d.dg,.int .i64 d.ex,.int .i64 d.sig,.string d.mo,.string d.da,.int .u8 d.m0,.int .u8 d.m1,.int .u8 d.m2]
end Bk
end
section
namespace Bk
def qG(a b:Int)(l:List UInt8):Int:=(l.filter fun c=>decide (a<=(c.toNat:Int))&&decide ((c.toNat:Int)<=b)).length
theorem JB(a b:Int)(l:List UInt8):0<=qG a b l/\qG a b l<=l.length:=by
 unfold qG;exact⟨by omega,by have:=List.length_filter_le (fun c:UInt8=>decide (a<=(c.toNat:Int))&&decide ((c.toNat:Int)<=b)) l;omega⟩
theorem take_snoc(s:ByteArray)(k:Nat)(h:k<s.size):s.data.toList.take (k+1)=s.data.toList.take k++[s[k]]:=by
 rw[aVT (by simpa using h)];rfl
theorem aGi(a b:Int)(l:List UInt8)(c:UInt8):qG a b (l++[c])=qG a b l+if a<=(c.toNat:Int)/\(c.toNat:Int)<=b then 1 else 0:=by
 unfold qG;rw[List.filter_append]
 by_cases h:a<=(c.toNat:Int)<;>by_cases h2:(c.toNat:Int)<=b<;>simp[List.filter_cons,h,h2]
theorem yG(a b:Int)(l:List UInt8)(c:UInt8):qG a b (c::l)=qG a b l+if a<=(c.toNat:Int)/\(c.toNat:Int)<=b then 1 else 0:=by
 unfold qG
 by_cases h:a<=(c.toNat:Int)<;>by_cases h2:(c.toNat:Int)<=b<;>simp[List.filter_cons,h,h2]
def mV(a b:Int)(s:ByteArray):Int:=qG a b s.data.toList
theorem CV(a b:Int)(s:ByteArray):0<=mV a b s/\mV a b s<=s.size:=by
 have:=JB a b s.data.toList;unfold mV;simpa using this
theorem aAm: ∀l:List UInt8,(qG 48 57 l+qG 88 88 l=l.length↔(l.all fun b=>bU (b.toNat:Int))=true)/\qG 48 57 l+qG 88 88 l<=l.length
 |[]=>by simp[qG]
 |c::l=>by
  obtain⟨ih,ih2⟩:=aAm l;rw[yG,yG,aOx,aFU,<-ih,aRU];unfold bU
  by_cases h:(48:Int)<=(c.toNat:Int)/\(c.toNat:Int)<=57
  . rw[aFV h,aB9 (by omega)];simp[h];omega
  rw[aB9 h]
  by_cases h2:(c.toNat:Int)=88
  . rw[aFV (by omega)];simp[h2];omega
  rw[aB9 (by omega)];simp[h,h2];omega
theorem aAe(s:ByteArray):(mV 48 57 s+mV 88 88 s=s.size)↔allB bU s=true:=by
 have:=(aAm s.data.toList).1;unfold mV allB;simpa using this
theorem aOD: ∀l:List UInt8,(0<qG 88 88 l)↔(l.any fun b=>decide ((b.toNat:Int)=88))=true
 |[]=>by simp[qG]
 |c::l=>by
  have ih:=aOD l;have:=(JB 88 88 l).1;rw[yG,aVK,aJj,<-ih,aNo]
  by_cases h:(c.toNat:Int)=88
  . rw[aFV (by omega)];omega
  rw[aB9 (by omega)];omega
theorem aHi(s:ByteArray):(0<mV 88 88 s)↔hasB 88 s=true:=aOD _
theorem aDN(a:Int): ∀l:List UInt8,(qG a a l=l.length)↔(l.all fun b=>decide ((b.toNat:Int)=a))=true
 |[]=>by simp[qG]
 |c::l=>by
  have ih:=aDN a l;have:=(JB a a l).2;rw[yG,aOx,aFU,<-ih,aNo,aRU]
  by_cases h:(c.toNat:Int)=a
  . rw[aFV (by omega)];omega
  rw[aB9 (by omega)];omega
theorem aRZ(s:ByteArray)(h:s.size=4):(mV 48 48 s=4)↔allB ZO s=true:=by
 have:=aDN 48 s.data.toList;unfold mV allB ZO;have e:(s.data.toList.length:Int)=4:=by simp;omega
 rw[e]at this;exact this
theorem aDO: ∀l:List UInt8,(l.all fun b=>bU (b.toNat:Int))=true->((l.any fun b=>decide ((b.toNat:Int)=88))=false↔(l.all fun b=>bG (b.toNat:Int))=true)
 |[],_=>by simp
 |c::l,h=>by
  rw[aOx,aFU]at h;have ih:=aDO l h.2;rw[aVK,aOx,aPy,aFU,ih];have h1:=h.1;unfold bU at h1;unfold bG
  by_cases h2:(c.toNat:Int)=88
  . simp[h2]
  simp[h2]at h1;simp[h2,h1]
theorem jV{s:ByteArray}(h:allB bU s=true):hasB 88 s=false↔allB bG s=true:=aDO _ h
theorem pY{s:ByteArray}(h:allB bG s=true):allB bU s=true:=by
 rw[kH]at h ⊢;intro i hi;have:=h i hi;unfold bG at this;unfold bU;rw[this];rfl
end Bk
end
section
namespace Bk
def qF(s:ByteArray)(k:Nat):Int:=if k<=s.size then(dec (s.data.toList.take k) 0:Nat)else iT s * p10 (k - s.size)
theorem EC(s:ByteArray):qF s 0=0:=by unfold qF;rw[aFV (aKS _)];rfl
theorem wE(s:ByteArray)(e:Nat):qF s (s.size+e)=fK s e:=by
 unfold qF fK
 by_cases h:s.size+e<=s.size
 . obtain rfl:e=0:=by omega
   rw[aFV h,aRy (by simp)];unfold iT p10;simp
 rw[aB9 h,show s.size+e - s.size=e by omega,aPS]
theorem V6{s:ByteArray}(h:allB bG s=true)(k:Nat)(hk:k<s.size):48<=((s[k]'hk).toNat:Int)/\((s[k]'hk).toNat:Int)<=57:=by
 have:=(kH _ _).1 h k hk;rw[bQ s k hk]at this;exact aK1 this
theorem L8{s:ByteArray}(h:allB bG s=true)(k:Nat)(hk:k<s.size):qF s (k+1)=10 * qF s k+(((s[k]'hk).toNat:Int) - 48):=by
 unfold qF;rw[aFV (by omega),aFV (by omega),take_snoc s k hk,aAi];have:=V6 h k hk;omega
theorem ZK(s:ByteArray)(k:Nat)(hk:s.size<=k):qF s (k+1)=10 * qF s k:=by
 unfold qF;rw[aB9 (by omega)]
 by_cases c:k<=s.size
 . obtain rfl:k=s.size:=by omega
   rw[aFV c,show s.size+1 - s.size=1 by omega,aRy (by simp)];unfold iT p10;omega
 rw[aB9 c,show k+1 - s.size=(k - s.size)+1 by omega,YJ];rw[<-Int.mul_assoc,Int.mul_comm]
theorem L6(s:ByteArray)(k:Nat):0<=qF s k:=by
 unfold qF
 split
 . omega
 exact aWI (wW s) (by have:=UN (k - s.size);omega)
theorem aFM{s:ByteArray}(h:allB bG s=true)(k:Nat):qF s k<=qF s (k+1):=by
 have:=L6 s k
 by_cases c:k<s.size
 . rw[L8 h k c];have:=V6 h k c;omega
 rw[ZK s k (by omega)];omega
theorem xQ{s:ByteArray}(h:allB bG s=true)(k:Nat): ∀j,qF s k<=qF s (k+j)
 |0=>aRT _
 |j+1=>Int.le_trans (xQ h k j) (aFM h (k+j))
theorem nS(s:ByteArray)(e:Int):0<=fK s e:=aWI (wW s) (by have:=UN e.toNat;omega)
theorem yI{s:ByteArray}(h:allB bG s=true):s.data.toList.all aJR=true:=by
 unfold allB at h;rw[aJL]at h ⊢;intro c hc;have:=h c hc;unfold bG at this;have:=aK1 this;unfold aJR;rw[aNo];omega
theorem aDL{s:ByteArray}(h:allB bG s=true)(hs:s.size<=17):iT s<100000000000000000:=by
 have:=dec_lt s.data.toList 0 0 (yI h) (by decide);rw[aJU]at this;have hp:(10:Nat) ^ s.data.toList.length<=10 ^ 17:=aRK (by omega) (by simpa using hs);have hp2:(10:Nat) ^ 17=100000000000000000:=by decide
 unfold iT;omega
theorem nV{s:ByteArray}(h:allB bG s=true)(hs:s.size=4):iT s<10000:=by
 have:=dec_lt s.data.toList 0 0 (yI h) (by decide);rw[aJU,show s.data.toList.length=4 by simpa using hs]at this;unfold iT;omega
end Bk
end
section
namespace Bk
def dV(s:ByteArray):Nat->List Int
 |0=>[]
 |g+1=>dV s g++(if jD s ((g:Int)+1)then[(g:Int)+1]else[])
theorem pV(s:ByteArray)(g:Nat):dV s (g+1)=dV s g++(if jD s ((g:Int)+1)then[(g:Int)+1]else[]):=rfl
theorem EL{s:ByteArray}{g:Nat}(h:jD s ((g:Int)+1)=true):dV s (g+1)=dV s g++[(g:Int)+1]:=by rw[pV,aFV h]
theorem MZ{s:ByteArray}{g:Nat}(h:jD s ((g:Int)+1)=false):dV s (g+1)=dV s g:=by rw[pV,aB9 (by rw[h];decide),aSJ]
theorem oW(s:ByteArray): ∀g,(dV s g).length<=g
 |0=>aCU _
 |g+1=>by
  have:=oW s g;rw[pV,aUi]
  split<;>simp<;>omega
theorem eY(s:ByteArray)(n:Int): ∀g:Nat,n ∈ dV s g↔(1<=n/\n<=g/\jD s n=true)
 |0=>by simp[dV];omega
 |g+1=>by
  have ih:=eY s n g;rw[pV,aLf,ih]
  by_cases h:jD s ((g:Int)+1)=true
  . rw[aFV h,aLi];constructor
    . rintro(⟨h1,h2,h3⟩|rfl)
      . exact⟨h1,by omega,h3⟩
      exact⟨by omega,by omega,h⟩
    rintro⟨h1,h2,h3⟩
    by_cases e:n=(g:Int)+1
    . exact .inr e
    exact .inl ⟨h1,by omega,h3⟩
  rw[aB9 h];constructor
  . rintro(⟨h1,h2,h3⟩|h)
    . exact⟨h1,by omega,h3⟩
    cases h
  rintro⟨h1,h2,h3⟩;refine .inl ⟨h1,?_,h3⟩
  by_cases e:n=(g:Int)+1
  . subst e;exact absurd h3 h
  omega
theorem oM(s:ByteArray): ∀g,(dV s g).Pairwise (· < ·)
 |0=>List.Pairwise.nil
 |g+1=>by
  rw[pV,List.pairwise_append];refine⟨oM s g,?_,?_⟩
  . split<;>simp
  intro a ha b hb;have:=(eY s a g).1 ha
  split at hb
  . rw[aLi]at hb;omega
  cases hb
theorem MX(s:ByteArray)(g:Nat):dP s g=true↔dV s g≠[]:=by
 rw[DU];constructor
 . rintro⟨n,h1,h2,h3⟩ e;have:=(eY s n g).2 ⟨h1,h2,h3⟩;rw[e]at this;cases this
 intro h
 cases e:dV s g with
 |nil=>exact absurd e h
 |cons a l=>
  have:=(eY s a g).1 (by rw[e];exact aG1 ..);exact⟨a,this⟩
def Dt.ms(d:Dt):List Int:=if d.aH≠0 then[d.aH]else if d.mo.size=0 then[0]else dV d.mo 12
def Dt.ds(d:Dt):List Int:=if d.da.size=0 then[0]else dV d.da 31
def Dt.len(d:Dt)(y m:Int):Int:=if d.da.size=0 then 0 else Cal.len y m
theorem Dt.RH(d:Dt):d.ms.Pairwise (· < ·):=by
 unfold Dt.ms;split
 . simp
 split
 . simp
 exact oM _ _
theorem Dt.SG(d:Dt):d.ds.Pairwise (· < ·):=by
 unfold Dt.ds;split
 . simp
 exact oM _ _
theorem Dt.UY(d:Dt):d.ms.length<=12:=by
 unfold Dt.ms;split
 . simp
 split
 . simp
 exact oW _ _
theorem Dt.aCn(d:Dt):d.ds.length<=31:=by
 unfold Dt.ds;split
 . simp
 exact oW _ _
def Dt.Fill(d:Dt)(y m k:Int):Prop:=d.In y/\m ∈ d.ms/\k ∈ d.ds/\k<=d.len y m
def Dt.ge(d:Dt)(y m k cy cm ck:Int):Prop:=cy<y\/(y=cy/\(d.mo.size=0\/cm<m\/(m=cm/\(d.da.size=0\/ck<=k))))
def xR(y m k z n j:Int):Prop:=y<z\/(y=z/\(m<n\/(m=n/\k<j)))
def Dt.jF(d:Dt)(cy cm ck:Int)(y m k:Int)(found:Bool):Prop:=
 (found=true/\d.Fill y m k/\d.ge y m k cy cm ck/\ ∀z n j,d.Fill z n j->d.ge z n j cy cm ck-> ¬xR z n j y m k)\/
 (found=false/\y=0/\m=0/\k=0/\ ∀z n j,d.Fill z n j-> ¬d.ge z n j cy cm ck)
def Dt.Year(d:Dt)(n v:Int)(ok:Bool):Prop:=
 (ok=true/\d.In v/\n<=v/\ ∀u,d.In u->n<=u->v<=u)\/(ok=false/\ ∀u,d.In u-> ¬n<=u)
def Dt.NoM(d:Dt)(y cy cm ck:Int)(i:Nat):Prop:= ∀j,j<i-> ∀(h:j<d.ms.length),∀k,k ∈ d.ds->k<=d.len y (d.ms[j]'h)-> ¬d.ge y (d.ms[j]'h) k cy cm ck
def Dt.NoK(d:Dt)(y m cy cm ck:Int)(i:Nat):Prop:= ∀j,j<i-> ∀(h:j<d.ds.length),(d.ds[j]'h)<=d.len y m-> ¬d.ge y m (d.ds[j]'h) cy cm ck
def Dt.NoY(d:Dt)(y cy cm ck:Int):Prop:= ∀z n j,d.Fill z n j->z<y-> ¬d.ge z n j cy cm ck
theorem Dt.aIF(d:Dt)(y cy cm ck:Int):d.NoM y cy cm ck 0:=fun j h=>by omega
theorem Dt.aII(d:Dt)(y m cy cm ck:Int):d.NoK y m cy cm ck 0:=fun j h=>by omega
theorem Dt.aIJ{d:Dt}{y m cy cm ck:Int}{i:Nat}(h:d.NoK y m cy cm ck i)(hi:i<d.ds.length)(hn:(d.ds[i]'hi)<=d.len y m-> ¬d.ge y m (d.ds[i]'hi) cy cm ck):d.NoK y m cy cm ck (i+1):=by
 intro j hj hl
 by_cases e:j=i
 . subst e;exact hn
 exact h j (by omega) hl
theorem Dt.aIG{d:Dt}{y cy cm ck:Int}{i:Nat}(h:d.NoM y cy cm ck i)(hi:i<d.ms.length)(hn:d.NoK y (d.ms[i]'hi) cy cm ck d.ds.length):d.NoM y cy cm ck (i+1):=by
 intro j hj hl
 by_cases e:j=i
 . subst e;intro k hk hkl;obtain⟨a,ha,rfl⟩:=aNI hk;exact hn a ha ha hkl
 exact h j (by omega) hl
theorem Dt.aIH{d:Dt}{y cy cm ck:Int}{i:Nat}(h:d.NoM y cy cm ck i)(hi:i<d.ms.length)(hy:y=cy)(hm:d.mo.size≠0)(hlt:(d.ms[i]'hi)<cm):d.NoM y cy cm ck (i+1):=by
 intro j hj hl
 by_cases e:j=i
 . subst e;rintro k hk hkl (g|⟨g,g|g|⟨g,_⟩⟩)<;>omega
 exact h j (by omega) hl
theorem Dt.aIE{d:Dt}{y v cy cm ck:Int}{ok:Bool}(h:d.NoY y cy cm ck)(hm:d.NoM y cy cm ck d.ms.length)(hy:d.Year (y+1) v ok):
 (ok=true->d.NoY v cy cm ck)/\(ok=false-> ∀z n j,d.Fill z n j-> ¬d.ge z n j cy cm ck):=by
 have key: ∀z n j,d.Fill z n j->z<=y-> ¬d.ge z n j cy cm ck:=by
  intro z n j hf hz
  by_cases e:z=y
  . subst e;obtain⟨h1,h2,h3,h4⟩:=hf;obtain⟨a,ha,rfl⟩:=aNI h2;exact hm a ha ha j h3 h4
  exact h z n j hf (by omega)
 constructor
 . rintro rfl z n j hf hz;rcases hy with⟨_,_,_,hmin⟩|⟨h,_⟩
   . exact key z n j hf (by have:=hmin z hf.1;omega)
   cases h
 rintro rfl z n j hf;rcases hy with⟨h,_⟩|⟨_,hno⟩
 . cases h
 exact key z n j hf (by have:=hno z hf.1;omega)
theorem Dt.aFz{d:Dt}{v cy cm ck:Int}{ok:Bool}(hy:d.Year cy v ok):
 (ok=true->d.NoY v cy cm ck)/\(ok=false-> ∀z n j,d.Fill z n j-> ¬d.ge z n j cy cm ck):=by
 have low: ∀z n j,z<cy-> ¬d.ge z n j cy cm ck:=by rintro z n j h (g|⟨g,_⟩)<;>omega
 constructor
 . rintro rfl z n j hf hz;rcases hy with⟨_,_,_,hmin⟩|⟨h,_⟩
   . exact low z n j (by have:=hmin z hf.1;omega)
   cases h
 rintro rfl z n j hf;rcases hy with⟨h,_⟩|⟨_,hno⟩
 . cases h
 exact low z n j (by have:=hno z hf.1;omega)
theorem QT{l:List Int}(hs:l.Pairwise (· < ·)){i j:Nat}(hi:i<l.length)(hj:j<l.length)(h:(l[j]'hj)<(l[i]'hi)):j<i:=by
 by_cases c:j<i
 . exact c
 exfalso
 by_cases e:i=j
 . subst e;omega
 have:=aUP.1 hs i j hi hj (by omega);omega
theorem Dt.found{d:Dt}{y cy cm ck:Int}{i j:Nat}(hY:d.In y)(hN:d.NoY y cy cm ck)(hM:d.NoM y cy cm ck i)(hi:i<d.ms.length)(hK:d.NoK y (d.ms[i]'hi) cy cm ck j)(hj:j<d.ds.length)
 (hl:(d.ds[j]'hj)<=d.len y (d.ms[i]'hi)) (hg:d.ge y (d.ms[i]'hi) (d.ds[j]'hj) cy cm ck):d.jF cy cm ck y (d.ms[i]'hi) (d.ds[j]'hj) true:=by
 refine .inl ⟨rfl,⟨hY,aRV hi,aRV hj,hl⟩,hg,?_⟩;intro z n k hf hge hlt;rcases hlt with h|⟨rfl,h|⟨rfl,h⟩⟩
 . exact hN z n k hf h hge
 . obtain⟨_,h2,h3,h4⟩:=hf;obtain⟨a,ha,rfl⟩:=aNI h2;exact hM a (QT d.RH hi ha h) ha k h3 h4 hge
 obtain⟨_,h2,h3,h4⟩:=hf;obtain⟨a,ha,rfl⟩:=aNI h3;exact hK a (QT d.SG hj ha h) ha h4 hge
def Dt.Is(d:Dt)(y m k cy cm ck:Int):Bool:=decide (y=cy)&&((decide (d.mo.size=0)||decide (m=cm))&&(decide (d.da.size=0)||decide (k=ck)))
theorem Dt.aA6{d:Dt}{y m k cy cm ck:Int}{found:Bool}(hd:d.mo.size=0->d.da.size=0)(h:d.jF cy cm ck y m k found):
 (found&&d.Is y m k cy cm ck)=true↔ ∃n j,d.Fill cy n j/\(d.mo.size=0\/n=cm)/\(d.da.size=0\/j=ck):=by
 unfold Dt.Is;simp only[aFU,aJj,aFK];constructor
 . rintro⟨rfl,rfl,hm,hk⟩;rcases h with⟨_,hf,_⟩|⟨h,_⟩
   . exact⟨m,k,hf,hm,hk⟩
   cases h
 rintro ⟨n,j,hf,hn,hj⟩;have hge:d.ge cy n j cy cm ck:=by
  refine .inr ⟨rfl,?_⟩;rcases hn with h|h
  . exact .inl h
  refine .inr (.inr ⟨h,?_⟩);rcases hj with g|g
  . exact .inl g
  exact .inr (by omega)
 rcases h with⟨rfl,hF,hG,hmin⟩|⟨_,_,_,_,hno⟩
 . have hnl:=hmin cy n j hf hge;have hy:y=cy:=by
    rcases hG with g|⟨g,_⟩
    . exact absurd (.inl g) hnl
    exact g
   subst hy;refine⟨rfl,rfl,?_⟩
   by_cases h0:d.mo.size=0
   . exact⟨.inl h0,.inl (hd h0)⟩
   have hn:n=cm:=by rcases hn with g|g;exact absurd g h0;exact g
   subst hn;rcases hG with g|⟨_,g|g|⟨rfl,g⟩⟩
   . omega
   . exact absurd g h0
   . exact absurd (.inr ⟨rfl,.inl g⟩) hnl
   refine⟨.inr rfl,?_⟩
   by_cases h1:d.da.size=0
   . exact .inl h1
   right
   have hj:j=ck:=by rcases hj with g|g;exact absurd g h1;exact g
   have hg:ck<=k:=by rcases g with g|g;exact absurd g h1;exact g
   by_cases c:k=ck
   . exact c
   exact absurd (.inr ⟨rfl,.inr ⟨rfl,by omega⟩⟩) hnl
 exact absurd hge (hno cy n j hf)
theorem Dt.XR{d:Dt}{y m k cy cm ck:Int}{found:Bool}(hb: ∀u,d.In u->cy<u)(h:d.jF cy cm ck y m k found):found=true↔ ∃y m k,d.Fill y m k:=by
 constructor
 . rintro rfl;rcases h with⟨_,hf,_⟩|⟨h,_⟩
   . exact⟨_,_,_,hf⟩
   cases h
 rintro⟨z,n,j,hf⟩;rcases h with⟨h,_⟩|⟨_,_,_,_,hno⟩
 . exact h
 exact absurd (.inl (hb z hf.1)) (hno z n j hf)
open Classical in
noncomputable def Dt.err(d:Dt):Int:=if d.form≠0 then d.form else if d.da.size≠0/\ ¬ ∃y m k,d.Fill y m k then 8 else 0
theorem ZJ(a b c n:Int):jZ a b c n=0\/jZ a b c n=9:=by unfold jZ;split;exact .inl rfl;exact .inr rfl
theorem Dt.kN{d:Dt}(h:d.form=0):d.lI=true/\(d.mo.size=0\/d.aH≠0\/dP d.mo 12=true)/\(d.da.size=0\/(d.mo.size≠0/\d.aH=0/\dP d.da 31=true))/\jZ d.m0 d.m1 d.m2 (comps d.mo d.da)=0:=by
 unfold Dt.form at h
 split at h
 . omega
 rename_i h1
 split at h
 . omega
 rename_i h2
 split at h
 . omega
 rename_i h3
 refine⟨by simpa using h1,?_,?_,h⟩
 . by_cases c:d.mo.size=0
   . exact .inl c
   right
   by_cases c2:d.aH=0
   . right
     cases e3:dP d.mo 12
     . exact absurd (by rw[aCw c,aAP c2,e3];rfl) h2
     rfl
   exact .inl c2
 by_cases c:d.da.size=0
 . exact .inl c
 right
 have c1: ¬d.mo.size=0:=fun e1=>h3 (by rw[aAP e1,aCw c];rfl);have c2:d.aH=0:=by
  by_cases e2:d.aH=0
  . exact e2
  exact absurd (by rw[aCw c1,aCw c,aCw e2];rfl) h3
 refine⟨c1,c2,?_⟩
 cases e3:dP d.da 31
 . exact absurd (by rw[aCw c1,aCw c,aAP c2,e3];rfl) h3
 rfl
theorem Dt.iD{d:Dt}(h:d.lI=true):d.JG=true/\(0<d.sig->d.mo.size=0)/\d.far=false:=by
 unfold Dt.lI at h;rw[aFU,aFU]at h;obtain⟨h1,h2,h3⟩:=h;refine⟨h1,fun hs=>?_,by cases e:d.far;rfl;rw[e]at h3;cases h3⟩
 by_cases c:d.mo.size=0
 . exact c
 rw[aAP hs,aCw c]at h2;cases h2
theorem Dt.jU{d:Dt}(h:d.JG=true){y:Int}(hy:d.In y): -10000000000000000<=y/\y<=10000000000000000:=by
 unfold Dt.In at hy
 by_cases c:d.mask=true
 . rw[aFV c]at hy
   split at hy
   . obtain⟨⟨h1,h2,_⟩,_⟩:=hy;omega
   obtain⟨h1,h2,_⟩:=hy;omega
 rw [aB9 c]at hy;have h0:=nS d.dg d.ex;have h1:fK d.dg d.ex<=10000000000000000:=by
  unfold Dt.JG at h
  cases hl:d.long
  . rw[hl]at h;obtain⟨h1,h2,h3,_⟩:=iC h;have hd:=(jV h2).1 (by unfold Dt.mask at c;simpa using c);have:=nV hd h1;have hz:fK d.dg 0=iT d.dg:=by unfold fK p10;simp
    rw[h3,hz];omega
  rw[hl]at h;exact(jG h).2.2.2.2.2.2.1
 unfold Dt.mag at hy
 split at hy<;>omega
end Bk
end
section
namespace Bk
theorem RN{b o:Nat->Int}(hb:MOk b)(ho: ∀i,i<4->o i=if b i=88 then 48 else b i):oO b (cZ o)/\ ∀f,oO b f->cZ o<=f:=by
 have m0:=hb 0 (by omega);have m1:=hb 1 (by omega);have m2:=hb 2 (by omega);have m3:=hb 3 (by omega);have o0:=ho 0 (by omega);have o1:=ho 1 (by omega);have o2:=ho 2 (by omega);have o3:=ho 3 (by omega);simp only[nD];unfold cZ;generalize b 0=b0 at *;generalize b 1=b1 at *;generalize b 2=b2 at *;generalize b 3=b3 at *;constructor
 . refine⟨o 0 - 48,o 1 - 48,o 2 - 48,o 3 - 48,?_⟩
   split at o0<;>split at o1<;>split at o2<;>split at o3<;>(refine⟨?_,?_,?_,?_,?_,?_,?_,?_,?_,?_,?_,?_,?_⟩<;>omega)
 rintro f ⟨d0,d1,d2,d3,a0,a1,a2,a3,a4,a5,a6,a7,rfl,e0,e1,e2,e3⟩
 split at o0<;>split at o1<;>split at o2<;>split at o3<;>omega
theorem BN{b o:Nat->Int}(hb:MOk b)(ho: ∀i,i<4->o i=if b i=88 then 57 else b i):oO b (cZ o)/\ ∀f,oO b f->f<=cZ o:=by
 have m0:=hb 0 (by omega);have m1:=hb 1 (by omega);have m2:=hb 2 (by omega);have m3:=hb 3 (by omega);have o0:=ho 0 (by omega);have o1:=ho 1 (by omega);have o2:=ho 2 (by omega);have o3:=ho 3 (by omega);simp only[nD];unfold cZ;generalize b 0=b0 at *;generalize b 1=b1 at *;generalize b 2=b2 at *;generalize b 3=b3 at *;constructor
 . refine⟨o 0 - 48,o 1 - 48,o 2 - 48,o 3 - 48,?_⟩
   split at o0<;>split at o1<;>split at o2<;>split at o3<;>(refine⟨?_,?_,?_,?_,?_,?_,?_,?_,?_,?_,?_,?_,?_⟩<;>omega)
 rintro f ⟨d0,d1,d2,d3,a0,a1,a2,a3,a4,a5,a6,a7,rfl,e0,e1,e2,e3⟩
 split at o0<;>split at o1<;>split at o2<;>split at o3<;>omega
def nZ(b:Nat->Int)(n v e:Int):Prop:=(e=0/\oO b v/\n<=v/\ ∀f,oO b f->n<=f->v<=f)\/(e=16/\v=0/\ ∀f,oO b f->f<n)
def qA(b:Nat->Int)(n v e:Int):Prop:=(e=0/\oO b v/\v<=n/\ ∀f,oO b f->f<=n->f<=v)\/(e=16/\v=0/\ ∀f,oO b f->n<f)
theorem ZE{b:Nat->Int}{n v e:Int}(h:nZ b n v e):0<=v/\v<=9999/\(e=0\/e=16):=by
 rcases h with⟨h1,⟨h2,h3,_⟩,_⟩|⟨h1,h2,_⟩<;>omega
theorem A8{b:Nat->Int}{n v e:Int}(h:qA b n v e):0<=v/\v<=9999/\(e=0\/e=16):=by
 rcases h with⟨h1,⟨h2,h3,_⟩,_⟩|⟨h1,h2,_⟩<;>omega
end Bk
end
section
open Go.RowKit Go.Lib
namespace Sk
open Bk (Dt aW)
open Ev (aV dQ hp AV lT lY OJ FQ iV uY)
abbrev SS(w0:World):Prop:=aV dQ.g.n dQ.l w0 hp
abbrev Same(w0:World)(f:FuncId)(args:Array Value)(v:Value):Prop:=Ev.aD0 Tryz.prog w0 f args v
theorem rJ{w:World}{f:FuncId}{args:Array Value}{v u:Value}(g:Same w f args v)(e:v=u):Calls Tryz.prog f args w fun r w'=>r=.returned u/\Below w.heap.size w w':=(e ▸ g) w (aAL _ _)
theorem eqB{P:Program}{w:World}{f:FuncId}{args:Array Value}{v:Ending}(h:Calls P f args w fun r w'=>r=v/\w=w'):Calls P f args w fun r w'=>r=v/\Below w.heap.size w w':=h.mono fun _ _ h=>⟨h.1,h.2 ▸ aAL _ _⟩
theorem aWV{P:Program}{w:World}{f:FuncId}{args:Array Value}{v:Ending}(h:Calls P f args w fun r w'=>r=v/\w'=w):Calls P f args w fun r w'=>r=v/\Below w.heap.size w w':=h.mono fun _ _ h=>⟨h.1,h.2 ▸ aAL _ _⟩
theorem DC{w0:World}{f:FuncId}{args:Array Value}{v u:Value}(g:Same w0 f args v)(e:v=u):Same w0 f args u:=e ▸ g
abbrev gY(k:AV):AV:=.agg [k,lY 1,OJ 2,OJ 3,FQ 4,iV 5,iV 6,FQ 7,FQ 8,lT 9,lT 10,lT 11,lT 12,uY 13,iV 14,uY 15,iV 16]
abbrev iL:AV:=.agg [OJ 0,OJ 1,FQ 2,iV 3,iV 4,FQ 5,FQ 6,lT 7,lT 8,lT 9]
abbrev zA:AV:=.agg [OJ 2,OJ 3,FQ 4,iV 5,iV 6,FQ 7,FQ 8,lT 9,lT 10,lT 11]
abbrev rK(a b c d:AV):AV:=.agg [a,b,c,d]
abbrev qi:Nat->AV:=iV
abbrev qe:Nat->AV:=uY
abbrev qb:Nat->AV:=OJ
abbrev qu:Nat->AV:=Ev.lT
abbrev qs:Nat->AV:=FQ
abbrev qz:AV:=.v (.int .i64 0)
abbrev q8:AV:=.v (.int .i8 0)
abbrev qt:AV:=.v (.bool true)
abbrev qf:AV:=.v (.bool false)
abbrev dL(d:Dt):List Value:=[.bool d.neg,.bool d.long,.string d.dg,.int .i64 d.ex,.int .i64 d.sig,.string d.mo,.string d.da,.int .u8 d.m0,.int .u8 d.m1,.int .u8 d.m2]
abbrev lv(a b:List Value):Value:=.agg (a++b).toArray
abbrev OU(t:TypeId)(a b:Value)(z:Bool):Prop:=Ev.EqV Tryz.prog t a b z
def ev(i d:Int):Value:=.agg #[.int .i8 i,.int .i64 d]
def r4(a lo b hi:Int):Value:=.agg #[.int .i8 a,.int .i64 lo,.int .i8 b,.int .i64 hi]
def lF(k:Int)(v:Value)(d:Dt)(p a lo b hi:Int):List Value:=[.int .u8 k,v,.bool d.neg,.bool d.long,.string d.dg,.int .i64 d.ex,.int .i64 d.sig,.string d.mo,.string d.da,.int .u8 d.m0,.int .u8 d.m1,.int .u8 d.m2,.int .u8 p,.int .i8 a,.int .i64 lo,.int .i8 b,.int .i64 hi]
def fam(k:Int)(v:Value)(d:Dt)(p a lo b hi:Int):Value:=.agg (lF k v d p a lo b hi).toArray
def z0:Dt:=⟨false,false,⟨#[]⟩,0,0,⟨#[]⟩,⟨#[]⟩,0,0,0⟩
theorem nI(a x b y:Int)(z:Bool)(hz:z=decide (a=b/\x=y)):OU 40 (ev a x) (ev b y) z:=by
 subst hz;unfold ev;refine⟨fun w=>?_,fun w=>?_⟩<;> · go_simp;(repeat' split)<;>simp_all
end Sk
end
section
open Go.RowKit Go.Lib
namespace Sk
open Ev (aV DT LG dQ aQ hp tb0 bW rH uY iW iV lT kR OJ FQ lY aN AV yJ rG dS aG aJ eG kX)
open Bk (Dt aW cvv)
def yh0:AV:=rK q8 (qi 13) q8 (qi 14)
def yh1:AV:=aN 1 .i64 [(qi 15),(qi 12)]
def yh2:AV:=.aS [(rK q8 (qi 15) q8 (qi 16)),qz]
def yh3:List AV:=[(qb 0),(qb 1),(qs 2),(qi 3),(qi 4)]
def yh4:AV:=aN 2 .i64 [yh1,(.v (.int .i64 1))]
def yh5:AV:=.aS [(rK q8 qz q8 qz),(.v (.int .i64 1))]
def sQ:List AV:=[(qb 0),(qb 1),(qs 2),(qi 3),(qi 4),(qs 5),(qs 6),(qu 7),(qu 8),(qu 9)]
def aNw:DT:=(.leaf qf)
theorem aIj(l:Value):aNw.ok tb0 l [] [(131,[.agg yh3],.v (.int .i64 6))] .nil 60 LG 106 [.agg sQ] []=true:=by kernel_rfl
theorem aR5(d:Dt) (w0:World) (H0:Same w0 131 #[(.agg #[(.bool d.neg),(.bool d.long),(.string d.dg),(.int .i64 d.ex),(.int .i64 d.sig)])] (.int .i64 6)):Same w0 106 #[(aW d)] (.bool false):=
 aG (aIj (lv (dL d) [])) (bW w0) (rH w0) .nil (.cons H0 .nil) (aJ (by kernel_rfl)) (by kernel_rfl)
def aNv:DT:=(.node 1 qz (qi 4) (.node 2 (qs 5) (.v (.string ⟨#[]⟩)) (.leaf qt) (.leaf qf)) (.leaf qt))
theorem aIi(l:Value):aNv.ok tb0 l [] [(131,[.agg yh3],qz),(105,[.agg sQ],.aS [qz,qf])] .nil 60 LG 106 [.agg sQ] []=true:=by kernel_rfl
theorem aR4(d:Dt) (w0:World) (H0:Same w0 131 #[(.agg #[(.bool d.neg),(.bool d.long),(.string d.dg),(.int .i64 d.ex),(.int .i64 d.sig)])] (.int .i64 0))(H1:Same w0 105 #[(aW d)] (.tuple #[(.int .i64 0),(.bool false)])):Same w0 106 #[(aW d)] (cond (decide (0<d.sig)) (cond (d.mo.toList==(⟨#[]⟩:ByteArray).toList) (.bool true) (.bool false)) (.bool true)):=
 aG (aIi (lv (dL d) [])) (bW w0) (rH w0) .nil (.cons H0 (.cons H1 .nil)) (aJ (by kernel_rfl)) (by kernel_rfl)
def aNu:DT:=(.node 1 qz (qi 4) (.node 2 (qs 5) (.v (.string ⟨#[]⟩)) (.leaf qt) (.leaf qf)) (.leaf qt))
theorem aIh(l:Value):aNu.ok tb0 l [] [(131,[.agg yh3],qz),(105,[.agg sQ],.aS [(qi 10),qt]),(132,[.agg yh3],qt)] .nil 60 LG 106 [.agg sQ] []=true:=by kernel_rfl
theorem aR3(d:Dt)(code:Int)(w0:World) (H0:Same w0 131 #[(.agg #[(.bool d.neg),(.bool d.long),(.string d.dg),(.int .i64 d.ex),(.int .i64 d.sig)])] (.int .i64 0))(H1:Same w0 105 #[(aW d)] (.tuple #[(.int .i64 code),(.bool true)]))(H2:Same w0 132 #[(.agg #[(.bool d.neg),(.bool d.long),(.string d.dg),(.int .i64 d.ex),(.int .i64 d.sig)])] (.bool true)):Same w0 106 #[(aW d)] (cond (decide (0<d.sig)) (cond (d.mo.toList==(⟨#[]⟩:ByteArray).toList) (.bool true) (.bool false)) (.bool true)):=
 aG (aIh (lv (dL d) [.int .i64 code])) (bW w0) (rH w0) .nil (.cons H0 (.cons H1 (.cons H2 .nil))) (aJ (by kernel_rfl)) (by kernel_rfl)
def aNt:DT:=(.node 1 qz (qi 4) (.node 2 (qs 5) (.v (.string ⟨#[]⟩)) (.node 0 (qi 12) qz (.leaf qt) (.leaf qf)) (.leaf qf)) (.node 0 (qi 12) qz (.leaf qt) (.leaf qf)))
theorem aIg(l:Value):aNt.ok tb0 l [] [(131,[.agg yh3],qz),(105,[.agg sQ],.aS [(qi 10),qt]),(132,[.agg yh3],qf),(133,[.agg yh3],.aS [(qi 11),qz]),(134,[(qi 11),(qi 10)],.aS [rK (qe 13) (qi 14) (qe 15) (qi 16),(qi 12)])] .nil 60 LG 106 [.agg sQ] []=true:=by kernel_rfl
theorem aNP(d:Dt)(code:Int)(v:Int)(e:Int)(ra:Int)(rl:Int)(rb:Int)(rh:Int)(w0:World) (H0:Same w0 131 #[(.agg #[(.bool d.neg),(.bool d.long),(.string d.dg),(.int .i64 d.ex),(.int .i64 d.sig)])] (.int .i64 0))(H1:Same w0 105 #[(aW d)] (.tuple #[(.int .i64 code),(.bool true)]))(H2:Same w0 132 #[(.agg #[(.bool d.neg),(.bool d.long),(.string d.dg),(.int .i64 d.ex),(.int .i64 d.sig)])] (.bool false))(H3:Same w0 133 #[(.agg #[(.bool d.neg),(.bool d.long),(.string d.dg),(.int .i64 d.ex),(.int .i64 d.sig)])] (.tuple #[(.int .i64 v),(.int .i64 0)]))(H4:Same w0 134 #[(.int .i64 v),(.int .i64 code)] (.tuple #[(r4 ra rl rb rh),(.int .i64 e)])):Same w0 106 #[(aW d)] (cond (decide (0<d.sig)) (cond (d.mo.toList==(⟨#[]⟩:ByteArray).toList) (cond (e==0) (.bool true) (.bool false)) (.bool false)) (cond (e==0) (.bool true) (.bool false))):=
 aG (aIg (lv (dL d) [.int .i64 code,.int .i64 v,.int .i64 e,.int .i8 ra,.int .i64 rl,.int .i8 rb,.int .i64 rh])) (bW w0) (rH w0) .nil (.cons H0 (.cons H1 (.cons H2 (.cons H3 (.cons H4 .nil))))) (aJ (by kernel_rfl)) (by kernel_rfl)
def aGI:DT:=(.node 3 (qb 13) (qb 13) (.node 3 (qb 14) (qb 14) (.node 2 (qs 5) (.v (.string ⟨#[]⟩)) (.node 2 (qs 6) (.v (.string ⟨#[]⟩)) (.leaf (qi 12)) (.leaf (.v (.int .i64 8)))) (.node 2 (qs 6) (.v (.string ⟨#[]⟩)) (.leaf (qi 12)) (.leaf (.v (.int .i64 8))))) (.leaf (.v (.int .i64 6)))) (.node 3 (qb 14) (qb 14) (.node 2 (qs 5) (.v (.string ⟨#[]⟩)) (.node 2 (qs 6) (.v (.string ⟨#[]⟩)) (.leaf (qi 12)) (.leaf (.v (.int .i64 8)))) (.node 3 (qb 15) (qb 15) (.node 2 (qs 6) (.v (.string ⟨#[]⟩)) (.leaf (qi 12)) (.node 3 (qb 16) (qb 16) (.leaf (qi 12)) (.leaf (.v (.int .i64 8))))) (.leaf (.v (.int .i64 7))))) (.leaf (.v (.int .i64 6)))))
theorem aBH(l:Value):aGI.ok tb0 l [] [(105,[.agg sQ],.aS [(qi 10),(qb 13)]),(106,[.agg sQ],(qb 14)),(107,[(qs 5),.v (.int .i64 12)],(qb 15)),(107,[(qs 6),.v (.int .i64 31)],(qb 16)),(109,[.agg sQ],(qi 11)),(108,[.agg [(qu 7),(qu 8),(qu 9)],(qi 11)],(qi 12))] .nil 60 LG 81 [.agg sQ] []=true:=by kernel_rfl
theorem aLv(d:Dt)(code:Int)(n:Int)(e:Int)(se:Bool)(yo:Bool)(g:Bool)(h:Bool)(w0:World) (H0:Same w0 105 #[(aW d)] (.tuple #[(.int .i64 code),(.bool se)]))(H1:Same w0 106 #[(aW d)] (.bool yo))(H2:Same w0 107 #[(.string d.mo),(.int .i64 12)] (.bool g))(H3:Same w0 107 #[(.string d.da),(.int .i64 31)] (.bool h))(H4:Same w0 109 #[(aW d)] (.int .i64 n))(H5:Same w0 108 #[(.agg #[(.int .u8 d.m0),(.int .u8 d.m1),(.int .u8 d.m2)]),(.int .i64 n)] (.int .i64 e)):Same w0 81 #[(aW d)] (cond se (cond yo (cond (d.mo.toList==(⟨#[]⟩:ByteArray).toList) (cond (d.da.toList==(⟨#[]⟩:ByteArray).toList) (.int .i64 e) (.int .i64 8)) (cond (d.da.toList==(⟨#[]⟩:ByteArray).toList) (.int .i64 e) (.int .i64 8))) (.int .i64 6)) (cond yo (cond (d.mo.toList==(⟨#[]⟩:ByteArray).toList) (cond (d.da.toList==(⟨#[]⟩:ByteArray).toList) (.int .i64 e) (.int .i64 8)) (cond g (cond (d.da.toList==(⟨#[]⟩:ByteArray).toList) (.int .i64 e) (cond h (.int .i64 e) (.int .i64 8))) (.int .i64 7))) (.int .i64 6))):=
 aG (aBH (lv (dL d) [.int .i64 code,.int .i64 n,.int .i64 e,.bool se,.bool yo,.bool g,.bool h])) (bW w0) (rH w0) .nil (.cons H0 (.cons H1 (.cons H2 (.cons H3 (.cons H4 (.cons H5 .nil)))))) (aJ (by kernel_rfl)) (by kernel_rfl)
def aGG:DT:=(.node 1 (.v (.int .u8 3)) (qu 0) (.leaf (.v (.int .i64 9))) (.node 1 (.v (.int .u8 3)) (qu 1) (.leaf (.v (.int .i64 9))) (.node 0 (qu 1) (.v (.int .u8 0)) (.node 1 (.v (.int .u8 3)) (qu 2) (.leaf (.v (.int .i64 9))) (.node 0 (qu 2) (.v (.int .u8 0)) (.leaf qz) (.leaf (.v (.int .i64 9))))) (.leaf (.v (.int .i64 9))))))
theorem aBF(l:Value):aGG.ok tb0 l [] [] .nil 60 LG 108 [.agg [(qu 0),(qu 1),(qu 2)],.v (.int .i64 1)] []=true:=by kernel_rfl
theorem aLt (a:Int)(b:Int)(c:Int)(w0:World)  :Same w0 108 #[(.agg #[(.int .u8 a),(.int .u8 b),(.int .u8 c)]),(.int .i64 1)] (cond (decide (3<a)) (.int .i64 9) (cond (decide (3<b)) (.int .i64 9) (cond (b==0) (cond (decide (3<c)) (.int .i64 9) (cond (c==0) (.int .i64 0) (.int .i64 9))) (.int .i64 9)))):=
 aG (aBF (.agg #[.int .u8 a,.int .u8 b,.int .u8 c])) (bW w0) (rH w0) .nil .nil (aJ (by kernel_rfl)) (by kernel_rfl)
def aGF:DT:=(.node 1 (.v (.int .u8 3)) (qu 0) (.leaf (.v (.int .i64 9))) (.node 1 (.v (.int .u8 3)) (qu 1) (.leaf (.v (.int .i64 9))) (.node 1 (.v (.int .u8 3)) (qu 2) (.leaf (.v (.int .i64 9))) (.node 0 (qu 2) (.v (.int .u8 0)) (.leaf qz) (.leaf (.v (.int .i64 9)))))))
theorem aBE(l:Value):aGF.ok tb0 l [] [] .nil 60 LG 108 [.agg [(qu 0),(qu 1),(qu 2)],.v (.int .i64 2)] []=true:=by kernel_rfl
theorem aLs (a:Int)(b:Int)(c:Int)(w0:World)  :Same w0 108 #[(.agg #[(.int .u8 a),(.int .u8 b),(.int .u8 c)]),(.int .i64 2)] (cond (decide (3<a)) (.int .i64 9) (cond (decide (3<b)) (.int .i64 9) (cond (decide (3<c)) (.int .i64 9) (cond (c==0) (.int .i64 0) (.int .i64 9))))):=
 aG (aBE (.agg #[.int .u8 a,.int .u8 b,.int .u8 c])) (bW w0) (rH w0) .nil .nil (aJ (by kernel_rfl)) (by kernel_rfl)
def aGE:DT:=(.node 1 (.v (.int .u8 3)) (qu 0) (.leaf (.v (.int .i64 9))) (.node 1 (.v (.int .u8 3)) (qu 1) (.leaf (.v (.int .i64 9))) (.node 1 (.v (.int .u8 3)) (qu 2) (.leaf (.v (.int .i64 9))) (.leaf qz))))
theorem aBD(l:Value):aGE.ok tb0 l [] [] .nil 60 LG 108 [.agg [(qu 0),(qu 1),(qu 2)],.v (.int .i64 3)] []=true:=by kernel_rfl
theorem aLr (a:Int)(b:Int)(c:Int)(w0:World)  :Same w0 108 #[(.agg #[(.int .u8 a),(.int .u8 b),(.int .u8 c)]),(.int .i64 3)] (cond (decide (3<a)) (.int .i64 9) (cond (decide (3<b)) (.int .i64 9) (cond (decide (3<c)) (.int .i64 9) (.int .i64 0)))):=
 aG (aBD (.agg #[.int .u8 a,.int .u8 b,.int .u8 c])) (bW w0) (rH w0) .nil .nil (aJ (by kernel_rfl)) (by kernel_rfl)
def aCB:DT:=(.node 1 (.v (.int .u8 3)) (qu 0) (.leaf (.v (.int .i64 9))) (.node 1 (.v (.int .u8 3)) (qu 1) (.leaf (.v (.int .i64 9))) (.node 1 (.v (.int .u8 0)) (qu 1) (.leaf (.v (.int .i64 9))) (.node 1 (.v (.int .u8 3)) (qu 2) (.leaf (.v (.int .i64 9))) (.node 1 (.v (.int .u8 0)) (qu 2) (.leaf (.v (.int .i64 9))) (.leaf qz))))))
theorem YW(l:Value):aCB.ok tb0 l [] [] .nil 60 LG 96 [.agg [(qu 0),(qu 1),(qu 2)],.v (.int .i64 1)] []=true:=by kernel_rfl
theorem aHa (a:Int)(b:Int)(c:Int)(w0:World)  :Same w0 96 #[(.agg #[(.int .u8 a),(.int .u8 b),(.int .u8 c)]),(.int .i64 1)] (cond (decide (3<a)) (.int .i64 9) (cond (decide (3<b)) (.int .i64 9) (cond (decide (0<b)) (.int .i64 9) (cond (decide (3<c)) (.int .i64 9) (cond (decide (0<c)) (.int .i64 9) (.int .i64 0)))))):=
 aG (YW (.agg #[.int .u8 a,.int .u8 b,.int .u8 c])) (bW w0) (rH w0) .nil .nil (aJ (by kernel_rfl)) (by kernel_rfl)
def aCA:DT:=(.node 1 (.v (.int .u8 3)) (qu 0) (.leaf (.v (.int .i64 9))) (.node 1 (.v (.int .u8 3)) (qu 1) (.leaf (.v (.int .i64 9))) (.node 1 (.v (.int .u8 3)) (qu 2) (.leaf (.v (.int .i64 9))) (.node 1 (.v (.int .u8 0)) (qu 2) (.leaf (.v (.int .i64 9))) (.leaf qz)))))
theorem YV(l:Value):aCA.ok tb0 l [] [] .nil 60 LG 96 [.agg [(qu 0),(qu 1),(qu 2)],.v (.int .i64 2)] []=true:=by kernel_rfl
theorem aG9 (a:Int)(b:Int)(c:Int)(w0:World)  :Same w0 96 #[(.agg #[(.int .u8 a),(.int .u8 b),(.int .u8 c)]),(.int .i64 2)] (cond (decide (3<a)) (.int .i64 9) (cond (decide (3<b)) (.int .i64 9) (cond (decide (3<c)) (.int .i64 9) (cond (decide (0<c)) (.int .i64 9) (.int .i64 0))))):=
 aG (YV (.agg #[.int .u8 a,.int .u8 b,.int .u8 c])) (bW w0) (rH w0) .nil .nil (aJ (by kernel_rfl)) (by kernel_rfl)
def aCz:DT:=(.node 1 (.v (.int .u8 3)) (qu 0) (.leaf (.v (.int .i64 9))) (.node 1 (.v (.int .u8 3)) (qu 1) (.leaf (.v (.int .i64 9))) (.node 1 (.v (.int .u8 3)) (qu 2) (.leaf (.v (.int .i64 9))) (.leaf qz))))
theorem YU(l:Value):aCz.ok tb0 l [] [] .nil 60 LG 96 [.agg [(qu 0),(qu 1),(qu 2)],.v (.int .i64 3)] []=true:=by kernel_rfl
theorem aG8 (a:Int)(b:Int)(c:Int)(w0:World)  :Same w0 96 #[(.agg #[(.int .u8 a),(.int .u8 b),(.int .u8 c)]),(.int .i64 3)] (cond (decide (3<a)) (.int .i64 9) (cond (decide (3<b)) (.int .i64 9) (cond (decide (3<c)) (.int .i64 9) (.int .i64 0)))):=
 aG (YU (.agg #[.int .u8 a,.int .u8 b,.int .u8 c])) (bW w0) (rH w0) .nil .nil (aJ (by kernel_rfl)) (by kernel_rfl)
def aGD:DT:=(.node 2 (qs 5) (.v (.string ⟨#[]⟩)) (.node 2 (qs 6) (.v (.string ⟨#[]⟩)) (.leaf (.v (.int .i64 1))) (.leaf (.v (.int .i64 2)))) (.node 2 (qs 6) (.v (.string ⟨#[]⟩)) (.leaf (.v (.int .i64 2))) (.leaf (.v (.int .i64 3)))))
theorem aBC(l:Value):aGD.ok tb0 l [] [] .nil 60 LG 37 [.agg sQ] []=true:=by kernel_rfl
theorem aLq(d:Dt) (w0:World)  :Same w0 37 #[(aW d)] (cond (d.mo.toList==(⟨#[]⟩:ByteArray).toList) (cond (d.da.toList==(⟨#[]⟩:ByteArray).toList) (.int .i64 1) (.int .i64 2)) (cond (d.da.toList==(⟨#[]⟩:ByteArray).toList) (.int .i64 2) (.int .i64 3))):=
 aG (aBC (lv (dL d) [])) (bW w0) (rH w0) .nil .nil (aJ (by kernel_rfl)) (by kernel_rfl)
def aKx:DT:=(.node 2 (qs 5) (.v (.string ⟨#[]⟩)) (.node 2 (qs 6) (.v (.string ⟨#[]⟩)) (.leaf (.v (.int .i64 1))) (.leaf (.v (.int .i64 2)))) (.node 2 (qs 6) (.v (.string ⟨#[]⟩)) (.leaf (.v (.int .i64 2))) (.leaf (.v (.int .i64 3)))))
theorem aFg(l:Value):aKx.ok tb0 l [] [] .nil 60 LG 109 [.agg sQ] []=true:=by kernel_rfl
theorem aOX(d:Dt) (w0:World)  :Same w0 109 #[(aW d)] (cond (d.mo.toList==(⟨#[]⟩:ByteArray).toList) (cond (d.da.toList==(⟨#[]⟩:ByteArray).toList) (.int .i64 1) (.int .i64 2)) (cond (d.da.toList==(⟨#[]⟩:ByteArray).toList) (.int .i64 2) (.int .i64 3))):=
 aG (aFg (lv (dL d) [])) (bW w0) (rH w0) .nil .nil (aJ (by kernel_rfl)) (by kernel_rfl)
def aKo:DT:=(.leaf (.aS [(rK q8 (qi 12) q8 (qi 13)),qz]))
theorem aE7(l:Value):aKo.ok tb0 l [] [(141,[(qi 9)],.aS [(qi 12),(qi 13),qz])] .nil 60 LG 295 [.agg [(qb 0),(qb 1),(qs 2),(qi 3),(qi 4),.v (.string ⟨#[]⟩),(qs 5),(qu 6),(qu 7),(qu 8)],.agg [(qi 9),(qi 10),(qi 11)]] []=true:=by kernel_rfl
theorem aOO(d:Dt)(y:Int)(m:Int)(k:Int)(s:Int)(t:Int)(w0:World) (H0:Same w0 141 #[(.int .i64 y)] (.tuple #[(.int .i64 s),(.int .i64 t),(.int .i64 0)])):Same w0 295 #[(.agg #[(.bool d.neg),(.bool d.long),(.string d.dg),(.int .i64 d.ex),(.int .i64 d.sig),(.string ⟨#[]⟩),(.string d.da),(.int .u8 d.m0),(.int .u8 d.m1),(.int .u8 d.m2)]),(cvv y m k)] (.tuple #[(r4 0 s 0 t),(.int .i64 0)]):=
 aG (aE7 (.agg #[.bool d.neg,.bool d.long,.string d.dg,.int .i64 d.ex,.int .i64 d.sig,.string d.da,.int .u8 d.m0,.int .u8 d.m1,.int .u8 d.m2,.int .i64 y,.int .i64 m,.int .i64 k,.int .i64 s,.int .i64 t])) (bW w0) (rH w0) .nil (.cons H0 .nil) (aJ (by kernel_rfl)) (by kernel_rfl)
def aKn:DT:=(.node 2 (qs 5) (.v (.string ⟨#[]⟩)) (.leaf (.aS [yh0,qz])) (.node 1 (.v (.int .i64 12)) (qi 11) (.leaf yh2) DT.no))
theorem aE6(l:Value):aKn.ok tb0 l [] [(141,[(qi 10)],.aS [(qi 13),(qi 14),qz]),(134,[(qi 10),(qi 11)],.aS [rK q8 (qi 15) q8 (qi 16),qz])] .nil 60 LG 295 [.agg sQ,.agg [(qi 10),(qi 11),(qi 12)]] []=true:=by kernel_rfl
theorem aON(d:Dt)(y:Int)(m:Int)(k:Int)(s:Int)(t:Int)(u:Int)(v:Int)(w0:World)(hm:13<=m)(H0:Same w0 141 #[(.int .i64 y)] (.tuple #[(.int .i64 s),(.int .i64 t),(.int .i64 0)]))(H1:Same w0 134 #[(.int .i64 y),(.int .i64 m)] (.tuple #[(r4 0 u 0 v),(.int .i64 0)])):Same w0 295 #[(aW d),(cvv y m k)] (cond (d.mo.toList==(⟨#[]⟩:ByteArray).toList) (.tuple #[(r4 0 s 0 t),(.int .i64 0)]) (cond (decide (12<m)) (.tuple #[(r4 0 u 0 v),(.int .i64 0)]) (.bool false))):=
 aG (aE6 (lv (dL d) [.int .i64 y,.int .i64 m,.int .i64 k,.int .i64 s,.int .i64 t,.int .i64 u,.int .i64 v])) (bW w0) (rH w0) .nil (.cons H0 (.cons H1 .nil)) (eG (by kernel_rfl:_=((((d.mo.toList==(⟨#[]⟩:ByteArray).toList)=true->True)/\((d.mo.toList==(⟨#[]⟩:ByteArray).toList)=false->(((decide (12<m))=true->True)/\((decide (12<m))=false->False)))))) (⟨fun h0=>trivial,fun h0=>⟨fun h1=>trivial,fun h1=>(by simp only[aFZ,aAO,aFK,aD5]at *;omega)⟩⟩)) (by kernel_rfl)
def aKm:DT:=(.node 2 (qs 5) (.v (.string ⟨#[]⟩)) (.leaf (.aS [yh0,qz])) (.node 1 (.v (.int .i64 12)) (qi 11) DT.no (.node 2 (qs 6) (.v (.string ⟨#[]⟩)) (.leaf yh2) (.leaf (.aS [(.agg [q8,yh4,q8,yh4]),qz])))))
theorem aE5(l:Value):aKm.ok tb0 l [] [(141,[(qi 10)],.aS [(qi 13),(qi 14),qz]),(144,[aN 2 .i64 [aN 1 .i64 [aN 3 .i64 [.v (.int .i64 12),(qi 10)],(qi 11)],.v (.int .i64 1)]],.aS [(qi 15),(qi 16),qz])] .nil 60 LG 295 [.agg sQ,.agg [(qi 10),(qi 11),(qi 12)]] []=true:=by kernel_rfl
theorem aOM(d:Dt)(y:Int)(m:Int)(k:Int)(s:Int)(t:Int)(u:Int)(v:Int)(w0:World)(hm:1<=m)(hn:m<=12)(H0:Same w0 141 #[(.int .i64 y)] (.tuple #[(.int .i64 s),(.int .i64 t),(.int .i64 0)]))(H1:Same w0 144 #[(.int .i64 (IntKind.i64.wrap ((IntKind.i64.wrap ((IntKind.i64.wrap (12 * y))+m)) - 1)))] (.tuple #[(.int .i64 u),(.int .i64 v),(.int .i64 0)])):Same w0 295 #[(aW d),(cvv y m k)] (cond (d.mo.toList==(⟨#[]⟩:ByteArray).toList) (.tuple #[(r4 0 s 0 t),(.int .i64 0)]) (cond (decide (12<m)) (.bool false) (cond (d.da.toList==(⟨#[]⟩:ByteArray).toList) (.tuple #[(r4 0 u 0 v),(.int .i64 0)]) (.tuple #[(.agg #[(.int .i8 0),(.int .i64 (IntKind.i64.wrap ((IntKind.i64.wrap (u+k)) - 1))),(.int .i8 0),(.int .i64 (IntKind.i64.wrap ((IntKind.i64.wrap (u+k)) - 1)))]),(.int .i64 0)])))):=
 aG (aE5 (lv (dL d) [.int .i64 y,.int .i64 m,.int .i64 k,.int .i64 s,.int .i64 t,.int .i64 u,.int .i64 v])) (bW w0) (rH w0) .nil (.cons H0 (.cons H1 .nil)) (eG (by kernel_rfl:_=((((d.mo.toList==(⟨#[]⟩:ByteArray).toList)=true->True)/\((d.mo.toList==(⟨#[]⟩:ByteArray).toList)=false->(((decide (12<m))=true->False)/\((decide (12<m))=false->(((d.da.toList==(⟨#[]⟩:ByteArray).toList)=true->True)/\((d.da.toList==(⟨#[]⟩:ByteArray).toList)=false->True)))))))) (⟨fun h0=>trivial,fun h0=>⟨fun h1=>(by simp only[aFZ,aAO,aFK,aD5]at *;omega),fun h1=>⟨fun h2=>trivial,fun h2=>trivial⟩⟩⟩)) (by kernel_rfl)
def aCG:DT:=(.node 0 (qi 13) qz DT.no (.leaf (.aS [(rK q8 qz q8 qz),(qi 13)])))
theorem Y2(l:Value):aCG.ok tb0 l [] [(51,[.agg sQ],(qi 13))] .nil 60 LG 290 [.agg sQ,.agg [(qi 10),(qi 11),(qi 12)]] []=true:=by kernel_rfl
theorem aHf(d:Dt)(y:Int)(m:Int)(k:Int)(e:Int)(w0:World)(he:e≠0)(H0:Same w0 51 #[(aW d)] (.int .i64 e)):Same w0 290 #[(aW d),(cvv y m k)] (cond (e==0) (.bool false) (.tuple #[(r4 0 0 0 0),(.int .i64 e)])):=
 aG (Y2 (lv (dL d) [.int .i64 y,.int .i64 m,.int .i64 k,.int .i64 e])) (bW w0) (rH w0) .nil (.cons H0 .nil) (eG (by kernel_rfl:_=((((e==0)=true->False)/\((e==0)=false->True)))) (⟨fun h0=>(by simp only[aFZ,aAO,aFK,aD5]at *;omega),fun h0=>trivial⟩)) (by kernel_rfl)
def aCF:DT:=(.node 1 qz (qi 4) (.leaf yh5) (.leaf yh5))
theorem Y1(l:Value):aCF.ok tb0 l [] [(51,[.agg sQ],qz),(294,[.agg sQ,.agg [(qi 10),(qi 11),(qi 12)]],qf)] .nil 60 LG 290 [.agg sQ,.agg [(qi 10),(qi 11),(qi 12)]] []=true:=by kernel_rfl
theorem aHe(d:Dt)(y:Int)(m:Int)(k:Int)(w0:World) (H0:Same w0 51 #[(aW d)] (.int .i64 0))(H1:Same w0 294 #[(aW d),(cvv y m k)] (.bool false)):Same w0 290 #[(aW d),(cvv y m k)] (cond (decide (0<d.sig)) (.tuple #[(r4 0 0 0 0),(.int .i64 1)]) (.tuple #[(r4 0 0 0 0),(.int .i64 1)])):=
 aG (Y1 (lv (dL d) [.int .i64 y,.int .i64 m,.int .i64 k])) (bW w0) (rH w0) .nil (.cons H0 (.cons H1 .nil)) (aJ (by kernel_rfl)) (by kernel_rfl)
def aCE:DT:=(.node 1 qz (qi 4) (.leaf yh5) (.leaf (.aS [yh0,qz])))
theorem Y0(l:Value):aCE.ok tb0 l [] [(51,[.agg sQ],qz),(294,[.agg sQ,.agg [(qi 10),(qi 11),(qi 12)]],qt),(295,[.agg sQ,.agg [(qi 10),(qi 11),(qi 12)]],.aS [rK q8 (qi 13) q8 (qi 14),qz])] .nil 60 LG 290 [.agg sQ,.agg [(qi 10),(qi 11),(qi 12)]] []=true:=by kernel_rfl
theorem aHd(d:Dt)(y:Int)(m:Int)(k:Int)(u:Int)(v:Int)(w0:World) (H0:Same w0 51 #[(aW d)] (.int .i64 0))(H1:Same w0 294 #[(aW d),(cvv y m k)] (.bool true))(H2:Same w0 295 #[(aW d),(cvv y m k)] (.tuple #[(r4 0 u 0 v),(.int .i64 0)])):Same w0 290 #[(aW d),(cvv y m k)] (cond (decide (0<d.sig)) (.tuple #[(r4 0 0 0 0),(.int .i64 1)]) (.tuple #[(r4 0 u 0 v),(.int .i64 0)])):=
 aG (Y0 (lv (dL d) [.int .i64 y,.int .i64 m,.int .i64 k,.int .i64 u,.int .i64 v])) (bW w0) (rH w0) .nil (.cons H0 (.cons H1 (.cons H2 .nil))) (aJ (by kernel_rfl)) (by kernel_rfl)
def aKv:DT:=(.node 0 (qi 10) qz DT.no (.leaf (.aS [(.v (.int .u8 0)),(qi 10)])))
theorem aFe(l:Value):aKv.ok tb0 l [] [(51,[.agg sQ],(qi 10))] .nil 60 LG 288 [.agg sQ] []=true:=by kernel_rfl
theorem aOV(d:Dt)(e:Int)(w0:World)(he:e≠0)(H0:Same w0 51 #[(aW d)] (.int .i64 e)):Same w0 288 #[(aW d)] (cond (e==0) (.bool false) (.tuple #[(.int .u8 0),(.int .i64 e)])):=
 aG (aFe (lv (dL d) [.int .i64 e])) (bW w0) (rH w0) .nil (.cons H0 .nil) (eG (by kernel_rfl:_=((((e==0)=true->False)/\((e==0)=false->True)))) (⟨fun h0=>(by simp only[aFZ,aAO,aFK,aD5]at *;omega),fun h0=>trivial⟩)) (by kernel_rfl)
def aKu:DT:=(.node 2 (qs 6) (.v (.string ⟨#[]⟩)) (.node 2 (qs 5) (.v (.string ⟨#[]⟩)) (.leaf (.aS [(.v (.int .u8 1)),qz])) (.leaf (.aS [(.v (.int .u8 2)),qz]))) (.leaf (.aS [(.v (.int .u8 3)),qz])))
theorem aFd(l:Value):aKu.ok tb0 l [] [(51,[.agg sQ],qz),(84,[(qs 5),.v (.string ⟨#[88]⟩)],qt)] .nil 60 LG 288 [.agg sQ] []=true:=by kernel_rfl
theorem aOU(d:Dt) (w0:World) (H0:Same w0 51 #[(aW d)] (.int .i64 0))(H1:Same w0 84 #[(.string d.mo),(.string ⟨#[88]⟩)] (.bool true)):Same w0 288 #[(aW d)] (cond (d.da.toList==(⟨#[]⟩:ByteArray).toList) (cond (d.mo.toList==(⟨#[]⟩:ByteArray).toList) (.tuple #[(.int .u8 1),(.int .i64 0)]) (.tuple #[(.int .u8 2),(.int .i64 0)])) (.tuple #[(.int .u8 3),(.int .i64 0)])):=
 aG (aFd (lv (dL d) [])) (bW w0) (rH w0) .nil (.cons H0 (.cons H1 .nil)) (aJ (by kernel_rfl)) (by kernel_rfl)
def aKt:DT:=(.node 2 (qs 6) (.v (.string ⟨#[]⟩)) (.node 2 (qs 5) (.v (.string ⟨#[]⟩)) (.leaf (.aS [(.v (.int .u8 1)),qz])) (.node 1 (.v (.int .i64 12)) (qi 10) (.leaf (.aS [(.v (.int .u8 0)),qz])) (.leaf (.aS [(.v (.int .u8 2)),qz])))) (.leaf (.aS [(.v (.int .u8 3)),qz])))
theorem aFc(l:Value):aKt.ok tb0 l [] [(51,[.agg sQ],qz),(84,[(qs 5),.v (.string ⟨#[88]⟩)],qf),(293,[(qs 5)],(qi 10))] .nil 60 LG 288 [.agg sQ] []=true:=by kernel_rfl
theorem aOT(d:Dt)(n:Int)(w0:World) (H0:Same w0 51 #[(aW d)] (.int .i64 0))(H1:Same w0 84 #[(.string d.mo),(.string ⟨#[88]⟩)] (.bool false))(H2:Same w0 293 #[(.string d.mo)] (.int .i64 n)):Same w0 288 #[(aW d)] (cond (d.da.toList==(⟨#[]⟩:ByteArray).toList) (cond (d.mo.toList==(⟨#[]⟩:ByteArray).toList) (.tuple #[(.int .u8 1),(.int .i64 0)]) (cond (decide (12<n)) (.tuple #[(.int .u8 0),(.int .i64 0)]) (.tuple #[(.int .u8 2),(.int .i64 0)]))) (.tuple #[(.int .u8 3),(.int .i64 0)])):=
 aG (aFc (lv (dL d) [.int .i64 n])) (bW w0) (rH w0) .nil (.cons H0 (.cons H1 (.cons H2 .nil))) (aJ (by kernel_rfl)) (by kernel_rfl)
def aGz:DT:=(.leaf qz)
theorem aBy(l:Value):aGz.ok tb0 l [] [(60,[.agg yh3],qz)] .nil 60 LG 94 [.agg sQ] []=true:=by kernel_rfl
theorem aLm(d:Dt) (w0:World) (H0:Same w0 60 #[(.agg #[(.bool d.neg),(.bool d.long),(.string d.dg),(.int .i64 d.ex),(.int .i64 d.sig)])] (.int .i64 0)):Same w0 94 #[(aW d)] (.int .i64 0):=
 aG (aBy (lv (dL d) [])) (bW w0) (rH w0) .nil (.cons H0 .nil) (aJ (by kernel_rfl)) (by kernel_rfl)
def aGy:DT:=(.node 1 qz (qi 4) (.node 2 (qs 5) (.v (.string ⟨#[]⟩)) (.node 0 (qi 10) (.v (.int .i64 24)) (.leaf (.v (.int .i64 1))) (.node 0 (qi 10) (.v (.int .i64 28)) (.leaf (.v (.int .i64 1))) (.node 0 (qi 10) (.v (.int .i64 30)) (.leaf (.v (.int .i64 1))) (.leaf (.v (.int .i64 1)))))) (.leaf qz)) (.node 0 (qi 10) (.v (.int .i64 24)) (.leaf (.v (.int .i64 1))) (.node 0 (qi 10) (.v (.int .i64 28)) (.leaf (.v (.int .i64 1))) (.node 0 (qi 10) (.v (.int .i64 30)) (.leaf (.v (.int .i64 1))) (.leaf (.v (.int .i64 1)))))))
theorem aBx(l:Value):aGy.ok tb0 l [] [(60,[.agg yh3],.v (.int .i64 1)),(35,[.agg sQ],(qi 10)),(122,[.agg yh3],.v (.int .i64 1))] .nil 60 LG 94 [.agg sQ] []=true:=by kernel_rfl
theorem aLl(d:Dt)(code:Int)(w0:World) (H0:Same w0 60 #[(.agg #[(.bool d.neg),(.bool d.long),(.string d.dg),(.int .i64 d.ex),(.int .i64 d.sig)])] (.int .i64 1))(H1:Same w0 35 #[(aW d)] (.int .i64 code))(H2:Same w0 122 #[(.agg #[(.bool d.neg),(.bool d.long),(.string d.dg),(.int .i64 d.ex),(.int .i64 d.sig)])] (.int .i64 1)):Same w0 94 #[(aW d)] (cond (decide (0<d.sig)) (cond (d.mo.toList==(⟨#[]⟩:ByteArray).toList) (cond (code==24) (.int .i64 1) (cond (code==28) (.int .i64 1) (cond (code==30) (.int .i64 1) (.int .i64 1)))) (.int .i64 0)) (cond (code==24) (.int .i64 1) (cond (code==28) (.int .i64 1) (cond (code==30) (.int .i64 1) (.int .i64 1))))):=
 aG (aBx (lv (dL d) [.int .i64 code])) (bW w0) (rH w0) .nil (.cons H0 (.cons H1 (.cons H2 .nil))) (aJ (by kernel_rfl)) (by kernel_rfl)
def aGx:DT:=(.node 1 qz (qi 4) (.node 2 (qs 5) (.v (.string ⟨#[]⟩)) (.node 0 (qi 10) (.v (.int .i64 24)) (.node 0 (qi 11) (.v (.int .i64 10000000000000000)) (.node 3 (qb 0) (qb 0) (.leaf (.v (.int .i64 1))) (.leaf qz)) (.leaf (.v (.int .i64 1)))) (.node 0 (qi 10) (.v (.int .i64 28)) (.node 0 (qi 11) (.v (.int .i64 10000000000000000)) (.node 3 (qb 0) (qb 0) (.leaf (.v (.int .i64 1))) (.leaf qz)) (.leaf (.v (.int .i64 1)))) (.node 0 (qi 10) (.v (.int .i64 30)) (.node 0 (qi 11) (.v (.int .i64 10000000000000000)) (.node 3 (qb 0) (qb 0) (.leaf (.v (.int .i64 1))) (.leaf qz)) (.leaf (.v (.int .i64 1)))) (.leaf (.v (.int .i64 1)))))) (.leaf qz)) (.node 0 (qi 10) (.v (.int .i64 24)) (.node 0 (qi 11) (.v (.int .i64 10000000000000000)) (.node 3 (qb 0) (qb 0) (.leaf (.v (.int .i64 1))) (.leaf qz)) (.leaf (.v (.int .i64 1)))) (.node 0 (qi 10) (.v (.int .i64 28)) (.node 0 (qi 11) (.v (.int .i64 10000000000000000)) (.node 3 (qb 0) (qb 0) (.leaf (.v (.int .i64 1))) (.leaf qz)) (.leaf (.v (.int .i64 1)))) (.node 0 (qi 10) (.v (.int .i64 30)) (.node 0 (qi 11) (.v (.int .i64 10000000000000000)) (.node 3 (qb 0) (qb 0) (.leaf (.v (.int .i64 1))) (.leaf qz)) (.leaf (.v (.int .i64 1)))) (.leaf (.v (.int .i64 1)))))))
theorem aBw(l:Value):aGx.ok tb0 l [] [(60,[.agg yh3],.v (.int .i64 1)),(35,[.agg sQ],(qi 10)),(122,[.agg yh3],qz),(91,[(qs 2),(qi 3)],.aS [(qi 11),(qi 12)])] .nil 60 LG 94 [.agg sQ] []=true:=by kernel_rfl
theorem aLk(d:Dt)(code:Int)(v:Int)(x:Int)(w0:World) (H0:Same w0 60 #[(.agg #[(.bool d.neg),(.bool d.long),(.string d.dg),(.int .i64 d.ex),(.int .i64 d.sig)])] (.int .i64 1))(H1:Same w0 35 #[(aW d)] (.int .i64 code))(H2:Same w0 122 #[(.agg #[(.bool d.neg),(.bool d.long),(.string d.dg),(.int .i64 d.ex),(.int .i64 d.sig)])] (.int .i64 0))(H3:Same w0 91 #[(.string d.dg),(.int .i64 d.ex)] (.tuple #[(.int .i64 v),(.int .i64 x)])):Same w0 94 #[(aW d)] (cond (decide (0<d.sig)) (cond (d.mo.toList==(⟨#[]⟩:ByteArray).toList) (cond (code==24) (cond (v==10000000000000000) (cond d.neg (.int .i64 1) (.int .i64 0)) (.int .i64 1)) (cond (code==28) (cond (v==10000000000000000) (cond d.neg (.int .i64 1) (.int .i64 0)) (.int .i64 1)) (cond (code==30) (cond (v==10000000000000000) (cond d.neg (.int .i64 1) (.int .i64 0)) (.int .i64 1)) (.int .i64 1)))) (.int .i64 0)) (cond (code==24) (cond (v==10000000000000000) (cond d.neg (.int .i64 1) (.int .i64 0)) (.int .i64 1)) (cond (code==28) (cond (v==10000000000000000) (cond d.neg (.int .i64 1) (.int .i64 0)) (.int .i64 1)) (cond (code==30) (cond (v==10000000000000000) (cond d.neg (.int .i64 1) (.int .i64 0)) (.int .i64 1)) (.int .i64 1))))):=
 aG (aBw (lv (dL d) [.int .i64 code,.int .i64 v,.int .i64 x])) (bW w0) (rH w0) .nil (.cons H0 (.cons H1 (.cons H2 (.cons H3 .nil)))) (aJ (by kernel_rfl)) (by kernel_rfl)
def aCD:DT:=(.node 0 (qi 10) qz (.leaf (.v (.int .i64 6))) (.node 2 (qs 5) (.v (.string ⟨#[]⟩)) (.node 2 (qs 6) (.v (.string ⟨#[]⟩)) (.leaf (qi 15)) (.leaf (.v (.int .i64 8)))) (.node 0 (qi 11) qz (.node 0 (qi 12) qz (.leaf (.v (.int .i64 7))) (.node 2 (qs 6) (.v (.string ⟨#[]⟩)) (.leaf (qi 15)) (.node 1 qz (qi 11) DT.no (.node 0 (qi 13) qz (.leaf (.v (.int .i64 8))) (.leaf (qi 15)))))) (.node 2 (qs 6) (.v (.string ⟨#[]⟩)) (.leaf (qi 15)) (.node 1 qz (qi 11) (.leaf (.v (.int .i64 8))) (.node 0 (qi 13) qz (.leaf (.v (.int .i64 8))) (.leaf (qi 15))))))))
theorem YZ(l:Value):aCD.ok tb0 l [] [(94,[.agg sQ],(qi 10)),(35,[.agg sQ],(qi 11)),(95,[(qs 5),.v (.int .i64 12)],(qi 12)),(95,[(qs 6),.v (.int .i64 31)],(qi 13)),(37,[.agg sQ],(qi 14)),(96,[.agg [(qu 7),(qu 8),(qu 9)],(qi 14)],(qi 15))] .nil 60 LG 71 [.agg sQ] []=true:=by kernel_rfl
theorem aHc(d:Dt)(yr:Int)(code:Int)(u:Int)(v:Int)(n:Int)(e:Int)(w0:World) (H0:Same w0 94 #[(aW d)] (.int .i64 yr))(H1:Same w0 35 #[(aW d)] (.int .i64 code))(H2:Same w0 95 #[(.string d.mo),(.int .i64 12)] (.int .i64 u))(H3:Same w0 95 #[(.string d.da),(.int .i64 31)] (.int .i64 v))(H4:Same w0 37 #[(aW d)] (.int .i64 n))(H5:Same w0 96 #[(.agg #[(.int .u8 d.m0),(.int .u8 d.m1),(.int .u8 d.m2)]),(.int .i64 n)] (.int .i64 e)):Same w0 71 #[(aW d)] (cond (yr==0) (.int .i64 6) (cond (d.mo.toList==(⟨#[]⟩:ByteArray).toList) (cond (d.da.toList==(⟨#[]⟩:ByteArray).toList) (.int .i64 e) (.int .i64 8)) (cond (code==0) (cond (u==0) (.int .i64 7) (cond (d.da.toList==(⟨#[]⟩:ByteArray).toList) (.int .i64 e) (cond (decide (0<code)) (.bool false) (cond (v==0) (.int .i64 8) (.int .i64 e))))) (cond (d.da.toList==(⟨#[]⟩:ByteArray).toList) (.int .i64 e) (cond (decide (0<code)) (.int .i64 8) (cond (v==0) (.int .i64 8) (.int .i64 e))))))):=
 aG (YZ (lv (dL d) [.int .i64 yr,.int .i64 code,.int .i64 u,.int .i64 v,.int .i64 n,.int .i64 e])) (bW w0) (rH w0) .nil (.cons H0 (.cons H1 (.cons H2 (.cons H3 (.cons H4 (.cons H5 .nil)))))) (eG (by kernel_rfl:_=((((yr==0)=true->True)/\((yr==0)=false->(((d.mo.toList==(⟨#[]⟩:ByteArray).toList)=true->(((d.da.toList==(⟨#[]⟩:ByteArray).toList)=true->True)/\((d.da.toList==(⟨#[]⟩:ByteArray).toList)=false->True)))/\((d.mo.toList==(⟨#[]⟩:ByteArray).toList)=false->(((code==0)=true->(((u==0)=true->True)/\((u==0)=false->(((d.da.toList==(⟨#[]⟩:ByteArray).toList)=true->True)/\((d.da.toList==(⟨#[]⟩:ByteArray).toList)=false->(((decide (0<code))=true->False)/\((decide (0<code))=false->(((v==0)=true->True)/\((v==0)=false->True)))))))))/\((code==0)=false->(((d.da.toList==(⟨#[]⟩:ByteArray).toList)=true->True)/\((d.da.toList==(⟨#[]⟩:ByteArray).toList)=false->(((decide (0<code))=true->True)/\((decide (0<code))=false->(((v==0)=true->True)/\((v==0)=false->True)))))))))))))) (⟨fun h0=>trivial,fun h0=>⟨fun h1=>⟨fun h2=>trivial,fun h2=>trivial⟩,fun h1=>⟨fun h2=>⟨fun h3=>trivial,fun h3=>⟨fun h4=>trivial,fun h4=>⟨fun h5=>(by simp only[aFZ,aAO,aFK,aD5]at *;omega),fun h5=>⟨fun h6=>trivial,fun h6=>trivial⟩⟩⟩⟩,fun h2=>⟨fun h3=>trivial,fun h3=>⟨fun h4=>trivial,fun h4=>⟨fun h5=>trivial,fun h5=>trivial⟩⟩⟩⟩⟩⟩)) (by kernel_rfl)
end Sk
end
end Go.Proofs.YtacggmlngekidaaGreatDoor
namespace Go.Proofs
open Go.Shelf
def Tryz.lays160_ren:Go.Shelf.Ren:=⟨fun|160=>153|232=>187|231=>186|227=>188|234=>190|233=>189|236=>192|235=>191|228=>212|271=>214|151=>185|197=>213|120=>228|152=>211|260=>227|137=>225|119=>226|224=>166|225=>165|217=>164|266=>202|n=>n,fun|9=>9|4=>4|3=>3|5=>5|117=>219|116=>218|0=>0|124=>222|21=>21|105=>245|46=>201|119=>267|139=>270|138=>269|n=>n,fun|3=>6|4=>7|n=>n⟩
theorem Tryz.lays160:Go.Proofs.Lays.n160 Tryz.prog Tryz.lays160_ren:={
 mixed:=by kernel_rfl
 f119:=Tryz.func226.trans (congrArg some (by kernel_rfl))
 f120:=Tryz.func228.trans (congrArg some (by kernel_rfl))
 f137:=Tryz.func225.trans (congrArg some (by kernel_rfl))
 f151:=Tryz.func185.trans (congrArg some (by kernel_rfl))
 f152:=Tryz.func211.trans (congrArg some (by kernel_rfl))
 f160:=Tryz.func153.trans (congrArg some (by kernel_rfl))
 f197:=Tryz.func213.trans (congrArg some (by kernel_rfl))
 f217:=Tryz.func164.trans (congrArg some (by kernel_rfl))
 f224:=Tryz.func166.trans (congrArg some (by kernel_rfl))
 f225:=Tryz.func165.trans (congrArg some (by kernel_rfl))
 f227:=Tryz.func188.trans (congrArg some (by kernel_rfl))
 f228:=Tryz.func212.trans (congrArg some (by kernel_rfl))
 f231:=Tryz.func186.trans (congrArg some (by kernel_rfl))
 f232:=Tryz.func187.trans (congrArg some (by kernel_rfl))
 f233:=Tryz.func189.trans (congrArg some (by kernel_rfl))
 f234:=Tryz.func190.trans (congrArg some (by kernel_rfl))
 f235:=Tryz.func191.trans (congrArg some (by kernel_rfl))
 f236:=Tryz.func192.trans (congrArg some (by kernel_rfl))
 f260:=Tryz.func227.trans (congrArg some (by kernel_rfl))
 f266:=Tryz.func202.trans (congrArg some (by kernel_rfl))
 f271:=Tryz.func214.trans (congrArg some (by kernel_rfl))
 t0:=Tryz.underlying0
 a0:=Tryz.isAgg0
 z0:=Tryz.sizeOf0
 v0:=Tryz.zeroValue0
 t3:=Tryz.underlying3
 a3:=Tryz.isAgg3
 z3:=Tryz.sizeOf3
 v3:=Tryz.zeroValue3
 t4:=Tryz.underlying4
 a4:=Tryz.isAgg4
 z4:=Tryz.sizeOf4
 v4:=Tryz.zeroValue4
 t5:=Tryz.underlying5
 a5:=Tryz.isAgg5
 z5:=Tryz.sizeOf5
 v5:=Tryz.zeroValue5
 t9:=Tryz.underlying9
 a9:=Tryz.isAgg9
 z9:=Tryz.sizeOf9
 v9:=Tryz.zeroValue9
 t21:=Tryz.underlying21
 a21:=Tryz.isAgg21
 z21:=Tryz.sizeOf21
 v21:=Tryz.zeroValue21
 t46:=Tryz.underlying201
 a46:=Tryz.isAgg201
 z46:=Tryz.sizeOf201
 v46:=Tryz.zeroValue201
 t105:=Tryz.underlying245
 a105:=Tryz.isAgg245
 z105:=Tryz.sizeOf245
 v105:=Tryz.zeroValue245
 t116:=Tryz.underlying218
 a116:=Tryz.isAgg218
 z116:=Tryz.sizeOf218
 t117:=Tryz.underlying219
 a117:=Tryz.isAgg219
 z117:=Tryz.sizeOf219
 v117:=Tryz.zeroValue219
 t119:=Tryz.underlying267
 a119:=Tryz.isAgg267
 z119:=Tryz.sizeOf267
 t124:=Tryz.underlying222
 a124:=Tryz.isAgg222
 z124:=Tryz.sizeOf222
 v124:=Tryz.zeroValue222
 t138:=Tryz.underlying269
 a138:=Tryz.isAgg269
 z138:=Tryz.sizeOf269
 v138:=Tryz.zeroValue269
 t139:=Tryz.underlying270
 a139:=Tryz.isAgg270
 z139:=Tryz.sizeOf270
 v139:=Tryz.zeroValue270
 g3:=by kernel_rfl
 g4:=by kernel_rfl }
open Go.RowKit in
theorem Tryz.strings_Trim_one(s:ByteArray)(c:UInt8)(hc:c.toNat<128)(w:World)(hs:s.size<=9223372036854775807):
 Calls Tryz.prog 153 #[.string s,.string ⟨#[c]⟩] w fun e w'=>e=.returned (.string ⟨(Lib.trimB s.data.toList c).toArray⟩)/\(w'=w\/w'=w.drew):=Any.strings_Trim_one Tryz.lays160 s c hc w hs
def Tryz.lays119_ren:Go.Shelf.Ren:=⟨fun|119=>226|n=>n,fun|21=>21|4=>4|n=>n,fun|n=>n⟩
theorem Tryz.lays119:Go.Proofs.Lays.n119 Tryz.prog Tryz.lays119_ren:={
 mixed:=by kernel_rfl
 f119:=Tryz.func226.trans (congrArg some (by kernel_rfl))
 t4:=Tryz.underlying4
 a4:=Tryz.isAgg4
 z4:=Tryz.sizeOf4
 v4:=Tryz.zeroValue4
 t21:=Tryz.underlying21
 a21:=Tryz.isAgg21
 z21:=Tryz.sizeOf21
 v21:=Tryz.zeroValue21 }
theorem Tryz.utf8_ValidRune(r:Int)(w:World):
 Calls Tryz.prog 226 #[.int .i32 r] w fun e w'=>e=.returned (.bool (Lib.validRune r))/\w'=w:=Any.utf8_ValidRune Tryz.lays119 r w
def Tryz.lays137_ren:Go.Shelf.Ren:=⟨fun|137=>225|217=>164|266=>202|n=>n,fun|9=>9|5=>5|3=>3|n=>n,fun|n=>n⟩
theorem Tryz.lays137:Go.Proofs.Lays.n137 Tryz.prog Tryz.lays137_ren:={
 mixed:=by kernel_rfl
 f137:=Tryz.func225.trans (congrArg some (by kernel_rfl))
 f217:=Tryz.func164.trans (congrArg some (by kernel_rfl))
 f266:=Tryz.func202.trans (congrArg some (by kernel_rfl))
 t3:=Tryz.underlying3
 a3:=Tryz.isAgg3
 z3:=Tryz.sizeOf3
 v3:=Tryz.zeroValue3
 t5:=Tryz.underlying5
 a5:=Tryz.isAgg5
 z5:=Tryz.sizeOf5
 v5:=Tryz.zeroValue5
 t9:=Tryz.underlying9
 a9:=Tryz.isAgg9
 z9:=Tryz.sizeOf9
 v9:=Tryz.zeroValue9 }
open Go.RowKit in
theorem Tryz.strings_IndexByte(s:ByteArray)(c:Int)(w:World):
 Calls Tryz.prog 225 #[.string s,.int .u8 c] w fun e w'=>e=.returned (.int .i64 (Lib.indexByte s.data.toList c.toNat.toUInt8))/\w'=w:=Any.strings_IndexByte Tryz.lays137 s c w
def Tryz.laysC172_ren:Go.Shelf.Ren:=⟨fun|172=>129|244=>150|245=>151|247=>178|279=>179|280=>180|281=>181|282=>182|287=>206|316=>207|171=>209|205=>208|321=>222|322=>223|243=>224|246=>229|283=>230|284=>231|285=>232|286=>233|129=>235|317=>234|318=>236|319=>237|320=>238|337=>239|338=>240|n=>n,fun|9=>9|3=>3|75=>173|76=>174|4=>4|5=>5|167=>206|37=>207|0=>0|85=>208|2=>2|168=>210|53=>237|175=>238|46=>201|210=>241|127=>262|145=>265|143=>263|21=>21|171=>271|173=>274|212=>277|51=>234|20=>20|213=>278|232=>281|233=>282|80=>77|n=>n,fun|15=>3|16=>4|17=>8|18=>9|19=>10|n=>n⟩
theorem Tryz.laysC172:Go.Proofs.LaysC.n172 Tryz.prog Tryz.laysC172_ren:={
 mixed:=by kernel_rfl
 f129:=Tryz.func235.trans (congrArg some (by kernel_rfl))
 f171:=Tryz.func209.trans (congrArg some (by kernel_rfl))
 f172:=Tryz.func129.trans (congrArg some (by kernel_rfl))
 f205:=Tryz.func208.trans (congrArg some (by kernel_rfl))
 f243:=Tryz.func224.trans (congrArg some (by kernel_rfl))
 f244:=Tryz.func150.trans (congrArg some (by kernel_rfl))
 f245:=Tryz.func151.trans (congrArg some (by kernel_rfl))
 f246:=Tryz.func229.trans (congrArg some (by kernel_rfl))
 f247:=Tryz.func178.trans (congrArg some (by kernel_rfl))
 f279:=Tryz.func179.trans (congrArg some (by kernel_rfl))
 f280:=Tryz.func180.trans (congrArg some (by kernel_rfl))
 f281:=Tryz.func181.trans (congrArg some (by kernel_rfl))
 f282:=Tryz.func182.trans (congrArg some (by kernel_rfl))
 f283:=Tryz.func230.trans (congrArg some (by kernel_rfl))
 f284:=Tryz.func231.trans (congrArg some (by kernel_rfl))
 f285:=Tryz.func232.trans (congrArg some (by kernel_rfl))
 f286:=Tryz.func233.trans (congrArg some (by kernel_rfl))
 f287:=Tryz.func206.trans (congrArg some (by kernel_rfl))
 f316:=Tryz.func207.trans (congrArg some (by kernel_rfl))
 f317:=Tryz.func234.trans (congrArg some (by kernel_rfl))
 f318:=Tryz.func236.trans (congrArg some (by kernel_rfl))
 f319:=Tryz.func237.trans (congrArg some (by kernel_rfl))
 f320:=Tryz.func238.trans (congrArg some (by kernel_rfl))
 f321:=Tryz.func222.trans (congrArg some (by kernel_rfl))
 f322:=Tryz.func223.trans (congrArg some (by kernel_rfl))
 f337:=Tryz.func239.trans (congrArg some (by kernel_rfl))
 f338:=Tryz.func240.trans (congrArg some (by kernel_rfl))
 t0:=Tryz.underlying0
 a0:=Tryz.isAgg0
 z0:=Tryz.sizeOf0
 v0:=Tryz.zeroValue0
 t2:=Tryz.underlying2
 a2:=Tryz.isAgg2
 z2:=Tryz.sizeOf2
 v2:=Tryz.zeroValue2
 t3:=Tryz.underlying3
 a3:=Tryz.isAgg3
 z3:=Tryz.sizeOf3
 v3:=Tryz.zeroValue3
 t4:=Tryz.underlying4
 a4:=Tryz.isAgg4
 z4:=Tryz.sizeOf4
 v4:=Tryz.zeroValue4
 t5:=Tryz.underlying5
 a5:=Tryz.isAgg5
 z5:=Tryz.sizeOf5
 v5:=Tryz.zeroValue5
 t9:=Tryz.underlying9
 a9:=Tryz.isAgg9
 z9:=Tryz.sizeOf9
 v9:=Tryz.zeroValue9
 t20:=Tryz.underlying20
 a20:=Tryz.isAgg20
 z20:=Tryz.sizeOf20
 v20:=Tryz.zeroValue20
 t21:=Tryz.underlying21
 a21:=Tryz.isAgg21
 z21:=Tryz.sizeOf21
 v21:=Tryz.zeroValue21
 t37:=Tryz.underlying207
 a37:=Tryz.isAgg207
 z37:=Tryz.sizeOf207
 v37:=Tryz.zeroValue207
 t46:=Tryz.underlying201
 a46:=Tryz.isAgg201
 z46:=Tryz.sizeOf201
 v46:=Tryz.zeroValue201
 t51:=Tryz.underlying234
 a51:=Tryz.isAgg234
 z51:=Tryz.sizeOf234
 v51:=Tryz.zeroValue234
 t53:=Tryz.underlying237
 a53:=Tryz.isAgg237
 z53:=Tryz.sizeOf237
 v53:=Tryz.zeroValue237
 t75:=Tryz.underlying173
 a75:=Tryz.isAgg173
 z75:=Tryz.sizeOf173
 v75:=Tryz.zeroValue173
 t76:=Tryz.underlying174
 a76:=Tryz.isAgg174
 z76:=Tryz.sizeOf174
 v76:=Tryz.zeroValue174
 t85:=Tryz.underlying208
 a85:=Tryz.isAgg208
 z85:=Tryz.sizeOf208
 v85:=Tryz.zeroValue208
 t127:=Tryz.underlying262
 a127:=Tryz.isAgg262
 z127:=Tryz.sizeOf262
 v127:=Tryz.zeroValue262
 t143:=Tryz.underlying263
 a143:=Tryz.isAgg263
 z143:=Tryz.sizeOf263
 v143:=Tryz.zeroValue263
 t145:=Tryz.underlying265
 a145:=Tryz.isAgg265
 z145:=Tryz.sizeOf265
 v145:=Tryz.zeroValue265
 t167:=Tryz.underlying206
 a167:=Tryz.isAgg206
 z167:=Tryz.sizeOf206
 v167:=Tryz.zeroValue206
 t168:=Tryz.underlying210
 a168:=Tryz.isAgg210
 z168:=Tryz.sizeOf210
 v168:=Tryz.zeroValue210
 t171:=Tryz.underlying271
 a171:=Tryz.isAgg271
 z171:=Tryz.sizeOf271
 v171:=Tryz.zeroValue271
 t173:=Tryz.underlying274
 a173:=Tryz.isAgg274
 z173:=Tryz.sizeOf274
 v173:=Tryz.zeroValue274
 t175:=Tryz.underlying238
 a175:=Tryz.isAgg238
 z175:=Tryz.sizeOf238
 v175:=Tryz.zeroValue238
 t210:=Tryz.underlying241
 a210:=Tryz.isAgg241
 z210:=Tryz.sizeOf241
 v210:=Tryz.zeroValue241
 t212:=Tryz.underlying277
 a212:=Tryz.isAgg277
 z212:=Tryz.sizeOf277
 v212:=Tryz.zeroValue277
 t213:=Tryz.underlying278
 a213:=Tryz.isAgg278
 z213:=Tryz.sizeOf278
 t232:=Tryz.underlying281
 a232:=Tryz.isAgg281
 z232:=Tryz.sizeOf281
 v232:=Tryz.zeroValue281
 t233:=Tryz.underlying282
 a233:=Tryz.isAgg282
 z233:=Tryz.sizeOf282
 v233:=Tryz.zeroValue282
 g15:=by kernel_rfl
 g16:=by kernel_rfl
 g17:=by kernel_rfl
 g18:=by kernel_rfl
 g19:=by kernel_rfl
 t80:=Tryz.underlying77
 a80:=Tryz.isAgg77
 z80:=Tryz.sizeOf77
 v80:=Tryz.zeroValue77
 i0:=by kernel_rfl
 i2:=by kernel_rfl
 i3:=by kernel_rfl
 i4:=by kernel_rfl
 i5:=by kernel_rfl
 i9:=by kernel_rfl
 i20:=by kernel_rfl
 i21:=by kernel_rfl
 i37:=by kernel_rfl
 i46:=by kernel_rfl
 i51:=by kernel_rfl
 i53:=by kernel_rfl
 i75:=by kernel_rfl
 i76:=by kernel_rfl
 i80:=by kernel_rfl
 i85:=by kernel_rfl
 i127:=by kernel_rfl
 i143:=by kernel_rfl
 i145:=by kernel_rfl
 i167:=by kernel_rfl
 i168:=by kernel_rfl
 i171:=by kernel_rfl
 i173:=by kernel_rfl
 i175:=by kernel_rfl
 i210:=by kernel_rfl
 i212:=by kernel_rfl
 i232:=by kernel_rfl
 i233:=by kernel_rfl
 m15:=by kernel_rfl
 m16:=by kernel_rfl
 m17:=by kernel_rfl
 m18:=by kernel_rfl
 m19:=by kernel_rfl
 c0:=by kernel_rfl
 c2:=by kernel_rfl
 c3:=by kernel_rfl
 c4:=by kernel_rfl
 c5:=by kernel_rfl
 c9:=by kernel_rfl
 c20:=by kernel_rfl
 c21:=by kernel_rfl
 c37:=by kernel_rfl
 c46:=by kernel_rfl
 c51:=by kernel_rfl
 c53:=by kernel_rfl
 c75:=by kernel_rfl
 c76:=by kernel_rfl
 c80:=by kernel_rfl
 c85:=by kernel_rfl
 c127:=by kernel_rfl
 c143:=by kernel_rfl
 c145:=by kernel_rfl
 c167:=by kernel_rfl
 c168:=by kernel_rfl
 c171:=by kernel_rfl
 c173:=by kernel_rfl
 c175:=by kernel_rfl
 c210:=by kernel_rfl
 c212:=by kernel_rfl
 c213:=by kernel_rfl
 c232:=by kernel_rfl
 c233:=by kernel_rfl }
open Go.RowKit in
theorem Tryz.strconv_Atoi_ok(s:ByteArray)(hmax:s.size<=9223372036854775806)(v:Int)(h:Lib.atoiAll s.data.toList=.ok v)(w:World):
 Calls Tryz.prog 129 #[.string s] w fun e w'=>e=.returned (.tuple #[.int .i64 v,.nilIface])/\(w'=w\/ ∃t,w'=Lib.bytesWorld w 5 t):=Any.strconv_Atoi_ok Tryz.laysC172 s hmax v h w
open Go.RowKit in
theorem Tryz.strconv_Atoi_syntax(s:ByteArray)(hlim:s.size<=281474976710656)(h0: ∀v,Lib.atoiAll s.data.toList≠ .ok v)(h1:Lib.atoiAll s.data.toList≠ .range)(ev:Value)(w:World)(hv:w.cell? ⟨3,0,none⟩=some ev)(hev:ev=.nilIface\/ ∃te pe,ev=.iface te pe):
 Calls Tryz.prog 129 #[.string s] w fun e w'=> ∃N,e=.returned (.tuple #[.int .i64 (0),.iface 210 (.pointer (some ⟨N,0,none⟩))])/\w.heap.size<=N/\w'.heap[N]? =some (.cells #[.string ⟨#[65,116,111,105]⟩,.string s,ev] 241 (0,0))/\Below w.heap.size w w':=by
 cases hh:Lib.atoiAll s.data.toList
 . exact absurd hh (h0 _)
 . exact Any.strconv_Atoi_syntax Tryz.laysC172 s hlim hh ev w hv hev
 exact absurd hh h1
open Go.RowKit in
theorem Tryz.strconv_Atoi_range(s:ByteArray)(hlim:s.size<=281474976710656)(h:Lib.atoiAll s.data.toList=.range)(ev:Value)(w:World)(hv:w.cell? ⟨4,0,none⟩=some ev)(hev:ev=.nilIface\/ ∃te pe,ev=.iface te pe):
 Calls Tryz.prog 129 #[.string s] w fun e w'=> ∃N,e=.returned (.tuple #[.int .i64 (Lib.atoiSat s.data.toList),.iface 210 (.pointer (some ⟨N,0,none⟩))])/\w.heap.size<=N/\w'.heap[N]? =some (.cells #[.string ⟨#[65,116,111,105]⟩,.string s,ev] 241 (0,0))/\Below w.heap.size w w':=Any.strconv_Atoi_range Tryz.laysC172 s hlim h ev w hv hev
def Tryz.laysC174_ren:Go.Shelf.Ren:=⟨fun|174=>193|247=>178|245=>151|287=>206|279=>179|280=>180|281=>181|282=>182|321=>222|322=>223|316=>207|171=>209|205=>208|243=>224|246=>229|283=>230|284=>231|285=>232|286=>233|129=>235|317=>234|318=>236|319=>237|320=>238|337=>239|338=>240|n=>n,fun|9=>9|3=>3|2=>2|75=>173|85=>208|4=>4|167=>206|5=>5|53=>237|175=>238|46=>201|168=>210|37=>207|0=>0|210=>241|21=>21|127=>262|145=>265|143=>263|171=>271|173=>274|212=>277|51=>234|20=>20|213=>278|232=>281|233=>282|80=>77|n=>n,fun|15=>3|16=>4|17=>8|18=>9|19=>10|n=>n⟩
theorem Tryz.laysC174:Go.Proofs.LaysC.n174 Tryz.prog Tryz.laysC174_ren:={
 mixed:=by kernel_rfl
 f129:=Tryz.func235.trans (congrArg some (by kernel_rfl))
 f171:=Tryz.func209.trans (congrArg some (by kernel_rfl))
 f174:=Tryz.func193.trans (congrArg some (by kernel_rfl))
 f205:=Tryz.func208.trans (congrArg some (by kernel_rfl))
 f243:=Tryz.func224.trans (congrArg some (by kernel_rfl))
 f245:=Tryz.func151.trans (congrArg some (by kernel_rfl))
 f246:=Tryz.func229.trans (congrArg some (by kernel_rfl))
 f247:=Tryz.func178.trans (congrArg some (by kernel_rfl))
 f279:=Tryz.func179.trans (congrArg some (by kernel_rfl))
 f280:=Tryz.func180.trans (congrArg some (by kernel_rfl))
 f281:=Tryz.func181.trans (congrArg some (by kernel_rfl))
 f282:=Tryz.func182.trans (congrArg some (by kernel_rfl))
 f283:=Tryz.func230.trans (congrArg some (by kernel_rfl))
 f284:=Tryz.func231.trans (congrArg some (by kernel_rfl))
 f285:=Tryz.func232.trans (congrArg some (by kernel_rfl))
 f286:=Tryz.func233.trans (congrArg some (by kernel_rfl))
 f287:=Tryz.func206.trans (congrArg some (by kernel_rfl))
 f316:=Tryz.func207.trans (congrArg some (by kernel_rfl))
 f317:=Tryz.func234.trans (congrArg some (by kernel_rfl))
 f318:=Tryz.func236.trans (congrArg some (by kernel_rfl))
 f319:=Tryz.func237.trans (congrArg some (by kernel_rfl))
 f320:=Tryz.func238.trans (congrArg some (by kernel_rfl))
 f321:=Tryz.func222.trans (congrArg some (by kernel_rfl))
 f322:=Tryz.func223.trans (congrArg some (by kernel_rfl))
 f337:=Tryz.func239.trans (congrArg some (by kernel_rfl))
 f338:=Tryz.func240.trans (congrArg some (by kernel_rfl))
 t0:=Tryz.underlying0
 a0:=Tryz.isAgg0
 z0:=Tryz.sizeOf0
 v0:=Tryz.zeroValue0
 t2:=Tryz.underlying2
 a2:=Tryz.isAgg2
 z2:=Tryz.sizeOf2
 v2:=Tryz.zeroValue2
 t3:=Tryz.underlying3
 a3:=Tryz.isAgg3
 z3:=Tryz.sizeOf3
 v3:=Tryz.zeroValue3
 t4:=Tryz.underlying4
 a4:=Tryz.isAgg4
 z4:=Tryz.sizeOf4
 v4:=Tryz.zeroValue4
 t5:=Tryz.underlying5
 a5:=Tryz.isAgg5
 z5:=Tryz.sizeOf5
 v5:=Tryz.zeroValue5
 t9:=Tryz.underlying9
 a9:=Tryz.isAgg9
 z9:=Tryz.sizeOf9
 v9:=Tryz.zeroValue9
 t20:=Tryz.underlying20
 a20:=Tryz.isAgg20
 z20:=Tryz.sizeOf20
 v20:=Tryz.zeroValue20
 t21:=Tryz.underlying21
 a21:=Tryz.isAgg21
 z21:=Tryz.sizeOf21
 v21:=Tryz.zeroValue21
 t37:=Tryz.underlying207
 a37:=Tryz.isAgg207
 z37:=Tryz.sizeOf207
 v37:=Tryz.zeroValue207
 t46:=Tryz.underlying201
 a46:=Tryz.isAgg201
 z46:=Tryz.sizeOf201
 v46:=Tryz.zeroValue201
 t51:=Tryz.underlying234
 a51:=Tryz.isAgg234
 z51:=Tryz.sizeOf234
 v51:=Tryz.zeroValue234
 t53:=Tryz.underlying237
 a53:=Tryz.isAgg237
 z53:=Tryz.sizeOf237
 v53:=Tryz.zeroValue237
 t75:=Tryz.underlying173
 a75:=Tryz.isAgg173
 z75:=Tryz.sizeOf173
 v75:=Tryz.zeroValue173
 t85:=Tryz.underlying208
 a85:=Tryz.isAgg208
 z85:=Tryz.sizeOf208
 v85:=Tryz.zeroValue208
 t127:=Tryz.underlying262
 a127:=Tryz.isAgg262
 z127:=Tryz.sizeOf262
 v127:=Tryz.zeroValue262
 t143:=Tryz.underlying263
 a143:=Tryz.isAgg263
 z143:=Tryz.sizeOf263
 v143:=Tryz.zeroValue263
 t145:=Tryz.underlying265
 a145:=Tryz.isAgg265
 z145:=Tryz.sizeOf265
 v145:=Tryz.zeroValue265
 t167:=Tryz.underlying206
 a167:=Tryz.isAgg206
 z167:=Tryz.sizeOf206
 v167:=Tryz.zeroValue206
 t168:=Tryz.underlying210
 a168:=Tryz.isAgg210
 z168:=Tryz.sizeOf210
 v168:=Tryz.zeroValue210
 t171:=Tryz.underlying271
 a171:=Tryz.isAgg271
 z171:=Tryz.sizeOf271
 v171:=Tryz.zeroValue271
 t173:=Tryz.underlying274
 a173:=Tryz.isAgg274
 z173:=Tryz.sizeOf274
 v173:=Tryz.zeroValue274
 t175:=Tryz.underlying238
 a175:=Tryz.isAgg238
 z175:=Tryz.sizeOf238
 v175:=Tryz.zeroValue238
 t210:=Tryz.underlying241
 a210:=Tryz.isAgg241
 z210:=Tryz.sizeOf241
 v210:=Tryz.zeroValue241
 t212:=Tryz.underlying277
 a212:=Tryz.isAgg277
 z212:=Tryz.sizeOf277
 v212:=Tryz.zeroValue277
 t213:=Tryz.underlying278
 a213:=Tryz.isAgg278
 z213:=Tryz.sizeOf278
 t232:=Tryz.underlying281
 a232:=Tryz.isAgg281
 z232:=Tryz.sizeOf281
 v232:=Tryz.zeroValue281
 t233:=Tryz.underlying282
 a233:=Tryz.isAgg282
 z233:=Tryz.sizeOf282
 v233:=Tryz.zeroValue282
 g15:=by kernel_rfl
 g16:=by kernel_rfl
 g17:=by kernel_rfl
 g18:=by kernel_rfl
 g19:=by kernel_rfl
 t80:=Tryz.underlying77
 a80:=Tryz.isAgg77
 z80:=Tryz.sizeOf77
 v80:=Tryz.zeroValue77
 i0:=by kernel_rfl
 i2:=by kernel_rfl
 i3:=by kernel_rfl
 i4:=by kernel_rfl
 i5:=by kernel_rfl
 i9:=by kernel_rfl
 i20:=by kernel_rfl
 i21:=by kernel_rfl
 i37:=by kernel_rfl
 i46:=by kernel_rfl
 i51:=by kernel_rfl
 i53:=by kernel_rfl
 i75:=by kernel_rfl
 i80:=by kernel_rfl
 i85:=by kernel_rfl
 i127:=by kernel_rfl
 i143:=by kernel_rfl
 i145:=by kernel_rfl
 i167:=by kernel_rfl
 i168:=by kernel_rfl
 i171:=by kernel_rfl
 i173:=by kernel_rfl
 i175:=by kernel_rfl
 i210:=by kernel_rfl
 i212:=by kernel_rfl
 i232:=by kernel_rfl
 i233:=by kernel_rfl
 m15:=by kernel_rfl
 m16:=by kernel_rfl
 m17:=by kernel_rfl
 m18:=by kernel_rfl
 m19:=by kernel_rfl
 c0:=by kernel_rfl
 c2:=by kernel_rfl
 c3:=by kernel_rfl
 c4:=by kernel_rfl
 c5:=by kernel_rfl
 c9:=by kernel_rfl
 c20:=by kernel_rfl
 c21:=by kernel_rfl
 c37:=by kernel_rfl
 c46:=by kernel_rfl
 c51:=by kernel_rfl
 c53:=by kernel_rfl
 c75:=by kernel_rfl
 c80:=by kernel_rfl
 c85:=by kernel_rfl
 c127:=by kernel_rfl
 c143:=by kernel_rfl
 c145:=by kernel_rfl
 c167:=by kernel_rfl
 c168:=by kernel_rfl
 c171:=by kernel_rfl
 c173:=by kernel_rfl
 c175:=by kernel_rfl
 c210:=by kernel_rfl
 c212:=by kernel_rfl
 c213:=by kernel_rfl
 c232:=by kernel_rfl
 c233:=by kernel_rfl }
open Go.RowKit in
theorem Tryz.strconv_ParseInt_10_at64_ok(s:ByteArray)(hmax:s.size<=9223372036854775806)(v:Int)(h:Lib.parseIntB 64 s.data.toList=.ok v)(w:World):
 Calls Tryz.prog 193 #[.string s,.int .i64 10,.int .i64 64] w fun e w'=>e=.returned (.tuple #[.int .i64 v,.nilIface])/\(w'=w\/ ∃t,w'=Lib.bytesWorld w 5 t):=Any.strconv_ParseInt_10_at64_ok Tryz.laysC174 s hmax v h w
def Tryz.lays144_ren:Go.Shelf.Ren:=⟨fun|144=>84|143=>116|219=>139|217=>164|225=>165|224=>166|267=>167|266=>202|314=>203|n=>n,fun|9=>9|4=>4|3=>3|5=>5|46=>201|146=>235|51=>234|n=>n,fun|1=>0|n=>n⟩
theorem Tryz.lays144:Go.Proofs.Lays.n144 Tryz.prog Tryz.lays144_ren:={
 mixed:=by kernel_rfl
 f143:=Tryz.func116.trans (congrArg some (by kernel_rfl))
 f144:=Tryz.func84.trans (congrArg some (by kernel_rfl))
 f217:=Tryz.func164.trans (congrArg some (by kernel_rfl))
 f219:=Tryz.func139.trans (congrArg some (by kernel_rfl))
 f224:=Tryz.func166.trans (congrArg some (by kernel_rfl))
 f225:=Tryz.func165.trans (congrArg some (by kernel_rfl))
 f266:=Tryz.func202.trans (congrArg some (by kernel_rfl))
 f267:=Tryz.func167.trans (congrArg some (by kernel_rfl))
 f314:=Tryz.func203.trans (congrArg some (by kernel_rfl))
 t3:=Tryz.underlying3
 a3:=Tryz.isAgg3
 z3:=Tryz.sizeOf3
 v3:=Tryz.zeroValue3
 t4:=Tryz.underlying4
 a4:=Tryz.isAgg4
 z4:=Tryz.sizeOf4
 v4:=Tryz.zeroValue4
 t5:=Tryz.underlying5
 a5:=Tryz.isAgg5
 z5:=Tryz.sizeOf5
 v5:=Tryz.zeroValue5
 t9:=Tryz.underlying9
 a9:=Tryz.isAgg9
 z9:=Tryz.sizeOf9
 v9:=Tryz.zeroValue9
 t46:=Tryz.underlying201
 a46:=Tryz.isAgg201
 z46:=Tryz.sizeOf201
 v46:=Tryz.zeroValue201
 t51:=Tryz.underlying234
 a51:=Tryz.isAgg234
 z51:=Tryz.sizeOf234
 v51:=Tryz.zeroValue234
 t146:=Tryz.underlying235
 a146:=Tryz.isAgg235
 z146:=Tryz.sizeOf235
 v146:=Tryz.zeroValue235
 g1:=by kernel_rfl }
open Go.RowKit Go.Lib in
theorem Tryz.strings_Contains_one(s:ByteArray)(c:UInt8)(w:World):
 Calls Tryz.prog 84 #[.string s,.string ⟨#[c]⟩] w fun e w'=>e=.returned (.bool (decide (0<=Lib.indexByte s.data.toList c)))/\w'=w:=Any.strings_Contains_one Tryz.lays144 s c w
def Tryz.laysGw15_ren:Go.Shelf.Ren:=⟨fun|15=>183|20=>210|n=>n,fun|9=>9|23=>215|3=>3|4=>4|0=>0|21=>21|n=>n,fun|n=>n⟩
theorem Tryz.laysGw15:Go.Proofs.LaysGw.n15 Tryz.prog Tryz.laysGw15_ren:={
 mixed:=by kernel_rfl
 f15:=Tryz.func183.trans (congrArg some (by kernel_rfl))
 f20:=Tryz.func210.trans (congrArg some (by kernel_rfl))
 t0:=Tryz.underlying0
 a0:=Tryz.isAgg0
 z0:=Tryz.sizeOf0
 v0:=Tryz.zeroValue0
 i0:=by kernel_rfl
 t3:=Tryz.underlying3
 a3:=Tryz.isAgg3
 z3:=Tryz.sizeOf3
 v3:=Tryz.zeroValue3
 i3:=by kernel_rfl
 t4:=Tryz.underlying4
 a4:=Tryz.isAgg4
 z4:=Tryz.sizeOf4
 v4:=Tryz.zeroValue4
 i4:=by kernel_rfl
 t9:=Tryz.underlying9
 a9:=Tryz.isAgg9
 z9:=Tryz.sizeOf9
 v9:=Tryz.zeroValue9
 i9:=by kernel_rfl
 t21:=Tryz.underlying21
 a21:=Tryz.isAgg21
 z21:=Tryz.sizeOf21
 v21:=Tryz.zeroValue21
 i21:=by kernel_rfl
 t23:=Tryz.underlying215
 a23:=Tryz.isAgg215
 z23:=Tryz.sizeOf215
 v23:=Tryz.zeroValue215
 i23:=by kernel_rfl }
def Tryz.lays151_ren:Go.Shelf.Ren:=⟨fun|151=>185|152=>211|137=>225|119=>226|224=>166|225=>165|217=>164|266=>202|n=>n,fun|9=>9|21=>21|4=>4|3=>3|5=>5|0=>0|46=>201|n=>n,fun|n=>n⟩
theorem Tryz.lays151:Go.Proofs.Lays.n151 Tryz.prog Tryz.lays151_ren:={
 mixed:=by kernel_rfl
 f119:=Tryz.func226.trans (congrArg some (by kernel_rfl))
 f137:=Tryz.func225.trans (congrArg some (by kernel_rfl))
 f151:=Tryz.func185.trans (congrArg some (by kernel_rfl))
 f152:=Tryz.func211.trans (congrArg some (by kernel_rfl))
 f217:=Tryz.func164.trans (congrArg some (by kernel_rfl))
 f224:=Tryz.func166.trans (congrArg some (by kernel_rfl))
 f225:=Tryz.func165.trans (congrArg some (by kernel_rfl))
 f266:=Tryz.func202.trans (congrArg some (by kernel_rfl))
 t0:=Tryz.underlying0
 a0:=Tryz.isAgg0
 z0:=Tryz.sizeOf0
 v0:=Tryz.zeroValue0
 t3:=Tryz.underlying3
 a3:=Tryz.isAgg3
 z3:=Tryz.sizeOf3
 v3:=Tryz.zeroValue3
 t4:=Tryz.underlying4
 a4:=Tryz.isAgg4
 z4:=Tryz.sizeOf4
 v4:=Tryz.zeroValue4
 t5:=Tryz.underlying5
 a5:=Tryz.isAgg5
 z5:=Tryz.sizeOf5
 v5:=Tryz.zeroValue5
 t9:=Tryz.underlying9
 a9:=Tryz.isAgg9
 z9:=Tryz.sizeOf9
 v9:=Tryz.zeroValue9
 t21:=Tryz.underlying21
 a21:=Tryz.isAgg21
 z21:=Tryz.sizeOf21
 v21:=Tryz.zeroValue21
 t46:=Tryz.underlying201
 a46:=Tryz.isAgg201
 z46:=Tryz.sizeOf201
 v46:=Tryz.zeroValue201 }
open Go.RowKit Go.Lib in
theorem Tryz.strings_ContainsRune_ascii(s:ByteArray)(r:Int)(w:World)(h0:0<=r)(h1:r<128):
 Calls Tryz.prog 185 #[.string s,.int .i32 r] w fun e w'=>e=.returned (.bool (decide (0<=Lib.indexByte s.data.toList r.toNat.toUInt8)))/\w'=w:=Any.strings_ContainsRune_ascii Tryz.lays151 s r w h0 h1
def Tryz.lays264_ren:Go.Shelf.Ren:=⟨fun|264=>215|n=>n,fun|53=>237|46=>201|n=>n,fun|n=>n⟩
theorem Tryz.lays264:Go.Proofs.Lays.n264 Tryz.prog Tryz.lays264_ren:={
 mixed:=by kernel_rfl
 f264:=Tryz.func215.trans (congrArg some (by kernel_rfl))
 t46:=Tryz.underlying201
 a46:=Tryz.isAgg201
 z46:=Tryz.sizeOf201
 v46:=Tryz.zeroValue201
 t53:=Tryz.underlying237
 a53:=Tryz.isAgg237
 z53:=Tryz.sizeOf237
 v53:=Tryz.zeroValue237 }
open Go.RowKit Go.Lib in
theorem Tryz.bits_Mul64(x y:Nat)(hx:x<18446744073709551616)(hy:y<18446744073709551616)(w:World):
 Calls Tryz.prog 215 #[.int .u64 x,.int .u64 y] w fun e w'=>e=.returned (.tuple #[.int .u64 ((x * y / 18446744073709551616:Nat):Int),.int .u64 ((x * y % 18446744073709551616:Nat):Int)])/\w'=w:=Any.bits_Mul64 Tryz.lays264 x y hx hy w
open Go.RowKit Go.Lib in
theorem Tryz.strings_IndexFunc_grows(g:Nat)(lb:Array Value)(eg: ∀args w,(callFunc g args).run Tryz.prog w=.ok (.enter g args) w)(p:Nat->Bool)(s:ByteArray)(w:World)(hp:PredGrows Tryz.prog g lb p w):
 Calls Tryz.prog 183 #[.string s,.func (.func g) #[] lb] w fun e w'=>e=.returned (.int .i64 (Lib.idxFunc p true s))/\Below w.heap.size w w':=Any.strings_IndexFunc_grows Tryz.laysGw15 g lb eg p s w hp
def Tryz.lays112_ren:Go.Shelf.Ren:=⟨fun|112=>112|n=>n,fun|28=>114|3=>3|4=>4|0=>0|n=>n,fun|n=>n⟩
theorem Tryz.lays112:Go.Proofs.Lays.n112 Tryz.prog Tryz.lays112_ren:={
 mixed:=by kernel_rfl
 f112:=Tryz.func112.trans (congrArg some (by kernel_rfl))
 t0:=Tryz.underlying0
 a0:=Tryz.isAgg0
 z0:=Tryz.sizeOf0
 v0:=Tryz.zeroValue0
 t3:=Tryz.underlying3
 a3:=Tryz.isAgg3
 z3:=Tryz.sizeOf3
 v3:=Tryz.zeroValue3
 t4:=Tryz.underlying4
 a4:=Tryz.isAgg4
 z4:=Tryz.sizeOf4
 v4:=Tryz.zeroValue4
 t28:=Tryz.underlying114
 a28:=Tryz.isAgg114
 z28:=Tryz.sizeOf114
 v28:=Tryz.zeroValue114 }
open Go.RowKit Go.Lib Go.Sort in
theorem Tryz.slices_Reverse_int(blk off cap:Nat)(zs:List Int)(w:World)(hH:Holds (Value.int .i64) w blk off zs.toArray)(hsz:zs.length<=9223372036854775807):
 Calls Tryz.prog 112 #[.slice (some ⟨blk,off,none⟩) zs.length cap] w fun e w'=>e=.returned (.tuple #[])/\ ∃n,w'=putRow (Value.int .i64) (Sort.ahead w n) blk off zs.reverse.toArray:=Any.slices_Reverse_int Tryz.lays112 blk off cap zs w hH hsz
def Tryz.laysNm215_ren:Go.Shelf.Ren:=⟨fun|15=>111|n=>n,fun|22=>114|3=>3|4=>4|n=>n,fun|n=>n⟩
theorem Tryz.laysNm215:Go.Proofs.Lays2.n15 Tryz.prog Tryz.laysNm215_ren:={
 mixed:=by kernel_rfl
 f15:=Tryz.func111.trans (congrArg some (by kernel_rfl))
 t3:=Tryz.underlying3
 a3:=Tryz.isAgg3
 z3:=Tryz.sizeOf3
 v3:=Tryz.zeroValue3
 t4:=Tryz.underlying4
 a4:=Tryz.isAgg4
 z4:=Tryz.sizeOf4
 v4:=Tryz.zeroValue4
 t22:=Tryz.underlying114
 a22:=Tryz.isAgg114
 z22:=Tryz.sizeOf114
 v22:=Tryz.zeroValue114
 i3:=by kernel_rfl }
open Go.RowKit Go.Lib in
theorem Tryz.slices_Clone_int(b off n c:Nat)(zs:List Int)(w:World)(hz:n<=zs.length)(hbig:n * 8<=140737488355328)(hc: ∀j,j<zs.length->w.cell? ⟨b,off+j,none⟩=some (.int .i64 (zs.getD j 0))):
 Calls Tryz.prog 111 #[.slice (some ⟨b,off,none⟩) n c] w fun e w'=> ∃v',e=.returned v'/\w'.ownsRow w.heap.size 3 1 v' n ((zs.take n).map (Value.int .i64))/\v'≠ .slice none 0 0/\Below w.heap.size w w':=Any.slices_Clone_int Tryz.laysNm215 b off n c zs w hz hbig hc
end Go.Proofs
namespace Go.Proofs.YtacggmlngekidaaGreatDoor
section
open Go.RowKit
namespace Bk
open Un (ba bt ri rb aU bF)
theorem yR(n:Int)(w:World):Calls Tryz.prog 130 #[.int .i64 n] w fun r w'=>r=.returned (.int .i64 (if 21<=n/\n<=41 then 0 else 7))/\w=w':=by
 by_cases a:n<21
 . go_enter Tryz.func130,Tryz.ntmps130
   go_wp2
   go_ret
   exact⟨by first|rfl|exact ri (by rw[aB9 (by omega)]),rfl⟩
 by_cases b:42<=n
 . go_enter Tryz.func130,Tryz.ntmps130
   go_wp2
   go_ret
   exact⟨by first|rfl|exact ri (by rw[aB9 (by omega)]),rfl⟩
 go_enter Tryz.func130,Tryz.ntmps130
 go_wp2
 go_ret
 exact⟨by first|rfl|exact ri (by rw[aFV (by omega)]),rfl⟩
theorem U9(a b c n:Int)(w:World)(a0:0<=a)(b0:0<=b)(c0:0<=c)(n0:1<=n)(n1:n<=3):
 Calls Tryz.prog 108 #[.agg #[.int .u8 a,.int .u8 b,.int .u8 c],.int .i64 n] w fun r w'=>r=.returned (.int .i64 (jZ a b c n))/\Below w.heap.size w w':=by
 obtain rfl|rfl|rfl:n=1\/n=2\/n=3:=by omega
 . exact Sk.rJ (Sk.aLt a b c w) (by unfold jZ;simp only[aG3,aFK,aFZ];(repeat' split)<;>first|rfl|(exfalso;omega))
 . exact Sk.rJ (Sk.aLs a b c w) (by unfold jZ;simp only[aG3,aFK,aFZ];(repeat' split)<;>first|rfl|(exfalso;omega))
 exact Sk.rJ (Sk.aLr a b c w) (by unfold jZ;simp only[aG3,aFK,aFZ];(repeat' split)<;>first|rfl|(exfalso;omega))
theorem RF(n:Nat)(w:World)(h:n<=18):Calls Tryz.prog 194 #[.int .i64 n] w fun r w'=>r=.returned (.tuple #[.int .i64 (p10 n),.int .i64 0])/\w=w':=by
 go_enter Tryz.func194,Tryz.ntmps194
 go_wp2
 go_loop [4,10] (fun p i=> ∃k:Nat,k<=n/\i=.int .i64 k/\p=.int .i64 (p10 k)) (fun _ i=>n - (intOf i).toNat)
 case atStart=>exact⟨0,aKS _,rfl,rfl⟩
 case round=>
  obtain⟨k,hk,rfl,rfl⟩:=hrel
  by_cases hlt:k<n
  . have hb:=aHW (k+1) (by omega);have hs:=YJ k;have hb2:p10 k * 10<=1000000000000000000/\1<=p10 k * 10:=by rw[<-hs];omega
    have HS:=GK hs;clear hs hb
    go_wp2
    go_round
    case rel=>exact⟨k+1,by omega,by go_num,by rw[HS.out]⟩
    case measure=>simp[intOf];omega
  have e:k=n:=by omega
  subst e
  go_wp2
  go_ret2
  exact⟨rfl,rfl⟩
end Bk
end
section
open Go.RowKit Go.Lib
namespace Bk
open Un (ba bt ri rb)
theorem below_drewN{B:Nat}{w W:World}(h:Below B w W): ∀n,Below B w (W.drewN n)
 |0=>h
 |n+1=>(below_drewN h n).drew
def Asc(s:ByteArray):Prop:= ∀i (h:i<s.size),(s[i]'h).toNat<128
theorem VF(l:List UInt8)(c:UInt8)(h: ∀b ∈ l,b.toNat<128)(hc:128<=c.toNat):Lib.indexByte l c= -1:=by
 induction l with
 |nil=>rfl
 | cons b l ih=>
  have hb:=h b (aG1 ..);have hne:(b==c)=false:=by
   rw[aAO];rintro rfl;omega
  unfold Lib.indexByte;rw[ih (fun x hx=>h x (aHg _ hx)),hne]
  rfl
theorem aAz{s:ByteArray}(hs:Asc s)(a b:Nat): ∀x ∈ (s.extract a b).data.toList,x.toNat<128:=by
 intro x hx;have h1:x ∈ s.data.toList:=by
  rw[aU3,aVb]at hx;unfold List.extract at hx;exact aTs (aTq hx)
 obtain⟨i,hi,rfl⟩:=aNI h1;have:=hs i (by simpa using hi);rwa[aUm]at this
theorem aAc(r:Int)(e2:2<=(Utf8.encode r).size)(eb:128<=((Utf8.encode r)[(Utf8.encode r).size - 1]'(by omega)).toNat): ∀k (h:k<(Utf8.encode r).size),k+1=(Utf8.encode r).size->128<=((Utf8.encode r)[k]'h).toNat:=by
 intro k h e;have hk:k=(Utf8.encode r).size - 1:=by omega
 subst hk;exact eb
theorem PV(s:ByteArray)(hs:Asc s)(h5:s.size<=1000)(w:World):
 Calls Tryz.prog 211 #[.string s,.int .i32 65533] w fun e w'=>e=.returned (.int .i64 (-1))/\Below w.heap.size w w':=by
 have HS:=GK hs;clear hs
 go_enter Tryz.func211,Tryz.ntmps211
 go_wp2
 go_loopg [] s.size (fun gf wx=> ∃pos:Nat,wx.heap[w.heap.size]? =some (.stringIter s pos)/\Below w.heap.size w wx/\s.size<=pos+gf)
 case atStart=>exact⟨0,World.iter_heap w s 0,(aAL _ w).alloc (aCU _) _,by omega⟩
 case round=>
  obtain⟨pos,hit,hbw,hfu⟩:=hrel
  by_cases hps:pos<s.size
  . obtain⟨g',rfl⟩: ∃g',gk=g'+1:=⟨gk - 1,by omega⟩;have hnx: ∀ty,(Instr.next (.pointer (some ⟨w.heap.size,0,none⟩)) true ty).run Tryz.prog wr=_:=fun ty=>Lib.run_next_any_at wr w.heap.size s pos ty hit hps;have hde:=aV3 s pos hps (HS.out pos hps);have hlt:=HS.out pos hps;rw[hde]at hnx;generalize (s[pos]'hps).toNat=R at hnx hlt hde;have hit2:=Lib.iterAt_heap wr w.heap.size s pos (pos+1) hit;have hbw2:=Lib.below_iterAt hbw (k:=w.heap.size) (aCU _) s (pos+1);clear hde
    go_wp2
    go_roundg g'
    case measure=>omega
    case rel=>exact⟨pos+1,hit2,hbw2,by omega⟩
  have hnx: ∀ty,(Instr.next (.pointer (some ⟨w.heap.size,0,none⟩)) true ty).run Tryz.prog wr=_:=fun ty=>Lib.run_next_end_at wr w.heap.size s pos ty hit hps
  go_wp2
  go_ret
  exact⟨rfl,hbw⟩
theorem VE (s:ByteArray) (hs:Asc s) (h4:4<=s.size) (h5:s.size<=1000) (r:Int) (h0:128<=r) (h1:r<=1114111) (w:World):
 Calls Tryz.prog 211 #[.string s,.int .i32 r] w fun e w'=>e=.returned (.int .i64 (-1))/\Below w.heap.size w w':=by
 by_cases hr:r=65533
 . subst hr;exact PV s hs h5 w
 have HV:=fun w=>(Tryz.utf8_ValidRune r w).mono (fun _ _ h=>(⟨h.1,h.2.symm⟩:_/\w=_))
 cases hv:Lib.validRune r
 . rw[hv]at HV;replace HV:=GK HV;clear hv hs
   go_enter Tryz.func211,Tryz.ntmps211
   go_wp2_with (go_at_call 226;with_reducible refine(HV.out _).mono ?_;rintro _ w' ⟨rfl,rfl⟩)
   go_ret
   exact⟨rfl,aAL _ _⟩
 rw [hv]at HV;replace HV:=GK HV;have hv2:Utf8.valid r=true:=by
  unfold Lib.validRune at hv;have:=aK1 hv;unfold Utf8.valid;simp;omega
 obtain⟨e2,e4,eb⟩:=encode_facts r hv2 h0;have eb:=eb (by omega);have HB: ∀(t:ByteArray) (c:UInt8) (w:World),(∀b ∈ t.data.toList,b.toNat<128)->128<=c.toNat->Calls Tryz.prog 225 #[.string t,.int .u8 c.toNat] w fun e w'=>e=.returned (.int .i64 (-1))/\w=w':=by
  intro t c w h hc;have:=Tryz.strings_IndexByte t (c.toNat:Int) w;rw[show ((c.toNat:Int)).toNat.toUInt8=c by rw[aPS];exact UInt8.ofNat_toNat]at this;rw[VF _ _ h hc]at this;exact this.mono (fun _ _ h=>⟨h.1,h.2.symm⟩)
 replace HB:=GK HB;clear hv hv2;have hasc:=hs;have HX: ∀k:Nat,∀b ∈ (s.extract k s.size).data.toList,b.toNat<128:=fun k=>aAz hs k s.size;replace HX:=GK HX;have l1:1<s.size:=by omega
 have l2:2<s.size:=by omega
 have l3:3<s.size:=by omega
 have g1:=hs 1 l1;have g2:=hs 2 l2;have g3:=hs 3 l3;have HE:=GK (aAc r e2 eb);clear hasc hs;obtain ha|ha|ha:(Utf8.encode r).size=2\/(Utf8.encode r).size=3\/(Utf8.encode r).size=4:=by omega
 . have hk:1<(Utf8.encode r).size:=by omega
   have hlast:128<=((Utf8.encode r)[1]'hk).toNat:=HE.out 1 hk (by omega);clear HE e2 e4 eb
   go_enter Tryz.func211,Tryz.ntmps211
   go_wp2_with (go_at_call 226;with_reducible refine(HV.out _).mono ?_;rintro _ w' ⟨rfl,rfl⟩)
   go_step3
   go_wp2
   go_loopw [9,10] (fun s9 s10 wx=>s9=.int .i64 1/\s10=.int .i64 0/\wx=w) (fun _ _ _=>1)
   case atStart=>exact⟨by first|rfl|rw[ha],rfl,rfl⟩
   case round=>
    obtain⟨rfl,rfl,rfl⟩:=hrel;have hne:(((s[1]'l1).toNat:Int) !=(((Utf8.encode r)[1]'hk).toNat:Int))=true:=by rw[aLa];omega
    go_wp2
    go_step3
    go_wp2
    go_quiet (fail)
    go_wp2
    go_quiet ((go_at_call 225;(refine(HB.out _ _ _ (HX.out _) hlast).mono ?_);rintro e w' ⟨rfl,rfl⟩;exact⟨rfl,_,rfl⟩))
    go_wp2
    rw[aRN]
    go_wp2
    rw[aRN]
    go_ret
    exact⟨rfl,below_drewN (aAL _ _) _⟩
 . have hk:2<(Utf8.encode r).size:=by omega
   have hlast:128<=((Utf8.encode r)[2]'hk).toNat:=HE.out 2 hk (by omega);clear HE e2 e4 eb
   go_enter Tryz.func211,Tryz.ntmps211
   go_wp2_with (go_at_call 226;with_reducible refine(HV.out _).mono ?_;rintro _ w' ⟨rfl,rfl⟩)
   go_step3
   go_wp2
   go_loopw [9,10] (fun s9 s10 wx=>s9=.int .i64 2/\s10=.int .i64 0/\wx=w) (fun _ _ _=>1)
   case atStart=>exact⟨by first|rfl|rw[ha],rfl,rfl⟩
   case round=>
    obtain⟨rfl,rfl,rfl⟩:=hrel;have hne:(((s[2]'l2).toNat:Int) !=(((Utf8.encode r)[2]'hk).toNat:Int))=true:=by rw[aLa];omega
    go_wp2
    go_step3
    go_wp2
    go_quiet (fail)
    go_wp2
    go_quiet ((go_at_call 225;(refine(HB.out _ _ _ (HX.out _) hlast).mono ?_);rintro e w' ⟨rfl,rfl⟩;exact⟨rfl,_,rfl⟩))
    go_wp2
    rw[aRN]
    go_wp2
    rw[aRN]
    go_ret
    exact⟨rfl,below_drewN (aAL _ _) _⟩
 have hk:3<(Utf8.encode r).size:=by omega
 have hlast:128<=((Utf8.encode r)[3]'hk).toNat:=HE.out 3 hk (by omega);clear HE e2 e4 eb
 go_enter Tryz.func211,Tryz.ntmps211
 go_wp2_with (go_at_call 226;with_reducible refine(HV.out _).mono ?_;rintro _ w' ⟨rfl,rfl⟩)
 go_step3
 go_wp2
 go_loopw [9,10] (fun s9 s10 wx=>s9=.int .i64 3/\s10=.int .i64 0/\wx=w) (fun _ _ _=>1)
 case atStart=>exact⟨by first|rfl|rw[ha],rfl,rfl⟩
 case round=>
  obtain⟨rfl,rfl,rfl⟩:=hrel;have hne:(((s[3]'l3).toNat:Int) !=(((Utf8.encode r)[3]'hk).toNat:Int))=true:=by rw[aLa];omega
  go_wp2
  go_step3
  go_wp2
  go_quiet (fail)
  go_wp2
  go_quiet ((go_at_call 225;(refine(HB.out _ _ _ (HX.out _) hlast).mono ?_);rintro e w' ⟨rfl,rfl⟩;exact⟨rfl,_,rfl⟩))
  go_wp2
  rw[aRN]
  go_wp2
  rw[aRN]
  go_ret
  exact⟨rfl,below_drewN (aAL _ _) _⟩
theorem PW(l:List UInt8)(c:UInt8):(-1<=Lib.indexByte l c)/\(decide (0<=Lib.indexByte l c)=l.any fun b=>decide ((b.toNat:Int)=(c.toNat:Int))):=by
 induction l with
 |nil=>exact⟨aRT (-1),rfl⟩
 |cons b l ih=>
  obtain⟨i1,i2⟩:=ih;unfold Lib.indexByte;rw[aVK,<-i2]
  by_cases h:b=c
  . subst h;simp
  have hne:(b==c)=false:=by rw[aAO];exact h
  have hn: ¬((b.toNat:Int)=(c.toNat:Int)):=by
   intro e;exact h (aWy.1 (by omega))
  rw[hne,aCw hn,aVR];simp only[aLe,aRv]
  by_cases h2:Lib.indexByte l c= -1
  . rw[h2];simp
  have:(Lib.indexByte l c== -1)=false:=by rw[aAO];exact h2
  rw[this];simp only[aLe,aRv];refine⟨by omega,?_⟩;rw[aKX,aNo,aNo];omega
theorem nH(s:ByteArray)(c:UInt8):decide (0<=Lib.indexByte s.data.toList c)=hasB c.toNat s:=(PW _ _).2
theorem ET(s:ByteArray)(hs:Asc s)(h4:4<=s.size)(h5:s.size<=1000)(r:Nat)(h1:r<=1114111)(w:World):
 Calls Tryz.prog 185 #[.string s,.int .i32 r] w fun e w'=>e=.returned (.bool (decide (r<128)&&hasB r s))/\Below w.heap.size w w':=by
 by_cases h:r<128
 . refine(Tryz.strings_ContainsRune_ascii s r w (by omega) (by omega)).mono ?_;rintro e w' ⟨rfl,rfl⟩;refine⟨?_,aAL _ _⟩;rw[nH,aAP h,aQT,aPS];have:((r.toUInt8).toNat:Int)=(r:Int):=by simp;omega
   rw[this]
 have HI:=GK (fun w=>VE s hs h4 h5 r (by omega) (by omega) w);rw[aCw h,aRW];clear hs
 go_enter Tryz.func185,Tryz.ntmps185
 go_wp2_with (go_at_call 211;with_reducible refine(HI.out _).mono ?_;rintro _ w' ⟨rfl,hb⟩)
 go_ret
 exact⟨rfl,hb⟩
theorem aE2(s:ByteArray)(hs:Asc s)(h4:4<=s.size)(h5:s.size<=1000)(B:Nat)(w:World)(hB:B<w.heap.size)(hcell:w.cell? ⟨B,0,none⟩=some (.string s)):
 PredGrows Tryz.prog 184 #[.pointer (some ⟨B,0,none⟩)] (fun x=> !(decide (x<128)&&hasB x s)) w:=fun W x hx hb=>by
 have hc:W.cell? ⟨B,0,none⟩=some (.string s):=(hb.cell (p:=⟨B,0,none⟩) hB).trans hcell;have HC:=GK (fun w=>ET s hs h4 h5 x hx w);clear hs hb hcell;obtain⟨t,ht⟩: ∃t,t=(decide (x<128)&&hasB x s):=⟨_,rfl⟩;rw[<-ht]at HC;replace ht:=GK ht;show Calls Tryz.prog 184 #[.int .i32 x,.pointer (some ⟨B,0,none⟩)] W _
 go_enter Tryz.func184,Tryz.ntmps184
 go_wp2_with (go_at_call 185;with_reducible refine(HC.out _).mono ?_;rintro _ w' ⟨rfl,hb⟩)
 go_ret
 exact⟨by rw[<-ht.out];rfl,hb⟩
theorem YQ(s set:ByteArray)(q:Int->Bool)(hs:Asc set)(h4:4<=set.size)(h5:set.size<=1000)(hq: ∀x:Nat,x<128->hasB x set=q x)(hq2: ∀x:Int,q x=true->x<128)(w:World):
 Calls Tryz.prog 152 #[.string s,.string set] w fun r w'=>r=.returned (.bool (allB q s))/\Below w.heap.size w w':=by
 have eg: ∀args w,(callFunc 184 args).run Tryz.prog w=.ok (.enter 184 args) w:=enters_of Tryz.func184 (by kernel_rfl) rfl;have hcon:=Tryz.strings_IndexFunc_grows 184 #[.pointer (some ⟨w.heap.size,0,none⟩)] eg _ s (w.alloc (.cells #[.string set] 9)) (aE2 set hs h4 h5 w.heap.size _ (by simp) (by simp));have hi:=aJh q (fun x=> !(decide (x<128)&&hasB x set)) (by intro x hx;rw[aAP hx,aQT,hq x hx]) (by intro x hx;rw[aCw (by omega),aRW];rfl) hq2 s;rw[<-hi];generalize Lib.idxFunc (fun x=> !(decide (x<128)&&hasB x set)) true s=z at hcon ⊢;clear hi hs hq hq2
 go_enter Tryz.func152,Tryz.ntmps152
 go_wp2_with (go_at_call 183;refine hcon.mono ?_;rintro _ w' ⟨rfl,hb⟩)
 go_ret
 exact⟨rfl,bt (ba (aAL _ _) _) hb⟩
def CG:ByteArray:=⟨#[48,49,50,51,52,53,54,55,56,57]⟩
def XC:ByteArray:=⟨#[88,48,49,50,51,52,53,54,55,56,57]⟩
theorem aJQ:Asc CG:=by unfold Asc;decide
theorem aEi:Asc XC:=by unfold Asc;decide
theorem aJP: ∀x:Nat,x<128->hasB x CG=bG x:=by decide
theorem aEh: ∀x:Nat,x<128->hasB x XC=bU x:=by decide
theorem YR(s:ByteArray)(w:World):Calls Tryz.prog 152 #[.string s,.string CG] w fun r w'=>r=.returned (.bool (allB bG s))/\Below w.heap.size w w':=
 YQ s CG bG aJQ (by decide) (by decide) aJP (by intro x h;unfold bG at h;have:=aK1 h;omega) w
theorem aE3(s:ByteArray)(w:World):Calls Tryz.prog 152 #[.string s,.string XC] w fun r w'=>r=.returned (.bool (allB bU s))/\Below w.heap.size w w':=
 YQ s XC bU aEi (by decide) (by decide) aEh (by intro x h;unfold bU at h;simp at h;omega) w
end Bk
end
section
open Go.RowKit
namespace Bk
open Un (ba bt ri rb aU bF)
theorem size_pos(n:Int)(w:World)(h0:0<=n)(h1:n<9223372036854775808):Calls Tryz.prog 216 #[.int .i64 n] w fun r w'=>r=.returned (.int .u64 n)/\w=w':=by
 go_enter Tryz.func216,Tryz.ntmps216
 go_wp2
 go_ret
 exact⟨ri (by omega),rfl⟩
theorem aA8(n:Int)(w:World)(h0:0<=n)(h1:n<18446744073709551616):Calls Tryz.prog 217 #[.int .u64 n,.bool false] w fun r w'=>r=.returned (.tuple #[.int .i64 (if n<=9223372036854775807 then n else 0),.int .i64 (if n<=9223372036854775807 then 0 else 15)])/\w=w':=by
 by_cases c:n<=9223372036854775807
 . rw[aFV c,aFV c]
   go_enter Tryz.func217,Tryz.ntmps217
   go_wp2
   go_ret2
   exact⟨aU (by omega) rfl,rfl⟩
 rw[aB9 c,aB9 c]
 go_enter Tryz.func217,Tryz.ntmps217
 go_wp2
 go_ret2
 exact⟨rfl,rfl⟩
def mulC(a b:Int):Int × Int:=if a * b<=9223372036854775807 then(a * b,0)else(0,15)
theorem mul_any(a b:Int)(w:World)(a0:0<=a)(a1:a<9223372036854775808)(b0:0<=b)(b1:b<9223372036854775808):
 Calls Tryz.prog 195 #[.int .i64 a,.int .i64 b] w fun r w'=>r=.returned (.tuple #[.int .i64 (mulC a b).1,.int .i64 (mulC a b).2])/\Below w.heap.size w w':=by
 have HA:=GK (fun w=>size_pos a w a0 a1);have HB:=GK (fun w=>size_pos b w b0 b1);have HM: ∀W,Calls Tryz.prog 215 #[.int .u64 a,.int .u64 b] W fun e w'=>e=.returned (.tuple #[.int .u64 (a * b / 18446744073709551616),.int .u64 (a * b % 18446744073709551616)])/\w'=W:=by
  intro W;have:=Tryz.bits_Mul64 a.toNat b.toNat (by omega) (by omega) W;rw[show ((a.toNat:Nat):Int)=a by omega,show((b.toNat:Nat):Int)=b by omega]at this;have e:((a.toNat * b.toNat:Nat):Int)=a * b:=by rw[Int.natCast_mul,show((a.toNat:Nat):Int)=a by omega,show((b.toNat:Nat):Int)=b by omega]
  rw[Int.natCast_ediv,Int.natCast_emod,e]at this;exact this
 have m0:0<=a * b:=aWI a0 b0;have m1:a * b<9223372036854775808 * 9223372036854775808:=by
  have h1:=Int.mul_le_mul_of_nonneg_left (show b<=9223372036854775807 by omega) a0;omega
 unfold mulC;generalize a * b=m at *;obtain⟨hi,hhi⟩: ∃h,h=m / 18446744073709551616:=⟨_,rfl⟩;obtain⟨lo,hlo⟩: ∃h,h=m % 18446744073709551616:=⟨_,rfl⟩;rw[<-hhi,<-hlo]at HM;have k0:0<=hi:=by omega
 have k1:hi<18446744073709551616:=by omega
 have k2:0<=lo:=by omega
 have k3:lo<18446744073709551616:=by omega
 have HS:=GK (fun w=>aA8 lo w k2 k3);have E:=GK (show m=hi * 18446744073709551616+lo by omega);replace HM:=GK HM;clear hhi hlo m1
 by_cases c:0<hi
 . have hno: ¬m<=9223372036854775807:=by have:=E.out;omega
   simp only[aB9 hno];clear hno
   go_enter Tryz.func195,Tryz.ntmps195
   go_wp2_with (first|(go_at_call 216;(first|with_reducible refine(HA.out _).mono ?_|with_reducible refine(HB.out _).mono ?_);rintro _ w' ⟨rfl,rfl⟩)|(go_at_call 215;with_reducible refine(HM.out _).mono ?_;rintro _ w' ⟨rfl,rfl⟩))
   go_ret2
   exact⟨rfl,ba (aAL _ _) _⟩
 have e:hi=0:=by omega
 subst e;have hm:m=lo:=by have:=E.out;omega
 subst hm;clear E
 by_cases c:m<=9223372036854775807
 all_goals
  first|simp only[aFV c]at HS ⊢ |simp only[aB9 c]at HS ⊢
  clear c;have na:decide (a<0)=false:=aCw (by omega);have nb:decide (b<0)=false:=aCw (by omega)
  go_enter Tryz.func195,Tryz.ntmps195
  go_wp2_with (first|(go_at_call 216;(first|with_reducible refine(HA.out _).mono ?_|with_reducible refine(HB.out _).mono ?_);rintro _ w' ⟨rfl,rfl⟩)|(go_at_call 215;with_reducible refine(HM.out _).mono ?_;rintro _ w' ⟨rfl,rfl⟩)|(go_at_call 217;with_reducible refine(HS.out _).mono ?_;rintro _ w' ⟨rfl,rfl⟩))
  go_ret2
  exact⟨rfl,ba (aAL _ _) _⟩
end Bk
end
section
namespace Bk
theorem MG(s:ByteArray):s.toList.length=s.size:=by rw[aUF];simp
theorem V3{s:ByteArray}(h:s.size=0):s.toList.isEmpty=true:=by
 have:=MG s;rw[List.isEmpty_iff,<-aUh];omega
theorem NH{s:ByteArray}(h: ¬s.size=0):s.toList.isEmpty=false:=by
 have:=MG s
 cases e:s.toList.isEmpty
 . rfl
 rw[List.isEmpty_iff]at e;rw[e]at this;simp at this;omega
theorem fA(s:ByteArray):(s.size=0/\s.toList.isEmpty=true)\/(¬s.size=0/\s.toList.isEmpty=false):=by
 by_cases h:s.size=0
 . exact .inl ⟨h,V3 h⟩
 exact .inr ⟨h,NH h⟩
theorem aM6(s:ByteArray):s.toList.isEmpty=decide (s.size=0):=by
 rcases fA s with⟨h,e⟩|⟨h,e⟩
 . rw[e,aAP h]
 rw[e,aCw h]
end Bk
end
end Go.Proofs.YtacggmlngekidaaGreatDoor
