import Derived.Test.YtacggmlngekidaaGreatDoorProg
import Derived.Test.YtacggmlngekidaaGreatDoorP2
import Derived.Test.YtacggmlngekidaaGreatDoorP3
import Derived.Lib.OwnBridge
import Derived.LoopN
import Derived.Deep.RegionHeld3
set_option linter.unusedVariables false
set_option linter.unusedSimpArgs false
set_option maxRecDepth 1000000
set_option maxHeartbeats 8000000
set_option linter.unusedSectionVars false
namespace Go.Proofs.YtacggmlngekidaaGreatDoor
section
open Go.RowKit Go.Lib
namespace Sk
open Ev (eF DT LG gZ bJ hp QY oU uZ l_b Y5 pU aY AV Y0 EM dS bH dF iI BU)
open Bk (Dt bZ)
def aBf : DT := (.node 0 (qi 17) qz (.node 0 (qu 0) (.v (.int .u8 1)) (.node 1 (.v (.int .i64 1)) (aY 8 .i64 [(pU 1)]) (.leaf (.v (.int .i64 14))) (.node 1 (.v (.int .u8 3)) (qu 0) DT.no (.leaf qz))) (.node 1 (.v (.int .u8 3)) (qu 0) (.leaf (.v (.int .i64 1))) (.leaf qz))) (.leaf (qi 17)))
theorem WA (l : Value) : aBf.ok gZ l [] [(22, [iZ (qu 0)], (qi 17))] hp 60 LG 8 [iZ (qu 0)] [] = true := by kernel_rfl
theorem aE1 (k : Int) (bs : Option Addr) (n cp : Nat) (d : Dt) (p a lo b hi : Int) (c : Int) {w0 : World} (hst : SS w0)  (H0 : Same w0 22 #[(fam k (.slice bs n cp) d p a lo b hi)] (.int .i64 c)) : Same w0 8 #[(fam k (.slice bs n cp) d p a lo b hi)] (cond (c == 0) (cond (k == 1) (cond (decide (1 < ((n : Nat) : Int))) (.int .i64 14) (cond (decide (3 < k)) (.bool false) (.int .i64 0))) (cond (decide (3 < k)) (.int .i64 1) (.int .i64 0))) (.int .i64 c)) :=
 bH (WA (lv (lF k (.slice bs n cp) d p a lo b hi) [.int .i64 c])) (bJ w0) hst .nil (.cons H0 .nil) (iI (by kernel_rfl : _ = ((((c == 0) = true -> (((k == 1) = true -> (((decide (1 < ((n : Nat) : Int))) = true -> True) /\ ((decide (1 < ((n : Nat) : Int))) = false -> (((decide (3 < k)) = true -> False) /\ ((decide (3 < k)) = false -> True))))) /\ ((k == 1) = false -> (((decide (3 < k)) = true -> True) /\ ((decide (3 < k)) = false -> True))))) /\ ((c == 0) = false -> True)))) (⟨fun h0 => ⟨fun h1 => ⟨fun h2 => trivial, fun h2 => ⟨fun h3 => (by simp only [beq_iff_eq, beq_eq_false_iff_ne, decide_eq_true_eq, decide_eq_false_iff_not] at *; omega), fun h3 => trivial⟩⟩, fun h1 => ⟨fun h2 => trivial, fun h2 => trivial⟩⟩, fun h0 => trivial⟩)) (by kernel_rfl)
def aBg : DT := (.node 1 qz (qi 17) (.leaf (qi 17)) (.node 0 (qu 0) (.v (.int .u8 1)) (.node 1 (.v (.int .i64 1)) (aY 8 .i64 [(pU 1)]) (.leaf (.v (.int .i64 14))) (.node 1 (.v (.int .u8 3)) (qu 0) DT.no (.leaf qz))) (.node 1 (.v (.int .u8 3)) (qu 0) (.leaf (.v (.int .i64 1))) (.leaf qz))))
theorem WB (l : Value) : aBg.ok gZ l [] [(21, [iZ (qu 0)], (qi 17))] hp 60 LG 7 [iZ (qu 0)] [] = true := by kernel_rfl
theorem aE9 (k : Int) (bs : Option Addr) (n cp : Nat) (d : Dt) (p a lo b hi : Int) (c : Int) {w0 : World} (hst : SS w0)  (H0 : Same w0 21 #[(fam k (.slice bs n cp) d p a lo b hi)] (.int .i64 c)) : Same w0 7 #[(fam k (.slice bs n cp) d p a lo b hi)] (cond (decide (0 < c)) (.int .i64 c) (cond (k == 1) (cond (decide (1 < ((n : Nat) : Int))) (.int .i64 14) (cond (decide (3 < k)) (.bool false) (.int .i64 0))) (cond (decide (3 < k)) (.int .i64 1) (.int .i64 0)))) :=
 bH (WB (lv (lF k (.slice bs n cp) d p a lo b hi) [.int .i64 c])) (bJ w0) hst .nil (.cons H0 .nil) (iI (by kernel_rfl : _ = ((((decide (0 < c)) = true -> True) /\ ((decide (0 < c)) = false -> (((k == 1) = true -> (((decide (1 < ((n : Nat) : Int))) = true -> True) /\ ((decide (1 < ((n : Nat) : Int))) = false -> (((decide (3 < k)) = true -> False) /\ ((decide (3 < k)) = false -> True))))) /\ ((k == 1) = false -> (((decide (3 < k)) = true -> True) /\ ((decide (3 < k)) = false -> True)))))))) (⟨fun h0 => trivial, fun h0 => ⟨fun h1 => ⟨fun h2 => trivial, fun h2 => ⟨fun h3 => (by simp only [beq_iff_eq, beq_eq_false_iff_ne, decide_eq_true_eq, decide_eq_false_iff_not] at *; omega), fun h3 => trivial⟩⟩, fun h1 => ⟨fun h2 => trivial, fun h2 => trivial⟩⟩⟩)) (by kernel_rfl)
def aEx : DT := (.node 0 (qi 18) qz (.node 0 (qi 17) qz DT.no (.leaf (.aP [(rK q8 qz q8 qz), qf, (qi 17)]))) (.node 0 (qi 18) (.v (.int .i64 1)) (.node 0 (qi 17) qz DT.no (.leaf (.aP [(rK q8 qz q8 qz), qf, (qi 17)]))) (.node 0 (qi 18) (.v (.int .i64 2)) (.node 0 (qi 17) qz DT.no (.leaf (.aP [(rK q8 qz q8 qz), qf, (qi 17)]))) (.node 0 (qi 18) (.v (.int .i64 3)) (.node 0 (qi 17) qz DT.no (.leaf (.aP [(rK q8 qz q8 qz), qf, (qi 17)]))) (.node 0 (qi 17) qz DT.no (.leaf (.aP [(rK q8 qz q8 qz), qf, (qi 17)])))))))
theorem aAp (l : Value) : aEx.ok gZ l [] [(8, [iZ (qu 0)], (qi 17))] hp 60 LG 11 [iZ (qu 0), (qi 18), (qi 19)] [] = true := by kernel_rfl
theorem aJV (k : Int) (bs : Option Addr) (n cp : Nat) (d : Dt) (p a lo b hi : Int) (c q day : Int) {w0 : World} (hst : SS w0) (hc : 0 < c) (H0 : Same w0 8 #[(fam k (.slice bs n cp) d p a lo b hi)] (.int .i64 c)) : Same w0 11 #[(fam k (.slice bs n cp) d p a lo b hi), (.int .i64 q), (.int .i64 day)] (cond (q == 0) (cond (c == 0) (.bool false) (.tuple #[(r4 0 0 0 0), (.bool false), (.int .i64 c)])) (cond (q == 1) (cond (c == 0) (.bool false) (.tuple #[(r4 0 0 0 0), (.bool false), (.int .i64 c)])) (cond (q == 2) (cond (c == 0) (.bool false) (.tuple #[(r4 0 0 0 0), (.bool false), (.int .i64 c)])) (cond (q == 3) (cond (c == 0) (.bool false) (.tuple #[(r4 0 0 0 0), (.bool false), (.int .i64 c)])) (cond (c == 0) (.bool false) (.tuple #[(r4 0 0 0 0), (.bool false), (.int .i64 c)])))))) :=
 bH (aAp (lv (lF k (.slice bs n cp) d p a lo b hi) [.int .i64 c, .int .i64 q, .int .i64 day])) (bJ w0) hst .nil (.cons H0 .nil) (iI (by kernel_rfl : _ = ((((q == 0) = true -> (((c == 0) = true -> False) /\ ((c == 0) = false -> True))) /\ ((q == 0) = false -> (((q == 1) = true -> (((c == 0) = true -> False) /\ ((c == 0) = false -> True))) /\ ((q == 1) = false -> (((q == 2) = true -> (((c == 0) = true -> False) /\ ((c == 0) = false -> True))) /\ ((q == 2) = false -> (((q == 3) = true -> (((c == 0) = true -> False) /\ ((c == 0) = false -> True))) /\ ((q == 3) = false -> (((c == 0) = true -> False) /\ ((c == 0) = false -> True)))))))))))) (⟨fun h0 => ⟨fun h1 => (by simp only [beq_iff_eq, beq_eq_false_iff_ne, decide_eq_true_eq, decide_eq_false_iff_not] at *; omega), fun h1 => trivial⟩, fun h0 => ⟨fun h1 => ⟨fun h2 => (by simp only [beq_iff_eq, beq_eq_false_iff_ne, decide_eq_true_eq, decide_eq_false_iff_not] at *; omega), fun h2 => trivial⟩, fun h1 => ⟨fun h2 => ⟨fun h3 => (by simp only [beq_iff_eq, beq_eq_false_iff_ne, decide_eq_true_eq, decide_eq_false_iff_not] at *; omega), fun h3 => trivial⟩, fun h2 => ⟨fun h3 => ⟨fun h4 => (by simp only [beq_iff_eq, beq_eq_false_iff_ne, decide_eq_true_eq, decide_eq_false_iff_not] at *; omega), fun h4 => trivial⟩, fun h3 => ⟨fun h4 => (by simp only [beq_iff_eq, beq_eq_false_iff_ne, decide_eq_true_eq, decide_eq_false_iff_not] at *; omega), fun h4 => trivial⟩⟩⟩⟩⟩)) (by kernel_rfl)
def aKl : DT := (.node 3 (qb 7) (qb 7) (.node 1 qz (qi 5) (.leaf qf) (.node 1 qz (qi 6) (.leaf qf) (.leaf qt))) (.leaf qf))
theorem aFQ (l : Value) : aKl.ok gZ l [] [(103, [rK q8 (qi 4) q8 (qi 4), (rK (qe 0) (qi 1) (qe 2) (qi 3))], (qb 7)), (78, [.agg [(qe 0), (qi 1)], .agg [q8, (qi 4)]], (qi 5)), (78, [.agg [q8, (qi 4)], .agg [(qe 2), (qi 3)]], (qi 6))] hp 60 LG 262 [(rK (qe 0) (qi 1) (qe 2) (qi 3)), (qi 4)] [] = true := by kernel_rfl
theorem aPi (ua ul ub uh day c1 c2 : Int) (rt : Bool) {w0 : World} (hst : SS w0)  (H0 : Same w0 103 #[(r4 0 day 0 day), (r4 ua ul ub uh)] (.bool rt)) (H1 : Same w0 78 #[(ev ua ul), (ev 0 day)] (.int .i64 c1)) (H2 : Same w0 78 #[(ev 0 day), (ev ub uh)] (.int .i64 c2)) : Same w0 262 #[(r4 ua ul ub uh), (.int .i64 day)] (cond rt (cond (decide (0 < c1)) (.bool false) (cond (decide (0 < c2)) (.bool false) (.bool true))) (.bool false)) :=
 bH (aFQ (.agg #[.int .i8 ua, .int .i64 ul, .int .i8 ub, .int .i64 uh, .int .i64 day, .int .i64 c1, .int .i64 c2, .bool rt])) (bJ w0) hst .nil (.cons H0 (.cons H1 (.cons H2 .nil))) (dF (by kernel_rfl)) (by kernel_rfl)
def aEv : DT := (.node 0 (qi 17) qz (.leaf (.aP [(rK (qe 19) (qi 20) (qe 21) (qi 22)), qt, qz])) (.node 0 (qi 17) (.v (.int .i64 1)) (.leaf (.aP [(rK (qe 19) (qi 20) (qe 21) (qi 22)), qt, qz])) (.node 0 (qi 17) (.v (.int .i64 2)) (.node 3 (qb 23) (qb 23) (.leaf (.aP [(rK (qe 19) (qi 20) (qe 21) (qi 22)), qt, qz])) (.leaf (.aP [(rK q8 qz q8 qz), qf, qz]))) (.node 0 (qi 17) (.v (.int .i64 3)) (.node 0 (qe 19) q8 (.node 1 (qi 20) (qi 18) (.leaf (.aP [(rK q8 qz q8 qz), qf, qz])) (.leaf (.aP [(rK (qe 19) (qi 20) (qe 21) (qi 22)), qt, qz]))) (.leaf (.aP [(rK q8 qz q8 qz), qf, qz]))) (.node 0 (qe 21) q8 (.node 1 (qi 18) (qi 22) (.leaf (.aP [(rK q8 qz q8 qz), qf, qz])) (.leaf (.aP [(rK (qe 19) (qi 20) (qe 21) (qi 22)), qt, qz]))) (.leaf (.aP [(rK q8 qz q8 qz), qf, qz])))))))
theorem aAn (l : Value) : aEv.ok gZ l [] [(8, [iZ (.v (.int .u8 1))], qz), (58, [iZ (.v (.int .u8 1))], .zO 128 (rK (qe 19) (qi 20) (qe 21) (qi 22))), (262, [(rK (qe 19) (qi 20) (qe 21) (qi 22)), (qi 18)], (qb 23))] hp 60 LG 11 [iZ (.v (.int .u8 1)), (qi 17), (qi 18)] [] = true := by kernel_rfl
theorem aJT (k : Int) (bs : Option Addr) (n cp : Nat) (d : Dt) (p a lo b hi : Int) (q day ua ul ub uh : Int) (hs : Bool) {w0 : World} (hst : SS w0)  (H0 : Same w0 8 #[(fam 1 (.slice bs n cp) d p a lo b hi)] (.int .i64 0)) (H1 : Same w0 58 #[(fam 1 (.slice bs n cp) d p a lo b hi)] (.iface 128 (r4 ua ul ub uh))) (H2 : Same w0 262 #[(r4 ua ul ub uh), (.int .i64 day)] (.bool hs)) : Same w0 11 #[(fam 1 (.slice bs n cp) d p a lo b hi), (.int .i64 q), (.int .i64 day)] (cond (q == 0) (.tuple #[(r4 ua ul ub uh), (.bool true), (.int .i64 0)]) (cond (q == 1) (.tuple #[(r4 ua ul ub uh), (.bool true), (.int .i64 0)]) (cond (q == 2) (cond hs (.tuple #[(r4 ua ul ub uh), (.bool true), (.int .i64 0)]) (.tuple #[(r4 0 0 0 0), (.bool false), (.int .i64 0)])) (cond (q == 3) (cond (ua == 0) (cond (decide (ul < day)) (.tuple #[(r4 0 0 0 0), (.bool false), (.int .i64 0)]) (.tuple #[(r4 ua ul ub uh), (.bool true), (.int .i64 0)])) (.tuple #[(r4 0 0 0 0), (.bool false), (.int .i64 0)])) (cond (ub == 0) (cond (decide (day < uh)) (.tuple #[(r4 0 0 0 0), (.bool false), (.int .i64 0)]) (.tuple #[(r4 ua ul ub uh), (.bool true), (.int .i64 0)])) (.tuple #[(r4 0 0 0 0), (.bool false), (.int .i64 0)])))))) :=
 bH (aAn (lv (lF k (.slice bs n cp) d p a lo b hi) [.int .i64 q, .int .i64 day, .int .i8 ua, .int .i64 ul, .int .i8 ub, .int .i64 uh, .bool hs])) (bJ w0) hst .nil (.cons H0 (.cons H1 (.cons H2 .nil))) (dF (by kernel_rfl)) (by kernel_rfl)
def aEw : DT := (.node 0 (qi 17) qz (.leaf (.aP [(rK (qe 19) (qi 20) (qe 21) (qi 22)), (qb 23), qz])) (.node 0 (qi 17) (.v (.int .i64 1)) (.leaf (.aP [(rK (qe 24) (qi 25) (qe 26) (qi 27)), (qb 28), qz])) (.node 0 (qi 17) (.v (.int .i64 2)) (.leaf (.aP [(rK (qe 29) (qi 30) (qe 31) (qi 32)), (qb 33), qz])) (.node 0 (qi 17) (.v (.int .i64 3)) (.leaf (.aP [(rK (qe 34) (qi 35) (qe 36) (qi 37)), (qb 38), qz])) (.leaf (.aP [(rK (qe 39) (qi 40) (qe 41) (qi 42)), (qb 43), qz]))))))
theorem aAo (l : Value) : aEw.ok gZ l [] [(8, [iZ (.v (.int .u8 2))], qz), (276, [vU], .aP [(rK (qe 19) (qi 20) (qe 21) (qi 22)), (qb 23)]), (278, [vU], .aP [(rK (qe 24) (qi 25) (qe 26) (qi 27)), (qb 28)]), (275, [vU, (qi 18)], .aP [(rK (qe 29) (qi 30) (qe 31) (qi 32)), (qb 33)]), (277, [vU, (qi 18)], .aP [(rK (qe 34) (qi 35) (qe 36) (qi 37)), (qb 38)]), (280, [vU, (qi 18)], .aP [(rK (qe 39) (qi 40) (qe 41) (qi 42)), (qb 43)])] hp 60 LG 11 [iZ (.v (.int .u8 2)), (qi 17), (qi 18)] [] = true := by kernel_rfl
theorem aJU (k : Int) (bs : Option Addr) (n cp : Nat) (d : Dt) (p a lo b hi : Int) (q day r0a r0l r0b r0h r1a r1l r1b r1h TW TS TV TU r3a r3l r3b r3h r4a r4l r4b r4h : Int) (r0i r1i TT r3i r4i : Bool) {w0 : World} (hst : SS w0)  (H0 : Same w0 8 #[(fam 2 (.slice bs n cp) d p a lo b hi)] (.int .i64 0)) (H1 : Same w0 276 #[(bZ d)] (.tuple #[(r4 r0a r0l r0b r0h), (.bool r0i)])) (H2 : Same w0 278 #[(bZ d)] (.tuple #[(r4 r1a r1l r1b r1h), (.bool r1i)])) (H3 : Same w0 275 #[(bZ d), (.int .i64 day)] (.tuple #[(r4 TW TS TV TU), (.bool TT)])) (H4 : Same w0 277 #[(bZ d), (.int .i64 day)] (.tuple #[(r4 r3a r3l r3b r3h), (.bool r3i)])) (H5 : Same w0 280 #[(bZ d), (.int .i64 day)] (.tuple #[(r4 r4a r4l r4b r4h), (.bool r4i)])) : Same w0 11 #[(fam 2 (.slice bs n cp) d p a lo b hi), (.int .i64 q), (.int .i64 day)] (cond (q == 0) (.tuple #[(r4 r0a r0l r0b r0h), (.bool r0i), (.int .i64 0)]) (cond (q == 1) (.tuple #[(r4 r1a r1l r1b r1h), (.bool r1i), (.int .i64 0)]) (cond (q == 2) (.tuple #[(r4 TW TS TV TU), (.bool TT), (.int .i64 0)]) (cond (q == 3) (.tuple #[(r4 r3a r3l r3b r3h), (.bool r3i), (.int .i64 0)]) (.tuple #[(r4 r4a r4l r4b r4h), (.bool r4i), (.int .i64 0)]))))) :=
 bH (aAo (lv (lF k (.slice bs n cp) d p a lo b hi) [.int .i64 q, .int .i64 day, .int .i8 r0a, .int .i64 r0l, .int .i8 r0b, .int .i64 r0h, .bool r0i, .int .i8 r1a, .int .i64 r1l, .int .i8 r1b, .int .i64 r1h, .bool r1i, .int .i8 TW, .int .i64 TS, .int .i8 TV, .int .i64 TU, .bool TT, .int .i8 r3a, .int .i64 r3l, .int .i8 r3b, .int .i64 r3h, .bool r3i, .int .i8 r4a, .int .i64 r4l, .int .i8 r4b, .int .i64 r4h, .bool r4i])) (bJ w0) hst .nil (.cons H0 (.cons H1 (.cons H2 (.cons H3 (.cons H4 (.cons H5 .nil)))))) (dF (by kernel_rfl)) (by kernel_rfl)
def aM1 : DT := (.node 0 (qi 9) qz (.node 1 (qi 10) qz (.leaf (.aP [(rK q8 qz q8 qz), qf])) (.node 1 qz (qi 11) (.leaf (.aP [(rK q8 qz q8 qz), qf])) (.leaf (.aP [(rK (qe 5) (qi 6) (qe 7) (qi 8)), qt])))) (.leaf (.aP [(rK q8 qz q8 qz), qf])))
theorem aIO (l : Value) : aM1.ok gZ l [] [(78, [.agg [(qe 5), (qi 6)], .agg [(qe 0), (qi 1)]], (qi 10)), (78, [.agg [(qe 7), (qi 8)], .agg [(qe 2), (qi 3)]], (qi 11))] hp 60 LG 269 [.agg [(qe 0), (qi 1), (qe 2), (qi 3), (qu 4)], (rK (qe 5) (qi 6) (qe 7) (qi 8)), (qi 9)] [] = true := by kernel_rfl
theorem aSt (a lo b hi p ua ul ub uh e c1 c2 : Int) {w0 : World} (hst : SS w0)  (H0 : Same w0 78 #[(ev ua ul), (ev a lo)] (.int .i64 c1)) (H1 : Same w0 78 #[(ev ub uh), (ev b hi)] (.int .i64 c2)) : Same w0 269 #[(.agg #[(.int .i8 a), (.int .i64 lo), (.int .i8 b), (.int .i64 hi), (.int .u8 p)]), (r4 ua ul ub uh), (.int .i64 e)] (cond (e == 0) (cond (decide (c1 < 0)) (.tuple #[(r4 0 0 0 0), (.bool false)]) (cond (decide (0 < c2)) (.tuple #[(r4 0 0 0 0), (.bool false)]) (.tuple #[(r4 ua ul ub uh), (.bool true)]))) (.tuple #[(r4 0 0 0 0), (.bool false)])) :=
 bH (aIO (.agg #[.int .i8 a, .int .i64 lo, .int .i8 b, .int .i64 hi, .int .u8 p, .int .i8 ua, .int .i64 ul, .int .i8 ub, .int .i64 uh, .int .i64 e, .int .i64 c1, .int .i64 c2])) (bJ w0) hst .nil (.cons H0 (.cons H1 .nil)) (dF (by kernel_rfl)) (by kernel_rfl)
def aBh : DT := (.node 0 (qi 17) qz (.node 0 (qe 13) q8 (.leaf (.aP [(rK (qe 22) (qi 23) (qe 24) (qi 25)), (qb 26), qz])) (.leaf (.aP [(rK q8 qz q8 qz), qf, qz]))) (.node 0 (qi 17) (.v (.int .i64 1)) (.node 0 (qe 15) q8 (.leaf (.aP [(rK (qe 30) (qi 31) (qe 32) (qi 33)), (qb 34), qz])) (.leaf (.aP [(rK q8 qz q8 qz), qf, qz]))) (.node 0 (qi 17) (.v (.int .i64 2)) (.leaf (.aP [(rK (qe 38) (qi 39) (qe 40) (qi 41)), (qb 42), qz])) (.node 0 (qi 17) (.v (.int .i64 3)) (.node 0 (qe 13) q8 (.node 1 (qi 14) (qi 18) (.node 0 (qi 37) qz (.node 1 (qi 35) (qi 18) (.leaf (.aP [(rK (qe 46) (qi 47) (qe 48) (qi 49)), (qb 50), qz])) (.leaf (.aP [(rK (qe 38) (qi 39) (qe 40) (qi 41)), (qb 42), qz]))) (.leaf (.aP [(rK (qe 38) (qi 39) (qe 40) (qi 41)), (qb 42), qz]))) (.leaf (.aP [(rK (qe 22) (qi 23) (qe 24) (qi 25)), (qb 26), qz]))) (.node 0 (qi 37) qz (.node 1 (qi 35) (qi 18) (.leaf (.aP [(rK (qe 46) (qi 47) (qe 48) (qi 49)), (qb 50), qz])) (.leaf (.aP [(rK (qe 38) (qi 39) (qe 40) (qi 41)), (qb 42), qz]))) (.leaf (.aP [(rK (qe 38) (qi 39) (qe 40) (qi 41)), (qb 42), qz])))) (.node 0 (qe 15) q8 (.node 1 (qi 18) (qi 16) (.node 0 (qi 37) qz (.node 1 (qi 18) (qi 36) (.leaf (.aP [(rK (qe 54) (qi 55) (qe 56) (qi 57)), (qb 58), qz])) (.leaf (.aP [(rK (qe 38) (qi 39) (qe 40) (qi 41)), (qb 42), qz]))) (.leaf (.aP [(rK (qe 38) (qi 39) (qe 40) (qi 41)), (qb 42), qz]))) (.leaf (.aP [(rK (qe 30) (qi 31) (qe 32) (qi 33)), (qb 34), qz]))) (.node 0 (qi 37) qz (.node 1 (qi 18) (qi 36) (.leaf (.aP [(rK (qe 54) (qi 55) (qe 56) (qi 57)), (qb 58), qz])) (.leaf (.aP [(rK (qe 38) (qi 39) (qe 40) (qi 41)), (qb 42), qz]))) (.leaf (.aP [(rK (qe 38) (qi 39) (qe 40) (qi 41)), (qb 42), qz]))))))))
theorem WC (l : Value) : aBh.ok gZ l [] [(8, [iZ (.v (.int .u8 3))], qz), (85, [(qi 14), (qu 12)], .aP [(rK q8 (qi 19) q8 (qi 20)), (qi 21)]), (269, [.agg [(qe 13), (qi 14), (qe 15), (qi 16), (qu 12)], (rK q8 (qi 19) q8 (qi 20)), (qi 21)], .aP [(rK (qe 22) (qi 23) (qe 24) (qi 25)), (qb 26)]), (85, [(qi 16), (qu 12)], .aP [(rK q8 (qi 27) q8 (qi 28)), (qi 29)]), (269, [.agg [(qe 13), (qi 14), (qe 15), (qi 16), (qu 12)], (rK q8 (qi 27) q8 (qi 28)), (qi 29)], .aP [(rK (qe 30) (qi 31) (qe 32) (qi 33)), (qb 34)]), (85, [(qi 18), (qu 12)], .aP [(rK q8 (qi 35) q8 (qi 36)), (qi 37)]), (269, [.agg [(qe 13), (qi 14), (qe 15), (qi 16), (qu 12)], (rK q8 (qi 35) q8 (qi 36)), (qi 37)], .aP [(rK (qe 38) (qi 39) (qe 40) (qi 41)), (qb 42)]), (270, [(rK q8 (qi 35) q8 (qi 36)), (qu 12)], .aP [(rK q8 (qi 43) q8 (qi 44)), (qi 45)]), (269, [.agg [(qe 13), (qi 14), (qe 15), (qi 16), (qu 12)], (rK q8 (qi 43) q8 (qi 44)), (qi 45)], .aP [(rK (qe 46) (qi 47) (qe 48) (qi 49)), (qb 50)]), (271, [(rK q8 (qi 35) q8 (qi 36)), (qu 12)], .aP [(rK q8 (qi 51) q8 (qi 52)), (qi 53)]), (269, [.agg [(qe 13), (qi 14), (qe 15), (qi 16), (qu 12)], (rK q8 (qi 51) q8 (qi 52)), (qi 53)], .aP [(rK (qe 54) (qi 55) (qe 56) (qi 57)), (qb 58)])] hp 60 LG 11 [iZ (.v (.int .u8 3)), (qi 17), (qi 18)] [] = true := by kernel_rfl
theorem aG5 (k : Int) (bs : Option Addr) (n cp : Nat) (d : Dt) (p a lo b hi : Int) (q day u0l u0h u0e r0a r0l r0b r0h u1l u1h u1e r1a r1l r1b r1h u2l u2h u2e TW TS TV TU u3l u3h u3e r3a r3l r3b r3h u4l u4h u4e r4a r4l r4b r4h : Int) (r0i r1i TT r3i r4i : Bool) {w0 : World} (hst : SS w0)  (H0 : Same w0 8 #[(fam 3 (.slice bs n cp) d p a lo b hi)] (.int .i64 0)) (H1 : Same w0 85 #[(.int .i64 lo), (.int .u8 p)] (.tuple #[(r4 0 u0l 0 u0h), (.int .i64 u0e)])) (H2 : Same w0 269 #[(.agg #[(.int .i8 a), (.int .i64 lo), (.int .i8 b), (.int .i64 hi), (.int .u8 p)]), (r4 0 u0l 0 u0h), (.int .i64 u0e)] (.tuple #[(r4 r0a r0l r0b r0h), (.bool r0i)])) (H3 : Same w0 85 #[(.int .i64 hi), (.int .u8 p)] (.tuple #[(r4 0 u1l 0 u1h), (.int .i64 u1e)])) (H4 : Same w0 269 #[(.agg #[(.int .i8 a), (.int .i64 lo), (.int .i8 b), (.int .i64 hi), (.int .u8 p)]), (r4 0 u1l 0 u1h), (.int .i64 u1e)] (.tuple #[(r4 r1a r1l r1b r1h), (.bool r1i)])) (H5 : Same w0 85 #[(.int .i64 day), (.int .u8 p)] (.tuple #[(r4 0 u2l 0 u2h), (.int .i64 u2e)])) (H6 : Same w0 269 #[(.agg #[(.int .i8 a), (.int .i64 lo), (.int .i8 b), (.int .i64 hi), (.int .u8 p)]), (r4 0 u2l 0 u2h), (.int .i64 u2e)] (.tuple #[(r4 TW TS TV TU), (.bool TT)])) (H7 : Same w0 270 #[(r4 0 u2l 0 u2h), (.int .u8 p)] (.tuple #[(r4 0 u3l 0 u3h), (.int .i64 u3e)])) (H8 : Same w0 269 #[(.agg #[(.int .i8 a), (.int .i64 lo), (.int .i8 b), (.int .i64 hi), (.int .u8 p)]), (r4 0 u3l 0 u3h), (.int .i64 u3e)] (.tuple #[(r4 r3a r3l r3b r3h), (.bool r3i)])) (H9 : Same w0 271 #[(r4 0 u2l 0 u2h), (.int .u8 p)] (.tuple #[(r4 0 u4l 0 u4h), (.int .i64 u4e)])) (H10 : Same w0 269 #[(.agg #[(.int .i8 a), (.int .i64 lo), (.int .i8 b), (.int .i64 hi), (.int .u8 p)]), (r4 0 u4l 0 u4h), (.int .i64 u4e)] (.tuple #[(r4 r4a r4l r4b r4h), (.bool r4i)])) : Same w0 11 #[(fam 3 (.slice bs n cp) d p a lo b hi), (.int .i64 q), (.int .i64 day)] (cond (q == 0) (cond (a == 0) (.tuple #[(r4 r0a r0l r0b r0h), (.bool r0i), (.int .i64 0)]) (.tuple #[(r4 0 0 0 0), (.bool false), (.int .i64 0)])) (cond (q == 1) (cond (b == 0) (.tuple #[(r4 r1a r1l r1b r1h), (.bool r1i), (.int .i64 0)]) (.tuple #[(r4 0 0 0 0), (.bool false), (.int .i64 0)])) (cond (q == 2) (.tuple #[(r4 TW TS TV TU), (.bool TT), (.int .i64 0)]) (cond (q == 3) (cond (a == 0) (cond (decide (lo < day)) (cond (u2e == 0) (cond (decide (u2l < day)) (.tuple #[(r4 r3a r3l r3b r3h), (.bool r3i), (.int .i64 0)]) (.tuple #[(r4 TW TS TV TU), (.bool TT), (.int .i64 0)])) (.tuple #[(r4 TW TS TV TU), (.bool TT), (.int .i64 0)])) (.tuple #[(r4 r0a r0l r0b r0h), (.bool r0i), (.int .i64 0)])) (cond (u2e == 0) (cond (decide (u2l < day)) (.tuple #[(r4 r3a r3l r3b r3h), (.bool r3i), (.int .i64 0)]) (.tuple #[(r4 TW TS TV TU), (.bool TT), (.int .i64 0)])) (.tuple #[(r4 TW TS TV TU), (.bool TT), (.int .i64 0)]))) (cond (b == 0) (cond (decide (day < hi)) (cond (u2e == 0) (cond (decide (day < u2h)) (.tuple #[(r4 r4a r4l r4b r4h), (.bool r4i), (.int .i64 0)]) (.tuple #[(r4 TW TS TV TU), (.bool TT), (.int .i64 0)])) (.tuple #[(r4 TW TS TV TU), (.bool TT), (.int .i64 0)])) (.tuple #[(r4 r1a r1l r1b r1h), (.bool r1i), (.int .i64 0)])) (cond (u2e == 0) (cond (decide (day < u2h)) (.tuple #[(r4 r4a r4l r4b r4h), (.bool r4i), (.int .i64 0)]) (.tuple #[(r4 TW TS TV TU), (.bool TT), (.int .i64 0)])) (.tuple #[(r4 TW TS TV TU), (.bool TT), (.int .i64 0)]))))))) :=
 bH (WC (lv (lF k (.slice bs n cp) d p a lo b hi) [.int .i64 q, .int .i64 day, .int .i64 u0l, .int .i64 u0h, .int .i64 u0e, .int .i8 r0a, .int .i64 r0l, .int .i8 r0b, .int .i64 r0h, .bool r0i, .int .i64 u1l, .int .i64 u1h, .int .i64 u1e, .int .i8 r1a, .int .i64 r1l, .int .i8 r1b, .int .i64 r1h, .bool r1i, .int .i64 u2l, .int .i64 u2h, .int .i64 u2e, .int .i8 TW, .int .i64 TS, .int .i8 TV, .int .i64 TU, .bool TT, .int .i64 u3l, .int .i64 u3h, .int .i64 u3e, .int .i8 r3a, .int .i64 r3l, .int .i8 r3b, .int .i64 r3h, .bool r3i, .int .i64 u4l, .int .i64 u4h, .int .i64 u4e, .int .i8 r4a, .int .i64 r4l, .int .i8 r4b, .int .i64 r4h, .bool r4i])) (bJ w0) hst .nil (.cons H0 (.cons H1 (.cons H2 (.cons H3 (.cons H4 (.cons H5 (.cons H6 (.cons H7 (.cons H8 (.cons H9 (.cons H10 .nil))))))))))) (dF (by kernel_rfl)) (by kernel_rfl)
def aM0 : DT := (.node 1 (.v (.int .i64 8)) (aY 8 .i64 [(pU 1)]) (.leaf qt) DT.no)
theorem aIN (l : Value) : aM0.ok gZ l [] [(9, [], qt)] hp 60 LG 5 [iZ (qu 0), (qi 17)] [] = true := by kernel_rfl
theorem aSp (k : Int) (bs : Option Addr) (n cp : Nat) (d : Dt) (p a lo b hi : Int) (day : Int) {w0 : World} (hst : SS w0) (hn : 8 < n) (H0 : Same w0 9 #[] (.bool true)) : Same w0 5 #[(fam k (.slice bs n cp) d p a lo b hi), (.int .i64 day)] (cond (decide (8 < ((n : Nat) : Int))) (.bool true) (.bool false)) :=
 bH (aIN (lv (lF k (.slice bs n cp) d p a lo b hi) [.int .i64 day])) (bJ w0) hst .nil (.cons H0 .nil) (iI (by kernel_rfl : _ = ((((decide (8 < ((n : Nat) : Int))) = true -> True) /\ ((decide (8 < ((n : Nat) : Int))) = false -> False)))) (⟨fun h0 => trivial, fun h0 => (by simp only [beq_iff_eq, beq_eq_false_iff_ne, decide_eq_true_eq, decide_eq_false_iff_not] at *; omega)⟩)) (by kernel_rfl)
def aKj : DT := (.node 1 (.v (.int .i64 8)) (aY 8 .i64 [(pU 1)]) (.leaf qt) (.node 1 (.v (.int .i64 20)) (aY 7 .i64 [(qs 4)]) (.leaf qt) DT.no))
theorem aFO (l : Value) : aKj.ok gZ l [] [(9, [], qt)] hp 60 LG 5 [iZ (qu 0), (qi 17)] [] = true := by kernel_rfl
theorem aO1 (k : Int) (bs : Option Addr) (n cp : Nat) (d : Dt) (p a lo b hi : Int) (day : Int) {w0 : World} (hst : SS w0) (hn : 20 < d.dg.size) (H0 : Same w0 9 #[] (.bool true)) : Same w0 5 #[(fam k (.slice bs n cp) d p a lo b hi), (.int .i64 day)] (cond (decide (8 < ((n : Nat) : Int))) (.bool true) (cond (decide (20 < ((d.dg).size : Int))) (.bool true) (.bool false))) :=
 bH (aFO (lv (lF k (.slice bs n cp) d p a lo b hi) [.int .i64 day])) (bJ w0) hst .nil (.cons H0 .nil) (iI (by kernel_rfl : _ = ((((decide (8 < ((n : Nat) : Int))) = true -> True) /\ ((decide (8 < ((n : Nat) : Int))) = false -> (((decide (20 < ((d.dg).size : Int))) = true -> True) /\ ((decide (20 < ((d.dg).size : Int))) = false -> False)))))) (⟨fun h0 => trivial, fun h0 => ⟨fun h1 => trivial, fun h1 => (by simp only [beq_iff_eq, beq_eq_false_iff_ne, decide_eq_true_eq, decide_eq_false_iff_not] at *; omega)⟩⟩)) (by kernel_rfl)
def aKi : DT := (.node 1 (.v (.int .i64 8)) (aY 8 .i64 [(pU 1)]) (.leaf qt) (.node 1 (.v (.int .i64 20)) (aY 7 .i64 [(qs 4)]) (.leaf qt) (.node 1 (.v (.int .i64 10)) (aY 7 .i64 [(qs 7)]) (.leaf qt) DT.no)))
theorem aFN (l : Value) : aKi.ok gZ l [] [(9, [], qt)] hp 60 LG 5 [iZ (qu 0), (qi 17)] [] = true := by kernel_rfl
theorem aO0 (k : Int) (bs : Option Addr) (n cp : Nat) (d : Dt) (p a lo b hi : Int) (day : Int) {w0 : World} (hst : SS w0) (hn : 10 < d.mo.size) (H0 : Same w0 9 #[] (.bool true)) : Same w0 5 #[(fam k (.slice bs n cp) d p a lo b hi), (.int .i64 day)] (cond (decide (8 < ((n : Nat) : Int))) (.bool true) (cond (decide (20 < ((d.dg).size : Int))) (.bool true) (cond (decide (10 < ((d.mo).size : Int))) (.bool true) (.bool false)))) :=
 bH (aFN (lv (lF k (.slice bs n cp) d p a lo b hi) [.int .i64 day])) (bJ w0) hst .nil (.cons H0 .nil) (iI (by kernel_rfl : _ = ((((decide (8 < ((n : Nat) : Int))) = true -> True) /\ ((decide (8 < ((n : Nat) : Int))) = false -> (((decide (20 < ((d.dg).size : Int))) = true -> True) /\ ((decide (20 < ((d.dg).size : Int))) = false -> (((decide (10 < ((d.mo).size : Int))) = true -> True) /\ ((decide (10 < ((d.mo).size : Int))) = false -> False)))))))) (⟨fun h0 => trivial, fun h0 => ⟨fun h1 => trivial, fun h1 => ⟨fun h2 => trivial, fun h2 => (by simp only [beq_iff_eq, beq_eq_false_iff_ne, decide_eq_true_eq, decide_eq_false_iff_not] at *; omega)⟩⟩⟩)) (by kernel_rfl)
def aKk : DT := (.node 1 (.v (.int .i64 8)) (aY 8 .i64 [(pU 1)]) (.leaf qt) (.node 1 (.v (.int .i64 20)) (aY 7 .i64 [(qs 4)]) (.leaf qt) (.node 1 (.v (.int .i64 10)) (aY 7 .i64 [(qs 7)]) (.leaf qt) (.node 1 (.v (.int .i64 10)) (aY 7 .i64 [(qs 8)]) (.leaf qt) DT.no))))
theorem aFP (l : Value) : aKk.ok gZ l [] [(9, [], qt)] hp 60 LG 5 [iZ (qu 0), (qi 17)] [] = true := by kernel_rfl
theorem aO2 (k : Int) (bs : Option Addr) (n cp : Nat) (d : Dt) (p a lo b hi : Int) (day : Int) {w0 : World} (hst : SS w0) (hn : 10 < d.da.size) (H0 : Same w0 9 #[] (.bool true)) : Same w0 5 #[(fam k (.slice bs n cp) d p a lo b hi), (.int .i64 day)] (cond (decide (8 < ((n : Nat) : Int))) (.bool true) (cond (decide (20 < ((d.dg).size : Int))) (.bool true) (cond (decide (10 < ((d.mo).size : Int))) (.bool true) (cond (decide (10 < ((d.da).size : Int))) (.bool true) (.bool false))))) :=
 bH (aFP (lv (lF k (.slice bs n cp) d p a lo b hi) [.int .i64 day])) (bJ w0) hst .nil (.cons H0 .nil) (iI (by kernel_rfl : _ = ((((decide (8 < ((n : Nat) : Int))) = true -> True) /\ ((decide (8 < ((n : Nat) : Int))) = false -> (((decide (20 < ((d.dg).size : Int))) = true -> True) /\ ((decide (20 < ((d.dg).size : Int))) = false -> (((decide (10 < ((d.mo).size : Int))) = true -> True) /\ ((decide (10 < ((d.mo).size : Int))) = false -> (((decide (10 < ((d.da).size : Int))) = true -> True) /\ ((decide (10 < ((d.da).size : Int))) = false -> False)))))))))) (⟨fun h0 => trivial, fun h0 => ⟨fun h1 => trivial, fun h1 => ⟨fun h2 => trivial, fun h2 => ⟨fun h3 => trivial, fun h3 => (by simp only [beq_iff_eq, beq_eq_false_iff_ne, decide_eq_true_eq, decide_eq_false_iff_not] at *; omega)⟩⟩⟩⟩)) (by kernel_rfl)
def aHY : DT := (.node 1 (.v (.int .i64 8)) (aY 8 .i64 [(pU 1)]) (.leaf qt) (.node 1 (.v (.int .i64 20)) (aY 7 .i64 [(qs 4)]) (.leaf qt) (.node 1 (.v (.int .i64 10)) (aY 7 .i64 [(qs 7)]) (.leaf qt) (.node 1 (.v (.int .i64 10)) (aY 7 .i64 [(qs 8)]) (.leaf qt) (.node 0 (qi 18) (qi 18) (.node 1 qz (qi 18) (.leaf qt) DT.no) DT.no)))))
theorem aDt (l : Value) : aHY.ok gZ l [] [(9, [], qt), (7, [iZ (qu 0)], (qi 18)), (8, [iZ (qu 0)], (qi 18)), (11, [iZ (qu 0), qz, (qi 17)], .aP [rK q8 qz q8 qz, qf, (qi 18)]), (11, [iZ (qu 0), .v (.int .i64 1), (qi 17)], .aP [rK q8 qz q8 qz, qf, (qi 18)]), (11, [iZ (qu 0), .v (.int .i64 2), (qi 17)], .aP [rK q8 qz q8 qz, qf, (qi 18)]), (11, [iZ (qu 0), .v (.int .i64 3), (qi 17)], .aP [rK q8 qz q8 qz, qf, (qi 18)]), (11, [iZ (qu 0), .v (.int .i64 4), (qi 17)], .aP [rK q8 qz q8 qz, qf, (qi 18)])] hp 60 LG 5 [iZ (qu 0), (qi 17)] [] = true := by kernel_rfl
theorem aL7 (k : Int) (bs : Option Addr) (n cp : Nat) (d : Dt) (p a lo b hi : Int) (day c : Int) {w0 : World} (hst : SS w0) (hc : 0 < c) (H0 : Same w0 9 #[] (.bool true)) (H1 : Same w0 7 #[(fam k (.slice bs n cp) d p a lo b hi)] (.int .i64 c)) (H2 : Same w0 8 #[(fam k (.slice bs n cp) d p a lo b hi)] (.int .i64 c)) (H3 : Same w0 11 #[(fam k (.slice bs n cp) d p a lo b hi), (.int .i64 0), (.int .i64 day)] (.tuple #[(r4 0 0 0 0), (.bool false), (.int .i64 c)])) (H4 : Same w0 11 #[(fam k (.slice bs n cp) d p a lo b hi), (.int .i64 1), (.int .i64 day)] (.tuple #[(r4 0 0 0 0), (.bool false), (.int .i64 c)])) (H5 : Same w0 11 #[(fam k (.slice bs n cp) d p a lo b hi), (.int .i64 2), (.int .i64 day)] (.tuple #[(r4 0 0 0 0), (.bool false), (.int .i64 c)])) (H6 : Same w0 11 #[(fam k (.slice bs n cp) d p a lo b hi), (.int .i64 3), (.int .i64 day)] (.tuple #[(r4 0 0 0 0), (.bool false), (.int .i64 c)])) (H7 : Same w0 11 #[(fam k (.slice bs n cp) d p a lo b hi), (.int .i64 4), (.int .i64 day)] (.tuple #[(r4 0 0 0 0), (.bool false), (.int .i64 c)])) : Same w0 5 #[(fam k (.slice bs n cp) d p a lo b hi), (.int .i64 day)] (cond (decide (8 < ((n : Nat) : Int))) (.bool true) (cond (decide (20 < ((d.dg).size : Int))) (.bool true) (cond (decide (10 < ((d.mo).size : Int))) (.bool true) (cond (decide (10 < ((d.da).size : Int))) (.bool true) (cond (c == c) (cond (decide (0 < c)) (.bool true) (.bool false)) (.bool false)))))) :=
 bH (aDt (lv (lF k (.slice bs n cp) d p a lo b hi) [.int .i64 day, .int .i64 c])) (bJ w0) hst .nil (.cons H0 (.cons H1 (.cons H2 (.cons H3 (.cons H4 (.cons H5 (.cons H6 (.cons H7 .nil)))))))) (iI (by kernel_rfl : _ = ((((decide (8 < ((n : Nat) : Int))) = true -> True) /\ ((decide (8 < ((n : Nat) : Int))) = false -> (((decide (20 < ((d.dg).size : Int))) = true -> True) /\ ((decide (20 < ((d.dg).size : Int))) = false -> (((decide (10 < ((d.mo).size : Int))) = true -> True) /\ ((decide (10 < ((d.mo).size : Int))) = false -> (((decide (10 < ((d.da).size : Int))) = true -> True) /\ ((decide (10 < ((d.da).size : Int))) = false -> (((c == c) = true -> (((decide (0 < c)) = true -> True) /\ ((decide (0 < c)) = false -> False))) /\ ((c == c) = false -> False)))))))))))) (⟨fun h0 => trivial, fun h0 => ⟨fun h1 => trivial, fun h1 => ⟨fun h2 => trivial, fun h2 => ⟨fun h3 => trivial, fun h3 => ⟨fun h4 => ⟨fun h5 => trivial, fun h5 => (by simp only [beq_iff_eq, beq_eq_false_iff_ne, decide_eq_true_eq, decide_eq_false_iff_not] at *; omega)⟩, fun h4 => (by simp only [beq_iff_eq, beq_eq_false_iff_ne, decide_eq_true_eq, decide_eq_false_iff_not] at *; omega)⟩⟩⟩⟩⟩)) (by kernel_rfl)
def aEs : DT := (.node 1 (.v (.int .i64 8)) (aY 8 .i64 [(pU 1)]) (.leaf qt) (.node 1 (.v (.int .i64 20)) (aY 7 .i64 [(qs 4)]) (.leaf qt) (.node 1 (.v (.int .i64 10)) (aY 7 .i64 [(qs 7)]) (.leaf qt) (.node 1 (.v (.int .i64 10)) (aY 7 .i64 [(qs 8)]) (.leaf qt) (.leaf qt)))))
theorem aAk (l : Value) : aEs.ok gZ l [] [(9, [], qt), (7, [iZ (qu 0)], qz), (8, [iZ (qu 0)], qz), (11, [iZ (qu 0), qz, (qi 17)], .aP [(rK (qe 18) (qi 19) (qe 20) (qi 21)), (qb 22), qz]), (11, [iZ (qu 0), .v (.int .i64 1), (qi 17)], .aP [(rK (qe 23) (qi 24) (qe 25) (qi 26)), (qb 27), qz]), (11, [iZ (qu 0), .v (.int .i64 2), (qi 17)], .aP [(rK (qe 28) (qi 29) (qe 30) (qi 31)), (qb 32), qz]), (11, [iZ (qu 0), .v (.int .i64 3), (qi 17)], .aP [(rK (qe 33) (qi 34) (qe 35) (qi 36)), (qb 37), qz]), (11, [iZ (qu 0), .v (.int .i64 4), (qi 17)], .aP [(rK (qe 38) (qi 39) (qe 40) (qi 41)), (qb 42), qz])] hp 60 LG 5 [iZ (qu 0), (qi 17)] [] = true := by kernel_rfl
theorem aJc (k : Int) (bs : Option Addr) (n cp : Nat) (d : Dt) (p a lo b hi : Int) (day r0a r0l r0b r0h r1a r1l r1b r1h TW TS TV TU r3a r3l r3b r3h r4a r4l r4b r4h : Int) (r0i r1i TT r3i r4i : Bool) {w0 : World} (hst : SS w0)  (H0 : Same w0 9 #[] (.bool true)) (H1 : Same w0 7 #[(fam k (.slice bs n cp) d p a lo b hi)] (.int .i64 0)) (H2 : Same w0 8 #[(fam k (.slice bs n cp) d p a lo b hi)] (.int .i64 0)) (H3 : Same w0 11 #[(fam k (.slice bs n cp) d p a lo b hi), (.int .i64 0), (.int .i64 day)] (.tuple #[(r4 r0a r0l r0b r0h), (.bool r0i), (.int .i64 0)])) (H4 : Same w0 11 #[(fam k (.slice bs n cp) d p a lo b hi), (.int .i64 1), (.int .i64 day)] (.tuple #[(r4 r1a r1l r1b r1h), (.bool r1i), (.int .i64 0)])) (H5 : Same w0 11 #[(fam k (.slice bs n cp) d p a lo b hi), (.int .i64 2), (.int .i64 day)] (.tuple #[(r4 TW TS TV TU), (.bool TT), (.int .i64 0)])) (H6 : Same w0 11 #[(fam k (.slice bs n cp) d p a lo b hi), (.int .i64 3), (.int .i64 day)] (.tuple #[(r4 r3a r3l r3b r3h), (.bool r3i), (.int .i64 0)])) (H7 : Same w0 11 #[(fam k (.slice bs n cp) d p a lo b hi), (.int .i64 4), (.int .i64 day)] (.tuple #[(r4 r4a r4l r4b r4h), (.bool r4i), (.int .i64 0)])) : Same w0 5 #[(fam k (.slice bs n cp) d p a lo b hi), (.int .i64 day)] (cond (decide (8 < ((n : Nat) : Int))) (.bool true) (cond (decide (20 < ((d.dg).size : Int))) (.bool true) (cond (decide (10 < ((d.mo).size : Int))) (.bool true) (cond (decide (10 < ((d.da).size : Int))) (.bool true) (.bool true))))) :=
 bH (aAk (lv (lF k (.slice bs n cp) d p a lo b hi) [.int .i64 day, .int .i8 r0a, .int .i64 r0l, .int .i8 r0b, .int .i64 r0h, .bool r0i, .int .i8 r1a, .int .i64 r1l, .int .i8 r1b, .int .i64 r1h, .bool r1i, .int .i8 TW, .int .i64 TS, .int .i8 TV, .int .i64 TU, .bool TT, .int .i8 r3a, .int .i64 r3l, .int .i8 r3b, .int .i64 r3h, .bool r3i, .int .i8 r4a, .int .i64 r4l, .int .i8 r4b, .int .i64 r4h, .bool r4i])) (bJ w0) hst .nil (.cons H0 (.cons H1 (.cons H2 (.cons H3 (.cons H4 (.cons H5 (.cons H6 (.cons H7 .nil)))))))) (dF (by kernel_rfl)) (by kernel_rfl)
end Sk
end
section
open Go.RowKit Go.Lib
namespace Sk
open Ev (eF DT LG gZ bJ hp QY oU uZ l_b Y5 pU aY AV Y0 EM dS bH dF iI BU)
open Bk (Dt bZ cvv)
theorem VE (a lo b hi c l d h : Int) (z : Bool) (hz : z = decide (a = c /\ lo = l /\ b = d /\ hi = h)) : LD 42 (r4 a lo b hi) (r4 c l d h) z := by
 subst hz
 unfold r4
 refine ⟨fun w => ?_, fun w => ?_⟩ <;> · go_simp; (repeat' split) <;> simp_all
def aKh : DT := (.node 3 (qb 13) (qb 13) (.node 0 (qi 16) qz (.leaf (.aP [(rK q8 (qi 14) q8 (qi 15)), qt])) (.leaf (.aP [(rK q8 (qi 14) q8 (qi 15)), qf]))) (.leaf (.aP [(rK q8 qz q8 qz), qf])))
theorem aFM (l : Value) : aKh.ok gZ l [] [(290, [gV, .agg [(qi 10), (qi 11), (qi 12)]], .aP [rK q8 (qi 14) q8 (qi 15), (qi 16)])] hp 60 LG 283 [gV, .agg [(qi 10), (qi 11), (qi 12)], (qb 13)] [] = true := by kernel_rfl
theorem aN4 (d : Dt) (cy cm ck lo hi er : Int) (is : Bool) {w0 : World} (hst : SS w0)  (H0 : Same w0 290 #[(bZ d), (cvv cy cm ck)] (.tuple #[(r4 0 lo 0 hi), (.int .i64 er)])) : Same w0 283 #[(bZ d), (cvv cy cm ck), (.bool is)] (cond is (cond (er == 0) (.tuple #[(r4 0 lo 0 hi), (.bool true)]) (.tuple #[(r4 0 lo 0 hi), (.bool false)])) (.tuple #[(r4 0 0 0 0), (.bool false)])) :=
 bH (aFM (lv (dL d) [.int .i64 cy, .int .i64 cm, .int .i64 ck, .bool is, .int .i64 lo, .int .i64 hi, .int .i64 er])) (bJ w0) hst .nil (.cons H0 .nil) (dF (by kernel_rfl)) (by kernel_rfl)
def aEu : DT := (.node 0 (qi 13) qz (.leaf (.aP [(rK (qe 14) (qi 15) (qe 16) (qi 17)), (qb 22)])) (.leaf (.aP [(rK (qe 18) (qi 19) (qe 20) (qi 21)), (qb 23)])))
theorem aAm (l : Value) : aEu.ok gZ l [] [(282, [gV], .aP [.agg [(qi 10), (qi 11), (qi 12)], (qi 13)]), (283, [gV, .agg [(qi 10), (qi 11), (qi 12)], qt], .aP [(rK (qe 14) (qi 15) (qe 16) (qi 17)), (qb 22)]), (283, [gV, .agg [(qi 10), (qi 11), (qi 12)], qf], .aP [(rK (qe 18) (qi 19) (qe 20) (qi 21)), (qb 23)])] hp 60 LG 276 [gV] [] = true := by kernel_rfl
theorem aJS (d : Dt) (cy cm ck e ra rl rb rh qa ql qb qh : Int) (it if_ : Bool) {w0 : World} (hst : SS w0)  (H0 : Same w0 282 #[(bZ d)] (.tuple #[(cvv cy cm ck), (.int .i64 e)])) (H1 : Same w0 283 #[(bZ d), (cvv cy cm ck), (.bool true)] (.tuple #[(r4 ra rl rb rh), (.bool it)])) (H2 : Same w0 283 #[(bZ d), (cvv cy cm ck), (.bool false)] (.tuple #[(r4 qa ql qb qh), (.bool if_)])) : Same w0 276 #[(bZ d)] (cond (e == 0) (.tuple #[(r4 ra rl rb rh), (.bool it)]) (.tuple #[(r4 qa ql qb qh), (.bool if_)])) :=
 bH (aAm (lv (dL d) [.int .i64 cy, .int .i64 cm, .int .i64 ck, .int .i64 e, .int .i8 ra, .int .i64 rl, .int .i8 rb, .int .i64 rh, .int .i8 qa, .int .i64 ql, .int .i8 qb, .int .i64 qh, .bool it, .bool if_])) (bJ w0) hst .nil (.cons H0 (.cons H1 (.cons H2 .nil))) (dF (by kernel_rfl)) (by kernel_rfl)
def aHZ : DT := (.node 0 (qi 13) qz (.leaf (.aP [(rK (qe 14) (qi 15) (qe 16) (qi 17)), (qb 22)])) (.leaf (.aP [(rK (qe 18) (qi 19) (qe 20) (qi 21)), (qb 23)])))
theorem aDu (l : Value) : aHZ.ok gZ l [] [(285, [gV], .aP [.agg [(qi 10), (qi 11), (qi 12)], (qi 13)]), (283, [gV, .agg [(qi 10), (qi 11), (qi 12)], qt], .aP [(rK (qe 14) (qi 15) (qe 16) (qi 17)), (qb 22)]), (283, [gV, .agg [(qi 10), (qi 11), (qi 12)], qf], .aP [(rK (qe 18) (qi 19) (qe 20) (qi 21)), (qb 23)])] hp 60 LG 278 [gV] [] = true := by kernel_rfl
theorem aL8 (d : Dt) (cy cm ck e ra rl rb rh qa ql qb qh : Int) (it if_ : Bool) {w0 : World} (hst : SS w0)  (H0 : Same w0 285 #[(bZ d)] (.tuple #[(cvv cy cm ck), (.int .i64 e)])) (H1 : Same w0 283 #[(bZ d), (cvv cy cm ck), (.bool true)] (.tuple #[(r4 ra rl rb rh), (.bool it)])) (H2 : Same w0 283 #[(bZ d), (cvv cy cm ck), (.bool false)] (.tuple #[(r4 qa ql qb qh), (.bool if_)])) : Same w0 278 #[(bZ d)] (cond (e == 0) (.tuple #[(r4 ra rl rb rh), (.bool it)]) (.tuple #[(r4 qa ql qb qh), (.bool if_)])) :=
 bH (aDu (lv (dL d) [.int .i64 cy, .int .i64 cm, .int .i64 ck, .int .i64 e, .int .i8 ra, .int .i64 rl, .int .i8 rb, .int .i64 rh, .int .i8 qa, .int .i64 ql, .int .i8 qb, .int .i64 qh, .bool it, .bool if_])) (bJ w0) hst .nil (.cons H0 (.cons H1 (.cons H2 .nil))) (dF (by kernel_rfl)) (by kernel_rfl)
def aBi : DT := (.leaf (.aP [(.agg [(qi 10), (qi 11), (qi 12)]), (qi 13)]))
theorem WE (l : Value) : aBi.ok gZ l [] [(289, [gV, .agg [.v (.int .i64 (-9223372036854775808)), qz, qz], qt], .aP [.agg [(qi 10), (qi 11), (qi 12)], (qi 13)])] hp 60 LG 282 [gV] [] = true := by kernel_rfl
theorem aG7 (d : Dt) (cy cm ck e : Int) {w0 : World} (hst : SS w0)  (H0 : Same w0 289 #[(bZ d), (cvv (-9223372036854775808) 0 0), (.bool true)] (.tuple #[(cvv cy cm ck), (.int .i64 e)])) : Same w0 282 #[(bZ d)] (.tuple #[(cvv cy cm ck), (.int .i64 e)]) :=
 bH (WE (lv (dL d) [.int .i64 cy, .int .i64 cm, .int .i64 ck, .int .i64 e])) (bJ w0) hst .nil (.cons H0 .nil) (dF (by kernel_rfl)) (by kernel_rfl)
def aEt : DT := (.leaf (.aP [(.agg [(qi 10), (qi 11), (qi 12)]), (qi 13)]))
theorem aAl (l : Value) : aEt.ok gZ l [] [(289, [gV, .agg [.v (.int .i64 9223372036854775807), qz, qz], qf], .aP [.agg [(qi 10), (qi 11), (qi 12)], (qi 13)])] hp 60 LG 285 [gV] [] = true := by kernel_rfl
theorem aJR (d : Dt) (cy cm ck e : Int) {w0 : World} (hst : SS w0)  (H0 : Same w0 289 #[(bZ d), (cvv 9223372036854775807 0 0), (.bool false)] (.tuple #[(cvv cy cm ck), (.int .i64 e)])) : Same w0 285 #[(bZ d)] (.tuple #[(cvv cy cm ck), (.int .i64 e)]) :=
 bH (aAl (lv (dL d) [.int .i64 cy, .int .i64 cm, .int .i64 ck, .int .i64 e])) (bJ w0) hst .nil (.cons H0 .nil) (dF (by kernel_rfl)) (by kernel_rfl)
def aKn : DT := (.leaf (.aP [(.agg [(qi 1), (qi 2), (aY 1 .i64 [(aY 2 .i64 [(qi 0), (qi 3)]), (.v (.int .i64 1))])]), qz]))
theorem aFS (l : Value) : aKn.ok gZ l [] [(143, [(qi 0)], .aP [(qi 1), (qi 2), qz]), (157, [(qi 1), (qi 2)], .aP [(qi 3), qz])] hp 60 LG 286 [(qi 0)] [] = true := by kernel_rfl
theorem aPL (day y m s : Int) {w0 : World} (hst : SS w0)  (H0 : Same w0 143 #[(.int .i64 day)] (.tuple #[(.int .i64 y), (.int .i64 m), (.int .i64 0)])) (H1 : Same w0 157 #[(.int .i64 y), (.int .i64 m)] (.tuple #[(.int .i64 s), (.int .i64 0)])) : Same w0 286 #[(.int .i64 day)] (.tuple #[(.agg #[(.int .i64 y), (.int .i64 m), (.int .i64 (IntKind.i64.wrap ((IntKind.i64.wrap (day - s)) + 1)))]), (.int .i64 0)]) :=
 bH (aFS (.agg #[.int .i64 day, .int .i64 y, .int .i64 m, .int .i64 s])) (bJ w0) hst .nil (.cons H0 (.cons H1 .nil)) (dF (by kernel_rfl)) (by kernel_rfl)
def aEy : DT := (.leaf (.aP [(.agg [qz, qz, qz]), (.v (.int .i64 6))]))
theorem aAq (l : Value) : aEy.ok gZ l [] [(143, [(qi 0)], .aP [qz, qz, .v (.int .i64 6)])] hp 60 LG 286 [(qi 0)] [] = true := by kernel_rfl
theorem aKa (day : Int) {w0 : World} (hst : SS w0)  (H0 : Same w0 143 #[(.int .i64 day)] (.tuple #[(.int .i64 0), (.int .i64 0), (.int .i64 6)])) : Same w0 286 #[(.int .i64 day)] (.tuple #[(cvv 0 0 0), (.int .i64 6)]) :=
 bH (aAq (.agg #[.int .i64 day])) (bJ w0) hst .nil (.cons H0 .nil) (dF (by kernel_rfl)) (by kernel_rfl)
def aEz : DT := (.node 3 (qb 15) (qb 15) (.node 1 (qi 10) (qi 12) (.node 0 (qi 19) qz (.node 0 (qu 21) (.v (.int .u8 0)) (.node 3 (qb 51) (qb 51) (.node 1 (qi 10) (qi 48) (.leaf (.aP [(rK (qe 57) (qi 58) (qe 59) (qi 60)), (qb 61)])) (.leaf (.aP [(rK (qe 47) (qi 48) (qe 49) (qi 50)), qt]))) (.leaf (.aP [(rK (qe 47) (qi 48) (qe 49) (qi 50)), qf]))) (.node 3 (qb 31) (qb 31) (.node 1 (qi 10) (qi 28) (.leaf (.aP [(rK (qe 37) (qi 38) (qe 39) (qi 40)), (qb 41)])) (.leaf (.aP [(rK (qe 27) (qi 28) (qe 29) (qi 30)), qt]))) (.leaf (.aP [(rK (qe 27) (qi 28) (qe 29) (qi 30)), qf])))) (.leaf (.aP [(rK q8 qz q8 qz), qf]))) (.leaf (.aP [(rK (qe 11) (qi 12) (qe 13) (qi 14)), qt]))) (.leaf (.aP [(rK (qe 11) (qi 12) (qe 13) (qi 14)), qf])))
theorem aAr (l : Value) : aEz.ok gZ l [] [(278, [gV], .aP [(rK (qe 11) (qi 12) (qe 13) (qi 14)), (qb 15)]), (286, [(qi 10)], .aP [.agg [(qi 16), (qi 17), (qi 18)], (qi 19)]), (288, [gV], .aP [(qu 21), (qi 20)]), (287, [gV, .agg [(qi 16), (qi 17), (qi 18)]], .aP [.agg [(qi 22), (qi 23), (qi 24)], (qb 26), (qi 25)]), (283, [gV, .agg [(qi 22), (qi 23), (qi 24)], (qb 26)], .aP [(rK (qe 27) (qi 28) (qe 29) (qi 30)), (qb 31)]), (287, [gV, .agg [aY 2 .i64 [(qi 22), .v (.int .i64 1)], .v (.int .i64 99), qz]], .aP [.agg [(qi 32), (qi 33), (qi 34)], (qb 36), (qi 35)]), (283, [gV, .agg [(qi 32), (qi 33), (qi 34)], (qb 36)], .aP [(rK (qe 37) (qi 38) (qe 39) (qi 40)), (qb 41)]), (287, [gV, .agg [(qi 16), .v (.int .i64 99), (qi 18)]], .aP [.agg [(qi 42), (qi 43), (qi 44)], (qb 46), (qi 45)]), (283, [gV, .agg [(qi 42), (qi 43), (qi 44)], (qb 46)], .aP [(rK (qe 47) (qi 48) (qe 49) (qi 50)), (qb 51)]), (287, [gV, .agg [aY 2 .i64 [(qi 42), .v (.int .i64 1)], .v (.int .i64 99), qz]], .aP [.agg [(qi 52), (qi 53), (qi 54)], (qb 56), (qi 55)]), (283, [gV, .agg [(qi 52), (qi 53), (qi 54)], (qb 56)], .aP [(rK (qe 57) (qi 58) (qe 59) (qi 60)), (qb 61)])] hp 60 LG 281 [gV, (qi 10)] [] = true := by kernel_rfl
theorem aKc (d : Dt) (day La Ll Lb Lh cy cm ck ce pe pp f1y f1m f1k f1e aJ1 aHb aJ0 aJZ f2y f2m f2k f2e aMJ aMG aMI aMH t1y t1m t1k t1e aIx aER aIw aIv t2y t2m t2k t2e aLo aLl aLn aLm : Int) (Lis f1o f1i f2o f2i t1o t1i t2o t2i : Bool) {w0 : World} (hst : SS w0)  (H0 : Same w0 278 #[(bZ d)] (.tuple #[(r4 La Ll Lb Lh), (.bool Lis)])) (H1 : Same w0 286 #[(.int .i64 day)] (.tuple #[(cvv cy cm ck), (.int .i64 ce)])) (H2 : Same w0 288 #[(bZ d)] (.tuple #[(.int .u8 pp), (.int .i64 pe)])) (H3 : Same w0 287 #[(bZ d), (cvv cy cm ck)] (.tuple #[(cvv f1y f1m f1k), (.bool f1o), (.int .i64 f1e)])) (H4 : Same w0 283 #[(bZ d), (cvv f1y f1m f1k), (.bool f1o)] (.tuple #[(r4 aJ1 aHb aJ0 aJZ), (.bool f1i)])) (H5 : Same w0 287 #[(bZ d), (cvv (IntKind.i64.wrap (f1y - 1)) 99 0)] (.tuple #[(cvv f2y f2m f2k), (.bool f2o), (.int .i64 f2e)])) (H6 : Same w0 283 #[(bZ d), (cvv f2y f2m f2k), (.bool f2o)] (.tuple #[(r4 aMJ aMG aMI aMH), (.bool f2i)])) (H7 : Same w0 287 #[(bZ d), (cvv cy 99 ck)] (.tuple #[(cvv t1y t1m t1k), (.bool t1o), (.int .i64 t1e)])) (H8 : Same w0 283 #[(bZ d), (cvv t1y t1m t1k), (.bool t1o)] (.tuple #[(r4 aIx aER aIw aIv), (.bool t1i)])) (H9 : Same w0 287 #[(bZ d), (cvv (IntKind.i64.wrap (t1y - 1)) 99 0)] (.tuple #[(cvv t2y t2m t2k), (.bool t2o), (.int .i64 t2e)])) (H10 : Same w0 283 #[(bZ d), (cvv t2y t2m t2k), (.bool t2o)] (.tuple #[(r4 aLo aLl aLn aLm), (.bool t2i)])) : Same w0 281 #[(bZ d), (.int .i64 day)] (cond Lis (cond (decide (day < Ll)) (cond (ce == 0) (cond (pp == 0) (cond t1i (cond (decide (day < aER)) (.tuple #[(r4 aLo aLl aLn aLm), (.bool t2i)]) (.tuple #[(r4 aIx aER aIw aIv), (.bool true)])) (.tuple #[(r4 aIx aER aIw aIv), (.bool false)])) (cond f1i (cond (decide (day < aHb)) (.tuple #[(r4 aMJ aMG aMI aMH), (.bool f2i)]) (.tuple #[(r4 aJ1 aHb aJ0 aJZ), (.bool true)])) (.tuple #[(r4 aJ1 aHb aJ0 aJZ), (.bool false)]))) (.tuple #[(r4 0 0 0 0), (.bool false)])) (.tuple #[(r4 La Ll Lb Lh), (.bool true)])) (.tuple #[(r4 La Ll Lb Lh), (.bool false)])) :=
 bH (aAr (lv (dL d) (.int .i64 day :: .int .i8 La :: .int .i64 Ll :: .int .i8 Lb :: .int .i64 Lh :: .bool Lis :: .int .i64 cy :: .int .i64 cm :: .int .i64 ck :: .int .i64 ce :: .int .i64 pe :: .int .u8 pp :: .int .i64 f1y :: .int .i64 f1m :: .int .i64 f1k :: .int .i64 f1e :: .bool f1o :: .int .i8 aJ1 :: .int .i64 aHb :: .int .i8 aJ0 :: .int .i64 aJZ :: .bool f1i :: .int .i64 f2y :: .int .i64 f2m :: .int .i64 f2k :: .int .i64 f2e :: .bool f2o :: .int .i8 aMJ :: .int .i64 aMG :: .int .i8 aMI :: .int .i64 aMH :: .bool f2i :: .int .i64 t1y :: .int .i64 t1m :: .int .i64 t1k :: .int .i64 t1e :: .bool t1o :: .int .i8 aIx :: .int .i64 aER :: .int .i8 aIw :: .int .i64 aIv :: .bool t1i :: .int .i64 t2y :: .int .i64 t2m :: .int .i64 t2k :: .int .i64 t2e :: .bool t2o :: .int .i8 aLo :: .int .i64 aLl :: .int .i8 aLn :: .int .i64 aLm :: .bool t2i :: []))) (bJ w0) hst .nil (.cons H0 (.cons H1 (.cons H2 (.cons H3 (.cons H4 (.cons H5 (.cons H6 (.cons H7 (.cons H8 (.cons H9 (.cons H10 .nil))))))))))) (dF (by kernel_rfl)) (by kernel_rfl)
def aM2 : DT := (.node 3 (qb 15) (qb 15) (.node 1 (qi 14) (qi 10) (.leaf (.aP [(rK q8 qz q8 qz), qf])) (.leaf (.aP [(rK (qe 11) (qi 12) (qe 13) (qi 14)), qt]))) (.leaf (.aP [(rK q8 qz q8 qz), qf])))
theorem aIP (l : Value) : aM2.ok gZ l [] [(281, [gV, (qi 10)], .aP [(rK (qe 11) (qi 12) (qe 13) (qi 14)), (qb 15)])] hp 60 LG 275 [gV, (qi 10)] [] = true := by kernel_rfl
theorem aTN (d : Dt) (day ba bl bb bh : Int) (bi : Bool) {w0 : World} (hst : SS w0)  (H0 : Same w0 281 #[(bZ d), (.int .i64 day)] (.tuple #[(r4 ba bl bb bh), (.bool bi)])) : Same w0 275 #[(bZ d), (.int .i64 day)] (cond bi (cond (decide (bh < day)) (.tuple #[(r4 0 0 0 0), (.bool false)]) (.tuple #[(r4 ba bl bb bh), (.bool true)])) (.tuple #[(r4 0 0 0 0), (.bool false)])) :=
 bH (aIP (lv (dL d) [.int .i64 day, .int .i8 ba, .int .i64 bl, .int .i8 bb, .int .i64 bh, .bool bi])) (bJ w0) hst .nil (.cons H0 .nil) (dF (by kernel_rfl)) (by kernel_rfl)
def aHX : DT := (.node 3 (qb 18) (qb 18) (.node 3 (qb 25) (qb 25) (.leaf (.aP [(rK q8 qz q8 qz), qf])) (.node 0 (qi 22) qz (.node 0 (qu 24) (.v (.int .u8 0)) (.leaf (.aP [(rK (qe 31) (qi 32) (qe 33) (qi 34)), (qb 35)])) (.node 0 (qu 24) (.v (.int .u8 1)) (.leaf (.aP [(rK (qe 31) (qi 32) (qe 33) (qi 34)), (qb 35)])) (.node 0 (qu 24) (.v (.int .u8 2)) (.leaf (.aP [(rK (qe 41) (qi 42) (qe 43) (qi 44)), (qb 45)])) (.leaf (.aP [(rK (qe 51) (qi 52) (qe 53) (qi 54)), (qb 55)]))))) (.leaf (.aP [(rK q8 qz q8 qz), qf])))) (.leaf (.aP [(rK q8 qz q8 qz), qf])))
theorem aDs (l : Value) : aHX.ok gZ l [(42, (rK (qe 14) (qi 15) (qe 16) (qi 17)), (rK (qe 10) (qi 11) (qe 12) (qi 13)), (qb 25))] [(278, [gV], .aP [(rK (qe 14) (qi 15) (qe 16) (qi 17)), (qb 18)]), (286, [(qi 11)], .aP [.agg [(qi 19), (qi 20), (qi 21)], (qi 22)]), (288, [gV], .aP [(qu 24), (qi 23)]), (291, [gV, .agg [aY 1 .i64 [(qi 19), .v (.int .i64 1)], qz, qz]], .aP [.agg [(qi 26), (qi 27), (qi 28)], (qb 30), (qi 29)]), (283, [gV, .agg [(qi 26), (qi 27), (qi 28)], (qb 30)], .aP [(rK (qe 31) (qi 32) (qe 33) (qi 34)), (qb 35)]), (291, [gV, .agg [(qi 19), aY 1 .i64 [(qi 20), .v (.int .i64 1)], qz]], .aP [.agg [(qi 36), (qi 37), (qi 38)], (qb 40), (qi 39)]), (283, [gV, .agg [(qi 36), (qi 37), (qi 38)], (qb 40)], .aP [(rK (qe 41) (qi 42) (qe 43) (qi 44)), (qb 45)]), (291, [gV, .agg [(qi 19), (qi 20), aY 1 .i64 [(qi 21), .v (.int .i64 1)]]], .aP [.agg [(qi 46), (qi 47), (qi 48)], (qb 50), (qi 49)]), (283, [gV, .agg [(qi 46), (qi 47), (qi 48)], (qb 50)], .aP [(rK (qe 51) (qi 52) (qe 53) (qi 54)), (qb 55)])] hp 60 LG 284 [gV, (rK (qe 10) (qi 11) (qe 12) (qi 13))] [] = true := by kernel_rfl
theorem aLW (d : Dt) (ra rl rb rh La Ll Lb Lh cy cm ck ce pe pp nyy nym nyk nye aIU aIR aIT aIS nmy nmm nmk nme aLP aLM aLO aLN nky nkm nkk nke aLT aLQ aLS aLR : Int) (Lis ze nyo nyi nmo nmi nko nki : Bool) {w0 : World} (hst : SS w0) (hz : ze = decide (La = ra /\ Ll = rl /\ Lb = rb /\ Lh = rh)) (H0 : Same w0 278 #[(bZ d)] (.tuple #[(r4 La Ll Lb Lh), (.bool Lis)])) (H1 : Same w0 286 #[(.int .i64 rl)] (.tuple #[(cvv cy cm ck), (.int .i64 ce)])) (H2 : Same w0 288 #[(bZ d)] (.tuple #[(.int .u8 pp), (.int .i64 pe)])) (H3 : Same w0 291 #[(bZ d), (cvv (IntKind.i64.wrap (cy + 1)) 0 0)] (.tuple #[(cvv nyy nym nyk), (.bool nyo), (.int .i64 nye)])) (H4 : Same w0 283 #[(bZ d), (cvv nyy nym nyk), (.bool nyo)] (.tuple #[(r4 aIU aIR aIT aIS), (.bool nyi)])) (H5 : Same w0 291 #[(bZ d), (cvv cy (IntKind.i64.wrap (cm + 1)) 0)] (.tuple #[(cvv nmy nmm nmk), (.bool nmo), (.int .i64 nme)])) (H6 : Same w0 283 #[(bZ d), (cvv nmy nmm nmk), (.bool nmo)] (.tuple #[(r4 aLP aLM aLO aLN), (.bool nmi)])) (H7 : Same w0 291 #[(bZ d), (cvv cy cm (IntKind.i64.wrap (ck + 1)))] (.tuple #[(cvv nky nkm nkk), (.bool nko), (.int .i64 nke)])) (H8 : Same w0 283 #[(bZ d), (cvv nky nkm nkk), (.bool nko)] (.tuple #[(r4 aLT aLQ aLS aLR), (.bool nki)])) : Same w0 284 #[(bZ d), (r4 ra rl rb rh)] (cond Lis (cond ze (.tuple #[(r4 0 0 0 0), (.bool false)]) (cond (ce == 0) (cond (pp == 0) (.tuple #[(r4 aIU aIR aIT aIS), (.bool nyi)]) (cond (pp == 1) (.tuple #[(r4 aIU aIR aIT aIS), (.bool nyi)]) (cond (pp == 2) (.tuple #[(r4 aLP aLM aLO aLN), (.bool nmi)]) (.tuple #[(r4 aLT aLQ aLS aLR), (.bool nki)])))) (.tuple #[(r4 0 0 0 0), (.bool false)]))) (.tuple #[(r4 0 0 0 0), (.bool false)])) :=
 bH (aDs (lv (dL d) [.int .i8 ra, .int .i64 rl, .int .i8 rb, .int .i64 rh, .int .i8 La, .int .i64 Ll, .int .i8 Lb, .int .i64 Lh, .bool Lis, .int .i64 cy, .int .i64 cm, .int .i64 ck, .int .i64 ce, .int .i64 pe, .int .u8 pp, .bool ze, .int .i64 nyy, .int .i64 nym, .int .i64 nyk, .int .i64 nye, .bool nyo, .int .i8 aIU, .int .i64 aIR, .int .i8 aIT, .int .i64 aIS, .bool nyi, .int .i64 nmy, .int .i64 nmm, .int .i64 nmk, .int .i64 nme, .bool nmo, .int .i8 aLP, .int .i64 aLM, .int .i8 aLO, .int .i64 aLN, .bool nmi, .int .i64 nky, .int .i64 nkm, .int .i64 nkk, .int .i64 nke, .bool nko, .int .i8 aLT, .int .i64 aLQ, .int .i8 aLS, .int .i64 aLR, .bool nki])) (bJ w0) hst (.cons (VE _ _ _ _ _ _ _ _ _ hz) (fun _ _ _ => ⟨by kernel_rfl, by kernel_rfl⟩) .nil) (.cons H0 (.cons H1 (.cons H2 (.cons H3 (.cons H4 (.cons H5 (.cons H6 (.cons H7 (.cons H8 .nil))))))))) (dF (by kernel_rfl)) (by kernel_rfl)
def aH0 : DT := (.node 3 (qb 15) (qb 15) (.node 1 (qi 12) (qi 10) (.node 3 (qb 20) (qb 20) (.node 0 (qi 17) (qi 10) (.leaf (.aP [(rK (qe 16) (qi 17) (qe 18) (qi 19)), qt])) (.leaf (.aP [(rK (qe 21) (qi 22) (qe 23) (qi 24)), (qb 25)]))) (.leaf (.aP [(rK (qe 16) (qi 17) (qe 18) (qi 19)), qf]))) (.leaf (.aP [(rK (qe 11) (qi 12) (qe 13) (qi 14)), qt]))) (.leaf (.aP [(rK (qe 11) (qi 12) (qe 13) (qi 14)), qf])))
theorem aDv (l : Value) : aH0.ok gZ l [] [(276, [gV], .aP [(rK (qe 11) (qi 12) (qe 13) (qi 14)), (qb 15)]), (281, [gV, (qi 10)], .aP [(rK (qe 16) (qi 17) (qe 18) (qi 19)), (qb 20)]), (284, [gV, (rK (qe 16) (qi 17) (qe 18) (qi 19))], .aP [(rK (qe 21) (qi 22) (qe 23) (qi 24)), (qb 25)])] hp 60 LG 277 [gV, (qi 10)] [] = true := by kernel_rfl
theorem aMt (d : Dt) (day Fa Fl Fb Fh ba bl bb bh na nl nb nh : Int) (Fi bi ni : Bool) {w0 : World} (hst : SS w0)  (H0 : Same w0 276 #[(bZ d)] (.tuple #[(r4 Fa Fl Fb Fh), (.bool Fi)])) (H1 : Same w0 281 #[(bZ d), (.int .i64 day)] (.tuple #[(r4 ba bl bb bh), (.bool bi)])) (H2 : Same w0 284 #[(bZ d), (r4 ba bl bb bh)] (.tuple #[(r4 na nl nb nh), (.bool ni)])) : Same w0 277 #[(bZ d), (.int .i64 day)] (cond Fi (cond (decide (Fl < day)) (cond bi (cond (bl == day) (.tuple #[(r4 ba bl bb bh), (.bool true)]) (.tuple #[(r4 na nl nb nh), (.bool ni)])) (.tuple #[(r4 ba bl bb bh), (.bool false)])) (.tuple #[(r4 Fa Fl Fb Fh), (.bool true)])) (.tuple #[(r4 Fa Fl Fb Fh), (.bool false)])) :=
 bH (aDv (lv (dL d) [.int .i64 day, .int .i8 Fa, .int .i64 Fl, .int .i8 Fb, .int .i64 Fh, .bool Fi, .int .i8 ba, .int .i64 bl, .int .i8 bb, .int .i64 bh, .bool bi, .int .i8 na, .int .i64 nl, .int .i8 nb, .int .i64 nh, .bool ni])) (bJ w0) hst .nil (.cons H0 (.cons H1 (.cons H2 .nil))) (dF (by kernel_rfl)) (by kernel_rfl)
def aHP : DT := (.node 3 (qb 15) (qb 15) (.node 1 (qi 10) (qi 14) (.node 3 (qb 20) (qb 20) (.node 1 (qi 10) (qi 19) (.node 0 (qi 17) (.v (.int .i64 (-9223372036854775808))) (.leaf (.aP [(rK q8 qz q8 qz), qf])) (.leaf (.aP [(rK (qe 21) (qi 22) (qe 23) (qi 24)), (qb 25)]))) (.leaf (.aP [(rK (qe 16) (qi 17) (qe 18) (qi 19)), qt]))) (.leaf (.aP [(rK (qe 16) (qi 17) (qe 18) (qi 19)), qf]))) (.leaf (.aP [(rK (qe 11) (qi 12) (qe 13) (qi 14)), qt]))) (.leaf (.aP [(rK (qe 11) (qi 12) (qe 13) (qi 14)), qf])))
theorem aDk (l : Value) : aHP.ok gZ l [] [(278, [gV], .aP [(rK (qe 11) (qi 12) (qe 13) (qi 14)), (qb 15)]), (281, [gV, (qi 10)], .aP [(rK (qe 16) (qi 17) (qe 18) (qi 19)), (qb 20)]), (281, [gV, aY 2 .i64 [(qi 17), .v (.int .i64 1)]], .aP [(rK (qe 21) (qi 22) (qe 23) (qi 24)), (qb 25)])] hp 60 LG 280 [gV, (qi 10)] [] = true := by kernel_rfl
theorem aK7 (d : Dt) (day La Ll Lb Lh ba bl bb bh ca cl cb ch : Int) (Li bi ci : Bool) {w0 : World} (hst : SS w0)  (H0 : Same w0 278 #[(bZ d)] (.tuple #[(r4 La Ll Lb Lh), (.bool Li)])) (H1 : Same w0 281 #[(bZ d), (.int .i64 day)] (.tuple #[(r4 ba bl bb bh), (.bool bi)])) (H2 : Same w0 281 #[(bZ d), (.int .i64 (IntKind.i64.wrap (bl - 1)))] (.tuple #[(r4 ca cl cb ch), (.bool ci)])) : Same w0 280 #[(bZ d), (.int .i64 day)] (cond Li (cond (decide (day < Lh)) (cond bi (cond (decide (day < bh)) (cond (bl == (-9223372036854775808)) (.tuple #[(r4 0 0 0 0), (.bool false)]) (.tuple #[(r4 ca cl cb ch), (.bool ci)])) (.tuple #[(r4 ba bl bb bh), (.bool true)])) (.tuple #[(r4 ba bl bb bh), (.bool false)])) (.tuple #[(r4 La Ll Lb Lh), (.bool true)])) (.tuple #[(r4 La Ll Lb Lh), (.bool false)])) :=
 bH (aDk (lv (dL d) [.int .i64 day, .int .i8 La, .int .i64 Ll, .int .i8 Lb, .int .i64 Lh, .bool Li, .int .i8 ba, .int .i64 bl, .int .i8 bb, .int .i64 bh, .bool bi, .int .i8 ca, .int .i64 cl, .int .i8 cb, .int .i64 ch, .bool ci])) (bJ w0) hst .nil (.cons H0 (.cons H1 (.cons H2 .nil))) (dF (by kernel_rfl)) (by kernel_rfl)
end Sk
end
section
open Go.RowKit Go.Lib
namespace Bk
open Un (ba bt ri rb aX bP)
theorem fmd {d : Dt} (h : d.form = 0) : d.mo.size = 0 -> d.da.size = 0 := fun e => by
 rcases kF h with ⟨_, h1, _⟩ | ⟨_, h1, _⟩ | ⟨_, _, h1⟩
 . exact absurd e h1
 . exact absurd e h1
 . exact h1
theorem fmm {d : Dt} (h : d.form = 0) : d.da.size ≠ 0 -> ∀ m, m ∈ d.ms -> 1 <= m /\ m <= 12 := fun e m hm => by
 rcases kF h with ⟨_, _, h1⟩ | ⟨h1, h2, _⟩ | ⟨_, _, h1⟩
 . exact absurd h1 e
 . rw [Dt.rQ h1 h2, iH] at hm
   omega
 . exact absurd h1 e
theorem G5 (d : Dt) (mv dv : Value) (cy cm ck : Int) (w : World) (hk : qI w) (hy : d.dg.size <= 1000) (hf : d.form = 0)
 (y0 : -9223372036854775808 <= cy) (y1 : cy < 9223372036854775808) (hm : bI w mv d.ms) (hd : bI w dv d.ds) :
 Calls Tryz.prog 83 #[fmv d mv dv, cvv cy cm ck, .bool true] w (DK d cy cm ck w) :=
 aE0 d mv dv cy cm ck w hk hy (Dt.gK (Dt.jO hf).1).1 (fmd hf) y0 y1 hm hd (fmm hf)
theorem vP {d : Dt} (h : d.form ≠ 0) : d.err = d.form := by unfold Dt.err; rw [if_pos h]
theorem OM {d : Dt} (h : d.form = 0) (h2 : d.da.size = 0) : d.err = 0 := by unfold Dt.err; rw [if_neg (by omega), if_neg (fun c => c.1 h2)]
theorem aHd {d : Dt} {y m k : Int} {ok : Bool} (h : d.form = 0) (h2 : ¬ d.da.size = 0) (hs : d.jP (-9223372036854775808) 0 0 y m k ok) : d.err = if ok = true then 0 else 8 := by
 have hx := Dt.U6 (fun u hu => by have := Dt.tH (Dt.gK (Dt.jO h).1).1 hu; omega) hs
 unfold Dt.err
 rw [if_neg (by omega)]
 cases ok
 . rw [if_pos ⟨h2, fun hh => by have := hx.2 hh; cases this⟩]; rfl
 . rw [if_neg (fun hh => hh.2 (hx.1 rfl))]; rfl
theorem sJ (d : Dt) (w : World) (hk : qI w) (hs : d.mo.size <= 1000) (hy : d.dg.size <= 1000) (m0 : 0 <= d.m0) (m1 : 0 <= d.m1) (m2 : 0 <= d.m2) :
 Calls Tryz.prog 51 #[bZ d] w fun r w' => r = .returned (.int .i64 d.err) /\ Below w.heap.size w w' := by
 have hD : Rw w.heap.size (bW d) w _ := Rw.fresh (Below.refl _ _) (bW d) 37
 have HC := Lib.hid (fun W hb => aA2 d W (hk.below (w' := W) hb) hs hy m0 m1 m2)
 have HO := Lib.hid (fun W hb hf => IZ d W (hk.below (w' := W) hb) hs hf)
 have HS := Lib.hid (fun mv dv W hb hf hm hd => G5 d mv dv (-9223372036854775808) 0 0 W (hk.below (w' := W) hb) hy hf (by omega) (by omega) hm hd)
 unfold cvv fmv at HS
 clear hk hs hy m0 m1 m2
 rw [sO] at HC HO
 obtain ⟨er, her⟩ : ∃ er, er = d.err := ⟨_, rfl⟩
 rw [<- her]
 replace her := Lib.hid her
 unfold bZ
 go_enter Tryz.func51, Tryz.ntmps51
 unfold bW at hD
 go_upto_region 1 with (fail)
 generalize World.alloc _ _ = W0 at hD ⊢
 have HD : Hid (Rw w.heap.size (bW d) w W0) := Lib.hid hD
 clear hD
 have hR := HD.out.range
 by_cases hf : d.form = 0
 . have HF := Lib.hid hf
   rw [hf] at HC
   clear hf
   go_upto_region 4 with (first
    | (refine wpList_load_mid rfl 37 (.tmp 1) rfl w.heap.size 0 rfl (bW d) _ hR Tryz.underlying37 rfl dA ?_)
    | (go_at_call 81; refine (HC.out _ HD.out.below).mono ?_; rintro _ w1 ⟨rfl, hb⟩))
   replace HD := Lib.hid (HD.out.later hb)
   clear hR hb
   have hR := HD.out.range
   have g6 := HD.out.cell 6 _ rfl
   rcases bQ d.da with ⟨c, e1⟩ | ⟨c, e1⟩
   . have HE := Lib.hid (her.out.trans (OM HF.out c))
     clear c
     go_wp2_with fail
     go_ret
     exact ⟨by rw [HE.out]; rfl, HD.out.below⟩
   . have HE : Hid (∀ y m k ok, d.jP (-9223372036854775808) 0 0 y m k ok -> er = if ok = true then 0 else 8) := Lib.hid (fun y m k ok hs => her.out.trans (aHd HF.out c hs))
     clear c
     go_wp2_with (first
      | (refine wpList_load_mid rfl 37 (.tmp 1) rfl w.heap.size 0 rfl (bW d) _ hR Tryz.underlying37 rfl dA ?_)
      | (go_at_call 82; refine (HO.out _ HD.out.below HF.out).mono ?_; rintro _ w2 ⟨mv, dv, rfl, hm, hd, hb2⟩; have Y8 := Lib.hid (bt HD.out.below hb2); have HS2 := Lib.hid (HS.out mv dv w2 Y8.out HF.out hm hd); clear hm hd hb2))
     refine HS2.out.mono ?_
     rintro _ w3 ⟨y, m, k, ok, hso, rfl, hb3⟩
     have HB3 := Lib.hid (bt Y8.out hb3)
     have HE2 := Lib.hid (HE.out y m k ok hso)
     unfold cvv
     clear hso hb3 HS2
     cases ok
     . go_wp2_with fail
       go_ret
       exact ⟨by rw [HE2.out]; rfl, ba HB3.out _⟩
     . go_wp2_with fail
       go_ret
       exact ⟨by rw [HE2.out]; rfl, ba HB3.out _⟩
 . have HE := Lib.hid (her.out.trans (vP hf))
   generalize d.form = fo at *
   go_wp2_with (first
    | (refine wpList_load_mid rfl 37 (.tmp 1) rfl w.heap.size 0 rfl (bW d) _ hR Tryz.underlying37 rfl dA ?_)
    | (go_at_call 81; refine (HC.out _ HD.out.below).mono ?_; rintro _ w1 ⟨rfl, hb⟩))
   go_ret
   exact ⟨by rw [HE.out]; rfl, bt HD.out.below hb⟩
noncomputable def Dt.fU (d : Dt) : Int := if d.err ≠ 0 then d.err else if 0 < d.sig then 1 else 0
theorem sH (d : Dt) (w : World) (hk : qI w) (hs : d.mo.size <= 1000) (hy : d.dg.size <= 1000) (m0 : 0 <= d.m0) (m1 : 0 <= d.m1) (m2 : 0 <= d.m2) :
 Calls Tryz.prog 292 #[bZ d] w fun r w' => r = .returned (.int .i64 d.fU) /\ Below w.heap.size w w' := by
 have hD : Rw w.heap.size (bW d) w _ := Rw.fresh (Below.refl _ _) (bW d) 37
 have HC := Lib.hid (fun W hb => sJ d W (hk.below (w' := W) hb) hs hy m0 m1 m2)
 clear hk hs hy m0 m1 m2
 rw [sO] at HC
 obtain ⟨er, her⟩ : ∃ er, er = d.fU := ⟨_, rfl⟩
 rw [<- her]
 unfold Dt.fU at her
 replace her := Lib.hid her
 generalize d.err = fo at *
 unfold bZ
 go_enter Tryz.func292, Tryz.ntmps292
 unfold bW at hD
 go_upto_region 1 with (fail)
 generalize World.alloc _ _ = W0 at hD ⊢
 have HD : Hid (Rw w.heap.size (bW d) w W0) := Lib.hid hD
 clear hD
 have hR := HD.out.range
 by_cases hf : fo = 0
 . subst hf
   go_upto_region 4 with (first
    | (refine wpList_load_mid rfl 37 (.tmp 1) rfl w.heap.size 0 rfl (bW d) _ hR Tryz.underlying37 rfl dA ?_)
    | (go_at_call 51; refine (HC.out _ HD.out.below).mono ?_; rintro _ w1 ⟨rfl, hb⟩))
   replace HD := Lib.hid (HD.out.later hb)
   clear hR hb
   have g4 := HD.out.cell 4 _ rfl
   by_cases hg : 0 < d.sig
   . have HE : Hid (er = 1) := Lib.hid (by rw [her.out, if_neg (by simp), if_pos hg])
     go_wp2_with fail
     go_ret
     exact ⟨by rw [HE.out]; rfl, HD.out.below⟩
   . have HE : Hid (er = 0) := Lib.hid (by rw [her.out, if_neg (by simp), if_neg hg])
     go_wp2_with fail
     go_ret
     exact ⟨by rw [HE.out]; rfl, HD.out.below⟩
 . have HE : Hid (er = fo) := Lib.hid (by rw [her.out, if_pos hf])
   go_wp2_with (first
    | (refine wpList_load_mid rfl 37 (.tmp 1) rfl w.heap.size 0 rfl (bW d) _ hR Tryz.underlying37 rfl dA ?_)
    | (go_at_call 51; refine (HC.out _ HD.out.below).mono ?_; rintro _ w1 ⟨rfl, hb⟩))
   go_ret
   exact ⟨by rw [HE.out]; rfl, bt HD.out.below hb⟩
end Bk
end
section
open Go.RowKit Go.Lib
namespace Bk
open Un (ba bt ri rb aX bP)
def Dt.mM (d : Dt) (cy cm ck : Int) (y m k : Int) (ok : Bool) : Prop := (d.fU = 0 /\ d.jP cy cm ck y m k ok) \/ (d.fU ≠ 0 /\ y = 0 /\ m = 0 /\ k = 0 /\ ok = false)
def aCv (d : Dt) (cy cm ck : Int) (w : World) (e : Ending) (w' : World) : Prop := ∃ y m k ok, d.mM cy cm ck y m k ok /\ e = .returned (.tuple #[cvv y m k, .bool ok, .int .i64 d.fU]) /\ Below w.heap.size w w'
theorem lI {d : Dt} (h : d.fU = 0) : d.form = 0 := by
 unfold Dt.fU at h
 by_cases c : d.form = 0
 . exact c
 . rw [vP c, if_pos c] at h; exact absurd h c
theorem xA {fn : Func} {p q r : Tmp} {ty : TypeId} (h : fn.results = #[.cell p ty, .tmp q, .tmp r]) (tmps : Array Value) {P : Program} {w : World} {a : Addr} {v u x : Value}
 (hp : tmps.getD p undef = .pointer (some a)) (hq : tmps.getD q undef = u) (hr : tmps.getD r undef = x) (hl : (loadVar ty a).run P w = .ok v w) : (results fn tmps).run P w = .ok (.tuple #[v, u, x]) w := by
 have hp' : tmps[p]?.getD undef = .pointer (some a) := by simpa using hp
 have hq' : tmps[q]?.getD undef = u := by simpa using hq
 have hr' : tmps[r]?.getD undef = x := by simpa using hr
 simp [results, h, hp', hq', hr', asAddr, hl]
theorem WX {d : Dt} {cy cm ck y m k : Int} {ok : Bool} {p6 : Nat} {w wO : World} {tmps : Array Value} (ho : Rw p6 (aN y m k) w wO) (h : d.mM cy cm ck y m k ok)
 (hp : tmps.getD 4 undef = .pointer (some ⟨p6, 0, none⟩)) (hq : tmps.getD 5 undef = .bool ok) (hr : tmps.getD 6 undef = .int .i64 d.fU) :
 bodyPost Tryz.prog Tryz.f291 (aCv d cy cm ck w) Exit.ret ⟨tmps, []⟩ wO := by
 have hv := run_loadVar_mid (P := Tryz.prog) _ p6 0 112 (aN y m k) _ ho.range Tryz.underlying112 rfl kE
 exact bodyPost_ret (v := .tuple #[cvv y m k, .bool ok, .int .i64 d.fU]) (xA Tryz.results291 _ hp hq hr hv) rfl ⟨y, m, k, ok, h, rfl, ho.below⟩
theorem OJ (d : Dt) (cy cm ck : Int) (w : World) (hk : qI w) (hs : d.mo.size <= 1000) (hy : d.dg.size <= 1000) (m0 : 0 <= d.m0) (m1 : 0 <= d.m1) (m2 : 0 <= d.m2)
 (y0 : -9223372036854775808 <= cy) (y1 : cy < 9223372036854775808) :
 Calls Tryz.prog 291 #[bZ d, cvv cy cm ck] w (aCv d cy cm ck w) := by
 have hD : Rw w.heap.size (bW d) w _ := Rw.fresh (Below.refl _ _) (bW d) 37
 have hD2 := Rw.fresh hD.below (aN cy cm ck) 112
 have hD3 := Rw.fresh hD2.below (aN 0 0 0) 112
 simp only [dM] at hD2 hD3
 have hA : _ /\ _ /\ _ := ⟨(hD.later (ba (Below.refl _ _) (.cells (aN cy cm ck).toArray 112))).later (ba (Below.refl _ _) (.cells (aN 0 0 0).toArray 112)), hD2.later (ba (Below.refl _ _) (.cells (aN 0 0 0).toArray 112)), hD3⟩
 clear hD hD2 hD3
 have HC := Lib.hid (fun W hb => sH d W (hk.below (w' := W) hb) hs hy m0 m1 m2)
 have HO := Lib.hid (fun W hb hf => IZ d W (hk.below (w' := W) hb) hs hf)
 have HS := Lib.hid (fun mv dv W hb hf hm hd => G5 d mv dv cy cm ck W (hk.below (w' := W) hb) hy hf y0 y1 hm hd)
 unfold cvv fmv at HS
 clear hk hs hy m0 m1 m2
 rw [sO] at HC HO
 unfold bZ cvv
 unfold bW aN at hA
 go_enter Tryz.func291, Tryz.ntmps291
 go_upto_region 1 with (fail)
 generalize World.alloc _ _ = W0 at hA ⊢
 have HD : Hid (Rw w.heap.size (bW d) w W0) := Lib.hid hA.1
 have HE : Hid (Rw (w.heap.size + 1) (aN cy cm ck) w W0) := Lib.hid hA.2.1
 have HF : Hid (Rw (w.heap.size + 1 + 1) (aN 0 0 0) w W0) := Lib.hid hA.2.2
 clear hA
 have hR := HD.out.range
 generalize w.heap.size + 1 + 1 = p6 at *
 generalize w.heap.size + 1 = p5 at *
 by_cases hc : d.fU = 0
 . have HCE := Lib.hid hc
   have HFM := Lib.hid (lI hc)
   rw [hc] at HC
   clear hc
   go_upto_region 4 with (first
    | (refine wpList_load_mid rfl 37 (.tmp 2) rfl w.heap.size 0 rfl (bW d) _ hR Tryz.underlying37 rfl dA ?_)
    | (go_at_call 292; refine (HC.out _ HD.out.below).mono ?_; rintro _ w1 ⟨rfl, hb⟩))
   replace HD := Lib.hid (HD.out.later hb)
   replace HE := Lib.hid (HE.out.later hb)
   replace HF := Lib.hid (HF.out.later hb)
   clear hR hb HC
   go_cut [5] (fun s wx => ∃ y m k ok, s = .bool ok /\ d.jP cy cm ck y m k ok /\ Rw p6 (aN y m k) w wx)
   case first =>
    obtain ⟨r0, r1, r2, r3, r4, r5, r6, r7, r8, r9⟩ := HD.out.gJ
    unfold bW at HO
    have e0 := HE.out.cell 0 _ rfl
    have e1 := HE.out.cell 1 _ rfl
    have e2 := HE.out.cell 2 _ rfl
    go_region_with (first
     | (go_at_call 82; refine (HO.out _ (by first | exact HD.out.below | exact HD.out.below.drew | exact HD.out.below.drew.drew) HFM.out).mono ?_; rintro _ w2 ⟨mv, dv, rfl, hm, hd, hb2⟩; have hb2 : Below w1.heap.size w1 w2 := (by first | exact hb2 | exact bt (Below.refl _ _).drew hb2 | exact bt (Below.refl _ _).drew.drew hb2); have Y8 := Lib.hid (bt HD.out.below hb2); have HS2 := Lib.hid (HS.out mv dv w2 Y8.out HFM.out hm hd); have HE2 := Lib.hid (HE.out.later hb2); have HF2 := Lib.hid (HF.out.later hb2); clear hm hd hb2; have e0 := HE2.out.cell 0 _ rfl; have e1 := HE2.out.cell 1 _ rfl; have e2 := HE2.out.cell 2 _ rfl)
     | (go_at_call 83; refine HS2.out.mono ?_; rintro _ w3 ⟨y, m, k, ok, hso, rfl, hb3⟩; unfold cvv; have HF3 := Lib.hid (HF2.out.later hb3); have HSO := Lib.hid hso; clear hb3 hso; have f0 := HF3.out.cell 0 _ rfl; have f1 := HF3.out.cell 1 _ rfl; have f2 := HF3.out.cell 2 _ rfl; have z0 := HF3.out.free 0 (by unfold aN; simp); have z1 := HF3.out.free 1 (by unfold aN; simp); have z2 := HF3.out.free 2 (by unfold aN; simp)))
    all_goals (go_wp2_with fail)
    all_goals (go_meet; exact ⟨_, _, _, _, rfl, HSO.out, HF3.out.cO (aN _ _ _) rfl⟩)
   case rest =>
    obtain ⟨y, m, k, ok, rfl, hso, hX⟩ := hcut
    have HN : Hid (d.mM cy cm ck y m k ok) := Lib.hid (.inl ⟨HCE.out, hso⟩)
    have HX := Lib.hid hX
    clear hX hso HS HO HD HE HF
    have f0 := HX.out.cell 0 _ rfl
    have f1 := HX.out.cell 1 _ rfl
    have f2 := HX.out.cell 2 _ rfl
    have z0 := HX.out.free 0 (by unfold aN; simp)
    have z1 := HX.out.free 1 (by unfold aN; simp)
    have z2 := HX.out.free 2 (by unfold aN; simp)
    go_wp2_with fail
    exact WX (HX.out.cO (aN y m k) rfl) HN.out rfl rfl (by rw [HCE.out]; rfl)
 . have HN : Hid (d.mM cy cm ck 0 0 0 false) := Lib.hid (.inr ⟨hc, rfl, rfl, rfl, rfl⟩)
   obtain ⟨er, her⟩ : ∃ er, er = d.fU := ⟨_, rfl⟩
   rw [<- her] at HC hc
   have MZ := Lib.hid her
   clear her
   go_wp2_with (first
    | (refine wpList_load_mid rfl 37 (.tmp 2) rfl w.heap.size 0 rfl (bW d) _ hR Tryz.underlying37 rfl dA ?_)
    | (go_at_call 292; refine (HC.out _ HD.out.below).mono ?_; rintro _ w1 ⟨rfl, hb⟩; have HF2 := Lib.hid (HF.out.later hb); have f0 := HF2.out.cell 0 _ rfl; have f1 := HF2.out.cell 1 _ rfl; have f2 := HF2.out.cell 2 _ rfl; have z0 := HF2.out.free 0 (by unfold aN; simp); have z1 := HF2.out.free 1 (by unfold aN; simp); have z2 := HF2.out.free 2 (by unfold aN; simp)))
   exact WX (HF2.out.cO (aN 0 0 0) rfl) HN.out rfl rfl (by rw [<- MZ.out]; rfl)
end Bk
end
section
open Go.RowKit Go.Lib
namespace Bk
open Un (ba bt ri rb aX bP)
def Dt.Has (d : Dt) (cy cm ck : Int) : Prop := d.fU = 0 /\ ∃ n j, d.Fill cy n j /\ (d.mo.size = 0 \/ n = cm) /\ (d.da.size = 0 \/ j = ck)
theorem XJ {d : Dt} {cy cm ck y m k : Int} {ok : Bool} (h : d.mM cy cm ck y m k ok) : (d.fU = 0 /\ ok = true /\ y = cy /\ (d.mo.size = 0 \/ m = cm) /\ (d.da.size = 0 \/ k = ck)) ↔ d.Has cy cm ck := by
 unfold Dt.Has
 rcases h with ⟨h0, hs⟩ | ⟨h0, _, _, _, rfl⟩
 . have := Dt.ZP (fmd (lI h0)) hs
   rw [<- this]
   unfold Dt.Is
   simp [h0]
 . simp [h0]
def aM3 (d : Dt) (cy cm ck : Int) (w : World) (e : Ending) (w' : World) : Prop := ∃ b : Bool, (b = true ↔ d.Has cy cm ck) /\ e = .returned (.bool b) /\ Below w.heap.size w w'
theorem aHa (d : Dt) (cy cm ck : Int) (w : World) (hk : qI w) (hs : d.mo.size <= 1000) (hy : d.dg.size <= 1000) (m0 : 0 <= d.m0) (m1 : 0 <= d.m1) (m2 : 0 <= d.m2)
 (y0 : -9223372036854775808 <= cy) (y1 : cy < 9223372036854775808) :
 Calls Tryz.prog 294 #[bZ d, cvv cy cm ck] w (aM3 d cy cm ck w) := by
 have hD : Rw w.heap.size (bW d) w _ := Rw.fresh (Below.refl _ _) (bW d) 37
 have hD2 := Rw.fresh hD.below (aN cy cm ck) 112
 simp only [dM] at hD2
 have hA : _ /\ _ := ⟨hD.later (ba (Below.refl _ _) (.cells (aN cy cm ck).toArray 112)), hD2⟩
 clear hD hD2
 have HN := Lib.hid (fun W hb => OJ d cy cm ck W (hk.below (w' := W) hb) hs hy m0 m1 m2 y0 y1)
 unfold cvv at HN
 clear hk hs hy m0 m1 m2
 rw [sO] at HN
 unfold bZ cvv
 unfold bW aN at hA
 go_enter Tryz.func294, Tryz.ntmps294
 go_upto_region 1 with (fail)
 generalize World.alloc _ _ = W0 at hA ⊢
 have HD : Hid (Rw w.heap.size (bW d) w W0) := Lib.hid hA.1
 have HE : Hid (Rw (w.heap.size + 1) (aN cy cm ck) w W0) := Lib.hid hA.2
 clear hA
 have hR := HD.out.range
 have e0 := HE.out.cell 0 _ rfl
 have e1 := HE.out.cell 1 _ rfl
 have e2 := HE.out.cell 2 _ rfl
 generalize w.heap.size + 1 = p5 at *
 go_cut [5, 6, 7] (fun s5 s6 s7 wx => ∃ p y m k ok, s5 = .pointer (some ⟨p, 0, none⟩) /\ s6 = .bool ok /\ s7 = .int .i64 d.fU /\ d.mM cy cm ck y m k ok /\ Rw p (aN y m k) w wx /\ Rw w.heap.size (bW d) w wx /\ Rw p5 (aN cy cm ck) w wx)
 case first =>
  go_wp2_with (first
   | (refine wpList_load_mid rfl 37 (.tmp 2) rfl w.heap.size 0 rfl (bW d) _ hR Tryz.underlying37 rfl dA ?_)
   | (go_at_call 291; refine (HN.out _ HD.out.below).mono ?_; rintro _ w1 ⟨y, m, k, ok, hx, rfl, hb⟩; have HX := Lib.hid hx; unfold cvv; have HD2 := Lib.hid (HD.out.later hb); have HE2 := Lib.hid (HE.out.later hb); have hNb := bt HD.out.below hb; have HF := Lib.hid (Rw.fresh hNb (aN y m k) 112); clear hx hNb))
  go_meet
  have hb2 := ba (Below.refl w1.heap.size w1) (.cells (aN y m k).toArray 112)
  exact ⟨_, _, _, _, _, rfl, rfl, rfl, HX.out, HF.out, HD2.out.later hb2, HE2.out.later hb2⟩
 case rest =>
  obtain ⟨p, y, m, k, ok, rfl, rfl, rfl, hx, hF, hD, hE⟩ := hcut
  have HX := Lib.hid (XJ hx)
  clear e0 e1 e2 hR HN
  have e0 := hE.cell 0 _ rfl
  have e1 := hE.cell 1 _ rfl
  have e2 := hE.cell 2 _ rfl
  have f0 := hF.cell 0 _ rfl
  have f1 := hF.cell 1 _ rfl
  have f2 := hF.cell 2 _ rfl
  obtain ⟨q0, q1, q2, q3, q4, q5, q6, q7, q8, q9⟩ := hD.gJ
  have HB := Lib.hid hD.below
  generalize d.fU = er at *
  rcases bQ d.mo with ⟨c0, x0⟩ | ⟨c0, x0⟩ <;> rcases bQ d.da with ⟨c1, x1⟩ | ⟨c1, x1⟩ <;> cases ok
  all_goals
   as_aux_lemma =>
    go_wp2
    all_goals go_ret
    all_goals
     refine ⟨_, ?_, rfl, HB.out⟩
     rw [<- HX.out]
     clear HX HB
     (try simp only [beq_iff_eq, bne_iff_ne, beq_eq_false_iff_ne, decide_eq_true_eq, decide_eq_false_iff_not, Bool.not_eq_true, Bool.and_eq_true, Bool.or_eq_true, ne_eq] at *)
     first | (simp [*]; done) | (simp; omega)
end Bk
end
section
namespace Bk
def Dt.CG (d : Dt) : List Int := d.ms.reverse
def Dt.dsr (d : Dt) : List Int := d.ds.reverse
theorem Dt.aI5 (d : Dt) : d.CG.length <= 12 := by unfold Dt.CG; rw [List.length_reverse]; exact d.QJ
theorem Dt.aJ4 (d : Dt) : d.dsr.length <= 31 := by unfold Dt.dsr; rw [List.length_reverse]; exact d.aAY
theorem Dt.FC {d : Dt} {m : Int} : m ∈ d.CG ↔ m ∈ d.ms := List.mem_reverse
theorem Dt.QN {d : Dt} {m : Int} : m ∈ d.dsr ↔ m ∈ d.ds := List.mem_reverse
def Dt.le (d : Dt) (y m k cy cm ck : Int) : Prop := y < cy \/ (y = cy /\ (d.mo.size = 0 \/ m < cm \/ (m = cm /\ (d.da.size = 0 \/ k <= ck))))
def Dt.jY (d : Dt) (cy cm ck : Int) (y m k : Int) (found : Bool) : Prop :=
 (found = true /\ d.Fill y m k /\ d.le y m k cy cm ck /\ ∀ z n j, d.Fill z n j -> d.le z n j cy cm ck -> ¬ lt3 y m k z n j) \/
 (found = false /\ y = 0 /\ m = 0 /\ k = 0 /\ ∀ z n j, d.Fill z n j -> ¬ d.le z n j cy cm ck)
def Dt.EK (d : Dt) (n v : Int) (ok : Bool) : Prop :=
 (ok = true /\ d.In v /\ v <= n /\ ∀ u, d.In u -> u <= n -> u <= v) \/ (ok = false /\ ∀ u, d.In u -> ¬ u <= n)
def Dt.TM (d : Dt) (y cy cm ck : Int) (i : Nat) : Prop := ∀ j, j < i -> ∀ (h : j < d.CG.length), ∀ k, k ∈ d.ds -> k <= d.len y (d.CG[j]'h) -> ¬ d.le y (d.CG[j]'h) k cy cm ck
def Dt.aEB (d : Dt) (y m cy cm ck : Int) (i : Nat) : Prop := ∀ j, j < i -> ∀ (h : j < d.dsr.length), (d.dsr[j]'h) <= d.len y m -> ¬ d.le y m (d.dsr[j]'h) cy cm ck
def Dt.aH4 (d : Dt) (y cy cm ck : Int) : Prop := ∀ z n j, d.Fill z n j -> y < z -> ¬ d.le z n j cy cm ck
theorem Dt.aDA (d : Dt) (y cy cm ck : Int) : d.TM y cy cm ck 0 := fun j h => by omega
theorem Dt.aDD (d : Dt) (y m cy cm ck : Int) : d.aEB y m cy cm ck 0 := fun j h => by omega
theorem Dt.aDE {d : Dt} {y m cy cm ck : Int} {i : Nat} (h : d.aEB y m cy cm ck i) (hi : i < d.dsr.length) (hn : (d.dsr[i]'hi) <= d.len y m -> ¬ d.le y m (d.dsr[i]'hi) cy cm ck) : d.aEB y m cy cm ck (i + 1) := by
 intro j hj hl
 by_cases e : j = i
 . subst e; exact hn
 . exact h j (by omega) hl
theorem Dt.aDB {d : Dt} {y cy cm ck : Int} {i : Nat} (h : d.TM y cy cm ck i) (hi : i < d.CG.length) (hn : d.aEB y (d.CG[i]'hi) cy cm ck d.dsr.length) : d.TM y cy cm ck (i + 1) := by
 intro j hj hl
 by_cases e : j = i
 . subst e
   intro k hk hkl
   obtain ⟨a, ha, rfl⟩ := List.getElem_of_mem (Dt.QN.2 hk)
   exact hn a ha ha hkl
 . exact h j (by omega) hl
theorem Dt.aDC {d : Dt} {y cy cm ck : Int} {i : Nat} (h : d.TM y cy cm ck i) (hi : i < d.CG.length) (hy : y = cy) (hm : d.mo.size ≠ 0) (hlt : cm < (d.CG[i]'hi)) : d.TM y cy cm ck (i + 1) := by
 intro j hj hl
 by_cases e : j = i
 . subst e
   rintro k hk hkl (g | ⟨g, g | g | ⟨g, _⟩⟩) <;> omega
 . exact h j (by omega) hl
theorem Dt.aDz {d : Dt} {y v cy cm ck : Int} {ok : Bool} (h : d.aH4 y cy cm ck) (hm : d.TM y cy cm ck d.CG.length) (hy : d.EK (y - 1) v ok) :
 (ok = true -> d.aH4 v cy cm ck) /\ (ok = false -> ∀ z n j, d.Fill z n j -> ¬ d.le z n j cy cm ck) := by
 have key : ∀ z n j, d.Fill z n j -> y <= z -> ¬ d.le z n j cy cm ck := by
  intro z n j hf hz
  by_cases e : z = y
  . subst e
    obtain ⟨h1, h2, h3, h4⟩ := hf
    obtain ⟨a, ha, rfl⟩ := List.getElem_of_mem (Dt.FC.2 h2)
    exact hm a ha ha j h3 h4
  . exact h z n j hf (by omega)
 constructor
 . rintro rfl z n j hf hz
   rcases hy with ⟨_, _, _, hmin⟩ | ⟨h, _⟩
   . exact key z n j hf (by have := hmin z hf.1; omega)
   . cases h
 . rintro rfl z n j hf
   rcases hy with ⟨h, _⟩ | ⟨_, hno⟩
   . cases h
   . exact key z n j hf (by have := hno z hf.1; omega)
theorem Dt.aAs {d : Dt} {v cy cm ck : Int} {ok : Bool} (hy : d.EK cy v ok) :
 (ok = true -> d.aH4 v cy cm ck) /\ (ok = false -> ∀ z n j, d.Fill z n j -> ¬ d.le z n j cy cm ck) := by
 have low : ∀ z n j, cy < z -> ¬ d.le z n j cy cm ck := by rintro z n j h (g | ⟨g, _⟩) <;> omega
 constructor
 . rintro rfl z n j hf hz
   rcases hy with ⟨_, _, _, hmin⟩ | ⟨h, _⟩
   . exact low z n j (by have := hmin z hf.1; omega)
   . cases h
 . rintro rfl z n j hf
   rcases hy with ⟨h, _⟩ | ⟨_, hno⟩
   . cases h
   . exact low z n j (by have := hno z hf.1; omega)
theorem NH {l : List Int} (hs : l.Pairwise (· < ·)) {i j : Nat} (hi : i < l.reverse.length) (hj : j < l.reverse.length) (h : (l.reverse[i]'hi) < (l.reverse[j]'hj)) : j < i := by
 have hr : l.reverse.Pairwise (fun a b => b < a) := List.pairwise_reverse.2 hs
 by_cases c : j < i
 . exact c
 . exfalso
   by_cases e : i = j
   . subst e; omega
   . have := List.pairwise_iff_getElem.1 hr i j hi hj (by omega)
     omega
theorem Dt.aMw {d : Dt} {y cy cm ck : Int} {i j : Nat} (hY : d.In y) (hN : d.aH4 y cy cm ck) (hM : d.TM y cy cm ck i) (hi : i < d.CG.length) (hK : d.aEB y (d.CG[i]'hi) cy cm ck j) (hj : j < d.dsr.length)
 (hl : (d.dsr[j]'hj) <= d.len y (d.CG[i]'hi)) (hg : d.le y (d.CG[i]'hi) (d.dsr[j]'hj) cy cm ck) : d.jY cy cm ck y (d.CG[i]'hi) (d.dsr[j]'hj) true := by
 refine .inl ⟨rfl, ⟨hY, Dt.FC.1 (List.getElem_mem hi), Dt.QN.1 (List.getElem_mem hj), hl⟩, hg, ?_⟩
 intro z n k hf hge hlt
 rcases hlt with h | ⟨rfl, h | ⟨rfl, h⟩⟩
 . exact hN z n k hf h hge
 . obtain ⟨_, h2, h3, h4⟩ := hf
   obtain ⟨a, ha, rfl⟩ := List.getElem_of_mem (Dt.FC.2 h2)
   exact hM a (NH d.OA hi ha h) ha k h3 h4 hge
 . obtain ⟨_, h2, h3, h4⟩ := hf
   obtain ⟨a, ha, rfl⟩ := List.getElem_of_mem (Dt.QN.2 h3)
   exact hK a (NH d.OO hj ha h) ha h4 hge
theorem aIy {d : Dt} {v m k cy cm ck : Int} {s2 : Bool} (hmd : d.mo.size = 0 -> d.da.size = 0) (hle : v <= cy) (hns : ¬ (v = cy /\ d.mo.size ≠ 0 /\ cm < m)) (h2 : s2 = true ↔ v = cy /\ (d.mo.size = 0 \/ m = cm)) :
 d.le v m k cy cm ck ↔ ¬ (s2 = true /\ d.da.size ≠ 0 /\ ck < k) := by
 unfold Dt.le
 rw [h2]
 by_cases c : v < cy
 . exact ⟨fun _ h => by omega, fun _ => .inl c⟩
 . have e : v = cy := by omega
   constructor
   . rintro (h | ⟨_, h⟩) ⟨⟨_, g1⟩, g2, g3⟩
     . exact c h
     . have : d.mo.size ≠ 0 := fun h => g2 (hmd h)
       omega
   . intro h
     refine .inr ⟨e, ?_⟩
     by_cases c1 : d.mo.size = 0
     . exact .inl c1
     . by_cases c2 : m = cm
       . refine .inr (.inr ⟨c2, ?_⟩)
         by_cases c3 : d.da.size = 0
         . exact .inl c3
         . right
           by_cases c4 : ck < k
           . exact absurd ⟨⟨e, .inr c2⟩, c3, c4⟩ h
           . omega
       . right; left; omega
structure TJ (d : Dt) (cy cm ck : Int) (v : Int) (ok : Bool) : Prop where
 yes : ok = true -> d.In v /\ v <= cy /\ d.aH4 v cy cm ck
 no : ok = false -> ∀ z n j, d.Fill z n j -> ¬ d.le z n j cy cm ck
theorem TJ.start {d : Dt} {cy cm ck v : Int} {ok : Bool} (h : d.EK cy v ok) : TJ d cy cm ck v ok := by
 have hs := Dt.aAs (cm := cm) (ck := ck) h
 refine ⟨fun e => ?_, hs.2⟩
 rcases h with g | g
 . exact ⟨g.2.1, g.2.2.1, hs.1 e⟩
 . rw [g.1] at e; cases e
theorem TJ.next {d : Dt} {cy cm ck y v : Int} {ok : Bool} (hs : TJ d cy cm ck y true) (hm : d.TM y cy cm ck d.CG.length) (h : d.EK (y - 1) v ok) : TJ d cy cm ck v ok /\ (ok = true -> v < y) := by
 obtain ⟨h1, h2, h3⟩ := hs.yes rfl
 have hn := Dt.aDz h3 hm h
 rcases h with g | g
 . exact ⟨⟨fun e => ⟨g.2.1, by have := g.2.2.1; omega, hn.1 e⟩, hn.2⟩, fun _ => by have := g.2.2.1; omega⟩
 . refine ⟨⟨fun e => ?_, hn.2⟩, fun e => ?_⟩ <;> (rw [g.1] at e; cases e)
theorem aBF {y m k z n j : Int} (h1 : ¬ lt3 y m k z n j) (h2 : ¬ lt3 z n j y m k) : y = z /\ m = n /\ k = j := by
 unfold lt3 at h1 h2; omega
theorem Dt.ZO {d : Dt} {cy cm ck y m k y' m' k' : Int} {b b' : Bool} (h : d.jP cy cm ck y m k b) (h' : d.jP cy cm ck y' m' k' b') : (y, m, k, b) = (y', m', k', b') := by
 rcases h with ⟨rfl, h1, h2, h3⟩ | ⟨rfl, rfl, rfl, rfl, h3⟩ <;> rcases h' with ⟨rfl, g1, g2, g3⟩ | ⟨rfl, rfl, rfl, rfl, g3⟩
 . obtain ⟨rfl, rfl, rfl⟩ := aBF (g3 _ _ _ h1 h2) (h3 _ _ _ g1 g2); rfl
 . exact absurd h2 (g3 _ _ _ h1)
 . exact absurd g2 (h3 _ _ _ g1)
 . rfl
theorem Dt.U7 {d : Dt} {cy cm ck y m k y' m' k' : Int} {b b' : Bool} (h : d.jY cy cm ck y m k b) (h' : d.jY cy cm ck y' m' k' b') : (y, m, k, b) = (y', m', k', b') := by
 rcases h with ⟨rfl, h1, h2, h3⟩ | ⟨rfl, rfl, rfl, rfl, h3⟩ <;> rcases h' with ⟨rfl, g1, g2, g3⟩ | ⟨rfl, rfl, rfl, rfl, g3⟩
 . obtain ⟨rfl, rfl, rfl⟩ := aBF (h3 _ _ _ g1 g2) (g3 _ _ _ h1 h2); rfl
 . exact absurd h2 (g3 _ _ _ h1)
 . exact absurd g2 (h3 _ _ _ g1)
 . rfl
open Classical in
noncomputable def Dt.nx (d : Dt) (c : Int × Int × Int) : Int × Int × Int × Bool := if h : ∃ t : Int × Int × Int × Bool, d.jP c.1 c.2.1 c.2.2 t.1 t.2.1 t.2.2.1 t.2.2.2 then h.choose else (0, 0, 0, false)
open Classical in
noncomputable def Dt.pv (d : Dt) (c : Int × Int × Int) : Int × Int × Int × Bool := if h : ∃ t : Int × Int × Int × Bool, d.jY c.1 c.2.1 c.2.2 t.1 t.2.1 t.2.2.1 t.2.2.2 then h.choose else (0, 0, 0, false)
theorem Dt.aKI {d : Dt} {cy cm ck y m k : Int} {b : Bool} (h : d.jP cy cm ck y m k b) : d.nx (cy, cm, ck) = (y, m, k, b) := by
 have he : ∃ t : Int × Int × Int × Bool, d.jP cy cm ck t.1 t.2.1 t.2.2.1 t.2.2.2 := ⟨(y, m, k, b), h⟩
 unfold Dt.nx
 rw [dif_pos he]
 exact Dt.ZO he.choose_spec h
theorem Dt.aKA {d : Dt} {cy cm ck y m k : Int} {b : Bool} (h : d.jY cy cm ck y m k b) : d.pv (cy, cm, ck) = (y, m, k, b) := by
 have he : ∃ t : Int × Int × Int × Bool, d.jY cy cm ck t.1 t.2.1 t.2.2.1 t.2.2.2 := ⟨(y, m, k, b), h⟩
 unfold Dt.pv
 rw [dif_pos he]
 exact Dt.U7 he.choose_spec h
end Bk
end
section
open Go.RowKit Go.Lib
namespace Bk
open Un (ba bt ri rb aX bP)
theorem LX (s : ByteArray) (n : Int) (w : World) (h4 : s.size = 4) (hx : allB dP s = true) (n0 : -9223372036854775808 <= n) (n1 : n < 9223372036854775808) :
 Calls Tryz.prog 137 #[.string s, .int .i64 n, .bool true, .int .i64 1] w (O9 (UpR (aZ s) n 1) w) := by
 have HN := Lib.hid (fun w => N8 s (max n 1) w h4 hx)
 have HU : ∀ v x, mM (aZ s) (max n 1) v x -> UpR (aZ s) n 1 v (x == 0) := by
  intro v x h
  obtain ⟨b0, b1, _⟩ := WZ h
  refine ⟨b0, b1, ?_⟩
  rcases h with ⟨rfl, h1, h2, h3⟩ | ⟨rfl, _, h3⟩
  . exact .inl ⟨rfl, h1, by omega, by omega, fun f hf g1 g2 => h3 f hf (by omega)⟩
  . exact .inr ⟨rfl, fun f hf hl => by have := h3 f hf; have := hf.1; omega⟩
 replace HU := Lib.hid HU
 go_enter Tryz.func137, Tryz.ntmps137
 go_wp2_with fail
 refine (HN.out _).mono ?_; rintro _ w1 ⟨v, x, hN, rfl, hb1⟩
 have hR := Lib.hid (HU.out _ _ hN)
 clear hN
 go_wp2_with fail
 go_ret2
 exact ⟨_, _, hR.out, rfl, hb1⟩
theorem LY (s : ByteArray) (n : Int) (w : World) (h4 : s.size = 4) (hx : allB dP s = true) :
 Calls Tryz.prog 137 #[.string s, .int .i64 n, .bool false, .int .i64 0] w (O9 (DnR (aZ s) n 0) w) := by
 have HN := Lib.hid (fun w => NT s n w h4 hx)
 have HU : ∀ v x, pJ (aZ s) n v x -> DnR (aZ s) n 0 v (x == 0 && decide (0 <= v)) := by
  intro v x h
  obtain ⟨b0, b1, _⟩ := y9 h
  refine ⟨b0, b1, ?_⟩
  rcases h with ⟨rfl, h1, h2, h3⟩ | ⟨rfl, _, h3⟩
  . by_cases c : 0 <= v
    . exact .inl ⟨by rw [decide_eq_true c]; rfl, h1, h2, c, h3⟩
    . exact .inr ⟨by rw [decide_eq_false c]; rfl, fun f hf hl => by have := h3 f hf hl; omega⟩
  . exact .inr ⟨rfl, fun f hf hl => by have := h3 f hf; omega⟩
 replace HU := Lib.hid HU
 go_enter Tryz.func137, Tryz.ntmps137
 go_wp2_with fail
 refine (HN.out _).mono ?_; rintro _ w1 ⟨v, x, hN, rfl, hb1⟩
 have hR := HU.out _ _ hN
 have hx2 := (y9 hN).2.2
 clear hN
 rcases hx2 with rfl | rfl
 . have hR2 := Lib.hid (show DnR (aZ s) n 0 v (decide (0 <= v)) by rw [show ((0 : Int) == 0) = true from rfl, Bool.true_and] at hR; exact hR)
   clear hR
   go_wp2_with fail
   go_ret2
   exact ⟨_, _, hR2.out, rfl, hb1⟩
 . have hR2 := Lib.hid (show DnR (aZ s) n 0 v false by rw [show ((16 : Int) == 0) = false from rfl, Bool.false_and] at hR; exact hR)
   clear hR
   go_wp2_with fail
   go_ret2
   exact ⟨_, _, hR2.out, rfl, hb1⟩
theorem ZB {d : Dt} {n : Int} (hm : d.mask = false) : d.EK n (yVal d.neg d.dg d.ex) (decide (yVal d.neg d.dg d.ex <= n)) := by
 have hin : ∀ u, d.In u ↔ u = yVal d.neg d.dg d.ex := fun u => by
  unfold Dt.In yVal Dt.mag
  rw [if_neg (by rw [hm]; decide)]
 by_cases c : yVal d.neg d.dg d.ex <= n
 . exact .inl ⟨decide_eq_true c, (hin _).2 rfl, c, fun u hu _ => by rw [(hin u).1 hu]; exact Int.le_refl _⟩
 . exact .inr ⟨decide_eq_false c, fun u hu h => by rw [(hin u).1 hu] at h; exact c h⟩
theorem aIn {d : Dt} {n v : Int} {ok : Bool} (hm : d.mask = true) (hn : d.neg = false) (h : DnR (aZ d.dg) n 0 v ok) : d.EK n v ok := by
 have hin : ∀ u, d.In u ↔ oC (aZ d.dg) u := fun u => by
  unfold Dt.In
  rw [if_pos hm, if_neg (by rw [hn]; decide)]
 rcases h.2.2 with ⟨h1, h2, h3, _, h4⟩ | ⟨h1, h2⟩
 . exact .inl ⟨h1, (hin _).2 h2, h3, fun u hu hl => h4 u ((hin u).1 hu) hl⟩
 . exact .inr ⟨h1, fun u hu hl => by have := h2 u ((hin u).1 hu) hl; have := ((hin u).1 hu).1; omega⟩
theorem aIm {d : Dt} {n v : Int} {ok : Bool} (hm : d.mask = true) (hn : d.neg = true) (h : UpR (aZ d.dg) (-(max n (-9223372036854775807))) 1 v ok) : d.EK n (-v) ok := by
 have hin : ∀ u, d.In u ↔ (oC (aZ d.dg) (-u) /\ u ≠ 0) := fun u => by
  unfold Dt.In
  rw [if_pos hm, if_pos hn]
 have hv := h.2.1
 rcases h.2.2 with ⟨h1, h2, h3, h5, h4⟩ | ⟨h1, h2⟩
 . refine .inl ⟨h1, (hin _).2 ⟨by rw [Int.neg_neg]; exact h2, by omega⟩, by omega, fun u hu hl => ?_⟩
   obtain ⟨g1, g2⟩ := (hin u).1 hu
   have := h4 (-u) g1 (by have := g1.2.1; omega) (by have := g1.1; omega)
   omega
 . refine .inr ⟨h1, fun u hu hl => ?_⟩
   obtain ⟨g1, g2⟩ := (hin u).1 hu
   have := h2 (-u) g1 (by have := g1.1; omega)
   have := g1.2.1
   omega
theorem ML (d : Dt) (mv dv : Value) (n : Int) (w : World) (hy : d.dg.size <= 1000) (hok : d.PK = true) (n0 : -9223372036854775808 <= n) (n1 : n < 9223372036854775808) :
 Calls Tryz.prog 114 #[fmv d mv dv, .int .i64 n, .bool false] w (O9 (fun v ok => d.EK n v ok) w) := by
 have hF : Rw w.heap.size (gU d mv dv) w _ := Rw.fresh (Below.refl _ _) (gU d mv dv) 116
 unfold gU at hF
 have hM := fun W => lX d.neg d.long d.dg d.ex d.sig W
 unfold yv at hM
 unfold Dt.PK at hok
 unfold fmv
 go_enter Tryz.func114, Tryz.ntmps114
 go_upto_region 1 with (fail)
 generalize w.alloc _ = W0 at hF ⊢
 obtain ⟨r0, r1, r2, r3, r4⟩ := (⟨hF.cell 0 _ rfl, hF.cell 1 _ rfl, hF.cell 2 _ rfl, hF.cell 3 _ rfl, hF.cell 4 _ rfl⟩ : _ /\ _ /\ _ /\ _ /\ _)
 have HB0 := Lib.hid hF.below
 clear hF
 go_upto_region 2 with (fail)
 have hY := Ym.new d.neg d.long d.dg d.ex d.sig W0 35
 generalize W0.alloc _ = W1 at hY ⊢
 clear r0 r1 r2 r3 r4
 obtain ⟨q0, q1, q2, q3, q4, qB⟩ := id hY
 cases hx : hasB 88 d.dg
 . rw [hx] at hM
   have HM := Lib.hid hM
   have hV := fun W => xM d.neg d.long d.dg d.ex d.sig W hy hok hx
   unfold yv at hV
   have HV := Lib.hid hV
   have HP := Lib.hid (ZB (d := d) (n := n) (by unfold Dt.mask; exact hx))
   have hb := PN hok hx
   clear hM hV hok hx
   generalize yVal d.neg d.dg d.ex = v at *
   go_wp2_with fail
   refine (HM.out _).mono ?_; rintro _ w1 ⟨rfl, hb⟩
   replace hY := hY.later hb; clear hb; obtain ⟨q0, q1, q2, q3, q4, qB⟩ := id hY
   go_wp2_with fail
   refine (HV.out _).mono ?_; rintro _ w2 ⟨rfl, hb⟩
   replace hY := hY.later hb; clear hb; obtain ⟨q0, q1, q2, q3, q4, qB⟩ := id hY
   have HB2 := Lib.hid (bt HB0.out hY.below)
   by_cases cn : v <= n
   . rw [decide_eq_true cn] at HP
     go_wp2_with fail
     go_ret2
     exact ⟨_, _, HP.out, rfl, HB2.out⟩
   . go_wp2_with fail
     go_ret2
     exact ⟨_, _, HP.out, rfl, HB2.out⟩
 . have hs : d.long = false /\ d.dg.size = 4 /\ allB dP d.dg = true := by
    rcases Bool.eq_false_or_eq_true d.long with hl | hl
    case inr =>
     rw [hl] at hok
     obtain ⟨h1, h2, _⟩ := iF hok
     exact ⟨hl, h1, h2⟩
    case inl =>
     rw [hl] at hok
     have hd := (jD hok).2.2.1
     have := (kT (vS hd)).2 hd
     rw [hx] at this; cases this
   obtain ⟨-, h4, hdx⟩ := hs
   rw [hx] at hM
   have HM := Lib.hid hM
   have hmk : d.mask = true := by unfold Dt.mask; exact hx
   rcases Bool.eq_false_or_eq_true d.neg with hn | hn
   case inr =>
    as_aux_lemma =>
     have HU := Lib.hid (fun w => LY d.dg n w h4 hdx)
     have HP := Lib.hid (fun v ok h => aIn (n := n) (v := v) (ok := ok) hmk hn h)
     have HN := Lib.hid hn
     clear hM hok hx h4 hdx hmk hn
     go_wp2_with fail
     refine (HM.out _).mono ?_; rintro _ w1 ⟨rfl, hb⟩
     replace hY := hY.later hb; clear hb; obtain ⟨q0, q1, q2, q3, q4, qB⟩ := id hY
     rw [HN.out] at q0
     go_wp2_with fail
     refine (HU.out _).mono ?_; rintro _ w2 ⟨v, ok, hU, rfl, hb⟩
     have HP2 := Lib.hid (HP.out _ _ hU)
     have HB2 := Lib.hid (bt (bt HB0.out hY.below) hb)
     clear hb hU
     go_wp2_with fail
     go_ret2
     exact ⟨_, _, HP2.out, rfl, HB2.out⟩
   case inl =>
    as_aux_lemma =>
     have HU := Lib.hid (fun w => LX d.dg (-(max n (-9223372036854775807))) w h4 hdx (by omega) (by omega))
     have HP := Lib.hid (fun v ok h => aIm (n := n) (v := v) (ok := ok) hmk hn h)
     have HN := Lib.hid hn
     clear hM hok hx h4 hdx hmk hn
     go_wp2_with fail
     refine (HM.out _).mono ?_; rintro _ w1 ⟨rfl, hb⟩
     replace hY := hY.later hb; clear hb; obtain ⟨q0, q1, q2, q3, q4, qB⟩ := id hY
     rw [HN.out] at q0
     go_wp2_with fail
     refine (HU.out _).mono ?_; rintro _ w2 ⟨v, ok, hU, rfl, hb⟩
     have HP2 := Lib.hid (HP.out _ _ hU)
     have hw : wrap64 (-v) = -v := by
      have g0 := hU.1
      have g1 := hU.2.1
      unfold wrap64; omega
     have HB2 := Lib.hid (bt (bt HB0.out hY.below) hb)
     clear hb hU
     go_wp2_with fail
     rw [hw]
     go_ret2
     exact ⟨_, _, HP2.out, rfl, HB2.out⟩
end Bk
end
section
open Go.RowKit Go.Lib
namespace Bk
open Un (ba bt ri rb aX bP)
def yP (base : Nat) (W : World) (v : Value) (l : List Int) : Prop := W.ownsRow base 3 1 v l.length (l.map (.int .i64)) /\ v ≠ .slice none 0 0
theorem yP.sl {base : Nat} {W : World} {v : Value} {l : List Int} (h : yP base W v l) (hne : l ≠ []) : bI W v l := bI.own h.1 hne
theorem qN {w w' : World} {base e size n : Nat} {v : Value} {xs : List Value} (h : w.ownsRow base e size v n xs) (hb : ∀ g, v.ownBlock = some g -> w'.heap[g]? = w.heap[g]?) : w'.ownsRow base e size v n xs := by
 refine ⟨h.1, ?_⟩
 rcases h.2 with h2 | ⟨g, cap, cur, rfl, h3, h4, h5⟩
 . exact .inl h2
 . exact .inr ⟨g, cap, cur, rfl, h3, (hb g rfl).trans h4, h5⟩
theorem yP.later {base : Nat} {W W2 : World} {v : Value} {l : List Int} (h : yP base W v l) (hb : Below W.heap.size W W2) : yP base W2 v l := by
 refine ⟨qN h.1 (fun g hg => ?_), h.2⟩
 obtain ⟨g', cap, rfl, _, hlt, _⟩ := holds_of_ownsRow h.1 h.2
 cases hg
 exact hb.block _ hlt
theorem clone_any (v : Value) (l : List Int) (w : World) (hlen : l.length <= 1000) (h : bI w v l) :
 Calls Tryz.prog 111 #[v] w fun e w' => ∃ v', e = .returned v' /\ yP w.heap.size w' v' l /\ Below w.heap.size w w' := by
 obtain ⟨g, cap, rfl, _, hc⟩ := h
 refine (Tryz.slices_Clone_int g 0 l.length cap l w (Nat.le_refl _) (by omega) (fun j hj => ?_)).mono ?_
 . rw [Nat.zero_add, hc j hj]; simp [List.getD, List.getElem?_eq_getElem hj]
 . rintro e w' ⟨v', rfl, h1, h2, h3⟩
   rw [List.take_length] at h1
   exact ⟨v', rfl, ⟨h1, h2⟩, h3⟩
structure Rev (v : Value) (l : List Int) (base : Nat) (w w' : World) : Prop where
 own : yP base w' v l.reverse
 below : ∀ B w0, Below B w0 w -> B <= base -> Below B w0 w'
 other : ∀ g, v.ownBlock ≠ some g -> w'.heap[g]? = w.heap[g]?
theorem DX (v : Value) (l : List Int) (base : Nat) (w : World) (hlen : l.length <= 1000) (h : yP base w v l) :
 Calls Tryz.prog 112 #[v] w fun e w' => e = .returned (.tuple #[]) /\ Rev v l base w w' := by
 obtain ⟨g, cap, rfl, hb, hlt, _, _, _, hH⟩ := holds_of_ownsRow h.1 h.2
 refine (Tryz.slices_Reverse_int g 0 cap l w hH (by omega)).mono ?_
 rintro e w' ⟨rfl, n, rfl⟩
 refine ⟨rfl, ⟨?_, (by simp)⟩, fun B w0 hB hle => below_putRow hB (Nat.le_trans hle hb), fun k hk => ?_⟩
 . have := ownsRow_putRow (q := n) (ys := l.reverse) (k := l.length) h.1 (by simp) (Nat.le_refl _)
   rw [List.take_of_length_le (by simp)] at this
   rw [List.length_reverse]
   exact this
 . have hne : g ≠ k := fun e => hk (by rw [e]; rfl)
   simp [Sort.putRow, Sort.mapBlock, Sort.ahead, Array.getElem?_modify, hne]
theorem KW (a b : Int) (p : Nat) (w : World) (hc : w.cell? ⟨p, 0, none⟩ = some (.bool false)) :
 Calls Tryz.prog 113 #[.int .i64 a, .int .i64 b, .pointer (some ⟨p, 0, none⟩)] w fun r w' => r = .returned (.bool (decide (b < a))) /\ w = w' := by
 go_enter Tryz.func113, Tryz.ntmps113
 by_cases c : b < a
 . rw [decide_eq_true c]
   go_wp2_with fail
   go_ret
   exact ⟨rfl, rfl⟩
 . rw [decide_eq_false c]
   go_wp2_with fail
   go_ret
   exact ⟨rfl, rfl⟩
def yO (d : Dt) (cy cm ck : Int) (w : World) (e : Ending) (w' : World) : Prop := ∃ y m k ok, d.jY cy cm ck y m k ok /\ e = .returned (.tuple #[cvv y m k, .bool ok]) /\ Below w.heap.size w w'
structure SkD (d : Dt) (mv dv mr dr : Value) (cy cm ck : Int) (p3 p4 p5 p6 : Nat) (w W : World) : Prop where
 f : Rw p3 (gU d mv dv) w W
 c : Rw p4 (aN cy cm ck) w W
 u : Rw p5 [.bool false] w W
 o : Rw p6 (aN 0 0 0) w W
 m : bI W mr d.CG
 d : bI W dr d.dsr
theorem SkD.later {d : Dt} {mv dv mr dr : Value} {cy cm ck : Int} {p3 p4 p5 p6 : Nat} {w W W2 : World} (h : SkD d mv dv mr dr cy cm ck p3 p4 p5 p6 w W) (hb : Below W.heap.size W W2) : SkD d mv dv mr dr cy cm ck p3 p4 p5 p6 w W2 :=
 ⟨h.f.later hb, h.c.later hb, h.u.later hb, h.o.later hb, h.m.later hb, h.d.later hb⟩
structure Sk0 (d : Dt) (mv dv : Value) (cy cm ck : Int) (p3 p4 p5 p6 : Nat) (w W : World) : Prop where
 f : Rw p3 (gU d mv dv) w W
 c : Rw p4 (aN cy cm ck) w W
 u : Rw p5 [.bool false] w W
 o : Rw p6 (aN 0 0 0) w W
 m : bI W mv d.ms
 d : bI W dv d.ds
theorem Sk0.later {d : Dt} {mv dv : Value} {cy cm ck : Int} {p3 p4 p5 p6 : Nat} {w W W2 : World} (h : Sk0 d mv dv cy cm ck p3 p4 p5 p6 w W) (hb : Below W.heap.size W W2) : Sk0 d mv dv cy cm ck p3 p4 p5 p6 w W2 :=
 ⟨h.f.later hb, h.c.later hb, h.u.later hb, h.o.later hb, h.m.later hb, h.d.later hb⟩
theorem Sk0.new (d : Dt) {mv dv : Value} (cy cm ck : Int) (w : World) (t1 t2 t3 t4 : TypeId) (hm : bI w mv d.ms) (hd : bI w dv d.ds) :
 Sk0 d mv dv cy cm ck w.heap.size (w.heap.size + 1) (w.heap.size + 1 + 1) (w.heap.size + 1 + 1 + 1) w ((((w.alloc (.cells (gU d mv dv).toArray t1)).alloc (.cells (aN cy cm ck).toArray t2)).alloc (.cells #[.bool false] t3)).alloc (.cells (aN 0 0 0).toArray t4)) := by
 have f1 := Rw.fresh (Below.refl w.heap.size w) (gU d mv dv) t1
 have f2 := Rw.fresh f1.below (aN cy cm ck) t2
 have f3 := Rw.fresh f2.below [.bool false] t3
 have f4 := Rw.fresh f3.below (aN 0 0 0) t4
 simp only [dM] at f2 f3 f4
 refine ⟨?_, ?_, ?_, f4, ?_, ?_⟩
 . exact ((f1.later (ba (Below.refl _ _) _)).later (ba (Below.refl _ _) _)).later (ba (Below.refl _ _) _)
 . exact (f2.later (ba (Below.refl _ _) _)).later (ba (Below.refl _ _) _)
 . exact f3.later (ba (Below.refl _ _) _)
 . exact hm.later f4.below
 . exact hd.later f4.below
theorem NJ {d : Dt} {cy cm ck y m k : Int} {ok : Bool} {p6 : Nat} {w wO : World} {tmps : Array Value} (ho : Rw p6 (aN 0 0 0) w wO) (h : d.jY cy cm ck y m k ok)
 (hp : tmps.getD 6 undef = .pointer (some ⟨p6, 0, none⟩)) (hq : tmps.getD 7 undef = .bool ok) :
 bodyPost Tryz.prog Tryz.f83 (yO d cy cm ck w) Exit.ret ⟨tmps, []⟩ (((wO.setCell ⟨p6, 0, none⟩ (.int .i64 y)).setCell ⟨p6, 1, none⟩ (.int .i64 m)).setCell ⟨p6, 2, none⟩ (.int .i64 k)) := by
 have hX := ho.cO (aN y m k) rfl
 have hr := run_loadVar_mid (P := Tryz.prog) _ p6 0 112 (aN y m k) _ hX.range Tryz.underlying112 rfl kE
 exact bodyPost_ret (v := .tuple #[cvv y m k, .bool ok]) (eX Tryz.results83 _ hp hq hr) rfl ⟨y, m, k, ok, h, rfl, hX.below⟩
def aOU (y f : Value) : Nat := OV f * (intOf y + 10000000000000002).toNat
theorem yP.other {b1 b2 : Nat} {w1 w2 w3 : World} {v1 v2 : Value} {l1 l2 : List Int} (h2 : yP w1.heap.size w2 v2 l2) (r : Rev v1 l1 b1 w2 w3) (h1 : yP b2 w1 v1 l1) (hb : Below w1.heap.size w1 w2) : yP w1.heap.size w3 v2 l2 := by
 refine ⟨qN h2.1 (fun g hg => r.other g (fun e => ?_)), h2.2⟩
 obtain ⟨g1, c1, rfl, _, hlt, _⟩ := holds_of_ownsRow h1.1 h1.2
 obtain ⟨g2, c2, rfl, hle, _, _⟩ := holds_of_ownsRow h2.1 h2.2
 cases hg; cases e
 omega
theorem Sk0.turn {d : Dt} {mv dv v1 v2 : Value} {cy cm ck : Int} {p3 p4 p5 p6 : Nat} {w wx w1 w2 w3 w4 : World} (h : Sk0 d mv dv cy cm ck p3 p4 p5 p6 w wx) (o1 : yP wx.heap.size w1 v1 d.ms) (b1 : Below wx.heap.size wx w1) (o2 : yP w1.heap.size w2 v2 d.ds) (b2 : Below w1.heap.size w1 w2)
 (r1 : Rev v1 d.ms wx.heap.size w2 w3) (r2 : Rev v2 d.ds w1.heap.size w3 w4) (hmn : d.ms ≠ []) (hdn : d.ds ≠ []) : SkD d mv dv v1 v2 cy cm ck p3 p4 p5 p6 w w4 := by
 have B2 := bt b1 b2
 have B3 := r1.below _ _ B2 (Nat.le_refl _)
 have B4 := r2.below _ _ B3 b1.size
 refine ⟨h.f.later B4, h.c.later B4, h.u.later B4, h.o.later B4, ?_, r2.own.sl (by simp [hdn])⟩
 have hm : yP wx.heap.size w4 v1 d.ms.reverse := by
  refine ⟨qN r1.own.1 (fun g hg => r2.other g (fun e => ?_)), r1.own.2⟩
  obtain ⟨g1, c1, rfl, _, hlt, _⟩ := holds_of_ownsRow o1.1 o1.2
  obtain ⟨g2, c2, rfl, hle, _, _⟩ := holds_of_ownsRow o2.1 o2.2
  cases hg; cases e
  omega
 exact hm.sl (by simp [hmn])
theorem aCU (d : Dt) (mv dv : Value) (cy cm ck : Int) (w : World) (hk : qI w) (hy : d.dg.size <= 1000) (hok : d.PK = true) (hmd : d.mo.size = 0 -> d.da.size = 0)
 (y0 : -9223372036854775808 <= cy) (y1 : cy < 9223372036854775808) (hm : bI w mv d.ms) (hd : bI w dv d.ds) (hmn : d.ms ≠ []) (hdn : d.ds ≠ []) (hmm : d.da.size ≠ 0 -> ∀ m, m ∈ d.ms -> 1 <= m /\ m <= 12) :
 Calls Tryz.prog 83 #[fmv d mv dv, cvv cy cm ck, .bool false] w (yO d cy cm ck w) := by
 obtain ⟨gm, xm, rfl, -, -⟩ := id hm
 obtain ⟨gd, xd, rfl, -, -⟩ := id hd
 have hS := Sk0.new d cy cm ck w 116 112 4 112 hm hd
 have HY := Lib.hid (fun n W h0 h1 => ML d (.slice (some ⟨gm, 0, none⟩) d.ms.length xm) (.slice (some ⟨gd, 0, none⟩) d.ds.length xd) n W hy hok h0 h1)
 have HL := Lib.hid (fun y m W hb h0 h1 hm => D9 d (.slice (some ⟨gm, 0, none⟩) d.ms.length xm) (.slice (some ⟨gd, 0, none⟩) d.ds.length xd) y m W (hk.below (w' := W) hb) h0 h1 hm)
 have HIN := Lib.hid (fun y (h : d.In y) => Dt.tH hok h)
 have HMM := Lib.hid hmm
 have HMD := Lib.hid hmd
 unfold fmv at HY HL
 unfold fmv cvv
 unfold gU aN at hS
 go_enter Tryz.func83, Tryz.ntmps83
 go_upto_region 1 with (fail)
 generalize World.alloc _ _ = W0 at hS ⊢
 generalize w.heap.size + 1 + 1 + 1 = p6 at *
 generalize w.heap.size + 1 + 1 = p5 at *
 generalize w.heap.size + 1 = p4 at *
 have HMN := Lib.hid hmn
 have HDN := Lib.hid hdn
 clear hk hy hok hm hd hmm hmd hmn hdn
 replace hS : Hid (Sk0 d (.slice (some ⟨gm, 0, none⟩) d.ms.length xm) (.slice (some ⟨gd, 0, none⟩) d.ds.length xd) cy cm ck w.heap.size p4 p5 p6 w W0) := Lib.hid hS
 have HB0 := Lib.hid hS.out.f.below
 go_cut [8, 9, 10] (fun a b c wx => a = .int .i64 1 /\ .slice (some ⟨gm, 0, none⟩) d.ms.length xm = b /\ .slice (some ⟨gd, 0, none⟩) d.ds.length xd = c /\ Sk0 d b c cy cm ck w.heap.size p4 p5 p6 w wx)
 case first =>
  have f0 := hS.out.f.cell 10 _ rfl
  have f1 := hS.out.f.cell 11 _ rfl
  go_region_with (fail)
  all_goals (go_wp2_with fail)
  all_goals (go_meet; exact ⟨rfl, rfl, rfl, hS.out.later (Below.refl W0.heap.size W0).drew⟩)
 case rest =>
 obtain ⟨rfl, rfl, rfl, hS⟩ := hcut
 replace hS := Lib.hid hS
 have ml := d.QJ
 have dl := d.aAY
 have hu := hS.out.u.cell 0 _ rfl
 go_wp2_with fail
 refine (clone_any _ d.ms _ (by omega) hS.out.m).mono ?_
 rintro _ w1 ⟨v1, rfl, o1, b1⟩
 have O1 := Lib.hid o1
 have B1 := Lib.hid b1
 clear o1 b1 hu
 go_wp2_with fail
 refine (clone_any _ d.ds _ (by omega) (hS.out.d.later B1.out)).mono ?_
 rintro _ w2 ⟨v2, rfl, o2, b2⟩
 have O2 := Lib.hid o2
 have B2 := Lib.hid b2
 clear o2 b2
 go_wp2_with fail
 refine (DX v1 d.ms _ _ (by omega) (O1.out.later B2.out)).mono ?_
 rintro _ w3 ⟨rfl, r1⟩
 have R1 := Lib.hid r1
 clear r1
 go_wp2_with fail
 refine (DX v2 d.ds w1.heap.size _ (by omega) (O2.out.other R1.out O1.out B2.out)).mono ?_
 rintro _ w4 ⟨rfl, r2⟩
 have R2 := Lib.hid r2
 clear r2
 have hX := Sk0.turn hS.out O1.out B1.out O2.out B2.out R1.out R2.out HMN.out HDN.out
 obtain ⟨gn, xn, rfl, -, -⟩ := id hX.m
 obtain ⟨ge, xe, rfl, -, -⟩ := id hX.d
 replace hS := Lib.hid hX
 clear hX O1 B1 O2 B2 R1 R2 ml dl
 have hu := hS.out.u.cell 0 _ rfl
 have g0 := hS.out.c.cell 0 _ rfl
 have hR := hS.out.f.range
 go_wp2_with (first
  | (refine wpList_load_mid rfl 116 (.tmp 3) rfl w.heap.size 0 rfl (gU d (.slice (some ⟨gm, 0, none⟩) d.ms.length xm) (.slice (some ⟨gd, 0, none⟩) d.ds.length xd)) _ hR Tryz.underlying116 rfl iV ?_)
  | (go_at_call 114; refine (HY.out _ _ y0 y1).mono ?_; rintro _ w1 ⟨v, ok, hv, rfl, hb⟩))
 replace hS : Hid (SkD d (.slice (some ⟨gm, 0, none⟩) d.ms.length xm) (.slice (some ⟨gd, 0, none⟩) d.ds.length xd) (.slice (some ⟨gn, 0, none⟩) d.CG.length xn) (.slice (some ⟨ge, 0, none⟩) d.dsr.length xe) cy cm ck w.heap.size p4 p5 p6 w w1) := Lib.hid (hS.out.later hb)
 have HV0 : Hid (TJ d cy cm ck v ok) := Lib.hid (TJ.start hv)
 clear hu g0 hR hv hb HB0
 go_loopw [7, 12, 13] (fun r y f wr => ∃ v ok, r = .bool false /\ y = .int .i64 v /\ f = .bool ok /\ TJ d cy cm ck v ok /\ SkD d (.slice (some ⟨gm, 0, none⟩) d.ms.length xm) (.slice (some ⟨gd, 0, none⟩) d.ds.length xd) (.slice (some ⟨gn, 0, none⟩) d.CG.length xn) (.slice (some ⟨ge, 0, none⟩) d.dsr.length xe) cy cm ck w.heap.size p4 p5 p6 w wr) (fun _ y f _ => aOU y f)
 case atStart => exact ⟨v, ok, rfl, rfl, rfl, HV0.out, hS.out⟩
 case round =>
  obtain ⟨v, ok, rfl, rfl, rfl, hV, hS⟩ := hrel
  generalize wr = wO at *
  have HV := Lib.hid hV
  have HS := Lib.hid hS
  clear hV hS
  cases ok
  . have HN := Lib.hid (HV.out.no rfl)
    have f0 := HS.out.o.cell 0 _ rfl
    have f1 := HS.out.o.cell 1 _ rfl
    have f2 := HS.out.o.cell 2 _ rfl
    have z0 := HS.out.o.free 0 (by unfold aN; simp)
    have z1 := HS.out.o.free 1 (by unfold aN; simp)
    have z2 := HS.out.o.free 2 (by unfold aN; simp)
    go_wp2_with fail
    exact NJ HS.out.o (.inr ⟨rfl, rfl, rfl, rfl, HN.out⟩) rfl rfl
  . obtain ⟨i1, i2, i3⟩ := HV.out.yes rfl
    have HIV := Lib.hid (HIN.out _ i1)
    have HLE := Lib.hid i2
    clear i1 i2 i3
    go_wp2_with fail
    go_step3
    go_wp2_with fail
    go_step3
    go_wp2_with fail
    have HM0 := Lib.hid (Dt.aDA d v cy cm ck)
    go_loopw [7, 55] (fun r i wr => ∃ i' : Nat, r = .bool false /\ i = .int .i64 i' /\ i' <= d.CG.length /\ d.TM v cy cm ck i' /\ SkD d (.slice (some ⟨gm, 0, none⟩) d.ms.length xm) (.slice (some ⟨gd, 0, none⟩) d.ds.length xd) (.slice (some ⟨gn, 0, none⟩) d.CG.length xn) (.slice (some ⟨ge, 0, none⟩) d.dsr.length xe) cy cm ck w.heap.size p4 p5 p6 w wr) (fun _ i _ => d.CG.length - (intOf i).toNat)
    case atStart => exact ⟨0, rfl, rfl, by omega, HM0.out, HS.out⟩
    case round =>
     obtain ⟨i, rfl, rfl, hi, hM, hS⟩ := hrel
     clear HS HM0
     generalize wr = wO at *
     have HS := Lib.hid hS
     have HM := Lib.hid hM
     clear hS hM
     have ml := d.aI5
     by_cases hlt : i < d.CG.length
     . have hcell := HS.out.m.at i hlt
       generalize hme : d.CG[i]'hlt = m at hcell
       have g0 := HS.out.c.cell 0 _ rfl
       go_upto_region 13 with (fail)
       go_cut [16] (fun s wx => ∃ b, s = .bool b /\ (b = true ↔ v = cy) /\ wO = wx)
       case first =>
        go_wp2_with fail
        go_meet
        exact ⟨_, rfl, by simp, rfl⟩
       case rest =>
        obtain ⟨sb, rfl, hsb, rfl⟩ := hcut
        have EY := Lib.hid hsb
        clear hsb g0 hcell
        go_upto_region 14 with (fail)
        go_cut [76] (fun s wx => ∃ b, s = .bool b /\ (b = true ↔ (v = cy /\ d.mo.size ≠ 0 /\ cm < m)) /\ wO = wx)
        case first =>
         have g5 := HS.out.f.cell 5 _ rfl
         have g1 := HS.out.c.cell 1 _ rfl
         have hu := HS.out.u.cell 0 _ rfl
         have HA := Lib.hid (KW m cm p5 wO hu)
         cases sb
         . have hne : v ≠ cy := fun e => by have := EY.out.2 e; cases this
           go_wp2_with fail
           go_meet
           exact ⟨_, rfl, by simp [hne], rfl⟩
         . have hve := EY.out.1 rfl
           rcases bQ d.mo with ⟨c, e1⟩ | ⟨c, e1⟩
           . have HC := Lib.hid c
             clear c hve
             go_wp2_with fail
             go_meet
             exact ⟨_, rfl, by simp [HC.out], rfl⟩
           . have HC := Lib.hid c
             have HVE := Lib.hid hve
             clear c hve
             generalize hmc : decide (cm < m) = mc at HA
             have HMC := Lib.hid hmc
             clear hmc
             go_wp2_with (go_at_call 113; with_reducible refine HA.out.mono ?_; rintro _ w' ⟨rfl, rfl⟩)
             go_meet
             exact ⟨_, rfl, by rw [<- HMC.out]; simp [HC.out, HVE.out], rfl⟩
        case rest =>
         obtain ⟨b, rfl, hb, rfl⟩ := hcut
         cases b
         . have HNS : Hid (¬ (v = cy /\ d.mo.size ≠ 0 /\ cm < m)) := Lib.hid (fun h => by have := hb.2 h; cases this)
           clear hb
           have hR := HS.out.f.range
           have hl := HL.out v m wO HS.out.f.below HIV.out.1 HIV.out.2 (fun h => HMM.out h m (by rw [<- hme]; exact Dt.FC.1 (List.getElem_mem hlt)))
           have HLN := Lib.hid hl
           clear hl
           obtain ⟨n, hn⟩ : ∃ n, n = d.len v m := ⟨_, rfl⟩
           rw [<- hn] at HLN
           have HNN := Lib.hid hn
           clear hn
           go_upto_region 16 with (first
            | (refine wpList_load_mid rfl 116 (.tmp 3) rfl w.heap.size 0 rfl (gU d (.slice (some ⟨gm, 0, none⟩) d.ms.length xm) (.slice (some ⟨gd, 0, none⟩) d.ds.length xd)) _ hR Tryz.underlying116 rfl iV ?_)
            | (go_at_call 115; refine HLN.out.mono ?_; rintro _ w2 ⟨rfl, hb⟩))
           replace HS := Lib.hid (HS.out.later hb)
           clear hb hR HLN
           go_cut [16] (fun s wx => ∃ b, s = .bool b /\ (b = true ↔ (v = cy /\ (d.mo.size = 0 \/ m = cm))) /\ w2 = wx)
           case first =>
            have g5 := HS.out.f.cell 5 _ rfl
            have g1 := HS.out.c.cell 1 _ rfl
            cases sb
            . have hne : v ≠ cy := fun e => by have := EY.out.2 e; cases this
              go_wp2_with fail
              go_meet
              exact ⟨_, rfl, by simp [hne], rfl⟩
            . have hve := EY.out.1 rfl
              have HVE := Lib.hid hve
              clear hve
              rcases bQ d.mo with ⟨c, e1⟩ | ⟨c, e1⟩
              . have HC := Lib.hid c
                clear c
                go_wp2_with fail
                go_meet
                exact ⟨_, rfl, by simp [HC.out, HVE.out], rfl⟩
              . have HC := Lib.hid c
                clear c
                go_wp2_with fail
                go_meet
                exact ⟨_, rfl, by simp [HC.out, HVE.out], rfl⟩
           case rest =>
            obtain ⟨s2, rfl, hs2, rfl⟩ := hcut
            have HS2 := Lib.hid hs2
            have HGE := Lib.hid (fun k => aIy (k := k) (ck := ck) HMD.out HLE.out HNS.out hs2)
            clear hs2 EY
            have HK0 := Lib.hid (Dt.aDD d v m cy cm ck)
            go_wp2_with fail
            go_loopw [7, 96] (fun r i wr => ∃ i' : Nat, r = .bool false /\ i = .int .i64 i' /\ i' <= d.dsr.length /\ d.aEB v m cy cm ck i' /\ SkD d (.slice (some ⟨gm, 0, none⟩) d.ms.length xm) (.slice (some ⟨gd, 0, none⟩) d.ds.length xd) (.slice (some ⟨gn, 0, none⟩) d.CG.length xn) (.slice (some ⟨ge, 0, none⟩) d.dsr.length xe) cy cm ck w.heap.size p4 p5 p6 w wr) (fun _ i _ => d.dsr.length - (intOf i).toNat)
            case atStart => exact ⟨0, rfl, rfl, by omega, HK0.out, HS.out⟩
            case round =>
             obtain ⟨j, rfl, rfl, hj, hK, hS⟩ := hrel
             clear HS HK0
             generalize wr = wO at *
             have HS := Lib.hid hS
             have HK := Lib.hid hK
             clear hS hK
             have dl := d.aJ4
             by_cases hjt : j < d.dsr.length
             . have hcell := HS.out.d.at j hjt
               generalize hke : d.dsr[j]'hjt = k at hcell
               go_upto_region 20 with (fail)
               go_cut [119] (fun s wx => ∃ b, s = .bool b /\ (b = true ↔ (k <= n /\ ¬ (s2 = true /\ d.da.size ≠ 0 /\ ck < k))) /\ wO = wx)
               case first =>
                have g6 := HS.out.f.cell 6 _ rfl
                have g2 := HS.out.c.cell 2 _ rfl
                have hu := HS.out.u.cell 0 _ rfl
                have HA := Lib.hid (KW k ck p5 wO hu)
                by_cases hkn : k <= n
                . cases s2
                  . go_wp2_with fail
                    go_meet
                    exact ⟨_, rfl, by simp [hkn], rfl⟩
                  . rcases bQ d.da with ⟨c, e1⟩ | ⟨c, e1⟩
                    . have HC := Lib.hid c
                      clear c
                      go_wp2_with fail
                      go_meet
                      exact ⟨_, rfl, by simp [HC.out, hkn], rfl⟩
                    . have HC := Lib.hid c
                      clear c
                      generalize hmc : decide (ck < k) = mc at HA
                      have HMC := Lib.hid hmc
                      clear hmc
                      go_wp2_with (go_at_call 113; with_reducible refine HA.out.mono ?_; rintro _ w' ⟨rfl, rfl⟩)
                      go_meet
                      exact ⟨_, rfl, by rw [<- HMC.out]; simp [HC.out, hkn], rfl⟩
                . go_wp2_with fail
                  go_meet
                  exact ⟨_, rfl, ⟨fun h => by simp [hkn] at h, fun h => absurd h.1 (by omega)⟩, rfl⟩
               case rest =>
                obtain ⟨b, rfl, hb, rfl⟩ := hcut
                cases b
                . have HK2 := Lib.hid (Dt.aDE HK.out hjt (fun hle hg => by
                   rw [hke] at hle hg
                   have := hb.2 ⟨by rw [HNN.out]; exact hle, (HGE.out k).1 hg⟩
                   cases this))
                  clear hb HK hcell
                  go_wp2_with fail
                  go_roundw
                  case rel => exact ⟨j + 1, rfl, by go_num, by omega, HK2.out, HS.out⟩
                  case measure => simp [intOf]; omega
                . have hb := hb.1 rfl
                  have HF := Lib.hid (Dt.aMw (HV.out.yes rfl).1 (HV.out.yes rfl).2.2 HM.out hlt (by rw [hme]; exact HK.out) hjt (by rw [hme, hke, <- HNN.out]; exact hb.1) (by rw [hme, hke]; exact (HGE.out k).2 hb.2))
                  rw [hme, hke] at HF
                  clear hb HK hcell
                  have f0 := HS.out.o.cell 0 _ rfl
                  have f1 := HS.out.o.cell 1 _ rfl
                  have f2 := HS.out.o.cell 2 _ rfl
                  have z0 := HS.out.o.free 0 (by unfold aN; simp)
                  have z1 := HS.out.o.free 1 (by unfold aN; simp)
                  have z2 := HS.out.o.free 2 (by unfold aN; simp)
                  go_wp2_with fail
                  exact NJ HS.out.o HF.out rfl rfl
             . obtain rfl : j = d.dsr.length := by omega
               have HM2 := Lib.hid (Dt.aDB HM.out hlt (by rw [hme]; exact HK.out))
               clear HK HM
               go_wp2_with fail
               go_roundw
               case rel => exact ⟨i + 1, rfl, by go_num, by omega, HM2.out, HS.out⟩
               case measure => simp [intOf]; omega
         . have hb := hb.1 rfl
           have HB := Lib.hid hb
           have HK := Lib.hid (Dt.aDC HM.out hlt HB.out.1 HB.out.2.1 (by rw [hme]; exact HB.out.2.2))
           clear hb HM
           go_wp2_with fail
           go_roundw
           case rel => exact ⟨i + 1, rfl, by go_num, by omega, HK.out, HS.out⟩
           case measure => simp [intOf]; omega
     . obtain rfl : i = d.CG.length := by omega
       have hR := HS.out.f.range
       have hu := HS.out.u.cell 0 _ rfl
       have aVf : IntKind.i64.wrap (v + -1) = v - 1 := by rw [IntKind.wrap_i64]; have := HIV.out; omega
       have hwk : IntKind.i64.wrap (v - 1) = v - 1 := by rw [IntKind.wrap_i64]; have := HIV.out; omega
       have hy := HY.out (v - 1) wO (by have := HIV.out; omega) (by have := HIV.out; omega)
       have HY1 := Lib.hid hy
       clear hy
       go_wp2_with fail
       rw [Exit.noGoto_normal]
       go_wp2_with (first
        | (refine wpList_load_mid rfl 116 (.tmp 3) rfl w.heap.size 0 rfl (gU d (.slice (some ⟨gm, 0, none⟩) d.ms.length xm) (.slice (some ⟨gd, 0, none⟩) d.ds.length xd)) _ hR Tryz.underlying116 rfl iV ?_)
        | (go_at_call 114; refine HY1.out.mono ?_; rintro _ w2 ⟨v2, ok2, hv2, rfl, hb⟩))
       have HX := Lib.hid (TJ.next HV.out HM.out hv2)
       have HS2 := Lib.hid (HS.out.later hb)
       clear hv2 hb hR hu
       go_roundw
       case rel => exact ⟨v2, ok2, rfl, rfl, rfl, HX.out.1, HS2.out⟩
       case measure =>
        have h1 := HIV.out
        have h2 := HX.out.2
        unfold aOU
        cases ok2
        . simp [OV, intOf]; omega
        . have := h2 rfl
          simp [OV, intOf]; omega
end Bk
end
section
open Go.RowKit Go.Lib
namespace Bk
open Un (ba bt ri rb aX bP)
theorem NK (d : Dt) (mv dv : Value) (cy cm ck : Int) (w : World) (hk : qI w) (hy : d.dg.size <= 1000) (hf : d.form = 0)
 (y0 : -9223372036854775808 <= cy) (y1 : cy < 9223372036854775808) (hm : bI w mv d.ms) (hd : bI w dv d.ds) :
 Calls Tryz.prog 83 #[fmv d mv dv, cvv cy cm ck, .bool false] w (yO d cy cm ck w) :=
 aCU d mv dv cy cm ck w hk hy (Dt.gK (Dt.jO hf).1).1 (fmd hf) y0 y1 hm hd (Dt.aKK hf) (Dt.aKS hf) (fmm hf)
def Dt.pJ (d : Dt) (cy cm ck : Int) (y m k : Int) (ok : Bool) : Prop := (d.fU = 0 /\ d.jY cy cm ck y m k ok) \/ (d.fU ≠ 0 /\ y = 0 /\ m = 0 /\ k = 0 /\ ok = false)
def aCu (d : Dt) (cy cm ck : Int) (w : World) (e : Ending) (w' : World) : Prop := ∃ y m k ok, d.pJ cy cm ck y m k ok /\ e = .returned (.tuple #[cvv y m k, .bool ok, .int .i64 d.fU]) /\ Below w.heap.size w w'
theorem VU {d : Dt} {cy cm ck y m k : Int} {ok : Bool} {p6 : Nat} {w wO : World} {tmps : Array Value} (ho : Rw p6 (aN y m k) w wO) (h : d.pJ cy cm ck y m k ok)
 (hp : tmps.getD 4 undef = .pointer (some ⟨p6, 0, none⟩)) (hq : tmps.getD 5 undef = .bool ok) (hr : tmps.getD 6 undef = .int .i64 d.fU) :
 bodyPost Tryz.prog Tryz.f287 (aCu d cy cm ck w) Exit.ret ⟨tmps, []⟩ wO := by
 have hv := run_loadVar_mid (P := Tryz.prog) _ p6 0 112 (aN y m k) _ ho.range Tryz.underlying112 rfl kE
 exact bodyPost_ret (v := .tuple #[cvv y m k, .bool ok, .int .i64 d.fU]) (xA Tryz.results287 _ hp hq hr hv) rfl ⟨y, m, k, ok, h, rfl, ho.below⟩
theorem aD2 (d : Dt) (cy cm ck : Int) (w : World) (hk : qI w) (hs : d.mo.size <= 1000) (hy : d.dg.size <= 1000) (m0 : 0 <= d.m0) (m1 : 0 <= d.m1) (m2 : 0 <= d.m2)
 (y0 : -9223372036854775808 <= cy) (y1 : cy < 9223372036854775808) :
 Calls Tryz.prog 287 #[bZ d, cvv cy cm ck] w (aCu d cy cm ck w) := by
 have hD : Rw w.heap.size (bW d) w _ := Rw.fresh (Below.refl _ _) (bW d) 37
 have hD2 := Rw.fresh hD.below (aN cy cm ck) 112
 have hD3 := Rw.fresh hD2.below (aN 0 0 0) 112
 simp only [dM] at hD2 hD3
 have hA : _ /\ _ /\ _ := ⟨(hD.later (ba (Below.refl _ _) (.cells (aN cy cm ck).toArray 112))).later (ba (Below.refl _ _) (.cells (aN 0 0 0).toArray 112)), hD2.later (ba (Below.refl _ _) (.cells (aN 0 0 0).toArray 112)), hD3⟩
 clear hD hD2 hD3
 have HC := Lib.hid (fun W hb => sH d W (hk.below (w' := W) hb) hs hy m0 m1 m2)
 have HO := Lib.hid (fun W hb hf => IZ d W (hk.below (w' := W) hb) hs hf)
 have HS := Lib.hid (fun mv dv W hb hf hm hd => NK d mv dv cy cm ck W (hk.below (w' := W) hb) hy hf y0 y1 hm hd)
 unfold cvv fmv at HS
 clear hk hs hy m0 m1 m2
 rw [sO] at HC HO
 unfold bZ cvv
 unfold bW aN at hA
 go_enter Tryz.func287, Tryz.ntmps287
 go_upto_region 1 with (fail)
 generalize World.alloc _ _ = W0 at hA ⊢
 have HD : Hid (Rw w.heap.size (bW d) w W0) := Lib.hid hA.1
 have HE : Hid (Rw (w.heap.size + 1) (aN cy cm ck) w W0) := Lib.hid hA.2.1
 have HF : Hid (Rw (w.heap.size + 1 + 1) (aN 0 0 0) w W0) := Lib.hid hA.2.2
 clear hA
 have hR := HD.out.range
 generalize w.heap.size + 1 + 1 = p6 at *
 generalize w.heap.size + 1 = p5 at *
 by_cases hc : d.fU = 0
 . have HCE := Lib.hid hc
   have HFM := Lib.hid (lI hc)
   rw [hc] at HC
   clear hc
   go_upto_region 4 with (first
    | (refine wpList_load_mid rfl 37 (.tmp 2) rfl w.heap.size 0 rfl (bW d) _ hR Tryz.underlying37 rfl dA ?_)
    | (go_at_call 292; refine (HC.out _ HD.out.below).mono ?_; rintro _ w1 ⟨rfl, hb⟩))
   replace HD := Lib.hid (HD.out.later hb)
   replace HE := Lib.hid (HE.out.later hb)
   replace HF := Lib.hid (HF.out.later hb)
   clear hR hb HC
   go_cut [5] (fun s wx => ∃ y m k ok, s = .bool ok /\ d.jY cy cm ck y m k ok /\ Rw p6 (aN y m k) w wx)
   case first =>
    obtain ⟨r0, r1, r2, r3, r4, r5, r6, r7, r8, r9⟩ := HD.out.gJ
    unfold bW at HO
    have e0 := HE.out.cell 0 _ rfl
    have e1 := HE.out.cell 1 _ rfl
    have e2 := HE.out.cell 2 _ rfl
    go_region_with (first
     | (go_at_call 82; refine (HO.out _ (by first | exact HD.out.below | exact HD.out.below.drew | exact HD.out.below.drew.drew) HFM.out).mono ?_; rintro _ w2 ⟨mv, dv, rfl, hm, hd, hb2⟩; have hb2 : Below w1.heap.size w1 w2 := (by first | exact hb2 | exact bt (Below.refl _ _).drew hb2 | exact bt (Below.refl _ _).drew.drew hb2); have Y8 := Lib.hid (bt HD.out.below hb2); have HS2 := Lib.hid (HS.out mv dv w2 Y8.out HFM.out hm hd); have HE2 := Lib.hid (HE.out.later hb2); have HF2 := Lib.hid (HF.out.later hb2); clear hm hd hb2; have e0 := HE2.out.cell 0 _ rfl; have e1 := HE2.out.cell 1 _ rfl; have e2 := HE2.out.cell 2 _ rfl)
     | (go_at_call 83; refine HS2.out.mono ?_; rintro _ w3 ⟨y, m, k, ok, hso, rfl, hb3⟩; unfold cvv; have HF3 := Lib.hid (HF2.out.later hb3); have HSO := Lib.hid hso; clear hb3 hso; have f0 := HF3.out.cell 0 _ rfl; have f1 := HF3.out.cell 1 _ rfl; have f2 := HF3.out.cell 2 _ rfl; have z0 := HF3.out.free 0 (by unfold aN; simp); have z1 := HF3.out.free 1 (by unfold aN; simp); have z2 := HF3.out.free 2 (by unfold aN; simp)))
    all_goals (go_wp2_with fail)
    all_goals (go_meet; exact ⟨_, _, _, _, rfl, HSO.out, HF3.out.cO (aN _ _ _) rfl⟩)
   case rest =>
    obtain ⟨y, m, k, ok, rfl, hso, hX⟩ := hcut
    have HN : Hid (d.pJ cy cm ck y m k ok) := Lib.hid (.inl ⟨HCE.out, hso⟩)
    have HX := Lib.hid hX
    clear hX hso HS HO HD HE HF
    have f0 := HX.out.cell 0 _ rfl
    have f1 := HX.out.cell 1 _ rfl
    have f2 := HX.out.cell 2 _ rfl
    have z0 := HX.out.free 0 (by unfold aN; simp)
    have z1 := HX.out.free 1 (by unfold aN; simp)
    have z2 := HX.out.free 2 (by unfold aN; simp)
    go_wp2_with fail
    exact VU (HX.out.cO (aN y m k) rfl) HN.out rfl rfl (by rw [HCE.out]; rfl)
 . have HN : Hid (d.pJ cy cm ck 0 0 0 false) := Lib.hid (.inr ⟨hc, rfl, rfl, rfl, rfl⟩)
   obtain ⟨er, her⟩ : ∃ er, er = d.fU := ⟨_, rfl⟩
   rw [<- her] at HC hc
   have MZ := Lib.hid her
   clear her
   go_wp2_with (first
    | (refine wpList_load_mid rfl 37 (.tmp 2) rfl w.heap.size 0 rfl (bW d) _ hR Tryz.underlying37 rfl dA ?_)
    | (go_at_call 292; refine (HC.out _ HD.out.below).mono ?_; rintro _ w1 ⟨rfl, hb⟩; have HF2 := Lib.hid (HF.out.later hb); have f0 := HF2.out.cell 0 _ rfl; have f1 := HF2.out.cell 1 _ rfl; have f2 := HF2.out.cell 2 _ rfl; have z0 := HF2.out.free 0 (by unfold aN; simp); have z1 := HF2.out.free 1 (by unfold aN; simp); have z2 := HF2.out.free 2 (by unfold aN; simp)))
   exact VU (HF2.out.cO (aN 0 0 0) rfl) HN.out rfl rfl (by rw [<- MZ.out]; rfl)
noncomputable def Dt.oM (d : Dt) (c : Int × Int × Int) : Int × Int × Int × Bool := if d.fU = 0 then d.nx c else (0, 0, 0, false)
noncomputable def Dt.mY (d : Dt) (c : Int × Int × Int) : Int × Int × Int × Bool := if d.fU = 0 then d.pv c else (0, 0, 0, false)
def cvF (t : Int × Int × Int × Bool) (e : Int) : Value := .tuple #[cvv t.1 t.2.1 t.2.2.1, .bool t.2.2.2, .int .i64 e]
theorem aAU (d : Dt) (cy cm ck : Int) (w : World) (hk : qI w) (hs : d.mo.size <= 1000) (hy : d.dg.size <= 1000) (m0 : 0 <= d.m0) (m1 : 0 <= d.m1) (m2 : 0 <= d.m2)
 (y0 : -9223372036854775808 <= cy) (y1 : cy < 9223372036854775808) :
 Calls Tryz.prog 291 #[bZ d, cvv cy cm ck] w fun e w' => e = .returned (cvF (d.oM (cy, cm, ck)) d.fU) /\ Below w.heap.size w w' := by
 refine (OJ d cy cm ck w hk hs hy m0 m1 m2 y0 y1).mono ?_
 rintro e w' ⟨y, m, k, ok, h, rfl, hb⟩
 refine ⟨?_, hb⟩
 have : d.oM (cy, cm, ck) = (y, m, k, ok) := by
  unfold Dt.oM
  rcases h with ⟨h1, h2⟩ | ⟨h1, rfl, rfl, rfl, rfl⟩
  . rw [if_pos h1]; exact Dt.aKI h2
  . rw [if_neg h1]
 rw [this]; rfl
theorem aAT (d : Dt) (cy cm ck : Int) (w : World) (hk : qI w) (hs : d.mo.size <= 1000) (hy : d.dg.size <= 1000) (m0 : 0 <= d.m0) (m1 : 0 <= d.m1) (m2 : 0 <= d.m2)
 (y0 : -9223372036854775808 <= cy) (y1 : cy < 9223372036854775808) :
 Calls Tryz.prog 287 #[bZ d, cvv cy cm ck] w fun e w' => e = .returned (cvF (d.mY (cy, cm, ck)) d.fU) /\ Below w.heap.size w w' := by
 refine (aD2 d cy cm ck w hk hs hy m0 m1 m2 y0 y1).mono ?_
 rintro e w' ⟨y, m, k, ok, h, rfl, hb⟩
 refine ⟨?_, hb⟩
 have : d.mY (cy, cm, ck) = (y, m, k, ok) := by
  unfold Dt.mY
  rcases h with ⟨h1, h2⟩ | ⟨h1, rfl, rfl, rfl, rfl⟩
  . rw [if_pos h1]; exact Dt.aKA h2
  . rw [if_neg h1]
 rw [this]; rfl
end Bk
end
section
open Go.RowKit Go.Lib
namespace Bk
open Un (ba bt ri rb aX bP)
def aBj (d : Dt) (R : Int -> Int -> Int -> Bool -> Prop) (w : World) (e : Ending) (w' : World) : Prop := ∃ y m k, ((d.fU = 0 /\ ∃ ok, R y m k ok) \/ (d.fU ≠ 0 /\ y = 0 /\ m = 0 /\ k = 0)) /\ e = .returned (.tuple #[cvv y m k, .int .i64 d.fU]) /\ Below w.heap.size w w'
theorem FQ {d : Dt} {R : Int -> Int -> Int -> Bool -> Prop} {y m k : Int} {p6 : Nat} {w wO : World} {tmps : Array Value} (ho : Rw p6 (aN y m k) w wO) (h : (d.fU = 0 /\ ∃ ok, R y m k ok) \/ (d.fU ≠ 0 /\ y = 0 /\ m = 0 /\ k = 0))
 (hp : tmps.getD 6 undef = .pointer (some ⟨p6, 0, none⟩)) (hq : tmps.getD 7 undef = .int .i64 d.fU) :
 bodyPost Tryz.prog Tryz.f289 (aBj d R w) Exit.ret ⟨tmps, []⟩ wO := by
 have hv := run_loadVar_mid (P := Tryz.prog) _ p6 0 112 (aN y m k) _ ho.range Tryz.underlying112 rfl kE
 exact bodyPost_ret (v := .tuple #[cvv y m k, .int .i64 d.fU]) (eX Tryz.results289 _ hp hq hv) rfl ⟨y, m, k, h, rfl, ho.below⟩
theorem aD4 (d : Dt) (cy cm ck : Int) (w : World) (hk : qI w) (hs : d.mo.size <= 1000) (hy : d.dg.size <= 1000) (m0 : 0 <= d.m0) (m1 : 0 <= d.m1) (m2 : 0 <= d.m2)
 (y0 : -9223372036854775808 <= cy) (y1 : cy < 9223372036854775808) :
 Calls Tryz.prog 289 #[bZ d, cvv cy cm ck, .bool true] w (aBj d (fun y m k ok => d.jP cy cm ck y m k ok) w) := by
 have hD : Rw w.heap.size (bW d) w _ := Rw.fresh (Below.refl _ _) (bW d) 37
 have hD2 := Rw.fresh hD.below (aN cy cm ck) 112
 have hD3 := Rw.fresh hD2.below (aN 0 0 0) 112
 simp only [dM] at hD2 hD3
 have hA : _ /\ _ /\ _ := ⟨(hD.later (ba (Below.refl _ _) (.cells (aN cy cm ck).toArray 112))).later (ba (Below.refl _ _) (.cells (aN 0 0 0).toArray 112)), hD2.later (ba (Below.refl _ _) (.cells (aN 0 0 0).toArray 112)), hD3⟩
 clear hD hD2 hD3
 have HC := Lib.hid (fun W hb => sH d W (hk.below (w' := W) hb) hs hy m0 m1 m2)
 have HO := Lib.hid (fun W hb hf => IZ d W (hk.below (w' := W) hb) hs hf)
 have HS := Lib.hid (fun mv dv W hb hf hm hd => G5 d mv dv cy cm ck W (hk.below (w' := W) hb) hy hf y0 y1 hm hd)
 unfold cvv fmv at HS
 clear hk hs hy m0 m1 m2
 rw [sO] at HC HO
 unfold bZ cvv
 unfold bW aN at hA
 go_enter Tryz.func289, Tryz.ntmps289
 go_upto_region 1 with (fail)
 generalize World.alloc _ _ = W0 at hA ⊢
 have HD : Hid (Rw w.heap.size (bW d) w W0) := Lib.hid hA.1
 have HE : Hid (Rw (w.heap.size + 1) (aN cy cm ck) w W0) := Lib.hid hA.2.1
 have HF : Hid (Rw (w.heap.size + 1 + 1) (aN 0 0 0) w W0) := Lib.hid hA.2.2
 clear hA
 have hR := HD.out.range
 generalize w.heap.size + 1 + 1 = p6 at *
 generalize w.heap.size + 1 = p5 at *
 by_cases hc : d.fU = 0
 . have HCE := Lib.hid hc
   have HFM := Lib.hid (lI hc)
   rw [hc] at HC
   clear hc
   go_upto_region 4 with (first
    | (refine wpList_load_mid rfl 37 (.tmp 3) rfl w.heap.size 0 rfl (bW d) _ hR Tryz.underlying37 rfl dA ?_)
    | (go_at_call 292; refine (HC.out _ HD.out.below).mono ?_; rintro _ w1 ⟨rfl, hb⟩))
   replace HD := Lib.hid (HD.out.later hb)
   replace HE := Lib.hid (HE.out.later hb)
   replace HF := Lib.hid (HF.out.later hb)
   clear hR hb HC
   go_cut [9] (fun s wx => ∃ p9 y m k ok, s = .pointer (some ⟨p9, 0, none⟩) /\ d.jP cy cm ck y m k ok /\ Rw p9 (aN y m k) w wx /\ Rw p6 (aN 0 0 0) w wx)
   case first =>
    obtain ⟨r0, r1, r2, r3, r4, r5, r6, r7, r8, r9⟩ := HD.out.gJ
    unfold bW at HO
    have e0 := HE.out.cell 0 _ rfl
    have e1 := HE.out.cell 1 _ rfl
    have e2 := HE.out.cell 2 _ rfl
    have el := HE.out.lt
    have dl := HD.out.lt
    have HFL := Lib.hid HF.out.lt
    go_region_with (first
     | (go_at_call 82; refine (HO.out _ (by first | exact HD.out.below | exact HD.out.below.drew | exact HD.out.below.drew.drew | exact ba HD.out.below.drew _ | exact (ba HD.out.below.drew _).drew | exact ba HD.out.below.drew.drew _) HFM.out).mono ?_; rintro _ w2 ⟨mv, dv, rfl, hm, hd, hb2⟩; (first | (have HP : Hid (Rw w1.heap.size (aN 0 0 0) w w2) := Lib.hid ((Rw.fresh HD.out.below.drew (aN 0 0 0) 112).later hb2)) | skip); have hb2 : Below w1.heap.size w1 w2 := (by first | exact hb2 | exact bt (Below.refl _ _).drew hb2 | exact bt (Below.refl _ _).drew.drew hb2 | exact bt (ba (Below.refl _ _).drew _) hb2 | exact bt (ba (Below.refl _ _).drew _).drew hb2 | exact bt (ba (Below.refl _ _).drew.drew _) hb2); have Y8 := Lib.hid (bt HD.out.below hb2); have HIM := Lib.hid hm; have HID := Lib.hid hd; have HE2 := Lib.hid (HE.out.later hb2); have HF2 := Lib.hid (HF.out.later hb2); have HSZ := Lib.hid hb2.size; clear hm hd hb2; have e0 := HE2.out.cell 0 _ rfl; have e1 := HE2.out.cell 1 _ rfl; have e2 := HE2.out.cell 2 _ rfl; have el := HE2.out.lt)
     | (go_at_call 83; refine (HS.out mv dv _ (by first | exact Y8.out | exact ba Y8.out _ | exact Y8.out.drew) HFM.out (by first | exact HIM.out | exact HIM.out.later (ba (Below.refl _ _) _)) (by first | exact HID.out | exact HID.out.later (ba (Below.refl _ _) _))).mono ?_; rintro _ w3 ⟨y, m, k, ok, hso, rfl, hb3⟩; unfold cvv; (first | (have TP : Hid (Rw w2.heap.size (aN 0 0 0) w w3) := Lib.hid ((Rw.fresh Y8.out (aN 0 0 0) 112).later hb3)) | skip); have hb3 : Below w2.heap.size w2 w3 := (by first | exact hb3 | exact bt (ba (Below.refl _ _) _) hb3); (first | (have TP := Lib.hid (HP.out.later hb3)) | skip); have HF3 := Lib.hid (HF2.out.later hb3); have HSO := Lib.hid hso; clear hb3 hso; (first | (have f0 := TP.out.cell 0 _ rfl; have f1 := TP.out.cell 1 _ rfl; have f2 := TP.out.cell 2 _ rfl; have z0 := TP.out.free 0 (by unfold aN; simp); have z1 := TP.out.free 1 (by unfold aN; simp); have z2 := TP.out.free 2 (by unfold aN; simp)) | skip)))
    all_goals (go_wp2_with fail)
    all_goals go_meet
    all_goals (have g1 := HFL.out; have g2 := HSZ.out; have g3 := HF3.out.lt; have g4 := HF3.out.new)
    all_goals (first
     | exact ⟨_, _, _, _, _, rfl, HSO.out, TP.out.cO (aN _ _ _) rfl, HF3.out.others (q := w1.heap.size) (by omega) (by have := HD.out.below.size; omega) (aN _ _ _) 0⟩
     | exact ⟨_, _, _, _, _, rfl, HSO.out, TP.out.cO (aN _ _ _) rfl, HF3.out.others (q := w2.heap.size) (by omega) (by have := HD.out.below.size; omega) (aN _ _ _) 0⟩
     | exact ⟨_, _, _, _, _, rfl, HSO.out, Rw.fresh HF3.out.below (aN _ _ _) _, HF3.out.later (ba (Below.refl _ _) _)⟩)
   case rest =>
    obtain ⟨p9, y, m, k, ok, rfl, hso, hX, hF⟩ := hcut
    have HN := Lib.hid hso
    have HX := Lib.hid hX
    have HF := Lib.hid hF
    clear hX hso HS HO HD HE hF
    have f0 := HX.out.cell 0 _ rfl
    have f1 := HX.out.cell 1 _ rfl
    have f2 := HX.out.cell 2 _ rfl
    have g0 := HF.out.cell 0 _ rfl
    have g1 := HF.out.cell 1 _ rfl
    have g2 := HF.out.cell 2 _ rfl
    have z0 := HF.out.free 0 (by unfold aN; simp)
    have z1 := HF.out.free 1 (by unfold aN; simp)
    have z2 := HF.out.free 2 (by unfold aN; simp)
    go_wp2_with fail
    exact FQ (HF.out.cO (aN y m k) rfl) (.inl ⟨HCE.out, ok, HN.out⟩) rfl (by rw [HCE.out]; rfl)
 . obtain ⟨er, her⟩ : ∃ er, er = d.fU := ⟨_, rfl⟩
   rw [<- her] at HC
   have hc2 := hc
   rw [<- her] at hc
   have MZ := Lib.hid her
   have HC2 := Lib.hid hc2
   clear her hc2
   go_wp2_with (first
    | (refine wpList_load_mid rfl 37 (.tmp 3) rfl w.heap.size 0 rfl (bW d) _ hR Tryz.underlying37 rfl dA ?_)
    | (go_at_call 292; refine (HC.out _ HD.out.below).mono ?_; rintro _ w1 ⟨rfl, hb⟩; have HF2 := Lib.hid (HF.out.later hb); have f0 := HF2.out.cell 0 _ rfl; have f1 := HF2.out.cell 1 _ rfl; have f2 := HF2.out.cell 2 _ rfl; have z0 := HF2.out.free 0 (by unfold aN; simp); have z1 := HF2.out.free 1 (by unfold aN; simp); have z2 := HF2.out.free 2 (by unfold aN; simp)))
   exact FQ (HF2.out.cO (aN 0 0 0) rfl) (.inr ⟨HC2.out, rfl, rfl, rfl⟩) rfl (by rw [<- MZ.out]; rfl)
theorem aD7 (d : Dt) (cy cm ck : Int) (w : World) (hk : qI w) (hs : d.mo.size <= 1000) (hy : d.dg.size <= 1000) (m0 : 0 <= d.m0) (m1 : 0 <= d.m1) (m2 : 0 <= d.m2)
 (y0 : -9223372036854775808 <= cy) (y1 : cy < 9223372036854775808) :
 Calls Tryz.prog 289 #[bZ d, cvv cy cm ck, .bool false] w (aBj d (fun y m k ok => d.jY cy cm ck y m k ok) w) := by
 have hD : Rw w.heap.size (bW d) w _ := Rw.fresh (Below.refl _ _) (bW d) 37
 have hD2 := Rw.fresh hD.below (aN cy cm ck) 112
 have hD3 := Rw.fresh hD2.below (aN 0 0 0) 112
 simp only [dM] at hD2 hD3
 have hA : _ /\ _ /\ _ := ⟨(hD.later (ba (Below.refl _ _) (.cells (aN cy cm ck).toArray 112))).later (ba (Below.refl _ _) (.cells (aN 0 0 0).toArray 112)), hD2.later (ba (Below.refl _ _) (.cells (aN 0 0 0).toArray 112)), hD3⟩
 clear hD hD2 hD3
 have HC := Lib.hid (fun W hb => sH d W (hk.below (w' := W) hb) hs hy m0 m1 m2)
 have HO := Lib.hid (fun W hb hf => IZ d W (hk.below (w' := W) hb) hs hf)
 have HS := Lib.hid (fun mv dv W hb hf hm hd => NK d mv dv cy cm ck W (hk.below (w' := W) hb) hy hf y0 y1 hm hd)
 unfold cvv fmv at HS
 clear hk hs hy m0 m1 m2
 rw [sO] at HC HO
 unfold bZ cvv
 unfold bW aN at hA
 go_enter Tryz.func289, Tryz.ntmps289
 go_upto_region 1 with (fail)
 generalize World.alloc _ _ = W0 at hA ⊢
 have HD : Hid (Rw w.heap.size (bW d) w W0) := Lib.hid hA.1
 have HE : Hid (Rw (w.heap.size + 1) (aN cy cm ck) w W0) := Lib.hid hA.2.1
 have HF : Hid (Rw (w.heap.size + 1 + 1) (aN 0 0 0) w W0) := Lib.hid hA.2.2
 clear hA
 have hR := HD.out.range
 generalize w.heap.size + 1 + 1 = p6 at *
 generalize w.heap.size + 1 = p5 at *
 by_cases hc : d.fU = 0
 . have HCE := Lib.hid hc
   have HFM := Lib.hid (lI hc)
   rw [hc] at HC
   clear hc
   go_upto_region 4 with (first
    | (refine wpList_load_mid rfl 37 (.tmp 3) rfl w.heap.size 0 rfl (bW d) _ hR Tryz.underlying37 rfl dA ?_)
    | (go_at_call 292; refine (HC.out _ HD.out.below).mono ?_; rintro _ w1 ⟨rfl, hb⟩))
   replace HD := Lib.hid (HD.out.later hb)
   replace HE := Lib.hid (HE.out.later hb)
   replace HF := Lib.hid (HF.out.later hb)
   clear hR hb HC
   go_cut [9] (fun s wx => ∃ p9 y m k ok, s = .pointer (some ⟨p9, 0, none⟩) /\ d.jY cy cm ck y m k ok /\ Rw p9 (aN y m k) w wx /\ Rw p6 (aN 0 0 0) w wx)
   case first =>
    obtain ⟨r0, r1, r2, r3, r4, r5, r6, r7, r8, r9⟩ := HD.out.gJ
    unfold bW at HO
    have e0 := HE.out.cell 0 _ rfl
    have e1 := HE.out.cell 1 _ rfl
    have e2 := HE.out.cell 2 _ rfl
    have el := HE.out.lt
    have dl := HD.out.lt
    have HFL := Lib.hid HF.out.lt
    go_region_with (first
     | (go_at_call 82; refine (HO.out _ (by first | exact HD.out.below | exact HD.out.below.drew | exact HD.out.below.drew.drew | exact ba HD.out.below.drew _ | exact (ba HD.out.below.drew _).drew | exact ba HD.out.below.drew.drew _) HFM.out).mono ?_; rintro _ w2 ⟨mv, dv, rfl, hm, hd, hb2⟩; (first | (have HP : Hid (Rw w1.heap.size (aN 0 0 0) w w2) := Lib.hid ((Rw.fresh HD.out.below.drew (aN 0 0 0) 112).later hb2)) | skip); have hb2 : Below w1.heap.size w1 w2 := (by first | exact hb2 | exact bt (Below.refl _ _).drew hb2 | exact bt (Below.refl _ _).drew.drew hb2 | exact bt (ba (Below.refl _ _).drew _) hb2 | exact bt (ba (Below.refl _ _).drew _).drew hb2 | exact bt (ba (Below.refl _ _).drew.drew _) hb2); have Y8 := Lib.hid (bt HD.out.below hb2); have HIM := Lib.hid hm; have HID := Lib.hid hd; have HE2 := Lib.hid (HE.out.later hb2); have HF2 := Lib.hid (HF.out.later hb2); have HSZ := Lib.hid hb2.size; clear hm hd hb2; have e0 := HE2.out.cell 0 _ rfl; have e1 := HE2.out.cell 1 _ rfl; have e2 := HE2.out.cell 2 _ rfl; have el := HE2.out.lt)
     | (go_at_call 83; refine (HS.out mv dv _ (by first | exact Y8.out | exact ba Y8.out _ | exact Y8.out.drew) HFM.out (by first | exact HIM.out | exact HIM.out.later (ba (Below.refl _ _) _)) (by first | exact HID.out | exact HID.out.later (ba (Below.refl _ _) _))).mono ?_; rintro _ w3 ⟨y, m, k, ok, hso, rfl, hb3⟩; unfold cvv; (first | (have TP : Hid (Rw w2.heap.size (aN 0 0 0) w w3) := Lib.hid ((Rw.fresh Y8.out (aN 0 0 0) 112).later hb3)) | skip); have hb3 : Below w2.heap.size w2 w3 := (by first | exact hb3 | exact bt (ba (Below.refl _ _) _) hb3); (first | (have TP := Lib.hid (HP.out.later hb3)) | skip); have HF3 := Lib.hid (HF2.out.later hb3); have HSO := Lib.hid hso; clear hb3 hso; (first | (have f0 := TP.out.cell 0 _ rfl; have f1 := TP.out.cell 1 _ rfl; have f2 := TP.out.cell 2 _ rfl; have z0 := TP.out.free 0 (by unfold aN; simp); have z1 := TP.out.free 1 (by unfold aN; simp); have z2 := TP.out.free 2 (by unfold aN; simp)) | skip)))
    all_goals (go_wp2_with fail)
    all_goals go_meet
    all_goals (have g1 := HFL.out; have g2 := HSZ.out; have g3 := HF3.out.lt; have g4 := HF3.out.new)
    all_goals (first
     | exact ⟨_, _, _, _, _, rfl, HSO.out, TP.out.cO (aN _ _ _) rfl, HF3.out.others (q := w1.heap.size) (by omega) (by have := HD.out.below.size; omega) (aN _ _ _) 0⟩
     | exact ⟨_, _, _, _, _, rfl, HSO.out, TP.out.cO (aN _ _ _) rfl, HF3.out.others (q := w2.heap.size) (by omega) (by have := HD.out.below.size; omega) (aN _ _ _) 0⟩
     | exact ⟨_, _, _, _, _, rfl, HSO.out, Rw.fresh HF3.out.below (aN _ _ _) _, HF3.out.later (ba (Below.refl _ _) _)⟩)
   case rest =>
    obtain ⟨p9, y, m, k, ok, rfl, hso, hX, hF⟩ := hcut
    have HN := Lib.hid hso
    have HX := Lib.hid hX
    have HF := Lib.hid hF
    clear hX hso HS HO HD HE hF
    have f0 := HX.out.cell 0 _ rfl
    have f1 := HX.out.cell 1 _ rfl
    have f2 := HX.out.cell 2 _ rfl
    have g0 := HF.out.cell 0 _ rfl
    have g1 := HF.out.cell 1 _ rfl
    have g2 := HF.out.cell 2 _ rfl
    have z0 := HF.out.free 0 (by unfold aN; simp)
    have z1 := HF.out.free 1 (by unfold aN; simp)
    have z2 := HF.out.free 2 (by unfold aN; simp)
    go_wp2_with fail
    exact FQ (HF.out.cO (aN y m k) rfl) (.inl ⟨HCE.out, ok, HN.out⟩) rfl (by rw [HCE.out]; rfl)
 . obtain ⟨er, her⟩ : ∃ er, er = d.fU := ⟨_, rfl⟩
   rw [<- her] at HC
   have hc2 := hc
   rw [<- her] at hc
   have MZ := Lib.hid her
   have HC2 := Lib.hid hc2
   clear her hc2
   go_wp2_with (first
    | (refine wpList_load_mid rfl 37 (.tmp 3) rfl w.heap.size 0 rfl (bW d) _ hR Tryz.underlying37 rfl dA ?_)
    | (go_at_call 292; refine (HC.out _ HD.out.below).mono ?_; rintro _ w1 ⟨rfl, hb⟩; have HF2 := Lib.hid (HF.out.later hb); have f0 := HF2.out.cell 0 _ rfl; have f1 := HF2.out.cell 1 _ rfl; have f2 := HF2.out.cell 2 _ rfl; have z0 := HF2.out.free 0 (by unfold aN; simp); have z1 := HF2.out.free 1 (by unfold aN; simp); have z2 := HF2.out.free 2 (by unfold aN; simp)))
   exact FQ (HF2.out.cO (aN 0 0 0) rfl) (.inr ⟨HC2.out, rfl, rfl, rfl⟩) rfl (by rw [<- MZ.out]; rfl)
end Bk
end
section
namespace Bk
theorem rG {s : ByteArray} {l : List UInt8} (h : s.data.toList = l) (i : Nat) : aZ s i = ((l.getD i 0).toNat : Int) := by unfold aZ; rw [h]
theorem aA9 {s t : ByteArray} (h : s.data.toList = t.data.toList) : s = t := by
 cases s with | mk a => cases t with | mk b => exact congrArg _ (Array.ext' h)
theorem xO (s t : ByteArray) : (s.toList == t.toList) = decide (s = t) := by
 rw [ByteArray.toList_eq, ByteArray.toList_eq, Bool.eq_iff_iff, beq_iff_eq, decide_eq_true_iff]
 exact ⟨fun h => aA9 h, fun h => by rw [h]⟩
def twoS (n : Nat) : ByteArray := ⟨#[UInt8.ofNat (48 + n / 10), UInt8.ofNat (48 + n % 10)]⟩
theorem aEN {n : Nat} (h : n <= 99) : aZ (twoS n) 0 = 48 + (n : Int) / 10 := by
 show ((UInt8.ofNat (48 + n / 10)).toNat : Int) = _
 rw [UInt8.toNat_ofNat']
 omega
theorem aEM {n : Nat} (h : n <= 99) : aZ (twoS n) 1 = 48 + (n : Int) % 10 := by
 show ((UInt8.ofNat (48 + n % 10)).toNat : Int) = _
 rw [UInt8.toNat_ofNat']
 omega
theorem aIt {s : ByteArray} {n : Nat} (h : n <= 99) : s = twoS n ↔ (s.size = 2 /\ aZ s 0 = 48 + (n : Int) / 10 /\ aZ s 1 = 48 + (n : Int) % 10) := by
 constructor
 . rintro rfl
   exact ⟨rfl, aEN h, aEM h⟩
 . rintro ⟨h2, h0, h1⟩
   obtain ⟨a, b, e, e0, e1⟩ := tY h2
   apply aA9
   rw [e]
   show [a, b] = [_, _]
   have ha : a = UInt8.ofNat (48 + n / 10) := by apply UInt8.toNat.inj; rw [UInt8.toNat_ofNat']; omega
   have hb : b = UInt8.ofNat (48 + n % 10) := by apply UInt8.toNat.inj; rw [UInt8.toNat_ofNat']; omega
   rw [ha, hb]
theorem UN {s : ByteArray} {n : Nat} (h0 : 21 <= n) (h1 : n <= 41) : s = twoS n ↔ fZ s = n := by
 rw [aIt (by omega)]
 unfold fZ
 constructor
 . rintro ⟨a, b, c⟩
   rw [if_pos (by omega)]
   omega
 . intro h
   split at h
   . omega
   . omega
theorem aIs : ∀ n : Nat, n < 100 -> (XZ.extract (n / 10) (n / 10 + 1) ++ XZ.extract (n % 10) (n % 10 + 1)) = twoS n := by decide
def YF (neg long : Bool) (D X Z sz b0 ex sig m R : Int) : Prop :=
 (D + X ≠ sz \/ sig < 0 -> R = 0) /\
 (D + X = sz -> 0 <= sig -> long = false -> (sz ≠ 4 \/ ex ≠ 0 \/ (neg = true /\ Z = 4) \/ 4 < sig \/ (0 < sig /\ 0 < X)) -> R = 0) /\
 (D + X = sz -> 0 <= sig -> long = false -> sz = 4 -> ex = 0 -> (neg = true -> Z ≠ 4) -> sig <= 4 -> (sig <= 0 \/ X <= 0) -> R = 1) /\
 (D + X = sz -> 0 <= sig -> long = true -> (0 < X \/ D < 1 \/ 17 < D \/ b0 = 48 \/ ex < 0 \/ 16 < ex \/ (ex = 0 /\ D < 5) \/ D + ex < sig) -> R = 0) /\
 (D + X = sz -> 0 <= sig -> long = true -> X <= 0 -> 1 <= D -> D <= 17 -> b0 ≠ 48 -> 0 <= ex -> ex <= 16 -> (ex ≠ 0 \/ 5 <= D) -> sig <= D + ex -> (m <= 10000000000000000 -> R = 1) /\ (10000000000000000 < m -> R = 0))
theorem yF (neg long : Bool) (s : ByteArray) (ex sig : Int) : YF neg long (lH 48 57 s) (lH 88 88 s) (lH 48 48 s) s.size (aZ s 0) ex sig (fO s ex) (if KZ neg long s ex sig then 1 else 0) := by
 have hd := XY s
 have hx := aEJ s
 have hz := aNy s
 have hp := AQ 88 88 s
 have hdd : allB dP s = true -> (hasB 88 s = false ↔ allB dG s = true) := fun h => kT h
 have hdx : allB dG s = true -> allB dP s = true := fun h => vS h
 generalize lH 48 57 s = D at *
 generalize lH 88 88 s = X at *
 generalize lH 48 48 s = Z at *
 have no : ∀ {b : Bool}, b = false -> (if b then (1 : Int) else 0) = 0 := fun h => by rw [h]; rfl
 have yes : ∀ {b : Bool}, b = true -> (if b then (1 : Int) else 0) = 1 := fun h => by rw [h]; rfl
 refine ⟨fun h => no ?_, fun h1 h2 h3 h => no ?_, fun h1 h2 h3 h4 h5 h6 h7 h8 => yes ?_, fun h1 h2 h3 h => no ?_, fun h1 h2 h3 h4 h5 h6 h7 h8 h9 h10 h11 => ?_⟩
 . rw [Bool.eq_false_iff]
   intro hk
   cases long
   . obtain ⟨a1, a2, a3, a4, a5, a6, a7⟩ := iF hk
     have := hd.2 a2
     omega
   . obtain ⟨a1, a2, a3, a4, a5, a6, a7, a8, a9⟩ := jD hk
     have := hd.2 (hdx a3)
     omega
 . subst h3
   rw [Bool.eq_false_iff]
   intro hk
   obtain ⟨a1, a2, a3, a4, a5, a6, a7⟩ := iF hk
   rcases h with h | h | ⟨h, g⟩ | h | ⟨h, g⟩
   . omega
   . omega
   . have := (hz a1).1 g
     rw [a4 h] at this; cases this
   . omega
   . have := hx.1 g
     rw [a5 (by omega)] at this; cases this
 . subst h3
   have e4 : s.size = 4 := by omega
   unfold KZ iD
   rw [decide_eq_true e4, hd.1 h1, decide_eq_true h5, decide_eq_true h2, decide_eq_true (show sig <= s.size + ex by omega)]
   have n1 : (neg && allB isZ s) = false := by
    cases hn : neg
    . rfl
    . have := h6 hn
      cases ha : allB isZ s
      . rfl
      . exact absurd ((hz e4).2 ha) this
   have n2 : (!decide (sig = 0) && hasB 88 s) = false := by
    rcases h8 with h | h
    . rw [decide_eq_true (show sig = 0 by omega)]; rfl
    . cases ha : hasB 88 s
      . simp
      . have := hx.2 ha; omega
   rw [n1, n2]; rfl
 . subst h3
   rw [Bool.eq_false_iff]
   intro hk
   obtain ⟨a1, a2, a3, a4, a5, a6, a7, a8, a9⟩ := jD hk
   have hX : hasB 88 s = false := (hdd (hdx a3)).2 a3
   have nX : ¬ 0 < X := fun c => by rw [hx.1 c] at hX; cases hX
   have := hd.2 (hdx a3)
   have e5 : ¬ (ex = 0 /\ s.size < 5) := by
    rintro ⟨c1, c2⟩
    unfold KZ fF at hk
    simp [c1, c2] at hk
   omega
 . subst h3
   have hX : hasB 88 s = false := by
    cases ha : hasB 88 s
    . rfl
    . have := hx.2 ha; omega
   have ax := hd.1 h1
   have ad := (hdd ax).1 hX
   have : KZ neg true s ex sig = decide (fO s ex <= 10000000000000000) := by
    unfold KZ fF
    have q : (decide (ex = 0) && decide (s.size < 5)) = false := by
     rw [Bool.eq_false_iff]; intro c; simp at c; omega
    rw [q, ad]
    simp [h7, h8, h9, h2, show 1 <= s.size by omega, show s.size <= 17 by omega, show sig <= s.size + ex by omega]
   rw [this]
   refine ⟨fun c => by rw [decide_eq_true c]; rfl, fun c => by rw [decide_eq_false (by omega)]; rfl⟩
def L6 (s : ByteArray) (x : UInt8) : Nat -> ByteArray
 | 0 => ⟨#[]⟩
 | k + 1 => L6 s x k ++ (if aZ s k = 88 then ⟨#[x]⟩ else s.extract k (k + 1))
theorem JR (s : ByteArray) (x : UInt8) (k : Nat) : L6 s x (k + 1) = L6 s x k ++ (if aZ s k = 88 then ⟨#[x]⟩ else s.extract k (k + 1)) := rfl
end Bk
end
section
open Go.RowKit Go.Lib
namespace Bk
open Un (ba bt ri rb aX bP)
theorem FK (s : ByteArray) (a b : Int) (w : World) (hs : s.size <= maxLen) :
 Calls Tryz.prog 90 #[.string s, .int .u8 a, .int .u8 b] w fun r w' => r = .returned (.int .i64 (lH a b s)) /\ w = w' := by
 unfold maxLen at hs
 unfold lH
 go_enter Tryz.func90, Tryz.ntmps90
 go_wp2
 go_loop [7, 8] (fun n i => ∃ k : Nat, k <= s.size /\ i = .int .i64 k /\ n = .int .i64 (pW a b (s.data.toList.take k))) (fun _ i => s.size - (intOf i).toNat)
 case atStart => exact ⟨0, Nat.zero_le _, rfl, rfl⟩
 case round =>
  obtain ⟨k, hk, rfl, rfl⟩ := hrel
  have hd := FX a b (s.data.toList.take k)
  have hl : (s.data.toList.take k).length <= k := List.length_take_le _ _
  by_cases hlt : k < s.size
  . have hsn := aEg a b (s.data.toList.take k) s[k]
    have hts := take_snoc s k hlt
    have HS : Hid (pW a b (s.data.toList.take (k + 1)) = pW a b (s.data.toList.take k) + if a <= (s[k].toNat : Int) /\ (s[k].toNat : Int) <= b then 1 else 0) := Lib.hid (by rw [hts]; exact hsn)
    clear hsn hts
    go_wp2
    all_goals
     go_round
     case rel => exact ⟨k + 1, by omega, by go_num, by rw [HS.out]; first | rw [if_pos ⟨‹_›, ‹_›⟩] | (rw [if_neg (by omega)]; go_num)⟩
     case measure => simp [intOf]; omega
  . go_wp2
    go_ret
    exact ⟨ri (by rw [List.take_of_length_le (by simp; omega)]), rfl⟩
theorem uP (neg long : Bool) (s : ByteArray) (ex sig : Int) (w : World) (hs : s.size <= maxLen) :
 Calls Tryz.prog 122 #[.agg #[.bool neg, .bool long, .string s, .int .i64 ex, .int .i64 sig]] w fun r w' => r = .returned (.int .i64 (if hasB 88 s then 1 else 0)) /\ Below w.heap.size w w' := by
 have HH := fun w => FK s 88 88 w hs
 have hx := aEJ s
 have hp := (AQ 88 88 s).1
 obtain ⟨R, hR⟩ : ∃ R : Int, R = if hasB 88 s then 1 else 0 := ⟨_, rfl⟩
 rw [<- hR]
 have hR2 : (0 < lH 88 88 s -> R = 1) /\ (lH 88 88 s <= 0 -> R = 0) := by
  refine ⟨fun h => by rw [hR, if_pos (hx.1 h)], fun h => by rw [hR, if_neg (fun c => by have := hx.2 c; omega)]⟩
 generalize lH 88 88 s = n at *
 have HX := Lib.hid hR2
 replace HH := Lib.hid HH
 clear hx hR hR2
 go_enter Tryz.func122, Tryz.ntmps122
 go_wp2_with (go_at_call 90; with_reducible refine (HH.out _).mono ?_; rintro _ w' ⟨rfl, rfl⟩)
 all_goals go_ret
 all_goals refine ⟨ri ?_, ba (Below.refl _ _) _⟩
 all_goals have := HX.out
 all_goals omega
def oP (m : Int) : Int × Int := if m <= 10000000000000000 then (m, 1) else (0, 0)
theorem lS (s : ByteArray) (e : Nat) (w : World) (hs : s.size <= 1000) (he : e <= 1000) (hd : allB dG s = true) :
 Calls Tryz.prog 91 #[.string s, .int .i64 e] w fun r w' => r = .returned (.tuple #[.int .i64 (oP (fO s e)).1, .int .i64 (oP (fO s e)).2]) /\ w = w' := by
 have HD := Lib.hid hd
 clear hd
 go_enter Tryz.func91, Tryz.ntmps91
 go_wp2
 go_loop [6, 7] (fun n i => ∃ k : Nat, k <= s.size + e /\ pR s k <= 10000000000000000 /\ i = .int .i64 k /\ n = .int .i64 (pR s k)) (fun _ i => s.size + e - (intOf i).toNat)
 case atStart => exact ⟨0, Nat.zero_le _, by rw [CJ]; omega, rfl, by rw [CJ]⟩
 case round =>
  obtain ⟨k, hk, hm, rfl, rfl⟩ := hrel
  have hp := JM s k
  by_cases hlt : k < s.size + e
  . by_cases hc : k < s.size
    . have hda := SX HD.out k hc
      have HS := Lib.hid (JO HD.out k hc)
      obtain ⟨d0, d1⟩ := hda
      go_wp2
      . go_ret2
        have h1 := HS.out
        have h2 := wH HD.out (k + 1) (s.size + e - (k + 1))
        rw [show k + 1 + (s.size + e - (k + 1)) = s.size + e by omega, uX] at h2
        refine ⟨?_, rfl⟩
        unfold oP
        rw [if_neg (by omega)]
        rfl
      . go_round
        case rel => exact ⟨k + 1, by omega, by rw [HS.out]; omega, by go_num, by rw [HS.out]⟩
        case measure => simp [intOf]; omega
    . have HS := Lib.hid (XC s k (by omega))
      go_wp2
      . go_ret2
        have h1 := HS.out
        have h2 := wH HD.out (k + 1) (s.size + e - (k + 1))
        rw [show k + 1 + (s.size + e - (k + 1)) = s.size + e by omega, uX] at h2
        refine ⟨?_, rfl⟩
        unfold oP
        rw [if_neg (by omega)]
        rfl
      . go_round
        case rel => exact ⟨k + 1, by omega, by rw [HS.out]; omega, by go_num, by rw [HS.out]⟩
        case measure => simp [intOf]; omega
  . obtain rfl : k = s.size + e := by omega
    rw [uX] at hm hp ⊢
    go_wp2
    go_ret2
    refine ⟨?_, rfl⟩
    unfold oP
    rw [if_pos hm]
    rfl
theorem VN (neg long : Bool) (s : ByteArray) (ex sig : Int) (w : World) (hs : s.size <= 1000) (s0 : -9223372036854775808 <= sig) (s1 : sig < 9223372036854775808) :
 Calls Tryz.prog 60 #[yv neg long s ex sig] w fun r w' => r = .returned (.int .i64 (if KZ neg long s ex sig then 1 else 0)) /\ Below w.heap.size w w' := by
 have hF := yF neg long s ex sig
 have hY := Ym.new neg long s ex sig w 35
 have dd := AQ 48 57 s
 have dx := AQ 88 88 s
 have dz := AQ 48 48 s
 have HD := fun w => FK s 48 57 w (by unfold maxLen; omega)
 have HX := fun w => FK s 88 88 w (by unfold maxLen; omega)
 have HZ := fun w => FK s 48 48 w (by unfold maxLen; omega)
 have HM : ∀ (e : Nat) w, lH 48 57 s + lH 88 88 s = s.size -> lH 88 88 s <= 0 -> e <= 1000 -> Calls Tryz.prog 91 #[.string s, .int .i64 e] w fun r w' => r = .returned (.tuple #[.int .i64 (oP (fO s e)).1, .int .i64 (oP (fO s e)).2]) /\ w = w' := fun e w h1 h2 h3 =>
  lS s e w hs h3 (by
   have ax := (XY s).1 h1
   refine (kT ax).1 ?_
   cases ha : hasB 88 s
   . rfl
   . have := (aEJ s).2 ha; omega)
 have hl0 : 1 <= lH 48 57 s -> 0 < s.size := fun h => by omega
 have hb0 : ∀ h : 0 < s.size, ((s[0]'h).toNat : Int) = aZ s 0 := fun h => (bY s 0 h).symm
 generalize (if KZ neg long s ex sig then (1 : Int) else 0) = R at *
 generalize lH 48 57 s = D at *
 generalize lH 88 88 s = X at *
 generalize lH 48 48 s = Z at *
 generalize aZ s 0 = b0 at *
 replace HD := Lib.hid HD; replace HX := Lib.hid HX; replace HZ := Lib.hid HZ; replace HM := Lib.hid HM
 unfold YF at hF
 unfold yv
 have HB0 := Lib.hid hb0
 clear hb0
 cases long
 . have HF : Hid _ := Lib.hid hF
   clear hF HM
   go_enter Tryz.func60, Tryz.ntmps60
   go_upto_region 1 with (fail)
   generalize w.alloc (.cells #[.bool neg, .bool false, .string s, .int .i64 ex, .int .i64 sig] 35) = W0 at hY ⊢
   obtain ⟨q0, q1, q2, q3, q4, qB⟩ := id hY
   go_cut [3, 4] (fun s3 s4 wx => s3 = .int .i64 D /\ s4 = .int .i64 X /\ Ym w.heap.size neg false s ex sig w wx)
   case first =>
    go_region_with (go_at_call 90; first | (with_reducible refine (HD.out _).mono ?_; rintro _ w' ⟨rfl, rfl⟩) | (with_reducible refine (HX.out _).mono ?_; rintro _ w' ⟨rfl, rfl⟩))
    all_goals (go_wp2_with fail)
    all_goals (go_meet; exact ⟨rfl, rfl, by first | exact hY | exact hY.drew' | exact hY.drew'.drew'⟩)
   case rest =>
    obtain ⟨rfl, rfl, hY⟩ := hcut
    clear q0 q1 q2 q3 q4 qB
    obtain ⟨q0, q1, q2, q3, q4, qB⟩ := id hY
    cases neg
    all_goals
     go_wp2_with (go_at_call 90; with_reducible refine (HZ.out _).mono ?_; rintro _ w' ⟨rfl, rfl⟩)
     all_goals go_ret
     all_goals refine ⟨ri ?_, hY.below⟩
     all_goals have hF := HF.out
     all_goals simp only [forall_const, reduceCtorEq, false_implies, implies_true, true_implies, and_true, true_and, false_and, false_or, ne_eq] at hF
     all_goals try simp only [beq_iff_eq] at *
     all_goals omega
 . have HF : Hid _ := Lib.hid hF
   clear hF HZ
   go_enter Tryz.func60, Tryz.ntmps60
   go_upto_region 1 with (fail)
   generalize w.alloc (.cells #[.bool neg, .bool true, .string s, .int .i64 ex, .int .i64 sig] 35) = W0 at hY ⊢
   obtain ⟨q0, q1, q2, q3, q4, qB⟩ := id hY
   go_cut [3, 4] (fun s3 s4 wx => s3 = .int .i64 D /\ s4 = .int .i64 X /\ Ym w.heap.size neg true s ex sig w wx)
   case first =>
    go_region_with (go_at_call 90; first | (with_reducible refine (HD.out _).mono ?_; rintro _ w' ⟨rfl, rfl⟩) | (with_reducible refine (HX.out _).mono ?_; rintro _ w' ⟨rfl, rfl⟩))
    all_goals (go_wp2_with fail)
    all_goals (go_meet; exact ⟨rfl, rfl, by first | exact hY | exact hY.drew' | exact hY.drew'.drew'⟩)
   case rest =>
    obtain ⟨rfl, rfl, hY⟩ := hcut
    clear q0 q1 q2 q3 q4 qB
    obtain ⟨q0, q1, q2, q3, q4, qB⟩ := id hY
    by_cases l0 : 0 < s.size
    case neg =>
     clear HM
     go_wp2_with fail
     all_goals go_ret
     all_goals refine ⟨ri ?_, hY.below⟩
     all_goals have hF := HF.out
     all_goals simp only [forall_const, reduceCtorEq, false_implies, implies_true, true_implies, and_true, true_and, false_and, false_or, ne_eq] at hF
     all_goals try simp only [beq_iff_eq] at *
     all_goals omega
    by_cases x0 : 0 <= ex
    case neg =>
     clear HM
     go_wp2_with fail
     all_goals go_ret
     all_goals refine ⟨ri ?_, hY.below⟩
     all_goals have hF := HF.out
     all_goals have hB := HB0.out l0
     all_goals simp only [forall_const, reduceCtorEq, false_implies, implies_true, true_implies, and_true, true_and, false_and, false_or, ne_eq] at hF
     all_goals try simp only [beq_iff_eq] at *
     all_goals omega
    obtain ⟨e, rfl⟩ : ∃ e : Nat, ex = e := ⟨ex.toNat, by omega⟩
    have HM2 := Lib.hid (fun w h1 h2 h3 => HM.out e w h1 h2 h3)
    clear HM
    generalize fO s e = m at *
    rcases Nat.eq_zero_or_pos e with rfl | e0
    . have HM3 : Hid (∀ w, D + X = s.size -> X <= 0 -> Calls Tryz.prog 91 #[.string s, .int .i64 0] w fun r w' => r = .returned (.tuple #[.int .i64 (oP m).1, .int .i64 (oP m).2]) /\ w = w') := Lib.hid (fun w h1 h2 => HM2.out w h1 h2 (by omega))
      clear HM2
      by_cases hm : m <= 10000000000000000
      . rw [show oP m = (m, 1) by unfold oP; rw [if_pos hm]] at HM3
        go_wp2_with (go_at_call 91; with_reducible refine (HM3.out _ (by omega) (by omega)).mono ?_; rintro _ w' ⟨rfl, rfl⟩)
        all_goals go_ret
        all_goals refine ⟨ri ?_, hY.below⟩
        all_goals have hF := HF.out
        all_goals have hB := HB0.out l0
        all_goals simp only [forall_const, reduceCtorEq, false_implies, implies_true, true_implies, and_true, true_and, false_and, false_or, ne_eq] at hF
        all_goals try simp only [beq_iff_eq] at *
        all_goals omega
      . rw [show oP m = (0, 0) by unfold oP; rw [if_neg hm]] at HM3
        go_wp2_with (go_at_call 91; with_reducible refine (HM3.out _ (by omega) (by omega)).mono ?_; rintro _ w' ⟨rfl, rfl⟩)
        all_goals go_ret
        all_goals refine ⟨ri ?_, hY.below⟩
        all_goals have hF := HF.out
        all_goals have hB := HB0.out l0
        all_goals simp only [forall_const, reduceCtorEq, false_implies, implies_true, true_implies, and_true, true_and, false_and, false_or, ne_eq] at hF
        all_goals try simp only [beq_iff_eq] at *
        all_goals omega
    have e1 : ¬ (e : Int) = 0 := by omega
    by_cases hm : m <= 10000000000000000
    . rw [show oP m = (m, 1) by unfold oP; rw [if_pos hm]] at HM2
      go_wp2_with (go_at_call 91; with_reducible refine (HM2.out _ (by omega) (by omega) (by omega)).mono ?_; rintro _ w' ⟨rfl, rfl⟩)
      all_goals go_ret
      all_goals refine ⟨ri ?_, hY.below⟩
      all_goals have hF := HF.out
      all_goals have hB := HB0.out l0
      all_goals simp only [forall_const, reduceCtorEq, false_implies, implies_true, true_implies, and_true, true_and, false_and, false_or, ne_eq] at hF
      all_goals try simp only [beq_iff_eq] at *
      all_goals omega
    . rw [show oP m = (0, 0) by unfold oP; rw [if_neg hm]] at HM2
      go_wp2_with (go_at_call 91; with_reducible refine (HM2.out _ (by omega) (by omega) (by omega)).mono ?_; rintro _ w' ⟨rfl, rfl⟩)
      all_goals go_ret
      all_goals refine ⟨ri ?_, hY.below⟩
      all_goals have hF := HF.out
      all_goals have hB := HB0.out l0
      all_goals simp only [forall_const, reduceCtorEq, false_implies, implies_true, true_implies, and_true, true_and, false_and, false_or, ne_eq] at hF
      all_goals try simp only [beq_iff_eq] at *
      all_goals omega
end Bk
end
section
open Go.RowKit
namespace Un
open Cal
theorem qU (y k : Int) : (y.tmod k == 0) = decide (y % k = 0) := by
 rw [Bool.eq_iff_iff]; simp only [beq_iff_eq, decide_eq_true_eq]
 exact ⟨fun h => Int.emod_eq_zero_of_dvd (Int.dvd_of_tmod_eq_zero h), fun h => Int.tmod_eq_zero_of_dvd (Int.dvd_of_emod_eq_zero h)⟩
theorem GR (y k : Int) : (y.tmod k != 0) = !decide (y % k = 0) := by
 rw [<- qU]; rfl
theorem uM (y : Int) (w : World) : Calls Tryz.prog 64 #[.int .i64 y] w fun e w' => e = .returned (.int .i64 (lp y)) /\ w = w' := by
 have t4 := qU y 4; have t1 := GR y 100; have t5 := qU y 400
 by_cases a : y % 4 = 0 <;> by_cases b : y % 100 = 0 <;> by_cases c : y % 400 = 0 <;>
  simp only [a, b, c, decide_true, decide_false, Bool.not_true, Bool.not_false] at t4 t1 t5 <;>
  (have L : Hid (lp y = if (decide (y % 4 = 0) && (decide (y % 100 ≠ 0) || decide (y % 400 = 0))) then 1 else 0) := Lib.hid rfl
   simp only [a, b, c, ne_eq, not_true_eq_false, not_false_eq_true, decide_true, decide_false, Bool.true_and, Bool.false_and, Bool.or_true, Bool.or_false, Bool.true_or, if_true, if_false, Bool.false_eq_true] at L
   clear a b c
   go_enter Tryz.func64, Tryz.ntmps64
   go_wp2
   go_ret
   exact ⟨ri (by first | exact L.out.symm | rfl), rfl⟩)
theorem IQ (y m : Int) (w : World) (m0 : 1 <= m) (m1 : m <= 12) : Calls Tryz.prog 67 #[.int .i64 y, .int .i64 m] w fun e w' => e = .returned (.int .i64 (len y m)) /\ w = w' := by
 have L := OC y
 have : m = 1 \/ m = 2 \/ m = 3 \/ m = 4 \/ m = 5 \/ m = 6 \/ m = 7 \/ m = 8 \/ m = 9 \/ m = 10 \/ m = 11 \/ m = 12 := by omega
 rcases this with rfl | rfl | rfl | rfl | rfl | rfl | rfl | rfl | rfl | rfl | rfl | rfl <;>
  (clear m0 m1
   go_enter Tryz.func67, Tryz.ntmps67
   go_wp2_with (go_at_call 64; refine (uM _ _).mono ?_; rintro e w' ⟨rfl, rfl⟩)
   go_ret
   exact ⟨ri (by unfold len; simp), rfl⟩)
theorem y8 (a b : Int) (w : World) (hb : 1 < b) (hb2 : b < 9223372036854775808) (h0 : -9223372036854775808 <= a) (h1 : a < 9223372036854775808) :
 Calls Tryz.prog 43 #[.int .i64 a, .int .i64 b] w fun e w' => e = .returned (.int .i64 (a / b)) /\ w = w' := by
 obtain ⟨c1, c2, c3⟩ := @wM a b (by omega)
 have b0 : (b == 0) = false := by rw [beq_eq_false_iff_ne]; omega
 have b1 : (b == -1) = false := by rw [beq_eq_false_iff_ne]; omega
 have bd := zY (a := a) hb h0 h1
 by_cases hz : a.tmod b < 0
 . have ha : a < 0 := (c3 (by omega)).1 hz
   obtain ⟨e1, e2⟩ := c1 ⟨by omega, ha⟩
   have m2 : decide (a.tmod b < 0) = true := decide_eq_true hz
   have w1 : wrap64 (a.tdiv b - 1) = a / b := by rw [e1]; exact wrap_in bd.1 bd.2
   clear hz e1 e2 c1 c2 c3 bd
   go_enter Tryz.func43, Tryz.ntmps43
   go_wp2
   go_ret
   exact ⟨ri w1, rfl⟩
 . have m2 : decide (a.tmod b < 0) = false := decide_eq_false hz
   have k : a.tmod b = 0 \/ 0 <= a := by
    by_cases h : a.tmod b = 0
    . exact .inl h
    . have := c3 h; exact .inr (by omega)
   obtain ⟨e1, e2⟩ := c2 k
   have E1 := Lib.hid e1
   have w1 : wrap64 (a.tdiv b) = a / b := by rw [e1]; exact wrap_in bd.1 bd.2
   clear hz e1 e2 c1 c2 c3 bd k
   go_enter Tryz.func43, Tryz.ntmps43
   go_wp2
   go_ret
   exact ⟨ri (by first | exact w1 | exact E1.out | rfl), rfl⟩
theorem jL (y : Int) (w : World) (h0 : -25000000000000000 <= y) (h1 : y <= 25000000000000000) :
 Calls Tryz.prog 63 #[.int .i64 y] w fun e w' => e = .returned (.int .i64 (st y)) /\ w = w' := by
 have E := Lib.hid (aLu y)
 obtain ⟨r, hr⟩ : ∃ r, r = y - y / 400 * 400 := ⟨_, rfl⟩
 obtain ⟨c, hc⟩ : ∃ c, c = y / 400 := ⟨_, rfl⟩
 have r0 : 0 <= r := by omega
 have r1 : r < 400 := by omega
 go_enter Tryz.func63, Tryz.ntmps63
 go_wp2_with (go_at_call 43; refine (y8 _ _ _ (by omega) (by omega) (by omega) (by omega)).mono ?_; rintro e w' ⟨rfl, rfl⟩)
 go_ret
 exact ⟨ri (by rw [<- E.out]; unfold rst; omega), rfl⟩
theorem IU (y m d : Int) (w : World) (h0 : -20000000000000000 <= y) (h1 : y <= 20000000000000000) (m0 : 1 <= m) (m1 : m <= 13) (d0 : -1000 <= d) (d1 : d <= 1000) :
 Calls Tryz.prog 66 #[.int .i64 y, .int .i64 m, .int .i64 d] w fun e w' => e = .returned (.int .i64 (st y + dW y m + d - 1)) /\ w = w' := by
 obtain ⟨n, rfl⟩ : ∃ n : Nat, m = (n : Int) + 1 := ⟨(m - 1).toNat, by omega⟩
 obtain ⟨b0, b1⟩ := oH (y := y) (by omega) (by omega)
 go_enter Tryz.func66, Tryz.ntmps66
 go_wp2_with (go_at_call 63; refine (jL _ _ (by omega) (by omega)).mono ?_; rintro e w' ⟨rfl, rfl⟩)
 go_loop [7, 8] (fun s j => ∃ k : Nat, k <= n /\ s = .int .i64 (st y + dW y ((k : Int) + 1)) /\ j = .int .i64 ((k : Int) + 1)) (fun _ j => n + 1 - (intOf j).toNat)
 case atStart => exact ⟨0, by omega, by rw [show ((0 : Nat) : Int) + 1 = 1 from rfl, FW, Int.add_zero], rfl⟩
 case round =>
  obtain ⟨k, hk, rfl, rfl⟩ := hrel
  have cb := @sQ y ((k : Int) + 1) (by omega) (by omega)
  by_cases hlt : k < n
  . have hl := gI y ((k : Int) + 1)
    have hcs := dY y ((k : Int) + 1) (by omega) (by omega)
    have HCS := Lib.hid hcs; clear hcs
    go_wp2_with (go_at_call 67; refine (IQ _ _ _ (by omega) (by omega)).mono ?_; rintro e w' ⟨rfl, rfl⟩)
    go_round
    case rel => exact ⟨k + 1, by omega, vi (by rw [show ((k + 1 : Nat) : Int) + 1 = (k : Int) + 1 + 1 by omega, HCS.out]; omega), by go_num⟩
    case measure => simp [intOf]; omega
  . have e : k = n := by omega
    subst e
    go_wp2
    go_ret
    exact ⟨ri (by omega), rfl⟩
end Un
end
section
open Go.RowKit
namespace Un
open Cal
theorem aKx : st (-10000000000000000) = -3652425000000000000 := by decide
theorem aN1 : st 10000000000000000 = 3652425000000000000 := by decide
theorem aLq : st 10000000000000001 = 3652425000000000366 := by decide
theorem BF {d : Int} : (-10000000000000000 <= dU d /\ dU d <= 10000000000000000) ↔ (-3652425000000000000 <= d /\ d < 3652425000000000366) := by
 have a := @ZA d (-10000000000000000)
 have b := @ZA d 10000000000000001
 rw [aKx] at a; rw [aLq] at b
 omega
def inC (d : Int) : Int := if -3652425000000000000 <= d /\ d < 3652425000000000366 then 1 else 0
theorem BO (d : Int) (w : World) (h0 : -9223372036854775808 <= d) (h1 : d < 9223372036854775808) :
 Calls Tryz.prog 74 #[.int .i64 d] w fun e w' => e = .returned (.int .i64 (inC d)) /\ w = w' := by
 have HL : ∀ W, Calls Tryz.prog 64 #[.int .i64 10000000000000000] W fun e w' => e = .returned (.int .i64 1) /\ W = w' := fun W => uM _ W
 have HA : ∀ W, Calls Tryz.prog 63 #[.int .i64 (-10000000000000000)] W fun e w' => e = .returned (.int .i64 (-3652425000000000000)) /\ W = w' := fun W => by
  have := jL (-10000000000000000) W (by omega) (by omega); rw [aKx] at this; exact this
 have HB : ∀ W, Calls Tryz.prog 63 #[.int .i64 10000000000000000] W fun e w' => e = .returned (.int .i64 3652425000000000000) /\ W = w' := fun W => by
  have := jL 10000000000000000 W (by omega) (by omega); rw [aN1] at this; exact this
 replace HL := Lib.hid HL; replace HA := Lib.hid HA; replace HB := Lib.hid HB
 by_cases c1 : d < -3652425000000000000
 . have t : Hid (inC d = 0) := Lib.hid (by unfold inC; rw [if_neg (by omega)])
   go_enter Tryz.func74, Tryz.ntmps74
   go_wp2_with fail
   refine (HA.out _).mono ?_; rintro e w' ⟨rfl, rfl⟩
   go_wp2_with fail
   go_ret
   exact ⟨ri t.out.symm, rfl⟩
 . by_cases c2 : d > 3652425000000000365
   . have t : Hid (inC d = 0) := Lib.hid (by unfold inC; rw [if_neg (by omega)])
     go_enter Tryz.func74, Tryz.ntmps74
     go_wp2_with fail
     refine (HA.out _).mono ?_; rintro e w' ⟨rfl, rfl⟩
     go_wp2_with fail
     refine (HB.out _).mono ?_; rintro e w' ⟨rfl, rfl⟩
     go_wp2_with fail
     refine (HL.out _).mono ?_; rintro e w' ⟨rfl, rfl⟩
     go_wp2_with fail
     go_ret
     exact ⟨ri t.out.symm, rfl⟩
   . have t : Hid (inC d = 1) := Lib.hid (by unfold inC; rw [if_pos (by omega)])
     go_enter Tryz.func74, Tryz.ntmps74
     go_wp2_with fail
     refine (HA.out _).mono ?_; rintro e w' ⟨rfl, rfl⟩
     go_wp2_with fail
     refine (HB.out _).mono ?_; rintro e w' ⟨rfl, rfl⟩
     go_wp2_with fail
     refine (HL.out _).mono ?_; rintro e w' ⟨rfl, rfl⟩
     go_wp2_with fail
     go_ret
     exact ⟨ri t.out.symm, rfl⟩
theorem aEI (d : Int) : st (d / 146097 * 400 + d % 146097 / 366) <= d := by unfold st MX; omega
theorem uK (d : Int) (w : World) (h0 : -3652425000000000000 <= d) (h1 : d < 3652425000000000366) :
 Calls Tryz.prog 75 #[.int .i64 d] w fun e w' => e = .returned (.int .i64 (dU d)) /\ w = w' := by
 obtain ⟨y0, y1⟩ := BF.2 ⟨h0, h1⟩
 have yl := aEI d
 have ys := iE d
 have ym : d / 146097 * 400 + d % 146097 / 366 <= dU d := by
  have := @ZA d (d / 146097 * 400 + d % 146097 / 366); omega
 have YS := Lib.hid ys; have YM := Lib.hid ym
 have wr : wrap64 (d - d / 146097 * 146097) = d % 146097 := by rw [wrap_in (by omega) (by omega)]; omega
 clear ys ym yl
 go_enter Tryz.func75, Tryz.ntmps75
 go_wp2_with (go_at_call 43; refine (y8 _ _ _ (by omega) (by omega) (by omega) (by omega)).mono ?_; rintro e w' ⟨rfl, rfl⟩)
 go_loop [4] (fun y => ∃ v : Int, y = .int .i64 v /\ -10000000000000010 <= v /\ v <= dU d) (fun y => (dU d - intOf y).toNat)
 case atStart => exact ⟨_, rfl, by omega, by have := YM.out; omega⟩
 case round =>
  obtain ⟨v, rfl, v0, v1⟩ := hrel
  by_cases hlt : v < dU d
  . have hle : st (v + 1) <= d := by have := YS.out.1; have := nG (a := v + 1) (b := dU d) (by omega); omega
    have t : decide (st (v + 1) <= d) = true := decide_eq_true hle
    go_wp2_with (go_at_call 63; refine (jL _ _ (by omega) (by omega)).mono ?_; rintro e w' ⟨rfl, rfl⟩)
    go_round
    case rel => exact ⟨v + 1, rfl, by omega, by omega⟩
    case measure => simp [intOf]; omega
  . have e : v = dU d := by omega
    subst e
    have t : decide (st (dU d + 1) <= d) = false := decide_eq_false (by have := YS.out.2; omega)
    go_wp2_with (go_at_call 63; refine (jL _ _ (by omega) (by omega)).mono ?_; rintro e w' ⟨rfl, rfl⟩)
    go_ret
    exact ⟨rfl, rfl⟩
theorem QA (d : Int) (w : World) (h0 : -3652425000000000000 <= d) (h1 : d < 3652425000000000366) :
 Calls Tryz.prog 76 #[.int .i64 d] w fun e w' => e = .returned (.int .i64 (LW (dU d) (d - st (dU d)))) /\ w = w' := by
 obtain ⟨y0, y1⟩ := BF.2 ⟨h0, h1⟩
 have ys := iE d
 have yn := st_succ (dU d)
 obtain ⟨m0, m1, m2, m3⟩ := @oN (dU d) (d - st (dU d)) (by omega) (by omega)
 have HY := fun W => uK d W h0 h1
 generalize dU d = y at *
 generalize LW y (d - st y) = m at *
 replace HY := Lib.hid HY
 have M2 := Lib.hid m2; have M3 := Lib.hid m3
 clear ys yn m2 m3
 have HD : ∀ v W, 1 <= v -> v <= 12 -> Calls Tryz.prog 66 #[.int .i64 y, .int .i64 (v + 1), .int .i64 1] W fun e w' => e = .returned (.int .i64 (st y + dW y (v + 1))) /\ W = w' := fun v W h0 h1 => by
  have := IU y (v + 1) 1 W (by omega) (by omega) (by omega) (by omega) (by omega) (by omega)
  rw [show st y + dW y (v + 1) + 1 - 1 = st y + dW y (v + 1) by omega] at this; exact this
 replace HD := Lib.hid HD
 go_enter Tryz.func76, Tryz.ntmps76
 go_wp2_with (go_at_call 75; refine (HY.out _).mono ?_; rintro e w' ⟨rfl, rfl⟩)
 go_loop [4] (fun j => ∃ v : Int, j = .int .i64 v /\ 1 <= v /\ v <= m) (fun j => (m - intOf j).toNat)
 case atStart => exact ⟨1, rfl, by omega, by omega⟩
 case round =>
  obtain ⟨v, rfl, v0, v1⟩ := hrel
  by_cases hlt : v < m
  . have hle : st y + dW y (v + 1) <= d := by
     have := M2.out
     by_cases h : v + 1 = m
     . rw [h]; omega
     . have := @X4 y (v + 1) m (by omega) (by omega) (by omega); have := gI y (v + 1); omega
    have t : decide (st y + dW y (v + 1) <= d) = true := decide_eq_true (by omega)
    have t2 : decide (v < 12) = true := decide_eq_true (by omega)
    clear hle
    go_wp2_with (go_at_call 66; refine (HD.out _ _ (by omega) (by omega)).mono ?_; rintro e w' ⟨rfl, rfl⟩)
    go_round
    case rel => exact ⟨v + 1, rfl, by omega, by omega⟩
    case measure => simp [intOf]; omega
  . have e : v = m := by omega
    subst e
    by_cases h12 : v < 12
    . have t : decide (st y + dW y (v + 1) <= d) = false := decide_eq_false (by have := M3.out; omega)
      have t2 : decide (v < 12) = true := decide_eq_true h12
      go_wp2_with (go_at_call 66; refine (HD.out _ _ (by omega) (by omega)).mono ?_; rintro e w' ⟨rfl, rfl⟩)
      go_ret
      exact ⟨rfl, rfl⟩
    . have e : v = 12 := by omega
      subst e
      go_wp2_with (go_at_call 66; refine (HD.out _ _ (by omega) (by omega)).mono ?_; rintro e w' ⟨rfl, rfl⟩)
      go_ret
      exact ⟨rfl, rfl⟩
theorem xZ (lo hi : Int) (w : World) :
 Calls Tryz.prog 42 #[.int .i64 lo, .int .i64 hi] w fun r w' => r = .returned (rv 0 lo 0 hi) /\ Below w.heap.size w w' := by
 go_enter Tryz.func42, Tryz.ntmps42
 go_wp2
 refine bodyPost_ret (v := rv 0 lo 0 hi) (by simp [results, Tryz.results42, go_sem, rv]) rfl ⟨rfl, ?_⟩
 first | exact ba (Below.refl _ _) _ | exact Below.refl _ _
end Un
end
section
open Go.RowKit
namespace Un
open Cal
theorem P9 (y : Int) (w : World) (h0 : -10000000000000000 <= y) (h1 : y <= 10000000000000000) :
 Calls Tryz.prog 40 #[.int .i64 y, .int .i64 0, .int .i64 0] w fun r w' => r = .returned (rv 0 (st y) 0 (st (y + 1) - 1)) /\ Below w.heap.size w w' := by
 obtain ⟨b0, b1⟩ := oH (y := y) (by omega) (by omega)
 obtain ⟨l0, l1⟩ := OC y
 have E : Hid (st y + 364 + lp y = st (y + 1) - 1) := Lib.hid (by rw [st_succ]; omega)
 go_enter Tryz.func40, Tryz.ntmps40
 go_wp2_with (first | (go_at_call 63; refine (jL _ _ (by omega) (by omega)).mono ?_; rintro e w' ⟨rfl, rfl⟩) | (go_at_call 64; refine (uM _ _).mono ?_; rintro e w' ⟨rfl, rfl⟩))
 refine (xZ _ _ _).mono ?_; rintro _ w1 ⟨rfl, hb1⟩
 unfold rv
 obtain ⟨q0, q1, q2, q3, z0, z1, z2, z3⟩ := fM hb1
 go_wp2_with fail
 refine bodyPost_ret (v := rv 0 (st y) 0 (st y + 364 + lp y)) (by simp [results, Tryz.results40, go_sem, rv, q0, q1, q2, q3]) rfl ⟨by rw [E.out], ?_⟩
 exact ((((bt (ba (Below.refl _ _) _) hb1).setCell (Nat.le_refl _) _).setCell (Nat.le_refl _) _).setCell (Nat.le_refl _) _).setCell (Nat.le_refl _) _
theorem P8 (y m : Int) (w : World) (h0 : -10000000000000000 <= y) (h1 : y <= 10000000000000000) (m0 : 1 <= m) (m1 : m <= 12) :
 Calls Tryz.prog 40 #[.int .i64 y, .int .i64 m, .int .i64 0] w fun r w' => r = .returned (rv 0 (st y + dW y m) 0 (st y + dW y (m + 1) - 1)) /\ Below w.heap.size w w' := by
 obtain ⟨b0, b1⟩ := oH (y := y) (by omega) (by omega)
 have lb := gI y m
 have cb := @sQ y m (by omega) (by omega)
 have E : Hid (st y + dW y m + len y m - 1 = st y + dW y (m + 1) - 1) := Lib.hid (by rw [dY y m m0 m1]; omega)
 have HD : ∀ W, Calls Tryz.prog 66 #[.int .i64 y, .int .i64 m, .int .i64 1] W fun e w' => e = .returned (.int .i64 (st y + dW y m)) /\ W = w' := fun W => by
  have := IU y m 1 W (by omega) (by omega) (by omega) (by omega) (by omega) (by omega)
  rw [show st y + dW y m + 1 - 1 = st y + dW y m by omega] at this; exact this
 replace HD := Lib.hid HD
 have t : (m == 0) = false := by rw [beq_eq_false_iff_ne]; omega
 go_enter Tryz.func40, Tryz.ntmps40
 go_wp2_with (first | (go_at_call 66; refine (HD.out _).mono ?_; rintro e w' ⟨rfl, rfl⟩) | (go_at_call 67; refine (IQ _ _ _ (by omega) (by omega)).mono ?_; rintro e w' ⟨rfl, rfl⟩))
 refine (xZ _ _ _).mono ?_; rintro _ w1 ⟨rfl, hb1⟩
 unfold rv
 obtain ⟨q0, q1, q2, q3, z0, z1, z2, z3⟩ := fM hb1
 go_wp2_with fail
 refine bodyPost_ret (v := rv 0 (st y + dW y m) 0 (st y + dW y m + len y m - 1)) (by simp [results, Tryz.results40, go_sem, rv, q0, q1, q2, q3]) rfl ⟨by rw [E.out], ?_⟩
 exact ((((bt (ba (Below.refl _ _) _) hb1).setCell (Nat.le_refl _) _).setCell (Nat.le_refl _) _).setCell (Nat.le_refl _) _).setCell (Nat.le_refl _) _
theorem ES (d : Int) (w : World) :
 Calls Tryz.prog 47 #[.int .i64 d, .int .i64 3] w fun r w' => r = .returned (.tuple #[rv 0 d 0 d, .int .i64 0]) /\ Below w.heap.size w w' := by
 go_enter Tryz.func47, Tryz.ntmps47
 go_wp2_with fail
 refine (xZ _ _ _).mono ?_; rintro _ w1 ⟨rfl, hb1⟩
 unfold rv
 obtain ⟨q0, q1, q2, q3, z0, z1, z2, z3⟩ := fM hb1
 go_wp2_with fail
 refine bodyPost_ret (v := .tuple #[rv 0 d 0 d, .int .i64 0]) (by simp [results, Tryz.results47, go_sem, rv, q0, q1, q2, q3]) rfl ⟨rfl, ?_⟩
 exact ((((bt (ba (Below.refl _ _) _) hb1).setCell (Nat.le_refl _) _).setCell (Nat.le_refl _) _).setCell (Nat.le_refl _) _).setCell (Nat.le_refl _) _
theorem BP (d p : Int) (w : World) (hp : p < 1 \/ 3 < p) :
 Calls Tryz.prog 47 #[.int .i64 d, .int .i64 p] w fun r w' => r = .returned (.tuple #[rv 0 0 0 0, .int .i64 18]) /\ Below w.heap.size w w' := by
 rcases hp with hp | hp
 . go_enter Tryz.func47, Tryz.ntmps47
   go_wp2_with fail
   refine bodyPost_ret (v := .tuple #[rv 0 0 0 0, .int .i64 18]) (by simp [results, Tryz.results47, go_sem, rv]) rfl ⟨rfl, ?_⟩
   exact ba (Below.refl _ _) _
 . go_enter Tryz.func47, Tryz.ntmps47
   go_wp2_with fail
   refine bodyPost_ret (v := .tuple #[rv 0 0 0 0, .int .i64 18]) (by simp [results, Tryz.results47, go_sem, rv]) rfl ⟨rfl, ?_⟩
   exact ba (Below.refl _ _) _
theorem y7 (d p : Int) (w : World) (hp : p = 1 \/ p = 2) (h0 : -9223372036854775808 <= d) (h1 : d < 9223372036854775808) (hd : inC d = 0) :
 Calls Tryz.prog 47 #[.int .i64 d, .int .i64 p] w fun r w' => r = .returned (.tuple #[rv 0 0 0 0, .int .i64 6]) /\ Below w.heap.size w w' := by
 have HI := fun W => BO d W h0 h1
 rw [hd] at HI
 replace HI := Lib.hid HI
 clear hd
 rcases hp with rfl | rfl
 . go_enter Tryz.func47, Tryz.ntmps47
   go_wp2_with (first | (go_at_call 74; refine (HI.out _).mono ?_; rintro e w' ⟨rfl, rfl⟩))
   refine bodyPost_ret (v := .tuple #[rv 0 0 0 0, .int .i64 6]) (by simp [results, Tryz.results47, go_sem, rv]) rfl ⟨rfl, ?_⟩
   exact ba (Below.refl _ _) _
 . go_enter Tryz.func47, Tryz.ntmps47
   go_wp2_with (first | (go_at_call 74; refine (HI.out _).mono ?_; rintro e w' ⟨rfl, rfl⟩))
   refine bodyPost_ret (v := .tuple #[rv 0 0 0 0, .int .i64 6]) (by simp [results, Tryz.results47, go_sem, rv]) rfl ⟨rfl, ?_⟩
   exact ba (Below.refl _ _) _
theorem EU (d : Int) (w : World) (h0 : -3652425000000000000 <= d) (h1 : d < 3652425000000000366) :
 Calls Tryz.prog 47 #[.int .i64 d, .int .i64 1] w fun r w' => r = .returned (.tuple #[rv 0 (st (dU d)) 0 (st (dU d + 1) - 1), .int .i64 0]) /\ Below w.heap.size w w' := by
 have HI := fun W => BO d W (by omega) (by omega)
 rw [show inC d = 1 from by unfold inC; rw [if_pos ⟨h0, h1⟩]] at HI
 have HY := fun W => uK d W h0 h1
 obtain ⟨y0, y1⟩ := BF.2 ⟨h0, h1⟩
 generalize dU d = y at *
 have HU := fun W => P9 y W y0 y1
 generalize st (y + 1) - 1 = hi at *
 generalize st y = lo at *
 unfold rv at HU ⊢
 replace HI := Lib.hid HI; replace HY := Lib.hid HY; replace HU := Lib.hid HU
 go_enter Tryz.func47, Tryz.ntmps47
 go_wp2_with (first | (go_at_call 74; refine (HI.out _).mono ?_; rintro e w' ⟨rfl, rfl⟩) | (go_at_call 75; refine (HY.out _).mono ?_; rintro e w' ⟨rfl, rfl⟩))
 refine (HU.out _).mono ?_; rintro _ w1 ⟨rfl, hb1⟩
 obtain ⟨q0, q1, q2, q3, z0, z1, z2, z3⟩ := fM hb1
 go_wp2_with fail
 refine bodyPost_ret (v := .tuple #[rv 0 lo 0 hi, .int .i64 0]) (by simp [results, Tryz.results47, go_sem, rv, q0, q1, q2, q3]) rfl ⟨rfl, ?_⟩
 exact ((((bt (ba (Below.refl _ _) _) hb1).setCell (Nat.le_refl _) _).setCell (Nat.le_refl _) _).setCell (Nat.le_refl _) _).setCell (Nat.le_refl _) _
theorem ET (d : Int) (w : World) (h0 : -3652425000000000000 <= d) (h1 : d < 3652425000000000366) :
 Calls Tryz.prog 47 #[.int .i64 d, .int .i64 2] w fun r w' => r = .returned (.tuple #[rv 0 (st (dU d) + dW (dU d) (LW (dU d) (d - st (dU d)))) 0 (st (dU d) + dW (dU d) (LW (dU d) (d - st (dU d)) + 1) - 1), .int .i64 0]) /\ Below w.heap.size w w' := by
 have HI := fun W => BO d W (by omega) (by omega)
 rw [show inC d = 1 from by unfold inC; rw [if_pos ⟨h0, h1⟩]] at HI
 have HY := fun W => uK d W h0 h1
 have HM := fun W => QA d W h0 h1
 obtain ⟨y0, y1⟩ := BF.2 ⟨h0, h1⟩
 have ys := iE d
 have yn := st_succ (dU d)
 obtain ⟨m0, m1, m2, m3⟩ := @oN (dU d) (d - st (dU d)) (by omega) (by omega)
 clear m2 m3 ys yn
 generalize dU d = y at *
 generalize LW y (d - st y) = m at *
 have HU := fun W => P8 y m W y0 y1 m0 m1
 generalize st y + dW y (m + 1) - 1 = hi at *
 generalize st y + dW y m = lo at *
 unfold rv at HU ⊢
 replace HI := Lib.hid HI; replace HY := Lib.hid HY; replace HU := Lib.hid HU; replace HM := Lib.hid HM
 go_enter Tryz.func47, Tryz.ntmps47
 go_wp2_with (first | (go_at_call 74; refine (HI.out _).mono ?_; rintro e w' ⟨rfl, rfl⟩) | (go_at_call 75; refine (HY.out _).mono ?_; rintro e w' ⟨rfl, rfl⟩) | (go_at_call 76; refine (HM.out _).mono ?_; rintro e w' ⟨rfl, rfl⟩))
 refine (HU.out _).mono ?_; rintro _ w1 ⟨rfl, hb1⟩
 obtain ⟨q0, q1, q2, q3, z0, z1, z2, z3⟩ := fM hb1
 go_wp2_with fail
 refine bodyPost_ret (v := .tuple #[rv 0 lo 0 hi, .int .i64 0]) (by simp [results, Tryz.results47, go_sem, rv, q0, q1, q2, q3]) rfl ⟨rfl, ?_⟩
 exact ((((bt (ba (Below.refl _ _) _) hb1).setCell (Nat.le_refl _) _).setCell (Nat.le_refl _) _).setCell (Nat.le_refl _) _).setCell (Nat.le_refl _) _
theorem uN (d p : Int) (w : World) (h0 : -9223372036854775808 <= d) (h1 : d < 9223372036854775808) :
 Calls Tryz.prog 47 #[.int .i64 d, .int .i64 p] w fun r w' => r = .returned (.tuple #[rv 0 (aT p d).1 0 (aT p d).2.1, .int .i64 (aT p d).2.2]) /\ Below w.heap.size w w' := by
 unfold aT
 by_cases hp : p < 1 \/ 3 < p
 . rw [if_pos hp]; exact BP d p w hp
 . rw [if_neg hp]
   unfold oW
   by_cases p3 : p = 3
   . subst p3; rw [if_pos rfl]; exact ES d w
   . rw [if_neg p3]
     by_cases hd : -3652425000000000000 <= d /\ d < 3652425000000000366
     . rw [if_pos (BF.2 hd)]
       obtain rfl | rfl : p = 1 \/ p = 2 := by omega
       . rw [if_pos rfl]; exact EU d w hd.1 hd.2
       . rw [if_neg (by omega)]; exact ET d w hd.1 hd.2
     . rw [if_neg (fun h => hd (BF.1 h))]
       exact y7 d p w (by omega) h0 h1 (by unfold inC; rw [if_neg hd])
end Un
end
section
open Go.RowKit Go.Lib
namespace Bk
open Un (ba bt ri rb aX bP)
theorem aJb {s : ByteArray} (hd : allB dG s = true) (hs : s.size <= 17) (k : Nat) (hk : k <= s.size) : 0 <= pR s k /\ pR s k < 100000000000000000 := by
 have h1 := JM s k
 have h2 := wH hd k (s.size - k)
 rw [show k + (s.size - k) = s.size + 0 by omega, uX] at h2
 have h3 := aCc hd hs
 have : fO s (0 : Nat) = gB s := by unfold fO; rw [show ((0 : Nat) : Int).toNat = 0 from rfl]; unfold p10; simp
 omega
theorem aGD (s : ByteArray) : pR s s.size = gB s := by
 have := uX s 0
 rw [Nat.add_zero] at this
 rw [this]
 unfold fO; rw [show ((0 : Nat) : Int).toNat = 0 from rfl]; unfold p10; simp
theorem UL (s : ByteArray) (w : World) (hs : s.size <= 2) (hd : allB dG s = true) :
 Calls Tryz.prog 293 #[.string s] w fun r w' => r = .returned (.int .i64 (gB s)) /\ Below w.heap.size w w' := by
 obtain ⟨cap, W1, hcv, hC, hB⟩ := KG w s
 have HC := Lib.hid hC
 have HD := Lib.hid hd
 have HP := Lib.hid (fun k hk => aJb hd (by omega) k hk)
 clear hd hC
 go_enter Tryz.func293, Tryz.ntmps293
 go_wp2
 clear hcv
 go_loop [3, 9] (fun n i => ∃ k : Nat, k <= s.size /\ i = .int .i64 k /\ n = .int .i64 (pR s k)) (fun _ i => s.size - (intOf i).toNat)
 case atStart => exact ⟨0, Nat.zero_le _, rfl, by rw [CJ]⟩
 case round =>
  obtain ⟨k, hk, rfl, rfl⟩ := hrel
  have p0 := HP.out k hk
  by_cases hlt : k < s.size
  . have hc := HC.out k hlt
    have hd := SX HD.out k hlt
    have HS := Lib.hid (JO HD.out k hlt)
    have p1 := HP.out (k + 1) (by omega)
    rw [HS.out] at p1
    obtain ⟨d0, d1⟩ := hd
    go_wp2
    go_round
    case rel => exact ⟨k + 1, by omega, by go_num, by rw [HS.out]⟩
    case measure => simp [intOf]; omega
  . obtain rfl : k = s.size := by omega
    go_wp2
    go_ret
    exact ⟨ri (aGD s), hB⟩
def Dt.msk (d : Dt) : Bool := hasB 88 (d.dg ++ d.mo ++ d.da) || decide (0 < d.sig)
theorem QC (d : Dt) (w : World) (hs : d.mo.size <= 1000) (hy : d.dg.size <= 1000) (ha : d.da.size <= 1000) :
 Calls Tryz.prog 38 #[bZ d] w fun r w' => r = .returned (.int .i64 (if d.msk then 1 else 0)) /\ Below w.heap.size w w' := by
 have hD := Dm.new d w 37
 obtain ⟨R, hR⟩ : ∃ R : Int, R = if d.msk then 1 else 0 := ⟨_, rfl⟩
 rw [<- hR]
 have HR : Hid ((∀ k (h : k < (d.dg ++ d.mo ++ d.da).size), ((((d.dg ++ d.mo ++ d.da)[k]'h).toNat : Int)) = 88 -> R = 1) /\ (0 < d.sig -> R = 1) /\ ((∀ k, k < (d.dg ++ d.mo ++ d.da).size -> aZ (d.dg ++ d.mo ++ d.da) k ≠ 88) -> d.sig <= 0 -> R = 0)) := Lib.hid (by
  rw [hR]; unfold Dt.msk
  generalize d.dg ++ d.mo ++ d.da = s
  refine ⟨fun k h e => ?_, fun h => ?_, fun h h2 => ?_⟩
  . rw [(J4 88 s).2 ⟨k, h, by rw [bY s k h]; exact e⟩]; rfl
  . rw [decide_eq_true h]; simp
  . have : hasB 88 s = false := by
     rw [Bool.eq_false_iff]; intro c
     obtain ⟨i, hi, he⟩ := (J4 88 s).1 c
     exact h i hi he
    rw [this, decide_eq_false (by omega)]; rfl)
 clear hR
 unfold bZ
 have e1 : (d.dg ++ d.mo).size = d.dg.size + d.mo.size := by simp
 have e2 : (d.dg ++ d.mo ++ d.da).size = d.dg.size + d.mo.size + d.da.size := by simp
 go_enter Tryz.func38, Tryz.ntmps38
 go_upto_region 1 with (fail)
 generalize World.alloc _ _ = W0 at hD ⊢
 obtain ⟨q0, q1, q2, q3, q4, q5, q6, q7, q8, q9, qB⟩ := id hD
 go_wp2
 generalize d.dg ++ d.mo ++ d.da = s at *
 go_loop [4] (fun i => ∃ k : Nat, k <= s.size /\ i = .int .i64 k /\ ∀ j, j < k -> aZ s j ≠ 88) (fun i => s.size - (intOf i).toNat)
 case atStart => exact ⟨0, Nat.zero_le _, rfl, fun j h => by omega⟩
 case round =>
  obtain ⟨k, hk, rfl, hn⟩ := hrel
  have HN := Lib.hid hn
  clear hn
  by_cases hlt : k < s.size
  . by_cases c : ((s[k]'hlt).toNat : Int) = 88
    . have hv := HR.out.1 k hlt c
      go_wp2
      go_ret
      exact ⟨ri (by first | rfl | exact hv.symm), hD.below⟩
    . go_wp2
      go_round
      case rel => exact ⟨k + 1, by omega, by go_num, fun j hj => by
       by_cases e : j = k
       . subst e; rw [bY s j hlt]; exact c
       . exact HN.out j (by omega)⟩
      case measure => simp [intOf]; omega
  . obtain rfl : k = s.size := by omega
    by_cases c : 0 < d.sig
    . have hv := HR.out.2.1 c
      go_wp2
      go_ret
      exact ⟨ri (by first | rfl | exact hv.symm), hD.below⟩
    . have hv := HR.out.2.2 HN.out (by omega)
      go_wp2
      go_ret
      exact ⟨ri (by first | rfl | exact hv.symm), hD.below⟩
end Bk
end
section
open Go.RowKit Go.Lib
namespace Bk
open Un (ba bt ri rb aX bP)
def kX (y m k : Int) : Int := if m = 0 then Cal.st y else if 12 < m then Cal.st y + Cal.dW y (eH m) else if k = 0 then Cal.st y + Cal.dW y m else Cal.st y + Cal.dW y m + k - 1
def tX (y m k : Int) : Int := if m = 0 then Cal.st (y + 1) - 1 else if 12 < m then Cal.st (iG y m) + Cal.dW (iG y m) (Y4 m + 1) - 1 else if k = 0 then Cal.st y + Cal.dW y (m + 1) - 1 else Cal.st y + Cal.dW y m + k - 1
theorem aN2 (c : Int) : 1 <= eH c /\ eH c <= 12 /\ 3 <= gQ c /\ gQ c <= 6 /\ eH c + gQ c <= 15 := by unfold eH gQ; (repeat' split) <;> omega
theorem mD : (Tryz.prog.info? 42).map (·.size) = some 4 := by kernel_rfl
end Bk
end
section
open Go.RowKit Go.Lib
namespace Bk
open Un (ba bt ri rb aX bP)
def jC (lo hi : Int) : List Value := [.int .i8 0, .int .i64 lo, .int .i8 0, .int .i64 hi]
def Dt.mOf (d : Dt) (m : Int) : Int := if d.mo.size = 0 then 0 else m
def Dt.kOf (d : Dt) (k : Int) : Int := if d.da.size = 0 then 0 else k
theorem aEL (d : Dt) (y m k : Int) (w : World) (hw : qI w) (y0 : -10000000000000000 <= y) (y1 : y <= 10000000000000000)
 (hm : d.mo.size ≠ 0 -> (1 <= m /\ m <= 12) \/ (21 <= m /\ m <= 41 /\ iG y m <= 10000000000000000)) (hk : d.da.size ≠ 0 -> 1 <= k /\ k <= 31) (hmd : d.mo.size = 0 -> d.da.size = 0) :
 Calls Tryz.prog 295 #[bZ d, cvv y m k] w fun r w' => r = .returned (.tuple #[rv (kX y (d.mOf m) (d.kOf k)) (tX y (d.mOf m) (d.kOf k)), .int .i64 0]) /\ Below w.heap.size w w' := by
 have hD : Rw w.heap.size (bW d) w _ := Rw.fresh (Below.refl _ _) (bW d) 37
 have hD2 := Rw.fresh hD.below (aN y m k) 112
 have hD3 := Rw.fresh hD2.below (jC 0 0) 42
 simp only [dM] at hD2 hD3
 have hA : _ /\ _ /\ _ := ⟨(hD.later (ba (Below.refl _ _) (.cells (aN y m k).toArray 112))).later (ba (Below.refl _ _) (.cells (jC 0 0).toArray 42)), hD2.later (ba (Below.refl _ _) (.cells (jC 0 0).toArray 42)), hD3⟩
 clear hD hD2 hD3
 unfold bZ cvv
 unfold bW aN jC at hA
 obtain ⟨LO, hLO⟩ : ∃ x, x = kX y (d.mOf m) (d.kOf k) := ⟨_, rfl⟩
 obtain ⟨HI, hHI⟩ : ∃ x, x = tX y (d.mOf m) (d.kOf k) := ⟨_, rfl⟩
 rw [<- hLO, <- hHI]
 unfold kX Dt.mOf Dt.kOf at hLO
 unfold tX Dt.mOf Dt.kOf at hHI
 have HR : Hid (∀ lo hi w, Calls Tryz.prog 119 #[.int .i64 lo, .int .i64 hi, .int .i64 0] w fun r w' => r = .returned (.tuple #[rv lo hi, .int .i64 0]) /\ Below w.heap.size w w') := Lib.hid (fun lo hi w => Un.yR lo hi 0 w)
 by_cases c0 : d.mo.size = 0
 . have x0 := zW c0
   have cal := fun W hb => Un.lK y W (hw.below (w' := W) hb).cal
   rw [if_pos ⟨y0, y1⟩, if_pos ⟨y0, y1⟩, if_pos ⟨y0, y1⟩] at cal
   have HY := Lib.hid cal
   have E1 : LO = Cal.st y := by rw [hLO, if_pos c0, if_pos rfl]
   have E2 : HI = Cal.st (y + 1) - 1 := by rw [hHI, if_pos c0, if_pos rfl]
   rw [<- E1, <- E2] at HY
   clear cal hLO hHI E1 E2 hm hk hmd hw
   go_enter Tryz.func295, Tryz.ntmps295
   go_upto_region 1 with (fail)
   generalize World.alloc _ _ = W0 at hA ⊢
   have hD := hA.1
   have HE : Hid (Rw (w.heap.size + 1) (aN y m k) w W0) := Lib.hid hA.2.1
   have HF : Hid (Rw (w.heap.size + 1 + 1) [.int .i8 0, .int .i64 0, .int .i8 0, .int .i64 0] w W0) := Lib.hid hA.2.2
   have HB := Lib.hid hD.below
   obtain ⟨q0, q1, q2, q3, q4, q5, q6, q7, q8, q9⟩ := hD.gJ
   have e0 := HE.out.cell 0 _ rfl
   have e1 := HE.out.cell 1 _ rfl
   have e2 := HE.out.cell 2 _ rfl
   clear hD hA
   go_wp2_with (first
    | (go_at_call 141; refine (HY.out _ HB.out).mono ?_; rintro _ w1 ⟨rfl, hb⟩; have HE := Lib.hid (HE.out.later hb); have HF := Lib.hid (HF.out.later hb); have HB := Lib.hid (bt HB.out hb); have e0 := HE.out.cell 0 _ rfl; have e1 := HE.out.cell 1 _ rfl; have e2 := HE.out.cell 2 _ rfl; have f0 := HF.out.cell 0 _ rfl; have f1 := HF.out.cell 1 _ rfl; have f2 := HF.out.cell 2 _ rfl; have f3 := HF.out.cell 3 _ rfl; have z0 := HF.out.free 0 (by simp); have z1 := HF.out.free 1 (by simp); have z2 := HF.out.free 2 (by simp); have z3 := HF.out.free 3 (by simp))
    | (go_at_call 119; refine (HR.out _ _ _).mono ?_; rintro _ w1 ⟨rfl, hb⟩; unfold rv; have HE := Lib.hid (HE.out.later hb); have HF := Lib.hid (HF.out.later hb); have HB := Lib.hid (bt HB.out hb); have e0 := HE.out.cell 0 _ rfl; have e1 := HE.out.cell 1 _ rfl; have e2 := HE.out.cell 2 _ rfl; have f0 := HF.out.cell 0 _ rfl; have f1 := HF.out.cell 1 _ rfl; have f2 := HF.out.cell 2 _ rfl; have f3 := HF.out.cell 3 _ rfl; have z0 := HF.out.free 0 (by simp); have z1 := HF.out.free 1 (by simp); have z2 := HF.out.free 2 (by simp); have z3 := HF.out.free 3 (by simp)))
   have hY := HF.out.cO [.int .i8 0, .int .i64 LO, .int .i8 0, .int .i64 HI] rfl
   exact bodyPost_ret (v := .tuple #[rv LO HI, .int .i64 0]) (eX Tryz.results295 _ rfl rfl (run_loadVar_mid _ _ 0 42 [.int .i8 0, .int .i64 LO, .int .i8 0, .int .i64 HI] _ hY.range Tryz.underlying42 rfl mD)) rfl ⟨rfl, hY.below⟩
 have x0 := yK c0
 rw [if_neg c0] at hLO hHI
 rcases hm c0 with ⟨m0, m1⟩ | ⟨m0, m1, hs⟩
 case inr =>
  have HS := Lib.hid (fun W hb => G7 y m W (hw.below (w' := W) hb) y0 y1 m0 m1 hs)
  have E1 : LO = Cal.st y + Cal.dW y (eH m) := by rw [hLO, if_neg (by omega), if_pos (by omega)]
  have E2 : HI = Cal.st (iG y m) + Cal.dW (iG y m) (Y4 m + 1) - 1 := by rw [hHI, if_neg (by omega), if_pos (by omega)]
  rw [<- E1, <- E2] at HS
  unfold rv at HS
  clear hLO hHI E1 E2 hm hk hmd hw hs HR
  go_enter Tryz.func295, Tryz.ntmps295
  go_upto_region 1 with (fail)
  generalize World.alloc _ _ = W0 at hA ⊢
  have hD := hA.1
  have HE : Hid (Rw (w.heap.size + 1) (aN y m k) w W0) := Lib.hid hA.2.1
  have HF : Hid (Rw (w.heap.size + 1 + 1) [.int .i8 0, .int .i64 0, .int .i8 0, .int .i64 0] w W0) := Lib.hid hA.2.2
  have HB := Lib.hid hD.below
  obtain ⟨q0, q1, q2, q3, q4, q5, q6, q7, q8, q9⟩ := hD.gJ
  have e0 := HE.out.cell 0 _ rfl
  have e1 := HE.out.cell 1 _ rfl
  have e2 := HE.out.cell 2 _ rfl
  clear hD hA
  have t1 : decide (12 < m) = true := decide_eq_true (by omega)
  go_wp2_with (go_at_call 134; refine (HS.out _ HB.out).mono ?_; rintro _ w1 ⟨rfl, hb⟩; have HE := Lib.hid (HE.out.later hb); have HF := Lib.hid (HF.out.later hb); have HB := Lib.hid (bt HB.out hb); have e0 := HE.out.cell 0 _ rfl; have e1 := HE.out.cell 1 _ rfl; have e2 := HE.out.cell 2 _ rfl; have f0 := HF.out.cell 0 _ rfl; have f1 := HF.out.cell 1 _ rfl; have f2 := HF.out.cell 2 _ rfl; have f3 := HF.out.cell 3 _ rfl; have z0 := HF.out.free 0 (by simp); have z1 := HF.out.free 1 (by simp); have z2 := HF.out.free 2 (by simp); have z3 := HF.out.free 3 (by simp))
  have hY := HF.out.cO [.int .i8 0, .int .i64 LO, .int .i8 0, .int .i64 HI] rfl
  exact bodyPost_ret (v := .tuple #[rv LO HI, .int .i64 0]) (eX Tryz.results295 _ rfl rfl (run_loadVar_mid _ _ 0 42 [.int .i8 0, .int .i64 LO, .int .i8 0, .int .i64 HI] _ hY.range Tryz.underlying42 rfl mD)) rfl ⟨rfl, hY.below⟩
 have hq : (12 * y + m - 1) / 12 = y /\ (12 * y + m - 1) % 12 = m - 1 := by omega
 have i0 : -9223372036854775808 <= 12 * y + m - 1 := by omega
 have i1 : 12 * y + m - 1 < 9223372036854775808 := by omega
 have cal := fun W hb => Un.kN (12 * y + m - 1) W (hw.below (w' := W) hb).cal i0 i1
 rw [show Un.uV (12 * y + m - 1) = (Cal.st y + Cal.dW y m, Cal.st y + Cal.dW y (m + 1) - 1, 0) by
  unfold Un.uV; rw [hq.1, hq.2, if_pos ⟨y0, y1⟩, show m - 1 + 1 = m by omega, show m - 1 + 2 = m + 1 by omega]] at cal
 have HM := Lib.hid cal
 have sb := Un.oH (y := y) (by omega) (by omega)
 have cb := @Cal.sQ y m (by omega) (by omega)
 rw [if_neg (by omega), if_neg (by omega)] at hLO hHI
 clear cal hq
 by_cases c1 : d.da.size = 0
 . have x1 := zW c1
   rw [if_pos c1, if_pos rfl] at hLO hHI
   have E1 := hLO
   have E2 := hHI
   rw [<- E1, <- E2] at HM
   clear hLO hHI E1 E2 hm hk hmd hw
   go_enter Tryz.func295, Tryz.ntmps295
   go_upto_region 1 with (fail)
   generalize World.alloc _ _ = W0 at hA ⊢
   have hD := hA.1
   have HE : Hid (Rw (w.heap.size + 1) (aN y m k) w W0) := Lib.hid hA.2.1
   have HF : Hid (Rw (w.heap.size + 1 + 1) [.int .i8 0, .int .i64 0, .int .i8 0, .int .i64 0] w W0) := Lib.hid hA.2.2
   have HB := Lib.hid hD.below
   obtain ⟨q0, q1, q2, q3, q4, q5, q6, q7, q8, q9⟩ := hD.gJ
   have e0 := HE.out.cell 0 _ rfl
   have e1 := HE.out.cell 1 _ rfl
   have e2 := HE.out.cell 2 _ rfl
   clear hD hA
   go_wp2_with (first
    | (go_at_call 144; refine (HM.out _ HB.out).mono ?_; rintro _ w1 ⟨rfl, hb⟩; have HE := Lib.hid (HE.out.later hb); have HF := Lib.hid (HF.out.later hb); have HB := Lib.hid (bt HB.out hb); have e0 := HE.out.cell 0 _ rfl; have e1 := HE.out.cell 1 _ rfl; have e2 := HE.out.cell 2 _ rfl; have f0 := HF.out.cell 0 _ rfl; have f1 := HF.out.cell 1 _ rfl; have f2 := HF.out.cell 2 _ rfl; have f3 := HF.out.cell 3 _ rfl; have z0 := HF.out.free 0 (by simp); have z1 := HF.out.free 1 (by simp); have z2 := HF.out.free 2 (by simp); have z3 := HF.out.free 3 (by simp))
    | (go_at_call 119; refine (HR.out _ _ _).mono ?_; rintro _ w1 ⟨rfl, hb⟩; unfold rv; have HE := Lib.hid (HE.out.later hb); have HF := Lib.hid (HF.out.later hb); have HB := Lib.hid (bt HB.out hb); have e0 := HE.out.cell 0 _ rfl; have e1 := HE.out.cell 1 _ rfl; have e2 := HE.out.cell 2 _ rfl; have f0 := HF.out.cell 0 _ rfl; have f1 := HF.out.cell 1 _ rfl; have f2 := HF.out.cell 2 _ rfl; have f3 := HF.out.cell 3 _ rfl; have z0 := HF.out.free 0 (by simp); have z1 := HF.out.free 1 (by simp); have z2 := HF.out.free 2 (by simp); have z3 := HF.out.free 3 (by simp)))
   have hY := HF.out.cO [.int .i8 0, .int .i64 LO, .int .i8 0, .int .i64 HI] rfl
   exact bodyPost_ret (v := .tuple #[rv LO HI, .int .i64 0]) (eX Tryz.results295 _ rfl rfl (run_loadVar_mid _ _ 0 42 [.int .i8 0, .int .i64 LO, .int .i8 0, .int .i64 HI] _ hY.range Tryz.underlying42 rfl mD)) rfl ⟨rfl, hY.below⟩
 . have x1 := yK c1
   obtain ⟨k0, k1⟩ := hk c1
   rw [if_neg c1, if_neg (by omega)] at hLO hHI
   have E1 : LO = Cal.st y + Cal.dW y m + k - 1 := hLO
   have E2 : HI = Cal.st y + Cal.dW y m + k - 1 := hHI
   have E3 : HI = LO := by omega
   subst E3
   clear hLO hHI hm hk hmd hw E2
   have lb : -9200000000000001000 <= Cal.st y + Cal.dW y m /\ Cal.st y + Cal.dW y m <= 9200000000000001000 := by omega
   obtain ⟨lb0, lb1⟩ := lb
   clear sb cb
   generalize Cal.st y + Cal.dW y m = lo at *
   subst E1
   go_enter Tryz.func295, Tryz.ntmps295
   go_upto_region 1 with (fail)
   generalize World.alloc _ _ = W0 at hA ⊢
   have hD := hA.1
   have HE : Hid (Rw (w.heap.size + 1) (aN y m k) w W0) := Lib.hid hA.2.1
   have HF : Hid (Rw (w.heap.size + 1 + 1) [.int .i8 0, .int .i64 0, .int .i8 0, .int .i64 0] w W0) := Lib.hid hA.2.2
   have HB := Lib.hid hD.below
   obtain ⟨q0, q1, q2, q3, q4, q5, q6, q7, q8, q9⟩ := hD.gJ
   have e0 := HE.out.cell 0 _ rfl
   have e1 := HE.out.cell 1 _ rfl
   have e2 := HE.out.cell 2 _ rfl
   clear hD hA
   go_wp2_with (first
    | (go_at_call 144; refine (HM.out _ HB.out).mono ?_; rintro _ w1 ⟨rfl, hb⟩; have HE := Lib.hid (HE.out.later hb); have HF := Lib.hid (HF.out.later hb); have HB := Lib.hid (bt HB.out hb); have e0 := HE.out.cell 0 _ rfl; have e1 := HE.out.cell 1 _ rfl; have e2 := HE.out.cell 2 _ rfl; have f0 := HF.out.cell 0 _ rfl; have f1 := HF.out.cell 1 _ rfl; have f2 := HF.out.cell 2 _ rfl; have f3 := HF.out.cell 3 _ rfl; have z0 := HF.out.free 0 (by simp); have z1 := HF.out.free 1 (by simp); have z2 := HF.out.free 2 (by simp); have z3 := HF.out.free 3 (by simp))
    | (go_at_call 119; refine (HR.out _ _ _).mono ?_; rintro _ w1 ⟨rfl, hb⟩; unfold rv; have HE := Lib.hid (HE.out.later hb); have HF := Lib.hid (HF.out.later hb); have HB := Lib.hid (bt HB.out hb); have e0 := HE.out.cell 0 _ rfl; have e1 := HE.out.cell 1 _ rfl; have e2 := HE.out.cell 2 _ rfl; have f0 := HF.out.cell 0 _ rfl; have f1 := HF.out.cell 1 _ rfl; have f2 := HF.out.cell 2 _ rfl; have f3 := HF.out.cell 3 _ rfl; have z0 := HF.out.free 0 (by simp); have z1 := HF.out.free 1 (by simp); have z2 := HF.out.free 2 (by simp); have z3 := HF.out.free 3 (by simp)))
   have hY := HF.out.cO [.int .i8 0, .int .i64 (lo + k - 1), .int .i8 0, .int .i64 (lo + k - 1)] rfl
   exact bodyPost_ret (v := .tuple #[rv (lo + k - 1) (lo + k - 1), .int .i64 0]) (eX Tryz.results295 _ rfl rfl (run_loadVar_mid _ _ 0 42 [.int .i8 0, .int .i64 (lo + k - 1), .int .i8 0, .int .i64 (lo + k - 1)] _ hY.range Tryz.underlying42 rfl mD)) rfl ⟨rfl, hY.below⟩
end Bk
end
section
open Go.RowKit Go.Lib
namespace Bk
open Un (ba bt ri rb aX bP)
theorem aCr {s : ByteArray} {n : Int} (h : jJ s n = true) (hx : hasB 88 s = false) (n0 : 0 <= n) (n1 : n <= 99) : s.size = 2 /\ allB dG s = true /\ gB s = n := by
 unfold jJ at h
 simp at h
 obtain ⟨h2, h0, h1⟩ := h
 have nx : ∀ i, i < s.size -> aZ s i ≠ 88 := fun i hi c => by rw [(J4 88 s).2 ⟨i, hi, c⟩] at hx; cases hx
 have x0 := nx 0 (by omega); have x1 := nx 1 (by omega)
 have b0 : aZ s 0 = 48 + n / 10 := by omega
 have b1 : aZ s 1 = 48 + n % 10 := by omega
 refine ⟨h2, ?_, ?_⟩
 . rw [mG]; intro i hi
   obtain rfl | rfl : i = 0 \/ i = 1 := by omega
   . unfold dG; exact decide_eq_true (by omega)
   . unfold dG; exact decide_eq_true (by omega)
 . obtain ⟨a, b, e, e0, e1⟩ := tY h2
   unfold gB; rw [e]; simp only [dec]; omega
theorem G6 {s : ByteArray} (h : fZ s ≠ 0) : s.size = 2 /\ allB dG s = true /\ gB s = fZ s := by
 unfold fZ at h ⊢
 split at h
 . rename_i g
   rw [if_pos g]
   refine ⟨g.1, ?_, ?_⟩
   . rw [mG]; intro i hi
     obtain rfl | rfl : i = 0 \/ i = 1 := by omega
     . unfold dG; exact decide_eq_true (by omega)
     . unfold dG; exact decide_eq_true (by omega)
   . obtain ⟨a, b, e, e0, e1⟩ := tY g.1
     unfold gB; rw [e]; simp only [dec]; omega
 . exact absurd rfl h
theorem aEb {s : ByteArray} (h : s.size = 0) : gB s = 0 /\ allB dG s = true := by
 have e : s.data.toList = [] := List.length_eq_zero_iff.1 (by simpa using h)
 unfold gB allB; rw [e]; exact ⟨rfl, rfl⟩
theorem aLZ {d : Dt} (h : d.form = 0) (hx : hasB 88 d.mo = false) : d.mo.size <= 2 /\ allB dG d.mo = true /\ d.ms = [gB d.mo] /\ (d.mo.size ≠ 0 -> (1 <= gB d.mo /\ gB d.mo <= 12 /\ d.aH = 0) \/ (21 <= gB d.mo /\ gB d.mo <= 41 /\ d.aH = gB d.mo)) := by
 have hbd : d.aH = 0 \/ (21 <= d.aH /\ d.aH <= 41) := jZ d.mo
 rcases kF h with ⟨h1, h2, h3⟩ | ⟨h1, h2, h3, h4⟩ | ⟨h1, h2, h3⟩
 . obtain ⟨a, b, c⟩ := G6 h1
   change gB d.mo = d.aH at c
   refine ⟨by omega, b, by rw [Dt.nU h1, c], fun _ => .inr (by omega)⟩
 . obtain ⟨n, n1, n2, ha⟩ := (BL _ _).1 h3
   obtain ⟨a, b, c⟩ := aCr ha hx (by omega) (by omega)
   refine ⟨by omega, b, ?_, fun _ => .inl (by omega)⟩
   rw [Dt.rQ h1 h2]
   have hs := nJ d.mo 12
   have hall : ∀ u, u ∈ dV d.mo 12 -> u = gB d.mo := fun u hu => by
    obtain ⟨u1, u2, u3⟩ := (iH _ _ _).1 hu
    exact (aCr u3 hx (by omega) (by omega)).2.2.symm
   have hin : gB d.mo ∈ dV d.mo 12 := (iH _ _ _).2 ⟨by omega, by omega, by rw [c]; exact ha⟩
   generalize dV d.mo 12 = l at *
   match l, hs, hall, hin with
   | [], _, _, hin => cases hin
   | [u], _, hall, _ => rw [hall u (List.mem_cons_self ..)]
   | u :: v :: r, hs, hall, _ =>
    have e1 := hall u (List.mem_cons_self ..)
    have e2 := hall v (List.mem_cons_of_mem _ (List.mem_cons_self ..))
    have := (List.pairwise_cons.1 hs).1 v (List.mem_cons_self ..)
    omega
 . obtain ⟨e1, e2⟩ := aEb h2
   refine ⟨by omega, e2, by rw [Dt.zI h1 h2, e1], fun c => absurd h2 c⟩
theorem XU {d : Dt} (h : d.err = 0) : d.form = 0 := by
 by_cases c : d.form = 0
 . exact c
 . rw [vP c] at h; exact absurd h c
theorem aMC {d : Dt} {y m : Int} (hk : d.PK = true) (hf : d.far = false) (hy : d.In y) (hm : m = d.aH) (hs : d.aH ≠ 0) : iG y m <= 10000000000000000 := by
 have hb := Dt.tH hk hy
 unfold iG
 split
 . omega
 . rename_i hc
   have hbd : d.aH = 0 \/ (21 <= d.aH /\ d.aH <= 41) := jZ d.mo
   have hw : d.aH = 24 \/ d.aH = 28 \/ d.aH = 30 := by
    rw [hm] at hc
    generalize d.aH = z at *
    have hz : z = 21 \/ z = 22 \/ z = 23 \/ z = 24 \/ z = 25 \/ z = 26 \/ z = 27 \/ z = 28 \/ z = 29 \/ z = 30 \/ z = 31 \/ z = 32 \/ z = 33 \/ z = 34 \/ z = 35 \/ z = 36 \/ z = 37 \/ z = 38 \/ z = 39 \/ z = 40 \/ z = 41 := by omega
    rcases hz with rfl | rfl | rfl | rfl | rfl | rfl | rfl | rfl | rfl | rfl | rfl | rfl | rfl | rfl | rfl | rfl | rfl | rfl | rfl | rfl | rfl <;> first | omega | (exfalso; revert hc; decide)
   have e1 : (decide (d.aH = 24) || (decide (d.aH = 28) || decide (d.aH = 30))) = true := by rcases hw with h | h | h <;> simp [h]
   unfold Dt.far at hf
   rw [e1, Bool.true_and] at hf
   cases hmk : d.mask
   . rw [hmk] at hf
     simp at hf
     unfold Dt.In at hy
     rw [hmk] at hy
     simp at hy
     cases hn : d.neg
     . rw [hn] at hy; simp at hy
       by_cases c : d.mag = 10000000000000000
       . have := hf c; rw [hn] at this; cases this
       . omega
     . rw [hn] at hy; simp at hy
       have := lZ d.dg d.ex
       change 0 <= d.mag at this
       omega
   . unfold Dt.In at hy
     rw [hmk, if_pos rfl] at hy
     split at hy
     . have := hy.1.1; have := hy.1.2.1; omega
     . have := hy.2.1; omega
end Bk
end
section
open Go.RowKit Go.Lib
namespace Bk
open Un (ba bt ri rb aX bP)
def Dt.PG (d : Dt) (y m k lo hi er : Int) : Prop := ((d.err ≠ 0 /\ er = d.err /\ lo = 0 /\ hi = 0) \/ (d.err = 0 /\ ¬ (d.sig <= 0 /\ d.Has y m k) /\ er = 1 /\ lo = 0 /\ hi = 0) \/
 (d.err = 0 /\ d.sig <= 0 /\ d.Has y m k /\ er = 0 /\ lo = kX y (d.mOf m) (d.kOf k) /\ hi = tX y (d.mOf m) (d.kOf k)))
def aEA (d : Dt) (y m k : Int) (w : World) (e : Ending) (w' : World) : Prop := ∃ lo hi er : Int, d.PG y m k lo hi er /\
 e = .returned (.tuple #[rv lo hi, .int .i64 er]) /\ Below w.heap.size w w'
theorem CP {d : Dt} {y m k : Int} (h : d.Has y m k) : -10000000000000000 <= y /\ y <= 10000000000000000 /\ (d.mo.size ≠ 0 -> (1 <= m /\ m <= 12) \/ (21 <= m /\ m <= 41 /\ iG y m <= 10000000000000000)) /\ (d.da.size ≠ 0 -> 1 <= k /\ k <= 31) /\ (d.mo.size = 0 -> d.da.size = 0) := by
 obtain ⟨hc, n, j, ⟨hin, hms, hds, hlen⟩, hm, hk⟩ := h
 have hf := lI hc
 obtain ⟨hyk, _, aJm⟩ := Dt.gK (Dt.jO hf).1
 have hb := Dt.tH hyk hin
 have hbd : d.aH = 0 \/ (21 <= d.aH /\ d.aH <= 41) := jZ d.mo
 refine ⟨hb.1, hb.2, fun h0 => ?_, fun h0 => ?_, fmd hf⟩
 . obtain rfl := hm.resolve_left h0
   by_cases hs : d.aH = 0
   . rw [Dt.rQ hs h0, iH] at hms
     exact .inl (by omega)
   . rw [Dt.nU hs, List.mem_singleton] at hms
     exact .inr ⟨by omega, by omega, aMC hyk aJm hin hms hs⟩
 . obtain rfl := hk.resolve_left h0
   rw [Dt.SV h0, iH] at hds
   omega
theorem UM (d : Dt) (y m k : Int) (w : World) (hk : qI w) (hs : d.mo.size <= 1000) (hy : d.dg.size <= 1000) (m0 : 0 <= d.m0) (m1 : 0 <= d.m1) (m2 : 0 <= d.m2)
 (y0 : -9223372036854775808 <= y) (y1 : y < 9223372036854775808) :
 Calls Tryz.prog 290 #[bZ d, cvv y m k] w (aEA d y m k w) := by
 have hD : Rw w.heap.size (bW d) w _ := Rw.fresh (Below.refl _ _) (bW d) 37
 have hD2 := Rw.fresh hD.below (aN y m k) 112
 have hD3 := Rw.fresh hD2.below (jC 0 0) 42
 simp only [dM] at hD2 hD3
 have hA : _ /\ _ /\ _ := ⟨(hD.later (ba (Below.refl _ _) (.cells (aN y m k).toArray 112))).later (ba (Below.refl _ _) (.cells (jC 0 0).toArray 42)), hD2.later (ba (Below.refl _ _) (.cells (jC 0 0).toArray 42)), hD3⟩
 clear hD hD2 hD3
 have HC := Lib.hid (fun W hb => sJ d W (hk.below (w' := W) hb) hs hy m0 m1 m2)
 have HH := Lib.hid (fun W hb => aHa d y m k W (hk.below (w' := W) hb) hs hy m0 m1 m2 y0 y1)
 have HU := Lib.hid (fun (h : d.Has y m k) W hb => aEL d y m k W (hk.below (w' := W) hb) (CP h).1 (CP h).2.1 (CP h).2.2.1 (CP h).2.2.2.1 (CP h).2.2.2.2)
 rw [sO] at HC HH HU
 unfold cvv at HH HU
 clear hk hs hy m0 m1 m2
 unfold bZ cvv
 unfold bW aN jC at hA
 by_cases c : d.err = 0
 case neg =>
  have HQ : Hid (d.PG y m k 0 0 d.err) := Lib.hid (.inl ⟨c, rfl, rfl, rfl⟩)
  generalize d.err = er at *
  clear HH HU
  go_enter Tryz.func290, Tryz.ntmps290
  go_upto_region 1 with (fail)
  generalize World.alloc _ _ = W0 at hA ⊢
  have HD : Hid (Rw w.heap.size (bW d) w W0) := Lib.hid hA.1
  have HE : Hid (Rw (w.heap.size + 1) (aN y m k) w W0) := Lib.hid hA.2.1
  have HF : Hid (Rw (w.heap.size + 1 + 1) (jC 0 0) w W0) := Lib.hid hA.2.2
  have hR := HD.out.range
  clear hA
  go_wp2_with (first
   | (refine wpList_load_mid rfl 37 (.tmp 2) rfl w.heap.size 0 rfl (bW d) _ hR Tryz.underlying37 rfl dA ?_)
   | (go_at_call 51; refine (HC.out _ HD.out.below).mono ?_; rintro _ w1 ⟨rfl, hb⟩; have hX := HF.out.later hb; have f0 := hX.cell 0 _ rfl; have f1 := hX.cell 1 _ rfl; have f2 := hX.cell 2 _ rfl; have f3 := hX.cell 3 _ rfl; have z0 := hX.free 0 (by unfold jC; simp); have z1 := hX.free 1 (by unfold jC; simp); have z2 := hX.free 2 (by unfold jC; simp); have z3 := hX.free 3 (by unfold jC; simp)))
  have hY := hX.cO (jC 0 0) rfl
  exact bodyPost_ret (v := .tuple #[rv 0 0, .int .i64 er]) (eX Tryz.results290 _ rfl rfl (run_loadVar_mid _ _ 0 42 (jC 0 0) _ hY.range Tryz.underlying42 rfl mD)) rfl ⟨_, _, _, HQ.out, rfl, hY.below⟩
 rw [c] at HC
 by_cases hg : d.sig <= 0
 case neg =>
  have HQ : Hid (d.PG y m k 0 0 1) := Lib.hid (.inr (.inl ⟨c, fun h => hg h.1, rfl, rfl, rfl⟩))
  clear HH HU c
  have hg1 : 0 < d.sig := by omega
  clear hg
  go_enter Tryz.func290, Tryz.ntmps290
  go_upto_region 1 with (fail)
  generalize World.alloc _ _ = W0 at hA ⊢
  have HD : Hid (Rw w.heap.size (bW d) w W0) := Lib.hid hA.1
  have HE : Hid (Rw (w.heap.size + 1) (aN y m k) w W0) := Lib.hid hA.2.1
  have HF : Hid (Rw (w.heap.size + 1 + 1) (jC 0 0) w W0) := Lib.hid hA.2.2
  have hR := HD.out.range
  clear hA
  go_wp2_with (first
   | (refine wpList_load_mid rfl 37 (.tmp 2) rfl w.heap.size 0 rfl (bW d) _ hR Tryz.underlying37 rfl dA ?_)
   | (go_at_call 51; refine (HC.out _ HD.out.below).mono ?_; rintro _ w1 ⟨rfl, hb⟩; have hX := HF.out.later hb; have f0 := hX.cell 0 _ rfl; have f1 := hX.cell 1 _ rfl; have f2 := hX.cell 2 _ rfl; have f3 := hX.cell 3 _ rfl; have z0 := hX.free 0 (by unfold jC; simp); have z1 := hX.free 1 (by unfold jC; simp); have z2 := hX.free 2 (by unfold jC; simp); have z3 := hX.free 3 (by unfold jC; simp); replace HD := Lib.hid (HD.out.later hb); replace HE := Lib.hid (HE.out.later hb); replace HF := Lib.hid (HF.out.later hb); clear hR hb; have hR := HD.out.range; obtain ⟨q0, q1, q2, q3, q4, q5, q6, q7, q8, q9⟩ := HD.out.gJ; have e0 := HE.out.cell 0 _ rfl; have e1 := HE.out.cell 1 _ rfl; have e2 := HE.out.cell 2 _ rfl))
  have hY := hX.cO (jC 0 0) rfl
  exact bodyPost_ret (v := .tuple #[rv 0 0, .int .i64 1]) (eX Tryz.results290 _ rfl rfl (run_loadVar_mid _ _ 0 42 (jC 0 0) _ hY.range Tryz.underlying42 rfl mD)) rfl ⟨_, _, _, HQ.out, rfl, hY.below⟩
 have hg1 : ¬ 0 < d.sig := by omega
 have HCc := Lib.hid c
 have HG := Lib.hid hg
 clear c hg
 by_cases hh : d.Has y m k
 case neg =>
  have HB2 : Hid (∀ W, Below w.heap.size w W -> Calls Tryz.prog 294 #[.agg (bW d).toArray, .agg #[.int .i64 y, .int .i64 m, .int .i64 k]] W fun r w' => r = .returned (.bool false) /\ Below W.heap.size W w') := Lib.hid (fun W hb => by
   refine (HH.out W hb).mono ?_; rintro e w' ⟨b, hb0, rfl, hb⟩
   cases b
   . exact ⟨rfl, hb⟩
   . exact absurd (hb0.1 rfl) hh)
  have HQ : Hid (d.PG y m k 0 0 1) := Lib.hid (.inr (.inl ⟨HCc.out, fun h => hh h.2, rfl, rfl, rfl⟩))
  clear HH HU hh
  go_enter Tryz.func290, Tryz.ntmps290
  go_upto_region 1 with (fail)
  generalize World.alloc _ _ = W0 at hA ⊢
  have HD : Hid (Rw w.heap.size (bW d) w W0) := Lib.hid hA.1
  have HE : Hid (Rw (w.heap.size + 1) (aN y m k) w W0) := Lib.hid hA.2.1
  have HF : Hid (Rw (w.heap.size + 1 + 1) (jC 0 0) w W0) := Lib.hid hA.2.2
  have hR := HD.out.range
  clear hA
  go_wp2_with (first
   | (refine wpList_load_mid rfl 37 (.tmp 2) rfl w.heap.size 0 rfl (bW d) _ hR Tryz.underlying37 rfl dA ?_)
   | (refine wpList_load_mid rfl 112 (.tmp 3) rfl (w.heap.size + 1) 0 rfl (aN y m k) _ HE.out.range Tryz.underlying112 rfl kE ?_)
   | (go_at_call 51; refine (HC.out _ HD.out.below).mono ?_; rintro _ w1 ⟨rfl, hb⟩; replace HD := Lib.hid (HD.out.later hb); replace HE := Lib.hid (HE.out.later hb); replace HF := Lib.hid (HF.out.later hb); clear hR hb; have hR := HD.out.range; obtain ⟨q0, q1, q2, q3, q4, q5, q6, q7, q8, q9⟩ := HD.out.gJ; have e0 := HE.out.cell 0 _ rfl; have e1 := HE.out.cell 1 _ rfl; have e2 := HE.out.cell 2 _ rfl)
   | (go_at_call 294; refine (HB2.out _ HD.out.below).mono ?_; rintro _ w2 ⟨rfl, hb⟩; replace HD := Lib.hid (HD.out.later hb); replace HE := Lib.hid (HE.out.later hb); replace HF := Lib.hid (HF.out.later hb); clear hR hb; have hR := HD.out.range; obtain ⟨q0, q1, q2, q3, q4, q5, q6, q7, q8, q9⟩ := HD.out.gJ; have e0 := HE.out.cell 0 _ rfl; have e1 := HE.out.cell 1 _ rfl; have e2 := HE.out.cell 2 _ rfl; have hX := HF.out; have f0 := hX.cell 0 _ rfl; have f1 := hX.cell 1 _ rfl; have f2 := hX.cell 2 _ rfl; have f3 := hX.cell 3 _ rfl; have z0 := hX.free 0 (by unfold jC; simp); have z1 := hX.free 1 (by unfold jC; simp); have z2 := hX.free 2 (by unfold jC; simp); have z3 := hX.free 3 (by unfold jC; simp)))
  have hY := hX.cO (jC 0 0) rfl
  exact bodyPost_ret (v := .tuple #[rv 0 0, .int .i64 1]) (eX Tryz.results290 _ rfl rfl (run_loadVar_mid _ _ 0 42 (jC 0 0) _ hY.range Tryz.underlying42 rfl mD)) rfl ⟨_, _, _, HQ.out, rfl, hY.below⟩
 case pos =>
  have HB2 : Hid (∀ W, Below w.heap.size w W -> Calls Tryz.prog 294 #[.agg (bW d).toArray, .agg #[.int .i64 y, .int .i64 m, .int .i64 k]] W fun r w' => r = .returned (.bool true) /\ Below W.heap.size W w') := Lib.hid (fun W hb => by
   refine (HH.out W hb).mono ?_; rintro e w' ⟨b, hb0, rfl, hb⟩
   cases b
   . exact absurd (hb0.2 hh) (by decide)
   . exact ⟨rfl, hb⟩)
  have HU2 := Lib.hid (fun W hb => HU.out hh W hb)
  have HQ : Hid (d.PG y m k (kX y (d.mOf m) (d.kOf k)) (tX y (d.mOf m) (d.kOf k)) 0) := Lib.hid (.inr (.inr ⟨HCc.out, HG.out, hh, rfl, rfl, rfl⟩))
  clear HU HH hh
  generalize kX y (d.mOf m) (d.kOf k) = lo at *
  generalize tX y (d.mOf m) (d.kOf k) = hi at *
  unfold rv at HU2
  go_enter Tryz.func290, Tryz.ntmps290
  go_upto_region 1 with (fail)
  generalize World.alloc _ _ = W0 at hA ⊢
  have HD : Hid (Rw w.heap.size (bW d) w W0) := Lib.hid hA.1
  have HE : Hid (Rw (w.heap.size + 1) (aN y m k) w W0) := Lib.hid hA.2.1
  have HF : Hid (Rw (w.heap.size + 1 + 1) (jC 0 0) w W0) := Lib.hid hA.2.2
  have hR := HD.out.range
  clear hA
  go_wp2_with (first
   | (refine wpList_load_mid rfl 37 (.tmp 2) rfl w.heap.size 0 rfl (bW d) _ hR Tryz.underlying37 rfl dA ?_)
   | (refine wpList_load_mid rfl 112 (.tmp 3) rfl (w.heap.size + 1) 0 rfl (aN y m k) _ HE.out.range Tryz.underlying112 rfl kE ?_)
   | (go_at_call 51; refine (HC.out _ HD.out.below).mono ?_; rintro _ w1 ⟨rfl, hb⟩; replace HD := Lib.hid (HD.out.later hb); replace HE := Lib.hid (HE.out.later hb); replace HF := Lib.hid (HF.out.later hb); clear hR hb; have hR := HD.out.range; obtain ⟨q0, q1, q2, q3, q4, q5, q6, q7, q8, q9⟩ := HD.out.gJ; have e0 := HE.out.cell 0 _ rfl; have e1 := HE.out.cell 1 _ rfl; have e2 := HE.out.cell 2 _ rfl)
   | (go_at_call 294; refine (HB2.out _ HD.out.below).mono ?_; rintro _ w2 ⟨rfl, hb⟩; replace HD := Lib.hid (HD.out.later hb); replace HE := Lib.hid (HE.out.later hb); replace HF := Lib.hid (HF.out.later hb); clear hR hb; have hR := HD.out.range; obtain ⟨q0, q1, q2, q3, q4, q5, q6, q7, q8, q9⟩ := HD.out.gJ; have e0 := HE.out.cell 0 _ rfl; have e1 := HE.out.cell 1 _ rfl; have e2 := HE.out.cell 2 _ rfl)
   | (go_at_call 295; refine (HU2.out _ HD.out.below).mono ?_; rintro _ w1 ⟨rfl, hb⟩; have hX := HF.out.later hb; have f0 := hX.cell 0 _ rfl; have f1 := hX.cell 1 _ rfl; have f2 := hX.cell 2 _ rfl; have f3 := hX.cell 3 _ rfl; have z0 := hX.free 0 (by unfold jC; simp); have z1 := hX.free 1 (by unfold jC; simp); have z2 := hX.free 2 (by unfold jC; simp); have z3 := hX.free 3 (by unfold jC; simp)))
  have hY := hX.cO (jC lo hi) rfl
  exact bodyPost_ret (v := .tuple #[rv lo hi, .int .i64 0]) (eX Tryz.results290 _ rfl rfl (run_loadVar_mid _ _ 0 42 (jC lo hi) _ hY.range Tryz.underlying42 rfl mD)) rfl ⟨_, _, _, HQ.out, rfl, hY.below⟩
def Dt.prec (d : Dt) : Int := if d.da.size ≠ 0 then 3 else if d.mo.size = 0 then 1 else if d.aH ≠ 0 then 0 else 2
theorem aJ8 {s : ByteArray} (h : allB dG s = true) : hasB 88 s = false := (kT (vS h)).2 h
theorem aCI (d : Dt) (w : World) (hk : qI w) (hs : d.mo.size <= 1000) (hy : d.dg.size <= 1000) (m0 : 0 <= d.m0) (m1 : 0 <= d.m1) (m2 : 0 <= d.m2) :
 Calls Tryz.prog 288 #[bZ d] w fun r w' => r = .returned (.tuple #[.int .u8 (if d.err = 0 then d.prec else 0), .int .i64 d.err]) /\ Below w.heap.size w w' := by
 have hD : Rw w.heap.size (bW d) w _ := Rw.fresh (Below.refl _ _) (bW d) 37
 have HC := Lib.hid (fun W hb => sJ d W (hk.below (w' := W) hb) hs hy m0 m1 m2)
 rw [sO] at HC
 obtain ⟨R, hR⟩ : ∃ R, R = if d.err = 0 then d.prec else 0 := ⟨_, rfl⟩
 rw [<- hR]
 unfold Dt.prec at hR
 unfold bZ
 unfold bW at hD
 by_cases c : d.err = 0
 case neg =>
  rw [if_neg c] at hR
  clear hk hs hy m0 m1 m2
  generalize d.err = er at *
  subst hR
  go_enter Tryz.func288, Tryz.ntmps288
  go_upto_region 1 with (fail)
  generalize World.alloc _ _ = W0 at hD ⊢
  have HD : Hid (Rw w.heap.size (bW d) w W0) := Lib.hid hD
  clear hD
  have hR := HD.out.range
  go_wp2_with (first
   | (refine wpList_load_mid rfl 37 (.tmp 1) rfl w.heap.size 0 rfl (bW d) _ hR Tryz.underlying37 rfl dA ?_)
   | (go_at_call 51; refine (HC.out _ HD.out.below).mono ?_; rintro _ w1 ⟨rfl, hb⟩))
  go_ret2
  exact ⟨rfl, bt HD.out.below hb⟩
 rw [if_pos c] at hR
 have hf := XU c
 rw [c] at HC ⊢
 have hxc : hasB 88 d.mo = false -> d.mo.size <= 2 /\ allB dG d.mo = true /\ (d.mo.size ≠ 0 -> (1 <= gB d.mo /\ gB d.mo <= 12 /\ d.aH = 0) \/ (21 <= gB d.mo /\ gB d.mo <= 41 /\ d.aH = gB d.mo)) := fun h => by
  obtain ⟨a, b, _, e⟩ := aLZ hf h; exact ⟨a, b, e⟩
 have hxs : hasB 88 d.mo = true -> d.aH = 0 := fun h => by
  by_cases c : d.aH = 0
  . exact c
  . have := aJ8 (G6 c).2.1; rw [this] at h; cases h
 have HK : ∀ W, Calls Tryz.prog 84 #[.string d.mo, .string ⟨#[88]⟩] W fun e w' => e = .returned (.bool (hasB 88 d.mo)) /\ w' = W := by
  intro W
  have := Tryz.strings_Contains_one d.mo 88 W
  rw [lT] at this
  exact this
 clear hk hs hy m0 m1 m2 hf c
 rcases bQ d.da with ⟨c1, x1⟩ | ⟨c1, x1⟩
 case inr =>
  rw [if_pos c1] at hR
  subst hR
  clear hxc hxs HK c1
  go_enter Tryz.func288, Tryz.ntmps288
  go_upto_region 1 with (fail)
  generalize World.alloc _ _ = W0 at hD ⊢
  have HD : Hid (Rw w.heap.size (bW d) w W0) := Lib.hid hD
  clear hD
  have hR := HD.out.range
  go_wp2_with (first
   | (refine wpList_load_mid rfl 37 (.tmp 1) rfl w.heap.size 0 rfl (bW d) _ hR Tryz.underlying37 rfl dA ?_)
   | (go_at_call 51; refine (HC.out _ HD.out.below).mono ?_; rintro _ w1 ⟨rfl, hb⟩; replace HD := Lib.hid (HD.out.later hb); clear hR hb; obtain ⟨q0, q1, q2, q3, q4, q5, q6, q7, q8, q9⟩ := HD.out.gJ))
  go_ret2
  exact ⟨rfl, HD.out.below⟩
 rw [if_neg (by simpa using c1)] at hR
 rcases bQ d.mo with ⟨c0, x0⟩ | ⟨c0, x0⟩
 case inl =>
  rw [if_pos c0] at hR
  subst hR
  clear hxc hxs HK c1 c0
  go_enter Tryz.func288, Tryz.ntmps288
  go_upto_region 1 with (fail)
  generalize World.alloc _ _ = W0 at hD ⊢
  have HD : Hid (Rw w.heap.size (bW d) w W0) := Lib.hid hD
  clear hD
  have hR := HD.out.range
  go_wp2_with (first
   | (refine wpList_load_mid rfl 37 (.tmp 1) rfl w.heap.size 0 rfl (bW d) _ hR Tryz.underlying37 rfl dA ?_)
   | (go_at_call 51; refine (HC.out _ HD.out.below).mono ?_; rintro _ w1 ⟨rfl, hb⟩; replace HD := Lib.hid (HD.out.later hb); clear hR hb; obtain ⟨q0, q1, q2, q3, q4, q5, q6, q7, q8, q9⟩ := HD.out.gJ))
  go_ret2
  exact ⟨rfl, HD.out.below⟩
 rw [if_neg c0] at hR
 cases hx : hasB 88 d.mo
 case true =>
  rw [hx] at HK
  replace HK := Lib.hid HK
  rw [if_neg (by simpa using hxs hx)] at hR
  subst hR
  clear hxc hxs c1 c0 hx
  go_enter Tryz.func288, Tryz.ntmps288
  go_upto_region 1 with (fail)
  generalize World.alloc _ _ = W0 at hD ⊢
  have HD : Hid (Rw w.heap.size (bW d) w W0) := Lib.hid hD
  clear hD
  have hR := HD.out.range
  go_wp2_with (first
   | (refine wpList_load_mid rfl 37 (.tmp 1) rfl w.heap.size 0 rfl (bW d) _ hR Tryz.underlying37 rfl dA ?_)
   | (go_at_call 84; with_reducible refine (HK.out _).mono ?_; rintro _ w' ⟨rfl, rfl⟩)
   | (go_at_call 51; refine (HC.out _ HD.out.below).mono ?_; rintro _ w1 ⟨rfl, hb⟩; replace HD := Lib.hid (HD.out.later hb); clear hR hb; obtain ⟨q0, q1, q2, q3, q4, q5, q6, q7, q8, q9⟩ := HD.out.gJ))
  go_ret2
  exact ⟨rfl, HD.out.below⟩
 case false =>
  rw [hx] at HK
  replace HK := Lib.hid HK
  obtain ⟨n1, n2, n3⟩ := hxc hx
  have HN := Lib.hid (fun W => UL d.mo W n1 n2)
  have HR : Hid ((12 < gB d.mo -> R = 0) /\ (gB d.mo <= 12 -> R = 2)) := Lib.hid (by
   rcases n3 c0 with h | h
   . rw [if_neg (by omega)] at hR; omega
   . rw [if_pos (by omega)] at hR; omega)
  clear hxc hxs c1 c0 hx n1 n2 n3 hR
  generalize gB d.mo = n at *
  go_enter Tryz.func288, Tryz.ntmps288
  go_upto_region 1 with (fail)
  generalize World.alloc _ _ = W0 at hD ⊢
  have HD : Hid (Rw w.heap.size (bW d) w W0) := Lib.hid hD
  clear hD
  have hR := HD.out.range
  go_wp2_with (first
   | (refine wpList_load_mid rfl 37 (.tmp 1) rfl w.heap.size 0 rfl (bW d) _ hR Tryz.underlying37 rfl dA ?_)
   | (go_at_call 84; with_reducible refine (HK.out _).mono ?_; rintro _ w' ⟨rfl, rfl⟩)
   | (go_at_call 293; refine (HN.out _).mono ?_; rintro _ w1 ⟨rfl, hb⟩; replace HD := Lib.hid (HD.out.later hb); clear hb)
   | (go_at_call 51; refine (HC.out _ HD.out.below).mono ?_; rintro _ w1 ⟨rfl, hb⟩; replace HD := Lib.hid (HD.out.later hb); clear hR hb; obtain ⟨q0, q1, q2, q3, q4, q5, q6, q7, q8, q9⟩ := HD.out.gJ))
  all_goals go_ret2
  all_goals have h := HR.out
  all_goals first
   | exact ⟨by rw [h.1 (by omega)]; rfl, HD.out.below⟩
   | exact ⟨by rw [h.2 (by omega)]; rfl, HD.out.below⟩
end Bk
end
section
open Go.RowKit Go.Lib
namespace Sk
open Un (ba bt ri rb dN)
open Cal
open Bk (Dt bZ cvv cvF rv qI kX tX)
open Ev (eF gZ hp)
structure RB where
 a : Int
 lo : Int
 b : Int
 hi : Int
 is : Bool
def RB.v (r : RB) : Value := .tuple #[.agg #[.int .i8 r.a, .int .i64 r.lo, .int .i8 r.b, .int .i64 r.hi], .bool r.is]
def RB.Bd (r : RB) : Prop := -9223372036854775808 <= r.lo /\ r.lo < 9223372036854775808
def pX (v : Value) : Prop := ∃ r : RB, r.Bd /\ v = r.v
theorem pX.cond {c : Bool} {v u : Value} (h : pX v) (g : pX u) : pX (cond c v u) := by cases c; exact g; exact h
theorem pX.mk {a lo b hi : Int} {is : Bool} (h : -9223372036854775808 <= lo /\ lo < 9223372036854775808) : pX (.tuple #[.agg #[.int .i8 a, .int .i64 lo, .int .i8 b, .int .i64 hi], .bool is]) := ⟨⟨a, lo, b, hi, is⟩, h, rfl⟩
structure TR (d : Dt) (w0 : World) : Prop where
 hk : qI w0
 st : eF gZ.g.n gZ.l w0 hp
 mo : d.mo.size <= 1000
 dg : d.dg.size <= 1000
 m0 : 0 <= d.m0
 m1 : 0 <= d.m1
 m2 : 0 <= d.m2
section
variable {d : Dt} {w0 : World} (h : TR d w0)
open Classical in
noncomputable def XM (d : Dt) (y m k : Int) : Int × Int × Int := if d.err ≠ 0 then (0, 0, d.err) else if ¬ (d.sig <= 0 /\ d.Has y m k) then (0, 0, 1) else (kX y (d.mOf m) (d.kOf k), tX y (d.mOf m) (d.kOf k), 0)
theorem aJW {d : Dt} {y m k lo hi er : Int} (h : d.PG y m k lo hi er) : XM d y m k = (lo, hi, er) := by
 unfold XM
 rcases h with ⟨h1, rfl, rfl, rfl⟩ | ⟨h1, h2, rfl, rfl, rfl⟩ | ⟨h1, h2, h3, rfl, rfl, rfl⟩
 . rw [if_pos h1]
 . rw [if_neg (by simp [h1]), if_pos h2]
 . rw [if_neg (by simp [h1]), if_neg (by simp [h2, h3])]
theorem aIr {y m k : Int} (y0 : -10000000000000000 <= y) (y1 : y <= 10000000000000000) (hm : m = 0 \/ (1 <= m /\ m <= 12) \/ (21 <= m /\ m <= 41)) (hk : 0 <= k /\ k <= 31) : -9223372036854775808 <= kX y m k /\ kX y m k < 9223372036854775808 := by
 have b0 := Un.oH (y := y) (by omega) (by omega)
 rcases hm with rfl | hm | hm
 . unfold kX; rw [if_pos rfl]; omega
 . have c0 := @sQ y m (by omega) (by omega)
   unfold kX
   rw [if_neg (show ¬ m = 0 by omega), if_neg (show ¬ 12 < m by omega)]
   by_cases c : k = 0
   . rw [if_pos c]; omega
   . rw [if_neg c]; omega
 . have f := Bk.aN2 m
   have c0 := @sQ y (Bk.eH m) (by omega) (by omega)
   unfold kX
   rw [if_neg (show ¬ m = 0 by omega), if_pos (show 12 < m by omega)]
   omega
theorem aJX (d : Dt) (y m k : Int) : -9223372036854775808 <= (XM d y m k).1 /\ (XM d y m k).1 < 9223372036854775808 := by
 unfold XM
 split
 . dsimp only; omega
 . split
   . dsimp only; omega
   . rename_i h1 h2
     have h3 := (Classical.not_not.1 h2).2
     obtain ⟨y0, y1, hm, hk, hmd⟩ := Bk.CP h3
     have hs := h3
     dsimp only
     refine aIr y0 y1 ?_ ?_
     . unfold Dt.mOf; split
       . exact .inl rfl
       . rename_i c; rcases hm c with g | g <;> omega
     . unfold Dt.kOf; split
       . omega
       . rename_i c; have := hk c; omega
theorem aG6 (y m k : Int) (y0 : -9223372036854775808 <= y) (y1 : y < 9223372036854775808) (h : TR d w0) : Same w0 290 #[bZ d, cvv y m k] (.tuple #[rv (XM d y m k).1 (XM d y m k).2.1, .int .i64 (XM d y m k).2.2]) := fun W hb => by
 refine (Bk.UM d y m k W (h.hk.below hb) h.mo h.dg h.m0 h.m1 h.m2 y0 y1).mono ?_
 rintro e w' ⟨lo, hi, er, hF, rfl, hb'⟩
 rw [aJW hF]
 exact ⟨rfl, hb'⟩
theorem jF (y m k : Int) (is : Bool) (y0 : -9223372036854775808 <= y) (y1 : y < 9223372036854775808) (h : TR d w0) : ∃ r : RB, r.Bd /\ Same w0 283 #[bZ d, cvv y m k, .bool is] r.v := by
 have key : ∀ v, (∀ W, Below w0.heap.size w0 W -> Calls Tryz.prog 283 #[bZ d, cvv y m k, .bool is] W fun r w' => r = .returned v /\ Below W.heap.size W w') -> pX v -> ∃ r : RB, r.Bd /\ Same w0 283 #[bZ d, cvv y m k, .bool is] r.v := by
  rintro v hv ⟨r, hb, rfl⟩; exact ⟨r, hb, hv⟩
 have hf := aJX d y m k
 refine key _ (aN4 d y m k _ _ _ is h.st (aG6 y m k y0 y1 h)) ?_
 exact pX.cond (pX.cond (pX.mk hf) (pX.mk hf)) (pX.mk (by omega))
theorem tH {d : Dt} (hc : d.fU = 0) {y : Int} (hy : d.In y) : -10000000000000000 <= y /\ y <= 10000000000000000 := Bk.Dt.tH (Bk.Dt.gK (Bk.Dt.jO (Bk.lI hc)).1).1 hy
theorem zH (d : Dt) (c : Int × Int × Int) : -10000000000000000 <= (d.oM c).1 /\ (d.oM c).1 <= 10000000000000000 := by
 unfold Bk.Dt.oM
 by_cases hc : d.fU = 0
 . rw [if_pos hc]
   unfold Bk.Dt.nx
   split
   . rename_i he
     rcases he.choose_spec with ⟨_, g, _⟩ | ⟨_, g, _⟩
     . exact tH hc g.1
     . rw [g]; omega
   . dsimp only; omega
 . rw [if_neg hc]; dsimp only; omega
theorem uS (d : Dt) (c : Int × Int × Int) : -10000000000000000 <= (d.mY c).1 /\ (d.mY c).1 <= 10000000000000000 := by
 unfold Bk.Dt.mY
 by_cases hc : d.fU = 0
 . rw [if_pos hc]
   unfold Bk.Dt.pv
   split
   . rename_i he
     rcases he.choose_spec with ⟨_, g, _⟩ | ⟨_, g, _⟩
     . exact tH hc g.1
     . rw [g]; omega
   . dsimp only; omega
 . rw [if_neg hc]; dsimp only; omega
theorem lJ (n : Int) : -9223372036854775808 <= IntKind.i64.wrap n /\ IntKind.i64.wrap n < 9223372036854775808 := by rw [IntKind.wrap_i64]; omega
theorem CB (cy cm ck : Int) (y0 : -9223372036854775808 <= cy) (y1 : cy < 9223372036854775808) (h : TR d w0) : Same w0 291 #[bZ d, cvv cy cm ck] (cvF (d.oM (cy, cm, ck)) d.fU) := fun W hb =>
 Bk.aAU d cy cm ck W (h.hk.below hb) h.mo h.dg h.m0 h.m1 h.m2 y0 y1
theorem wC (cy cm ck : Int) (y0 : -9223372036854775808 <= cy) (y1 : cy < 9223372036854775808) (h : TR d w0) : Same w0 287 #[bZ d, cvv cy cm ck] (cvF (d.mY (cy, cm, ck)) d.fU) := fun W hb =>
 Bk.aAT d cy cm ck W (h.hk.below hb) h.mo h.dg h.m0 h.m1 h.m2 y0 y1
def cv3 (t : Int × Int × Int × Bool) (e : Int) : Value := .tuple #[cvv t.1 t.2.1 t.2.2.1, .int .i64 e]
theorem aD5 (cy cm ck : Int) (y0 : -9223372036854775808 <= cy) (y1 : cy < 9223372036854775808) (h : TR d w0) : Same w0 289 #[bZ d, cvv cy cm ck, .bool true] (cv3 (d.oM (cy, cm, ck)) d.fU) := fun W hb => by
 refine (Bk.aD4 d cy cm ck W (h.hk.below hb) h.mo h.dg h.m0 h.m1 h.m2 y0 y1).mono ?_
 rintro e w' ⟨y, m, k, hF, rfl, hb'⟩
 refine ⟨?_, hb'⟩
 have : ∃ ok, d.oM (cy, cm, ck) = (y, m, k, ok) := by
  unfold Bk.Dt.oM
  rcases hF with ⟨h1, ok, h2⟩ | ⟨h1, rfl, rfl, rfl⟩
  . rw [if_pos h1]; exact ⟨ok, Bk.Dt.aKI h2⟩
  . rw [if_neg h1]; exact ⟨_, rfl⟩
 obtain ⟨ok, this⟩ := this
 rw [this]; rfl
theorem aD8 (cy cm ck : Int) (y0 : -9223372036854775808 <= cy) (y1 : cy < 9223372036854775808) (h : TR d w0) : Same w0 289 #[bZ d, cvv cy cm ck, .bool false] (cv3 (d.mY (cy, cm, ck)) d.fU) := fun W hb => by
 refine (Bk.aD7 d cy cm ck W (h.hk.below hb) h.mo h.dg h.m0 h.m1 h.m2 y0 y1).mono ?_
 rintro e w' ⟨y, m, k, hF, rfl, hb'⟩
 refine ⟨?_, hb'⟩
 have : ∃ ok, d.mY (cy, cm, ck) = (y, m, k, ok) := by
  unfold Bk.Dt.mY
  rcases hF with ⟨h1, ok, h2⟩ | ⟨h1, rfl, rfl, rfl⟩
  . rw [if_pos h1]; exact ⟨ok, Bk.Dt.aKA h2⟩
  . rw [if_neg h1]; exact ⟨_, rfl⟩
 obtain ⟨ok, this⟩ := this
 rw [this]; rfl
theorem XO (h : TR d w0) : Same w0 282 #[bZ d] (cv3 (d.oM (-9223372036854775808, 0, 0)) d.fU) := aG7 d _ _ _ _ h.st (aD5 (-9223372036854775808) 0 0 (by omega) (by omega) h)
theorem aAR (h : TR d w0) : Same w0 285 #[bZ d] (cv3 (d.mY (9223372036854775807, 0, 0)) d.fU) := aJR d _ _ _ _ h.st (aD8 9223372036854775807 0 0 (by omega) (by omega) h)
theorem exR {f : FuncId} {args : Array Value} {v : Value} (hv : Same w0 f args v) (h : pX v) : ∃ r : RB, r.Bd /\ Same w0 f args r.v := by
 obtain ⟨r, hb, rfl⟩ := h; exact ⟨r, hb, hv⟩
theorem KA (h : TR d w0) : ∃ r : RB, r.Bd /\ Same w0 276 #[bZ d] r.v := by
 have b := zH d (-9223372036854775808, 0, 0)
 have N := XO h
 unfold cv3 at N
 generalize d.oM (-9223372036854775808, 0, 0) = t at N b
 obtain ⟨y, m, k, ok⟩ := t
 dsimp only at N b
 obtain ⟨r1, b1, H1⟩ := jF (d := d) y m k true (by omega) (by omega) h
 obtain ⟨r2, b2, H2⟩ := jF (d := d) y m k false (by omega) (by omega) h
 exact exR (aJS (hst := h.st) (H0 := N) (H1 := H1) (H2 := H2)) (pX.cond (pX.mk b1) (pX.mk b2))
theorem wI (h : TR d w0) : ∃ r : RB, r.Bd /\ Same w0 278 #[bZ d] r.v := by
 have b := uS d (9223372036854775807, 0, 0)
 have N := aAR h
 unfold cv3 at N
 generalize d.mY (9223372036854775807, 0, 0) = t at N b
 obtain ⟨y, m, k, ok⟩ := t
 dsimp only at N b
 obtain ⟨r1, b1, H1⟩ := jF (d := d) y m k true (by omega) (by omega) h
 obtain ⟨r2, b2, H2⟩ := jF (d := d) y m k false (by omega) (by omega) h
 exact exR (aL8 (hst := h.st) (H0 := N) (H1 := H1) (H2 := H2)) (pX.cond (pX.mk b1) (pX.mk b2))
theorem X9 (day : Int) (hk : qI w0) (st : eF gZ.g.n gZ.l w0 hp) (h0 : -9223372036854775808 <= day) (h1 : day < 9223372036854775808) : ∃ y m k e : Int, (-9223372036854775808 <= y /\ y < 9223372036854775808) /\ Same w0 286 #[.int .i64 day] (.tuple #[cvv y m k, .int .i64 e]) := by
 have HM := fun W hb => Un.rU day W (hk.below (w' := W) hb).cal h0 h1
 unfold dN at HM
 by_cases c : -10000000000000000 <= dU day /\ dU day <= 10000000000000000
 . simp only [if_pos c] at HM
   obtain ⟨s1, s2⟩ := iE day
   rw [st_succ] at s2
   have hms := @oN (dU day) (day - Cal.st (dU day)) (by omega) (by omega)
   have lp1 := OC (dU day)
   refine ⟨_, _, _, _, ?_, aPL day _ _ _ st HM (fun W hb => Un.jG _ _ W (hk.below hb).cal c.1 c.2 (by omega) (by omega))⟩
   omega
 . simp only [if_neg c] at HM
   exact ⟨_, _, _, _, (by omega : -9223372036854775808 <= (0:Int) /\ (0:Int) < 9223372036854775808), aKa day st HM⟩
theorem NU (h : TR d w0) : Same w0 288 #[bZ d] (.tuple #[.int .u8 (if d.err = 0 then d.prec else 0), .int .i64 d.err]) := fun W hb =>
 Bk.aCI d W (h.hk.below hb) h.mo h.dg h.m0 h.m1 h.m2
theorem sU (day : Int) (h0 : -9223372036854775808 <= day) (h1 : day < 9223372036854775808) (h : TR d w0) : ∃ r : RB, r.Bd /\ Same w0 281 #[bZ d, .int .i64 day] r.v := by
 obtain ⟨L, bL, HL⟩ := wI h
 obtain ⟨cy, cm, ck, ce, bc, HC⟩ := X9 day h.hk h.st h0 h1
 have HP := NU h
 have P1 := wC cy cm ck bc.1 bc.2 h
 have q1 := uS d (cy, cm, ck)
 unfold cvF at P1
 generalize d.mY (cy, cm, ck) = t at P1 q1
 obtain ⟨y1, m1, k1, ok1⟩ := t
 dsimp only at P1 q1
 obtain ⟨r1, b1, R1⟩ := jF (d := d) y1 m1 k1 ok1 (by omega) (by omega) h
 obtain ⟨w1, hw1⟩ : ∃ n, n = IntKind.i64.wrap (y1 - 1) := ⟨_, rfl⟩
 have bw1 := lJ (y1 - 1)
 rw [<- hw1] at bw1
 have P2 := wC w1 99 0 bw1.1 bw1.2 h
 have q2 := uS d (w1, 99, 0)
 unfold cvF at P2
 generalize d.mY (w1, 99, 0) = t at P2 q2
 obtain ⟨y2, m2, k2, ok2⟩ := t
 dsimp only at P2 q2
 obtain ⟨r2, b2, R2⟩ := jF (d := d) y2 m2 k2 ok2 (by omega) (by omega) h
 have P3 := wC cy 99 ck bc.1 bc.2 h
 have q3 := uS d (cy, 99, ck)
 unfold cvF at P3
 generalize d.mY (cy, 99, ck) = t at P3 q3
 obtain ⟨y3, m3, k3, ok3⟩ := t
 dsimp only at P3 q3
 obtain ⟨r3, b3, R3⟩ := jF (d := d) y3 m3 k3 ok3 (by omega) (by omega) h
 obtain ⟨w3, hw3⟩ : ∃ n, n = IntKind.i64.wrap (y3 - 1) := ⟨_, rfl⟩
 have bw3 := lJ (y3 - 1)
 rw [<- hw3] at bw3
 have P4 := wC w3 99 0 bw3.1 bw3.2 h
 have q4 := uS d (w3, 99, 0)
 unfold cvF at P4
 generalize d.mY (w3, 99, 0) = t at P4 q4
 obtain ⟨y4, m4, k4, ok4⟩ := t
 dsimp only at P4 q4
 obtain ⟨r4, b4, R4⟩ := jF (d := d) y4 m4 k4 ok4 (by omega) (by omega) h
 rw [hw1] at P2
 rw [hw3] at P4
 refine exR (aKc (d := d) (day := day) (hst := h.st) (H0 := HL) (H1 := HC) (H2 := HP) (H3 := P1) (H4 := R1) (H5 := P2) (H6 := R2) (H7 := P3) (H8 := R3) (H9 := P4) (H10 := R4)) ?_
 repeat (first | exact pX.mk bL | exact pX.mk b1 | exact pX.mk b2 | exact pX.mk b3 | exact pX.mk b4 | exact pX.mk (by omega) | apply pX.cond)
theorem aLV (r : RB) (br : r.Bd) (h : TR d w0) : ∃ q : RB, q.Bd /\ Same w0 284 #[bZ d, .agg #[.int .i8 r.a, .int .i64 r.lo, .int .i8 r.b, .int .i64 r.hi]] q.v := by
 obtain ⟨L, bL, HL⟩ := wI h
 obtain ⟨cy, cm, ck, ce, bc, HC⟩ := X9 r.lo h.hk h.st br.1 br.2
 have HP := NU h
 obtain ⟨w1, hw1⟩ : ∃ n, n = IntKind.i64.wrap (cy + 1) := ⟨_, rfl⟩
 have bw1 := lJ (cy + 1)
 rw [<- hw1] at bw1
 have P1 := CB w1 0 0 bw1.1 bw1.2 h
 have q1 := zH d (w1, 0, 0)
 unfold cvF at P1
 generalize d.oM (w1, 0, 0) = t at P1 q1
 obtain ⟨y1, m1, k1, ok1⟩ := t
 dsimp only at P1 q1
 obtain ⟨r1, b1, R1⟩ := jF (d := d) y1 m1 k1 ok1 (by omega) (by omega) h
 rw [hw1] at P1
 obtain ⟨w2, hw2⟩ : ∃ n, n = IntKind.i64.wrap (cm + 1) := ⟨_, rfl⟩
 have bw2 := lJ (cm + 1)
 rw [<- hw2] at bw2
 have P2 := CB cy w2 0 bc.1 bc.2 h
 have q2 := zH d (cy, w2, 0)
 unfold cvF at P2
 generalize d.oM (cy, w2, 0) = t at P2 q2
 obtain ⟨y2, m2, k2, ok2⟩ := t
 dsimp only at P2 q2
 obtain ⟨r2, b2, R2⟩ := jF (d := d) y2 m2 k2 ok2 (by omega) (by omega) h
 rw [hw2] at P2
 obtain ⟨w3, hw3⟩ : ∃ n, n = IntKind.i64.wrap (ck + 1) := ⟨_, rfl⟩
 have bw3 := lJ (ck + 1)
 rw [<- hw3] at bw3
 have P3 := CB cy cm w3 bc.1 bc.2 h
 have q3 := zH d (cy, cm, w3)
 unfold cvF at P3
 generalize d.oM (cy, cm, w3) = t at P3 q3
 obtain ⟨y3, m3, k3, ok3⟩ := t
 dsimp only at P3 q3
 obtain ⟨r3, b3, R3⟩ := jF (d := d) y3 m3 k3 ok3 (by omega) (by omega) h
 rw [hw3] at P3
 refine exR (aLW (d := d) (hst := h.st) (hz := rfl) (H0 := HL) (H1 := HC) (H2 := HP) (H3 := P1) (H4 := R1) (H5 := P2) (H6 := R2) (H7 := P3) (H8 := R3)) ?_
 repeat (first | exact pX.mk bL | exact pX.mk b1 | exact pX.mk b2 | exact pX.mk b3 | exact pX.mk (by omega) | apply pX.cond)
theorem aKe (day : Int) (h0 : -9223372036854775808 <= day) (h1 : day < 9223372036854775808) (h : TR d w0) : ∃ r : RB, r.Bd /\ Same w0 275 #[bZ d, .int .i64 day] r.v := by
 obtain ⟨B, bB, HB⟩ := sU day h0 h1 h
 refine exR (aTN (d := d) (day := day) (hst := h.st) (H0 := HB)) ?_
 repeat (first | exact pX.mk bB | exact pX.mk (by omega) | apply pX.cond)
theorem aDY (day : Int) (h0 : -9223372036854775808 <= day) (h1 : day < 9223372036854775808) (h : TR d w0) : ∃ r : RB, r.Bd /\ Same w0 277 #[bZ d, .int .i64 day] r.v := by
 obtain ⟨F, bF, HF⟩ := KA h
 obtain ⟨B, bB, HB⟩ := sU day h0 h1 h
 obtain ⟨N, bN, HN⟩ := aLV B bB h
 refine exR (aMt (d := d) (day := day) (hst := h.st) (H0 := HF) (H1 := HB) (H2 := HN)) ?_
 repeat (first | exact pX.mk bF | exact pX.mk bB | exact pX.mk bN | exact pX.mk (by omega) | apply pX.cond)
theorem aCH (day : Int) (h0 : -9223372036854775808 <= day) (h1 : day < 9223372036854775808) (h : TR d w0) : ∃ r : RB, r.Bd /\ Same w0 280 #[bZ d, .int .i64 day] r.v := by
 obtain ⟨L, bL, HL⟩ := wI h
 obtain ⟨B, bB, HB⟩ := sU day h0 h1 h
 obtain ⟨w1, hw1⟩ : ∃ n, n = IntKind.i64.wrap (B.lo - 1) := ⟨_, rfl⟩
 have bw1 := lJ (B.lo - 1)
 rw [<- hw1] at bw1
 obtain ⟨C, bC, HC⟩ := sU w1 bw1.1 bw1.2 h
 rw [hw1] at HC
 refine exR (aK7 (d := d) (day := day) (hst := h.st) (H0 := HL) (H1 := HB) (H2 := HC)) ?_
 repeat (first | exact pX.mk bL | exact pX.mk bB | exact pX.mk bC | exact pX.mk (by omega) | apply pX.cond)
end
end Sk
end
section
open Go.RowKit Go.Lib
namespace Sk
open Ev (eF DT LG gZ bJ hp QY oU uZ l_b Y5 pU aY AV Y0 EM dS bH dF iI BU)
open Bk (Dt bZ)
def aHW : DT := (.node 1 (qu 0) (.v (.int .u8 1)) (.leaf (.v (.int .i64 18))) (.node 1 (.v (.int .u8 5)) (qu 0) (.leaf (.v (.int .i64 18))) (.node 0 (qu 0) (.v (.int .u8 1)) (.node 0 (qu 0) (.v (.int .u8 2)) DT.no (.node 3 (qb 31) (qb 31) (.node 0 (qu 0) (.v (.int .u8 3)) DT.no (.node 0 (qu 12) (.v (.int .u8 0)) (.node 1 (qu 0) (.v (.int .u8 3)) (.node 3 (qb 32) (qb 32) (.node 0 (aY 8 .i64 [(pU 1)]) qz (.leaf (.v (.int .i64 17))) (.leaf (qi 17))) (.leaf (.v (.int .i64 5)))) DT.no) (.leaf (.v (.int .i64 5))))) (.leaf (.v (.int .i64 5))))) (.node 1 qz (aY 8 .i64 [(pU 1)]) (.leaf (.v (.int .i64 5))) (.node 0 (qu 0) (.v (.int .u8 2)) (.node 0 (qu 0) (.v (.int .u8 3)) DT.no (.node 0 (qu 12) (.v (.int .u8 0)) (.node 1 (qu 0) (.v (.int .u8 3)) (.node 3 (qb 32) (qb 32) (.node 1 qz (qi 18) (.leaf (qi 18)) (.node 1 qz (qi 6) (.leaf (.v (.int .i64 1))) (.node 0 (qi 19) qz (.leaf (.v (.int .i64 1))) (.node 3 (qb 33) (qb 33) (.leaf qz) (.leaf (.v (.int .i64 1))))))) (.leaf (.v (.int .i64 5)))) DT.no) (.leaf (.v (.int .i64 5))))) (.node 3 (qb 31) (qb 31) (.node 0 (qu 0) (.v (.int .u8 3)) (.node 1 (qu 0) (.v (.int .u8 3)) DT.no (.node 1 (qu 12) (.v (.int .u8 1)) (.leaf (.v (.int .i64 18))) (.node 1 (.v (.int .u8 3)) (qu 12) (.leaf (.v (.int .i64 18))) (.node 1 qz (qi 20) (.leaf (.v (.int .i64 1))) (.node 0 (qe 13) q8 (.node 1 qz (qi 25) (.leaf (.v (.int .i64 1))) (.node 3 (qb 34) (qb 34) (.node 0 (qe 15) q8 (.node 1 qz (qi 30) (.leaf (.v (.int .i64 1))) (.node 3 (qb 35) (qb 35) (.leaf qz) (.leaf (.v (.int .i64 1))))) (.leaf qz)) (.leaf (.v (.int .i64 1))))) (.node 0 (qe 15) q8 (.node 1 qz (qi 30) (.leaf (.v (.int .i64 1))) (.node 3 (qb 35) (qb 35) (.leaf qz) (.leaf (.v (.int .i64 1))))) (.leaf (.v (.int .i64 1))))))))) (.node 0 (qu 12) (.v (.int .u8 0)) (.node 1 (qu 0) (.v (.int .u8 3)) DT.no (.node 1 qz (qi 20) (.leaf (.v (.int .i64 1))) (.node 0 (qu 0) (.v (.int .u8 4)) (.node 0 (qe 13) q8 (.leaf (.v (.int .i64 1))) (.node 0 (qe 15) q8 (.node 0 (qu 0) (.v (.int .u8 5)) DT.no (.leaf qz)) (.leaf (.v (.int .i64 1))))) (.node 0 (qu 0) (.v (.int .u8 5)) (.node 0 (qe 13) q8 (.node 0 (qe 15) q8 (.leaf (.v (.int .i64 1))) (.leaf qz)) (.leaf (.v (.int .i64 1)))) DT.no)))) (.leaf (.v (.int .i64 5))))) (.leaf (.v (.int .i64 5)))))))))
theorem aDr (l : Value) : aHW.ok gZ l [(37, vU, .agg [qf, qf, .v (.string ⟨#[]⟩), qz, qz, .v (.string ⟨#[]⟩), .v (.string ⟨#[]⟩), .v (.int .u8 0), .v (.int .u8 0), .v (.int .u8 0)], (qb 31)), (42, (rK (qe 13) (qi 14) (qe 15) (qi 16)), (rK q8 qz q8 qz), (qb 32)), (26, .agg [(qu 9), (qu 10), (qu 11)], .agg [.v (.int .u8 0), .v (.int .u8 0), .v (.int .u8 0)], (qb 33)), (40, .agg [(qe 21), (qi 22)], .agg [(qe 13), (qi 14)], (qb 34)), (40, .agg [(qe 28), (qi 29)], .agg [(qe 15), (qi 16)], (qb 35))] [(44, [(pU 1)], (qi 17)), (45, [vU], (qi 18)), (17, [vU], (qi 19)), (46, [(rK (qe 13) (qi 14) (qe 15) (qi 16))], (qi 20)), (47, [(qi 14), aY 6 .i64 [(qu 12)]], .aP [rK (qe 21) (qi 22) (qe 23) (qi 24), (qi 25)]), (47, [(qi 16), aY 6 .i64 [(qu 12)]], .aP [rK (qe 26) (qi 27) (qe 28) (qi 29), (qi 30)])] hp 60 LG 21 [iZ (qu 0)] [] = true := by kernel_rfl
theorem aLD (k : Int) (bs : Option Addr) (n cp : Nat) (d : Dt) (p a lo b hi c10 c16 xx FY ua ulo ub uhi be va vlo vb vhi bf : Int) (zd zr zm zu zv : Bool) {w0 : World} (hst : SS w0) (hk0 : 0 <= k) (hpw : IntKind.i64.wrap p = p) (hd : LD 37 (bZ d) (bZ z0) zd) (hr : LD 42 (r4 a lo b hi) (r4 0 0 0 0) zr) (hm : LD 26 (.agg #[.int .u8 d.m0, .int .u8 d.m1, .int .u8 d.m2]) (.agg #[.int .u8 0, .int .u8 0, .int .u8 0]) zm) (hu : zu = decide (ua = a /\ ulo = lo)) (hv : zv = decide (vb = b /\ vhi = hi)) (CS : Same w0 44 #[(.slice bs n cp)] (.int .i64 c10)) (CE : Same w0 45 #[(bZ d)] (.int .i64 c16)) (CX : Same w0 17 #[(bZ d)] (.int .i64 xx)) (CR : Same w0 46 #[(r4 a lo b hi)] (.int .i64 FY)) (CH1 : Same w0 47 #[(.int .i64 lo), (.int .i64 (IntKind.i64.wrap p))] (.tuple #[(r4 ua ulo ub uhi), (.int .i64 be)])) (CH2 : Same w0 47 #[(.int .i64 hi), (.int .i64 (IntKind.i64.wrap p))] (.tuple #[(r4 va vlo vb vhi), (.int .i64 bf)])) : Same w0 21 #[(fam k (.slice bs n cp) d p a lo b hi)] (cond (decide (k < 1)) (.int .i64 18) (cond (decide (5 < k)) (.int .i64 18) (cond (k == 1) (cond (k == 2) (.bool false) (cond zd (cond (k == 3) (.bool false) (cond (p == 0) (cond (decide (k < 3)) (cond zr (cond (((n : Nat) : Int) == 0) (.int .i64 17) (.int .i64 c10)) (.int .i64 5)) (.bool false)) (.int .i64 5))) (.int .i64 5))) (cond (decide (0 < ((n : Nat) : Int))) (.int .i64 5) (cond (k == 2) (cond (k == 3) (.bool false) (cond (p == 0) (cond (decide (k < 3)) (cond zr (cond (decide (0 < c16)) (.int .i64 c16) (cond (decide (0 < d.sig)) (.int .i64 1) (cond (xx == 0) (.int .i64 1) (cond zm (.int .i64 0) (.int .i64 1))))) (.int .i64 5)) (.bool false)) (.int .i64 5))) (cond zd (cond (k == 3) (cond (decide (k < 3)) (.bool false) (cond (decide (p < 1)) (.int .i64 18) (cond (decide (3 < p)) (.int .i64 18) (cond (decide (0 < FY)) (.int .i64 1) (cond (a == 0) (cond (decide (0 < be)) (.int .i64 1) (cond zu (cond (b == 0) (cond (decide (0 < bf)) (.int .i64 1) (cond zv (.int .i64 0) (.int .i64 1))) (.int .i64 0)) (.int .i64 1))) (cond (b == 0) (cond (decide (0 < bf)) (.int .i64 1) (cond zv (.int .i64 0) (.int .i64 1))) (.int .i64 1))))))) (cond (p == 0) (cond (decide (k < 3)) (.bool false) (cond (decide (0 < FY)) (.int .i64 1) (cond (k == 4) (cond (a == 0) (.int .i64 1) (cond (b == 0) (cond (k == 5) (.bool false) (.int .i64 0)) (.int .i64 1))) (cond (k == 5) (cond (a == 0) (cond (b == 0) (.int .i64 1) (.int .i64 0)) (.int .i64 1)) (.bool false))))) (.int .i64 5))) (.int .i64 5))))))) :=
 bH (aDr (lv (lF k (.slice bs n cp) d p a lo b hi) [.int .i64 c10, .int .i64 c16, .int .i64 xx, .int .i64 FY, .int .i8 ua, .int .i64 ulo, .int .i8 ub, .int .i64 uhi, .int .i64 be, .int .i8 va, .int .i64 vlo, .int .i8 vb, .int .i64 vhi, .int .i64 bf, .bool zd, .bool zr, .bool zm, .bool zu, .bool zv])) (bJ w0) hst (.cons hd (fun _ _ _ => ⟨by kernel_rfl, by kernel_rfl⟩) (.cons hr (fun _ _ _ => ⟨by kernel_rfl, by kernel_rfl⟩) (.cons hm (fun _ _ _ => ⟨by kernel_rfl, by kernel_rfl⟩) (.cons (FU _ _ _ _ _ hu) (fun _ _ _ => ⟨by kernel_rfl, by kernel_rfl⟩) (.cons (FU _ _ _ _ _ hv) (fun _ _ _ => ⟨by kernel_rfl, by kernel_rfl⟩) .nil))))) (.cons CS (.cons CE (.cons CX (.cons CR (.cons CH1 (.cons CH2 .nil)))))) (iI (by kernel_rfl : _ = ((((decide (k < 1)) = true -> True) /\ ((decide (k < 1)) = false -> (((decide (5 < k)) = true -> True) /\ ((decide (5 < k)) = false -> (((k == 1) = true -> (((k == 2) = true -> False) /\ ((k == 2) = false -> ((zd = true -> (((k == 3) = true -> False) /\ ((k == 3) = false -> (((p == 0) = true -> (((decide (k < 3)) = true -> ((zr = true -> (((((n : Nat) : Int) == 0) = true -> True) /\ ((((n : Nat) : Int) == 0) = false -> True))) /\ (zr = false -> True))) /\ ((decide (k < 3)) = false -> False))) /\ ((p == 0) = false -> True))))) /\ (zd = false -> True))))) /\ ((k == 1) = false -> (((decide (0 < ((n : Nat) : Int))) = true -> True) /\ ((decide (0 < ((n : Nat) : Int))) = false -> (((k == 2) = true -> (((k == 3) = true -> False) /\ ((k == 3) = false -> (((p == 0) = true -> (((decide (k < 3)) = true -> ((zr = true -> (((decide (0 < c16)) = true -> True) /\ ((decide (0 < c16)) = false -> (((decide (0 < d.sig)) = true -> True) /\ ((decide (0 < d.sig)) = false -> (((xx == 0) = true -> True) /\ ((xx == 0) = false -> ((zm = true -> True) /\ (zm = false -> True))))))))) /\ (zr = false -> True))) /\ ((decide (k < 3)) = false -> False))) /\ ((p == 0) = false -> True))))) /\ ((k == 2) = false -> ((zd = true -> (((k == 3) = true -> (((decide (k < 3)) = true -> False) /\ ((decide (k < 3)) = false -> (((decide (p < 1)) = true -> True) /\ ((decide (p < 1)) = false -> (((decide (3 < p)) = true -> True) /\ ((decide (3 < p)) = false -> (((decide (0 < FY)) = true -> True) /\ ((decide (0 < FY)) = false -> (((a == 0) = true -> (((decide (0 < be)) = true -> True) /\ ((decide (0 < be)) = false -> ((zu = true -> (((b == 0) = true -> (((decide (0 < bf)) = true -> True) /\ ((decide (0 < bf)) = false -> ((zv = true -> True) /\ (zv = false -> True))))) /\ ((b == 0) = false -> True))) /\ (zu = false -> True))))) /\ ((a == 0) = false -> (((b == 0) = true -> (((decide (0 < bf)) = true -> True) /\ ((decide (0 < bf)) = false -> ((zv = true -> True) /\ (zv = false -> True))))) /\ ((b == 0) = false -> True))))))))))))) /\ ((k == 3) = false -> (((p == 0) = true -> (((decide (k < 3)) = true -> False) /\ ((decide (k < 3)) = false -> (((decide (0 < FY)) = true -> True) /\ ((decide (0 < FY)) = false -> (((k == 4) = true -> (((a == 0) = true -> True) /\ ((a == 0) = false -> (((b == 0) = true -> (((k == 5) = true -> False) /\ ((k == 5) = false -> True))) /\ ((b == 0) = false -> True))))) /\ ((k == 4) = false -> (((k == 5) = true -> (((a == 0) = true -> (((b == 0) = true -> True) /\ ((b == 0) = false -> True))) /\ ((a == 0) = false -> True))) /\ ((k == 5) = false -> False))))))))) /\ ((p == 0) = false -> True))))) /\ (zd = false -> True)))))))))))))) (⟨fun h0 => trivial, fun h0 => ⟨fun h1 => trivial, fun h1 => ⟨fun h2 => ⟨fun h3 => (by simp only [beq_iff_eq, beq_eq_false_iff_ne, decide_eq_true_eq, decide_eq_false_iff_not] at *; omega), fun h3 => ⟨fun h4 => ⟨fun h5 => (by simp only [beq_iff_eq, beq_eq_false_iff_ne, decide_eq_true_eq, decide_eq_false_iff_not] at *; omega), fun h5 => ⟨fun h6 => ⟨fun h7 => ⟨fun h8 => ⟨fun h9 => trivial, fun h9 => trivial⟩, fun h8 => trivial⟩, fun h7 => (by simp only [beq_iff_eq, beq_eq_false_iff_ne, decide_eq_true_eq, decide_eq_false_iff_not] at *; omega)⟩, fun h6 => trivial⟩⟩, fun h4 => trivial⟩⟩, fun h2 => ⟨fun h3 => trivial, fun h3 => ⟨fun h4 => ⟨fun h5 => (by simp only [beq_iff_eq, beq_eq_false_iff_ne, decide_eq_true_eq, decide_eq_false_iff_not] at *; omega), fun h5 => ⟨fun h6 => ⟨fun h7 => ⟨fun h8 => ⟨fun h9 => trivial, fun h9 => ⟨fun h10 => trivial, fun h10 => ⟨fun h11 => trivial, fun h11 => ⟨fun h12 => trivial, fun h12 => trivial⟩⟩⟩⟩, fun h8 => trivial⟩, fun h7 => (by simp only [beq_iff_eq, beq_eq_false_iff_ne, decide_eq_true_eq, decide_eq_false_iff_not] at *; omega)⟩, fun h6 => trivial⟩⟩, fun h4 => ⟨fun h5 => ⟨fun h6 => ⟨fun h7 => (by simp only [beq_iff_eq, beq_eq_false_iff_ne, decide_eq_true_eq, decide_eq_false_iff_not] at *; omega), fun h7 => ⟨fun h8 => trivial, fun h8 => ⟨fun h9 => trivial, fun h9 => ⟨fun h10 => trivial, fun h10 => ⟨fun h11 => ⟨fun h12 => trivial, fun h12 => ⟨fun h13 => ⟨fun TY => ⟨fun h15 => trivial, fun h15 => ⟨fun h16 => trivial, fun h16 => trivial⟩⟩, fun TY => trivial⟩, fun h13 => trivial⟩⟩, fun h11 => ⟨fun h12 => ⟨fun h13 => trivial, fun h13 => ⟨fun TY => trivial, fun TY => trivial⟩⟩, fun h12 => trivial⟩⟩⟩⟩⟩⟩, fun h6 => ⟨fun h7 => ⟨fun h8 => (by simp only [beq_iff_eq, beq_eq_false_iff_ne, decide_eq_true_eq, decide_eq_false_iff_not] at *; omega), fun h8 => ⟨fun h9 => trivial, fun h9 => ⟨fun h10 => ⟨fun h11 => trivial, fun h11 => ⟨fun h12 => ⟨fun h13 => (by simp only [beq_iff_eq, beq_eq_false_iff_ne, decide_eq_true_eq, decide_eq_false_iff_not] at *; omega), fun h13 => trivial⟩, fun h12 => trivial⟩⟩, fun h10 => ⟨fun h11 => ⟨fun h12 => ⟨fun h13 => trivial, fun h13 => trivial⟩, fun h12 => trivial⟩, fun h11 => (by simp only [beq_iff_eq, beq_eq_false_iff_ne, decide_eq_true_eq, decide_eq_false_iff_not] at *; omega)⟩⟩⟩⟩, fun h7 => trivial⟩⟩, fun h5 => trivial⟩⟩⟩⟩⟩⟩)) (by kernel_rfl)
end Sk
end
section
namespace Sk
def endOk (i d : Int) : Bool := decide (i = 0) || ((decide (i = 1) || decide (i = -1)) && decide (d = 0))
def bG (i d j e : Int) : Int := if i < j then -1 else if j < i then 1 else if d < e then -1 else if e < d then 1 else 0
def cZ (a lo b hi : Int) : Int := if endOk a lo = false \/ endOk b hi = false then 5 else if a = 1 \/ b = -1 then 4 else if 0 < bG a lo b hi then 12 else 0
structure Right (a lo b hi : Int) : Prop where
 low : (a = -1 /\ lo = 0) \/ a = 0
 high : (b = 1 /\ hi = 0) \/ b = 0
 le : a = 0 -> b = 0 -> lo <= hi
theorem uJ {a lo b hi : Int} (h : cZ a lo b hi = 0) : Right a lo b hi := by
 unfold cZ at h
 by_cases h1 : endOk a lo = false \/ endOk b hi = false
 . rw [if_pos h1] at h; cases h
 . rw [if_neg h1] at h
   by_cases h2 : a = 1 \/ b = -1
   . rw [if_pos h2] at h; cases h
   . rw [if_neg h2] at h
     by_cases h3 : 0 < bG a lo b hi
     . rw [if_pos h3] at h; cases h
     . rw [if_neg h3] at h
       simp only [not_or, Bool.not_eq_false, endOk, Bool.or_eq_true, Bool.and_eq_true, decide_eq_true_eq] at h1 h2
       unfold bG at h3
       refine ⟨by omega, by omega, fun ha hb => ?_⟩
       subst ha hb
       rw [if_neg (by decide), if_neg (by decide)] at h3
       by_cases h4 : lo < hi
       . omega
       . rw [if_neg h4] at h3
         by_cases h5 : hi < lo
         . rw [if_pos h5] at h3; omega
         . omega
theorem NM {a lo b hi : Int} (h : Right a lo b hi) : cZ a lo b hi = 0 := by
 obtain ⟨h1, h2, h3⟩ := h
 unfold cZ bG endOk
 rcases h1 with ⟨rfl, rfl⟩ | rfl <;> rcases h2 with ⟨rfl, rfl⟩ | rfl <;> simp
 have := h3 rfl rfl
 omega
theorem PZ (a lo b hi : Int) : cZ a lo b hi = 0 \/ cZ a lo b hi = 4 \/ cZ a lo b hi = 5 \/ cZ a lo b hi = 12 := by
 unfold cZ
 (repeat' split) <;> omega
def IE (a lo b hi c lp d hp : Int) : Int := if bG a lo c lp = 0 then bG b hi d hp else bG a lo c lp
def GL (a lo b hi c lp d hp : Int) : Bool :=
 if bG c lp a lo < 0 then decide (bG a lo d hp <= 0) || (decide (d = 0) && decide (a = 0) && decide (hp + 1 = lo))
 else decide (bG c lp b hi <= 0) || (decide (b = 0) && decide (c = 0) && decide (hi + 1 = lp))
def aGW (a lo b hi x : Int) : Bool := (decide (a = -1) || decide (lo <= x)) && (decide (b = 1) || decide (x <= hi))
def kU (a lo b hi c lp : Int) : Bool := if c = -1 then decide (a = -1) else aGW a lo b hi lp
def YW (b hi c lp : Int) : Bool := decide (b = 0) && decide (c = 0) && decide (hi < 9223372036854775807) && decide (hi + 1 = lp)
def GK (a lo b hi c lp d hp : Int) : Bool := kU a lo b hi c lp || kU c lp d hp a lo || YW b hi c lp || YW d hp a lo
def aEl (a lo b hi c lp d hp : Int) : Bool := decide (0 < IE a lo b hi c lp d hp) || GL a lo b hi c lp d hp
def badR (a lo b hi c lp d hp : Int) : Bool := decide (0 <= bG b hi c lp) || GK a lo b hi c lp d hp
theorem bad_eq {a lo b hi c lp d hp : Int} (h : Right a lo b hi) (g : Right c lp d hp) (h0 : -9223372036854775808 <= lo) (h1 : lo < 9223372036854775808) (h2 : -9223372036854775808 <= hi) (h3 : hi < 9223372036854775808)
 (g0 : -9223372036854775808 <= lp) (g1 : lp < 9223372036854775808) (g2 : -9223372036854775808 <= hp) (g3 : hp < 9223372036854775808) : aEl a lo b hi c lp d hp = badR a lo b hi c lp d hp := by
 obtain ⟨x1, x2, x3⟩ := h
 obtain ⟨y1, y2, y3⟩ := g
 rw [Bool.eq_iff_iff]
 unfold aEl badR GL GK IE bG kU aGW YW
 rcases x1 with ⟨rfl, rfl⟩ | rfl <;> rcases x2 with ⟨rfl, rfl⟩ | rfl <;> rcases y1 with ⟨rfl, rfl⟩ | rfl <;> rcases y2 with ⟨rfl, rfl⟩ | rfl <;> simp at x3 y3 ⊢ <;> (repeat' split) <;> (try simp) <;> (try omega)
end Sk
end
section
namespace Sk
def scan (f : Nat -> Int) : Nat -> Nat -> Int
 | 0, _ => 0
 | k + 1, i => if f i = 0 then scan f k (i + 1) else f i
theorem aCV (f : Nat -> Int) (i : Nat) : scan f 0 i = 0 := rfl
theorem scan_ok {f : Nat -> Int} {k i : Nat} (h : f i = 0) : scan f (k + 1) i = scan f k (i + 1) := by
 rw [scan, if_pos h]
theorem scan_bad {f : Nat -> Int} {k i : Nat} (h : f i ≠ 0) : scan f (k + 1) i = f i := by
 rw [scan, if_neg h]
theorem G8 {f g : Nat -> Int} : ∀ (k i : Nat), (∀ j, j < i -> f j = 0) -> (∀ i, (∀ j, j < i -> f j = 0) -> f i = g i) -> scan f k i = scan g k i
 | 0, i, _, _ => rfl
 | k + 1, i, h, hh => by
  have e := hh i h
  by_cases h0 : f i = 0
  . rw [scan_ok h0, scan_ok (e ▸ h0)]
    refine G8 k (i + 1) (fun j hj => ?_) hh
    by_cases e2 : j = i
    . rw [e2]; exact h0
    . exact h j (by omega)
  . rw [scan_bad h0, scan_bad (e ▸ h0)]; exact e
structure R4 where
 a : Int
 lo : Int
 b : Int
 hi : Int
def R4.err (r : R4) : Int := cZ r.a r.lo r.b r.hi
structure R4.Bd (r : R4) : Prop where
 h0 : -9223372036854775808 <= r.lo
 h1 : r.lo < 9223372036854775808
 h2 : -9223372036854775808 <= r.hi
 h3 : r.hi < 9223372036854775808
def OY (f : Nat -> R4) (i : Nat) : Int := if (f i).err = 0 then (if 0 < i /\ aEl (f (i - 1)).a (f (i - 1)).lo (f (i - 1)).b (f (i - 1)).hi (f i).a (f i).lo (f i).b (f i).hi = true then 12 else 0) else (f i).err
def atR (f : Nat -> R4) (i : Nat) : Int := if (f i).err = 0 then (if 0 < i /\ badR (f (i - 1)).a (f (i - 1)).lo (f (i - 1)).b (f (i - 1)).hi (f i).a (f i).lo (f i).b (f i).hi = true then 12 else 0) else (f i).err
theorem OX {f : Nat -> R4} {i : Nat} (h : OY f i = 0) : (f i).err = 0 := by
 unfold OY at h
 by_cases e : (f i).err = 0
 . exact e
 . rw [if_neg e] at h; exact h
theorem at_eq {f : Nat -> R4} {i : Nat} (hb : ∀ j, (f j).Bd) (h : ∀ j, j < i -> OY f j = 0) : OY f i = atR f i := by
 unfold OY atR
 by_cases e : (f i).err = 0
 . rw [if_pos e, if_pos e]
   by_cases hi : 0 < i
   . have e2 := OX (h (i - 1) (by omega))
     rw [bad_eq (uJ e2) (uJ e) (hb _).h0 (hb _).h1 (hb _).h2 (hb _).h3 (hb _).h0 (hb _).h1 (hb _).h2 (hb _).h3]
   . rw [if_neg (fun h => hi h.1), if_neg (fun h => hi h.1)]
 . rw [if_neg e, if_neg e]
theorem aLt {f : Nat -> R4} (hb : ∀ j, (f j).Bd) (n : Nat) : scan (OY f) n 0 = scan (atR f) n 0 :=
 G8 n 0 (fun j hj => by omega) (fun i h => at_eq hb h)
def kY (f : Nat -> R4) (n : Nat) : Int := if 4096 < n then 3 else scan (OY f) n 0
end Sk
end
section
open Go.RowKit Go.Lib
namespace Sk
open Un (ba bt ri rb)
open Bk (Rw)
def AU (a b : Int) : Int := if a < b then -1 else if b < a then 1 else 0
theorem aCh {a b : Int} (h : a < b) : -1 = AU a b := by unfold AU; rw [if_pos h]
theorem aCi {a b : Int} (h : b < a) : 1 = AU a b := by unfold AU; rw [if_neg (by omega), if_pos h]
theorem aCj {a b : Int} (h : a <= b) (h2 : b <= a) : 0 = AU a b := by unfold AU; rw [if_neg (by omega), if_neg (by omega)]
theorem aD9 (i d j e : Int) : bG i d j e = if AU i j = 0 then AU d e else AU i j := by
 unfold bG AU
 (repeat' split) <;> omega
theorem aPJ (a b : Int) (w : World) :
 Calls Tryz.prog 102 #[.int .i64 a, .int .i64 b] w fun e w' => e = .returned (.int .i64 (AU a b)) /\ w = w' := by
 go_enter Tryz.func102, Tryz.ntmps102
 go_wp2
 all_goals go_ret
 . exact ⟨ri (aCh (by assumption)), rfl⟩
 . exact ⟨ri (aCi (by assumption)), rfl⟩
 . exact ⟨ri (aCj (by assumption) (by assumption)), rfl⟩
theorem aTm (a b : Int) (w : World) :
 Calls Tryz.prog 101 #[.int .i8 a, .int .i8 b] w fun e w' => e = .returned (.int .i64 (AU a b)) /\ w = w' := by
 go_enter Tryz.func101, Tryz.ntmps101
 go_wp2
 all_goals go_ret
 . exact ⟨ri (aCh (by assumption)), rfl⟩
 . exact ⟨ri (aCi (by assumption)), rfl⟩
 . exact ⟨ri (aCj (by assumption) (by assumption)), rfl⟩
def FV (i d : Int) : Int := if endOk i d then 0 else 5
theorem sK (i d : Int) (w : World) :
 Calls Tryz.prog 77 #[ev i d] w fun r w' => r = .returned (.int .i64 (FV i d)) /\ Below w.heap.size w w' := by
 unfold ev
 by_cases h0 : i = 0
 . subst h0
   go_enter Tryz.func77, Tryz.ntmps77
   go_wp2
   go_ret
   exact ⟨by simp [FV, endOk], ba (Below.refl _ _) _⟩
 . by_cases h1 : i = 1
   . subst h1
     by_cases hd : d = 0
     . subst hd
       go_enter Tryz.func77, Tryz.ntmps77
       go_wp2
       go_ret
       exact ⟨by simp [FV, endOk], ba (Below.refl _ _) _⟩
     . go_enter Tryz.func77, Tryz.ntmps77
       go_wp2
       go_ret
       exact ⟨by simp [FV, endOk, hd], ba (Below.refl _ _) _⟩
   . by_cases h2 : i = -1
     . subst h2
       by_cases hd : d = 0
       . subst hd
         go_enter Tryz.func77, Tryz.ntmps77
         go_wp2
         go_ret
         exact ⟨by simp [FV, endOk], ba (Below.refl _ _) _⟩
       . go_enter Tryz.func77, Tryz.ntmps77
         go_wp2
         go_ret
         exact ⟨by simp [FV, endOk, hd], ba (Below.refl _ _) _⟩
     . go_enter Tryz.func77, Tryz.ntmps77
       go_wp2
       go_ret
       exact ⟨by simp [FV, endOk, h0, h1, h2], ba (Below.refl _ _) _⟩
theorem xE (i d : Int) (w : World) :
 Calls Tryz.prog 73 #[ev i d] w fun r w' => r = .returned (.int .i64 (FV i d)) /\ Below w.heap.size w w' := by
 unfold ev
 by_cases h0 : i = 0
 . subst h0
   go_enter Tryz.func73, Tryz.ntmps73
   go_wp2
   go_ret
   exact ⟨by simp [FV, endOk], ba (Below.refl _ _) _⟩
 . by_cases hi : i = 1 \/ i = -1
   . rcases hi with rfl | rfl <;> by_cases hd : d = 0
     all_goals
      go_enter Tryz.func73, Tryz.ntmps73
      go_wp2
      go_ret
      exact ⟨by simp [FV, endOk, hd], ba (Below.refl _ _) _⟩
   . have h1 : i ≠ 1 := fun h => hi (.inl h)
     have h2 : i ≠ -1 := fun h => hi (.inr h)
     go_enter Tryz.func73, Tryz.ntmps73
     go_wp2
     go_ret
     exact ⟨by simp [FV, endOk, h0, h1, h2], ba (Below.refl _ _) _⟩
theorem DY (i d j e : Int) (w : World) :
 Calls Tryz.prog 69 #[ev i d, ev j e] w fun r w' => r = .returned (.int .i64 (bG i d j e)) /\ Below w.heap.size w w' := by
 unfold ev
 go_enter Tryz.func69, Tryz.ntmps69
 go_wp2
 all_goals go_ret
 all_goals exact ⟨ri (by unfold bG; (repeat' split) <;> omega), ba (ba (Below.refl _ _) _) _⟩
theorem aFA (g : Nat) (a b : Int) (w : World) (h0 : w.cell? ⟨g, 0, none⟩ = some (.int .i64 a)) (h1 : w.cell? ⟨g, 1, none⟩ = some (.int .i64 b)) :
 Calls Tryz.prog 100 #[.slice (some ⟨g, 0, none⟩) 2 2] w fun r w' => r = .returned (.int .i64 (if a = 0 then b else a)) /\ w = w' := by
 by_cases ha : a = 0
 . subst ha
   rw [if_pos rfl]
   by_cases hb : b = 0
   . subst hb
     go_enter Tryz.func100, Tryz.ntmps100
     go_wp2
     refine wp_loop_rounds 3 ?_
     rw [rounds_succ]
     go_wp2
     rw [rounds_succ]
     go_wp2
     rw [rounds_succ]
     go_wp2
     go_ret
     exact ⟨rfl, rfl⟩
   . go_enter Tryz.func100, Tryz.ntmps100
     go_wp2
     refine wp_loop_rounds 2 ?_
     rw [rounds_succ]
     go_wp2
     rw [rounds_succ]
     go_wp2
     go_ret
     exact ⟨rfl, rfl⟩
 . rw [if_neg ha]
   go_enter Tryz.func100, Tryz.ntmps100
   go_wp2
   refine wp_loop_rounds 1 ?_
   rw [rounds_succ]
   go_wp2
   go_ret
   exact ⟨rfl, rfl⟩
theorem dM (w : World) (o : Obj) : (w.alloc o).heap.size = w.heap.size + 1 := by show (w.heap.push o).size = _; simp
structure E2 (p q : Nat) (i d j e : Int) (w W : World) : Prop where
 a : Rw p [.int .i8 i, .int .i64 d] w W
 b : Rw q [.int .i8 j, .int .i64 e] w W
theorem E2.later {p q : Nat} {i d j e : Int} {w W W2 : World} (h : E2 p q i d j e w W) (hb : Below W.heap.size W W2) : E2 p q i d j e w W2 := ⟨h.a.later hb, h.b.later hb⟩
theorem E2.S {p q : Nat} {i d j e : Int} {w W : World} (h : E2 p q i d j e w W) : W.cell? ⟨p, 0, none⟩ = some (.int .i8 i) /\ W.cell? ⟨p, 1, none⟩ = some (.int .i64 d) /\ W.cell? ⟨q, 0, none⟩ = some (.int .i8 j) /\ W.cell? ⟨q, 1, none⟩ = some (.int .i64 e) /\ E2 p q i d j e w W :=
 ⟨h.a.cell 0 _ rfl, h.a.cell 1 _ rfl, h.b.cell 0 _ rfl, h.b.cell 1 _ rfl, h⟩
theorem E2.new (i d j e : Int) (w : World) (t t2 : TypeId) : E2 w.heap.size (w.heap.size + 1) i d j e w ((w.alloc (.cells #[.int .i8 i, .int .i64 d] t)).alloc (.cells #[.int .i8 j, .int .i64 e] t2)) := by
 have f1 := Rw.fresh (Below.refl w.heap.size w) [.int .i8 i, .int .i64 d] t
 have f2 := Rw.fresh f1.below [.int .i8 j, .int .i64 e] t2
 simp only [dM] at f2
 exact ⟨f1.later (ba (Below.refl _ _) _), f2⟩
theorem gY (i d j e : Int) (w : World) :
 Calls Tryz.prog 78 #[ev i d, ev j e] w fun r w' => r = .returned (.int .i64 (bG i d j e)) /\ Below w.heap.size w w' := by
 unfold ev
 rw [aD9]
 obtain ⟨x, hx⟩ : ∃ x, x = AU i j := ⟨_, rfl⟩
 obtain ⟨y, hy⟩ : ∃ y, y = AU d e := ⟨_, rfl⟩
 have H8 := Lib.hid (fun w => aTm i j w)
 have H64 := Lib.hid (fun w => aPJ d e w)
 rw [<- hx] at H8
 rw [<- hy] at H64
 rw [<- hx, <- hy]
 clear hx hy
 obtain ⟨z, hz⟩ : ∃ z, z = if x = 0 then y else x := ⟨_, rfl⟩
 rw [<- hz]
 have HO := fun g w h0 h1 => aFA g x y w h0 h1
 rw [<- hz] at HO
 replace HO := Lib.hid HO
 clear hz
 go_enter Tryz.func78, Tryz.ntmps78
 have hE := E2.new i d j e w 40 40
 go_upto_region 1 with (fail)
 generalize World.alloc _ _ = W0 at hE ⊢
 generalize w.heap.size + 1 = q at *
 generalize w.heap.size = p at *
 replace hE := Lib.hid (hE.later (Below.refl _ _).drew)
 go_region_held3 (fun w' => w'.cell? ⟨p, 0, none⟩ = some (.int .i8 i) /\ w'.cell? ⟨p, 1, none⟩ = some (.int .i64 d) /\ w'.cell? ⟨q, 0, none⟩ = some (.int .i8 j) /\ w'.cell? ⟨q, 1, none⟩ = some (.int .i64 e) /\ E2 p q i d j e w w') (first | exact hE.out.S | (have hk := ‹_ /\ _ /\ _ /\ _ /\ E2 _ _ _ _ _ _ _ _›; exact (hk.2.2.2.2.later (Below.refl _ _).drew).S) | (have hk := ‹_ /\ _ /\ _ /\ _ /\ E2 _ _ _ _ _ _ _ _›; exact (hk.2.2.2.2.later (ba (Below.refl _ _) _)).S) | assumption) ((first | (go_at_call 101; refine (H8.out _).mono ?_; rintro _ w6 ⟨rfl, rfl⟩) | (go_at_call 102; refine (H64.out _).mono ?_; rintro _ w6 ⟨rfl, rfl⟩) | (go_at_call 100; refine (HO.out _ _ (by simp) (by simp)).mono ?_; rintro _ w6 ⟨rfl, rfl⟩)))
 rename_i hk
 go_wp2
 go_ret
 exact ⟨rfl, hk.2.2.2.2.a.below⟩
end Sk
end
end Go.Proofs.YtacggmlngekidaaGreatDoor
