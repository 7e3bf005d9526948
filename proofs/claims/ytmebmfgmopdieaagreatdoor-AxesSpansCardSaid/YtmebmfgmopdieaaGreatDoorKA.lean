/- Values that stand in several entries (printed by genents.py). -/
import Derived.Test.YtmebmfgmopdieaaGreatDoorMF
import Derived.Test.YtmebmfgmopdieaaGreatDoorMR
/-! Values that stand in several entries (printed by genents.py). -/
set_option linter.unusedVariables false
namespace Go.Proofs.YtmebmfgmopdieaaGreatDoor
open Go.RowKit
namespace Ev
noncomputable def q0 : AV := .v (.int .u8 (0))
noncomputable def q1 : AV := .v (.bool false)
noncomputable def q2 : AV := .tup [q0, q1]
noncomputable def q3 : AV := .agg [q0, q0, q0]
noncomputable def q4 : AV := .v (.int .i64 (1))
noncomputable def q5 : AV := .v (.int .i64 (0))
noncomputable def q6 : AV := .v (.bool true)
noncomputable def q7 : AV := .v (.string ⟨#[49]⟩)
noncomputable def q8 : AV := .v (.int .i64 (16))
noncomputable def q9 : AV := .v (.string ⟨#[]⟩)
noncomputable def q10 : AV := .agg [q6, q6, q7, q8, q5, q9, q9, q0, q0, q0]
noncomputable def q11 : AV := .tup [q5, q1]
noncomputable def q12 : AV := .v (.func (.func 256) #[] #[])
noncomputable def q13 : AV := .v (.int .i64 (2))
noncomputable def q14 : AV := .v (.int .u8 (1))
noncomputable def q15 : AV := .agg [q14, q6, q6, q7, q8, q5, q9, q9, q0, q0, q0]
noncomputable def q16 : AV := .agg [q1, q6, q7, q8, q5, q9, q9, q0, q0, q0]
noncomputable def q17 : AV := .agg [q14, q1, q6, q7, q8, q5, q9, q9, q0, q0, q0]
noncomputable def q18 : AV := .v (.int .i64 (-10000000000000000))
noncomputable def q19 : AV := .v (.int .i8 (0))
noncomputable def q20 : AV := .tup [(.agg [q19, (.v (.int .i64 (-3652425000000000000))), q19, (.v (.int .i64 (-3652424999999999635)))]), q5]
noncomputable def q21 : AV := .v (.int .i64 (10000000000000000))
noncomputable def q22 : AV := .tup [(.agg [q19, (.v (.int .i64 (3652425000000000000))), q19, (.v (.int .i64 (3652425000000000365)))]), q5]
noncomputable def q23 : AV := .v (.int .u8 (2))
noncomputable def q24 : AV := .v (.slice none 0 0)
noncomputable def q25 : AV := .agg [q23, q1, q1, q9, q5, q5, q9, q9, q0, q0, q0, q14, q6, q6, q7, q8, q5, q9, q9, q0, q0, q0, q14, q1, q6, q7, q8, q5, q9, q9, q0, q0, q0, q24, q1, q1]
noncomputable def q26 : AV := .agg [q14, (.sl 15 0 1 1), q1, q1, q9, q5, q5, q9, q9, q0, q0, q0, q0, q19, q5, q19, q5]
noncomputable def q27 : AV := .tup [(.sl 15 0 1 1), q5]
noncomputable def q28 : AV := .agg [q19, (.v (.int .i64 (-3652425000000000000))), q19, (.v (.int .i64 (3652425000000000365)))]
noncomputable def q29 : AV := .tup [(.agg [(.v (.float .f64 14107904075875147976)), (.v (.float .f64 4884532039020372169)), q1]), q5]
noncomputable def q30 : AV := .v (.int .i64 (-9223372036854775808))
noncomputable def q31 : AV := .v (.float .f64 4850376798678024193)
noncomputable def q32 : AV := .tup [(.agg [(.v (.float .f64 4845873199050653697)), q31, q1]), q5]
noncomputable def q33 : AV := .v (.float .f64 4850376798678024194)
noncomputable def q34 : AV := .tup [(.agg [(.v (.float .f64 4845873199050653699)), q33, q1]), q5]
noncomputable def q35 : AV := .v (.float .f64 4850376798678024195)
noncomputable def q36 : AV := .tup [(.agg [(.v (.float .f64 4845873199050653701)), q35, q1]), q5]
noncomputable def q37 : AV := .v (.float .f64 4850376798678024196)
noncomputable def q38 : AV := .tup [(.agg [(.v (.float .f64 4845873199050653703)), q37, q1]), q5]
noncomputable def q39 : AV := .v (.float .f64 4850376798678024197)
noncomputable def q40 : AV := .tup [(.agg [(.v (.float .f64 4845873199050653705)), q39, q1]), q5]
noncomputable def q41 : AV := .v (.float .f64 4850376798678024198)
noncomputable def q42 : AV := .tup [(.agg [(.v (.float .f64 4845873199050653707)), q41, q1]), q5]
noncomputable def q43 : AV := .v (.float .f64 4850376798678024199)
noncomputable def q44 : AV := .tup [(.agg [(.v (.float .f64 4845873199050653709)), q43, q1]), q5]
noncomputable def q45 : AV := .v (.float .f64 4850376798678024200)
noncomputable def q46 : AV := .tup [(.agg [(.v (.float .f64 4845873199050653711)), q45, q1]), q5]
noncomputable def q47 : AV := .v (.float .f64 4850376798678024201)
noncomputable def q48 : AV := .tup [(.agg [(.v (.float .f64 4845873199050653713)), q47, q1]), q5]
noncomputable def q49 : AV := .tup [(.agg [(.v (.float .f64 4845873199050653715)), (.v (.float .f64 4850376798678024202)), q1]), q5]
noncomputable def q50 : AV := .v (.string ⟨#[50, 48, 48, 52]⟩)
noncomputable def q51 : AV := .agg [q1, q1, q50, q5, q5, q9, q9, q0, q0, q0]
noncomputable def q52 : AV := .v (.int .u8 (3))
noncomputable def q53 : AV := .agg [q52, q1, q1, q9, q5, q5, q9, q9, q0, q0, q0, q0, q1, q1, q9, q5, q5, q9, q9, q0, q0, q0, q0, q1, q1, q9, q5, q5, q9, q9, q0, q0, q0, (.sl 15 0 1 1), q6, q1]
noncomputable def q54 : AV := .tup [q14, q5]
noncomputable def q55 : AV := .v (.int .i64 (732311))
noncomputable def q56 : AV := .tup [(.agg [q19, (.v (.int .i64 (731946))), q19, q55]), q5]
noncomputable def q57 : AV := .v (.int .i64 (13))
noncomputable def q58 : AV := .v (.int .i64 (7))
noncomputable def q59 : AV := .v (.int .i64 (4))
noncomputable def q60 : AV := .agg [q14, q1, q1, q50, q5, q5, q9, q9, q0, q0, q0]
noncomputable def q61 : AV := .agg [q23, q1, q1, q9, q5, q5, q9, q9, q0, q0, q0]
noncomputable def q62 : AV := .agg [q23, q1, q1, q9, q5, q5, q9, q9, q0, q0, q0, q23, q1, q1, q9, q5, q5, q9, q9, q0, q0, q0, q14, q1, q1, q50, q5, q5, q9, q9, q0, q0, q0, q24, q1, q1]
noncomputable def q63 : AV := .v (.int .i64 (3))
noncomputable def q64 : AV := .v (.string ⟨#[48, 48, 48, 48]⟩)
noncomputable def q65 : AV := .v (.string ⟨#[48, 49]⟩)
noncomputable def q66 : AV := .agg [q1, q1, q64, q5, q5, q65, q65, q0, q0, q0]
noncomputable def q67 : AV := .v (.int .i64 (31))
noncomputable def q68 : AV := .agg [q1, q1, q64, q5, q5, q65, q65, q0, q0, q0, (.slU 15 0 1 0), (.slU 16 0 1 0)]
noncomputable def q69 : AV := .v (.string ⟨#[48, 48, 48, 48, 45, 48, 49, 45, 48, 49]⟩)
noncomputable def q70 : AV := .v (.string ⟨#[100, 100, 100, 100, 45, 100, 100, 45, 100, 100]⟩)
noncomputable def q71 : AV := .agg [q14, q1, q1, q64, q5, q5, q65, q65, q0, q0, q0]
noncomputable def q72 : AV := .v (.string ⟨#[48, 50]⟩)
noncomputable def q73 : AV := .agg [q1, q1, q64, q5, q5, q65, q72, q0, q0, q0]
noncomputable def q74 : AV := .agg [q1, q1, q64, q5, q5, q65, q72, q0, q0, q0, (.slU 15 0 1 0), (.slU 16 0 1 0)]
noncomputable def q75 : AV := .v (.string ⟨#[48, 48, 48, 48, 45, 48, 49, 45, 48, 50]⟩)
noncomputable def q76 : AV := .agg [q14, q1, q1, q64, q5, q5, q65, q72, q0, q0, q0]
noncomputable def q77 : AV := .agg [q23, q1, q1, q9, q5, q5, q9, q9, q0, q0, q0, q14, q1, q1, q64, q5, q5, q65, q65, q0, q0, q0, q14, q1, q1, q64, q5, q5, q65, q72, q0, q0, q0, q24, q1, q1]
noncomputable def q78 : AV := .tup [(.agg [(.v (.float .f64 0)), (.v (.float .f64 4607182418800017408)), q6]), q5]
noncomputable def q79 : AV := .agg [q23, q1, q1, q9, q5, q5, q9, q9, q0, q0, q0, q23, q1, q1, q9, q5, q5, q9, q9, q0, q0, q0, q14, q1, q1, q64, q5, q5, q65, q65, q0, q0, q0, q24, q1, q1]
noncomputable def q80 : AV := .tup [(.agg [(.v (.float .f64 18442240474082181120)), (.v (.float .f64 0)), q6]), q5]
noncomputable def q81 : AV := .v (.string ⟨#[57, 57, 57, 57, 57, 57, 57, 57, 57, 57, 57, 57, 57, 57, 57, 57]⟩)
noncomputable def q82 : AV := .agg [q1, q6, q81, q5, q5, q9, q9, q0, q0, q0]
noncomputable def q83 : AV := .v (.string ⟨#[89, 57, 57, 57, 57, 57, 57, 57, 57, 57, 57, 57, 57, 57, 57, 57, 57]⟩)
noncomputable def q84 : AV := .agg [q14, q1, q6, q81, q5, q5, q9, q9, q0, q0, q0, q0, q1, q1, q9, q5, q5, q9, q9, q0, q0, q0, q0, q1, q1, q9, q5, q5, q9, q9, q0, q0, q0, q24, q1, q1]
noncomputable def q85 : AV := .v (.int .i64 (9999999999999999))
noncomputable def q86 : AV := .agg [q19, (.v (.int .i64 (3652424999999999635))), q19, (.v (.int .i64 (3652424999999999999)))]
noncomputable def q87 : AV := .tup [(.agg [(.v (.float .f64 4884532039020372167)), (.v (.float .f64 4884532039020372168)), q1]), q5]
noncomputable def q88 : AV := .agg [q1, q1, q64, q5, q5, q9, q9, q0, q0, q0]
noncomputable def q89 : AV := .agg [q14, q1, q1, q64, q5, q5, q9, q9, q0, q0, q0, q0, q1, q1, q9, q5, q5, q9, q9, q0, q0, q0, q0, q1, q1, q9, q5, q5, q9, q9, q0, q0, q0, q24, q1, q1]
noncomputable def q90 : AV := .tup [(.agg [q19, q5, q19, (.v (.int .i64 (365)))]), q5]
noncomputable def q91 : AV := .agg [q14, q1, q1, q64, q5, q5, q9, q9, q0, q0, q0]
noncomputable def q92 : AV := .agg [q23, q1, q1, q9, q5, q5, q9, q9, q0, q0, q0, q14, q1, q1, q64, q5, q5, q9, q9, q0, q0, q0, q23, q1, q1, q9, q5, q5, q9, q9, q0, q0, q0, q24, q1, q1]
noncomputable def q93 : AV := .agg [q23, q1, q1, q9, q5, q5, q9, q9, q0, q0, q0, q14, q1, q1, q64, q5, q5, q9, q9, q0, q0, q0, q52, q1, q1, q9, q5, q5, q9, q9, q0, q0, q0, q24, q1, q1]
noncomputable def q94 : AV := .agg [q52, q1, q1, q9, q5, q5, q9, q9, q0, q0, q0]
end Ev
end Go.Proofs.YtmebmfgmopdieaaGreatDoor

/-! Calls that were reckoned, level 0 (printed by genents.py). -/
set_option linter.unusedVariables false
set_option maxRecDepth 1000000
namespace Go.Proofs.YtmebmfgmopdieaaGreatDoor
open Go.RowKit
namespace Ev
/-- circa/axes.Run: 24963 operations. -/
noncomputable def esEnA0a0 : List Entry := [⟨[q28], [], q29, []⟩,
  ⟨[(.agg [q19, q30, q19, (.v (.int .i64 (9223372036854775807)))])], [], (.tup [(.agg [(.v (.float .f64 14114281232179134464)), (.v (.float .f64 4890909195324358656)), q1]), q5]), []⟩,
  ⟨[(.agg [q19, (.v (.int .i64 (9007199254740952))), q19, (.v (.int .i64 (18014398509481944)))])], [], (.tup [(.agg [(.v (.float .f64 4845873199050653656)), (.v (.float .f64 4850376798678024172)), q6]), q5]), []⟩,
  ⟨[(.agg [q19, (.v (.int .i64 (9007199254740953))), q19, (.v (.int .i64 (18014398509481945)))])], [], (.tup [(.agg [(.v (.float .f64 4845873199050653657)), (.v (.float .f64 4850376798678024173)), q1]), q5]), []⟩,
  ⟨[(.agg [q19, (.v (.int .i64 (9007199254740954))), q19, (.v (.int .i64 (18014398509481946)))])], [], (.tup [(.agg [(.v (.float .f64 4845873199050653658)), (.v (.float .f64 4850376798678024173)), q6]), q5]), []⟩,
  ⟨[(.agg [q19, (.v (.int .i64 (9007199254740955))), q19, (.v (.int .i64 (18014398509481947)))])], [], (.tup [(.agg [(.v (.float .f64 4845873199050653659)), (.v (.float .f64 4850376798678024174)), q1]), q5]), []⟩,
  ⟨[(.agg [q19, (.v (.int .i64 (9007199254740956))), q19, (.v (.int .i64 (18014398509481948)))])], [], (.tup [(.agg [(.v (.float .f64 4845873199050653660)), (.v (.float .f64 4850376798678024174)), q6]), q5]), []⟩,
  ⟨[(.agg [q19, (.v (.int .i64 (9007199254740957))), q19, (.v (.int .i64 (18014398509481949)))])], [], (.tup [(.agg [(.v (.float .f64 4845873199050653661)), (.v (.float .f64 4850376798678024175)), q1]), q5]), []⟩,
  ⟨[(.agg [q19, (.v (.int .i64 (9007199254740958))), q19, (.v (.int .i64 (18014398509481950)))])], [], (.tup [(.agg [(.v (.float .f64 4845873199050653662)), (.v (.float .f64 4850376798678024175)), q6]), q5]), []⟩,
  ⟨[(.agg [q19, (.v (.int .i64 (9007199254740959))), q19, (.v (.int .i64 (18014398509481951)))])], [], (.tup [(.agg [(.v (.float .f64 4845873199050653663)), (.v (.float .f64 4850376798678024176)), q1]), q5]), []⟩,
  ⟨[(.agg [q19, (.v (.int .i64 (9007199254740960))), q19, (.v (.int .i64 (18014398509481952)))])], [], (.tup [(.agg [(.v (.float .f64 4845873199050653664)), (.v (.float .f64 4850376798678024176)), q6]), q5]), []⟩,
  ⟨[(.agg [q19, (.v (.int .i64 (9007199254740961))), q19, (.v (.int .i64 (18014398509481953)))])], [], (.tup [(.agg [(.v (.float .f64 4845873199050653665)), (.v (.float .f64 4850376798678024177)), q1]), q5]), []⟩,
  ⟨[(.agg [q19, (.v (.int .i64 (9007199254740962))), q19, (.v (.int .i64 (18014398509481954)))])], [], (.tup [(.agg [(.v (.float .f64 4845873199050653666)), (.v (.float .f64 4850376798678024177)), q6]), q5]), []⟩,
  ⟨[(.agg [q19, (.v (.int .i64 (9007199254740963))), q19, (.v (.int .i64 (18014398509481955)))])], [], (.tup [(.agg [(.v (.float .f64 4845873199050653667)), (.v (.float .f64 4850376798678024178)), q1]), q5]), []⟩,
  ⟨[(.agg [q19, (.v (.int .i64 (9007199254740964))), q19, (.v (.int .i64 (18014398509481956)))])], [], (.tup [(.agg [(.v (.float .f64 4845873199050653668)), (.v (.float .f64 4850376798678024178)), q6]), q5]), []⟩,
  ⟨[(.agg [q19, (.v (.int .i64 (9007199254740965))), q19, (.v (.int .i64 (18014398509481957)))])], [], (.tup [(.agg [(.v (.float .f64 4845873199050653669)), (.v (.float .f64 4850376798678024179)), q1]), q5]), []⟩,
  ⟨[(.agg [q19, (.v (.int .i64 (9007199254740966))), q19, (.v (.int .i64 (18014398509481958)))])], [], (.tup [(.agg [(.v (.float .f64 4845873199050653670)), (.v (.float .f64 4850376798678024179)), q6]), q5]), []⟩,
  ⟨[(.agg [q19, (.v (.int .i64 (9007199254740967))), q19, (.v (.int .i64 (18014398509481959)))])], [], (.tup [(.agg [(.v (.float .f64 4845873199050653671)), (.v (.float .f64 4850376798678024180)), q1]), q5]), []⟩,
  ⟨[(.agg [q19, (.v (.int .i64 (9007199254740968))), q19, (.v (.int .i64 (18014398509481960)))])], [], (.tup [(.agg [(.v (.float .f64 4845873199050653672)), (.v (.float .f64 4850376798678024180)), q6]), q5]), []⟩,
  ⟨[(.agg [q19, (.v (.int .i64 (9007199254740969))), q19, (.v (.int .i64 (18014398509481961)))])], [], (.tup [(.agg [(.v (.float .f64 4845873199050653673)), (.v (.float .f64 4850376798678024181)), q1]), q5]), []⟩,
  ⟨[(.agg [q19, (.v (.int .i64 (9007199254740970))), q19, (.v (.int .i64 (18014398509481962)))])], [], (.tup [(.agg [(.v (.float .f64 4845873199050653674)), (.v (.float .f64 4850376798678024181)), q6]), q5]), []⟩,
  ⟨[(.agg [q19, (.v (.int .i64 (9007199254740971))), q19, (.v (.int .i64 (18014398509481963)))])], [], (.tup [(.agg [(.v (.float .f64 4845873199050653675)), (.v (.float .f64 4850376798678024182)), q1]), q5]), []⟩,
  ⟨[(.agg [q19, (.v (.int .i64 (9007199254740972))), q19, (.v (.int .i64 (18014398509481964)))])], [], (.tup [(.agg [(.v (.float .f64 4845873199050653676)), (.v (.float .f64 4850376798678024182)), q6]), q5]), []⟩,
  ⟨[(.agg [q19, (.v (.int .i64 (9007199254740973))), q19, (.v (.int .i64 (18014398509481965)))])], [], (.tup [(.agg [(.v (.float .f64 4845873199050653677)), (.v (.float .f64 4850376798678024183)), q1]), q5]), []⟩,
  ⟨[(.agg [q19, (.v (.int .i64 (9007199254740974))), q19, (.v (.int .i64 (18014398509481966)))])], [], (.tup [(.agg [(.v (.float .f64 4845873199050653678)), (.v (.float .f64 4850376798678024183)), q6]), q5]), []⟩]
theorem esEnA0a0_made : madeE tbu (callM tbu .nil 100) hp 7 esEnA0a0 = true := by kernel_rfl
theorem esEnA0a0_ok {w0 : World} (hl : laidMetH Tryz.prog Rows.axesKnownRow.laid w0) : EsOk tbu w0 hp 7 esEnA0a0 := madeE_ok (tbu_ok w0) msOk_nil (start_ok hl) esEnA0a0_made
/-- circa/axes.Run: 24399 operations. -/
noncomputable def esEnA0a1 : List Entry := [⟨[(.agg [q19, (.v (.int .i64 (9007199254740975))), q19, (.v (.int .i64 (18014398509481967)))])], [], (.tup [(.agg [(.v (.float .f64 4845873199050653679)), (.v (.float .f64 4850376798678024184)), q1]), q5]), []⟩,
  ⟨[(.agg [q19, (.v (.int .i64 (9007199254740976))), q19, (.v (.int .i64 (18014398509481968)))])], [], (.tup [(.agg [(.v (.float .f64 4845873199050653680)), (.v (.float .f64 4850376798678024184)), q6]), q5]), []⟩,
  ⟨[(.agg [q19, (.v (.int .i64 (9007199254740977))), q19, (.v (.int .i64 (18014398509481969)))])], [], (.tup [(.agg [(.v (.float .f64 4845873199050653681)), (.v (.float .f64 4850376798678024185)), q1]), q5]), []⟩,
  ⟨[(.agg [q19, (.v (.int .i64 (9007199254740978))), q19, (.v (.int .i64 (18014398509481970)))])], [], (.tup [(.agg [(.v (.float .f64 4845873199050653682)), (.v (.float .f64 4850376798678024185)), q6]), q5]), []⟩,
  ⟨[(.agg [q19, (.v (.int .i64 (9007199254740979))), q19, (.v (.int .i64 (18014398509481971)))])], [], (.tup [(.agg [(.v (.float .f64 4845873199050653683)), (.v (.float .f64 4850376798678024186)), q1]), q5]), []⟩,
  ⟨[(.agg [q19, (.v (.int .i64 (9007199254740980))), q19, (.v (.int .i64 (18014398509481972)))])], [], (.tup [(.agg [(.v (.float .f64 4845873199050653684)), (.v (.float .f64 4850376798678024186)), q6]), q5]), []⟩,
  ⟨[(.agg [q19, (.v (.int .i64 (9007199254740981))), q19, (.v (.int .i64 (18014398509481973)))])], [], (.tup [(.agg [(.v (.float .f64 4845873199050653685)), (.v (.float .f64 4850376798678024187)), q1]), q5]), []⟩,
  ⟨[(.agg [q19, (.v (.int .i64 (9007199254740982))), q19, (.v (.int .i64 (18014398509481974)))])], [], (.tup [(.agg [(.v (.float .f64 4845873199050653686)), (.v (.float .f64 4850376798678024187)), q6]), q5]), []⟩,
  ⟨[(.agg [q19, (.v (.int .i64 (9007199254740983))), q19, (.v (.int .i64 (18014398509481975)))])], [], (.tup [(.agg [(.v (.float .f64 4845873199050653687)), (.v (.float .f64 4850376798678024188)), q1]), q5]), []⟩,
  ⟨[(.agg [q19, (.v (.int .i64 (9007199254740984))), q19, (.v (.int .i64 (18014398509481976)))])], [], (.tup [(.agg [(.v (.float .f64 4845873199050653688)), (.v (.float .f64 4850376798678024188)), q6]), q5]), []⟩,
  ⟨[(.agg [q19, (.v (.int .i64 (9007199254740985))), q19, (.v (.int .i64 (18014398509481977)))])], [], (.tup [(.agg [(.v (.float .f64 4845873199050653689)), (.v (.float .f64 4850376798678024189)), q1]), q5]), []⟩,
  ⟨[(.agg [q19, (.v (.int .i64 (9007199254740986))), q19, (.v (.int .i64 (18014398509481978)))])], [], (.tup [(.agg [(.v (.float .f64 4845873199050653690)), (.v (.float .f64 4850376798678024189)), q6]), q5]), []⟩,
  ⟨[(.agg [q19, (.v (.int .i64 (9007199254740987))), q19, (.v (.int .i64 (18014398509481979)))])], [], (.tup [(.agg [(.v (.float .f64 4845873199050653691)), (.v (.float .f64 4850376798678024190)), q1]), q5]), []⟩,
  ⟨[(.agg [q19, (.v (.int .i64 (9007199254740988))), q19, (.v (.int .i64 (18014398509481980)))])], [], (.tup [(.agg [(.v (.float .f64 4845873199050653692)), (.v (.float .f64 4850376798678024190)), q6]), q5]), []⟩,
  ⟨[(.agg [q19, (.v (.int .i64 (9007199254740989))), q19, (.v (.int .i64 (18014398509481981)))])], [], (.tup [(.agg [(.v (.float .f64 4845873199050653693)), (.v (.float .f64 4850376798678024191)), q1]), q5]), []⟩,
  ⟨[(.agg [q19, (.v (.int .i64 (9007199254740990))), q19, (.v (.int .i64 (18014398509481982)))])], [], (.tup [(.agg [(.v (.float .f64 4845873199050653694)), (.v (.float .f64 4850376798678024191)), q6]), q5]), []⟩,
  ⟨[(.agg [q19, (.v (.int .i64 (9007199254740991))), q19, (.v (.int .i64 (18014398509481983)))])], [], (.tup [(.agg [(.v (.float .f64 4845873199050653695)), (.v (.float .f64 4850376798678024192)), q1]), q5]), []⟩,
  ⟨[(.agg [q19, (.v (.int .i64 (9007199254740992))), q19, (.v (.int .i64 (18014398509481984)))])], [], (.tup [(.agg [(.v (.float .f64 4845873199050653696)), (.v (.float .f64 4850376798678024192)), q6]), q5]), []⟩,
  ⟨[(.agg [q19, (.v (.int .i64 (9007199254740993))), q19, (.v (.int .i64 (18014398509481985)))])], [], (.tup [(.agg [(.v (.float .f64 4845873199050653696)), q31, q1]), q5]), []⟩,
  ⟨[(.agg [q19, (.v (.int .i64 (9007199254740994))), q19, (.v (.int .i64 (18014398509481986)))])], [], q32, []⟩,
  ⟨[(.agg [q19, (.v (.int .i64 (9007199254740995))), q19, (.v (.int .i64 (18014398509481987)))])], [], q32, []⟩,
  ⟨[(.agg [q19, (.v (.int .i64 (9007199254740996))), q19, (.v (.int .i64 (18014398509481988)))])], [], (.tup [(.agg [(.v (.float .f64 4845873199050653698)), q31, q6]), q5]), []⟩,
  ⟨[(.agg [q19, (.v (.int .i64 (9007199254740997))), q19, (.v (.int .i64 (18014398509481989)))])], [], (.tup [(.agg [(.v (.float .f64 4845873199050653698)), q33, q1]), q5]), []⟩,
  ⟨[(.agg [q19, (.v (.int .i64 (9007199254740998))), q19, (.v (.int .i64 (18014398509481990)))])], [], q34, []⟩]
theorem esEnA0a1_made : madeE tbu (callM tbu .nil 100) hp 7 esEnA0a1 = true := by kernel_rfl
theorem esEnA0a1_ok {w0 : World} (hl : laidMetH Tryz.prog Rows.axesKnownRow.laid w0) : EsOk tbu w0 hp 7 esEnA0a1 := madeE_ok (tbu_ok w0) msOk_nil (start_ok hl) esEnA0a1_made
/-- circa/axes.Run: 24296 operations. -/
noncomputable def esEnA0a2 : List Entry := [⟨[(.agg [q19, (.v (.int .i64 (9007199254740999))), q19, (.v (.int .i64 (18014398509481991)))])], [], q34, []⟩,
  ⟨[(.agg [q19, (.v (.int .i64 (9007199254741000))), q19, (.v (.int .i64 (18014398509481992)))])], [], (.tup [(.agg [(.v (.float .f64 4845873199050653700)), q33, q6]), q5]), []⟩,
  ⟨[(.agg [q19, (.v (.int .i64 (9007199254741001))), q19, (.v (.int .i64 (18014398509481993)))])], [], (.tup [(.agg [(.v (.float .f64 4845873199050653700)), q35, q1]), q5]), []⟩,
  ⟨[(.agg [q19, (.v (.int .i64 (9007199254741002))), q19, (.v (.int .i64 (18014398509481994)))])], [], q36, []⟩,
  ⟨[(.agg [q19, (.v (.int .i64 (9007199254741003))), q19, (.v (.int .i64 (18014398509481995)))])], [], q36, []⟩,
  ⟨[(.agg [q19, (.v (.int .i64 (9007199254741004))), q19, (.v (.int .i64 (18014398509481996)))])], [], (.tup [(.agg [(.v (.float .f64 4845873199050653702)), q35, q6]), q5]), []⟩,
  ⟨[(.agg [q19, (.v (.int .i64 (9007199254741005))), q19, (.v (.int .i64 (18014398509481997)))])], [], (.tup [(.agg [(.v (.float .f64 4845873199050653702)), q37, q1]), q5]), []⟩,
  ⟨[(.agg [q19, (.v (.int .i64 (9007199254741006))), q19, (.v (.int .i64 (18014398509481998)))])], [], q38, []⟩,
  ⟨[(.agg [q19, (.v (.int .i64 (9007199254741007))), q19, (.v (.int .i64 (18014398509481999)))])], [], q38, []⟩,
  ⟨[(.agg [q19, (.v (.int .i64 (9007199254741008))), q19, (.v (.int .i64 (18014398509482000)))])], [], (.tup [(.agg [(.v (.float .f64 4845873199050653704)), q37, q6]), q5]), []⟩,
  ⟨[(.agg [q19, (.v (.int .i64 (9007199254741009))), q19, (.v (.int .i64 (18014398509482001)))])], [], (.tup [(.agg [(.v (.float .f64 4845873199050653704)), q39, q1]), q5]), []⟩,
  ⟨[(.agg [q19, (.v (.int .i64 (9007199254741010))), q19, (.v (.int .i64 (18014398509482002)))])], [], q40, []⟩,
  ⟨[(.agg [q19, (.v (.int .i64 (9007199254741011))), q19, (.v (.int .i64 (18014398509482003)))])], [], q40, []⟩,
  ⟨[(.agg [q19, (.v (.int .i64 (9007199254741012))), q19, (.v (.int .i64 (18014398509482004)))])], [], (.tup [(.agg [(.v (.float .f64 4845873199050653706)), q39, q6]), q5]), []⟩,
  ⟨[(.agg [q19, (.v (.int .i64 (9007199254741013))), q19, (.v (.int .i64 (18014398509482005)))])], [], (.tup [(.agg [(.v (.float .f64 4845873199050653706)), q41, q1]), q5]), []⟩,
  ⟨[(.agg [q19, (.v (.int .i64 (9007199254741014))), q19, (.v (.int .i64 (18014398509482006)))])], [], q42, []⟩,
  ⟨[(.agg [q19, (.v (.int .i64 (9007199254741015))), q19, (.v (.int .i64 (18014398509482007)))])], [], q42, []⟩,
  ⟨[(.agg [q19, (.v (.int .i64 (9007199254741016))), q19, (.v (.int .i64 (18014398509482008)))])], [], (.tup [(.agg [(.v (.float .f64 4845873199050653708)), q41, q6]), q5]), []⟩,
  ⟨[(.agg [q19, (.v (.int .i64 (9007199254741017))), q19, (.v (.int .i64 (18014398509482009)))])], [], (.tup [(.agg [(.v (.float .f64 4845873199050653708)), q43, q1]), q5]), []⟩,
  ⟨[(.agg [q19, (.v (.int .i64 (9007199254741018))), q19, (.v (.int .i64 (18014398509482010)))])], [], q44, []⟩,
  ⟨[(.agg [q19, (.v (.int .i64 (9007199254741019))), q19, (.v (.int .i64 (18014398509482011)))])], [], q44, []⟩,
  ⟨[(.agg [q19, (.v (.int .i64 (9007199254741020))), q19, (.v (.int .i64 (18014398509482012)))])], [], (.tup [(.agg [(.v (.float .f64 4845873199050653710)), q43, q6]), q5]), []⟩,
  ⟨[(.agg [q19, (.v (.int .i64 (9007199254741021))), q19, (.v (.int .i64 (18014398509482013)))])], [], (.tup [(.agg [(.v (.float .f64 4845873199050653710)), q45, q1]), q5]), []⟩]
theorem esEnA0a2_made : madeE tbu (callM tbu .nil 100) hp 7 esEnA0a2 = true := by kernel_rfl
theorem esEnA0a2_ok {w0 : World} (hl : laidMetH Tryz.prog Rows.axesKnownRow.laid w0) : EsOk tbu w0 hp 7 esEnA0a2 := madeE_ok (tbu_ok w0) msOk_nil (start_ok hl) esEnA0a2_made
/-- circa/axes.Run: 13032 operations. -/
noncomputable def esEnA0a3 : List Entry := [⟨[(.agg [q19, (.v (.int .i64 (9007199254741022))), q19, (.v (.int .i64 (18014398509482014)))])], [], q46, []⟩,
  ⟨[(.agg [q19, (.v (.int .i64 (9007199254741023))), q19, (.v (.int .i64 (18014398509482015)))])], [], q46, []⟩,
  ⟨[(.agg [q19, (.v (.int .i64 (9007199254741024))), q19, (.v (.int .i64 (18014398509482016)))])], [], (.tup [(.agg [(.v (.float .f64 4845873199050653712)), q45, q6]), q5]), []⟩,
  ⟨[(.agg [q19, (.v (.int .i64 (9007199254741025))), q19, (.v (.int .i64 (18014398509482017)))])], [], (.tup [(.agg [(.v (.float .f64 4845873199050653712)), q47, q1]), q5]), []⟩,
  ⟨[(.agg [q19, (.v (.int .i64 (9007199254741026))), q19, (.v (.int .i64 (18014398509482018)))])], [], q48, []⟩,
  ⟨[(.agg [q19, (.v (.int .i64 (9007199254741027))), q19, (.v (.int .i64 (18014398509482019)))])], [], q48, []⟩,
  ⟨[(.agg [q19, (.v (.int .i64 (9007199254741028))), q19, (.v (.int .i64 (18014398509482020)))])], [], (.tup [(.agg [(.v (.float .f64 4845873199050653714)), q47, q6]), q5]), []⟩,
  ⟨[(.agg [q19, (.v (.int .i64 (9007199254741029))), q19, (.v (.int .i64 (18014398509482021)))])], [], (.tup [(.agg [(.v (.float .f64 4845873199050653714)), (.v (.float .f64 4850376798678024202)), q1]), q5]), []⟩,
  ⟨[(.agg [q19, (.v (.int .i64 (9007199254741030))), q19, (.v (.int .i64 (18014398509482022)))])], [], q49, []⟩,
  ⟨[(.agg [q19, (.v (.int .i64 (9007199254741031))), q19, (.v (.int .i64 (18014398509482023)))])], [], q49, []⟩,
  ⟨[(.agg [q19, q5, q19, q4])], [], q78, []⟩,
  ⟨[(.agg [(.v (.int .i8 (-1))), q5, q19, q5])], [], q80, []⟩,
  ⟨[q86], [], q87, []⟩]
theorem esEnA0a3_made : madeE tbu (callM tbu .nil 100) hp 7 esEnA0a3 = true := by kernel_rfl
theorem esEnA0a3_ok {w0 : World} (hl : laidMetH Tryz.prog Rows.axesKnownRow.laid w0) : EsOk tbu w0 hp 7 esEnA0a3 := madeE_ok (tbu_ok w0) msOk_nil (start_ok hl) esEnA0a3_made
/-- circa/bounds.Check: 88 operations. -/
noncomputable def esEnA0a4 : List Entry := [⟨[q61], [], q5, []⟩,
  ⟨[q94], [], q5, []⟩]
theorem esEnA0a4_made : madeE tbu (callM tbu .nil 100) hp 137 esEnA0a4 = true := by kernel_rfl
theorem esEnA0a4_ok {w0 : World} (hl : laidMetH Tryz.prog Rows.axesKnownRow.laid w0) : EsOk tbu w0 hp 137 esEnA0a4 := madeE_ok (tbu_ok w0) msOk_nil (start_ok hl) esEnA0a4_made
end Ev
end Go.Proofs.YtmebmfgmopdieaaGreatDoor

/-! Calls that were reckoned, level 0 (printed by genents.py). -/
set_option linter.unusedVariables false
set_option maxRecDepth 1000000
namespace Go.Proofs.YtmebmfgmopdieaaGreatDoor
open Go.RowKit
namespace Ev
/-- circa/yearforms.Check: 3852 operations. -/
noncomputable def esEnA0b0 : List Entry := [⟨[(.agg [q6, q6, q7, q8, q5])], [], q5, []⟩,
  ⟨[(.agg [q1, q6, q7, q8, q5])], [], q5, []⟩,
  ⟨[(.agg [q1, q1, q50, q5, q5])], [], q5, []⟩,
  ⟨[(.agg [q1, q1, q64, q5, q5])], [], q5, []⟩,
  ⟨[(.agg [q1, q6, q81, q5, q5])], [], q5, []⟩]
theorem esEnA0b0_made : madeE tbu (callM tbu .nil 100) hp 153 esEnA0b0 = true := by kernel_rfl
theorem esEnA0b0_ok {w0 : World} (hl : laidMetH Tryz.prog Rows.axesKnownRow.laid w0) : EsOk tbu w0 hp 153 esEnA0b0 := madeE_ok (tbu_ok w0) msOk_nil (start_ok hl) esEnA0b0_made
/-- circa/units.known: 38 operations. -/
noncomputable def esEnA0b1 : List Entry := [⟨[q14], [], q6, []⟩]
theorem esEnA0b1_made : madeE tbu (callM tbu .nil 100) hp 160 esEnA0b1 = true := by kernel_rfl
theorem esEnA0b1_ok {w0 : World} (hl : laidMetH Tryz.prog Rows.axesKnownRow.laid w0) : EsOk tbu w0 hp 160 esEnA0b1 := madeE_ok (tbu_ok w0) msOk_nil (start_ok hl) esEnA0b1_made
/-- circa/dateforms.Season: 1049 operations. -/
noncomputable def esEnA0b2 : List Entry := [⟨[q10], [], q11, []⟩,
  ⟨[q16], [], q11, []⟩,
  ⟨[q51], [], q11, []⟩,
  ⟨[q66], [], q11, []⟩,
  ⟨[q73], [], q11, []⟩,
  ⟨[q82], [], q11, []⟩,
  ⟨[q88], [], q11, []⟩]
theorem esEnA0b2_made : madeE tbu (callM tbu .nil 100) hp 181 esEnA0b2 = true := by kernel_rfl
theorem esEnA0b2_ok {w0 : World} (hl : laidMetH Tryz.prog Rows.axesKnownRow.laid w0) : EsOk tbu w0 hp 181 esEnA0b2 := madeE_ok (tbu_ok w0) msOk_nil (start_ok hl) esEnA0b2_made
/-- circa/dateforms.agrees: 255 operations. -/
noncomputable def esEnA0b3 : List Entry := [⟨[q65, (.v (.int .i64 (12)))], [], q6, []⟩,
  ⟨[q65, q67], [], q6, []⟩,
  ⟨[q72, q67], [], q6, []⟩]
theorem esEnA0b3_made : madeE tbu (callM tbu .nil 100) hp 190 esEnA0b3 = true := by kernel_rfl
theorem esEnA0b3_ok {w0 : World} (hl : laidMetH Tryz.prog Rows.axesKnownRow.laid w0) : EsOk tbu w0 hp 190 esEnA0b3 := madeE_ok (tbu_ok w0) msOk_nil (start_ok hl) esEnA0b3_made
/-- circa/marks.All: 222 operations. -/
noncomputable def esEnA0b4 : List Entry := [⟨[q3, q4], [], q5, []⟩,
  ⟨[q3, q63], [], q5, []⟩]
theorem esEnA0b4_made : madeE tbu (callM tbu .nil 100) hp 191 esEnA0b4 = true := by kernel_rfl
theorem esEnA0b4_ok {w0 : World} (hl : laidMetH Tryz.prog Rows.axesKnownRow.laid w0) : EsOk tbu w0 hp 191 esEnA0b4 := madeE_ok (tbu_ok w0) msOk_nil (start_ok hl) esEnA0b4_made
/-- circa/marks.Of: 686 operations. -/
noncomputable def esEnA0b5 : List Entry := [⟨[(.v (.int .u8 (89)))], [], q2, []⟩,
  ⟨[(.v (.int .u8 (47)))], [], q2, []⟩,
  ⟨[q0], [], q2, []⟩,
  ⟨[(.v (.int .u8 (50)))], [], q2, []⟩,
  ⟨[(.v (.int .u8 (93)))], [], q2, []⟩,
  ⟨[(.v (.int .u8 (48)))], [], q2, []⟩,
  ⟨[(.v (.int .u8 (45)))], [], q2, []⟩]
theorem esEnA0b5_made : madeE tbu (callM tbu .nil 100) hp 240 esEnA0b5 = true := by kernel_rfl
theorem esEnA0b5_ok {w0 : World} (hl : laidMetH Tryz.prog Rows.axesKnownRow.laid w0) : EsOk tbu w0 hp 240 esEnA0b5 := madeE_ok (tbu_ok w0) msOk_nil (start_ok hl) esEnA0b5_made
/-- strings.Map: 4121 operations. -/
noncomputable def esEnA0b6 : List Entry := [⟨[q12, (.v (.string ⟨#[89, 45, 49, 69, 49, 54]⟩))], [], (.v (.string ⟨#[89, 45, 100, 69, 100, 100]⟩)), []⟩,
  ⟨[q12, (.v (.string ⟨#[89, 49, 69, 49, 54]⟩))], [], (.v (.string ⟨#[89, 100, 69, 100, 100]⟩)), []⟩,
  ⟨[q12, q50], [], (.v (.string ⟨#[100, 100, 100, 100]⟩)), []⟩,
  ⟨[q12, q69], [], q70, []⟩,
  ⟨[q12, q75], [], q70, []⟩,
  ⟨[q12, q83], [], (.v (.string ⟨#[89, 100, 100, 100, 100, 100, 100, 100, 100, 100, 100, 100, 100, 100, 100, 100, 100]⟩)), []⟩,
  ⟨[q12, q64], [], (.v (.string ⟨#[100, 100, 100, 100]⟩)), []⟩]
theorem esEnA0b6_made : madeE tbu (callM tbu .nil 100) hp 257 esEnA0b6 = true := by kernel_rfl
theorem esEnA0b6_ok {w0 : World} (hl : laidMetH Tryz.prog Rows.axesKnownRow.laid w0) : EsOk tbu w0 hp 257 esEnA0b6 := madeE_ok (tbu_ok w0) msOk_nil (start_ok hl) esEnA0b6_made
/-- circa/fillings.agrees: 3596 operations. -/
noncomputable def esEnA0b7 : List Entry := [⟨[q65, q4], [], q6, []⟩,
  ⟨[q65, q13], [], q1, []⟩,
  ⟨[q65, q63], [], q1, []⟩,
  ⟨[q65, q59], [], q1, []⟩,
  ⟨[q65, (.v (.int .i64 (5)))], [], q1, []⟩,
  ⟨[q65, (.v (.int .i64 (6)))], [], q1, []⟩,
  ⟨[q65, q58], [], q1, []⟩,
  ⟨[q65, (.v (.int .i64 (8)))], [], q1, []⟩,
  ⟨[q65, (.v (.int .i64 (9)))], [], q1, []⟩,
  ⟨[q65, (.v (.int .i64 (10)))], [], q1, []⟩,
  ⟨[q65, (.v (.int .i64 (11)))], [], q1, []⟩,
  ⟨[q65, (.v (.int .i64 (12)))], [], q1, []⟩,
  ⟨[q65, q57], [], q1, []⟩,
  ⟨[q65, (.v (.int .i64 (14)))], [], q1, []⟩,
  ⟨[q65, (.v (.int .i64 (15)))], [], q1, []⟩,
  ⟨[q65, q8], [], q1, []⟩,
  ⟨[q65, (.v (.int .i64 (17)))], [], q1, []⟩,
  ⟨[q65, (.v (.int .i64 (18)))], [], q1, []⟩,
  ⟨[q65, (.v (.int .i64 (19)))], [], q1, []⟩,
  ⟨[q65, (.v (.int .i64 (20)))], [], q1, []⟩,
  ⟨[q65, (.v (.int .i64 (21)))], [], q1, []⟩,
  ⟨[q65, (.v (.int .i64 (22)))], [], q1, []⟩,
  ⟨[q65, (.v (.int .i64 (23)))], [], q1, []⟩,
  ⟨[q65, (.v (.int .i64 (24)))], [], q1, []⟩,
  ⟨[q65, (.v (.int .i64 (25)))], [], q1, []⟩,
  ⟨[q65, (.v (.int .i64 (26)))], [], q1, []⟩,
  ⟨[q65, (.v (.int .i64 (27)))], [], q1, []⟩,
  ⟨[q65, (.v (.int .i64 (28)))], [], q1, []⟩,
  ⟨[q65, (.v (.int .i64 (29)))], [], q1, []⟩,
  ⟨[q65, (.v (.int .i64 (30)))], [], q1, []⟩,
  ⟨[q65, q67], [], q1, []⟩,
  ⟨[q72, q4], [], q1, []⟩,
  ⟨[q72, q13], [], q6, []⟩,
  ⟨[q72, q63], [], q1, []⟩,
  ⟨[q72, q59], [], q1, []⟩,
  ⟨[q72, (.v (.int .i64 (5)))], [], q1, []⟩,
  ⟨[q72, (.v (.int .i64 (6)))], [], q1, []⟩,
  ⟨[q72, q58], [], q1, []⟩,
  ⟨[q72, (.v (.int .i64 (8)))], [], q1, []⟩,
  ⟨[q72, (.v (.int .i64 (9)))], [], q1, []⟩,
  ⟨[q72, (.v (.int .i64 (10)))], [], q1, []⟩,
  ⟨[q72, (.v (.int .i64 (11)))], [], q1, []⟩,
  ⟨[q72, (.v (.int .i64 (12)))], [], q1, []⟩,
  ⟨[q72, q57], [], q1, []⟩,
  ⟨[q72, (.v (.int .i64 (14)))], [], q1, []⟩,
  ⟨[q72, (.v (.int .i64 (15)))], [], q1, []⟩,
  ⟨[q72, q8], [], q1, []⟩,
  ⟨[q72, (.v (.int .i64 (17)))], [], q1, []⟩,
  ⟨[q72, (.v (.int .i64 (18)))], [], q1, []⟩,
  ⟨[q72, (.v (.int .i64 (19)))], [], q1, []⟩,
  ⟨[q72, (.v (.int .i64 (20)))], [], q1, []⟩,
  ⟨[q72, (.v (.int .i64 (21)))], [], q1, []⟩,
  ⟨[q72, (.v (.int .i64 (22)))], [], q1, []⟩,
  ⟨[q72, (.v (.int .i64 (23)))], [], q1, []⟩,
  ⟨[q72, (.v (.int .i64 (24)))], [], q1, []⟩,
  ⟨[q72, (.v (.int .i64 (25)))], [], q1, []⟩,
  ⟨[q72, (.v (.int .i64 (26)))], [], q1, []⟩,
  ⟨[q72, (.v (.int .i64 (27)))], [], q1, []⟩,
  ⟨[q72, (.v (.int .i64 (28)))], [], q1, []⟩,
  ⟨[q72, (.v (.int .i64 (29)))], [], q1, []⟩,
  ⟨[q72, (.v (.int .i64 (30)))], [], q1, []⟩,
  ⟨[q72, q67], [], q1, []⟩]
theorem esEnA0b7_made : madeE tbu (callM tbu .nil 100) hp 260 esEnA0b7 = true := by kernel_rfl
theorem esEnA0b7_ok {w0 : World} (hl : laidMetH Tryz.prog Rows.axesKnownRow.laid w0) : EsOk tbu w0 hp 260 esEnA0b7 := madeE_ok (tbu_ok w0) msOk_nil (start_ok hl) esEnA0b7_made
/-- circa/years.before: 3402 operations. -/
noncomputable def esEnA0b8 : List Entry := [⟨[q18], [], (.v (.int .i64 (-2425000000000000))), []⟩,
  ⟨[(.v (.int .i64 (-9999999999999999)))], [], (.v (.int .i64 (-2424999999999999))), []⟩,
  ⟨[q21], [], (.v (.int .i64 (2425000000000000))), []⟩,
  ⟨[(.v (.int .i64 (10000000000000001)))], [], (.v (.int .i64 (2425000000000001))), []⟩,
  ⟨[(.v (.int .i64 (2004)))], [], (.v (.int .i64 (486))), []⟩,
  ⟨[(.v (.int .i64 (2005)))], [], (.v (.int .i64 (487))), []⟩,
  ⟨[(.v (.int .i64 (201)))], [], (.v (.int .i64 (49))), []⟩,
  ⟨[(.v (.int .i64 (101)))], [], (.v (.int .i64 (25))), []⟩,
  ⟨[(.v (.int .i64 (51)))], [], q57, []⟩,
  ⟨[(.v (.int .i64 (26)))], [], q58, []⟩,
  ⟨[q57], [], q59, []⟩,
  ⟨[q58], [], q13, []⟩,
  ⟨[q59], [], q4, []⟩,
  ⟨[(.v (.int .i64 (6)))], [], q13, []⟩,
  ⟨[(.v (.int .i64 (5)))], [], q13, []⟩,
  ⟨[q4], [], q4, []⟩,
  ⟨[q5], [], q5, []⟩,
  ⟨[q85], [], (.v (.int .i64 (2425000000000000))), []⟩]
theorem esEnA0b8_made : madeE tbu (callM tbu .nil 100) hp 350 esEnA0b8 = true := by kernel_rfl
theorem esEnA0b8_ok {w0 : World} (hl : laidMetH Tryz.prog Rows.axesKnownRow.laid w0) : EsOk tbu w0 hp 350 esEnA0b8 := madeE_ok (tbu_ok w0) msOk_nil (start_ok hl) esEnA0b8_made
end Ev
end Go.Proofs.YtmebmfgmopdieaaGreatDoor

/-! Calls that were reckoned, level 1 (printed by genents.py). -/
set_option linter.unusedVariables false
set_option maxRecDepth 1000000
namespace Go.Proofs.YtmebmfgmopdieaaGreatDoor
open Go.RowKit
namespace Ev
noncomputable def msEnA1 : Tr (List Entry) := (.node none (.node none (.node none (.node (some ((((esEnA0a0 ++ esEnA0a1) ++ esEnA0a2) ++ esEnA0a3))) (.node none (.node none (.node none .nil (.node (some (esEnA0b4)) .nil .nil)) .nil) .nil) .nil) .nil) (.node none (.node none (.node none (.node none (.node none (.node none (.node (some (esEnA0b6)) .nil .nil) .nil) .nil) .nil) .nil) (.node none (.node none (.node none (.node (some (esEnA0a4)) .nil .nil) .nil) .nil) (.node none (.node none (.node (some (esEnA0b0)) .nil .nil) .nil) .nil))) (.node none (.node none .nil (.node none .nil (.node none (.node (some (esEnA0b2)) .nil .nil) .nil))) .nil))) (.node none (.node none (.node none (.node none (.node none .nil (.node none (.node (some (esEnA0b1)) .nil .nil) .nil)) (.node none .nil (.node none .nil (.node (some (esEnA0b5)) .nil .nil)))) .nil) (.node none (.node none (.node none (.node none (.node none (.node (some (esEnA0b7)) .nil .nil) .nil) .nil) .nil) .nil) .nil)) (.node none .nil (.node none .nil (.node none .nil (.node none (.node none .nil (.node none (.node (some (esEnA0b8)) .nil .nil) .nil)) (.node none (.node (some (esEnA0b3)) .nil .nil) .nil)))))))
theorem msEnA1_ok {w0 : World} (hl : laidMetH Tryz.prog Rows.axesKnownRow.laid w0) : MsOk tbu w0 hp msEnA1 := msOk_all (Tr.allP_none (Tr.allP_none (Tr.allP_none (Tr.allP_some ((EsOk.app (EsOk.app (EsOk.app (esEnA0a0_ok hl) (esEnA0a1_ok hl)) (esEnA0a2_ok hl)) (esEnA0a3_ok hl))) (Tr.allP_none (Tr.allP_none (Tr.allP_none Tr.allP_nil (Tr.allP_some ((esEnA0b4_ok hl)) Tr.allP_nil Tr.allP_nil)) Tr.allP_nil) Tr.allP_nil) Tr.allP_nil) Tr.allP_nil) (Tr.allP_none (Tr.allP_none (Tr.allP_none (Tr.allP_none (Tr.allP_none (Tr.allP_none (Tr.allP_some ((esEnA0b6_ok hl)) Tr.allP_nil Tr.allP_nil) Tr.allP_nil) Tr.allP_nil) Tr.allP_nil) Tr.allP_nil) (Tr.allP_none (Tr.allP_none (Tr.allP_none (Tr.allP_some ((esEnA0a4_ok hl)) Tr.allP_nil Tr.allP_nil) Tr.allP_nil) Tr.allP_nil) (Tr.allP_none (Tr.allP_none (Tr.allP_some ((esEnA0b0_ok hl)) Tr.allP_nil Tr.allP_nil) Tr.allP_nil) Tr.allP_nil))) (Tr.allP_none (Tr.allP_none Tr.allP_nil (Tr.allP_none Tr.allP_nil (Tr.allP_none (Tr.allP_some ((esEnA0b2_ok hl)) Tr.allP_nil Tr.allP_nil) Tr.allP_nil))) Tr.allP_nil))) (Tr.allP_none (Tr.allP_none (Tr.allP_none (Tr.allP_none (Tr.allP_none Tr.allP_nil (Tr.allP_none (Tr.allP_some ((esEnA0b1_ok hl)) Tr.allP_nil Tr.allP_nil) Tr.allP_nil)) (Tr.allP_none Tr.allP_nil (Tr.allP_none Tr.allP_nil (Tr.allP_some ((esEnA0b5_ok hl)) Tr.allP_nil Tr.allP_nil)))) Tr.allP_nil) (Tr.allP_none (Tr.allP_none (Tr.allP_none (Tr.allP_none (Tr.allP_none (Tr.allP_some ((esEnA0b7_ok hl)) Tr.allP_nil Tr.allP_nil) Tr.allP_nil) Tr.allP_nil) Tr.allP_nil) Tr.allP_nil) Tr.allP_nil)) (Tr.allP_none Tr.allP_nil (Tr.allP_none Tr.allP_nil (Tr.allP_none Tr.allP_nil (Tr.allP_none (Tr.allP_none Tr.allP_nil (Tr.allP_none (Tr.allP_some ((esEnA0b8_ok hl)) Tr.allP_nil Tr.allP_nil) Tr.allP_nil)) (Tr.allP_none (Tr.allP_some ((esEnA0b3_ok hl)) Tr.allP_nil Tr.allP_nil) Tr.allP_nil)))))))
end Ev
end Go.Proofs.YtmebmfgmopdieaaGreatDoor

/-! Calls that were reckoned, level 1 (printed by genents.py). -/
set_option linter.unusedVariables false
set_option maxRecDepth 1000000
namespace Go.Proofs.YtmebmfgmopdieaaGreatDoor
open Go.RowKit
namespace Ev
/-- circa/parsers.of: 4111 operations. -/
noncomputable def esEnA1a0 : List Entry := [⟨[(.v (.string ⟨#[89, 45, 49, 69, 49, 54]⟩)), q10], [], q13, []⟩,
  ⟨[(.v (.string ⟨#[89, 49, 69, 49, 54]⟩)), q16], [], q13, []⟩,
  ⟨[q50, q51], [], q5, []⟩,
  ⟨[q69, q66], [], q5, []⟩,
  ⟨[q75, q73], [], q5, []⟩,
  ⟨[q83, q82], [], q4, []⟩,
  ⟨[q64, q88], [], q5, []⟩]
theorem esEnA1a0_made : madeE tbu (callM tbu msEnA1 100) hp 136 esEnA1a0 = true := by kernel_rfl
theorem esEnA1a0_ok {w0 : World} (hl : laidMetH Tryz.prog Rows.axesKnownRow.laid w0) : EsOk tbu w0 hp 136 esEnA1a0 := madeE_ok (tbu_ok w0) (msEnA1_ok hl) (start_ok hl) esEnA1a0_made
/-- circa/dateforms.Check: 1419 operations. -/
noncomputable def esEnA1a1 : List Entry := [⟨[q10], [], q5, []⟩,
  ⟨[q16], [], q5, []⟩,
  ⟨[q51], [], q5, []⟩,
  ⟨[q66], [], q5, []⟩,
  ⟨[q73], [], q5, []⟩,
  ⟨[q82], [], q5, []⟩,
  ⟨[q88], [], q5, []⟩]
theorem esEnA1a1_made : madeE tbu (callM tbu msEnA1 100) hp 138 esEnA1a1 = true := by kernel_rfl
theorem esEnA1a1_ok {w0 : World} (hl : laidMetH Tryz.prog Rows.axesKnownRow.laid w0) : EsOk tbu w0 hp 138 esEnA1a1 := madeE_ok (tbu_ok w0) (msEnA1_ok hl) (start_ok hl) esEnA1a1_made
/-- circa/yearforms.Value: 3410 operations. -/
noncomputable def esEnA1a2 : List Entry := [⟨[(.agg [q6, q6, q7, q8, q5])], [], (.tup [q18, q5]), []⟩,
  ⟨[(.agg [q1, q6, q7, q8, q5])], [], (.tup [q21, q5]), []⟩,
  ⟨[(.agg [q1, q1, q50, q5, q5])], [], (.tup [(.v (.int .i64 (2004))), q5]), []⟩,
  ⟨[(.agg [q1, q1, q64, q5, q5])], [], (.tup [q5, q5]), []⟩,
  ⟨[(.agg [q1, q6, q81, q5, q5])], [], (.tup [q85, q5]), []⟩]
theorem esEnA1a2_made : madeE tbu (callM tbu msEnA1 100) hp 164 esEnA1a2 = true := by kernel_rfl
theorem esEnA1a2_ok {w0 : World} (hl : laidMetH Tryz.prog Rows.axesKnownRow.laid w0) : EsOk tbu w0 hp 164 esEnA1a2 := madeE_ok (tbu_ok w0) (msEnA1_ok hl) (start_ok hl) esEnA1a2_made
/-- circa/units.unit: 780 operations. -/
noncomputable def esEnA1a3 : List Entry := [⟨[q10, (.agg [q18, q5, q5])], [], q20, []⟩,
  ⟨[q16, (.agg [q21, q5, q5])], [], q22, []⟩,
  ⟨[q51, (.agg [(.v (.int .i64 (2004))), q5, q5])], [], q56, []⟩,
  ⟨[q82, (.agg [q85, q5, q5])], [], (.tup [q86, q5]), []⟩,
  ⟨[q88, (.agg [q5, q5, q5])], [], q90, []⟩]
theorem esEnA1a3_made : madeE tbu (callM tbu msEnA1 100) hp 165 esEnA1a3 = true := by kernel_rfl
theorem esEnA1a3_ok {w0 : World} (hl : laidMetH Tryz.prog Rows.axesKnownRow.laid w0) : EsOk tbu w0 hp 165 esEnA1a3 := madeE_ok (tbu_ok w0) (msEnA1_ok hl) (start_ok hl) esEnA1a3_made
/-- circa/fillings.fits: 869 operations. -/
noncomputable def esEnA1a4 : List Entry := [⟨[q65, (.v (.int .i64 (12)))], [], (.slU 15 0 1 0), [(.rowU [q4] 1 3)]⟩,
  ⟨[q65, q67], [], (.slU 15 0 1 0), [(.rowU [q4] 1 3)]⟩,
  ⟨[q72, q67], [], (.slU 15 0 1 0), [(.rowU [q13] 1 3)]⟩]
theorem esEnA1a4_made : madeE tbu (callM tbu msEnA1 100) hp 193 esEnA1a4 = true := by kernel_rfl
theorem esEnA1a4_ok {w0 : World} (hl : laidMetH Tryz.prog Rows.axesKnownRow.laid w0) : EsOk tbu w0 hp 193 esEnA1a4 := madeE_ok (tbu_ok w0) (msEnA1_ok hl) (start_ok hl) esEnA1a4_made
/-- circa/years.Of: 551 operations. -/
noncomputable def esEnA1a5 : List Entry := [⟨[q55], [], (.tup [(.v (.int .i64 (2004))), q5]), []⟩]
theorem esEnA1a5_made : madeE tbu (callM tbu msEnA1 100) hp 223 esEnA1a5 = true := by kernel_rfl
theorem esEnA1a5_ok {w0 : World} (hl : laidMetH Tryz.prog Rows.axesKnownRow.laid w0) : EsOk tbu w0 hp 223 esEnA1a5 := madeE_ok (tbu_ok w0) (msEnA1_ok hl) (start_ok hl) esEnA1a5_made
/-- circa/marks.Spread: 252 operations. -/
noncomputable def esEnA1a6 : List Entry := [⟨[q3, q3, q4], [], (.tup [q3, q5]), []⟩,
  ⟨[q3, q3, q63], [], (.tup [q3, q5]), []⟩]
theorem esEnA1a6_made : madeE tbu (callM tbu msEnA1 100) hp 247 esEnA1a6 = true := by kernel_rfl
theorem esEnA1a6_ok {w0 : World} (hl : laidMetH Tryz.prog Rows.axesKnownRow.laid w0) : EsOk tbu w0 hp 247 esEnA1a6 := madeE_ok (tbu_ok w0) (msEnA1_ok hl) (start_ok hl) esEnA1a6_made
/-- circa/years.Leap: 55 operations. -/
noncomputable def esEnA1a7 : List Entry := [⟨[q5], [], (.tup [q6, q5]), []⟩]
theorem esEnA1a7_made : madeE tbu (callM tbu msEnA1 100) hp 351 esEnA1a7 = true := by kernel_rfl
theorem esEnA1a7_ok {w0 : World} (hl : laidMetH Tryz.prog Rows.axesKnownRow.laid w0) : EsOk tbu w0 hp 351 esEnA1a7 := madeE_ok (tbu_ok w0) (msEnA1_ok hl) (start_ok hl) esEnA1a7_made
end Ev
end Go.Proofs.YtmebmfgmopdieaaGreatDoor

/-! Calls that were reckoned, level 2 (printed by genents.py). -/
set_option linter.unusedVariables false
set_option maxRecDepth 1000000
namespace Go.Proofs.YtmebmfgmopdieaaGreatDoor
open Go.RowKit
namespace Ev
noncomputable def msEnA2 : Tr (List Entry) := (.node none (.node none (.node none (.node (some ((((esEnA0a0 ++ esEnA0a1) ++ esEnA0a2) ++ esEnA0a3))) (.node none (.node none (.node none .nil (.node (some (esEnA0b4)) .nil .nil)) (.node none .nil (.node (some (esEnA1a5)) (.node (some (esEnA1a7)) .nil .nil) .nil))) .nil) (.node none .nil (.node none .nil (.node none .nil (.node (some (esEnA1a6)) .nil .nil))))) .nil) (.node none (.node none (.node none (.node none (.node none (.node none (.node (some (esEnA0b6)) .nil .nil) .nil) (.node (some (esEnA1a4)) .nil .nil)) .nil) .nil) (.node none (.node none (.node none (.node (some (esEnA0a4)) .nil .nil) .nil) .nil) (.node none (.node none (.node (some (esEnA0b0)) .nil .nil) .nil) .nil))) (.node none (.node none (.node none .nil (.node none (.node (some (esEnA1a3)) .nil .nil) .nil)) (.node none .nil (.node none (.node (some (esEnA0b2)) .nil .nil) .nil))) .nil))) (.node none (.node none (.node none (.node none (.node none .nil (.node none (.node (some (esEnA0b1)) .nil .nil) .nil)) (.node none .nil (.node none .nil (.node (some (esEnA0b5)) .nil .nil)))) (.node none (.node none (.node none (.node (some (esEnA1a0)) .nil .nil) .nil) .nil) .nil)) (.node none (.node none (.node none (.node none (.node none (.node (some (esEnA0b7)) .nil .nil) .nil) .nil) (.node none (.node (some (esEnA1a2)) .nil .nil) .nil)) .nil) .nil)) (.node none (.node none .nil (.node none (.node none (.node none (.node (some (esEnA1a1)) .nil .nil) .nil) .nil) .nil)) (.node none .nil (.node none .nil (.node none (.node none .nil (.node none (.node (some (esEnA0b8)) .nil .nil) .nil)) (.node none (.node (some (esEnA0b3)) .nil .nil) .nil)))))))
theorem msEnA2_ok {w0 : World} (hl : laidMetH Tryz.prog Rows.axesKnownRow.laid w0) : MsOk tbu w0 hp msEnA2 := msOk_all (Tr.allP_none (Tr.allP_none (Tr.allP_none (Tr.allP_some ((EsOk.app (EsOk.app (EsOk.app (esEnA0a0_ok hl) (esEnA0a1_ok hl)) (esEnA0a2_ok hl)) (esEnA0a3_ok hl))) (Tr.allP_none (Tr.allP_none (Tr.allP_none Tr.allP_nil (Tr.allP_some ((esEnA0b4_ok hl)) Tr.allP_nil Tr.allP_nil)) (Tr.allP_none Tr.allP_nil (Tr.allP_some ((esEnA1a5_ok hl)) (Tr.allP_some ((esEnA1a7_ok hl)) Tr.allP_nil Tr.allP_nil) Tr.allP_nil))) Tr.allP_nil) (Tr.allP_none Tr.allP_nil (Tr.allP_none Tr.allP_nil (Tr.allP_none Tr.allP_nil (Tr.allP_some ((esEnA1a6_ok hl)) Tr.allP_nil Tr.allP_nil))))) Tr.allP_nil) (Tr.allP_none (Tr.allP_none (Tr.allP_none (Tr.allP_none (Tr.allP_none (Tr.allP_none (Tr.allP_some ((esEnA0b6_ok hl)) Tr.allP_nil Tr.allP_nil) Tr.allP_nil) (Tr.allP_some ((esEnA1a4_ok hl)) Tr.allP_nil Tr.allP_nil)) Tr.allP_nil) Tr.allP_nil) (Tr.allP_none (Tr.allP_none (Tr.allP_none (Tr.allP_some ((esEnA0a4_ok hl)) Tr.allP_nil Tr.allP_nil) Tr.allP_nil) Tr.allP_nil) (Tr.allP_none (Tr.allP_none (Tr.allP_some ((esEnA0b0_ok hl)) Tr.allP_nil Tr.allP_nil) Tr.allP_nil) Tr.allP_nil))) (Tr.allP_none (Tr.allP_none (Tr.allP_none Tr.allP_nil (Tr.allP_none (Tr.allP_some ((esEnA1a3_ok hl)) Tr.allP_nil Tr.allP_nil) Tr.allP_nil)) (Tr.allP_none Tr.allP_nil (Tr.allP_none (Tr.allP_some ((esEnA0b2_ok hl)) Tr.allP_nil Tr.allP_nil) Tr.allP_nil))) Tr.allP_nil))) (Tr.allP_none (Tr.allP_none (Tr.allP_none (Tr.allP_none (Tr.allP_none Tr.allP_nil (Tr.allP_none (Tr.allP_some ((esEnA0b1_ok hl)) Tr.allP_nil Tr.allP_nil) Tr.allP_nil)) (Tr.allP_none Tr.allP_nil (Tr.allP_none Tr.allP_nil (Tr.allP_some ((esEnA0b5_ok hl)) Tr.allP_nil Tr.allP_nil)))) (Tr.allP_none (Tr.allP_none (Tr.allP_none (Tr.allP_some ((esEnA1a0_ok hl)) Tr.allP_nil Tr.allP_nil) Tr.allP_nil) Tr.allP_nil) Tr.allP_nil)) (Tr.allP_none (Tr.allP_none (Tr.allP_none (Tr.allP_none (Tr.allP_none (Tr.allP_some ((esEnA0b7_ok hl)) Tr.allP_nil Tr.allP_nil) Tr.allP_nil) Tr.allP_nil) (Tr.allP_none (Tr.allP_some ((esEnA1a2_ok hl)) Tr.allP_nil Tr.allP_nil) Tr.allP_nil)) Tr.allP_nil) Tr.allP_nil)) (Tr.allP_none (Tr.allP_none Tr.allP_nil (Tr.allP_none (Tr.allP_none (Tr.allP_none (Tr.allP_some ((esEnA1a1_ok hl)) Tr.allP_nil Tr.allP_nil) Tr.allP_nil) Tr.allP_nil) Tr.allP_nil)) (Tr.allP_none Tr.allP_nil (Tr.allP_none Tr.allP_nil (Tr.allP_none (Tr.allP_none Tr.allP_nil (Tr.allP_none (Tr.allP_some ((esEnA0b8_ok hl)) Tr.allP_nil Tr.allP_nil) Tr.allP_nil)) (Tr.allP_none (Tr.allP_some ((esEnA0b3_ok hl)) Tr.allP_nil Tr.allP_nil) Tr.allP_nil)))))))
end Ev
end Go.Proofs.YtmebmfgmopdieaaGreatDoor

/-! Calls that were reckoned, level 2 (printed by genents.py). -/
set_option linter.unusedVariables false
set_option maxRecDepth 1000000
namespace Go.Proofs.YtmebmfgmopdieaaGreatDoor
open Go.RowKit
namespace Ev
/-- circa/fillings.Check: 210 operations. -/
noncomputable def esEnA2a0 : List Entry := [⟨[q10], [], q5, []⟩,
  ⟨[q16], [], q5, []⟩,
  ⟨[q51], [], q5, []⟩,
  ⟨[q82], [], q5, []⟩,
  ⟨[q88], [], q5, []⟩]
theorem esEnA2a0_made : madeE tbu (callM tbu msEnA2 100) hp 99 esEnA2a0 = true := by kernel_rfl
theorem esEnA2a0_ok {w0 : World} (hl : laidMetH Tryz.prog Rows.axesKnownRow.laid w0) : EsOk tbu w0 hp 99 esEnA2a0 := madeE_ok (tbu_ok w0) (msEnA2_ok hl) (start_ok hl) esEnA2a0_made
/-- circa/fillings.of: 134 operations. -/
noncomputable def esEnA2a1 : List Entry := [⟨[q66], [], q68, [(.rowU [q4] 1 3), (.rowU [q4] 1 3)]⟩,
  ⟨[q73], [], q74, [(.rowU [q4] 1 3), (.rowU [q13] 1 3)]⟩]
theorem esEnA2a1_made : madeE tbu (callM tbu msEnA2 100) hp 139 esEnA2a1 = true := by kernel_rfl
theorem esEnA2a1_ok {w0 : World} (hl : laidMetH Tryz.prog Rows.axesKnownRow.laid w0) : EsOk tbu w0 hp 139 esEnA2a1 := madeE_ok (tbu_ok w0) (msEnA2_ok hl) (start_ok hl) esEnA2a1_made
/-- (circa/fillings.form).year: 218 operations. -/
noncomputable def esEnA2a2 : List Entry := [⟨[q68, q30, q6], [(.rowU [q4] 1 3), (.rowU [q4] 1 3)], (.tup [q5, q6]), []⟩,
  ⟨[q74, q30, q6], [(.rowU [q4] 1 3), (.rowU [q13] 1 3)], (.tup [q5, q6]), []⟩]
theorem esEnA2a2_made : madeE tbu (callM tbu msEnA2 100) hp 197 esEnA2a2 = true := by kernel_rfl
theorem esEnA2a2_ok {w0 : World} (hl : laidMetH Tryz.prog Rows.axesKnownRow.laid w0) : EsOk tbu w0 hp 197 esEnA2a2 := madeE_ok (tbu_ok w0) (msEnA2_ok hl) (start_ok hl) esEnA2a2_made
/-- circa/months.length: 49 operations. -/
noncomputable def esEnA2a3 : List Entry := [⟨[q5, q4], [], q67, []⟩]
theorem esEnA2a3_made : madeE tbu (callM tbu msEnA2 100) hp 304 esEnA2a3 = true := by kernel_rfl
theorem esEnA2a3_ok {w0 : World} (hl : laidMetH Tryz.prog Rows.axesKnownRow.laid w0) : EsOk tbu w0 hp 304 esEnA2a3 := madeE_ok (tbu_ok w0) (msEnA2_ok hl) (start_ok hl) esEnA2a3_made
end Ev
end Go.Proofs.YtmebmfgmopdieaaGreatDoor

/-! Calls that were reckoned, level 3 (printed by genents.py). -/
set_option linter.unusedVariables false
set_option maxRecDepth 1000000
namespace Go.Proofs.YtmebmfgmopdieaaGreatDoor
open Go.RowKit
namespace Ev
noncomputable def msEnA3 : Tr (List Entry) := (.node none (.node none (.node none (.node (some ((((esEnA0a0 ++ esEnA0a1) ++ esEnA0a2) ++ esEnA0a3))) (.node none (.node none (.node none .nil (.node (some (esEnA0b4)) .nil .nil)) (.node none .nil (.node (some (esEnA1a5)) (.node (some (esEnA1a7)) .nil .nil) .nil))) .nil) (.node none .nil (.node none .nil (.node none .nil (.node (some (esEnA1a6)) .nil .nil))))) (.node none (.node none (.node none .nil (.node (some (esEnA2a0)) .nil .nil)) .nil) (.node none (.node none (.node none (.node (some (esEnA2a1)) .nil .nil) .nil) .nil) .nil))) (.node none (.node none (.node none (.node none (.node none (.node none (.node (some (esEnA0b6)) .nil .nil) .nil) (.node (some (esEnA1a4)) .nil .nil)) .nil) .nil) (.node none (.node none (.node none (.node (some (esEnA0a4)) .nil .nil) .nil) .nil) (.node none (.node none (.node (some (esEnA0b0)) .nil .nil) .nil) .nil))) (.node none (.node none (.node none (.node none .nil (.node (some (esEnA2a2)) .nil .nil)) (.node none (.node (some (esEnA1a3)) .nil .nil) .nil)) (.node none .nil (.node none (.node (some (esEnA0b2)) .nil .nil) .nil))) .nil))) (.node none (.node none (.node none (.node none (.node none .nil (.node none (.node (some (esEnA0b1)) .nil .nil) .nil)) (.node none .nil (.node none (.node none (.node (some (esEnA2a3)) .nil .nil) .nil) (.node (some (esEnA0b5)) .nil .nil)))) (.node none (.node none (.node none (.node (some (esEnA1a0)) .nil .nil) .nil) .nil) .nil)) (.node none (.node none (.node none (.node none (.node none (.node (some (esEnA0b7)) .nil .nil) .nil) .nil) (.node none (.node (some (esEnA1a2)) .nil .nil) .nil)) .nil) .nil)) (.node none (.node none .nil (.node none (.node none (.node none (.node (some (esEnA1a1)) .nil .nil) .nil) .nil) .nil)) (.node none .nil (.node none .nil (.node none (.node none .nil (.node none (.node (some (esEnA0b8)) .nil .nil) .nil)) (.node none (.node (some (esEnA0b3)) .nil .nil) .nil)))))))
theorem msEnA3_ok {w0 : World} (hl : laidMetH Tryz.prog Rows.axesKnownRow.laid w0) : MsOk tbu w0 hp msEnA3 := msOk_all (Tr.allP_none (Tr.allP_none (Tr.allP_none (Tr.allP_some ((EsOk.app (EsOk.app (EsOk.app (esEnA0a0_ok hl) (esEnA0a1_ok hl)) (esEnA0a2_ok hl)) (esEnA0a3_ok hl))) (Tr.allP_none (Tr.allP_none (Tr.allP_none Tr.allP_nil (Tr.allP_some ((esEnA0b4_ok hl)) Tr.allP_nil Tr.allP_nil)) (Tr.allP_none Tr.allP_nil (Tr.allP_some ((esEnA1a5_ok hl)) (Tr.allP_some ((esEnA1a7_ok hl)) Tr.allP_nil Tr.allP_nil) Tr.allP_nil))) Tr.allP_nil) (Tr.allP_none Tr.allP_nil (Tr.allP_none Tr.allP_nil (Tr.allP_none Tr.allP_nil (Tr.allP_some ((esEnA1a6_ok hl)) Tr.allP_nil Tr.allP_nil))))) (Tr.allP_none (Tr.allP_none (Tr.allP_none Tr.allP_nil (Tr.allP_some ((esEnA2a0_ok hl)) Tr.allP_nil Tr.allP_nil)) Tr.allP_nil) (Tr.allP_none (Tr.allP_none (Tr.allP_none (Tr.allP_some ((esEnA2a1_ok hl)) Tr.allP_nil Tr.allP_nil) Tr.allP_nil) Tr.allP_nil) Tr.allP_nil))) (Tr.allP_none (Tr.allP_none (Tr.allP_none (Tr.allP_none (Tr.allP_none (Tr.allP_none (Tr.allP_some ((esEnA0b6_ok hl)) Tr.allP_nil Tr.allP_nil) Tr.allP_nil) (Tr.allP_some ((esEnA1a4_ok hl)) Tr.allP_nil Tr.allP_nil)) Tr.allP_nil) Tr.allP_nil) (Tr.allP_none (Tr.allP_none (Tr.allP_none (Tr.allP_some ((esEnA0a4_ok hl)) Tr.allP_nil Tr.allP_nil) Tr.allP_nil) Tr.allP_nil) (Tr.allP_none (Tr.allP_none (Tr.allP_some ((esEnA0b0_ok hl)) Tr.allP_nil Tr.allP_nil) Tr.allP_nil) Tr.allP_nil))) (Tr.allP_none (Tr.allP_none (Tr.allP_none (Tr.allP_none Tr.allP_nil (Tr.allP_some ((esEnA2a2_ok hl)) Tr.allP_nil Tr.allP_nil)) (Tr.allP_none (Tr.allP_some ((esEnA1a3_ok hl)) Tr.allP_nil Tr.allP_nil) Tr.allP_nil)) (Tr.allP_none Tr.allP_nil (Tr.allP_none (Tr.allP_some ((esEnA0b2_ok hl)) Tr.allP_nil Tr.allP_nil) Tr.allP_nil))) Tr.allP_nil))) (Tr.allP_none (Tr.allP_none (Tr.allP_none (Tr.allP_none (Tr.allP_none Tr.allP_nil (Tr.allP_none (Tr.allP_some ((esEnA0b1_ok hl)) Tr.allP_nil Tr.allP_nil) Tr.allP_nil)) (Tr.allP_none Tr.allP_nil (Tr.allP_none (Tr.allP_none (Tr.allP_some ((esEnA2a3_ok hl)) Tr.allP_nil Tr.allP_nil) Tr.allP_nil) (Tr.allP_some ((esEnA0b5_ok hl)) Tr.allP_nil Tr.allP_nil)))) (Tr.allP_none (Tr.allP_none (Tr.allP_none (Tr.allP_some ((esEnA1a0_ok hl)) Tr.allP_nil Tr.allP_nil) Tr.allP_nil) Tr.allP_nil) Tr.allP_nil)) (Tr.allP_none (Tr.allP_none (Tr.allP_none (Tr.allP_none (Tr.allP_none (Tr.allP_some ((esEnA0b7_ok hl)) Tr.allP_nil Tr.allP_nil) Tr.allP_nil) Tr.allP_nil) (Tr.allP_none (Tr.allP_some ((esEnA1a2_ok hl)) Tr.allP_nil Tr.allP_nil) Tr.allP_nil)) Tr.allP_nil) Tr.allP_nil)) (Tr.allP_none (Tr.allP_none Tr.allP_nil (Tr.allP_none (Tr.allP_none (Tr.allP_none (Tr.allP_some ((esEnA1a1_ok hl)) Tr.allP_nil Tr.allP_nil) Tr.allP_nil) Tr.allP_nil) Tr.allP_nil)) (Tr.allP_none Tr.allP_nil (Tr.allP_none Tr.allP_nil (Tr.allP_none (Tr.allP_none Tr.allP_nil (Tr.allP_none (Tr.allP_some ((esEnA0b8_ok hl)) Tr.allP_nil Tr.allP_nil) Tr.allP_nil)) (Tr.allP_none (Tr.allP_some ((esEnA0b3_ok hl)) Tr.allP_nil Tr.allP_nil) Tr.allP_nil)))))))
end Ev
end Go.Proofs.YtmebmfgmopdieaaGreatDoor

/-! Calls that were reckoned, level 3 (printed by genents.py). -/
set_option linter.unusedVariables false
set_option maxRecDepth 1000000
namespace Go.Proofs.YtmebmfgmopdieaaGreatDoor
open Go.RowKit
namespace Ev
/-- circa/parsers.Parse: 7304 operations. -/
noncomputable def esEnA3a0 : List Entry := [⟨[(.v (.string ⟨#[91, 46, 46, 50, 48, 48, 52, 93]⟩))], [], (.tup [q53, q13, q5, q5]), [(.rowU [q1, q1, q50, q5, q5, q9, q9, q0, q0, q0, q1, q1, q1, q9, q5, q5, q9, q9, q0, q0, q0] 21 123)]⟩,
  ⟨[q83], [], (.tup [q84, q4, q5, q5]), []⟩,
  ⟨[q64], [], (.tup [q89, q5, q5, q5]), []⟩]
theorem esEnA3a0_made : madeE tbu (callM tbu msEnA3 100) hp 44 esEnA3a0 = true := by kernel_rfl
theorem esEnA3a0_ok {w0 : World} (hl : laidMetH Tryz.prog Rows.axesKnownRow.laid w0) : EsOk tbu w0 hp 44 esEnA3a0 := madeE_ok (tbu_ok w0) (msEnA3_ok hl) (start_ok hl) esEnA3a0_made
/-- circa/exprs.Check: 840 operations. -/
noncomputable def esEnA3a1 : List Entry := [⟨[q53], [(.rowU [q1, q1, q50, q5, q5, q9, q9, q0, q0, q0, q1, q1, q1, q9, q5, q5, q9, q9, q0, q0, q0] 21 123)], q5, []⟩,
  ⟨[q84], [], q5, []⟩,
  ⟨[q89], [], q5, []⟩]
theorem esEnA3a1_made : madeE tbu (callM tbu msEnA3 100) hp 46 esEnA3a1 = true := by kernel_rfl
theorem esEnA3a1_ok {w0 : World} (hl : laidMetH Tryz.prog Rows.axesKnownRow.laid w0) : EsOk tbu w0 hp 46 esEnA3a1 := madeE_ok (tbu_ok w0) (msEnA3_ok hl) (start_ok hl) esEnA3a1_made
/-- circa/units.Precision: 50 operations. -/
noncomputable def esEnA3a2 : List Entry := [⟨[q51], [], q54, []⟩]
theorem esEnA3a2_made : madeE tbu (callM tbu msEnA3 100) hp 77 esEnA3a2 = true := by kernel_rfl
theorem esEnA3a2_ok {w0 : World} (hl : laidMetH Tryz.prog Rows.axesKnownRow.laid w0) : EsOk tbu w0 hp 77 esEnA3a2 := madeE_ok (tbu_ok w0) (msEnA3_ok hl) (start_ok hl) esEnA3a2_made
/-- circa/units.Of: 890 operations. -/
noncomputable def esEnA3a3 : List Entry := [⟨[q10], [], q20, []⟩,
  ⟨[q16], [], q22, []⟩,
  ⟨[q51], [], q56, []⟩,
  ⟨[q82], [], (.tup [q86, q5]), []⟩,
  ⟨[q88], [], q90, []⟩]
theorem esEnA3a3_made : madeE tbu (callM tbu msEnA3 100) hp 107 esEnA3a3 = true := by kernel_rfl
theorem esEnA3a3_ok {w0 : World} (hl : laidMetH Tryz.prog Rows.axesKnownRow.laid w0) : EsOk tbu w0 hp 107 esEnA3a3 := madeE_ok (tbu_ok w0) (msEnA3_ok hl) (start_ok hl) esEnA3a3_made
/-- circa/bounds.Check: 436 operations. -/
noncomputable def esEnA3a4 : List Entry := [⟨[q15], [], q5, []⟩,
  ⟨[q17], [], q5, []⟩,
  ⟨[q60], [], q5, []⟩,
  ⟨[q91], [], q5, []⟩]
theorem esEnA3a4_made : madeE tbu (callM tbu msEnA3 100) hp 137 esEnA3a4 = true := by kernel_rfl
theorem esEnA3a4_ok {w0 : World} (hl : laidMetH Tryz.prog Rows.axesKnownRow.laid w0) : EsOk tbu w0 hp 137 esEnA3a4 := madeE_ok (tbu_ok w0) (msEnA3_ok hl) (start_ok hl) esEnA3a4_made
/-- circa/bounds.Days: 1356 operations. -/
noncomputable def esEnA3a5 : List Entry := [⟨[q10], [], q20, []⟩,
  ⟨[q16], [], q22, []⟩]
theorem esEnA3a5_made : madeE tbu (callM tbu msEnA3 100) hp 141 esEnA3a5 = true := by kernel_rfl
theorem esEnA3a5_ok {w0 : World} (hl : laidMetH Tryz.prog Rows.axesKnownRow.laid w0) : EsOk tbu w0 hp 141 esEnA3a5 := madeE_ok (tbu_ok w0) (msEnA3_ok hl) (start_ok hl) esEnA3a5_made
/-- circa/units.unit: 602 operations. -/
noncomputable def esEnA3a6 : List Entry := [⟨[q66, (.agg [q5, q4, q4])], [], (.tup [(.agg [q19, q5, q19, q5]), q5]), []⟩,
  ⟨[q73, (.agg [q5, q4, q13])], [], (.tup [(.agg [q19, q4, q19, q4]), q5]), []⟩]
theorem esEnA3a6_made : madeE tbu (callM tbu msEnA3 100) hp 165 esEnA3a6 = true := by kernel_rfl
theorem esEnA3a6_ok {w0 : World} (hl : laidMetH Tryz.prog Rows.axesKnownRow.laid w0) : EsOk tbu w0 hp 165 esEnA3a6 := madeE_ok (tbu_ok w0) (msEnA3_ok hl) (start_ok hl) esEnA3a6_made
/-- circa/months.Len: 65 operations. -/
noncomputable def esEnA3a7 : List Entry := [⟨[q5, q4], [], (.tup [q67, q5]), []⟩]
theorem esEnA3a7_made : madeE tbu (callM tbu msEnA3 100) hp 262 esEnA3a7 = true := by kernel_rfl
theorem esEnA3a7_ok {w0 : World} (hl : laidMetH Tryz.prog Rows.axesKnownRow.laid w0) : EsOk tbu w0 hp 262 esEnA3a7 := madeE_ok (tbu_ok w0) (msEnA3_ok hl) (start_ok hl) esEnA3a7_made
end Ev
end Go.Proofs.YtmebmfgmopdieaaGreatDoor

/-! Calls that were reckoned, level 4 (printed by genents.py). -/
set_option linter.unusedVariables false
set_option maxRecDepth 1000000
namespace Go.Proofs.YtmebmfgmopdieaaGreatDoor
open Go.RowKit
namespace Ev
noncomputable def msEnA4 : Tr (List Entry) := (.node none (.node none (.node none (.node (some ((((esEnA0a0 ++ esEnA0a1) ++ esEnA0a2) ++ esEnA0a3))) (.node none (.node none (.node none .nil (.node (some (esEnA0b4)) .nil .nil)) (.node none .nil (.node (some (esEnA1a5)) (.node (some (esEnA1a7)) .nil .nil) .nil))) .nil) (.node none .nil (.node none .nil (.node none .nil (.node (some (esEnA1a6)) .nil .nil))))) (.node none (.node none (.node none .nil (.node (some (esEnA2a0)) .nil .nil)) .nil) (.node none (.node none (.node none (.node (some (esEnA2a1)) .nil .nil) .nil) (.node (some (esEnA3a3)) .nil .nil)) .nil))) (.node none (.node none (.node none (.node none (.node none (.node none (.node (some (esEnA0b6)) .nil .nil) .nil) (.node (some (esEnA1a4)) .nil .nil)) .nil) .nil) (.node none (.node none (.node none (.node (some ((esEnA0a4 ++ esEnA3a4))) .nil .nil) .nil) .nil) (.node none (.node none (.node (some (esEnA0b0)) .nil .nil) .nil) .nil))) (.node none (.node none (.node none (.node none .nil (.node (some (esEnA2a2)) .nil .nil)) (.node none (.node (some ((esEnA1a3 ++ esEnA3a6))) .nil .nil) .nil)) (.node none .nil (.node none (.node (some (esEnA0b2)) .nil .nil) .nil))) (.node none (.node none (.node (some (esEnA3a2)) (.node (some (esEnA3a5)) .nil .nil) .nil) .nil) .nil)))) (.node none (.node none (.node none (.node none (.node none .nil (.node none (.node (some (esEnA0b1)) .nil .nil) .nil)) (.node none .nil (.node none (.node none (.node (some (esEnA2a3)) .nil .nil) .nil) (.node (some (esEnA0b5)) .nil .nil)))) (.node none (.node none (.node none (.node (some (esEnA1a0)) .nil .nil) .nil) .nil) .nil)) (.node none (.node none (.node none (.node none (.node none (.node (some (esEnA0b7)) .nil .nil) .nil) .nil) (.node none (.node (some (esEnA1a2)) .nil .nil) .nil)) .nil) (.node none (.node (some (esEnA3a0)) .nil .nil) .nil))) (.node none (.node none .nil (.node none (.node none (.node none (.node (some (esEnA1a1)) .nil .nil) .nil) .nil) .nil)) (.node none (.node none (.node none (.node none (.node none (.node (some (esEnA3a7)) .nil .nil) .nil) .nil) .nil) .nil) (.node none (.node (some (esEnA3a1)) .nil .nil) (.node none (.node none .nil (.node none (.node (some (esEnA0b8)) .nil .nil) .nil)) (.node none (.node (some (esEnA0b3)) .nil .nil) .nil)))))))
theorem msEnA4_ok {w0 : World} (hl : laidMetH Tryz.prog Rows.axesKnownRow.laid w0) : MsOk tbu w0 hp msEnA4 := msOk_all (Tr.allP_none (Tr.allP_none (Tr.allP_none (Tr.allP_some ((EsOk.app (EsOk.app (EsOk.app (esEnA0a0_ok hl) (esEnA0a1_ok hl)) (esEnA0a2_ok hl)) (esEnA0a3_ok hl))) (Tr.allP_none (Tr.allP_none (Tr.allP_none Tr.allP_nil (Tr.allP_some ((esEnA0b4_ok hl)) Tr.allP_nil Tr.allP_nil)) (Tr.allP_none Tr.allP_nil (Tr.allP_some ((esEnA1a5_ok hl)) (Tr.allP_some ((esEnA1a7_ok hl)) Tr.allP_nil Tr.allP_nil) Tr.allP_nil))) Tr.allP_nil) (Tr.allP_none Tr.allP_nil (Tr.allP_none Tr.allP_nil (Tr.allP_none Tr.allP_nil (Tr.allP_some ((esEnA1a6_ok hl)) Tr.allP_nil Tr.allP_nil))))) (Tr.allP_none (Tr.allP_none (Tr.allP_none Tr.allP_nil (Tr.allP_some ((esEnA2a0_ok hl)) Tr.allP_nil Tr.allP_nil)) Tr.allP_nil) (Tr.allP_none (Tr.allP_none (Tr.allP_none (Tr.allP_some ((esEnA2a1_ok hl)) Tr.allP_nil Tr.allP_nil) Tr.allP_nil) (Tr.allP_some ((esEnA3a3_ok hl)) Tr.allP_nil Tr.allP_nil)) Tr.allP_nil))) (Tr.allP_none (Tr.allP_none (Tr.allP_none (Tr.allP_none (Tr.allP_none (Tr.allP_none (Tr.allP_some ((esEnA0b6_ok hl)) Tr.allP_nil Tr.allP_nil) Tr.allP_nil) (Tr.allP_some ((esEnA1a4_ok hl)) Tr.allP_nil Tr.allP_nil)) Tr.allP_nil) Tr.allP_nil) (Tr.allP_none (Tr.allP_none (Tr.allP_none (Tr.allP_some ((EsOk.app (esEnA0a4_ok hl) (esEnA3a4_ok hl))) Tr.allP_nil Tr.allP_nil) Tr.allP_nil) Tr.allP_nil) (Tr.allP_none (Tr.allP_none (Tr.allP_some ((esEnA0b0_ok hl)) Tr.allP_nil Tr.allP_nil) Tr.allP_nil) Tr.allP_nil))) (Tr.allP_none (Tr.allP_none (Tr.allP_none (Tr.allP_none Tr.allP_nil (Tr.allP_some ((esEnA2a2_ok hl)) Tr.allP_nil Tr.allP_nil)) (Tr.allP_none (Tr.allP_some ((EsOk.app (esEnA1a3_ok hl) (esEnA3a6_ok hl))) Tr.allP_nil Tr.allP_nil) Tr.allP_nil)) (Tr.allP_none Tr.allP_nil (Tr.allP_none (Tr.allP_some ((esEnA0b2_ok hl)) Tr.allP_nil Tr.allP_nil) Tr.allP_nil))) (Tr.allP_none (Tr.allP_none (Tr.allP_some ((esEnA3a2_ok hl)) (Tr.allP_some ((esEnA3a5_ok hl)) Tr.allP_nil Tr.allP_nil) Tr.allP_nil) Tr.allP_nil) Tr.allP_nil)))) (Tr.allP_none (Tr.allP_none (Tr.allP_none (Tr.allP_none (Tr.allP_none Tr.allP_nil (Tr.allP_none (Tr.allP_some ((esEnA0b1_ok hl)) Tr.allP_nil Tr.allP_nil) Tr.allP_nil)) (Tr.allP_none Tr.allP_nil (Tr.allP_none (Tr.allP_none (Tr.allP_some ((esEnA2a3_ok hl)) Tr.allP_nil Tr.allP_nil) Tr.allP_nil) (Tr.allP_some ((esEnA0b5_ok hl)) Tr.allP_nil Tr.allP_nil)))) (Tr.allP_none (Tr.allP_none (Tr.allP_none (Tr.allP_some ((esEnA1a0_ok hl)) Tr.allP_nil Tr.allP_nil) Tr.allP_nil) Tr.allP_nil) Tr.allP_nil)) (Tr.allP_none (Tr.allP_none (Tr.allP_none (Tr.allP_none (Tr.allP_none (Tr.allP_some ((esEnA0b7_ok hl)) Tr.allP_nil Tr.allP_nil) Tr.allP_nil) Tr.allP_nil) (Tr.allP_none (Tr.allP_some ((esEnA1a2_ok hl)) Tr.allP_nil Tr.allP_nil) Tr.allP_nil)) Tr.allP_nil) (Tr.allP_none (Tr.allP_some ((esEnA3a0_ok hl)) Tr.allP_nil Tr.allP_nil) Tr.allP_nil))) (Tr.allP_none (Tr.allP_none Tr.allP_nil (Tr.allP_none (Tr.allP_none (Tr.allP_none (Tr.allP_some ((esEnA1a1_ok hl)) Tr.allP_nil Tr.allP_nil) Tr.allP_nil) Tr.allP_nil) Tr.allP_nil)) (Tr.allP_none (Tr.allP_none (Tr.allP_none (Tr.allP_none (Tr.allP_none (Tr.allP_some ((esEnA3a7_ok hl)) Tr.allP_nil Tr.allP_nil) Tr.allP_nil) Tr.allP_nil) Tr.allP_nil) Tr.allP_nil) (Tr.allP_none (Tr.allP_some ((esEnA3a1_ok hl)) Tr.allP_nil Tr.allP_nil) (Tr.allP_none (Tr.allP_none Tr.allP_nil (Tr.allP_none (Tr.allP_some ((esEnA0b8_ok hl)) Tr.allP_nil Tr.allP_nil) Tr.allP_nil)) (Tr.allP_none (Tr.allP_some ((esEnA0b3_ok hl)) Tr.allP_nil Tr.allP_nil) Tr.allP_nil)))))))
end Ev
end Go.Proofs.YtmebmfgmopdieaaGreatDoor

/-! Calls that were reckoned, level 4 (printed by genents.py). -/
set_option linter.unusedVariables false
set_option maxRecDepth 1000000
namespace Go.Proofs.YtmebmfgmopdieaaGreatDoor
open Go.RowKit
namespace Ev
/-- circa/circalaw36.read: 138 operations. -/
noncomputable def esEnA4a0 : List Entry := [⟨[(.v (.string ⟨#[91, 46, 46, 50, 48, 48, 52, 93]⟩))], [], q53, [(.rowU [q1, q1, q50, q5, q5, q9, q9, q0, q0, q0, q1, q1, q1, q9, q5, q5, q9, q9, q0, q0, q0] 21 123)]⟩,
  ⟨[q83], [], q84, []⟩,
  ⟨[q64], [], q89, []⟩]
theorem esEnA4a0_made : madeE tbu (callM tbu msEnA4 100) hp 16 esEnA4a0 = true := by kernel_rfl
theorem esEnA4a0_ok {w0 : World} (hl : laidMetH Tryz.prog Rows.axesKnownRow.laid w0) : EsOk tbu w0 hp 16 esEnA4a0 := madeE_ok (tbu_ok w0) (msEnA4_ok hl) (start_ok hl) esEnA4a0_made
/-- circa/axes.Inside: 44 operations. -/
noncomputable def esEnA4a1 : List Entry := [⟨[q89, (.v (.float .f64 9221120237041090561))], [], (.tup [q23, q5]), []⟩]
theorem esEnA4a1_made : madeE tbu (callM tbu msEnA4 100) hp 20 esEnA4a1 = true := by kernel_rfl
theorem esEnA4a1_ok {w0 : World} (hl : laidMetH Tryz.prog Rows.axesKnownRow.laid w0) : EsOk tbu w0 hp 20 esEnA4a1 := madeE_ok (tbu_ok w0) (msEnA4_ok hl) (start_ok hl) esEnA4a1_made
/-- circa/parsers.Parse: 3151 operations. -/
noncomputable def esEnA4a2 : List Entry := [⟨[(.v (.string ⟨#[48, 48, 48, 48, 47, 46, 46]⟩))], [], (.tup [q92, q4, q5, q5]), []⟩,
  ⟨[(.v (.string ⟨#[48, 48, 48, 48, 47]⟩))], [], (.tup [q93, q4, q5, q5]), []⟩]
theorem esEnA4a2_made : madeE tbu (callM tbu msEnA4 100) hp 44 esEnA4a2 = true := by kernel_rfl
theorem esEnA4a2_ok {w0 : World} (hl : laidMetH Tryz.prog Rows.axesKnownRow.laid w0) : EsOk tbu w0 hp 44 esEnA4a2 := madeE_ok (tbu_ok w0) (msEnA4_ok hl) (start_ok hl) esEnA4a2_made
/-- circa/families.date: 214 operations. -/
noncomputable def esEnA4a3 : List Entry := [⟨[q82], [], q26, [(.row [q19, (.v (.int .i64 (3652424999999999635))), q19, (.v (.int .i64 (3652424999999999999)))] 26)]⟩,
  ⟨[q88], [], q26, [(.row [q19, q5, q19, (.v (.int .i64 (365)))] 26)]⟩]
theorem esEnA4a3_made : madeE tbu (callM tbu msEnA4 100) hp 73 esEnA4a3 = true := by kernel_rfl
theorem esEnA4a3_ok {w0 : World} (hl : laidMetH Tryz.prog Rows.axesKnownRow.laid w0) : EsOk tbu w0 hp 73 esEnA4a3 := madeE_ok (tbu_ok w0) (msEnA4_ok hl) (start_ok hl) esEnA4a3_made
/-- circa/families.interval: 680 operations. -/
noncomputable def esEnA4a4 : List Entry := [⟨[q25], [], q26, [(.row [q19, (.v (.int .i64 (-3652425000000000000))), q19, (.v (.int .i64 (3652425000000000365)))] 26)]⟩,
  ⟨[q62], [], q26, [(.row [(.v (.int .i8 (-1))), q5, q19, q55] 26)]⟩,
  ⟨[q92], [], q26, [(.row [q19, q5, (.v (.int .i8 (1))), q5] 26)]⟩,
  ⟨[q93], [], (.agg [(.v (.int .u8 (5))), q24, q1, q1, q9, q5, q5, q9, q9, q0, q0, q0, q0, q19, q5, (.v (.int .i8 (1))), q5]), []⟩]
theorem esEnA4a4_made : madeE tbu (callM tbu msEnA4 100) hp 74 esEnA4a4 = true := by kernel_rfl
theorem esEnA4a4_ok {w0 : World} (hl : laidMetH Tryz.prog Rows.axesKnownRow.laid w0) : EsOk tbu w0 hp 74 esEnA4a4 := madeE_ok (tbu_ok w0) (msEnA4_ok hl) (start_ok hl) esEnA4a4_made
/-- circa/families.span: 54 operations. -/
noncomputable def esEnA4a5 : List Entry := [⟨[(.agg [q1, q1, q50, q5, q5, q9, q9, q0, q0, q0, q1, q1, q1, q9, q5, q5, q9, q9, q0, q0, q0]), q6, q1], [], (.agg [(.v (.int .i8 (-1))), q5, q19, q55]), []⟩]
theorem esEnA4a5_made : madeE tbu (callM tbu msEnA4 100) hp 76 esEnA4a5 = true := by kernel_rfl
theorem esEnA4a5_ok {w0 : World} (hl : laidMetH Tryz.prog Rows.axesKnownRow.laid w0) : EsOk tbu w0 hp 76 esEnA4a5 := madeE_ok (tbu_ok w0) (msEnA4_ok hl) (start_ok hl) esEnA4a5_made
/-- circa/bounds.Pair: 582 operations. -/
noncomputable def esEnA4a6 : List Entry := [⟨[q15, q17], [], q5, []⟩,
  ⟨[q61, q60], [], q5, []⟩,
  ⟨[q91, q61], [], q5, []⟩,
  ⟨[q91, q94], [], q5, []⟩]
theorem esEnA4a6_made : madeE tbu (callM tbu msEnA4 100) hp 100 esEnA4a6 = true := by kernel_rfl
theorem esEnA4a6_ok {w0 : World} (hl : laidMetH Tryz.prog Rows.axesKnownRow.laid w0) : EsOk tbu w0 hp 100 esEnA4a6 := madeE_ok (tbu_ok w0) (msEnA4_ok hl) (start_ok hl) esEnA4a6_made
/-- (circa/fillings.form).seek: 306 operations. -/
noncomputable def esEnA4a7 : List Entry := [⟨[q68, (.agg [q30, q5, q5]), q6], [(.rowU [q4] 1 3), (.rowU [q4] 1 3)], (.tup [(.agg [q5, q4, q4]), q6]), []⟩,
  ⟨[q74, (.agg [q30, q5, q5]), q6], [(.rowU [q4] 1 3), (.rowU [q13] 1 3)], (.tup [(.agg [q5, q4, q13]), q6]), []⟩]
theorem esEnA4a7_made : madeE tbu (callM tbu msEnA4 100) hp 140 esEnA4a7 = true := by kernel_rfl
theorem esEnA4a7_ok {w0 : World} (hl : laidMetH Tryz.prog Rows.axesKnownRow.laid w0) : EsOk tbu w0 hp 140 esEnA4a7 := madeE_ok (tbu_ok w0) (msEnA4_ok hl) (start_ok hl) esEnA4a7_made
end Ev
end Go.Proofs.YtmebmfgmopdieaaGreatDoor

/-! Calls that were reckoned, level 5 (printed by genents.py). -/
set_option linter.unusedVariables false
set_option maxRecDepth 1000000
namespace Go.Proofs.YtmebmfgmopdieaaGreatDoor
open Go.RowKit
namespace Ev
noncomputable def msEnA5 : Tr (List Entry) := (.node none (.node none (.node none (.node (some ((((esEnA0a0 ++ esEnA0a1) ++ esEnA0a2) ++ esEnA0a3))) (.node none (.node none (.node none .nil (.node (some (esEnA0b4)) .nil .nil)) (.node none .nil (.node (some (esEnA1a5)) (.node (some (esEnA1a7)) .nil .nil) .nil))) .nil) (.node none .nil (.node none .nil (.node none .nil (.node (some (esEnA1a6)) .nil .nil))))) (.node none (.node none (.node none .nil (.node (some (esEnA2a0)) .nil .nil)) .nil) (.node none (.node none (.node none (.node (some (esEnA2a1)) .nil .nil) .nil) (.node (some (esEnA3a3)) .nil .nil)) .nil))) (.node none (.node none (.node none (.node none (.node none (.node none (.node (some (esEnA0b6)) .nil .nil) .nil) (.node (some (esEnA1a4)) .nil .nil)) .nil) .nil) (.node none (.node none (.node (some (esEnA4a3)) (.node (some ((esEnA0a4 ++ esEnA3a4))) .nil .nil) .nil) .nil) (.node none (.node none (.node (some (esEnA0b0)) .nil .nil) .nil) .nil))) (.node none (.node none (.node none (.node none .nil (.node (some (esEnA2a2)) .nil .nil)) (.node none (.node (some ((esEnA1a3 ++ esEnA3a6))) .nil .nil) .nil)) (.node none .nil (.node none (.node (some (esEnA0b2)) .nil .nil) .nil))) (.node none (.node none (.node (some (esEnA3a2)) (.node (some (esEnA3a5)) .nil .nil) .nil) .nil) .nil)))) (.node none (.node none (.node none (.node (some (esEnA4a0)) (.node none .nil (.node none (.node (some (esEnA0b1)) .nil .nil) .nil)) (.node none .nil (.node none (.node none (.node (some (esEnA2a3)) .nil .nil) .nil) (.node (some (esEnA0b5)) .nil .nil)))) (.node none (.node none (.node none (.node (some (esEnA1a0)) .nil .nil) .nil) .nil) .nil)) (.node none (.node (some (esEnA4a1)) (.node none (.node none (.node none (.node (some (esEnA0b7)) .nil .nil) .nil) .nil) (.node (some (esEnA4a6)) (.node (some (esEnA1a2)) .nil .nil) .nil)) .nil) (.node none (.node (some ((esEnA3a0 ++ esEnA4a2))) (.node (some (esEnA4a5)) (.node (some (esEnA4a7)) .nil .nil) .nil) .nil) .nil))) (.node none (.node none .nil (.node none (.node none (.node (some (esEnA4a4)) (.node (some (esEnA1a1)) .nil .nil) .nil) .nil) .nil)) (.node none (.node none (.node none (.node none (.node none (.node (some (esEnA3a7)) .nil .nil) .nil) .nil) .nil) .nil) (.node none (.node (some (esEnA3a1)) .nil .nil) (.node none (.node none .nil (.node none (.node (some (esEnA0b8)) .nil .nil) .nil)) (.node none (.node (some (esEnA0b3)) .nil .nil) .nil)))))))
theorem msEnA5_ok {w0 : World} (hl : laidMetH Tryz.prog Rows.axesKnownRow.laid w0) : MsOk tbu w0 hp msEnA5 := msOk_all (Tr.allP_none (Tr.allP_none (Tr.allP_none (Tr.allP_some ((EsOk.app (EsOk.app (EsOk.app (esEnA0a0_ok hl) (esEnA0a1_ok hl)) (esEnA0a2_ok hl)) (esEnA0a3_ok hl))) (Tr.allP_none (Tr.allP_none (Tr.allP_none Tr.allP_nil (Tr.allP_some ((esEnA0b4_ok hl)) Tr.allP_nil Tr.allP_nil)) (Tr.allP_none Tr.allP_nil (Tr.allP_some ((esEnA1a5_ok hl)) (Tr.allP_some ((esEnA1a7_ok hl)) Tr.allP_nil Tr.allP_nil) Tr.allP_nil))) Tr.allP_nil) (Tr.allP_none Tr.allP_nil (Tr.allP_none Tr.allP_nil (Tr.allP_none Tr.allP_nil (Tr.allP_some ((esEnA1a6_ok hl)) Tr.allP_nil Tr.allP_nil))))) (Tr.allP_none (Tr.allP_none (Tr.allP_none Tr.allP_nil (Tr.allP_some ((esEnA2a0_ok hl)) Tr.allP_nil Tr.allP_nil)) Tr.allP_nil) (Tr.allP_none (Tr.allP_none (Tr.allP_none (Tr.allP_some ((esEnA2a1_ok hl)) Tr.allP_nil Tr.allP_nil) Tr.allP_nil) (Tr.allP_some ((esEnA3a3_ok hl)) Tr.allP_nil Tr.allP_nil)) Tr.allP_nil))) (Tr.allP_none (Tr.allP_none (Tr.allP_none (Tr.allP_none (Tr.allP_none (Tr.allP_none (Tr.allP_some ((esEnA0b6_ok hl)) Tr.allP_nil Tr.allP_nil) Tr.allP_nil) (Tr.allP_some ((esEnA1a4_ok hl)) Tr.allP_nil Tr.allP_nil)) Tr.allP_nil) Tr.allP_nil) (Tr.allP_none (Tr.allP_none (Tr.allP_some ((esEnA4a3_ok hl)) (Tr.allP_some ((EsOk.app (esEnA0a4_ok hl) (esEnA3a4_ok hl))) Tr.allP_nil Tr.allP_nil) Tr.allP_nil) Tr.allP_nil) (Tr.allP_none (Tr.allP_none (Tr.allP_some ((esEnA0b0_ok hl)) Tr.allP_nil Tr.allP_nil) Tr.allP_nil) Tr.allP_nil))) (Tr.allP_none (Tr.allP_none (Tr.allP_none (Tr.allP_none Tr.allP_nil (Tr.allP_some ((esEnA2a2_ok hl)) Tr.allP_nil Tr.allP_nil)) (Tr.allP_none (Tr.allP_some ((EsOk.app (esEnA1a3_ok hl) (esEnA3a6_ok hl))) Tr.allP_nil Tr.allP_nil) Tr.allP_nil)) (Tr.allP_none Tr.allP_nil (Tr.allP_none (Tr.allP_some ((esEnA0b2_ok hl)) Tr.allP_nil Tr.allP_nil) Tr.allP_nil))) (Tr.allP_none (Tr.allP_none (Tr.allP_some ((esEnA3a2_ok hl)) (Tr.allP_some ((esEnA3a5_ok hl)) Tr.allP_nil Tr.allP_nil) Tr.allP_nil) Tr.allP_nil) Tr.allP_nil)))) (Tr.allP_none (Tr.allP_none (Tr.allP_none (Tr.allP_some ((esEnA4a0_ok hl)) (Tr.allP_none Tr.allP_nil (Tr.allP_none (Tr.allP_some ((esEnA0b1_ok hl)) Tr.allP_nil Tr.allP_nil) Tr.allP_nil)) (Tr.allP_none Tr.allP_nil (Tr.allP_none (Tr.allP_none (Tr.allP_some ((esEnA2a3_ok hl)) Tr.allP_nil Tr.allP_nil) Tr.allP_nil) (Tr.allP_some ((esEnA0b5_ok hl)) Tr.allP_nil Tr.allP_nil)))) (Tr.allP_none (Tr.allP_none (Tr.allP_none (Tr.allP_some ((esEnA1a0_ok hl)) Tr.allP_nil Tr.allP_nil) Tr.allP_nil) Tr.allP_nil) Tr.allP_nil)) (Tr.allP_none (Tr.allP_some ((esEnA4a1_ok hl)) (Tr.allP_none (Tr.allP_none (Tr.allP_none (Tr.allP_some ((esEnA0b7_ok hl)) Tr.allP_nil Tr.allP_nil) Tr.allP_nil) Tr.allP_nil) (Tr.allP_some ((esEnA4a6_ok hl)) (Tr.allP_some ((esEnA1a2_ok hl)) Tr.allP_nil Tr.allP_nil) Tr.allP_nil)) Tr.allP_nil) (Tr.allP_none (Tr.allP_some ((EsOk.app (esEnA3a0_ok hl) (esEnA4a2_ok hl))) (Tr.allP_some ((esEnA4a5_ok hl)) (Tr.allP_some ((esEnA4a7_ok hl)) Tr.allP_nil Tr.allP_nil) Tr.allP_nil) Tr.allP_nil) Tr.allP_nil))) (Tr.allP_none (Tr.allP_none Tr.allP_nil (Tr.allP_none (Tr.allP_none (Tr.allP_some ((esEnA4a4_ok hl)) (Tr.allP_some ((esEnA1a1_ok hl)) Tr.allP_nil Tr.allP_nil) Tr.allP_nil) Tr.allP_nil) Tr.allP_nil)) (Tr.allP_none (Tr.allP_none (Tr.allP_none (Tr.allP_none (Tr.allP_none (Tr.allP_some ((esEnA3a7_ok hl)) Tr.allP_nil Tr.allP_nil) Tr.allP_nil) Tr.allP_nil) Tr.allP_nil) Tr.allP_nil) (Tr.allP_none (Tr.allP_some ((esEnA3a1_ok hl)) Tr.allP_nil Tr.allP_nil) (Tr.allP_none (Tr.allP_none Tr.allP_nil (Tr.allP_none (Tr.allP_some ((esEnA0b8_ok hl)) Tr.allP_nil Tr.allP_nil) Tr.allP_nil)) (Tr.allP_none (Tr.allP_some ((esEnA0b3_ok hl)) Tr.allP_nil Tr.allP_nil) Tr.allP_nil)))))))
end Ev
end Go.Proofs.YtmebmfgmopdieaaGreatDoor

/-! Calls that were reckoned, level 5 (printed by genents.py). -/
set_option linter.unusedVariables false
set_option maxRecDepth 1000000
namespace Go.Proofs.YtmebmfgmopdieaaGreatDoor
open Go.RowKit
namespace Ev
/-- circa/circalaw36.read: 92 operations. -/
noncomputable def esEnA5a0 : List Entry := [⟨[(.v (.string ⟨#[48, 48, 48, 48, 47, 46, 46]⟩))], [], q92, []⟩,
  ⟨[(.v (.string ⟨#[48, 48, 48, 48, 47]⟩))], [], q93, []⟩]
theorem esEnA5a0_made : madeE tbu (callM tbu msEnA5 100) hp 16 esEnA5a0 = true := by kernel_rfl
theorem esEnA5a0_ok {w0 : World} (hl : laidMetH Tryz.prog Rows.axesKnownRow.laid w0) : EsOk tbu w0 hp 16 esEnA5a0 := madeE_ok (tbu_ok w0) (msEnA5_ok hl) (start_ok hl) esEnA5a0_made
/-- circa/parsers.Parse: 6229 operations. -/
noncomputable def esEnA5a1 : List Entry := [⟨[(.v (.string ⟨#[89, 45, 49, 69, 49, 54, 47, 89, 49, 69, 49, 54]⟩))], [], (.tup [q25, q13, q5, q5]), []⟩,
  ⟨[(.v (.string ⟨#[46, 46, 47, 50, 48, 48, 52]⟩))], [], (.tup [q62, q4, q5, q5]), []⟩]
theorem esEnA5a1_made : madeE tbu (callM tbu msEnA5 100) hp 44 esEnA5a1 = true := by kernel_rfl
theorem esEnA5a1_ok {w0 : World} (hl : laidMetH Tryz.prog Rows.axesKnownRow.laid w0) : EsOk tbu w0 hp 44 esEnA5a1 := madeE_ok (tbu_ok w0) (msEnA5_ok hl) (start_ok hl) esEnA5a1_made
/-- circa/exprs.Check: 544 operations. -/
noncomputable def esEnA5a2 : List Entry := [⟨[q25], [], q5, []⟩,
  ⟨[q62], [], q5, []⟩,
  ⟨[q92], [], q5, []⟩,
  ⟨[q93], [], q5, []⟩]
theorem esEnA5a2_made : madeE tbu (callM tbu msEnA5 100) hp 46 esEnA5a2 = true := by kernel_rfl
theorem esEnA5a2_ok {w0 : World} (hl : laidMetH Tryz.prog Rows.axesKnownRow.laid w0) : EsOk tbu w0 hp 46 esEnA5a2 := madeE_ok (tbu_ok w0) (msEnA5_ok hl) (start_ok hl) esEnA5a2_made
/-- circa/families.Of: 244 operations. -/
noncomputable def esEnA5a3 : List Entry := [⟨[q53], [(.rowU [q1, q1, q50, q5, q5, q9, q9, q0, q0, q0, q1, q1, q1, q9, q5, q5, q9, q9, q0, q0, q0] 21 123)], (.tup [(.sl 16 0 1 1), q5]), [(.row [q52, q24, q1, q1, q9, q5, q5, q9, q9, q0, q0, q0, q14, (.v (.int .i8 (-1))), q5, q19, q55] 95)]⟩,
  ⟨[q84], [], q27, [(.row [q14, (.sl 16 0 1 1), q1, q1, q9, q5, q5, q9, q9, q0, q0, q0, q0, q19, q5, q19, q5] 95), (.row [q19, (.v (.int .i64 (3652424999999999635))), q19, (.v (.int .i64 (3652424999999999999)))] 26)]⟩,
  ⟨[q89], [], q27, [(.row [q14, (.sl 16 0 1 1), q1, q1, q9, q5, q5, q9, q9, q0, q0, q0, q0, q19, q5, q19, q5] 95), (.row [q19, q5, q19, (.v (.int .i64 (365)))] 26)]⟩]
theorem esEnA5a3_made : madeE tbu (callM tbu msEnA5 100) hp 48 esEnA5a3 = true := by kernel_rfl
theorem esEnA5a3_ok {w0 : World} (hl : laidMetH Tryz.prog Rows.axesKnownRow.laid w0) : EsOk tbu w0 hp 48 esEnA5a3 := madeE_ok (tbu_ok w0) (msEnA5_ok hl) (start_ok hl) esEnA5a3_made
/-- circa/fillings.Check: 112 operations. -/
noncomputable def esEnA5a4 : List Entry := [⟨[q66], [], q5, []⟩,
  ⟨[q73], [], q5, []⟩]
theorem esEnA5a4_made : madeE tbu (callM tbu msEnA5 100) hp 99 esEnA5a4 = true := by kernel_rfl
theorem esEnA5a4_ok {w0 : World} (hl : laidMetH Tryz.prog Rows.axesKnownRow.laid w0) : EsOk tbu w0 hp 99 esEnA5a4 := madeE_ok (tbu_ok w0) (msEnA5_ok hl) (start_ok hl) esEnA5a4_made
end Ev
end Go.Proofs.YtmebmfgmopdieaaGreatDoor

/-! Calls that were reckoned, level 6 (printed by genents.py). -/
set_option linter.unusedVariables false
set_option maxRecDepth 1000000
namespace Go.Proofs.YtmebmfgmopdieaaGreatDoor
open Go.RowKit
namespace Ev
noncomputable def msEnA6 : Tr (List Entry) := (.node none (.node none (.node none (.node (some ((((esEnA0a0 ++ esEnA0a1) ++ esEnA0a2) ++ esEnA0a3))) (.node none (.node none (.node none .nil (.node (some (esEnA0b4)) .nil .nil)) (.node none .nil (.node (some (esEnA1a5)) (.node (some (esEnA1a7)) .nil .nil) .nil))) .nil) (.node none .nil (.node none .nil (.node none .nil (.node (some (esEnA1a6)) .nil .nil))))) (.node none (.node none (.node none .nil (.node (some ((esEnA2a0 ++ esEnA5a4))) .nil .nil)) .nil) (.node none (.node none (.node none (.node (some (esEnA2a1)) .nil .nil) .nil) (.node (some (esEnA3a3)) .nil .nil)) .nil))) (.node none (.node none (.node none (.node none (.node none (.node none (.node (some (esEnA0b6)) .nil .nil) .nil) (.node (some (esEnA1a4)) .nil .nil)) .nil) .nil) (.node none (.node none (.node (some (esEnA4a3)) (.node (some ((esEnA0a4 ++ esEnA3a4))) .nil .nil) .nil) .nil) (.node none (.node none (.node (some (esEnA0b0)) .nil .nil) .nil) .nil))) (.node none (.node none (.node none (.node none .nil (.node (some (esEnA2a2)) .nil .nil)) (.node none (.node (some ((esEnA1a3 ++ esEnA3a6))) .nil .nil) .nil)) (.node none .nil (.node none (.node (some (esEnA0b2)) .nil .nil) .nil))) (.node none (.node none (.node (some (esEnA3a2)) (.node (some (esEnA3a5)) .nil .nil) .nil) .nil) .nil)))) (.node none (.node none (.node none (.node (some ((esEnA4a0 ++ esEnA5a0))) (.node none .nil (.node none (.node (some (esEnA0b1)) .nil .nil) .nil)) (.node (some (esEnA5a3)) .nil (.node none (.node none (.node (some (esEnA2a3)) .nil .nil) .nil) (.node (some (esEnA0b5)) .nil .nil)))) (.node none (.node none (.node none (.node (some (esEnA1a0)) .nil .nil) .nil) .nil) .nil)) (.node none (.node (some (esEnA4a1)) (.node none (.node none (.node none (.node (some (esEnA0b7)) .nil .nil) .nil) .nil) (.node (some (esEnA4a6)) (.node (some (esEnA1a2)) .nil .nil) .nil)) .nil) (.node none (.node (some (((esEnA3a0 ++ esEnA4a2) ++ esEnA5a1))) (.node (some (esEnA4a5)) (.node (some (esEnA4a7)) .nil .nil) .nil) .nil) .nil))) (.node none (.node none .nil (.node none (.node none (.node (some (esEnA4a4)) (.node (some (esEnA1a1)) .nil .nil) .nil) .nil) .nil)) (.node none (.node none (.node none (.node none (.node none (.node (some (esEnA3a7)) .nil .nil) .nil) .nil) .nil) .nil) (.node none (.node (some ((esEnA3a1 ++ esEnA5a2))) .nil .nil) (.node none (.node none .nil (.node none (.node (some (esEnA0b8)) .nil .nil) .nil)) (.node none (.node (some (esEnA0b3)) .nil .nil) .nil)))))))
theorem msEnA6_ok {w0 : World} (hl : laidMetH Tryz.prog Rows.axesKnownRow.laid w0) : MsOk tbu w0 hp msEnA6 := msOk_all (Tr.allP_none (Tr.allP_none (Tr.allP_none (Tr.allP_some ((EsOk.app (EsOk.app (EsOk.app (esEnA0a0_ok hl) (esEnA0a1_ok hl)) (esEnA0a2_ok hl)) (esEnA0a3_ok hl))) (Tr.allP_none (Tr.allP_none (Tr.allP_none Tr.allP_nil (Tr.allP_some ((esEnA0b4_ok hl)) Tr.allP_nil Tr.allP_nil)) (Tr.allP_none Tr.allP_nil (Tr.allP_some ((esEnA1a5_ok hl)) (Tr.allP_some ((esEnA1a7_ok hl)) Tr.allP_nil Tr.allP_nil) Tr.allP_nil))) Tr.allP_nil) (Tr.allP_none Tr.allP_nil (Tr.allP_none Tr.allP_nil (Tr.allP_none Tr.allP_nil (Tr.allP_some ((esEnA1a6_ok hl)) Tr.allP_nil Tr.allP_nil))))) (Tr.allP_none (Tr.allP_none (Tr.allP_none Tr.allP_nil (Tr.allP_some ((EsOk.app (esEnA2a0_ok hl) (esEnA5a4_ok hl))) Tr.allP_nil Tr.allP_nil)) Tr.allP_nil) (Tr.allP_none (Tr.allP_none (Tr.allP_none (Tr.allP_some ((esEnA2a1_ok hl)) Tr.allP_nil Tr.allP_nil) Tr.allP_nil) (Tr.allP_some ((esEnA3a3_ok hl)) Tr.allP_nil Tr.allP_nil)) Tr.allP_nil))) (Tr.allP_none (Tr.allP_none (Tr.allP_none (Tr.allP_none (Tr.allP_none (Tr.allP_none (Tr.allP_some ((esEnA0b6_ok hl)) Tr.allP_nil Tr.allP_nil) Tr.allP_nil) (Tr.allP_some ((esEnA1a4_ok hl)) Tr.allP_nil Tr.allP_nil)) Tr.allP_nil) Tr.allP_nil) (Tr.allP_none (Tr.allP_none (Tr.allP_some ((esEnA4a3_ok hl)) (Tr.allP_some ((EsOk.app (esEnA0a4_ok hl) (esEnA3a4_ok hl))) Tr.allP_nil Tr.allP_nil) Tr.allP_nil) Tr.allP_nil) (Tr.allP_none (Tr.allP_none (Tr.allP_some ((esEnA0b0_ok hl)) Tr.allP_nil Tr.allP_nil) Tr.allP_nil) Tr.allP_nil))) (Tr.allP_none (Tr.allP_none (Tr.allP_none (Tr.allP_none Tr.allP_nil (Tr.allP_some ((esEnA2a2_ok hl)) Tr.allP_nil Tr.allP_nil)) (Tr.allP_none (Tr.allP_some ((EsOk.app (esEnA1a3_ok hl) (esEnA3a6_ok hl))) Tr.allP_nil Tr.allP_nil) Tr.allP_nil)) (Tr.allP_none Tr.allP_nil (Tr.allP_none (Tr.allP_some ((esEnA0b2_ok hl)) Tr.allP_nil Tr.allP_nil) Tr.allP_nil))) (Tr.allP_none (Tr.allP_none (Tr.allP_some ((esEnA3a2_ok hl)) (Tr.allP_some ((esEnA3a5_ok hl)) Tr.allP_nil Tr.allP_nil) Tr.allP_nil) Tr.allP_nil) Tr.allP_nil)))) (Tr.allP_none (Tr.allP_none (Tr.allP_none (Tr.allP_some ((EsOk.app (esEnA4a0_ok hl) (esEnA5a0_ok hl))) (Tr.allP_none Tr.allP_nil (Tr.allP_none (Tr.allP_some ((esEnA0b1_ok hl)) Tr.allP_nil Tr.allP_nil) Tr.allP_nil)) (Tr.allP_some ((esEnA5a3_ok hl)) Tr.allP_nil (Tr.allP_none (Tr.allP_none (Tr.allP_some ((esEnA2a3_ok hl)) Tr.allP_nil Tr.allP_nil) Tr.allP_nil) (Tr.allP_some ((esEnA0b5_ok hl)) Tr.allP_nil Tr.allP_nil)))) (Tr.allP_none (Tr.allP_none (Tr.allP_none (Tr.allP_some ((esEnA1a0_ok hl)) Tr.allP_nil Tr.allP_nil) Tr.allP_nil) Tr.allP_nil) Tr.allP_nil)) (Tr.allP_none (Tr.allP_some ((esEnA4a1_ok hl)) (Tr.allP_none (Tr.allP_none (Tr.allP_none (Tr.allP_some ((esEnA0b7_ok hl)) Tr.allP_nil Tr.allP_nil) Tr.allP_nil) Tr.allP_nil) (Tr.allP_some ((esEnA4a6_ok hl)) (Tr.allP_some ((esEnA1a2_ok hl)) Tr.allP_nil Tr.allP_nil) Tr.allP_nil)) Tr.allP_nil) (Tr.allP_none (Tr.allP_some ((EsOk.app (EsOk.app (esEnA3a0_ok hl) (esEnA4a2_ok hl)) (esEnA5a1_ok hl))) (Tr.allP_some ((esEnA4a5_ok hl)) (Tr.allP_some ((esEnA4a7_ok hl)) Tr.allP_nil Tr.allP_nil) Tr.allP_nil) Tr.allP_nil) Tr.allP_nil))) (Tr.allP_none (Tr.allP_none Tr.allP_nil (Tr.allP_none (Tr.allP_none (Tr.allP_some ((esEnA4a4_ok hl)) (Tr.allP_some ((esEnA1a1_ok hl)) Tr.allP_nil Tr.allP_nil) Tr.allP_nil) Tr.allP_nil) Tr.allP_nil)) (Tr.allP_none (Tr.allP_none (Tr.allP_none (Tr.allP_none (Tr.allP_none (Tr.allP_some ((esEnA3a7_ok hl)) Tr.allP_nil Tr.allP_nil) Tr.allP_nil) Tr.allP_nil) Tr.allP_nil) Tr.allP_nil) (Tr.allP_none (Tr.allP_some ((EsOk.app (esEnA3a1_ok hl) (esEnA5a2_ok hl))) Tr.allP_nil Tr.allP_nil) (Tr.allP_none (Tr.allP_none Tr.allP_nil (Tr.allP_none (Tr.allP_some ((esEnA0b8_ok hl)) Tr.allP_nil Tr.allP_nil) Tr.allP_nil)) (Tr.allP_none (Tr.allP_some ((esEnA0b3_ok hl)) Tr.allP_nil Tr.allP_nil) Tr.allP_nil)))))))
end Ev
end Go.Proofs.YtmebmfgmopdieaaGreatDoor

/-! Calls that were reckoned, level 6 (printed by genents.py). -/
set_option linter.unusedVariables false
set_option maxRecDepth 1000000
namespace Go.Proofs.YtmebmfgmopdieaaGreatDoor
open Go.RowKit
namespace Ev
/-- circa/circalaw36.read: 92 operations. -/
noncomputable def esEnA6a0 : List Entry := [⟨[(.v (.string ⟨#[89, 45, 49, 69, 49, 54, 47, 89, 49, 69, 49, 54]⟩))], [], q25, []⟩,
  ⟨[(.v (.string ⟨#[46, 46, 47, 50, 48, 48, 52]⟩))], [], q62, []⟩]
theorem esEnA6a0_made : madeE tbu (callM tbu msEnA6 100) hp 16 esEnA6a0 = true := by kernel_rfl
theorem esEnA6a0_ok {w0 : World} (hl : laidMetH Tryz.prog Rows.axesKnownRow.laid w0) : EsOk tbu w0 hp 16 esEnA6a0 := madeE_ok (tbu_ok w0) (msEnA6_ok hl) (start_ok hl) esEnA6a0_made
/-- circa/axes.Inside: 260 operations. -/
noncomputable def esEnA6a1 : List Entry := [⟨[q53, (.v (.float .f64 14114660445051763968))], [(.rowU [q1, q1, q50, q5, q5, q9, q9, q0, q0, q0, q1, q1, q1, q9, q5, q5, q9, q9, q0, q0, q0] 21 123)], q54, []⟩,
  ⟨[q53, (.v (.float .f64 18442240474082181120))], [(.rowU [q1, q1, q50, q5, q5, q9, q9, q0, q0, q0, q1, q1, q1, q9, q5, q5, q9, q9, q0, q0, q0] 21 123)], q54, []⟩]
theorem esEnA6a1_made : madeE tbu (callM tbu msEnA6 100) hp 20 esEnA6a1 = true := by kernel_rfl
theorem esEnA6a1_ok {w0 : World} (hl : laidMetH Tryz.prog Rows.axesKnownRow.laid w0) : EsOk tbu w0 hp 20 esEnA6a1 := madeE_ok (tbu_ok w0) (msEnA6_ok hl) (start_ok hl) esEnA6a1_made
/-- circa/extents.Of: 146 operations. -/
noncomputable def esEnA6a2 : List Entry := [⟨[q84], [], (.tup [q86, q5]), []⟩]
theorem esEnA6a2_made : madeE tbu (callM tbu msEnA6 100) hp 43 esEnA6a2 = true := by kernel_rfl
theorem esEnA6a2_ok {w0 : World} (hl : laidMetH Tryz.prog Rows.axesKnownRow.laid w0) : EsOk tbu w0 hp 43 esEnA6a2 := madeE_ok (tbu_ok w0) (msEnA6_ok hl) (start_ok hl) esEnA6a2_made
/-- circa/members.Has: 9626 operations. -/
noncomputable def esEnA6a3 : List Entry := [⟨[q53, (.v (.int .i64 (-9000000000000000000)))], [(.rowU [q1, q1, q50, q5, q5, q9, q9, q0, q0, q0, q1, q1, q1, q9, q5, q5, q9, q9, q0, q0, q0] 21 123)], (.tup [q23, q5]), []⟩,
  ⟨[q89, (.v (.int .i64 (365)))], [], (.tup [q52, q5]), []⟩,
  ⟨[q89, (.v (.int .i64 (366)))], [], q54, []⟩]
theorem esEnA6a3_made : madeE tbu (callM tbu msEnA6 100) hp 47 esEnA6a3 = true := by kernel_rfl
theorem esEnA6a3_ok {w0 : World} (hl : laidMetH Tryz.prog Rows.axesKnownRow.laid w0) : EsOk tbu w0 hp 47 esEnA6a3 := madeE_ok (tbu_ok w0) (msEnA6_ok hl) (start_ok hl) esEnA6a3_made
/-- circa/families.Of: 204 operations. -/
noncomputable def esEnA6a4 : List Entry := [⟨[q25], [], q27, [(.row [q14, (.sl 16 0 1 1), q1, q1, q9, q5, q5, q9, q9, q0, q0, q0, q0, q19, q5, q19, q5] 95), (.row [q19, (.v (.int .i64 (-3652425000000000000))), q19, (.v (.int .i64 (3652425000000000365)))] 26)]⟩,
  ⟨[q62], [], q27, [(.row [q14, (.sl 16 0 1 1), q1, q1, q9, q5, q5, q9, q9, q0, q0, q0, q0, q19, q5, q19, q5] 95), (.row [(.v (.int .i8 (-1))), q5, q19, q55] 26)]⟩,
  ⟨[q92], [], q27, [(.row [q14, (.sl 16 0 1 1), q1, q1, q9, q5, q5, q9, q9, q0, q0, q0, q0, q19, q5, q19, q5] 95), (.row [q19, q5, (.v (.int .i8 (1))), q5] 26)]⟩,
  ⟨[q93], [], q27, [(.row [(.v (.int .u8 (5))), q24, q1, q1, q9, q5, q5, q9, q9, q0, q0, q0, q0, q19, q5, (.v (.int .i8 (1))), q5] 95)]⟩]
theorem esEnA6a4_made : madeE tbu (callM tbu msEnA6 100) hp 48 esEnA6a4 = true := by kernel_rfl
theorem esEnA6a4_ok {w0 : World} (hl : laidMetH Tryz.prog Rows.axesKnownRow.laid w0) : EsOk tbu w0 hp 48 esEnA6a4 := madeE_ok (tbu_ok w0) (msEnA6_ok hl) (start_ok hl) esEnA6a4_made
/-- circa/units.Of: 668 operations. -/
noncomputable def esEnA6a5 : List Entry := [⟨[q66], [], (.tup [(.agg [q19, q5, q19, q5]), q5]), []⟩,
  ⟨[q73], [], (.tup [(.agg [q19, q4, q19, q4]), q5]), []⟩]
theorem esEnA6a5_made : madeE tbu (callM tbu msEnA6 100) hp 107 esEnA6a5 = true := by kernel_rfl
theorem esEnA6a5_ok {w0 : World} (hl : laidMetH Tryz.prog Rows.axesKnownRow.laid w0) : EsOk tbu w0 hp 107 esEnA6a5 := madeE_ok (tbu_ok w0) (msEnA6_ok hl) (start_ok hl) esEnA6a5_made
/-- circa/bounds.Check: 218 operations. -/
noncomputable def esEnA6a6 : List Entry := [⟨[q71], [], q5, []⟩,
  ⟨[q76], [], q5, []⟩]
theorem esEnA6a6_made : madeE tbu (callM tbu msEnA6 100) hp 137 esEnA6a6 = true := by kernel_rfl
theorem esEnA6a6_ok {w0 : World} (hl : laidMetH Tryz.prog Rows.axesKnownRow.laid w0) : EsOk tbu w0 hp 137 esEnA6a6 := madeE_ok (tbu_ok w0) (msEnA6_ok hl) (start_ok hl) esEnA6a6_made
/-- circa/bounds.Days: 3170 operations. -/
noncomputable def esEnA6a7 : List Entry := [⟨[q66], [], (.tup [(.agg [q19, q5, q19, q5]), q5]), []⟩,
  ⟨[q73], [], (.tup [(.agg [q19, q4, q19, q4]), q5]), []⟩]
theorem esEnA6a7_made : madeE tbu (callM tbu msEnA6 100) hp 141 esEnA6a7 = true := by kernel_rfl
theorem esEnA6a7_ok {w0 : World} (hl : laidMetH Tryz.prog Rows.axesKnownRow.laid w0) : EsOk tbu w0 hp 141 esEnA6a7 := madeE_ok (tbu_ok w0) (msEnA6_ok hl) (start_ok hl) esEnA6a7_made
end Ev
end Go.Proofs.YtmebmfgmopdieaaGreatDoor

/-! Calls that were reckoned, level 7 (printed by genents.py). -/
set_option linter.unusedVariables false
set_option maxRecDepth 1000000
namespace Go.Proofs.YtmebmfgmopdieaaGreatDoor
open Go.RowKit
namespace Ev
noncomputable def msEnA7 : Tr (List Entry) := (.node none (.node none (.node none (.node (some ((((esEnA0a0 ++ esEnA0a1) ++ esEnA0a2) ++ esEnA0a3))) (.node none (.node none (.node none .nil (.node (some (esEnA0b4)) .nil .nil)) (.node none .nil (.node (some (esEnA1a5)) (.node (some (esEnA1a7)) .nil .nil) .nil))) (.node (some (esEnA6a3)) .nil .nil)) (.node none .nil (.node none .nil (.node none .nil (.node (some (esEnA1a6)) .nil .nil))))) (.node none (.node none (.node none .nil (.node (some ((esEnA2a0 ++ esEnA5a4))) .nil .nil)) .nil) (.node none (.node (some (esEnA6a2)) (.node none (.node (some (esEnA2a1)) .nil .nil) .nil) (.node (some ((esEnA3a3 ++ esEnA6a5))) .nil .nil)) .nil))) (.node none (.node none (.node none (.node none (.node none (.node none (.node (some (esEnA0b6)) .nil .nil) .nil) (.node (some (esEnA1a4)) .nil .nil)) .nil) .nil) (.node none (.node none (.node (some (esEnA4a3)) (.node (some (((esEnA0a4 ++ esEnA3a4) ++ esEnA6a6))) .nil .nil) .nil) .nil) (.node none (.node none (.node (some (esEnA0b0)) .nil .nil) .nil) .nil))) (.node none (.node none (.node none (.node none .nil (.node (some (esEnA2a2)) .nil .nil)) (.node none (.node (some ((esEnA1a3 ++ esEnA3a6))) .nil .nil) .nil)) (.node none .nil (.node none (.node (some (esEnA0b2)) .nil .nil) .nil))) (.node none (.node none (.node (some (esEnA3a2)) (.node (some ((esEnA3a5 ++ esEnA6a7))) .nil .nil) .nil) .nil) .nil)))) (.node none (.node none (.node none (.node (some (((esEnA4a0 ++ esEnA5a0) ++ esEnA6a0))) (.node none .nil (.node none (.node (some (esEnA0b1)) .nil .nil) .nil)) (.node (some ((esEnA5a3 ++ esEnA6a4))) .nil (.node none (.node none (.node (some (esEnA2a3)) .nil .nil) .nil) (.node (some (esEnA0b5)) .nil .nil)))) (.node none (.node none (.node none (.node (some (esEnA1a0)) .nil .nil) .nil) .nil) .nil)) (.node none (.node (some ((esEnA4a1 ++ esEnA6a1))) (.node none (.node none (.node none (.node (some (esEnA0b7)) .nil .nil) .nil) .nil) (.node (some (esEnA4a6)) (.node (some (esEnA1a2)) .nil .nil) .nil)) .nil) (.node none (.node (some (((esEnA3a0 ++ esEnA4a2) ++ esEnA5a1))) (.node (some (esEnA4a5)) (.node (some (esEnA4a7)) .nil .nil) .nil) .nil) .nil))) (.node none (.node none .nil (.node none (.node none (.node (some (esEnA4a4)) (.node (some (esEnA1a1)) .nil .nil) .nil) .nil) .nil)) (.node none (.node none (.node none (.node none (.node none (.node (some (esEnA3a7)) .nil .nil) .nil) .nil) .nil) .nil) (.node none (.node (some ((esEnA3a1 ++ esEnA5a2))) .nil .nil) (.node none (.node none .nil (.node none (.node (some (esEnA0b8)) .nil .nil) .nil)) (.node none (.node (some (esEnA0b3)) .nil .nil) .nil)))))))
theorem msEnA7_ok {w0 : World} (hl : laidMetH Tryz.prog Rows.axesKnownRow.laid w0) : MsOk tbu w0 hp msEnA7 := msOk_all (Tr.allP_none (Tr.allP_none (Tr.allP_none (Tr.allP_some ((EsOk.app (EsOk.app (EsOk.app (esEnA0a0_ok hl) (esEnA0a1_ok hl)) (esEnA0a2_ok hl)) (esEnA0a3_ok hl))) (Tr.allP_none (Tr.allP_none (Tr.allP_none Tr.allP_nil (Tr.allP_some ((esEnA0b4_ok hl)) Tr.allP_nil Tr.allP_nil)) (Tr.allP_none Tr.allP_nil (Tr.allP_some ((esEnA1a5_ok hl)) (Tr.allP_some ((esEnA1a7_ok hl)) Tr.allP_nil Tr.allP_nil) Tr.allP_nil))) (Tr.allP_some ((esEnA6a3_ok hl)) Tr.allP_nil Tr.allP_nil)) (Tr.allP_none Tr.allP_nil (Tr.allP_none Tr.allP_nil (Tr.allP_none Tr.allP_nil (Tr.allP_some ((esEnA1a6_ok hl)) Tr.allP_nil Tr.allP_nil))))) (Tr.allP_none (Tr.allP_none (Tr.allP_none Tr.allP_nil (Tr.allP_some ((EsOk.app (esEnA2a0_ok hl) (esEnA5a4_ok hl))) Tr.allP_nil Tr.allP_nil)) Tr.allP_nil) (Tr.allP_none (Tr.allP_some ((esEnA6a2_ok hl)) (Tr.allP_none (Tr.allP_some ((esEnA2a1_ok hl)) Tr.allP_nil Tr.allP_nil) Tr.allP_nil) (Tr.allP_some ((EsOk.app (esEnA3a3_ok hl) (esEnA6a5_ok hl))) Tr.allP_nil Tr.allP_nil)) Tr.allP_nil))) (Tr.allP_none (Tr.allP_none (Tr.allP_none (Tr.allP_none (Tr.allP_none (Tr.allP_none (Tr.allP_some ((esEnA0b6_ok hl)) Tr.allP_nil Tr.allP_nil) Tr.allP_nil) (Tr.allP_some ((esEnA1a4_ok hl)) Tr.allP_nil Tr.allP_nil)) Tr.allP_nil) Tr.allP_nil) (Tr.allP_none (Tr.allP_none (Tr.allP_some ((esEnA4a3_ok hl)) (Tr.allP_some ((EsOk.app (EsOk.app (esEnA0a4_ok hl) (esEnA3a4_ok hl)) (esEnA6a6_ok hl))) Tr.allP_nil Tr.allP_nil) Tr.allP_nil) Tr.allP_nil) (Tr.allP_none (Tr.allP_none (Tr.allP_some ((esEnA0b0_ok hl)) Tr.allP_nil Tr.allP_nil) Tr.allP_nil) Tr.allP_nil))) (Tr.allP_none (Tr.allP_none (Tr.allP_none (Tr.allP_none Tr.allP_nil (Tr.allP_some ((esEnA2a2_ok hl)) Tr.allP_nil Tr.allP_nil)) (Tr.allP_none (Tr.allP_some ((EsOk.app (esEnA1a3_ok hl) (esEnA3a6_ok hl))) Tr.allP_nil Tr.allP_nil) Tr.allP_nil)) (Tr.allP_none Tr.allP_nil (Tr.allP_none (Tr.allP_some ((esEnA0b2_ok hl)) Tr.allP_nil Tr.allP_nil) Tr.allP_nil))) (Tr.allP_none (Tr.allP_none (Tr.allP_some ((esEnA3a2_ok hl)) (Tr.allP_some ((EsOk.app (esEnA3a5_ok hl) (esEnA6a7_ok hl))) Tr.allP_nil Tr.allP_nil) Tr.allP_nil) Tr.allP_nil) Tr.allP_nil)))) (Tr.allP_none (Tr.allP_none (Tr.allP_none (Tr.allP_some ((EsOk.app (EsOk.app (esEnA4a0_ok hl) (esEnA5a0_ok hl)) (esEnA6a0_ok hl))) (Tr.allP_none Tr.allP_nil (Tr.allP_none (Tr.allP_some ((esEnA0b1_ok hl)) Tr.allP_nil Tr.allP_nil) Tr.allP_nil)) (Tr.allP_some ((EsOk.app (esEnA5a3_ok hl) (esEnA6a4_ok hl))) Tr.allP_nil (Tr.allP_none (Tr.allP_none (Tr.allP_some ((esEnA2a3_ok hl)) Tr.allP_nil Tr.allP_nil) Tr.allP_nil) (Tr.allP_some ((esEnA0b5_ok hl)) Tr.allP_nil Tr.allP_nil)))) (Tr.allP_none (Tr.allP_none (Tr.allP_none (Tr.allP_some ((esEnA1a0_ok hl)) Tr.allP_nil Tr.allP_nil) Tr.allP_nil) Tr.allP_nil) Tr.allP_nil)) (Tr.allP_none (Tr.allP_some ((EsOk.app (esEnA4a1_ok hl) (esEnA6a1_ok hl))) (Tr.allP_none (Tr.allP_none (Tr.allP_none (Tr.allP_some ((esEnA0b7_ok hl)) Tr.allP_nil Tr.allP_nil) Tr.allP_nil) Tr.allP_nil) (Tr.allP_some ((esEnA4a6_ok hl)) (Tr.allP_some ((esEnA1a2_ok hl)) Tr.allP_nil Tr.allP_nil) Tr.allP_nil)) Tr.allP_nil) (Tr.allP_none (Tr.allP_some ((EsOk.app (EsOk.app (esEnA3a0_ok hl) (esEnA4a2_ok hl)) (esEnA5a1_ok hl))) (Tr.allP_some ((esEnA4a5_ok hl)) (Tr.allP_some ((esEnA4a7_ok hl)) Tr.allP_nil Tr.allP_nil) Tr.allP_nil) Tr.allP_nil) Tr.allP_nil))) (Tr.allP_none (Tr.allP_none Tr.allP_nil (Tr.allP_none (Tr.allP_none (Tr.allP_some ((esEnA4a4_ok hl)) (Tr.allP_some ((esEnA1a1_ok hl)) Tr.allP_nil Tr.allP_nil) Tr.allP_nil) Tr.allP_nil) Tr.allP_nil)) (Tr.allP_none (Tr.allP_none (Tr.allP_none (Tr.allP_none (Tr.allP_none (Tr.allP_some ((esEnA3a7_ok hl)) Tr.allP_nil Tr.allP_nil) Tr.allP_nil) Tr.allP_nil) Tr.allP_nil) Tr.allP_nil) (Tr.allP_none (Tr.allP_some ((EsOk.app (esEnA3a1_ok hl) (esEnA5a2_ok hl))) Tr.allP_nil Tr.allP_nil) (Tr.allP_none (Tr.allP_none Tr.allP_nil (Tr.allP_none (Tr.allP_some ((esEnA0b8_ok hl)) Tr.allP_nil Tr.allP_nil) Tr.allP_nil)) (Tr.allP_none (Tr.allP_some ((esEnA0b3_ok hl)) Tr.allP_nil Tr.allP_nil) Tr.allP_nil)))))))
end Ev
end Go.Proofs.YtmebmfgmopdieaaGreatDoor

/-! Calls that were reckoned, level 7 (printed by genents.py). -/
set_option linter.unusedVariables false
set_option maxRecDepth 1000000
namespace Go.Proofs.YtmebmfgmopdieaaGreatDoor
open Go.RowKit
namespace Ev
/-- circa/axes.Place: 51 operations. -/
noncomputable def esEnA7a0 : List Entry := [⟨[q84], [], q87, []⟩]
theorem esEnA7a0_made : madeE tbu (callM tbu msEnA7 100) hp 15 esEnA7a0 = true := by kernel_rfl
theorem esEnA7a0_ok {w0 : World} (hl : laidMetH Tryz.prog Rows.axesKnownRow.laid w0) : EsOk tbu w0 hp 15 esEnA7a0 := madeE_ok (tbu_ok w0) (msEnA7_ok hl) (start_ok hl) esEnA7a0_made
/-- circa/axes.Inside: 743 operations. -/
noncomputable def esEnA7a1 : List Entry := [⟨[q53, (.v (.float .f64 14114063095424393472))], [(.rowU [q1, q1, q50, q5, q5, q9, q9, q0, q0, q0, q1, q1, q1, q9, q5, q5, q9, q9, q0, q0, q0] 21 123)], (.tup [q23, q5]), []⟩,
  ⟨[q62, (.v (.float .f64 18318360957983683996))], [], (.tup [q52, q5]), []⟩,
  ⟨[q89, (.v (.float .f64 4645137560190844928))], [], (.tup [q52, q5]), []⟩,
  ⟨[q89, (.v (.float .f64 4645146356283867136))], [], q54, []⟩,
  ⟨[q92, (.v (.float .f64 9218868437227405312))], [], (.tup [q52, q5]), []⟩,
  ⟨[q93, (.v (.float .f64 9218868437227405312))], [], q54, []⟩]
theorem esEnA7a1_made : madeE tbu (callM tbu msEnA7 100) hp 20 esEnA7a1 = true := by kernel_rfl
theorem esEnA7a1_ok {w0 : World} (hl : laidMetH Tryz.prog Rows.axesKnownRow.laid w0) : EsOk tbu w0 hp 20 esEnA7a1 := madeE_ok (tbu_ok w0) (msEnA7_ok hl) (start_ok hl) esEnA7a1_made
/-- circa/extents.Of: 146 operations. -/
noncomputable def esEnA7a2 : List Entry := [⟨[q25], [], (.tup [q28, q5]), []⟩]
theorem esEnA7a2_made : madeE tbu (callM tbu msEnA7 100) hp 43 esEnA7a2 = true := by kernel_rfl
theorem esEnA7a2_ok {w0 : World} (hl : laidMetH Tryz.prog Rows.axesKnownRow.laid w0) : EsOk tbu w0 hp 43 esEnA7a2 := madeE_ok (tbu_ok w0) (msEnA7_ok hl) (start_ok hl) esEnA7a2_made
/-- circa/families.interval: 366 operations. -/
noncomputable def esEnA7a3 : List Entry := [⟨[q77], [], q26, [(.row [q19, q5, q19, q4] 26)]⟩,
  ⟨[q79], [], q26, [(.row [(.v (.int .i8 (-1))), q5, q19, q5] 26)]⟩]
theorem esEnA7a3_made : madeE tbu (callM tbu msEnA7 100) hp 74 esEnA7a3 = true := by kernel_rfl
theorem esEnA7a3_ok {w0 : World} (hl : laidMetH Tryz.prog Rows.axesKnownRow.laid w0) : EsOk tbu w0 hp 74 esEnA7a3 := madeE_ok (tbu_ok w0) (msEnA7_ok hl) (start_ok hl) esEnA7a3_made
/-- circa/bounds.Pair: 420 operations. -/
noncomputable def esEnA7a4 : List Entry := [⟨[q71, q76], [], q5, []⟩,
  ⟨[q61, q71], [], q5, []⟩]
theorem esEnA7a4_made : madeE tbu (callM tbu msEnA7 100) hp 100 esEnA7a4 = true := by kernel_rfl
theorem esEnA7a4_ok {w0 : World} (hl : laidMetH Tryz.prog Rows.axesKnownRow.laid w0) : EsOk tbu w0 hp 100 esEnA7a4 := madeE_ok (tbu_ok w0) (msEnA7_ok hl) (start_ok hl) esEnA7a4_made
end Ev
end Go.Proofs.YtmebmfgmopdieaaGreatDoor

/-! Calls that were reckoned, level 8 (printed by genents.py). -/
set_option linter.unusedVariables false
set_option maxRecDepth 1000000
namespace Go.Proofs.YtmebmfgmopdieaaGreatDoor
open Go.RowKit
namespace Ev
noncomputable def msEnA8 : Tr (List Entry) := (.node none (.node none (.node none (.node (some ((((esEnA0a0 ++ esEnA0a1) ++ esEnA0a2) ++ esEnA0a3))) (.node (some (esEnA7a0)) (.node none (.node none .nil (.node (some (esEnA0b4)) .nil .nil)) (.node none .nil (.node (some (esEnA1a5)) (.node (some (esEnA1a7)) .nil .nil) .nil))) (.node (some (esEnA6a3)) .nil .nil)) (.node none .nil (.node none .nil (.node none .nil (.node (some (esEnA1a6)) .nil .nil))))) (.node none (.node none (.node none .nil (.node (some ((esEnA2a0 ++ esEnA5a4))) .nil .nil)) .nil) (.node none (.node (some ((esEnA6a2 ++ esEnA7a2))) (.node none (.node (some (esEnA2a1)) .nil .nil) .nil) (.node (some ((esEnA3a3 ++ esEnA6a5))) .nil .nil)) .nil))) (.node none (.node none (.node none (.node none (.node none (.node none (.node (some (esEnA0b6)) .nil .nil) .nil) (.node (some (esEnA1a4)) .nil .nil)) .nil) .nil) (.node none (.node none (.node (some (esEnA4a3)) (.node (some (((esEnA0a4 ++ esEnA3a4) ++ esEnA6a6))) .nil .nil) .nil) .nil) (.node none (.node none (.node (some (esEnA0b0)) .nil .nil) .nil) .nil))) (.node none (.node none (.node none (.node none .nil (.node (some (esEnA2a2)) .nil .nil)) (.node none (.node (some ((esEnA1a3 ++ esEnA3a6))) .nil .nil) .nil)) (.node none .nil (.node none (.node (some (esEnA0b2)) .nil .nil) .nil))) (.node none (.node none (.node (some (esEnA3a2)) (.node (some ((esEnA3a5 ++ esEnA6a7))) .nil .nil) .nil) .nil) .nil)))) (.node none (.node none (.node none (.node (some (((esEnA4a0 ++ esEnA5a0) ++ esEnA6a0))) (.node none .nil (.node none (.node (some (esEnA0b1)) .nil .nil) .nil)) (.node (some ((esEnA5a3 ++ esEnA6a4))) .nil (.node none (.node none (.node (some (esEnA2a3)) .nil .nil) .nil) (.node (some (esEnA0b5)) .nil .nil)))) (.node none (.node none (.node none (.node (some (esEnA1a0)) .nil .nil) .nil) .nil) .nil)) (.node none (.node (some (((esEnA4a1 ++ esEnA6a1) ++ esEnA7a1))) (.node none (.node none (.node none (.node (some (esEnA0b7)) .nil .nil) .nil) .nil) (.node (some ((esEnA4a6 ++ esEnA7a4))) (.node (some (esEnA1a2)) .nil .nil) .nil)) .nil) (.node none (.node (some (((esEnA3a0 ++ esEnA4a2) ++ esEnA5a1))) (.node (some (esEnA4a5)) (.node (some (esEnA4a7)) .nil .nil) .nil) .nil) .nil))) (.node none (.node none .nil (.node none (.node none (.node (some ((esEnA4a4 ++ esEnA7a3))) (.node (some (esEnA1a1)) .nil .nil) .nil) .nil) .nil)) (.node none (.node none (.node none (.node none (.node none (.node (some (esEnA3a7)) .nil .nil) .nil) .nil) .nil) .nil) (.node none (.node (some ((esEnA3a1 ++ esEnA5a2))) .nil .nil) (.node none (.node none .nil (.node none (.node (some (esEnA0b8)) .nil .nil) .nil)) (.node none (.node (some (esEnA0b3)) .nil .nil) .nil)))))))
theorem msEnA8_ok {w0 : World} (hl : laidMetH Tryz.prog Rows.axesKnownRow.laid w0) : MsOk tbu w0 hp msEnA8 := msOk_all (Tr.allP_none (Tr.allP_none (Tr.allP_none (Tr.allP_some ((EsOk.app (EsOk.app (EsOk.app (esEnA0a0_ok hl) (esEnA0a1_ok hl)) (esEnA0a2_ok hl)) (esEnA0a3_ok hl))) (Tr.allP_some ((esEnA7a0_ok hl)) (Tr.allP_none (Tr.allP_none Tr.allP_nil (Tr.allP_some ((esEnA0b4_ok hl)) Tr.allP_nil Tr.allP_nil)) (Tr.allP_none Tr.allP_nil (Tr.allP_some ((esEnA1a5_ok hl)) (Tr.allP_some ((esEnA1a7_ok hl)) Tr.allP_nil Tr.allP_nil) Tr.allP_nil))) (Tr.allP_some ((esEnA6a3_ok hl)) Tr.allP_nil Tr.allP_nil)) (Tr.allP_none Tr.allP_nil (Tr.allP_none Tr.allP_nil (Tr.allP_none Tr.allP_nil (Tr.allP_some ((esEnA1a6_ok hl)) Tr.allP_nil Tr.allP_nil))))) (Tr.allP_none (Tr.allP_none (Tr.allP_none Tr.allP_nil (Tr.allP_some ((EsOk.app (esEnA2a0_ok hl) (esEnA5a4_ok hl))) Tr.allP_nil Tr.allP_nil)) Tr.allP_nil) (Tr.allP_none (Tr.allP_some ((EsOk.app (esEnA6a2_ok hl) (esEnA7a2_ok hl))) (Tr.allP_none (Tr.allP_some ((esEnA2a1_ok hl)) Tr.allP_nil Tr.allP_nil) Tr.allP_nil) (Tr.allP_some ((EsOk.app (esEnA3a3_ok hl) (esEnA6a5_ok hl))) Tr.allP_nil Tr.allP_nil)) Tr.allP_nil))) (Tr.allP_none (Tr.allP_none (Tr.allP_none (Tr.allP_none (Tr.allP_none (Tr.allP_none (Tr.allP_some ((esEnA0b6_ok hl)) Tr.allP_nil Tr.allP_nil) Tr.allP_nil) (Tr.allP_some ((esEnA1a4_ok hl)) Tr.allP_nil Tr.allP_nil)) Tr.allP_nil) Tr.allP_nil) (Tr.allP_none (Tr.allP_none (Tr.allP_some ((esEnA4a3_ok hl)) (Tr.allP_some ((EsOk.app (EsOk.app (esEnA0a4_ok hl) (esEnA3a4_ok hl)) (esEnA6a6_ok hl))) Tr.allP_nil Tr.allP_nil) Tr.allP_nil) Tr.allP_nil) (Tr.allP_none (Tr.allP_none (Tr.allP_some ((esEnA0b0_ok hl)) Tr.allP_nil Tr.allP_nil) Tr.allP_nil) Tr.allP_nil))) (Tr.allP_none (Tr.allP_none (Tr.allP_none (Tr.allP_none Tr.allP_nil (Tr.allP_some ((esEnA2a2_ok hl)) Tr.allP_nil Tr.allP_nil)) (Tr.allP_none (Tr.allP_some ((EsOk.app (esEnA1a3_ok hl) (esEnA3a6_ok hl))) Tr.allP_nil Tr.allP_nil) Tr.allP_nil)) (Tr.allP_none Tr.allP_nil (Tr.allP_none (Tr.allP_some ((esEnA0b2_ok hl)) Tr.allP_nil Tr.allP_nil) Tr.allP_nil))) (Tr.allP_none (Tr.allP_none (Tr.allP_some ((esEnA3a2_ok hl)) (Tr.allP_some ((EsOk.app (esEnA3a5_ok hl) (esEnA6a7_ok hl))) Tr.allP_nil Tr.allP_nil) Tr.allP_nil) Tr.allP_nil) Tr.allP_nil)))) (Tr.allP_none (Tr.allP_none (Tr.allP_none (Tr.allP_some ((EsOk.app (EsOk.app (esEnA4a0_ok hl) (esEnA5a0_ok hl)) (esEnA6a0_ok hl))) (Tr.allP_none Tr.allP_nil (Tr.allP_none (Tr.allP_some ((esEnA0b1_ok hl)) Tr.allP_nil Tr.allP_nil) Tr.allP_nil)) (Tr.allP_some ((EsOk.app (esEnA5a3_ok hl) (esEnA6a4_ok hl))) Tr.allP_nil (Tr.allP_none (Tr.allP_none (Tr.allP_some ((esEnA2a3_ok hl)) Tr.allP_nil Tr.allP_nil) Tr.allP_nil) (Tr.allP_some ((esEnA0b5_ok hl)) Tr.allP_nil Tr.allP_nil)))) (Tr.allP_none (Tr.allP_none (Tr.allP_none (Tr.allP_some ((esEnA1a0_ok hl)) Tr.allP_nil Tr.allP_nil) Tr.allP_nil) Tr.allP_nil) Tr.allP_nil)) (Tr.allP_none (Tr.allP_some ((EsOk.app (EsOk.app (esEnA4a1_ok hl) (esEnA6a1_ok hl)) (esEnA7a1_ok hl))) (Tr.allP_none (Tr.allP_none (Tr.allP_none (Tr.allP_some ((esEnA0b7_ok hl)) Tr.allP_nil Tr.allP_nil) Tr.allP_nil) Tr.allP_nil) (Tr.allP_some ((EsOk.app (esEnA4a6_ok hl) (esEnA7a4_ok hl))) (Tr.allP_some ((esEnA1a2_ok hl)) Tr.allP_nil Tr.allP_nil) Tr.allP_nil)) Tr.allP_nil) (Tr.allP_none (Tr.allP_some ((EsOk.app (EsOk.app (esEnA3a0_ok hl) (esEnA4a2_ok hl)) (esEnA5a1_ok hl))) (Tr.allP_some ((esEnA4a5_ok hl)) (Tr.allP_some ((esEnA4a7_ok hl)) Tr.allP_nil Tr.allP_nil) Tr.allP_nil) Tr.allP_nil) Tr.allP_nil))) (Tr.allP_none (Tr.allP_none Tr.allP_nil (Tr.allP_none (Tr.allP_none (Tr.allP_some ((EsOk.app (esEnA4a4_ok hl) (esEnA7a3_ok hl))) (Tr.allP_some ((esEnA1a1_ok hl)) Tr.allP_nil Tr.allP_nil) Tr.allP_nil) Tr.allP_nil) Tr.allP_nil)) (Tr.allP_none (Tr.allP_none (Tr.allP_none (Tr.allP_none (Tr.allP_none (Tr.allP_some ((esEnA3a7_ok hl)) Tr.allP_nil Tr.allP_nil) Tr.allP_nil) Tr.allP_nil) Tr.allP_nil) Tr.allP_nil) (Tr.allP_none (Tr.allP_some ((EsOk.app (esEnA3a1_ok hl) (esEnA5a2_ok hl))) Tr.allP_nil Tr.allP_nil) (Tr.allP_none (Tr.allP_none Tr.allP_nil (Tr.allP_none (Tr.allP_some ((esEnA0b8_ok hl)) Tr.allP_nil Tr.allP_nil) Tr.allP_nil)) (Tr.allP_none (Tr.allP_some ((esEnA0b3_ok hl)) Tr.allP_nil Tr.allP_nil) Tr.allP_nil)))))))
end Ev
end Go.Proofs.YtmebmfgmopdieaaGreatDoor

/-! Calls that were reckoned, level 8 (printed by genents.py). -/
set_option linter.unusedVariables false
set_option maxRecDepth 1000000
namespace Go.Proofs.YtmebmfgmopdieaaGreatDoor
open Go.RowKit
namespace Ev
/-- circa/axes.Place: 51 operations. -/
noncomputable def esEnA8a0 : List Entry := [⟨[q25], [], q29, []⟩]
theorem esEnA8a0_made : madeE tbu (callM tbu msEnA8 100) hp 15 esEnA8a0 = true := by kernel_rfl
theorem esEnA8a0_ok {w0 : World} (hl : laidMetH Tryz.prog Rows.axesKnownRow.laid w0) : EsOk tbu w0 hp 15 esEnA8a0 := madeE_ok (tbu_ok w0) (msEnA8_ok hl) (start_ok hl) esEnA8a0_made
/-- circa/parsers.Parse: 6811 operations. -/
noncomputable def esEnA8a1 : List Entry := [⟨[(.v (.string ⟨#[48, 48, 48, 48, 45, 48, 49, 45, 48, 49, 47, 48, 48, 48, 48, 45, 48, 49, 45, 48, 50]⟩))], [], (.tup [q77, q5, q5, q5]), []⟩,
  ⟨[(.v (.string ⟨#[46, 46, 47, 48, 48, 48, 48, 45, 48, 49, 45, 48, 49]⟩))], [], (.tup [q79, q4, q5, q5]), []⟩]
theorem esEnA8a1_made : madeE tbu (callM tbu msEnA8 100) hp 44 esEnA8a1 = true := by kernel_rfl
theorem esEnA8a1_ok {w0 : World} (hl : laidMetH Tryz.prog Rows.axesKnownRow.laid w0) : EsOk tbu w0 hp 44 esEnA8a1 := madeE_ok (tbu_ok w0) (msEnA8_ok hl) (start_ok hl) esEnA8a1_made
/-- circa/exprs.Check: 272 operations. -/
noncomputable def esEnA8a2 : List Entry := [⟨[q77], [], q5, []⟩,
  ⟨[q79], [], q5, []⟩]
theorem esEnA8a2_made : madeE tbu (callM tbu msEnA8 100) hp 46 esEnA8a2 = true := by kernel_rfl
theorem esEnA8a2_ok {w0 : World} (hl : laidMetH Tryz.prog Rows.axesKnownRow.laid w0) : EsOk tbu w0 hp 46 esEnA8a2 := madeE_ok (tbu_ok w0) (msEnA8_ok hl) (start_ok hl) esEnA8a2_made
end Ev
end Go.Proofs.YtmebmfgmopdieaaGreatDoor

/-! Calls that were reckoned, level 9 (printed by genents.py). -/
set_option linter.unusedVariables false
set_option maxRecDepth 1000000
namespace Go.Proofs.YtmebmfgmopdieaaGreatDoor
open Go.RowKit
namespace Ev
noncomputable def msEnA9 : Tr (List Entry) := (.node none (.node none (.node none (.node (some ((((esEnA0a0 ++ esEnA0a1) ++ esEnA0a2) ++ esEnA0a3))) (.node (some ((esEnA7a0 ++ esEnA8a0))) (.node none (.node none .nil (.node (some (esEnA0b4)) .nil .nil)) (.node none .nil (.node (some (esEnA1a5)) (.node (some (esEnA1a7)) .nil .nil) .nil))) (.node (some (esEnA6a3)) .nil .nil)) (.node none .nil (.node none .nil (.node none .nil (.node (some (esEnA1a6)) .nil .nil))))) (.node none (.node none (.node none .nil (.node (some ((esEnA2a0 ++ esEnA5a4))) .nil .nil)) .nil) (.node none (.node (some ((esEnA6a2 ++ esEnA7a2))) (.node none (.node (some (esEnA2a1)) .nil .nil) .nil) (.node (some ((esEnA3a3 ++ esEnA6a5))) .nil .nil)) .nil))) (.node none (.node none (.node none (.node none (.node none (.node none (.node (some (esEnA0b6)) .nil .nil) .nil) (.node (some (esEnA1a4)) .nil .nil)) .nil) .nil) (.node none (.node none (.node (some (esEnA4a3)) (.node (some (((esEnA0a4 ++ esEnA3a4) ++ esEnA6a6))) .nil .nil) .nil) .nil) (.node none (.node none (.node (some (esEnA0b0)) .nil .nil) .nil) .nil))) (.node none (.node none (.node none (.node none .nil (.node (some (esEnA2a2)) .nil .nil)) (.node none (.node (some ((esEnA1a3 ++ esEnA3a6))) .nil .nil) .nil)) (.node none .nil (.node none (.node (some (esEnA0b2)) .nil .nil) .nil))) (.node none (.node none (.node (some (esEnA3a2)) (.node (some ((esEnA3a5 ++ esEnA6a7))) .nil .nil) .nil) .nil) .nil)))) (.node none (.node none (.node none (.node (some (((esEnA4a0 ++ esEnA5a0) ++ esEnA6a0))) (.node none .nil (.node none (.node (some (esEnA0b1)) .nil .nil) .nil)) (.node (some ((esEnA5a3 ++ esEnA6a4))) .nil (.node none (.node none (.node (some (esEnA2a3)) .nil .nil) .nil) (.node (some (esEnA0b5)) .nil .nil)))) (.node none (.node none (.node none (.node (some (esEnA1a0)) .nil .nil) .nil) .nil) .nil)) (.node none (.node (some (((esEnA4a1 ++ esEnA6a1) ++ esEnA7a1))) (.node none (.node none (.node none (.node (some (esEnA0b7)) .nil .nil) .nil) .nil) (.node (some ((esEnA4a6 ++ esEnA7a4))) (.node (some (esEnA1a2)) .nil .nil) .nil)) .nil) (.node none (.node (some ((((esEnA3a0 ++ esEnA4a2) ++ esEnA5a1) ++ esEnA8a1))) (.node (some (esEnA4a5)) (.node (some (esEnA4a7)) .nil .nil) .nil) .nil) .nil))) (.node none (.node none .nil (.node none (.node none (.node (some ((esEnA4a4 ++ esEnA7a3))) (.node (some (esEnA1a1)) .nil .nil) .nil) .nil) .nil)) (.node none (.node none (.node none (.node none (.node none (.node (some (esEnA3a7)) .nil .nil) .nil) .nil) .nil) .nil) (.node none (.node (some (((esEnA3a1 ++ esEnA5a2) ++ esEnA8a2))) .nil .nil) (.node none (.node none .nil (.node none (.node (some (esEnA0b8)) .nil .nil) .nil)) (.node none (.node (some (esEnA0b3)) .nil .nil) .nil)))))))
theorem msEnA9_ok {w0 : World} (hl : laidMetH Tryz.prog Rows.axesKnownRow.laid w0) : MsOk tbu w0 hp msEnA9 := msOk_all (Tr.allP_none (Tr.allP_none (Tr.allP_none (Tr.allP_some ((EsOk.app (EsOk.app (EsOk.app (esEnA0a0_ok hl) (esEnA0a1_ok hl)) (esEnA0a2_ok hl)) (esEnA0a3_ok hl))) (Tr.allP_some ((EsOk.app (esEnA7a0_ok hl) (esEnA8a0_ok hl))) (Tr.allP_none (Tr.allP_none Tr.allP_nil (Tr.allP_some ((esEnA0b4_ok hl)) Tr.allP_nil Tr.allP_nil)) (Tr.allP_none Tr.allP_nil (Tr.allP_some ((esEnA1a5_ok hl)) (Tr.allP_some ((esEnA1a7_ok hl)) Tr.allP_nil Tr.allP_nil) Tr.allP_nil))) (Tr.allP_some ((esEnA6a3_ok hl)) Tr.allP_nil Tr.allP_nil)) (Tr.allP_none Tr.allP_nil (Tr.allP_none Tr.allP_nil (Tr.allP_none Tr.allP_nil (Tr.allP_some ((esEnA1a6_ok hl)) Tr.allP_nil Tr.allP_nil))))) (Tr.allP_none (Tr.allP_none (Tr.allP_none Tr.allP_nil (Tr.allP_some ((EsOk.app (esEnA2a0_ok hl) (esEnA5a4_ok hl))) Tr.allP_nil Tr.allP_nil)) Tr.allP_nil) (Tr.allP_none (Tr.allP_some ((EsOk.app (esEnA6a2_ok hl) (esEnA7a2_ok hl))) (Tr.allP_none (Tr.allP_some ((esEnA2a1_ok hl)) Tr.allP_nil Tr.allP_nil) Tr.allP_nil) (Tr.allP_some ((EsOk.app (esEnA3a3_ok hl) (esEnA6a5_ok hl))) Tr.allP_nil Tr.allP_nil)) Tr.allP_nil))) (Tr.allP_none (Tr.allP_none (Tr.allP_none (Tr.allP_none (Tr.allP_none (Tr.allP_none (Tr.allP_some ((esEnA0b6_ok hl)) Tr.allP_nil Tr.allP_nil) Tr.allP_nil) (Tr.allP_some ((esEnA1a4_ok hl)) Tr.allP_nil Tr.allP_nil)) Tr.allP_nil) Tr.allP_nil) (Tr.allP_none (Tr.allP_none (Tr.allP_some ((esEnA4a3_ok hl)) (Tr.allP_some ((EsOk.app (EsOk.app (esEnA0a4_ok hl) (esEnA3a4_ok hl)) (esEnA6a6_ok hl))) Tr.allP_nil Tr.allP_nil) Tr.allP_nil) Tr.allP_nil) (Tr.allP_none (Tr.allP_none (Tr.allP_some ((esEnA0b0_ok hl)) Tr.allP_nil Tr.allP_nil) Tr.allP_nil) Tr.allP_nil))) (Tr.allP_none (Tr.allP_none (Tr.allP_none (Tr.allP_none Tr.allP_nil (Tr.allP_some ((esEnA2a2_ok hl)) Tr.allP_nil Tr.allP_nil)) (Tr.allP_none (Tr.allP_some ((EsOk.app (esEnA1a3_ok hl) (esEnA3a6_ok hl))) Tr.allP_nil Tr.allP_nil) Tr.allP_nil)) (Tr.allP_none Tr.allP_nil (Tr.allP_none (Tr.allP_some ((esEnA0b2_ok hl)) Tr.allP_nil Tr.allP_nil) Tr.allP_nil))) (Tr.allP_none (Tr.allP_none (Tr.allP_some ((esEnA3a2_ok hl)) (Tr.allP_some ((EsOk.app (esEnA3a5_ok hl) (esEnA6a7_ok hl))) Tr.allP_nil Tr.allP_nil) Tr.allP_nil) Tr.allP_nil) Tr.allP_nil)))) (Tr.allP_none (Tr.allP_none (Tr.allP_none (Tr.allP_some ((EsOk.app (EsOk.app (esEnA4a0_ok hl) (esEnA5a0_ok hl)) (esEnA6a0_ok hl))) (Tr.allP_none Tr.allP_nil (Tr.allP_none (Tr.allP_some ((esEnA0b1_ok hl)) Tr.allP_nil Tr.allP_nil) Tr.allP_nil)) (Tr.allP_some ((EsOk.app (esEnA5a3_ok hl) (esEnA6a4_ok hl))) Tr.allP_nil (Tr.allP_none (Tr.allP_none (Tr.allP_some ((esEnA2a3_ok hl)) Tr.allP_nil Tr.allP_nil) Tr.allP_nil) (Tr.allP_some ((esEnA0b5_ok hl)) Tr.allP_nil Tr.allP_nil)))) (Tr.allP_none (Tr.allP_none (Tr.allP_none (Tr.allP_some ((esEnA1a0_ok hl)) Tr.allP_nil Tr.allP_nil) Tr.allP_nil) Tr.allP_nil) Tr.allP_nil)) (Tr.allP_none (Tr.allP_some ((EsOk.app (EsOk.app (esEnA4a1_ok hl) (esEnA6a1_ok hl)) (esEnA7a1_ok hl))) (Tr.allP_none (Tr.allP_none (Tr.allP_none (Tr.allP_some ((esEnA0b7_ok hl)) Tr.allP_nil Tr.allP_nil) Tr.allP_nil) Tr.allP_nil) (Tr.allP_some ((EsOk.app (esEnA4a6_ok hl) (esEnA7a4_ok hl))) (Tr.allP_some ((esEnA1a2_ok hl)) Tr.allP_nil Tr.allP_nil) Tr.allP_nil)) Tr.allP_nil) (Tr.allP_none (Tr.allP_some ((EsOk.app (EsOk.app (EsOk.app (esEnA3a0_ok hl) (esEnA4a2_ok hl)) (esEnA5a1_ok hl)) (esEnA8a1_ok hl))) (Tr.allP_some ((esEnA4a5_ok hl)) (Tr.allP_some ((esEnA4a7_ok hl)) Tr.allP_nil Tr.allP_nil) Tr.allP_nil) Tr.allP_nil) Tr.allP_nil))) (Tr.allP_none (Tr.allP_none Tr.allP_nil (Tr.allP_none (Tr.allP_none (Tr.allP_some ((EsOk.app (esEnA4a4_ok hl) (esEnA7a3_ok hl))) (Tr.allP_some ((esEnA1a1_ok hl)) Tr.allP_nil Tr.allP_nil) Tr.allP_nil) Tr.allP_nil) Tr.allP_nil)) (Tr.allP_none (Tr.allP_none (Tr.allP_none (Tr.allP_none (Tr.allP_none (Tr.allP_some ((esEnA3a7_ok hl)) Tr.allP_nil Tr.allP_nil) Tr.allP_nil) Tr.allP_nil) Tr.allP_nil) Tr.allP_nil) (Tr.allP_none (Tr.allP_some ((EsOk.app (EsOk.app (esEnA3a1_ok hl) (esEnA5a2_ok hl)) (esEnA8a2_ok hl))) Tr.allP_nil Tr.allP_nil) (Tr.allP_none (Tr.allP_none Tr.allP_nil (Tr.allP_none (Tr.allP_some ((esEnA0b8_ok hl)) Tr.allP_nil Tr.allP_nil) Tr.allP_nil)) (Tr.allP_none (Tr.allP_some ((esEnA0b3_ok hl)) Tr.allP_nil Tr.allP_nil) Tr.allP_nil)))))))
end Ev
end Go.Proofs.YtmebmfgmopdieaaGreatDoor

/-! Calls that were reckoned, level 9 (printed by genents.py). -/
set_option linter.unusedVariables false
set_option maxRecDepth 1000000
namespace Go.Proofs.YtmebmfgmopdieaaGreatDoor
open Go.RowKit
namespace Ev
/-- circa/circalaw36.read: 92 operations. -/
noncomputable def esEnA9a0 : List Entry := [⟨[(.v (.string ⟨#[48, 48, 48, 48, 45, 48, 49, 45, 48, 49, 47, 48, 48, 48, 48, 45, 48, 49, 45, 48, 50]⟩))], [], q77, []⟩,
  ⟨[(.v (.string ⟨#[46, 46, 47, 48, 48, 48, 48, 45, 48, 49, 45, 48, 49]⟩))], [], q79, []⟩]
theorem esEnA9a0_made : madeE tbu (callM tbu msEnA9 100) hp 16 esEnA9a0 = true := by kernel_rfl
theorem esEnA9a0_ok {w0 : World} (hl : laidMetH Tryz.prog Rows.axesKnownRow.laid w0) : EsOk tbu w0 hp 16 esEnA9a0 := madeE_ok (tbu_ok w0) (msEnA9_ok hl) (start_ok hl) esEnA9a0_made
/-- circa/families.Of: 102 operations. -/
noncomputable def esEnA9a1 : List Entry := [⟨[q77], [], q27, [(.row [q14, (.sl 16 0 1 1), q1, q1, q9, q5, q5, q9, q9, q0, q0, q0, q0, q19, q5, q19, q5] 95), (.row [q19, q5, q19, q4] 26)]⟩,
  ⟨[q79], [], q27, [(.row [q14, (.sl 16 0 1 1), q1, q1, q9, q5, q5, q9, q9, q0, q0, q0, q0, q19, q5, q19, q5] 95), (.row [(.v (.int .i8 (-1))), q5, q19, q5] 26)]⟩]
theorem esEnA9a1_made : madeE tbu (callM tbu msEnA9 100) hp 48 esEnA9a1 = true := by kernel_rfl
theorem esEnA9a1_ok {w0 : World} (hl : laidMetH Tryz.prog Rows.axesKnownRow.laid w0) : EsOk tbu w0 hp 48 esEnA9a1 := madeE_ok (tbu_ok w0) (msEnA9_ok hl) (start_ok hl) esEnA9a1_made
end Ev
end Go.Proofs.YtmebmfgmopdieaaGreatDoor

/-! Calls that were reckoned, level 10 (printed by genents.py). -/
set_option linter.unusedVariables false
set_option maxRecDepth 1000000
namespace Go.Proofs.YtmebmfgmopdieaaGreatDoor
open Go.RowKit
namespace Ev
noncomputable def msEnA10 : Tr (List Entry) := (.node none (.node none (.node none (.node (some ((((esEnA0a0 ++ esEnA0a1) ++ esEnA0a2) ++ esEnA0a3))) (.node (some ((esEnA7a0 ++ esEnA8a0))) (.node none (.node none .nil (.node (some (esEnA0b4)) .nil .nil)) (.node none .nil (.node (some (esEnA1a5)) (.node (some (esEnA1a7)) .nil .nil) .nil))) (.node (some (esEnA6a3)) .nil .nil)) (.node none .nil (.node none .nil (.node none .nil (.node (some (esEnA1a6)) .nil .nil))))) (.node none (.node none (.node none .nil (.node (some ((esEnA2a0 ++ esEnA5a4))) .nil .nil)) .nil) (.node none (.node (some ((esEnA6a2 ++ esEnA7a2))) (.node none (.node (some (esEnA2a1)) .nil .nil) .nil) (.node (some ((esEnA3a3 ++ esEnA6a5))) .nil .nil)) .nil))) (.node none (.node none (.node none (.node none (.node none (.node none (.node (some (esEnA0b6)) .nil .nil) .nil) (.node (some (esEnA1a4)) .nil .nil)) .nil) .nil) (.node none (.node none (.node (some (esEnA4a3)) (.node (some (((esEnA0a4 ++ esEnA3a4) ++ esEnA6a6))) .nil .nil) .nil) .nil) (.node none (.node none (.node (some (esEnA0b0)) .nil .nil) .nil) .nil))) (.node none (.node none (.node none (.node none .nil (.node (some (esEnA2a2)) .nil .nil)) (.node none (.node (some ((esEnA1a3 ++ esEnA3a6))) .nil .nil) .nil)) (.node none .nil (.node none (.node (some (esEnA0b2)) .nil .nil) .nil))) (.node none (.node none (.node (some (esEnA3a2)) (.node (some ((esEnA3a5 ++ esEnA6a7))) .nil .nil) .nil) .nil) .nil)))) (.node none (.node none (.node none (.node (some ((((esEnA4a0 ++ esEnA5a0) ++ esEnA6a0) ++ esEnA9a0))) (.node none .nil (.node none (.node (some (esEnA0b1)) .nil .nil) .nil)) (.node (some (((esEnA5a3 ++ esEnA6a4) ++ esEnA9a1))) .nil (.node none (.node none (.node (some (esEnA2a3)) .nil .nil) .nil) (.node (some (esEnA0b5)) .nil .nil)))) (.node none (.node none (.node none (.node (some (esEnA1a0)) .nil .nil) .nil) .nil) .nil)) (.node none (.node (some (((esEnA4a1 ++ esEnA6a1) ++ esEnA7a1))) (.node none (.node none (.node none (.node (some (esEnA0b7)) .nil .nil) .nil) .nil) (.node (some ((esEnA4a6 ++ esEnA7a4))) (.node (some (esEnA1a2)) .nil .nil) .nil)) .nil) (.node none (.node (some ((((esEnA3a0 ++ esEnA4a2) ++ esEnA5a1) ++ esEnA8a1))) (.node (some (esEnA4a5)) (.node (some (esEnA4a7)) .nil .nil) .nil) .nil) .nil))) (.node none (.node none .nil (.node none (.node none (.node (some ((esEnA4a4 ++ esEnA7a3))) (.node (some (esEnA1a1)) .nil .nil) .nil) .nil) .nil)) (.node none (.node none (.node none (.node none (.node none (.node (some (esEnA3a7)) .nil .nil) .nil) .nil) .nil) .nil) (.node none (.node (some (((esEnA3a1 ++ esEnA5a2) ++ esEnA8a2))) .nil .nil) (.node none (.node none .nil (.node none (.node (some (esEnA0b8)) .nil .nil) .nil)) (.node none (.node (some (esEnA0b3)) .nil .nil) .nil)))))))
theorem msEnA10_ok {w0 : World} (hl : laidMetH Tryz.prog Rows.axesKnownRow.laid w0) : MsOk tbu w0 hp msEnA10 := msOk_all (Tr.allP_none (Tr.allP_none (Tr.allP_none (Tr.allP_some ((EsOk.app (EsOk.app (EsOk.app (esEnA0a0_ok hl) (esEnA0a1_ok hl)) (esEnA0a2_ok hl)) (esEnA0a3_ok hl))) (Tr.allP_some ((EsOk.app (esEnA7a0_ok hl) (esEnA8a0_ok hl))) (Tr.allP_none (Tr.allP_none Tr.allP_nil (Tr.allP_some ((esEnA0b4_ok hl)) Tr.allP_nil Tr.allP_nil)) (Tr.allP_none Tr.allP_nil (Tr.allP_some ((esEnA1a5_ok hl)) (Tr.allP_some ((esEnA1a7_ok hl)) Tr.allP_nil Tr.allP_nil) Tr.allP_nil))) (Tr.allP_some ((esEnA6a3_ok hl)) Tr.allP_nil Tr.allP_nil)) (Tr.allP_none Tr.allP_nil (Tr.allP_none Tr.allP_nil (Tr.allP_none Tr.allP_nil (Tr.allP_some ((esEnA1a6_ok hl)) Tr.allP_nil Tr.allP_nil))))) (Tr.allP_none (Tr.allP_none (Tr.allP_none Tr.allP_nil (Tr.allP_some ((EsOk.app (esEnA2a0_ok hl) (esEnA5a4_ok hl))) Tr.allP_nil Tr.allP_nil)) Tr.allP_nil) (Tr.allP_none (Tr.allP_some ((EsOk.app (esEnA6a2_ok hl) (esEnA7a2_ok hl))) (Tr.allP_none (Tr.allP_some ((esEnA2a1_ok hl)) Tr.allP_nil Tr.allP_nil) Tr.allP_nil) (Tr.allP_some ((EsOk.app (esEnA3a3_ok hl) (esEnA6a5_ok hl))) Tr.allP_nil Tr.allP_nil)) Tr.allP_nil))) (Tr.allP_none (Tr.allP_none (Tr.allP_none (Tr.allP_none (Tr.allP_none (Tr.allP_none (Tr.allP_some ((esEnA0b6_ok hl)) Tr.allP_nil Tr.allP_nil) Tr.allP_nil) (Tr.allP_some ((esEnA1a4_ok hl)) Tr.allP_nil Tr.allP_nil)) Tr.allP_nil) Tr.allP_nil) (Tr.allP_none (Tr.allP_none (Tr.allP_some ((esEnA4a3_ok hl)) (Tr.allP_some ((EsOk.app (EsOk.app (esEnA0a4_ok hl) (esEnA3a4_ok hl)) (esEnA6a6_ok hl))) Tr.allP_nil Tr.allP_nil) Tr.allP_nil) Tr.allP_nil) (Tr.allP_none (Tr.allP_none (Tr.allP_some ((esEnA0b0_ok hl)) Tr.allP_nil Tr.allP_nil) Tr.allP_nil) Tr.allP_nil))) (Tr.allP_none (Tr.allP_none (Tr.allP_none (Tr.allP_none Tr.allP_nil (Tr.allP_some ((esEnA2a2_ok hl)) Tr.allP_nil Tr.allP_nil)) (Tr.allP_none (Tr.allP_some ((EsOk.app (esEnA1a3_ok hl) (esEnA3a6_ok hl))) Tr.allP_nil Tr.allP_nil) Tr.allP_nil)) (Tr.allP_none Tr.allP_nil (Tr.allP_none (Tr.allP_some ((esEnA0b2_ok hl)) Tr.allP_nil Tr.allP_nil) Tr.allP_nil))) (Tr.allP_none (Tr.allP_none (Tr.allP_some ((esEnA3a2_ok hl)) (Tr.allP_some ((EsOk.app (esEnA3a5_ok hl) (esEnA6a7_ok hl))) Tr.allP_nil Tr.allP_nil) Tr.allP_nil) Tr.allP_nil) Tr.allP_nil)))) (Tr.allP_none (Tr.allP_none (Tr.allP_none (Tr.allP_some ((EsOk.app (EsOk.app (EsOk.app (esEnA4a0_ok hl) (esEnA5a0_ok hl)) (esEnA6a0_ok hl)) (esEnA9a0_ok hl))) (Tr.allP_none Tr.allP_nil (Tr.allP_none (Tr.allP_some ((esEnA0b1_ok hl)) Tr.allP_nil Tr.allP_nil) Tr.allP_nil)) (Tr.allP_some ((EsOk.app (EsOk.app (esEnA5a3_ok hl) (esEnA6a4_ok hl)) (esEnA9a1_ok hl))) Tr.allP_nil (Tr.allP_none (Tr.allP_none (Tr.allP_some ((esEnA2a3_ok hl)) Tr.allP_nil Tr.allP_nil) Tr.allP_nil) (Tr.allP_some ((esEnA0b5_ok hl)) Tr.allP_nil Tr.allP_nil)))) (Tr.allP_none (Tr.allP_none (Tr.allP_none (Tr.allP_some ((esEnA1a0_ok hl)) Tr.allP_nil Tr.allP_nil) Tr.allP_nil) Tr.allP_nil) Tr.allP_nil)) (Tr.allP_none (Tr.allP_some ((EsOk.app (EsOk.app (esEnA4a1_ok hl) (esEnA6a1_ok hl)) (esEnA7a1_ok hl))) (Tr.allP_none (Tr.allP_none (Tr.allP_none (Tr.allP_some ((esEnA0b7_ok hl)) Tr.allP_nil Tr.allP_nil) Tr.allP_nil) Tr.allP_nil) (Tr.allP_some ((EsOk.app (esEnA4a6_ok hl) (esEnA7a4_ok hl))) (Tr.allP_some ((esEnA1a2_ok hl)) Tr.allP_nil Tr.allP_nil) Tr.allP_nil)) Tr.allP_nil) (Tr.allP_none (Tr.allP_some ((EsOk.app (EsOk.app (EsOk.app (esEnA3a0_ok hl) (esEnA4a2_ok hl)) (esEnA5a1_ok hl)) (esEnA8a1_ok hl))) (Tr.allP_some ((esEnA4a5_ok hl)) (Tr.allP_some ((esEnA4a7_ok hl)) Tr.allP_nil Tr.allP_nil) Tr.allP_nil) Tr.allP_nil) Tr.allP_nil))) (Tr.allP_none (Tr.allP_none Tr.allP_nil (Tr.allP_none (Tr.allP_none (Tr.allP_some ((EsOk.app (esEnA4a4_ok hl) (esEnA7a3_ok hl))) (Tr.allP_some ((esEnA1a1_ok hl)) Tr.allP_nil Tr.allP_nil) Tr.allP_nil) Tr.allP_nil) Tr.allP_nil)) (Tr.allP_none (Tr.allP_none (Tr.allP_none (Tr.allP_none (Tr.allP_none (Tr.allP_some ((esEnA3a7_ok hl)) Tr.allP_nil Tr.allP_nil) Tr.allP_nil) Tr.allP_nil) Tr.allP_nil) Tr.allP_nil) (Tr.allP_none (Tr.allP_some ((EsOk.app (EsOk.app (esEnA3a1_ok hl) (esEnA5a2_ok hl)) (esEnA8a2_ok hl))) Tr.allP_nil Tr.allP_nil) (Tr.allP_none (Tr.allP_none Tr.allP_nil (Tr.allP_none (Tr.allP_some ((esEnA0b8_ok hl)) Tr.allP_nil Tr.allP_nil) Tr.allP_nil)) (Tr.allP_none (Tr.allP_some ((esEnA0b3_ok hl)) Tr.allP_nil Tr.allP_nil) Tr.allP_nil)))))))
end Ev
end Go.Proofs.YtmebmfgmopdieaaGreatDoor

/-! Calls that were reckoned, level 10 (printed by genents.py). -/
set_option linter.unusedVariables false
set_option maxRecDepth 1000000
namespace Go.Proofs.YtmebmfgmopdieaaGreatDoor
open Go.RowKit
namespace Ev
/-- circa/extents.Of: 292 operations. -/
noncomputable def esEnA10a0 : List Entry := [⟨[q77], [], (.tup [(.agg [q19, q5, q19, q4]), q5]), []⟩,
  ⟨[q79], [], (.tup [(.agg [(.v (.int .i8 (-1))), q5, q19, q5]), q5]), []⟩]
theorem esEnA10a0_made : madeE tbu (callM tbu msEnA10 100) hp 43 esEnA10a0 = true := by kernel_rfl
theorem esEnA10a0_ok {w0 : World} (hl : laidMetH Tryz.prog Rows.axesKnownRow.laid w0) : EsOk tbu w0 hp 43 esEnA10a0 := madeE_ok (tbu_ok w0) (msEnA10_ok hl) (start_ok hl) esEnA10a0_made
end Ev
end Go.Proofs.YtmebmfgmopdieaaGreatDoor

/-! Calls that were reckoned, level 11 (printed by genents.py). -/
set_option linter.unusedVariables false
set_option maxRecDepth 1000000
namespace Go.Proofs.YtmebmfgmopdieaaGreatDoor
open Go.RowKit
namespace Ev
noncomputable def msEnA11 : Tr (List Entry) := (.node none (.node none (.node none (.node (some ((((esEnA0a0 ++ esEnA0a1) ++ esEnA0a2) ++ esEnA0a3))) (.node (some ((esEnA7a0 ++ esEnA8a0))) (.node none (.node none .nil (.node (some (esEnA0b4)) .nil .nil)) (.node none .nil (.node (some (esEnA1a5)) (.node (some (esEnA1a7)) .nil .nil) .nil))) (.node (some (esEnA6a3)) .nil .nil)) (.node none .nil (.node none .nil (.node none .nil (.node (some (esEnA1a6)) .nil .nil))))) (.node none (.node none (.node none .nil (.node (some ((esEnA2a0 ++ esEnA5a4))) .nil .nil)) .nil) (.node none (.node (some (((esEnA6a2 ++ esEnA7a2) ++ esEnA10a0))) (.node none (.node (some (esEnA2a1)) .nil .nil) .nil) (.node (some ((esEnA3a3 ++ esEnA6a5))) .nil .nil)) .nil))) (.node none (.node none (.node none (.node none (.node none (.node none (.node (some (esEnA0b6)) .nil .nil) .nil) (.node (some (esEnA1a4)) .nil .nil)) .nil) .nil) (.node none (.node none (.node (some (esEnA4a3)) (.node (some (((esEnA0a4 ++ esEnA3a4) ++ esEnA6a6))) .nil .nil) .nil) .nil) (.node none (.node none (.node (some (esEnA0b0)) .nil .nil) .nil) .nil))) (.node none (.node none (.node none (.node none .nil (.node (some (esEnA2a2)) .nil .nil)) (.node none (.node (some ((esEnA1a3 ++ esEnA3a6))) .nil .nil) .nil)) (.node none .nil (.node none (.node (some (esEnA0b2)) .nil .nil) .nil))) (.node none (.node none (.node (some (esEnA3a2)) (.node (some ((esEnA3a5 ++ esEnA6a7))) .nil .nil) .nil) .nil) .nil)))) (.node none (.node none (.node none (.node (some ((((esEnA4a0 ++ esEnA5a0) ++ esEnA6a0) ++ esEnA9a0))) (.node none .nil (.node none (.node (some (esEnA0b1)) .nil .nil) .nil)) (.node (some (((esEnA5a3 ++ esEnA6a4) ++ esEnA9a1))) .nil (.node none (.node none (.node (some (esEnA2a3)) .nil .nil) .nil) (.node (some (esEnA0b5)) .nil .nil)))) (.node none (.node none (.node none (.node (some (esEnA1a0)) .nil .nil) .nil) .nil) .nil)) (.node none (.node (some (((esEnA4a1 ++ esEnA6a1) ++ esEnA7a1))) (.node none (.node none (.node none (.node (some (esEnA0b7)) .nil .nil) .nil) .nil) (.node (some ((esEnA4a6 ++ esEnA7a4))) (.node (some (esEnA1a2)) .nil .nil) .nil)) .nil) (.node none (.node (some ((((esEnA3a0 ++ esEnA4a2) ++ esEnA5a1) ++ esEnA8a1))) (.node (some (esEnA4a5)) (.node (some (esEnA4a7)) .nil .nil) .nil) .nil) .nil))) (.node none (.node none .nil (.node none (.node none (.node (some ((esEnA4a4 ++ esEnA7a3))) (.node (some (esEnA1a1)) .nil .nil) .nil) .nil) .nil)) (.node none (.node none (.node none (.node none (.node none (.node (some (esEnA3a7)) .nil .nil) .nil) .nil) .nil) .nil) (.node none (.node (some (((esEnA3a1 ++ esEnA5a2) ++ esEnA8a2))) .nil .nil) (.node none (.node none .nil (.node none (.node (some (esEnA0b8)) .nil .nil) .nil)) (.node none (.node (some (esEnA0b3)) .nil .nil) .nil)))))))
theorem msEnA11_ok {w0 : World} (hl : laidMetH Tryz.prog Rows.axesKnownRow.laid w0) : MsOk tbu w0 hp msEnA11 := msOk_all (Tr.allP_none (Tr.allP_none (Tr.allP_none (Tr.allP_some ((EsOk.app (EsOk.app (EsOk.app (esEnA0a0_ok hl) (esEnA0a1_ok hl)) (esEnA0a2_ok hl)) (esEnA0a3_ok hl))) (Tr.allP_some ((EsOk.app (esEnA7a0_ok hl) (esEnA8a0_ok hl))) (Tr.allP_none (Tr.allP_none Tr.allP_nil (Tr.allP_some ((esEnA0b4_ok hl)) Tr.allP_nil Tr.allP_nil)) (Tr.allP_none Tr.allP_nil (Tr.allP_some ((esEnA1a5_ok hl)) (Tr.allP_some ((esEnA1a7_ok hl)) Tr.allP_nil Tr.allP_nil) Tr.allP_nil))) (Tr.allP_some ((esEnA6a3_ok hl)) Tr.allP_nil Tr.allP_nil)) (Tr.allP_none Tr.allP_nil (Tr.allP_none Tr.allP_nil (Tr.allP_none Tr.allP_nil (Tr.allP_some ((esEnA1a6_ok hl)) Tr.allP_nil Tr.allP_nil))))) (Tr.allP_none (Tr.allP_none (Tr.allP_none Tr.allP_nil (Tr.allP_some ((EsOk.app (esEnA2a0_ok hl) (esEnA5a4_ok hl))) Tr.allP_nil Tr.allP_nil)) Tr.allP_nil) (Tr.allP_none (Tr.allP_some ((EsOk.app (EsOk.app (esEnA6a2_ok hl) (esEnA7a2_ok hl)) (esEnA10a0_ok hl))) (Tr.allP_none (Tr.allP_some ((esEnA2a1_ok hl)) Tr.allP_nil Tr.allP_nil) Tr.allP_nil) (Tr.allP_some ((EsOk.app (esEnA3a3_ok hl) (esEnA6a5_ok hl))) Tr.allP_nil Tr.allP_nil)) Tr.allP_nil))) (Tr.allP_none (Tr.allP_none (Tr.allP_none (Tr.allP_none (Tr.allP_none (Tr.allP_none (Tr.allP_some ((esEnA0b6_ok hl)) Tr.allP_nil Tr.allP_nil) Tr.allP_nil) (Tr.allP_some ((esEnA1a4_ok hl)) Tr.allP_nil Tr.allP_nil)) Tr.allP_nil) Tr.allP_nil) (Tr.allP_none (Tr.allP_none (Tr.allP_some ((esEnA4a3_ok hl)) (Tr.allP_some ((EsOk.app (EsOk.app (esEnA0a4_ok hl) (esEnA3a4_ok hl)) (esEnA6a6_ok hl))) Tr.allP_nil Tr.allP_nil) Tr.allP_nil) Tr.allP_nil) (Tr.allP_none (Tr.allP_none (Tr.allP_some ((esEnA0b0_ok hl)) Tr.allP_nil Tr.allP_nil) Tr.allP_nil) Tr.allP_nil))) (Tr.allP_none (Tr.allP_none (Tr.allP_none (Tr.allP_none Tr.allP_nil (Tr.allP_some ((esEnA2a2_ok hl)) Tr.allP_nil Tr.allP_nil)) (Tr.allP_none (Tr.allP_some ((EsOk.app (esEnA1a3_ok hl) (esEnA3a6_ok hl))) Tr.allP_nil Tr.allP_nil) Tr.allP_nil)) (Tr.allP_none Tr.allP_nil (Tr.allP_none (Tr.allP_some ((esEnA0b2_ok hl)) Tr.allP_nil Tr.allP_nil) Tr.allP_nil))) (Tr.allP_none (Tr.allP_none (Tr.allP_some ((esEnA3a2_ok hl)) (Tr.allP_some ((EsOk.app (esEnA3a5_ok hl) (esEnA6a7_ok hl))) Tr.allP_nil Tr.allP_nil) Tr.allP_nil) Tr.allP_nil) Tr.allP_nil)))) (Tr.allP_none (Tr.allP_none (Tr.allP_none (Tr.allP_some ((EsOk.app (EsOk.app (EsOk.app (esEnA4a0_ok hl) (esEnA5a0_ok hl)) (esEnA6a0_ok hl)) (esEnA9a0_ok hl))) (Tr.allP_none Tr.allP_nil (Tr.allP_none (Tr.allP_some ((esEnA0b1_ok hl)) Tr.allP_nil Tr.allP_nil) Tr.allP_nil)) (Tr.allP_some ((EsOk.app (EsOk.app (esEnA5a3_ok hl) (esEnA6a4_ok hl)) (esEnA9a1_ok hl))) Tr.allP_nil (Tr.allP_none (Tr.allP_none (Tr.allP_some ((esEnA2a3_ok hl)) Tr.allP_nil Tr.allP_nil) Tr.allP_nil) (Tr.allP_some ((esEnA0b5_ok hl)) Tr.allP_nil Tr.allP_nil)))) (Tr.allP_none (Tr.allP_none (Tr.allP_none (Tr.allP_some ((esEnA1a0_ok hl)) Tr.allP_nil Tr.allP_nil) Tr.allP_nil) Tr.allP_nil) Tr.allP_nil)) (Tr.allP_none (Tr.allP_some ((EsOk.app (EsOk.app (esEnA4a1_ok hl) (esEnA6a1_ok hl)) (esEnA7a1_ok hl))) (Tr.allP_none (Tr.allP_none (Tr.allP_none (Tr.allP_some ((esEnA0b7_ok hl)) Tr.allP_nil Tr.allP_nil) Tr.allP_nil) Tr.allP_nil) (Tr.allP_some ((EsOk.app (esEnA4a6_ok hl) (esEnA7a4_ok hl))) (Tr.allP_some ((esEnA1a2_ok hl)) Tr.allP_nil Tr.allP_nil) Tr.allP_nil)) Tr.allP_nil) (Tr.allP_none (Tr.allP_some ((EsOk.app (EsOk.app (EsOk.app (esEnA3a0_ok hl) (esEnA4a2_ok hl)) (esEnA5a1_ok hl)) (esEnA8a1_ok hl))) (Tr.allP_some ((esEnA4a5_ok hl)) (Tr.allP_some ((esEnA4a7_ok hl)) Tr.allP_nil Tr.allP_nil) Tr.allP_nil) Tr.allP_nil) Tr.allP_nil))) (Tr.allP_none (Tr.allP_none Tr.allP_nil (Tr.allP_none (Tr.allP_none (Tr.allP_some ((EsOk.app (esEnA4a4_ok hl) (esEnA7a3_ok hl))) (Tr.allP_some ((esEnA1a1_ok hl)) Tr.allP_nil Tr.allP_nil) Tr.allP_nil) Tr.allP_nil) Tr.allP_nil)) (Tr.allP_none (Tr.allP_none (Tr.allP_none (Tr.allP_none (Tr.allP_none (Tr.allP_some ((esEnA3a7_ok hl)) Tr.allP_nil Tr.allP_nil) Tr.allP_nil) Tr.allP_nil) Tr.allP_nil) Tr.allP_nil) (Tr.allP_none (Tr.allP_some ((EsOk.app (EsOk.app (esEnA3a1_ok hl) (esEnA5a2_ok hl)) (esEnA8a2_ok hl))) Tr.allP_nil Tr.allP_nil) (Tr.allP_none (Tr.allP_none Tr.allP_nil (Tr.allP_none (Tr.allP_some ((esEnA0b8_ok hl)) Tr.allP_nil Tr.allP_nil) Tr.allP_nil)) (Tr.allP_none (Tr.allP_some ((esEnA0b3_ok hl)) Tr.allP_nil Tr.allP_nil) Tr.allP_nil)))))))
end Ev
end Go.Proofs.YtmebmfgmopdieaaGreatDoor

/-! Calls that were reckoned, level 11 (printed by genents.py). -/
set_option linter.unusedVariables false
set_option maxRecDepth 1000000
namespace Go.Proofs.YtmebmfgmopdieaaGreatDoor
open Go.RowKit
namespace Ev
/-- circa/axes.Place: 102 operations. -/
noncomputable def esEnA11a0 : List Entry := [⟨[q77], [], q78, []⟩,
  ⟨[q79], [], q80, []⟩]
theorem esEnA11a0_made : madeE tbu (callM tbu msEnA11 100) hp 15 esEnA11a0 = true := by kernel_rfl
theorem esEnA11a0_ok {w0 : World} (hl : laidMetH Tryz.prog Rows.axesKnownRow.laid w0) : EsOk tbu w0 hp 15 esEnA11a0 := madeE_ok (tbu_ok w0) (msEnA11_ok hl) (start_ok hl) esEnA11a0_made
end Ev
end Go.Proofs.YtmebmfgmopdieaaGreatDoor

/-! Calls that were reckoned, level 12 (printed by genents.py). -/
set_option linter.unusedVariables false
set_option maxRecDepth 1000000
namespace Go.Proofs.YtmebmfgmopdieaaGreatDoor
open Go.RowKit
namespace Ev
noncomputable def msEnA12 : Tr (List Entry) := (.node none (.node none (.node none (.node (some ((((esEnA0a0 ++ esEnA0a1) ++ esEnA0a2) ++ esEnA0a3))) (.node (some (((esEnA7a0 ++ esEnA8a0) ++ esEnA11a0))) (.node none (.node none .nil (.node (some (esEnA0b4)) .nil .nil)) (.node none .nil (.node (some (esEnA1a5)) (.node (some (esEnA1a7)) .nil .nil) .nil))) (.node (some (esEnA6a3)) .nil .nil)) (.node none .nil (.node none .nil (.node none .nil (.node (some (esEnA1a6)) .nil .nil))))) (.node none (.node none (.node none .nil (.node (some ((esEnA2a0 ++ esEnA5a4))) .nil .nil)) .nil) (.node none (.node (some (((esEnA6a2 ++ esEnA7a2) ++ esEnA10a0))) (.node none (.node (some (esEnA2a1)) .nil .nil) .nil) (.node (some ((esEnA3a3 ++ esEnA6a5))) .nil .nil)) .nil))) (.node none (.node none (.node none (.node none (.node none (.node none (.node (some (esEnA0b6)) .nil .nil) .nil) (.node (some (esEnA1a4)) .nil .nil)) .nil) .nil) (.node none (.node none (.node (some (esEnA4a3)) (.node (some (((esEnA0a4 ++ esEnA3a4) ++ esEnA6a6))) .nil .nil) .nil) .nil) (.node none (.node none (.node (some (esEnA0b0)) .nil .nil) .nil) .nil))) (.node none (.node none (.node none (.node none .nil (.node (some (esEnA2a2)) .nil .nil)) (.node none (.node (some ((esEnA1a3 ++ esEnA3a6))) .nil .nil) .nil)) (.node none .nil (.node none (.node (some (esEnA0b2)) .nil .nil) .nil))) (.node none (.node none (.node (some (esEnA3a2)) (.node (some ((esEnA3a5 ++ esEnA6a7))) .nil .nil) .nil) .nil) .nil)))) (.node none (.node none (.node none (.node (some ((((esEnA4a0 ++ esEnA5a0) ++ esEnA6a0) ++ esEnA9a0))) (.node none .nil (.node none (.node (some (esEnA0b1)) .nil .nil) .nil)) (.node (some (((esEnA5a3 ++ esEnA6a4) ++ esEnA9a1))) .nil (.node none (.node none (.node (some (esEnA2a3)) .nil .nil) .nil) (.node (some (esEnA0b5)) .nil .nil)))) (.node none (.node none (.node none (.node (some (esEnA1a0)) .nil .nil) .nil) .nil) .nil)) (.node none (.node (some (((esEnA4a1 ++ esEnA6a1) ++ esEnA7a1))) (.node none (.node none (.node none (.node (some (esEnA0b7)) .nil .nil) .nil) .nil) (.node (some ((esEnA4a6 ++ esEnA7a4))) (.node (some (esEnA1a2)) .nil .nil) .nil)) .nil) (.node none (.node (some ((((esEnA3a0 ++ esEnA4a2) ++ esEnA5a1) ++ esEnA8a1))) (.node (some (esEnA4a5)) (.node (some (esEnA4a7)) .nil .nil) .nil) .nil) .nil))) (.node none (.node none .nil (.node none (.node none (.node (some ((esEnA4a4 ++ esEnA7a3))) (.node (some (esEnA1a1)) .nil .nil) .nil) .nil) .nil)) (.node none (.node none (.node none (.node none (.node none (.node (some (esEnA3a7)) .nil .nil) .nil) .nil) .nil) .nil) (.node none (.node (some (((esEnA3a1 ++ esEnA5a2) ++ esEnA8a2))) .nil .nil) (.node none (.node none .nil (.node none (.node (some (esEnA0b8)) .nil .nil) .nil)) (.node none (.node (some (esEnA0b3)) .nil .nil) .nil)))))))
theorem msEnA12_ok {w0 : World} (hl : laidMetH Tryz.prog Rows.axesKnownRow.laid w0) : MsOk tbu w0 hp msEnA12 := msOk_all (Tr.allP_none (Tr.allP_none (Tr.allP_none (Tr.allP_some ((EsOk.app (EsOk.app (EsOk.app (esEnA0a0_ok hl) (esEnA0a1_ok hl)) (esEnA0a2_ok hl)) (esEnA0a3_ok hl))) (Tr.allP_some ((EsOk.app (EsOk.app (esEnA7a0_ok hl) (esEnA8a0_ok hl)) (esEnA11a0_ok hl))) (Tr.allP_none (Tr.allP_none Tr.allP_nil (Tr.allP_some ((esEnA0b4_ok hl)) Tr.allP_nil Tr.allP_nil)) (Tr.allP_none Tr.allP_nil (Tr.allP_some ((esEnA1a5_ok hl)) (Tr.allP_some ((esEnA1a7_ok hl)) Tr.allP_nil Tr.allP_nil) Tr.allP_nil))) (Tr.allP_some ((esEnA6a3_ok hl)) Tr.allP_nil Tr.allP_nil)) (Tr.allP_none Tr.allP_nil (Tr.allP_none Tr.allP_nil (Tr.allP_none Tr.allP_nil (Tr.allP_some ((esEnA1a6_ok hl)) Tr.allP_nil Tr.allP_nil))))) (Tr.allP_none (Tr.allP_none (Tr.allP_none Tr.allP_nil (Tr.allP_some ((EsOk.app (esEnA2a0_ok hl) (esEnA5a4_ok hl))) Tr.allP_nil Tr.allP_nil)) Tr.allP_nil) (Tr.allP_none (Tr.allP_some ((EsOk.app (EsOk.app (esEnA6a2_ok hl) (esEnA7a2_ok hl)) (esEnA10a0_ok hl))) (Tr.allP_none (Tr.allP_some ((esEnA2a1_ok hl)) Tr.allP_nil Tr.allP_nil) Tr.allP_nil) (Tr.allP_some ((EsOk.app (esEnA3a3_ok hl) (esEnA6a5_ok hl))) Tr.allP_nil Tr.allP_nil)) Tr.allP_nil))) (Tr.allP_none (Tr.allP_none (Tr.allP_none (Tr.allP_none (Tr.allP_none (Tr.allP_none (Tr.allP_some ((esEnA0b6_ok hl)) Tr.allP_nil Tr.allP_nil) Tr.allP_nil) (Tr.allP_some ((esEnA1a4_ok hl)) Tr.allP_nil Tr.allP_nil)) Tr.allP_nil) Tr.allP_nil) (Tr.allP_none (Tr.allP_none (Tr.allP_some ((esEnA4a3_ok hl)) (Tr.allP_some ((EsOk.app (EsOk.app (esEnA0a4_ok hl) (esEnA3a4_ok hl)) (esEnA6a6_ok hl))) Tr.allP_nil Tr.allP_nil) Tr.allP_nil) Tr.allP_nil) (Tr.allP_none (Tr.allP_none (Tr.allP_some ((esEnA0b0_ok hl)) Tr.allP_nil Tr.allP_nil) Tr.allP_nil) Tr.allP_nil))) (Tr.allP_none (Tr.allP_none (Tr.allP_none (Tr.allP_none Tr.allP_nil (Tr.allP_some ((esEnA2a2_ok hl)) Tr.allP_nil Tr.allP_nil)) (Tr.allP_none (Tr.allP_some ((EsOk.app (esEnA1a3_ok hl) (esEnA3a6_ok hl))) Tr.allP_nil Tr.allP_nil) Tr.allP_nil)) (Tr.allP_none Tr.allP_nil (Tr.allP_none (Tr.allP_some ((esEnA0b2_ok hl)) Tr.allP_nil Tr.allP_nil) Tr.allP_nil))) (Tr.allP_none (Tr.allP_none (Tr.allP_some ((esEnA3a2_ok hl)) (Tr.allP_some ((EsOk.app (esEnA3a5_ok hl) (esEnA6a7_ok hl))) Tr.allP_nil Tr.allP_nil) Tr.allP_nil) Tr.allP_nil) Tr.allP_nil)))) (Tr.allP_none (Tr.allP_none (Tr.allP_none (Tr.allP_some ((EsOk.app (EsOk.app (EsOk.app (esEnA4a0_ok hl) (esEnA5a0_ok hl)) (esEnA6a0_ok hl)) (esEnA9a0_ok hl))) (Tr.allP_none Tr.allP_nil (Tr.allP_none (Tr.allP_some ((esEnA0b1_ok hl)) Tr.allP_nil Tr.allP_nil) Tr.allP_nil)) (Tr.allP_some ((EsOk.app (EsOk.app (esEnA5a3_ok hl) (esEnA6a4_ok hl)) (esEnA9a1_ok hl))) Tr.allP_nil (Tr.allP_none (Tr.allP_none (Tr.allP_some ((esEnA2a3_ok hl)) Tr.allP_nil Tr.allP_nil) Tr.allP_nil) (Tr.allP_some ((esEnA0b5_ok hl)) Tr.allP_nil Tr.allP_nil)))) (Tr.allP_none (Tr.allP_none (Tr.allP_none (Tr.allP_some ((esEnA1a0_ok hl)) Tr.allP_nil Tr.allP_nil) Tr.allP_nil) Tr.allP_nil) Tr.allP_nil)) (Tr.allP_none (Tr.allP_some ((EsOk.app (EsOk.app (esEnA4a1_ok hl) (esEnA6a1_ok hl)) (esEnA7a1_ok hl))) (Tr.allP_none (Tr.allP_none (Tr.allP_none (Tr.allP_some ((esEnA0b7_ok hl)) Tr.allP_nil Tr.allP_nil) Tr.allP_nil) Tr.allP_nil) (Tr.allP_some ((EsOk.app (esEnA4a6_ok hl) (esEnA7a4_ok hl))) (Tr.allP_some ((esEnA1a2_ok hl)) Tr.allP_nil Tr.allP_nil) Tr.allP_nil)) Tr.allP_nil) (Tr.allP_none (Tr.allP_some ((EsOk.app (EsOk.app (EsOk.app (esEnA3a0_ok hl) (esEnA4a2_ok hl)) (esEnA5a1_ok hl)) (esEnA8a1_ok hl))) (Tr.allP_some ((esEnA4a5_ok hl)) (Tr.allP_some ((esEnA4a7_ok hl)) Tr.allP_nil Tr.allP_nil) Tr.allP_nil) Tr.allP_nil) Tr.allP_nil))) (Tr.allP_none (Tr.allP_none Tr.allP_nil (Tr.allP_none (Tr.allP_none (Tr.allP_some ((EsOk.app (esEnA4a4_ok hl) (esEnA7a3_ok hl))) (Tr.allP_some ((esEnA1a1_ok hl)) Tr.allP_nil Tr.allP_nil) Tr.allP_nil) Tr.allP_nil) Tr.allP_nil)) (Tr.allP_none (Tr.allP_none (Tr.allP_none (Tr.allP_none (Tr.allP_none (Tr.allP_some ((esEnA3a7_ok hl)) Tr.allP_nil Tr.allP_nil) Tr.allP_nil) Tr.allP_nil) Tr.allP_nil) Tr.allP_nil) (Tr.allP_none (Tr.allP_some ((EsOk.app (EsOk.app (esEnA3a1_ok hl) (esEnA5a2_ok hl)) (esEnA8a2_ok hl))) Tr.allP_nil Tr.allP_nil) (Tr.allP_none (Tr.allP_none Tr.allP_nil (Tr.allP_none (Tr.allP_some ((esEnA0b8_ok hl)) Tr.allP_nil Tr.allP_nil) Tr.allP_nil)) (Tr.allP_none (Tr.allP_some ((esEnA0b3_ok hl)) Tr.allP_nil Tr.allP_nil) Tr.allP_nil)))))))
end Ev
end Go.Proofs.YtmebmfgmopdieaaGreatDoor

/-! Calls that were reckoned, level 12 (printed by genents.py). -/
set_option linter.unusedVariables false
set_option maxRecDepth 1000000
namespace Go.Proofs.YtmebmfgmopdieaaGreatDoor
open Go.RowKit
namespace Ev
/-- circa/circalaw36.lives: 892 operations. -/
noncomputable def esEnA12a0 : List Entry := [⟨[], [], q6, []⟩]
theorem esEnA12a0_made : madeE tbu (callM tbu msEnA12 100) hp 9 esEnA12a0 = true := by kernel_rfl
theorem esEnA12a0_ok {w0 : World} (hl : laidMetH Tryz.prog Rows.axesKnownRow.laid w0) : EsOk tbu w0 hp 9 esEnA12a0 := madeE_ok (tbu_ok w0) (msEnA12_ok hl) (start_ok hl) esEnA12a0_made
end Ev
end Go.Proofs.YtmebmfgmopdieaaGreatDoor

/-! Calls that were reckoned, level 13 (printed by genents.py). -/
set_option linter.unusedVariables false
set_option maxRecDepth 1000000
namespace Go.Proofs.YtmebmfgmopdieaaGreatDoor
open Go.RowKit
namespace Ev
noncomputable def msEnA13 : Tr (List Entry) := (.node none (.node none (.node none (.node (some ((((esEnA0a0 ++ esEnA0a1) ++ esEnA0a2) ++ esEnA0a3))) (.node (some (((esEnA7a0 ++ esEnA8a0) ++ esEnA11a0))) (.node none (.node none .nil (.node (some (esEnA0b4)) .nil .nil)) (.node none .nil (.node (some (esEnA1a5)) (.node (some (esEnA1a7)) .nil .nil) .nil))) (.node (some (esEnA6a3)) .nil .nil)) (.node none .nil (.node none .nil (.node none .nil (.node (some (esEnA1a6)) .nil .nil))))) (.node none (.node none (.node none .nil (.node (some ((esEnA2a0 ++ esEnA5a4))) .nil .nil)) .nil) (.node none (.node (some (((esEnA6a2 ++ esEnA7a2) ++ esEnA10a0))) (.node none (.node (some (esEnA2a1)) .nil .nil) .nil) (.node (some ((esEnA3a3 ++ esEnA6a5))) .nil .nil)) .nil))) (.node none (.node (some (esEnA12a0)) (.node none (.node none (.node none (.node none (.node (some (esEnA0b6)) .nil .nil) .nil) (.node (some (esEnA1a4)) .nil .nil)) .nil) .nil) (.node none (.node none (.node (some (esEnA4a3)) (.node (some (((esEnA0a4 ++ esEnA3a4) ++ esEnA6a6))) .nil .nil) .nil) .nil) (.node none (.node none (.node (some (esEnA0b0)) .nil .nil) .nil) .nil))) (.node none (.node none (.node none (.node none .nil (.node (some (esEnA2a2)) .nil .nil)) (.node none (.node (some ((esEnA1a3 ++ esEnA3a6))) .nil .nil) .nil)) (.node none .nil (.node none (.node (some (esEnA0b2)) .nil .nil) .nil))) (.node none (.node none (.node (some (esEnA3a2)) (.node (some ((esEnA3a5 ++ esEnA6a7))) .nil .nil) .nil) .nil) .nil)))) (.node none (.node none (.node none (.node (some ((((esEnA4a0 ++ esEnA5a0) ++ esEnA6a0) ++ esEnA9a0))) (.node none .nil (.node none (.node (some (esEnA0b1)) .nil .nil) .nil)) (.node (some (((esEnA5a3 ++ esEnA6a4) ++ esEnA9a1))) .nil (.node none (.node none (.node (some (esEnA2a3)) .nil .nil) .nil) (.node (some (esEnA0b5)) .nil .nil)))) (.node none (.node none (.node none (.node (some (esEnA1a0)) .nil .nil) .nil) .nil) .nil)) (.node none (.node (some (((esEnA4a1 ++ esEnA6a1) ++ esEnA7a1))) (.node none (.node none (.node none (.node (some (esEnA0b7)) .nil .nil) .nil) .nil) (.node (some ((esEnA4a6 ++ esEnA7a4))) (.node (some (esEnA1a2)) .nil .nil) .nil)) .nil) (.node none (.node (some ((((esEnA3a0 ++ esEnA4a2) ++ esEnA5a1) ++ esEnA8a1))) (.node (some (esEnA4a5)) (.node (some (esEnA4a7)) .nil .nil) .nil) .nil) .nil))) (.node none (.node none .nil (.node none (.node none (.node (some ((esEnA4a4 ++ esEnA7a3))) (.node (some (esEnA1a1)) .nil .nil) .nil) .nil) .nil)) (.node none (.node none (.node none (.node none (.node none (.node (some (esEnA3a7)) .nil .nil) .nil) .nil) .nil) .nil) (.node none (.node (some (((esEnA3a1 ++ esEnA5a2) ++ esEnA8a2))) .nil .nil) (.node none (.node none .nil (.node none (.node (some (esEnA0b8)) .nil .nil) .nil)) (.node none (.node (some (esEnA0b3)) .nil .nil) .nil)))))))
theorem msEnA13_ok {w0 : World} (hl : laidMetH Tryz.prog Rows.axesKnownRow.laid w0) : MsOk tbu w0 hp msEnA13 := msOk_all (Tr.allP_none (Tr.allP_none (Tr.allP_none (Tr.allP_some ((EsOk.app (EsOk.app (EsOk.app (esEnA0a0_ok hl) (esEnA0a1_ok hl)) (esEnA0a2_ok hl)) (esEnA0a3_ok hl))) (Tr.allP_some ((EsOk.app (EsOk.app (esEnA7a0_ok hl) (esEnA8a0_ok hl)) (esEnA11a0_ok hl))) (Tr.allP_none (Tr.allP_none Tr.allP_nil (Tr.allP_some ((esEnA0b4_ok hl)) Tr.allP_nil Tr.allP_nil)) (Tr.allP_none Tr.allP_nil (Tr.allP_some ((esEnA1a5_ok hl)) (Tr.allP_some ((esEnA1a7_ok hl)) Tr.allP_nil Tr.allP_nil) Tr.allP_nil))) (Tr.allP_some ((esEnA6a3_ok hl)) Tr.allP_nil Tr.allP_nil)) (Tr.allP_none Tr.allP_nil (Tr.allP_none Tr.allP_nil (Tr.allP_none Tr.allP_nil (Tr.allP_some ((esEnA1a6_ok hl)) Tr.allP_nil Tr.allP_nil))))) (Tr.allP_none (Tr.allP_none (Tr.allP_none Tr.allP_nil (Tr.allP_some ((EsOk.app (esEnA2a0_ok hl) (esEnA5a4_ok hl))) Tr.allP_nil Tr.allP_nil)) Tr.allP_nil) (Tr.allP_none (Tr.allP_some ((EsOk.app (EsOk.app (esEnA6a2_ok hl) (esEnA7a2_ok hl)) (esEnA10a0_ok hl))) (Tr.allP_none (Tr.allP_some ((esEnA2a1_ok hl)) Tr.allP_nil Tr.allP_nil) Tr.allP_nil) (Tr.allP_some ((EsOk.app (esEnA3a3_ok hl) (esEnA6a5_ok hl))) Tr.allP_nil Tr.allP_nil)) Tr.allP_nil))) (Tr.allP_none (Tr.allP_some ((esEnA12a0_ok hl)) (Tr.allP_none (Tr.allP_none (Tr.allP_none (Tr.allP_none (Tr.allP_some ((esEnA0b6_ok hl)) Tr.allP_nil Tr.allP_nil) Tr.allP_nil) (Tr.allP_some ((esEnA1a4_ok hl)) Tr.allP_nil Tr.allP_nil)) Tr.allP_nil) Tr.allP_nil) (Tr.allP_none (Tr.allP_none (Tr.allP_some ((esEnA4a3_ok hl)) (Tr.allP_some ((EsOk.app (EsOk.app (esEnA0a4_ok hl) (esEnA3a4_ok hl)) (esEnA6a6_ok hl))) Tr.allP_nil Tr.allP_nil) Tr.allP_nil) Tr.allP_nil) (Tr.allP_none (Tr.allP_none (Tr.allP_some ((esEnA0b0_ok hl)) Tr.allP_nil Tr.allP_nil) Tr.allP_nil) Tr.allP_nil))) (Tr.allP_none (Tr.allP_none (Tr.allP_none (Tr.allP_none Tr.allP_nil (Tr.allP_some ((esEnA2a2_ok hl)) Tr.allP_nil Tr.allP_nil)) (Tr.allP_none (Tr.allP_some ((EsOk.app (esEnA1a3_ok hl) (esEnA3a6_ok hl))) Tr.allP_nil Tr.allP_nil) Tr.allP_nil)) (Tr.allP_none Tr.allP_nil (Tr.allP_none (Tr.allP_some ((esEnA0b2_ok hl)) Tr.allP_nil Tr.allP_nil) Tr.allP_nil))) (Tr.allP_none (Tr.allP_none (Tr.allP_some ((esEnA3a2_ok hl)) (Tr.allP_some ((EsOk.app (esEnA3a5_ok hl) (esEnA6a7_ok hl))) Tr.allP_nil Tr.allP_nil) Tr.allP_nil) Tr.allP_nil) Tr.allP_nil)))) (Tr.allP_none (Tr.allP_none (Tr.allP_none (Tr.allP_some ((EsOk.app (EsOk.app (EsOk.app (esEnA4a0_ok hl) (esEnA5a0_ok hl)) (esEnA6a0_ok hl)) (esEnA9a0_ok hl))) (Tr.allP_none Tr.allP_nil (Tr.allP_none (Tr.allP_some ((esEnA0b1_ok hl)) Tr.allP_nil Tr.allP_nil) Tr.allP_nil)) (Tr.allP_some ((EsOk.app (EsOk.app (esEnA5a3_ok hl) (esEnA6a4_ok hl)) (esEnA9a1_ok hl))) Tr.allP_nil (Tr.allP_none (Tr.allP_none (Tr.allP_some ((esEnA2a3_ok hl)) Tr.allP_nil Tr.allP_nil) Tr.allP_nil) (Tr.allP_some ((esEnA0b5_ok hl)) Tr.allP_nil Tr.allP_nil)))) (Tr.allP_none (Tr.allP_none (Tr.allP_none (Tr.allP_some ((esEnA1a0_ok hl)) Tr.allP_nil Tr.allP_nil) Tr.allP_nil) Tr.allP_nil) Tr.allP_nil)) (Tr.allP_none (Tr.allP_some ((EsOk.app (EsOk.app (esEnA4a1_ok hl) (esEnA6a1_ok hl)) (esEnA7a1_ok hl))) (Tr.allP_none (Tr.allP_none (Tr.allP_none (Tr.allP_some ((esEnA0b7_ok hl)) Tr.allP_nil Tr.allP_nil) Tr.allP_nil) Tr.allP_nil) (Tr.allP_some ((EsOk.app (esEnA4a6_ok hl) (esEnA7a4_ok hl))) (Tr.allP_some ((esEnA1a2_ok hl)) Tr.allP_nil Tr.allP_nil) Tr.allP_nil)) Tr.allP_nil) (Tr.allP_none (Tr.allP_some ((EsOk.app (EsOk.app (EsOk.app (esEnA3a0_ok hl) (esEnA4a2_ok hl)) (esEnA5a1_ok hl)) (esEnA8a1_ok hl))) (Tr.allP_some ((esEnA4a5_ok hl)) (Tr.allP_some ((esEnA4a7_ok hl)) Tr.allP_nil Tr.allP_nil) Tr.allP_nil) Tr.allP_nil) Tr.allP_nil))) (Tr.allP_none (Tr.allP_none Tr.allP_nil (Tr.allP_none (Tr.allP_none (Tr.allP_some ((EsOk.app (esEnA4a4_ok hl) (esEnA7a3_ok hl))) (Tr.allP_some ((esEnA1a1_ok hl)) Tr.allP_nil Tr.allP_nil) Tr.allP_nil) Tr.allP_nil) Tr.allP_nil)) (Tr.allP_none (Tr.allP_none (Tr.allP_none (Tr.allP_none (Tr.allP_none (Tr.allP_some ((esEnA3a7_ok hl)) Tr.allP_nil Tr.allP_nil) Tr.allP_nil) Tr.allP_nil) Tr.allP_nil) Tr.allP_nil) (Tr.allP_none (Tr.allP_some ((EsOk.app (EsOk.app (esEnA3a1_ok hl) (esEnA5a2_ok hl)) (esEnA8a2_ok hl))) Tr.allP_nil Tr.allP_nil) (Tr.allP_none (Tr.allP_none Tr.allP_nil (Tr.allP_none (Tr.allP_some ((esEnA0b8_ok hl)) Tr.allP_nil Tr.allP_nil) Tr.allP_nil)) (Tr.allP_none (Tr.allP_some ((esEnA0b3_ok hl)) Tr.allP_nil Tr.allP_nil) Tr.allP_nil)))))))
end Ev
end Go.Proofs.YtmebmfgmopdieaaGreatDoor

