/- Values that stand in several entries (printed by genents.py). -/
import Derived.Test.YtmebmfgmopdieaaGreatDoorMF
import Derived.Test.YtmebmfgmopdieaaGreatDoorMR
/-! Values that stand in several entries (printed by genents.py). -/
set_option linter.unusedVariables false
namespace Go.Proofs.YtmebmfgmopdieaaGreatDoor
open Go.RowKit
namespace Ev
noncomputable def q0 : AV := .v (.int .u8 (0))
noncomputable def q1 : AV := .v (.bool false)
noncomputable def q2 : AV := .tup [q0, q1]
noncomputable def q3 : AV := .agg [q0, q0, q0]
noncomputable def q4 : AV := .v (.int .i64 (1))
noncomputable def q5 : AV := .v (.int .i64 (0))
noncomputable def q6 : AV := .v (.bool true)
noncomputable def q7 : AV := .v (.string ⟨#[49]⟩)
noncomputable def q8 : AV := .v (.int .i64 (16))
noncomputable def q9 : AV := .v (.string ⟨#[]⟩)
noncomputable def q10 : AV := .agg [q6, q6, q7, q8, q5, q9, q9, q0, q0, q0]
noncomputable def q11 : AV := .tup [q5, q1]
noncomputable def q12 : AV := .v (.func (.func 256) #[] #[])
noncomputable def q13 : AV := .v (.int .i64 (2))
noncomputable def q14 : AV := .v (.int .u8 (1))
noncomputable def q15 : AV := .agg [q14, q6, q6, q7, q8, q5, q9, q9, q0, q0, q0]
noncomputable def q16 : AV := .agg [q1, q6, q7, q8, q5, q9, q9, q0, q0, q0]
noncomputable def q17 : AV := .agg [q14, q1, q6, q7, q8, q5, q9, q9, q0, q0, q0]
noncomputable def q18 : AV := .v (.int .i64 (-10000000000000000))
noncomputable def q19 : AV := .v (.int .i8 (0))
noncomputable def q20 : AV := .tup [(.agg [q19, (.v (.int .i64 (-3652425000000000000))), q19, (.v (.int .i64 (-3652424999999999635)))]), q5]
noncomputable def q21 : AV := .v (.int .i64 (10000000000000000))
noncomputable def q22 : AV := .tup [(.agg [q19, (.v (.int .i64 (3652425000000000000))), q19, (.v (.int .i64 (3652425000000000365)))]), q5]
noncomputable def q23 : AV := .v (.int .u8 (2))
noncomputable def q24 : AV := .v (.slice none 0 0)
noncomputable def q25 : AV := .agg [q23, q1, q1, q9, q5, q5, q9, q9, q0, q0, q0, q14, q6, q6, q7, q8, q5, q9, q9, q0, q0, q0, q14, q1, q6, q7, q8, q5, q9, q9, q0, q0, q0, q24, q1, q1]
noncomputable def q26 : AV := .agg [q14, (.sl 15 0 1 1), q1, q1, q9, q5, q5, q9, q9, q0, q0, q0, q0, q19, q5, q19, q5]
noncomputable def q27 : AV := .tup [(.sl 15 0 1 1), q5]
noncomputable def q28 : AV := .agg [q19, (.v (.int .i64 (-3652425000000000000))), q19, (.v (.int .i64 (3652425000000000365)))]
noncomputable def q29 : AV := .tup [(.agg [(.v (.float .f64 14107904075875147976)), (.v (.float .f64 4884532039020372169)), q1]), q5]
noncomputable def q30 : AV := .v (.int .i64 (-9223372036854775808))
noncomputable def q31 : AV := .v (.float .f64 4850376798678024193)
noncomputable def q32 : AV := .tup [(.agg [(.v (.float .f64 4845873199050653697)), q31, q1]), q5]
noncomputable def q33 : AV := .v (.float .f64 4850376798678024194)
noncomputable def q34 : AV := .tup [(.agg [(.v (.float .f64 4845873199050653699)), q33, q1]), q5]
noncomputable def q35 : AV := .v (.float .f64 4850376798678024195)
noncomputable def q36 : AV := .tup [(.agg [(.v (.float .f64 4845873199050653701)), q35, q1]), q5]
noncomputable def q37 : AV := .v (.float .f64 4850376798678024196)
noncomputable def q38 : AV := .tup [(.agg [(.v (.float .f64 4845873199050653703)), q37, q1]), q5]
noncomputable def q39 : AV := .v (.float .f64 4850376798678024197)
noncomputable def q40 : AV := .tup [(.agg [(.v (.float .f64 4845873199050653705)), q39, q1]), q5]
noncomputable def q41 : AV := .v (.float .f64 4850376798678024198)
noncomputable def q42 : AV := .tup [(.agg [(.v (.float .f64 4845873199050653707)), q41, q1]), q5]
noncomputable def q43 : AV := .v (.float .f64 4850376798678024199)
noncomputable def q44 : AV := .tup [(.agg [(.v (.float .f64 4845873199050653709)), q43, q1]), q5]
noncomputable def q45 : AV := .v (.float .f64 4850376798678024200)
noncomputable def q46 : AV := .tup [(.agg [(.v (.float .f64 4845873199050653711)), q45, q1]), q5]
noncomputable def q47 : AV := .v (.float .f64 4850376798678024201)
noncomputable def q48 : AV := .tup [(.agg [(.v (.float .f64 4845873199050653713)), q47, q1]), q5]
noncomputable def q49 : AV := .tup [(.agg [(.v (.float .f64 4845873199050653715)), (.v (.float .f64 4850376798678024202)), q1]), q5]
noncomputable def q50 : AV := .v (.string ⟨#[50, 48, 48, 52]⟩)
noncomputable def q51 : AV := .agg [q1, q1, q50, q5, q5, q9, q9, q0, q0, q0]
noncomputable def q52 : AV := .v (.int .u8 (3))
noncomputable def q53 : AV := .agg [q52, q1, q1, q9, q5, q5, q9, q9, q0, q0, q0, q0, q1, q1, q9, q5, q5, q9, q9, q0, q0, q0, q0, q1, q1, q9, q5, q5, q9, q9, q0, q0, q0, (.sl 15 0 1 1), q6, q1]
noncomputable def q54 : AV := .tup [q14, q5]
noncomputable def q55 : AV := .v (.int .i64 (732311))
noncomputable def q56 : AV := .tup [(.agg [q19, (.v (.int .i64 (731946))), q19, q55]), q5]
noncomputable def q57 : AV := .v (.int .i64 (13))
noncomputable def q58 : AV := .v (.int .i64 (7))
noncomputable def q59 : AV := .v (.int .i64 (4))
noncomputable def q60 : AV := .agg [q14, q1, q1, q50, q5, q5, q9, q9, q0, q0, q0]
noncomputable def q61 : AV := .agg [q23, q1, q1, q9, q5, q5, q9, q9, q0, q0, q0]
noncomputable def q62 : AV := .agg [q23, q1, q1, q9, q5, q5, q9, q9, q0, q0, q0, q23, q1, q1, q9, q5, q5, q9, q9, q0, q0, q0, q14, q1, q1, q50, q5, q5, q9, q9, q0, q0, q0, q24, q1, q1]
noncomputable def q63 : AV := .v (.int .i64 (3))
noncomputable def q64 : AV := .v (.string ⟨#[48, 48, 48, 48]⟩)
noncomputable def q65 : AV := .v (.string ⟨#[48, 49]⟩)
noncomputable def q66 : AV := .agg [q1, q1, q64, q5, q5, q65, q65, q0, q0, q0]
noncomputable def q67 : AV := .v (.int .i64 (31))
noncomputable def q68 : AV := .agg [q1, q1, q64, q5, q5, q65, q65, q0, q0, q0, (.slU 15 0 1 0), (.slU 16 0 1 0)]
noncomputable def q69 : AV := .v (.string ⟨#[48, 48, 48, 48, 45, 48, 49, 45, 48, 49]⟩)
noncomputable def q70 : AV := .v (.string ⟨#[100, 100, 100, 100, 45, 100, 100, 45, 100, 100]⟩)
noncomputable def q71 : AV := .agg [q14, q1, q1, q64, q5, q5, q65, q65, q0, q0, q0]
noncomputable def q72 : AV := .v (.string ⟨#[48, 50]⟩)
noncomputable def q73 : AV := .agg [q1, q1, q64, q5, q5, q65, q72, q0, q0, q0]
noncomputable def q74 : AV := .agg [q1, q1, q64, q5, q5, q65, q72, q0, q0, q0, (.slU 15 0 1 0), (.slU 16 0 1 0)]
noncomputable def q75 : AV := .v (.string ⟨#[48, 48, 48, 48, 45, 48, 49, 45, 48, 50]⟩)
noncomputable def q76 : AV := .agg [q14, q1, q1, q64, q5, q5, q65, q72, q0, q0, q0]
noncomputable def q77 : AV := .agg [q23, q1, q1, q9, q5, q5, q9, q9, q0, q0, q0, q14, q1, q1, q64, q5, q5, q65, q65, q0, q0, q0, q14, q1, q1, q64, q5, q5, q65, q72, q0, q0, q0, q24, q1, q1]
noncomputable def q78 : AV := .tup [(.agg [(.v (.float .f64 0)), (.v (.float .f64 4607182418800017408)), q6]), q5]
noncomputable def q79 : AV := .agg [q23, q1, q1, q9, q5, q5, q9, q9, q0, q0, q0, q23, q1, q1, q9, q5, q5, q9, q9, q0, q0, q0, q14, q1, q1, q64, q5, q5, q65, q65, q0, q0, q0, q24, q1, q1]
noncomputable def q80 : AV := .tup [(.agg [(.v (.float .f64 18442240474082181120)), (.v (.float .f64 0)), q6]), q5]
noncomputable def q81 : AV := .v (.string ⟨#[57, 57, 57, 57, 57, 57, 57, 57, 57, 57, 57, 57, 57, 57, 57, 57]⟩)
noncomputable def q82 : AV := .agg [q1, q6, q81, q5, q5, q9, q9, q0, q0, q0]
noncomputable def q83 : AV := .v (.string ⟨#[89, 57, 57, 57, 57, 57, 57, 57, 57, 57, 57, 57, 57, 57, 57, 57, 57]⟩)
noncomputable def q84 : AV := .agg [q14, q1, q6, q81, q5, q5, q9, q9, q0, q0, q0, q0, q1, q1, q9, q5, q5, q9, q9, q0, q0, q0, q0, q1, q1, q9, q5, q5, q9, q9, q0, q0, q0, q24, q1, q1]
noncomputable def q85 : AV := .v (.int .i64 (9999999999999999))
noncomputable def q86 : AV := .agg [q19, (.v (.int .i64 (3652424999999999635))), q19, (.v (.int .i64 (3652424999999999999)))]
noncomputable def q87 : AV := .tup [(.agg [(.v (.float .f64 4884532039020372167)), (.v (.float .f64 4884532039020372168)), q1]), q5]
noncomputable def q88 : AV := .agg [q1, q1, q64, q5, q5, q9, q9, q0, q0, q0]
noncomputable def q89 : AV := .agg [q14, q1, q1, q64, q5, q5, q9, q9, q0, q0, q0, q0, q1, q1, q9, q5, q5, q9, q9, q0, q0, q0, q0, q1, q1, q9, q5, q5, q9, q9, q0, q0, q0, q24, q1, q1]
noncomputable def q90 : AV := .tup [(.agg [q19, q5, q19, (.v (.int .i64 (365)))]), q5]
noncomputable def q91 : AV := .agg [q14, q1, q1, q64, q5, q5, q9, q9, q0, q0, q0]
noncomputable def q92 : AV := .agg [q23, q1, q1, q9, q5, q5, q9, q9, q0, q0, q0, q14, q1, q1, q64, q5, q5, q9, q9, q0, q0, q0, q23, q1, q1, q9, q5, q5, q9, q9, q0, q0, q0, q24, q1, q1]
noncomputable def q93 : AV := .agg [q23, q1, q1, q9, q5, q5, q9, q9, q0, q0, q0, q14, q1, q1, q64, q5, q5, q9, q9, q0, q0, q0, q52, q1, q1, q9, q5, q5, q9, q9, q0, q0, q0, q24, q1, q1]
noncomputable def q94 : AV := .agg [q52, q1, q1, q9, q5, q5, q9, q9, q0, q0, q0]
end Ev
end Go.Proofs.YtmebmfgmopdieaaGreatDoor

