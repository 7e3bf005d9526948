/- Calls that were reckoned, level 1 (printed by genents.py). -/
import Derived.Test.YtebgcnnhokclaaaGreatDoorKEnQ0a
import Derived.Test.YtebgcnnhokclaaaGreatDoorKEnQ0b
/-! Calls that were reckoned, level 1 (printed by genents.py). -/
set_option linter.unusedVariables false
set_option maxRecDepth 1000000
namespace Go.Proofs.YtebgcnnhokclaaaGreatDoor
open Go.RowKit
namespace Ev
noncomputable def msEnQ1 : Tr (List Entry) := (.node none (.node none (.node none .nil (.node none .nil (.node none .nil (.node none .nil (.node (some (esEnQ0a3)) .nil .nil))))) (.node none (.node none .nil (.node none (.node none (.node none .nil (.node (some (esEnQ0a6)) .nil .nil)) .nil) .nil)) .nil)) (.node none (.node none (.node (some (esEnQ0a0)) .nil (.node none .nil (.node none (.node none (.node none (.node (some (esEnQ0b1)) .nil .nil) .nil) .nil) (.node (some (esEnQ0a1)) .nil .nil)))) .nil) (.node none (.node none (.node none .nil (.node none .nil (.node none (.node (some (esEnQ0a5)) .nil .nil) .nil))) (.node none .nil (.node none (.node none .nil (.node (some (((esEnQ0a7 ++ esEnQ0a8) ++ esEnQ0b0))) .nil .nil)) (.node (some (esEnQ0a2)) .nil .nil)))) (.node none .nil (.node none .nil (.node none .nil (.node (some (esEnQ0a4)) .nil .nil)))))))
theorem msEnQ1_ok {w0 : World} (hl : laidMet Tryz.prog Rows.qualitiesKnownRow.laid w0) : MsOk tbu w0 hp msEnQ1 := msOk_all (Tr.allP_none (Tr.allP_none (Tr.allP_none Tr.allP_nil (Tr.allP_none Tr.allP_nil (Tr.allP_none Tr.allP_nil (Tr.allP_none Tr.allP_nil (Tr.allP_some ((esEnQ0a3_ok hl)) Tr.allP_nil Tr.allP_nil))))) (Tr.allP_none (Tr.allP_none Tr.allP_nil (Tr.allP_none (Tr.allP_none (Tr.allP_none Tr.allP_nil (Tr.allP_some ((esEnQ0a6_ok hl)) Tr.allP_nil Tr.allP_nil)) Tr.allP_nil) Tr.allP_nil)) Tr.allP_nil)) (Tr.allP_none (Tr.allP_none (Tr.allP_some ((esEnQ0a0_ok hl)) Tr.allP_nil (Tr.allP_none Tr.allP_nil (Tr.allP_none (Tr.allP_none (Tr.allP_none (Tr.allP_some ((esEnQ0b1_ok hl)) Tr.allP_nil Tr.allP_nil) Tr.allP_nil) Tr.allP_nil) (Tr.allP_some ((esEnQ0a1_ok hl)) Tr.allP_nil Tr.allP_nil)))) Tr.allP_nil) (Tr.allP_none (Tr.allP_none (Tr.allP_none Tr.allP_nil (Tr.allP_none Tr.allP_nil (Tr.allP_none (Tr.allP_some ((esEnQ0a5_ok hl)) Tr.allP_nil Tr.allP_nil) Tr.allP_nil))) (Tr.allP_none Tr.allP_nil (Tr.allP_none (Tr.allP_none Tr.allP_nil (Tr.allP_some ((EsOk.app (EsOk.app (esEnQ0a7_ok hl) (esEnQ0a8_ok hl)) (esEnQ0b0_ok hl))) Tr.allP_nil Tr.allP_nil)) (Tr.allP_some ((esEnQ0a2_ok hl)) Tr.allP_nil Tr.allP_nil)))) (Tr.allP_none Tr.allP_nil (Tr.allP_none Tr.allP_nil (Tr.allP_none Tr.allP_nil (Tr.allP_some ((esEnQ0a4_ok hl)) Tr.allP_nil Tr.allP_nil)))))))
end Ev
end Go.Proofs.YtebgcnnhokclaaaGreatDoor

