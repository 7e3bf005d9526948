/- Calls that were reckoned, level 1 (printed by genents.py). -/
import Derived.Test.YtojihkdonkblaaaGreatDoorKEnO0a
/-! Calls that were reckoned, level 1 (printed by genents.py). -/
set_option linter.unusedVariables false
set_option maxRecDepth 1000000
namespace Go.Proofs.YtojihkdonkblaaaGreatDoor
open Go.RowKit
namespace Ev
noncomputable def msEnO1 : Tr (List Entry) := (.node none (.node none (.node none .nil (.node none (.node none (.node none (.node none (.node (some (esEnO0a5)) .nil .nil) .nil) .nil) .nil) .nil)) .nil) (.node none (.node none .nil (.node none (.node none (.node none (.node none .nil (.node (some (esEnO0a9)) .nil .nil)) .nil) (.node none (.node none (.node (some (esEnO0a8)) .nil .nil) .nil) (.node (some (esEnO0a4)) .nil .nil))) (.node none (.node none (.node none (.node (some (esEnO0a7)) .nil .nil) .nil) .nil) (.node (some (esEnO0a0)) .nil .nil)))) (.node none (.node none (.node none .nil (.node none (.node (some (esEnO0a2)) .nil .nil) (.node (some (esEnO0a3)) .nil .nil))) .nil) (.node none (.node none (.node none (.node (some (esEnO0a1)) (.node (some (esEnO0a6)) .nil .nil) (.node (some (esEnO0a10)) .nil .nil)) .nil) .nil) .nil))))
theorem msEnO1_ok {w0 : World} (hl : laidMet Tryz.prog Rows.ordersKnownRow.laid w0) : MsOk tbu w0 hp msEnO1 := msOk_all (Tr.allP_none (Tr.allP_none (Tr.allP_none Tr.allP_nil (Tr.allP_none (Tr.allP_none (Tr.allP_none (Tr.allP_none (Tr.allP_some ((esEnO0a5_ok hl)) Tr.allP_nil Tr.allP_nil) Tr.allP_nil) Tr.allP_nil) Tr.allP_nil) Tr.allP_nil)) Tr.allP_nil) (Tr.allP_none (Tr.allP_none Tr.allP_nil (Tr.allP_none (Tr.allP_none (Tr.allP_none (Tr.allP_none Tr.allP_nil (Tr.allP_some ((esEnO0a9_ok hl)) Tr.allP_nil Tr.allP_nil)) Tr.allP_nil) (Tr.allP_none (Tr.allP_none (Tr.allP_some ((esEnO0a8_ok hl)) Tr.allP_nil Tr.allP_nil) Tr.allP_nil) (Tr.allP_some ((esEnO0a4_ok hl)) Tr.allP_nil Tr.allP_nil))) (Tr.allP_none (Tr.allP_none (Tr.allP_none (Tr.allP_some ((esEnO0a7_ok hl)) Tr.allP_nil Tr.allP_nil) Tr.allP_nil) Tr.allP_nil) (Tr.allP_some ((esEnO0a0_ok hl)) Tr.allP_nil Tr.allP_nil)))) (Tr.allP_none (Tr.allP_none (Tr.allP_none Tr.allP_nil (Tr.allP_none (Tr.allP_some ((esEnO0a2_ok hl)) Tr.allP_nil Tr.allP_nil) (Tr.allP_some ((esEnO0a3_ok hl)) Tr.allP_nil Tr.allP_nil))) Tr.allP_nil) (Tr.allP_none (Tr.allP_none (Tr.allP_none (Tr.allP_some ((esEnO0a1_ok hl)) (Tr.allP_some ((esEnO0a6_ok hl)) Tr.allP_nil Tr.allP_nil) (Tr.allP_some ((esEnO0a10_ok hl)) Tr.allP_nil Tr.allP_nil)) Tr.allP_nil) Tr.allP_nil) Tr.allP_nil))))
end Ev
end Go.Proofs.YtojihkdonkblaaaGreatDoor

