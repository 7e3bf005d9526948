/- Calls that were reckoned, level 3 (printed by genents.py). -/
import Derived.Test.YtipjmaimjchckaaGreatDoorMS
/-! Calls that were reckoned, level 3 (printed by genents.py). -/
set_option linter.unusedVariables false
set_option maxRecDepth 1000000
namespace Go.Proofs.YtipjmaimjchckaaGreatDoor
open Go.RowKit
namespace Ev
/-- circa/units.Holding: 1228 operations. -/
def esEnK3a0 : List Entry := [⟨[(.v (.int .i64 (59))), (.v (.int .u8 (2)))], [], (.tup [(.agg [(.v (.int .i8 (0))), (.v (.int .i64 (31))), (.v (.int .i8 (0))), (.v (.int .i64 (59)))]), (.v (.int .i64 (0)))]), []⟩,
  ⟨[(.v (.int .i64 (-1))), (.v (.int .u8 (2)))], [], (.tup [(.agg [(.v (.int .i8 (0))), (.v (.int .i64 (-31))), (.v (.int .i8 (0))), (.v (.int .i64 (-1)))]), (.v (.int .i64 (0)))]), []⟩,
  ⟨[(.v (.int .i64 (31))), (.v (.int .u8 (2)))], [], (.tup [(.agg [(.v (.int .i8 (0))), (.v (.int .i64 (31))), (.v (.int .i8 (0))), (.v (.int .i64 (59)))]), (.v (.int .i64 (0)))]), []⟩,
  ⟨[(.v (.int .i64 (-3652425000000000000))), (.v (.int .u8 (2)))], [], (.tup [(.agg [(.v (.int .i8 (0))), (.v (.int .i64 (-3652425000000000000))), (.v (.int .i8 (0))), (.v (.int .i64 (-3652424999999999970)))]), (.v (.int .i64 (0)))]), []⟩,
  ⟨[(.v (.int .i64 (-3652424999999999969))), (.v (.int .u8 (2)))], [], (.tup [(.agg [(.v (.int .i8 (0))), (.v (.int .i64 (-3652424999999999969))), (.v (.int .i8 (0))), (.v (.int .i64 (-3652424999999999941)))]), (.v (.int .i64 (0)))]), []⟩,
  ⟨[(.v (.int .i64 (-3652425000000000001))), (.v (.int .u8 (2)))], [], (.tup [(.agg [(.v (.int .i8 (0))), (.v (.int .i64 (0))), (.v (.int .i8 (0))), (.v (.int .i64 (0)))]), (.v (.int .i64 (6)))]), []⟩,
  ⟨[(.v (.int .i64 (3652425000000000365))), (.v (.int .u8 (2)))], [], (.tup [(.agg [(.v (.int .i8 (0))), (.v (.int .i64 (3652425000000000335))), (.v (.int .i8 (0))), (.v (.int .i64 (3652425000000000365)))]), (.v (.int .i64 (0)))]), []⟩,
  ⟨[(.v (.int .i64 (3652425000000000335))), (.v (.int .u8 (2)))], [], (.tup [(.agg [(.v (.int .i8 (0))), (.v (.int .i64 (3652425000000000335))), (.v (.int .i8 (0))), (.v (.int .i64 (3652425000000000365)))]), (.v (.int .i64 (0)))]), []⟩,
  ⟨[(.v (.int .i64 (3652425000000000366))), (.v (.int .u8 (2)))], [], (.tup [(.agg [(.v (.int .i8 (0))), (.v (.int .i64 (0))), (.v (.int .i8 (0))), (.v (.int .i64 (0)))]), (.v (.int .i64 (6)))]), []⟩,
  ⟨[(.v (.int .i64 (9223372036854775807))), (.v (.int .u8 (2)))], [], (.tup [(.agg [(.v (.int .i8 (0))), (.v (.int .i64 (0))), (.v (.int .i8 (0))), (.v (.int .i64 (0)))]), (.v (.int .i64 (6)))]), []⟩,
  ⟨[(.v (.int .i64 (-9223372036854775808))), (.v (.int .u8 (2)))], [], (.tup [(.agg [(.v (.int .i8 (0))), (.v (.int .i64 (0))), (.v (.int .i8 (0))), (.v (.int .i64 (0)))]), (.v (.int .i64 (6)))]), []⟩,
  ⟨[(.v (.int .i64 (0))), (.v (.int .u8 (2)))], [], (.tup [(.agg [(.v (.int .i8 (0))), (.v (.int .i64 (0))), (.v (.int .i8 (0))), (.v (.int .i64 (30)))]), (.v (.int .i64 (0)))]), []⟩]
theorem esEnK3a0_made : madeE tbu (callM tbu msEnK3 100) hp 8 esEnK3a0 = true := by kernel_rfl
theorem esEnK3a0_ok {w0 : World} (hl : laidMet Tryz.prog Rows.unitsKnownRow.laid w0) : EsOk tbu w0 hp 8 esEnK3a0 := madeE_ok (tbu_ok w0) (msEnK3_ok hl) (startOk hl lay_ok hp_eq) esEnK3a0_made
/-- circa/units.Of: 2300 operations. -/
def esEnK3a1 : List Entry := [⟨[(.agg [(.v (.bool false)), (.v (.bool false)), (.v (.string ⟨#[48, 48, 48, 48]⟩)), (.v (.int .i64 (0))), (.v (.int .i64 (0))), (.v (.string ⟨#[48, 50]⟩)), (.v (.string ⟨#[]⟩)), (.v (.int .u8 (0))), (.v (.int .u8 (0))), (.v (.int .u8 (0)))])], [], (.tup [(.agg [(.v (.int .i8 (0))), (.v (.int .i64 (31))), (.v (.int .i8 (0))), (.v (.int .i64 (59)))]), (.v (.int .i64 (0)))]), []⟩,
  ⟨[(.agg [(.v (.bool false)), (.v (.bool false)), (.v (.string ⟨#[48, 48, 48, 49]⟩)), (.v (.int .i64 (0))), (.v (.int .i64 (0))), (.v (.string ⟨#[48, 49]⟩)), (.v (.string ⟨#[48, 49]⟩)), (.v (.int .u8 (0))), (.v (.int .u8 (0))), (.v (.int .u8 (0)))])], [], (.tup [(.agg [(.v (.int .i8 (0))), (.v (.int .i64 (366))), (.v (.int .i8 (0))), (.v (.int .i64 (366)))]), (.v (.int .i64 (0)))]), []⟩]
theorem esEnK3a1_made : madeE tbu (callM tbu msEnK3 100) hp 23 esEnK3a1 = true := by kernel_rfl
theorem esEnK3a1_ok {w0 : World} (hl : laidMet Tryz.prog Rows.unitsKnownRow.laid w0) : EsOk tbu w0 hp 23 esEnK3a1 := madeE_ok (tbu_ok w0) (msEnK3_ok hl) (startOk hl lay_ok hp_eq) esEnK3a1_made
/-- circa/fillings.Check: 13888 operations. -/
def esEnK3a2 : List Entry := [⟨[(.agg [(.v (.bool false)), (.v (.bool false)), (.v (.string ⟨#[48, 48, 48, 48]⟩)), (.v (.int .i64 (0))), (.v (.int .i64 (0))), (.v (.string ⟨#[50, 52]⟩)), (.v (.string ⟨#[]⟩)), (.v (.int .u8 (0))), (.v (.int .u8 (0))), (.v (.int .u8 (0)))])], [], (.v (.int .i64 (0))), []⟩,
  ⟨[(.agg [(.v (.bool false)), (.v (.bool false)), (.v (.string ⟨#[49, 57, 57, 57]⟩)), (.v (.int .i64 (0))), (.v (.int .i64 (0))), (.v (.string ⟨#[50, 49]⟩)), (.v (.string ⟨#[]⟩)), (.v (.int .u8 (0))), (.v (.int .u8 (0))), (.v (.int .u8 (0)))])], [], (.v (.int .i64 (0))), []⟩,
  ⟨[(.agg [(.v (.bool false)), (.v (.bool false)), (.v (.string ⟨#[49, 57, 57, 57]⟩)), (.v (.int .i64 (0))), (.v (.int .i64 (0))), (.v (.string ⟨#[50, 50]⟩)), (.v (.string ⟨#[]⟩)), (.v (.int .u8 (0))), (.v (.int .u8 (0))), (.v (.int .u8 (0)))])], [], (.v (.int .i64 (0))), []⟩,
  ⟨[(.agg [(.v (.bool false)), (.v (.bool false)), (.v (.string ⟨#[49, 57, 57, 57]⟩)), (.v (.int .i64 (0))), (.v (.int .i64 (0))), (.v (.string ⟨#[50, 51]⟩)), (.v (.string ⟨#[]⟩)), (.v (.int .u8 (0))), (.v (.int .u8 (0))), (.v (.int .u8 (0)))])], [], (.v (.int .i64 (0))), []⟩,
  ⟨[(.agg [(.v (.bool false)), (.v (.bool false)), (.v (.string ⟨#[49, 57, 57, 57]⟩)), (.v (.int .i64 (0))), (.v (.int .i64 (0))), (.v (.string ⟨#[50, 52]⟩)), (.v (.string ⟨#[]⟩)), (.v (.int .u8 (0))), (.v (.int .u8 (0))), (.v (.int .u8 (0)))])], [], (.v (.int .i64 (0))), []⟩,
  ⟨[(.agg [(.v (.bool false)), (.v (.bool false)), (.v (.string ⟨#[49, 57, 57, 57]⟩)), (.v (.int .i64 (0))), (.v (.int .i64 (0))), (.v (.string ⟨#[50, 53]⟩)), (.v (.string ⟨#[]⟩)), (.v (.int .u8 (0))), (.v (.int .u8 (0))), (.v (.int .u8 (0)))])], [], (.v (.int .i64 (0))), []⟩,
  ⟨[(.agg [(.v (.bool false)), (.v (.bool false)), (.v (.string ⟨#[49, 57, 57, 57]⟩)), (.v (.int .i64 (0))), (.v (.int .i64 (0))), (.v (.string ⟨#[50, 54]⟩)), (.v (.string ⟨#[]⟩)), (.v (.int .u8 (0))), (.v (.int .u8 (0))), (.v (.int .u8 (0)))])], [], (.v (.int .i64 (0))), []⟩,
  ⟨[(.agg [(.v (.bool false)), (.v (.bool false)), (.v (.string ⟨#[49, 57, 57, 57]⟩)), (.v (.int .i64 (0))), (.v (.int .i64 (0))), (.v (.string ⟨#[50, 55]⟩)), (.v (.string ⟨#[]⟩)), (.v (.int .u8 (0))), (.v (.int .u8 (0))), (.v (.int .u8 (0)))])], [], (.v (.int .i64 (0))), []⟩]
theorem esEnK3a2_made : madeE tbu (callM tbu msEnK3 100) hp 49 esEnK3a2 = true := by kernel_rfl
theorem esEnK3a2_ok {w0 : World} (hl : laidMet Tryz.prog Rows.unitsKnownRow.laid w0) : EsOk tbu w0 hp 49 esEnK3a2 := madeE_ok (tbu_ok w0) (msEnK3_ok hl) (startOk hl lay_ok hp_eq) esEnK3a2_made
/-- circa/fillings.Check: 13888 operations. -/
def esEnK3a3 : List Entry := [⟨[(.agg [(.v (.bool false)), (.v (.bool false)), (.v (.string ⟨#[49, 57, 57, 57]⟩)), (.v (.int .i64 (0))), (.v (.int .i64 (0))), (.v (.string ⟨#[50, 56]⟩)), (.v (.string ⟨#[]⟩)), (.v (.int .u8 (0))), (.v (.int .u8 (0))), (.v (.int .u8 (0)))])], [], (.v (.int .i64 (0))), []⟩,
  ⟨[(.agg [(.v (.bool false)), (.v (.bool false)), (.v (.string ⟨#[49, 57, 57, 57]⟩)), (.v (.int .i64 (0))), (.v (.int .i64 (0))), (.v (.string ⟨#[50, 57]⟩)), (.v (.string ⟨#[]⟩)), (.v (.int .u8 (0))), (.v (.int .u8 (0))), (.v (.int .u8 (0)))])], [], (.v (.int .i64 (0))), []⟩,
  ⟨[(.agg [(.v (.bool false)), (.v (.bool false)), (.v (.string ⟨#[49, 57, 57, 57]⟩)), (.v (.int .i64 (0))), (.v (.int .i64 (0))), (.v (.string ⟨#[51, 48]⟩)), (.v (.string ⟨#[]⟩)), (.v (.int .u8 (0))), (.v (.int .u8 (0))), (.v (.int .u8 (0)))])], [], (.v (.int .i64 (0))), []⟩,
  ⟨[(.agg [(.v (.bool false)), (.v (.bool false)), (.v (.string ⟨#[49, 57, 57, 57]⟩)), (.v (.int .i64 (0))), (.v (.int .i64 (0))), (.v (.string ⟨#[51, 49]⟩)), (.v (.string ⟨#[]⟩)), (.v (.int .u8 (0))), (.v (.int .u8 (0))), (.v (.int .u8 (0)))])], [], (.v (.int .i64 (0))), []⟩,
  ⟨[(.agg [(.v (.bool false)), (.v (.bool false)), (.v (.string ⟨#[49, 57, 57, 57]⟩)), (.v (.int .i64 (0))), (.v (.int .i64 (0))), (.v (.string ⟨#[51, 50]⟩)), (.v (.string ⟨#[]⟩)), (.v (.int .u8 (0))), (.v (.int .u8 (0))), (.v (.int .u8 (0)))])], [], (.v (.int .i64 (0))), []⟩,
  ⟨[(.agg [(.v (.bool false)), (.v (.bool false)), (.v (.string ⟨#[49, 57, 57, 57]⟩)), (.v (.int .i64 (0))), (.v (.int .i64 (0))), (.v (.string ⟨#[51, 51]⟩)), (.v (.string ⟨#[]⟩)), (.v (.int .u8 (0))), (.v (.int .u8 (0))), (.v (.int .u8 (0)))])], [], (.v (.int .i64 (0))), []⟩,
  ⟨[(.agg [(.v (.bool false)), (.v (.bool false)), (.v (.string ⟨#[49, 57, 57, 57]⟩)), (.v (.int .i64 (0))), (.v (.int .i64 (0))), (.v (.string ⟨#[51, 52]⟩)), (.v (.string ⟨#[]⟩)), (.v (.int .u8 (0))), (.v (.int .u8 (0))), (.v (.int .u8 (0)))])], [], (.v (.int .i64 (0))), []⟩,
  ⟨[(.agg [(.v (.bool false)), (.v (.bool false)), (.v (.string ⟨#[49, 57, 57, 57]⟩)), (.v (.int .i64 (0))), (.v (.int .i64 (0))), (.v (.string ⟨#[51, 53]⟩)), (.v (.string ⟨#[]⟩)), (.v (.int .u8 (0))), (.v (.int .u8 (0))), (.v (.int .u8 (0)))])], [], (.v (.int .i64 (0))), []⟩]
theorem esEnK3a3_made : madeE tbu (callM tbu msEnK3 100) hp 49 esEnK3a3 = true := by kernel_rfl
theorem esEnK3a3_ok {w0 : World} (hl : laidMet Tryz.prog Rows.unitsKnownRow.laid w0) : EsOk tbu w0 hp 49 esEnK3a3 := madeE_ok (tbu_ok w0) (msEnK3_ok hl) (startOk hl lay_ok hp_eq) esEnK3a3_made
/-- circa/fillings.Check: 10416 operations. -/
def esEnK3a4 : List Entry := [⟨[(.agg [(.v (.bool false)), (.v (.bool false)), (.v (.string ⟨#[49, 57, 57, 57]⟩)), (.v (.int .i64 (0))), (.v (.int .i64 (0))), (.v (.string ⟨#[51, 54]⟩)), (.v (.string ⟨#[]⟩)), (.v (.int .u8 (0))), (.v (.int .u8 (0))), (.v (.int .u8 (0)))])], [], (.v (.int .i64 (0))), []⟩,
  ⟨[(.agg [(.v (.bool false)), (.v (.bool false)), (.v (.string ⟨#[49, 57, 57, 57]⟩)), (.v (.int .i64 (0))), (.v (.int .i64 (0))), (.v (.string ⟨#[51, 55]⟩)), (.v (.string ⟨#[]⟩)), (.v (.int .u8 (0))), (.v (.int .u8 (0))), (.v (.int .u8 (0)))])], [], (.v (.int .i64 (0))), []⟩,
  ⟨[(.agg [(.v (.bool false)), (.v (.bool false)), (.v (.string ⟨#[49, 57, 57, 57]⟩)), (.v (.int .i64 (0))), (.v (.int .i64 (0))), (.v (.string ⟨#[51, 56]⟩)), (.v (.string ⟨#[]⟩)), (.v (.int .u8 (0))), (.v (.int .u8 (0))), (.v (.int .u8 (0)))])], [], (.v (.int .i64 (0))), []⟩,
  ⟨[(.agg [(.v (.bool false)), (.v (.bool false)), (.v (.string ⟨#[49, 57, 57, 57]⟩)), (.v (.int .i64 (0))), (.v (.int .i64 (0))), (.v (.string ⟨#[51, 57]⟩)), (.v (.string ⟨#[]⟩)), (.v (.int .u8 (0))), (.v (.int .u8 (0))), (.v (.int .u8 (0)))])], [], (.v (.int .i64 (0))), []⟩,
  ⟨[(.agg [(.v (.bool false)), (.v (.bool false)), (.v (.string ⟨#[49, 57, 57, 57]⟩)), (.v (.int .i64 (0))), (.v (.int .i64 (0))), (.v (.string ⟨#[52, 48]⟩)), (.v (.string ⟨#[]⟩)), (.v (.int .u8 (0))), (.v (.int .u8 (0))), (.v (.int .u8 (0)))])], [], (.v (.int .i64 (0))), []⟩,
  ⟨[(.agg [(.v (.bool false)), (.v (.bool false)), (.v (.string ⟨#[49, 57, 57, 57]⟩)), (.v (.int .i64 (0))), (.v (.int .i64 (0))), (.v (.string ⟨#[52, 49]⟩)), (.v (.string ⟨#[]⟩)), (.v (.int .u8 (0))), (.v (.int .u8 (0))), (.v (.int .u8 (0)))])], [], (.v (.int .i64 (0))), []⟩]
theorem esEnK3a4_made : madeE tbu (callM tbu msEnK3 100) hp 49 esEnK3a4 = true := by kernel_rfl
theorem esEnK3a4_ok {w0 : World} (hl : laidMet Tryz.prog Rows.unitsKnownRow.laid w0) : EsOk tbu w0 hp 49 esEnK3a4 := madeE_ok (tbu_ok w0) (msEnK3_ok hl) (startOk hl lay_ok hp_eq) esEnK3a4_made
end Ev
end Go.Proofs.YtipjmaimjchckaaGreatDoor

/-! Calls that were reckoned, level 4 (printed by genents.py). -/
set_option linter.unusedVariables false
set_option maxRecDepth 1000000
namespace Go.Proofs.YtipjmaimjchckaaGreatDoor
open Go.RowKit
namespace Ev
noncomputable def msEnK4 : Tr (List Entry) := (.node none (.node none (.node none (.node none .nil (.node (some ((esEnK1a1 ++ esEnK3a1))) .nil .nil)) (.node none (.node none (.node none (.node none (.node (some (esEnK0a5)) .nil .nil) .nil) .nil) .nil) .nil)) (.node none (.node (some ((esEnK0a1 ++ esEnK1a0))) (.node none .nil (.node (some (((((esEnK0a3 ++ esEnK2a1) ++ esEnK3a2) ++ esEnK3a3) ++ esEnK3a4))) .nil .nil)) (.node (some (esEnK1a2)) (.node none (.node (some ((esEnK0a4 ++ esEnK2a3))) .nil .nil) (.node (some (esEnK1a4)) .nil .nil)) .nil)) (.node none (.node none (.node none (.node (some (esEnK1a3)) .nil .nil) .nil) .nil) .nil))) (.node none (.node none (.node (some (((esEnK0a0 ++ esEnK2a0) ++ esEnK3a0))) .nil (.node none (.node none (.node (some (esEnK2a2)) .nil .nil) .nil) .nil)) (.node none (.node (some (esEnK0a2)) .nil .nil) .nil)) (.node none (.node none (.node none .nil (.node none (.node (some (esEnK2a4)) .nil .nil) .nil)) .nil) .nil)))
theorem msEnK4_ok {w0 : World} (hl : laidMet Tryz.prog Rows.unitsKnownRow.laid w0) : MsOk tbu w0 hp msEnK4 := msOk_all (Tr.allP_none (Tr.allP_none (Tr.allP_none (Tr.allP_none Tr.allP_nil (Tr.allP_some ((EsOk.app (esEnK1a1_ok hl) (esEnK3a1_ok hl))) Tr.allP_nil Tr.allP_nil)) (Tr.allP_none (Tr.allP_none (Tr.allP_none (Tr.allP_none (Tr.allP_some ((esEnK0a5_ok hl)) Tr.allP_nil Tr.allP_nil) Tr.allP_nil) Tr.allP_nil) Tr.allP_nil) Tr.allP_nil)) (Tr.allP_none (Tr.allP_some ((EsOk.app (esEnK0a1_ok hl) (esEnK1a0_ok hl))) (Tr.allP_none Tr.allP_nil (Tr.allP_some ((EsOk.app (EsOk.app (EsOk.app (EsOk.app (esEnK0a3_ok hl) (esEnK2a1_ok hl)) (esEnK3a2_ok hl)) (esEnK3a3_ok hl)) (esEnK3a4_ok hl))) Tr.allP_nil Tr.allP_nil)) (Tr.allP_some ((esEnK1a2_ok hl)) (Tr.allP_none (Tr.allP_some ((EsOk.app (esEnK0a4_ok hl) (esEnK2a3_ok hl))) Tr.allP_nil Tr.allP_nil) (Tr.allP_some ((esEnK1a4_ok hl)) Tr.allP_nil Tr.allP_nil)) Tr.allP_nil)) (Tr.allP_none (Tr.allP_none (Tr.allP_none (Tr.allP_some ((esEnK1a3_ok hl)) Tr.allP_nil Tr.allP_nil) Tr.allP_nil) Tr.allP_nil) Tr.allP_nil))) (Tr.allP_none (Tr.allP_none (Tr.allP_some ((EsOk.app (EsOk.app (esEnK0a0_ok hl) (esEnK2a0_ok hl)) (esEnK3a0_ok hl))) Tr.allP_nil (Tr.allP_none (Tr.allP_none (Tr.allP_some ((esEnK2a2_ok hl)) Tr.allP_nil Tr.allP_nil) Tr.allP_nil) Tr.allP_nil)) (Tr.allP_none (Tr.allP_some ((esEnK0a2_ok hl)) Tr.allP_nil Tr.allP_nil) Tr.allP_nil)) (Tr.allP_none (Tr.allP_none (Tr.allP_none Tr.allP_nil (Tr.allP_none (Tr.allP_some ((esEnK2a4_ok hl)) Tr.allP_nil Tr.allP_nil) Tr.allP_nil)) Tr.allP_nil) Tr.allP_nil)))
end Ev
end Go.Proofs.YtipjmaimjchckaaGreatDoor

/-! Calls that were reckoned, level 4 (printed by genents.py). -/
set_option linter.unusedVariables false
set_option maxRecDepth 1000000
namespace Go.Proofs.YtipjmaimjchckaaGreatDoor
open Go.RowKit
namespace Ev
/-- circa/units.Of: 14910 operations. -/
def esEnK4a0 : List Entry := [⟨[(.agg [(.v (.bool false)), (.v (.bool false)), (.v (.string ⟨#[48, 48, 48, 48]⟩)), (.v (.int .i64 (0))), (.v (.int .i64 (0))), (.v (.string ⟨#[50, 52]⟩)), (.v (.string ⟨#[]⟩)), (.v (.int .u8 (0))), (.v (.int .u8 (0))), (.v (.int .u8 (0)))])], [], (.tup [(.agg [(.v (.int .i8 (0))), (.v (.int .i64 (335))), (.v (.int .i8 (0))), (.v (.int .i64 (424)))]), (.v (.int .i64 (0)))]), []⟩,
  ⟨[(.agg [(.v (.bool false)), (.v (.bool false)), (.v (.string ⟨#[49, 57, 57, 57]⟩)), (.v (.int .i64 (0))), (.v (.int .i64 (0))), (.v (.string ⟨#[50, 49]⟩)), (.v (.string ⟨#[]⟩)), (.v (.int .u8 (0))), (.v (.int .u8 (0))), (.v (.int .u8 (0)))])], [], (.tup [(.agg [(.v (.int .i8 (0))), (.v (.int .i64 (730179))), (.v (.int .i8 (0))), (.v (.int .i64 (730270)))]), (.v (.int .i64 (0)))]), []⟩,
  ⟨[(.agg [(.v (.bool false)), (.v (.bool false)), (.v (.string ⟨#[49, 57, 57, 57]⟩)), (.v (.int .i64 (0))), (.v (.int .i64 (0))), (.v (.string ⟨#[50, 50]⟩)), (.v (.string ⟨#[]⟩)), (.v (.int .u8 (0))), (.v (.int .u8 (0))), (.v (.int .u8 (0)))])], [], (.tup [(.agg [(.v (.int .i8 (0))), (.v (.int .i64 (730271))), (.v (.int .i8 (0))), (.v (.int .i64 (730362)))]), (.v (.int .i64 (0)))]), []⟩,
  ⟨[(.agg [(.v (.bool false)), (.v (.bool false)), (.v (.string ⟨#[49, 57, 57, 57]⟩)), (.v (.int .i64 (0))), (.v (.int .i64 (0))), (.v (.string ⟨#[50, 51]⟩)), (.v (.string ⟨#[]⟩)), (.v (.int .u8 (0))), (.v (.int .u8 (0))), (.v (.int .u8 (0)))])], [], (.tup [(.agg [(.v (.int .i8 (0))), (.v (.int .i64 (730363))), (.v (.int .i8 (0))), (.v (.int .i64 (730453)))]), (.v (.int .i64 (0)))]), []⟩,
  ⟨[(.agg [(.v (.bool false)), (.v (.bool false)), (.v (.string ⟨#[49, 57, 57, 57]⟩)), (.v (.int .i64 (0))), (.v (.int .i64 (0))), (.v (.string ⟨#[50, 52]⟩)), (.v (.string ⟨#[]⟩)), (.v (.int .u8 (0))), (.v (.int .u8 (0))), (.v (.int .u8 (0)))])], [], (.tup [(.agg [(.v (.int .i8 (0))), (.v (.int .i64 (730454))), (.v (.int .i8 (0))), (.v (.int .i64 (730544)))]), (.v (.int .i64 (0)))]), []⟩,
  ⟨[(.agg [(.v (.bool false)), (.v (.bool false)), (.v (.string ⟨#[49, 57, 57, 57]⟩)), (.v (.int .i64 (0))), (.v (.int .i64 (0))), (.v (.string ⟨#[50, 53]⟩)), (.v (.string ⟨#[]⟩)), (.v (.int .u8 (0))), (.v (.int .u8 (0))), (.v (.int .u8 (0)))])], [], (.tup [(.agg [(.v (.int .i8 (0))), (.v (.int .i64 (730179))), (.v (.int .i8 (0))), (.v (.int .i64 (730270)))]), (.v (.int .i64 (0)))]), []⟩,
  ⟨[(.agg [(.v (.bool false)), (.v (.bool false)), (.v (.string ⟨#[49, 57, 57, 57]⟩)), (.v (.int .i64 (0))), (.v (.int .i64 (0))), (.v (.string ⟨#[50, 54]⟩)), (.v (.string ⟨#[]⟩)), (.v (.int .u8 (0))), (.v (.int .u8 (0))), (.v (.int .u8 (0)))])], [], (.tup [(.agg [(.v (.int .i8 (0))), (.v (.int .i64 (730271))), (.v (.int .i8 (0))), (.v (.int .i64 (730362)))]), (.v (.int .i64 (0)))]), []⟩,
  ⟨[(.agg [(.v (.bool false)), (.v (.bool false)), (.v (.string ⟨#[49, 57, 57, 57]⟩)), (.v (.int .i64 (0))), (.v (.int .i64 (0))), (.v (.string ⟨#[50, 55]⟩)), (.v (.string ⟨#[]⟩)), (.v (.int .u8 (0))), (.v (.int .u8 (0))), (.v (.int .u8 (0)))])], [], (.tup [(.agg [(.v (.int .i8 (0))), (.v (.int .i64 (730363))), (.v (.int .i8 (0))), (.v (.int .i64 (730453)))]), (.v (.int .i64 (0)))]), []⟩,
  ⟨[(.agg [(.v (.bool false)), (.v (.bool false)), (.v (.string ⟨#[49, 57, 57, 57]⟩)), (.v (.int .i64 (0))), (.v (.int .i64 (0))), (.v (.string ⟨#[50, 56]⟩)), (.v (.string ⟨#[]⟩)), (.v (.int .u8 (0))), (.v (.int .u8 (0))), (.v (.int .u8 (0)))])], [], (.tup [(.agg [(.v (.int .i8 (0))), (.v (.int .i64 (730454))), (.v (.int .i8 (0))), (.v (.int .i64 (730544)))]), (.v (.int .i64 (0)))]), []⟩,
  ⟨[(.agg [(.v (.bool false)), (.v (.bool false)), (.v (.string ⟨#[49, 57, 57, 57]⟩)), (.v (.int .i64 (0))), (.v (.int .i64 (0))), (.v (.string ⟨#[50, 57]⟩)), (.v (.string ⟨#[]⟩)), (.v (.int .u8 (0))), (.v (.int .u8 (0))), (.v (.int .u8 (0)))])], [], (.tup [(.agg [(.v (.int .i8 (0))), (.v (.int .i64 (730363))), (.v (.int .i8 (0))), (.v (.int .i64 (730453)))]), (.v (.int .i64 (0)))]), []⟩,
  ⟨[(.agg [(.v (.bool false)), (.v (.bool false)), (.v (.string ⟨#[49, 57, 57, 57]⟩)), (.v (.int .i64 (0))), (.v (.int .i64 (0))), (.v (.string ⟨#[51, 48]⟩)), (.v (.string ⟨#[]⟩)), (.v (.int .u8 (0))), (.v (.int .u8 (0))), (.v (.int .u8 (0)))])], [], (.tup [(.agg [(.v (.int .i8 (0))), (.v (.int .i64 (730454))), (.v (.int .i8 (0))), (.v (.int .i64 (730544)))]), (.v (.int .i64 (0)))]), []⟩,
  ⟨[(.agg [(.v (.bool false)), (.v (.bool false)), (.v (.string ⟨#[49, 57, 57, 57]⟩)), (.v (.int .i64 (0))), (.v (.int .i64 (0))), (.v (.string ⟨#[51, 49]⟩)), (.v (.string ⟨#[]⟩)), (.v (.int .u8 (0))), (.v (.int .u8 (0))), (.v (.int .u8 (0)))])], [], (.tup [(.agg [(.v (.int .i8 (0))), (.v (.int .i64 (730179))), (.v (.int .i8 (0))), (.v (.int .i64 (730270)))]), (.v (.int .i64 (0)))]), []⟩,
  ⟨[(.agg [(.v (.bool false)), (.v (.bool false)), (.v (.string ⟨#[49, 57, 57, 57]⟩)), (.v (.int .i64 (0))), (.v (.int .i64 (0))), (.v (.string ⟨#[51, 50]⟩)), (.v (.string ⟨#[]⟩)), (.v (.int .u8 (0))), (.v (.int .u8 (0))), (.v (.int .u8 (0)))])], [], (.tup [(.agg [(.v (.int .i8 (0))), (.v (.int .i64 (730271))), (.v (.int .i8 (0))), (.v (.int .i64 (730362)))]), (.v (.int .i64 (0)))]), []⟩,
  ⟨[(.agg [(.v (.bool false)), (.v (.bool false)), (.v (.string ⟨#[49, 57, 57, 57]⟩)), (.v (.int .i64 (0))), (.v (.int .i64 (0))), (.v (.string ⟨#[51, 51]⟩)), (.v (.string ⟨#[]⟩)), (.v (.int .u8 (0))), (.v (.int .u8 (0))), (.v (.int .u8 (0)))])], [], (.tup [(.agg [(.v (.int .i8 (0))), (.v (.int .i64 (730120))), (.v (.int .i8 (0))), (.v (.int .i64 (730209)))]), (.v (.int .i64 (0)))]), []⟩]
theorem esEnK4a0_made : madeE tbu (callM tbu msEnK4 100) hp 23 esEnK4a0 = true := by kernel_rfl
theorem esEnK4a0_ok {w0 : World} (hl : laidMet Tryz.prog Rows.unitsKnownRow.laid w0) : EsOk tbu w0 hp 23 esEnK4a0 := madeE_ok (tbu_ok w0) (msEnK4_ok hl) (startOk hl lay_ok hp_eq) esEnK4a0_made
/-- circa/units.Of: 8520 operations. -/
def esEnK4a1 : List Entry := [⟨[(.agg [(.v (.bool false)), (.v (.bool false)), (.v (.string ⟨#[49, 57, 57, 57]⟩)), (.v (.int .i64 (0))), (.v (.int .i64 (0))), (.v (.string ⟨#[51, 52]⟩)), (.v (.string ⟨#[]⟩)), (.v (.int .u8 (0))), (.v (.int .u8 (0))), (.v (.int .u8 (0)))])], [], (.tup [(.agg [(.v (.int .i8 (0))), (.v (.int .i64 (730210))), (.v (.int .i8 (0))), (.v (.int .i64 (730300)))]), (.v (.int .i64 (0)))]), []⟩,
  ⟨[(.agg [(.v (.bool false)), (.v (.bool false)), (.v (.string ⟨#[49, 57, 57, 57]⟩)), (.v (.int .i64 (0))), (.v (.int .i64 (0))), (.v (.string ⟨#[51, 53]⟩)), (.v (.string ⟨#[]⟩)), (.v (.int .u8 (0))), (.v (.int .u8 (0))), (.v (.int .u8 (0)))])], [], (.tup [(.agg [(.v (.int .i8 (0))), (.v (.int .i64 (730301))), (.v (.int .i8 (0))), (.v (.int .i64 (730392)))]), (.v (.int .i64 (0)))]), []⟩,
  ⟨[(.agg [(.v (.bool false)), (.v (.bool false)), (.v (.string ⟨#[49, 57, 57, 57]⟩)), (.v (.int .i64 (0))), (.v (.int .i64 (0))), (.v (.string ⟨#[51, 54]⟩)), (.v (.string ⟨#[]⟩)), (.v (.int .u8 (0))), (.v (.int .u8 (0))), (.v (.int .u8 (0)))])], [], (.tup [(.agg [(.v (.int .i8 (0))), (.v (.int .i64 (730393))), (.v (.int .i8 (0))), (.v (.int .i64 (730484)))]), (.v (.int .i64 (0)))]), []⟩,
  ⟨[(.agg [(.v (.bool false)), (.v (.bool false)), (.v (.string ⟨#[49, 57, 57, 57]⟩)), (.v (.int .i64 (0))), (.v (.int .i64 (0))), (.v (.string ⟨#[51, 55]⟩)), (.v (.string ⟨#[]⟩)), (.v (.int .u8 (0))), (.v (.int .u8 (0))), (.v (.int .u8 (0)))])], [], (.tup [(.agg [(.v (.int .i8 (0))), (.v (.int .i64 (730120))), (.v (.int .i8 (0))), (.v (.int .i64 (730239)))]), (.v (.int .i64 (0)))]), []⟩,
  ⟨[(.agg [(.v (.bool false)), (.v (.bool false)), (.v (.string ⟨#[49, 57, 57, 57]⟩)), (.v (.int .i64 (0))), (.v (.int .i64 (0))), (.v (.string ⟨#[51, 56]⟩)), (.v (.string ⟨#[]⟩)), (.v (.int .u8 (0))), (.v (.int .u8 (0))), (.v (.int .u8 (0)))])], [], (.tup [(.agg [(.v (.int .i8 (0))), (.v (.int .i64 (730240))), (.v (.int .i8 (0))), (.v (.int .i64 (730362)))]), (.v (.int .i64 (0)))]), []⟩,
  ⟨[(.agg [(.v (.bool false)), (.v (.bool false)), (.v (.string ⟨#[49, 57, 57, 57]⟩)), (.v (.int .i64 (0))), (.v (.int .i64 (0))), (.v (.string ⟨#[51, 57]⟩)), (.v (.string ⟨#[]⟩)), (.v (.int .u8 (0))), (.v (.int .u8 (0))), (.v (.int .u8 (0)))])], [], (.tup [(.agg [(.v (.int .i8 (0))), (.v (.int .i64 (730363))), (.v (.int .i8 (0))), (.v (.int .i64 (730484)))]), (.v (.int .i64 (0)))]), []⟩,
  ⟨[(.agg [(.v (.bool false)), (.v (.bool false)), (.v (.string ⟨#[49, 57, 57, 57]⟩)), (.v (.int .i64 (0))), (.v (.int .i64 (0))), (.v (.string ⟨#[52, 48]⟩)), (.v (.string ⟨#[]⟩)), (.v (.int .u8 (0))), (.v (.int .u8 (0))), (.v (.int .u8 (0)))])], [], (.tup [(.agg [(.v (.int .i8 (0))), (.v (.int .i64 (730120))), (.v (.int .i8 (0))), (.v (.int .i64 (730300)))]), (.v (.int .i64 (0)))]), []⟩,
  ⟨[(.agg [(.v (.bool false)), (.v (.bool false)), (.v (.string ⟨#[49, 57, 57, 57]⟩)), (.v (.int .i64 (0))), (.v (.int .i64 (0))), (.v (.string ⟨#[52, 49]⟩)), (.v (.string ⟨#[]⟩)), (.v (.int .u8 (0))), (.v (.int .u8 (0))), (.v (.int .u8 (0)))])], [], (.tup [(.agg [(.v (.int .i8 (0))), (.v (.int .i64 (730301))), (.v (.int .i8 (0))), (.v (.int .i64 (730484)))]), (.v (.int .i64 (0)))]), []⟩]
theorem esEnK4a1_made : madeE tbu (callM tbu msEnK4 100) hp 23 esEnK4a1 = true := by kernel_rfl
theorem esEnK4a1_ok {w0 : World} (hl : laidMet Tryz.prog Rows.unitsKnownRow.laid w0) : EsOk tbu w0 hp 23 esEnK4a1 := madeE_ok (tbu_ok w0) (msEnK4_ok hl) (startOk hl lay_ok hp_eq) esEnK4a1_made
end Ev
end Go.Proofs.YtipjmaimjchckaaGreatDoor

/-! Calls that were reckoned, level 5 (printed by genents.py). -/
set_option linter.unusedVariables false
set_option maxRecDepth 1000000
namespace Go.Proofs.YtipjmaimjchckaaGreatDoor
open Go.RowKit
namespace Ev
noncomputable def msEnK5 : Tr (List Entry) := (.node none (.node none (.node none (.node none .nil (.node (some ((((esEnK1a1 ++ esEnK3a1) ++ esEnK4a0) ++ esEnK4a1))) .nil .nil)) (.node none (.node none (.node none (.node none (.node (some (esEnK0a5)) .nil .nil) .nil) .nil) .nil) .nil)) (.node none (.node (some ((esEnK0a1 ++ esEnK1a0))) (.node none .nil (.node (some (((((esEnK0a3 ++ esEnK2a1) ++ esEnK3a2) ++ esEnK3a3) ++ esEnK3a4))) .nil .nil)) (.node (some (esEnK1a2)) (.node none (.node (some ((esEnK0a4 ++ esEnK2a3))) .nil .nil) (.node (some (esEnK1a4)) .nil .nil)) .nil)) (.node none (.node none (.node none (.node (some (esEnK1a3)) .nil .nil) .nil) .nil) .nil))) (.node none (.node none (.node (some (((esEnK0a0 ++ esEnK2a0) ++ esEnK3a0))) .nil (.node none (.node none (.node (some (esEnK2a2)) .nil .nil) .nil) .nil)) (.node none (.node (some (esEnK0a2)) .nil .nil) .nil)) (.node none (.node none (.node none .nil (.node none (.node (some (esEnK2a4)) .nil .nil) .nil)) .nil) .nil)))
theorem msEnK5_ok {w0 : World} (hl : laidMet Tryz.prog Rows.unitsKnownRow.laid w0) : MsOk tbu w0 hp msEnK5 := msOk_all (Tr.allP_none (Tr.allP_none (Tr.allP_none (Tr.allP_none Tr.allP_nil (Tr.allP_some ((EsOk.app (EsOk.app (EsOk.app (esEnK1a1_ok hl) (esEnK3a1_ok hl)) (esEnK4a0_ok hl)) (esEnK4a1_ok hl))) Tr.allP_nil Tr.allP_nil)) (Tr.allP_none (Tr.allP_none (Tr.allP_none (Tr.allP_none (Tr.allP_some ((esEnK0a5_ok hl)) Tr.allP_nil Tr.allP_nil) Tr.allP_nil) Tr.allP_nil) Tr.allP_nil) Tr.allP_nil)) (Tr.allP_none (Tr.allP_some ((EsOk.app (esEnK0a1_ok hl) (esEnK1a0_ok hl))) (Tr.allP_none Tr.allP_nil (Tr.allP_some ((EsOk.app (EsOk.app (EsOk.app (EsOk.app (esEnK0a3_ok hl) (esEnK2a1_ok hl)) (esEnK3a2_ok hl)) (esEnK3a3_ok hl)) (esEnK3a4_ok hl))) Tr.allP_nil Tr.allP_nil)) (Tr.allP_some ((esEnK1a2_ok hl)) (Tr.allP_none (Tr.allP_some ((EsOk.app (esEnK0a4_ok hl) (esEnK2a3_ok hl))) Tr.allP_nil Tr.allP_nil) (Tr.allP_some ((esEnK1a4_ok hl)) Tr.allP_nil Tr.allP_nil)) Tr.allP_nil)) (Tr.allP_none (Tr.allP_none (Tr.allP_none (Tr.allP_some ((esEnK1a3_ok hl)) Tr.allP_nil Tr.allP_nil) Tr.allP_nil) Tr.allP_nil) Tr.allP_nil))) (Tr.allP_none (Tr.allP_none (Tr.allP_some ((EsOk.app (EsOk.app (esEnK0a0_ok hl) (esEnK2a0_ok hl)) (esEnK3a0_ok hl))) Tr.allP_nil (Tr.allP_none (Tr.allP_none (Tr.allP_some ((esEnK2a2_ok hl)) Tr.allP_nil Tr.allP_nil) Tr.allP_nil) Tr.allP_nil)) (Tr.allP_none (Tr.allP_some ((esEnK0a2_ok hl)) Tr.allP_nil Tr.allP_nil) Tr.allP_nil)) (Tr.allP_none (Tr.allP_none (Tr.allP_none Tr.allP_nil (Tr.allP_none (Tr.allP_some ((esEnK2a4_ok hl)) Tr.allP_nil Tr.allP_nil) Tr.allP_nil)) Tr.allP_nil) Tr.allP_nil)))
end Ev
end Go.Proofs.YtipjmaimjchckaaGreatDoor

/-! Calls that were reckoned, level 5 (printed by genents.py). -/
set_option linter.unusedVariables false
set_option maxRecDepth 1000000
namespace Go.Proofs.YtipjmaimjchckaaGreatDoor
open Go.RowKit
namespace Ev
/-- circa/circalaw23.lives: 3611 operations. -/
def esEnK5a0 : List Entry := [⟨[], [], (.v (.bool true)), []⟩]
theorem esEnK5a0_made : madeE tbu (callM tbu msEnK5 100) hp 10 esEnK5a0 = true := by kernel_rfl
theorem esEnK5a0_ok {w0 : World} (hl : laidMet Tryz.prog Rows.unitsKnownRow.laid w0) : EsOk tbu w0 hp 10 esEnK5a0 := madeE_ok (tbu_ok w0) (msEnK5_ok hl) (startOk hl lay_ok hp_eq) esEnK5a0_made
end Ev
end Go.Proofs.YtipjmaimjchckaaGreatDoor

/-! Calls that were reckoned, level 6 (printed by genents.py). -/
set_option linter.unusedVariables false
set_option maxRecDepth 1000000
namespace Go.Proofs.YtipjmaimjchckaaGreatDoor
open Go.RowKit
namespace Ev
noncomputable def msEnK6 : Tr (List Entry) := (.node none (.node none (.node none (.node none .nil (.node (some ((((esEnK1a1 ++ esEnK3a1) ++ esEnK4a0) ++ esEnK4a1))) .nil .nil)) (.node none (.node none (.node none (.node none (.node (some (esEnK0a5)) .nil .nil) .nil) .nil) .nil) .nil)) (.node none (.node (some ((esEnK0a1 ++ esEnK1a0))) (.node none .nil (.node (some (((((esEnK0a3 ++ esEnK2a1) ++ esEnK3a2) ++ esEnK3a3) ++ esEnK3a4))) .nil .nil)) (.node (some (esEnK1a2)) (.node none (.node (some ((esEnK0a4 ++ esEnK2a3))) .nil .nil) (.node (some (esEnK1a4)) .nil .nil)) .nil)) (.node none (.node none (.node none (.node (some (esEnK1a3)) .nil .nil) .nil) .nil) .nil))) (.node none (.node none (.node (some (((esEnK0a0 ++ esEnK2a0) ++ esEnK3a0))) .nil (.node none (.node none (.node (some (esEnK2a2)) .nil .nil) .nil) .nil)) (.node none (.node (some (esEnK0a2)) .nil .nil) .nil)) (.node none (.node (some (esEnK5a0)) (.node none .nil (.node none (.node (some (esEnK2a4)) .nil .nil) .nil)) .nil) .nil)))
theorem msEnK6_ok {w0 : World} (hl : laidMet Tryz.prog Rows.unitsKnownRow.laid w0) : MsOk tbu w0 hp msEnK6 := msOk_all (Tr.allP_none (Tr.allP_none (Tr.allP_none (Tr.allP_none Tr.allP_nil (Tr.allP_some ((EsOk.app (EsOk.app (EsOk.app (esEnK1a1_ok hl) (esEnK3a1_ok hl)) (esEnK4a0_ok hl)) (esEnK4a1_ok hl))) Tr.allP_nil Tr.allP_nil)) (Tr.allP_none (Tr.allP_none (Tr.allP_none (Tr.allP_none (Tr.allP_some ((esEnK0a5_ok hl)) Tr.allP_nil Tr.allP_nil) Tr.allP_nil) Tr.allP_nil) Tr.allP_nil) Tr.allP_nil)) (Tr.allP_none (Tr.allP_some ((EsOk.app (esEnK0a1_ok hl) (esEnK1a0_ok hl))) (Tr.allP_none Tr.allP_nil (Tr.allP_some ((EsOk.app (EsOk.app (EsOk.app (EsOk.app (esEnK0a3_ok hl) (esEnK2a1_ok hl)) (esEnK3a2_ok hl)) (esEnK3a3_ok hl)) (esEnK3a4_ok hl))) Tr.allP_nil Tr.allP_nil)) (Tr.allP_some ((esEnK1a2_ok hl)) (Tr.allP_none (Tr.allP_some ((EsOk.app (esEnK0a4_ok hl) (esEnK2a3_ok hl))) Tr.allP_nil Tr.allP_nil) (Tr.allP_some ((esEnK1a4_ok hl)) Tr.allP_nil Tr.allP_nil)) Tr.allP_nil)) (Tr.allP_none (Tr.allP_none (Tr.allP_none (Tr.allP_some ((esEnK1a3_ok hl)) Tr.allP_nil Tr.allP_nil) Tr.allP_nil) Tr.allP_nil) Tr.allP_nil))) (Tr.allP_none (Tr.allP_none (Tr.allP_some ((EsOk.app (EsOk.app (esEnK0a0_ok hl) (esEnK2a0_ok hl)) (esEnK3a0_ok hl))) Tr.allP_nil (Tr.allP_none (Tr.allP_none (Tr.allP_some ((esEnK2a2_ok hl)) Tr.allP_nil Tr.allP_nil) Tr.allP_nil) Tr.allP_nil)) (Tr.allP_none (Tr.allP_some ((esEnK0a2_ok hl)) Tr.allP_nil Tr.allP_nil) Tr.allP_nil)) (Tr.allP_none (Tr.allP_some ((esEnK5a0_ok hl)) (Tr.allP_none Tr.allP_nil (Tr.allP_none (Tr.allP_some ((esEnK2a4_ok hl)) Tr.allP_nil Tr.allP_nil) Tr.allP_nil)) Tr.allP_nil) Tr.allP_nil)))
end Ev
end Go.Proofs.YtipjmaimjchckaaGreatDoor

/-! Calls that were reckoned, level 6 (printed by genents.py). -/
set_option linter.unusedVariables false
set_option maxRecDepth 1000000
namespace Go.Proofs.YtipjmaimjchckaaGreatDoor
open Go.RowKit
namespace Ev
/-- circa/circalaw23.UnitsHolding: 14650 operations. -/
def esEnK6a0 : List Entry := [⟨[(.v (.int .i64 (-3652425000000000000))), (.v (.int .u8 (1)))], [], (.v (.bool true)), []⟩,
  ⟨[(.v (.int .i64 (-3652425000000000001))), (.v (.int .u8 (1)))], [], (.v (.bool true)), []⟩,
  ⟨[(.v (.int .i64 (3652425000000000365))), (.v (.int .u8 (1)))], [], (.v (.bool true)), []⟩,
  ⟨[(.v (.int .i64 (3652425000000000366))), (.v (.int .u8 (1)))], [], (.v (.bool true)), []⟩,
  ⟨[(.v (.int .i64 (9223372036854775807))), (.v (.int .u8 (1)))], [], (.v (.bool true)), []⟩,
  ⟨[(.v (.int .i64 (-9223372036854775808))), (.v (.int .u8 (1)))], [], (.v (.bool true)), []⟩,
  ⟨[(.v (.int .i64 (-3652425000000000000))), (.v (.int .u8 (2)))], [], (.v (.bool true)), []⟩,
  ⟨[(.v (.int .i64 (-3652425000000000001))), (.v (.int .u8 (2)))], [], (.v (.bool true)), []⟩,
  ⟨[(.v (.int .i64 (3652425000000000365))), (.v (.int .u8 (2)))], [], (.v (.bool true)), []⟩,
  ⟨[(.v (.int .i64 (3652425000000000366))), (.v (.int .u8 (2)))], [], (.v (.bool true)), []⟩,
  ⟨[(.v (.int .i64 (9223372036854775807))), (.v (.int .u8 (2)))], [], (.v (.bool true)), []⟩,
  ⟨[(.v (.int .i64 (-9223372036854775808))), (.v (.int .u8 (2)))], [], (.v (.bool true)), []⟩,
  ⟨[(.v (.int .i64 (9223372036854775807))), (.v (.int .u8 (3)))], [], (.v (.bool true)), []⟩]
theorem esEnK6a0_made : madeE tbu (callM tbu msEnK6 100) hp 3 esEnK6a0 = true := by kernel_rfl
theorem esEnK6a0_ok {w0 : World} (hl : laidMet Tryz.prog Rows.unitsKnownRow.laid w0) : EsOk tbu w0 hp 3 esEnK6a0 := madeE_ok (tbu_ok w0) (msEnK6_ok hl) (startOk hl lay_ok hp_eq) esEnK6a0_made
/-- circa/circalaw23.UnitsHolding: 1109 operations. -/
def esEnK6a1 : List Entry := [⟨[(.v (.int .i64 (-9223372036854775808))), (.v (.int .u8 (3)))], [], (.v (.bool true)), []⟩,
  ⟨[(.v (.int .i64 (5))), (.v (.int .u8 (0)))], [], (.v (.bool true)), []⟩,
  ⟨[(.v (.int .i64 (5))), (.v (.int .u8 (4)))], [], (.v (.bool true)), []⟩]
theorem esEnK6a1_made : madeE tbu (callM tbu msEnK6 100) hp 3 esEnK6a1 = true := by kernel_rfl
theorem esEnK6a1_ok {w0 : World} (hl : laidMet Tryz.prog Rows.unitsKnownRow.laid w0) : EsOk tbu w0 hp 3 esEnK6a1 := madeE_ok (tbu_ok w0) (msEnK6_ok hl) (startOk hl lay_ok hp_eq) esEnK6a1_made
/-- circa/circalaw23.UnitsArg: 1835 operations. -/
def esEnK6a2 : List Entry := [⟨[(.agg [(.v (.int .i8 (0))), (.v (.int .i64 (0))), (.v (.int .i8 (0))), (.v (.int .i64 (365)))]), (.v (.int .u8 (1))), (.v (.int .i64 (10000000000000001)))], [], (.v (.bool true)), []⟩,
  ⟨[(.agg [(.v (.int .i8 (0))), (.v (.int .i64 (0))), (.v (.int .i8 (0))), (.v (.int .i64 (365)))]), (.v (.int .u8 (2))), (.v (.int .i64 (120000000000000012)))], [], (.v (.bool true)), []⟩,
  ⟨[(.agg [(.v (.int .i8 (0))), (.v (.int .i64 (0))), (.v (.int .i8 (0))), (.v (.int .i64 (0)))]), (.v (.int .u8 (2))), (.v (.int .i64 (-120000000000000001)))], [], (.v (.bool true)), []⟩]
theorem esEnK6a2_made : madeE tbu (callM tbu msEnK6 100) hp 4 esEnK6a2 = true := by kernel_rfl
theorem esEnK6a2_ok {w0 : World} (hl : laidMet Tryz.prog Rows.unitsKnownRow.laid w0) : EsOk tbu w0 hp 4 esEnK6a2 := madeE_ok (tbu_ok w0) (msEnK6_ok hl) (startOk hl lay_ok hp_eq) esEnK6a2_made
end Ev
end Go.Proofs.YtipjmaimjchckaaGreatDoor

/-! Calls that were reckoned, level 7 (printed by genents.py). -/
set_option linter.unusedVariables false
set_option maxRecDepth 1000000
namespace Go.Proofs.YtipjmaimjchckaaGreatDoor
open Go.RowKit
namespace Ev
noncomputable def msEnK7 : Tr (List Entry) := (.node none (.node none (.node (some ((esEnK6a0 ++ esEnK6a1))) (.node none .nil (.node (some ((((esEnK1a1 ++ esEnK3a1) ++ esEnK4a0) ++ esEnK4a1))) .nil .nil)) (.node none (.node none (.node none (.node none (.node (some (esEnK0a5)) .nil .nil) .nil) .nil) .nil) .nil)) (.node none (.node (some ((esEnK0a1 ++ esEnK1a0))) (.node none .nil (.node (some (((((esEnK0a3 ++ esEnK2a1) ++ esEnK3a2) ++ esEnK3a3) ++ esEnK3a4))) .nil .nil)) (.node (some (esEnK1a2)) (.node none (.node (some ((esEnK0a4 ++ esEnK2a3))) .nil .nil) (.node (some (esEnK1a4)) .nil .nil)) .nil)) (.node none (.node none (.node none (.node (some (esEnK1a3)) .nil .nil) .nil) .nil) .nil))) (.node none (.node (some (esEnK6a2)) (.node (some (((esEnK0a0 ++ esEnK2a0) ++ esEnK3a0))) .nil (.node none (.node none (.node (some (esEnK2a2)) .nil .nil) .nil) .nil)) (.node none (.node (some (esEnK0a2)) .nil .nil) .nil)) (.node none (.node (some (esEnK5a0)) (.node none .nil (.node none (.node (some (esEnK2a4)) .nil .nil) .nil)) .nil) .nil)))
theorem msEnK7_ok {w0 : World} (hl : laidMet Tryz.prog Rows.unitsKnownRow.laid w0) : MsOk tbu w0 hp msEnK7 := msOk_all (Tr.allP_none (Tr.allP_none (Tr.allP_some ((EsOk.app (esEnK6a0_ok hl) (esEnK6a1_ok hl))) (Tr.allP_none Tr.allP_nil (Tr.allP_some ((EsOk.app (EsOk.app (EsOk.app (esEnK1a1_ok hl) (esEnK3a1_ok hl)) (esEnK4a0_ok hl)) (esEnK4a1_ok hl))) Tr.allP_nil Tr.allP_nil)) (Tr.allP_none (Tr.allP_none (Tr.allP_none (Tr.allP_none (Tr.allP_some ((esEnK0a5_ok hl)) Tr.allP_nil Tr.allP_nil) Tr.allP_nil) Tr.allP_nil) Tr.allP_nil) Tr.allP_nil)) (Tr.allP_none (Tr.allP_some ((EsOk.app (esEnK0a1_ok hl) (esEnK1a0_ok hl))) (Tr.allP_none Tr.allP_nil (Tr.allP_some ((EsOk.app (EsOk.app (EsOk.app (EsOk.app (esEnK0a3_ok hl) (esEnK2a1_ok hl)) (esEnK3a2_ok hl)) (esEnK3a3_ok hl)) (esEnK3a4_ok hl))) Tr.allP_nil Tr.allP_nil)) (Tr.allP_some ((esEnK1a2_ok hl)) (Tr.allP_none (Tr.allP_some ((EsOk.app (esEnK0a4_ok hl) (esEnK2a3_ok hl))) Tr.allP_nil Tr.allP_nil) (Tr.allP_some ((esEnK1a4_ok hl)) Tr.allP_nil Tr.allP_nil)) Tr.allP_nil)) (Tr.allP_none (Tr.allP_none (Tr.allP_none (Tr.allP_some ((esEnK1a3_ok hl)) Tr.allP_nil Tr.allP_nil) Tr.allP_nil) Tr.allP_nil) Tr.allP_nil))) (Tr.allP_none (Tr.allP_some ((esEnK6a2_ok hl)) (Tr.allP_some ((EsOk.app (EsOk.app (esEnK0a0_ok hl) (esEnK2a0_ok hl)) (esEnK3a0_ok hl))) Tr.allP_nil (Tr.allP_none (Tr.allP_none (Tr.allP_some ((esEnK2a2_ok hl)) Tr.allP_nil Tr.allP_nil) Tr.allP_nil) Tr.allP_nil)) (Tr.allP_none (Tr.allP_some ((esEnK0a2_ok hl)) Tr.allP_nil Tr.allP_nil) Tr.allP_nil)) (Tr.allP_none (Tr.allP_some ((esEnK5a0_ok hl)) (Tr.allP_none Tr.allP_nil (Tr.allP_none (Tr.allP_some ((esEnK2a4_ok hl)) Tr.allP_nil Tr.allP_nil) Tr.allP_nil)) Tr.allP_nil) Tr.allP_nil)))
end Ev
end Go.Proofs.YtipjmaimjchckaaGreatDoor

