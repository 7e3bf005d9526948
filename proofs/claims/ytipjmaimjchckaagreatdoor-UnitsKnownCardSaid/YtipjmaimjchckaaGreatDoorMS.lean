/- Calls that were reckoned, level 0 (printed by genents.py). -/
import Derived.Test.YtipjmaimjchckaaGreatDoorMF
import Derived.Test.YtipjmaimjchckaaGreatDoorMR
/-! Calls that were reckoned, level 0 (printed by genents.py). -/
set_option linter.unusedVariables false
set_option maxRecDepth 1000000
namespace Go.Proofs.YtipjmaimjchckaaGreatDoor
open Go.RowKit
namespace Ev
/-- circa/units.Holding: 395 operations. -/
def esEnK0a0 : List Entry := [⟨[(.v (.int .i64 (9223372036854775807))), (.v (.int .u8 (3)))], [], (.tup [(.agg [(.v (.int .i8 (0))), (.v (.int .i64 (9223372036854775807))), (.v (.int .i8 (0))), (.v (.int .i64 (9223372036854775807)))]), (.v (.int .i64 (0)))]), []⟩,
  ⟨[(.v (.int .i64 (-9223372036854775808))), (.v (.int .u8 (3)))], [], (.tup [(.agg [(.v (.int .i8 (0))), (.v (.int .i64 (-9223372036854775808))), (.v (.int .i8 (0))), (.v (.int .i64 (-9223372036854775808)))]), (.v (.int .i64 (0)))]), []⟩,
  ⟨[(.v (.int .i64 (-9223372036854775807))), (.v (.int .u8 (3)))], [], (.tup [(.agg [(.v (.int .i8 (0))), (.v (.int .i64 (-9223372036854775807))), (.v (.int .i8 (0))), (.v (.int .i64 (-9223372036854775807)))]), (.v (.int .i64 (0)))]), []⟩,
  ⟨[(.v (.int .i64 (5))), (.v (.int .u8 (0)))], [], (.tup [(.agg [(.v (.int .i8 (0))), (.v (.int .i64 (0))), (.v (.int .i8 (0))), (.v (.int .i64 (0)))]), (.v (.int .i64 (18)))]), []⟩,
  ⟨[(.v (.int .i64 (5))), (.v (.int .u8 (4)))], [], (.tup [(.agg [(.v (.int .i8 (0))), (.v (.int .i64 (0))), (.v (.int .i8 (0))), (.v (.int .i64 (0)))]), (.v (.int .i64 (18)))]), []⟩]
theorem esEnK0a0_made : madeE tbu (callM tbu .nil 100) hp 8 esEnK0a0 = true := by kernel_rfl
theorem esEnK0a0_ok {w0 : World} (hl : laidMet Tryz.prog Rows.unitsKnownRow.laid w0) : EsOk tbu w0 hp 8 esEnK0a0 := madeE_ok (tbu_ok w0) msOk_nil (startOk hl lay_ok hp_eq) esEnK0a0_made
/-- circa/circaref23.Holding: 186 operations. -/
def esEnK0a1 : List Entry := [⟨[(.v (.int .i64 (9223372036854775807))), (.v (.int .i64 (3)))], [], (.tup [(.agg [(.v (.int .i8 (0))), (.v (.int .i64 (9223372036854775807))), (.v (.int .i8 (0))), (.v (.int .i64 (9223372036854775807)))]), (.v (.int .i64 (0)))]), []⟩,
  ⟨[(.v (.int .i64 (-9223372036854775808))), (.v (.int .i64 (3)))], [], (.tup [(.agg [(.v (.int .i8 (0))), (.v (.int .i64 (-9223372036854775808))), (.v (.int .i8 (0))), (.v (.int .i64 (-9223372036854775808)))]), (.v (.int .i64 (0)))]), []⟩,
  ⟨[(.v (.int .i64 (5))), (.v (.int .i64 (0)))], [], (.tup [(.agg [(.v (.int .i8 (0))), (.v (.int .i64 (0))), (.v (.int .i8 (0))), (.v (.int .i64 (0)))]), (.v (.int .i64 (18)))]), []⟩,
  ⟨[(.v (.int .i64 (5))), (.v (.int .i64 (4)))], [], (.tup [(.agg [(.v (.int .i8 (0))), (.v (.int .i64 (0))), (.v (.int .i8 (0))), (.v (.int .i64 (0)))]), (.v (.int .i64 (18)))]), []⟩]
theorem esEnK0a1_made : madeE tbu (callM tbu .nil 100) hp 9 esEnK0a1 = true := by kernel_rfl
theorem esEnK0a1_ok {w0 : World} (hl : laidMet Tryz.prog Rows.unitsKnownRow.laid w0) : EsOk tbu w0 hp 9 esEnK0a1 := madeE_ok (tbu_ok w0) msOk_nil (startOk hl lay_ok hp_eq) esEnK0a1_made
/-- circa/circaref23.Start: 529 operations. -/
def esEnK0a2 : List Entry := [⟨[(.v (.int .i64 (-10000000000000000)))], [], (.v (.int .i64 (-3652425000000000000))), []⟩,
  ⟨[(.v (.int .i64 (10000000000000000)))], [], (.v (.int .i64 (3652425000000000000))), []⟩,
  ⟨[(.v (.int .i64 (-9999999999999999)))], [], (.v (.int .i64 (-3652424999999999634))), []⟩,
  ⟨[(.v (.int .i64 (10000000000000001)))], [], (.v (.int .i64 (3652425000000000366))), []⟩,
  ⟨[(.v (.int .i64 (9999999999999999)))], [], (.v (.int .i64 (3652424999999999635))), []⟩,
  ⟨[(.v (.int .i64 (1)))], [], (.v (.int .i64 (366))), []⟩,
  ⟨[(.v (.int .i64 (0)))], [], (.v (.int .i64 (0))), []⟩,
  ⟨[(.v (.int .i64 (1999)))], [], (.v (.int .i64 (730120))), []⟩]
theorem esEnK0a2_made : madeE tbu (callM tbu .nil 100) hp 20 esEnK0a2 = true := by kernel_rfl
theorem esEnK0a2_ok {w0 : World} (hl : laidMet Tryz.prog Rows.unitsKnownRow.laid w0) : EsOk tbu w0 hp 20 esEnK0a2 := madeE_ok (tbu_ok w0) msOk_nil (startOk hl lay_ok hp_eq) esEnK0a2_made
/-- circa/fillings.Check: 4732 operations. -/
def esEnK0a3 : List Entry := [⟨[(.agg [(.v (.bool false)), (.v (.bool false)), (.v (.string ⟨#[48, 48, 48, 48]⟩)), (.v (.int .i64 (0))), (.v (.int .i64 (0))), (.v (.string ⟨#[]⟩)), (.v (.string ⟨#[]⟩)), (.v (.int .u8 (0))), (.v (.int .u8 (0))), (.v (.int .u8 (0)))])], [], (.v (.int .i64 (0))), []⟩,
  ⟨[(.agg [(.v (.bool false)), (.v (.bool false)), (.v (.string ⟨#[48, 48, 48, 48]⟩)), (.v (.int .i64 (0))), (.v (.int .i64 (0))), (.v (.string ⟨#[48, 50]⟩)), (.v (.string ⟨#[]⟩)), (.v (.int .u8 (0))), (.v (.int .u8 (0))), (.v (.int .u8 (0)))])], [], (.v (.int .i64 (0))), []⟩,
  ⟨[(.agg [(.v (.bool true)), (.v (.bool false)), (.v (.string ⟨#[48, 48, 48, 49]⟩)), (.v (.int .i64 (0))), (.v (.int .i64 (0))), (.v (.string ⟨#[]⟩)), (.v (.string ⟨#[]⟩)), (.v (.int .u8 (0))), (.v (.int .u8 (0))), (.v (.int .u8 (0)))])], [], (.v (.int .i64 (0))), []⟩,
  ⟨[(.agg [(.v (.bool false)), (.v (.bool false)), (.v (.string ⟨#[48, 48, 48, 88]⟩)), (.v (.int .i64 (0))), (.v (.int .i64 (0))), (.v (.string ⟨#[]⟩)), (.v (.string ⟨#[]⟩)), (.v (.int .u8 (0))), (.v (.int .u8 (0))), (.v (.int .u8 (0)))])], [], (.v (.int .i64 (0))), []⟩,
  ⟨[(.agg [(.v (.bool true)), (.v (.bool true)), (.v (.string ⟨#[49]⟩)), (.v (.int .i64 (16))), (.v (.int .i64 (0))), (.v (.string ⟨#[]⟩)), (.v (.string ⟨#[]⟩)), (.v (.int .u8 (0))), (.v (.int .u8 (0))), (.v (.int .u8 (0)))])], [], (.v (.int .i64 (0))), []⟩]
theorem esEnK0a3_made : madeE tbu (callM tbu .nil 100) hp 49 esEnK0a3 = true := by kernel_rfl
theorem esEnK0a3_ok {w0 : World} (hl : laidMet Tryz.prog Rows.unitsKnownRow.laid w0) : EsOk tbu w0 hp 49 esEnK0a3 := madeE_ok (tbu_ok w0) msOk_nil (startOk hl lay_ok hp_eq) esEnK0a3_made
/-- circa/units.month: 302 operations. -/
def esEnK0a4 : List Entry := [⟨[(.v (.int .i64 (-120000000000000001)))], [], (.tup [(.v (.int .i64 (0))), (.v (.int .i64 (0))), (.v (.int .i64 (6)))]), []⟩,
  ⟨[(.v (.int .i64 (120000000000000012)))], [], (.tup [(.v (.int .i64 (0))), (.v (.int .i64 (0))), (.v (.int .i64 (6)))]), []⟩]
theorem esEnK0a4_made : madeE tbu (callM tbu .nil 100) hp 73 esEnK0a4 = true := by kernel_rfl
theorem esEnK0a4_ok {w0 : World} (hl : laidMet Tryz.prog Rows.unitsKnownRow.laid w0) : EsOk tbu w0 hp 73 esEnK0a4 := madeE_ok (tbu_ok w0) msOk_nil (startOk hl lay_ok hp_eq) esEnK0a4_made
/-- circa/years.before: 8120 operations. -/
def esEnK0a5 : List Entry := [⟨[(.v (.int .i64 (-10000000000000000)))], [], (.v (.int .i64 (-2425000000000000))), []⟩,
  ⟨[(.v (.int .i64 (-9999999999999999)))], [], (.v (.int .i64 (-2424999999999999))), []⟩,
  ⟨[(.v (.int .i64 (10000000000000000)))], [], (.v (.int .i64 (2425000000000000))), []⟩,
  ⟨[(.v (.int .i64 (10000000000000001)))], [], (.v (.int .i64 (2425000000000001))), []⟩,
  ⟨[(.v (.int .i64 (201)))], [], (.v (.int .i64 (49))), []⟩,
  ⟨[(.v (.int .i64 (101)))], [], (.v (.int .i64 (25))), []⟩,
  ⟨[(.v (.int .i64 (51)))], [], (.v (.int .i64 (13))), []⟩,
  ⟨[(.v (.int .i64 (26)))], [], (.v (.int .i64 (7))), []⟩,
  ⟨[(.v (.int .i64 (13)))], [], (.v (.int .i64 (4))), []⟩,
  ⟨[(.v (.int .i64 (7)))], [], (.v (.int .i64 (2))), []⟩,
  ⟨[(.v (.int .i64 (4)))], [], (.v (.int .i64 (1))), []⟩,
  ⟨[(.v (.int .i64 (2)))], [], (.v (.int .i64 (1))), []⟩,
  ⟨[(.v (.int .i64 (1)))], [], (.v (.int .i64 (1))), []⟩,
  ⟨[(.v (.int .i64 (-9999999999999998)))], [], (.v (.int .i64 (-2424999999999999))), []⟩,
  ⟨[(.v (.int .i64 (0)))], [], (.v (.int .i64 (0))), []⟩,
  ⟨[(.v (.int .i64 (-1)))], [], (.v (.int .i64 (0))), []⟩,
  ⟨[(.v (.int .i64 (301)))], [], (.v (.int .i64 (73))), []⟩,
  ⟨[(.v (.int .i64 (351)))], [], (.v (.int .i64 (85))), []⟩,
  ⟨[(.v (.int .i64 (376)))], [], (.v (.int .i64 (91))), []⟩,
  ⟨[(.v (.int .i64 (389)))], [], (.v (.int .i64 (95))), []⟩,
  ⟨[(.v (.int .i64 (395)))], [], (.v (.int .i64 (96))), []⟩,
  ⟨[(.v (.int .i64 (398)))], [], (.v (.int .i64 (97))), []⟩,
  ⟨[(.v (.int .i64 (400)))], [], (.v (.int .i64 (97))), []⟩,
  ⟨[(.v (.int .i64 (399)))], [], (.v (.int .i64 (97))), []⟩,
  ⟨[(.v (.int .i64 (3)))], [], (.v (.int .i64 (1))), []⟩,
  ⟨[(.v (.int .i64 (9999999999999999)))], [], (.v (.int .i64 (2425000000000000))), []⟩,
  ⟨[(.v (.int .i64 (151)))], [], (.v (.int .i64 (37))), []⟩,
  ⟨[(.v (.int .i64 (176)))], [], (.v (.int .i64 (43))), []⟩,
  ⟨[(.v (.int .i64 (164)))], [], (.v (.int .i64 (40))), []⟩,
  ⟨[(.v (.int .i64 (158)))], [], (.v (.int .i64 (39))), []⟩,
  ⟨[(.v (.int .i64 (155)))], [], (.v (.int .i64 (38))), []⟩,
  ⟨[(.v (.int .i64 (153)))], [], (.v (.int .i64 (38))), []⟩,
  ⟨[(.v (.int .i64 (154)))], [], (.v (.int .i64 (38))), []⟩,
  ⟨[(.v (.int .i64 (251)))], [], (.v (.int .i64 (61))), []⟩,
  ⟨[(.v (.int .i64 (226)))], [], (.v (.int .i64 (55))), []⟩,
  ⟨[(.v (.int .i64 (239)))], [], (.v (.int .i64 (58))), []⟩,
  ⟨[(.v (.int .i64 (245)))], [], (.v (.int .i64 (60))), []⟩,
  ⟨[(.v (.int .i64 (248)))], [], (.v (.int .i64 (60))), []⟩,
  ⟨[(.v (.int .i64 (247)))], [], (.v (.int .i64 (60))), []⟩,
  ⟨[(.v (.int .i64 (246)))], [], (.v (.int .i64 (60))), []⟩,
  ⟨[(.v (.int .i64 (1999)))], [], (.v (.int .i64 (485))), []⟩,
  ⟨[(.v (.int .i64 (2000)))], [], (.v (.int .i64 (485))), []⟩,
  ⟨[(.v (.int .i64 (2001)))], [], (.v (.int .i64 (486))), []⟩]
theorem esEnK0a5_made : madeE tbu (callM tbu .nil 100) hp 131 esEnK0a5 = true := by kernel_rfl
theorem esEnK0a5_ok {w0 : World} (hl : laidMet Tryz.prog Rows.unitsKnownRow.laid w0) : EsOk tbu w0 hp 131 esEnK0a5 := madeE_ok (tbu_ok w0) msOk_nil (startOk hl lay_ok hp_eq) esEnK0a5_made
end Ev
end Go.Proofs.YtipjmaimjchckaaGreatDoor

/-! Calls that were reckoned, level 1 (printed by genents.py). -/
set_option linter.unusedVariables false
set_option maxRecDepth 1000000
namespace Go.Proofs.YtipjmaimjchckaaGreatDoor
open Go.RowKit
namespace Ev
noncomputable def msEnK1 : Tr (List Entry) := (.node none (.node none (.node none .nil (.node none (.node none (.node none (.node none (.node (some (esEnK0a5)) .nil .nil) .nil) .nil) .nil) .nil)) (.node none (.node (some (esEnK0a1)) (.node none .nil (.node (some (esEnK0a3)) .nil .nil)) (.node none (.node none (.node (some (esEnK0a4)) .nil .nil) .nil) .nil)) .nil)) (.node none (.node none (.node (some (esEnK0a0)) .nil .nil) (.node none (.node (some (esEnK0a2)) .nil .nil) .nil)) .nil))
theorem msEnK1_ok {w0 : World} (hl : laidMet Tryz.prog Rows.unitsKnownRow.laid w0) : MsOk tbu w0 hp msEnK1 := msOk_all (Tr.allP_none (Tr.allP_none (Tr.allP_none Tr.allP_nil (Tr.allP_none (Tr.allP_none (Tr.allP_none (Tr.allP_none (Tr.allP_some ((esEnK0a5_ok hl)) Tr.allP_nil Tr.allP_nil) Tr.allP_nil) Tr.allP_nil) Tr.allP_nil) Tr.allP_nil)) (Tr.allP_none (Tr.allP_some ((esEnK0a1_ok hl)) (Tr.allP_none Tr.allP_nil (Tr.allP_some ((esEnK0a3_ok hl)) Tr.allP_nil Tr.allP_nil)) (Tr.allP_none (Tr.allP_none (Tr.allP_some ((esEnK0a4_ok hl)) Tr.allP_nil Tr.allP_nil) Tr.allP_nil) Tr.allP_nil)) Tr.allP_nil)) (Tr.allP_none (Tr.allP_none (Tr.allP_some ((esEnK0a0_ok hl)) Tr.allP_nil Tr.allP_nil) (Tr.allP_none (Tr.allP_some ((esEnK0a2_ok hl)) Tr.allP_nil Tr.allP_nil) Tr.allP_nil)) Tr.allP_nil))
end Ev
end Go.Proofs.YtipjmaimjchckaaGreatDoor

/-! Calls that were reckoned, level 1 (printed by genents.py). -/
set_option linter.unusedVariables false
set_option maxRecDepth 1000000
namespace Go.Proofs.YtipjmaimjchckaaGreatDoor
open Go.RowKit
namespace Ev
/-- circa/circaref23.Holding: 8118 operations. -/
def esEnK1a0 : List Entry := [⟨[(.v (.int .i64 (-3652425000000000000))), (.v (.int .i64 (1)))], [], (.tup [(.agg [(.v (.int .i8 (0))), (.v (.int .i64 (-3652425000000000000))), (.v (.int .i8 (0))), (.v (.int .i64 (-3652424999999999635)))]), (.v (.int .i64 (0)))]), []⟩,
  ⟨[(.v (.int .i64 (-3652425000000000001))), (.v (.int .i64 (1)))], [], (.tup [(.agg [(.v (.int .i8 (0))), (.v (.int .i64 (0))), (.v (.int .i8 (0))), (.v (.int .i64 (0)))]), (.v (.int .i64 (6)))]), []⟩,
  ⟨[(.v (.int .i64 (3652425000000000365))), (.v (.int .i64 (1)))], [], (.tup [(.agg [(.v (.int .i8 (0))), (.v (.int .i64 (3652425000000000000))), (.v (.int .i8 (0))), (.v (.int .i64 (3652425000000000365)))]), (.v (.int .i64 (0)))]), []⟩,
  ⟨[(.v (.int .i64 (3652425000000000000))), (.v (.int .i64 (1)))], [], (.tup [(.agg [(.v (.int .i8 (0))), (.v (.int .i64 (3652425000000000000))), (.v (.int .i8 (0))), (.v (.int .i64 (3652425000000000365)))]), (.v (.int .i64 (0)))]), []⟩,
  ⟨[(.v (.int .i64 (3652425000000000366))), (.v (.int .i64 (1)))], [], (.tup [(.agg [(.v (.int .i8 (0))), (.v (.int .i64 (0))), (.v (.int .i8 (0))), (.v (.int .i64 (0)))]), (.v (.int .i64 (6)))]), []⟩,
  ⟨[(.v (.int .i64 (9223372036854775807))), (.v (.int .i64 (1)))], [], (.tup [(.agg [(.v (.int .i8 (0))), (.v (.int .i64 (0))), (.v (.int .i8 (0))), (.v (.int .i64 (0)))]), (.v (.int .i64 (6)))]), []⟩,
  ⟨[(.v (.int .i64 (-9223372036854775808))), (.v (.int .i64 (1)))], [], (.tup [(.agg [(.v (.int .i8 (0))), (.v (.int .i64 (0))), (.v (.int .i8 (0))), (.v (.int .i64 (0)))]), (.v (.int .i64 (6)))]), []⟩,
  ⟨[(.v (.int .i64 (-3652425000000000000))), (.v (.int .i64 (2)))], [], (.tup [(.agg [(.v (.int .i8 (0))), (.v (.int .i64 (-3652425000000000000))), (.v (.int .i8 (0))), (.v (.int .i64 (-3652424999999999970)))]), (.v (.int .i64 (0)))]), []⟩,
  ⟨[(.v (.int .i64 (-3652425000000000001))), (.v (.int .i64 (2)))], [], (.tup [(.agg [(.v (.int .i8 (0))), (.v (.int .i64 (0))), (.v (.int .i8 (0))), (.v (.int .i64 (0)))]), (.v (.int .i64 (6)))]), []⟩,
  ⟨[(.v (.int .i64 (3652425000000000365))), (.v (.int .i64 (2)))], [], (.tup [(.agg [(.v (.int .i8 (0))), (.v (.int .i64 (3652425000000000335))), (.v (.int .i8 (0))), (.v (.int .i64 (3652425000000000365)))]), (.v (.int .i64 (0)))]), []⟩,
  ⟨[(.v (.int .i64 (3652425000000000335))), (.v (.int .i64 (2)))], [], (.tup [(.agg [(.v (.int .i8 (0))), (.v (.int .i64 (3652425000000000335))), (.v (.int .i8 (0))), (.v (.int .i64 (3652425000000000365)))]), (.v (.int .i64 (0)))]), []⟩,
  ⟨[(.v (.int .i64 (3652425000000000366))), (.v (.int .i64 (2)))], [], (.tup [(.agg [(.v (.int .i8 (0))), (.v (.int .i64 (0))), (.v (.int .i8 (0))), (.v (.int .i64 (0)))]), (.v (.int .i64 (6)))]), []⟩,
  ⟨[(.v (.int .i64 (9223372036854775807))), (.v (.int .i64 (2)))], [], (.tup [(.agg [(.v (.int .i8 (0))), (.v (.int .i64 (0))), (.v (.int .i8 (0))), (.v (.int .i64 (0)))]), (.v (.int .i64 (6)))]), []⟩,
  ⟨[(.v (.int .i64 (-9223372036854775808))), (.v (.int .i64 (2)))], [], (.tup [(.agg [(.v (.int .i8 (0))), (.v (.int .i64 (0))), (.v (.int .i8 (0))), (.v (.int .i64 (0)))]), (.v (.int .i64 (6)))]), []⟩,
  ⟨[(.v (.int .i64 (0))), (.v (.int .i64 (1)))], [], (.tup [(.agg [(.v (.int .i8 (0))), (.v (.int .i64 (0))), (.v (.int .i8 (0))), (.v (.int .i64 (365)))]), (.v (.int .i64 (0)))]), []⟩,
  ⟨[(.v (.int .i64 (0))), (.v (.int .i64 (2)))], [], (.tup [(.agg [(.v (.int .i8 (0))), (.v (.int .i64 (0))), (.v (.int .i8 (0))), (.v (.int .i64 (30)))]), (.v (.int .i64 (0)))]), []⟩]
theorem esEnK1a0_made : madeE tbu (callM tbu msEnK1 100) hp 9 esEnK1a0 = true := by kernel_rfl
theorem esEnK1a0_ok {w0 : World} (hl : laidMet Tryz.prog Rows.unitsKnownRow.laid w0) : EsOk tbu w0 hp 9 esEnK1a0 := madeE_ok (tbu_ok w0) (msEnK1_ok hl) (startOk hl lay_ok hp_eq) esEnK1a0_made
/-- circa/units.Of: 4214 operations. -/
def esEnK1a1 : List Entry := [⟨[(.agg [(.v (.bool false)), (.v (.bool false)), (.v (.string ⟨#[48, 48, 48, 48]⟩)), (.v (.int .i64 (0))), (.v (.int .i64 (0))), (.v (.string ⟨#[]⟩)), (.v (.string ⟨#[]⟩)), (.v (.int .u8 (0))), (.v (.int .u8 (0))), (.v (.int .u8 (0)))])], [], (.tup [(.agg [(.v (.int .i8 (0))), (.v (.int .i64 (0))), (.v (.int .i8 (0))), (.v (.int .i64 (365)))]), (.v (.int .i64 (0)))]), []⟩,
  ⟨[(.agg [(.v (.bool true)), (.v (.bool false)), (.v (.string ⟨#[48, 48, 48, 49]⟩)), (.v (.int .i64 (0))), (.v (.int .i64 (0))), (.v (.string ⟨#[]⟩)), (.v (.string ⟨#[]⟩)), (.v (.int .u8 (0))), (.v (.int .u8 (0))), (.v (.int .u8 (0)))])], [], (.tup [(.agg [(.v (.int .i8 (0))), (.v (.int .i64 (-365))), (.v (.int .i8 (0))), (.v (.int .i64 (-1)))]), (.v (.int .i64 (0)))]), []⟩,
  ⟨[(.agg [(.v (.bool false)), (.v (.bool false)), (.v (.string ⟨#[48, 48, 48, 88]⟩)), (.v (.int .i64 (0))), (.v (.int .i64 (0))), (.v (.string ⟨#[]⟩)), (.v (.string ⟨#[]⟩)), (.v (.int .u8 (0))), (.v (.int .u8 (0))), (.v (.int .u8 (0)))])], [], (.tup [(.agg [(.v (.int .i8 (0))), (.v (.int .i64 (0))), (.v (.int .i8 (0))), (.v (.int .i64 (0)))]), (.v (.int .i64 (1)))]), []⟩,
  ⟨[(.agg [(.v (.bool true)), (.v (.bool true)), (.v (.string ⟨#[49]⟩)), (.v (.int .i64 (16))), (.v (.int .i64 (0))), (.v (.string ⟨#[]⟩)), (.v (.string ⟨#[]⟩)), (.v (.int .u8 (0))), (.v (.int .u8 (0))), (.v (.int .u8 (0)))])], [], (.tup [(.agg [(.v (.int .i8 (0))), (.v (.int .i64 (-3652425000000000000))), (.v (.int .i8 (0))), (.v (.int .i64 (-3652424999999999635)))]), (.v (.int .i64 (0)))]), []⟩]
theorem esEnK1a1_made : madeE tbu (callM tbu msEnK1 100) hp 23 esEnK1a1 = true := by kernel_rfl
theorem esEnK1a1_ok {w0 : World} (hl : laidMet Tryz.prog Rows.unitsKnownRow.laid w0) : EsOk tbu w0 hp 23 esEnK1a1 := madeE_ok (tbu_ok w0) (msEnK1_ok hl) (startOk hl lay_ok hp_eq) esEnK1a1_made
/-- circa/circaref23.Season: 7933 operations. -/
def esEnK1a2 : List Entry := [⟨[(.v (.int .i64 (1999))), (.v (.int .i64 (21)))], [], (.agg [(.v (.int .i8 (0))), (.v (.int .i64 (730179))), (.v (.int .i8 (0))), (.v (.int .i64 (730270)))]), []⟩,
  ⟨[(.v (.int .i64 (1999))), (.v (.int .i64 (22)))], [], (.agg [(.v (.int .i8 (0))), (.v (.int .i64 (730271))), (.v (.int .i8 (0))), (.v (.int .i64 (730362)))]), []⟩,
  ⟨[(.v (.int .i64 (1999))), (.v (.int .i64 (23)))], [], (.agg [(.v (.int .i8 (0))), (.v (.int .i64 (730363))), (.v (.int .i8 (0))), (.v (.int .i64 (730453)))]), []⟩,
  ⟨[(.v (.int .i64 (1999))), (.v (.int .i64 (24)))], [], (.agg [(.v (.int .i8 (0))), (.v (.int .i64 (730454))), (.v (.int .i8 (0))), (.v (.int .i64 (730544)))]), []⟩,
  ⟨[(.v (.int .i64 (1999))), (.v (.int .i64 (25)))], [], (.agg [(.v (.int .i8 (0))), (.v (.int .i64 (730179))), (.v (.int .i8 (0))), (.v (.int .i64 (730270)))]), []⟩,
  ⟨[(.v (.int .i64 (1999))), (.v (.int .i64 (26)))], [], (.agg [(.v (.int .i8 (0))), (.v (.int .i64 (730271))), (.v (.int .i8 (0))), (.v (.int .i64 (730362)))]), []⟩,
  ⟨[(.v (.int .i64 (1999))), (.v (.int .i64 (27)))], [], (.agg [(.v (.int .i8 (0))), (.v (.int .i64 (730363))), (.v (.int .i8 (0))), (.v (.int .i64 (730453)))]), []⟩,
  ⟨[(.v (.int .i64 (1999))), (.v (.int .i64 (28)))], [], (.agg [(.v (.int .i8 (0))), (.v (.int .i64 (730454))), (.v (.int .i8 (0))), (.v (.int .i64 (730544)))]), []⟩,
  ⟨[(.v (.int .i64 (1999))), (.v (.int .i64 (29)))], [], (.agg [(.v (.int .i8 (0))), (.v (.int .i64 (730363))), (.v (.int .i8 (0))), (.v (.int .i64 (730453)))]), []⟩,
  ⟨[(.v (.int .i64 (1999))), (.v (.int .i64 (30)))], [], (.agg [(.v (.int .i8 (0))), (.v (.int .i64 (730454))), (.v (.int .i8 (0))), (.v (.int .i64 (730544)))]), []⟩,
  ⟨[(.v (.int .i64 (1999))), (.v (.int .i64 (31)))], [], (.agg [(.v (.int .i8 (0))), (.v (.int .i64 (730179))), (.v (.int .i8 (0))), (.v (.int .i64 (730270)))]), []⟩,
  ⟨[(.v (.int .i64 (1999))), (.v (.int .i64 (32)))], [], (.agg [(.v (.int .i8 (0))), (.v (.int .i64 (730271))), (.v (.int .i8 (0))), (.v (.int .i64 (730362)))]), []⟩,
  ⟨[(.v (.int .i64 (1999))), (.v (.int .i64 (33)))], [], (.agg [(.v (.int .i8 (0))), (.v (.int .i64 (730120))), (.v (.int .i8 (0))), (.v (.int .i64 (730209)))]), []⟩,
  ⟨[(.v (.int .i64 (1999))), (.v (.int .i64 (34)))], [], (.agg [(.v (.int .i8 (0))), (.v (.int .i64 (730210))), (.v (.int .i8 (0))), (.v (.int .i64 (730300)))]), []⟩,
  ⟨[(.v (.int .i64 (1999))), (.v (.int .i64 (35)))], [], (.agg [(.v (.int .i8 (0))), (.v (.int .i64 (730301))), (.v (.int .i8 (0))), (.v (.int .i64 (730392)))]), []⟩,
  ⟨[(.v (.int .i64 (1999))), (.v (.int .i64 (36)))], [], (.agg [(.v (.int .i8 (0))), (.v (.int .i64 (730393))), (.v (.int .i8 (0))), (.v (.int .i64 (730484)))]), []⟩,
  ⟨[(.v (.int .i64 (1999))), (.v (.int .i64 (37)))], [], (.agg [(.v (.int .i8 (0))), (.v (.int .i64 (730120))), (.v (.int .i8 (0))), (.v (.int .i64 (730239)))]), []⟩,
  ⟨[(.v (.int .i64 (1999))), (.v (.int .i64 (38)))], [], (.agg [(.v (.int .i8 (0))), (.v (.int .i64 (730240))), (.v (.int .i8 (0))), (.v (.int .i64 (730362)))]), []⟩,
  ⟨[(.v (.int .i64 (1999))), (.v (.int .i64 (39)))], [], (.agg [(.v (.int .i8 (0))), (.v (.int .i64 (730363))), (.v (.int .i8 (0))), (.v (.int .i64 (730484)))]), []⟩,
  ⟨[(.v (.int .i64 (1999))), (.v (.int .i64 (40)))], [], (.agg [(.v (.int .i8 (0))), (.v (.int .i64 (730120))), (.v (.int .i8 (0))), (.v (.int .i64 (730300)))]), []⟩,
  ⟨[(.v (.int .i64 (1999))), (.v (.int .i64 (41)))], [], (.agg [(.v (.int .i8 (0))), (.v (.int .i64 (730301))), (.v (.int .i8 (0))), (.v (.int .i64 (730484)))]), []⟩]
theorem esEnK1a2_made : madeE tbu (callM tbu msEnK1 100) hp 25 esEnK1a2 = true := by kernel_rfl
theorem esEnK1a2_ok {w0 : World} (hl : laidMet Tryz.prog Rows.unitsKnownRow.laid w0) : EsOk tbu w0 hp 25 esEnK1a2 := madeE_ok (tbu_ok w0) (msEnK1_ok hl) (startOk hl lay_ok hp_eq) esEnK1a2_made
/-- circa/years.Of: 7724 operations. -/
def esEnK1a3 : List Entry := [⟨[(.v (.int .i64 (-3652425000000000000)))], [], (.tup [(.v (.int .i64 (-10000000000000000))), (.v (.int .i64 (0)))]), []⟩,
  ⟨[(.v (.int .i64 (-3652424999999999634)))], [], (.tup [(.v (.int .i64 (-9999999999999999))), (.v (.int .i64 (0)))]), []⟩,
  ⟨[(.v (.int .i64 (59)))], [], (.tup [(.v (.int .i64 (0))), (.v (.int .i64 (0)))]), []⟩,
  ⟨[(.v (.int .i64 (60)))], [], (.tup [(.v (.int .i64 (0))), (.v (.int .i64 (0)))]), []⟩,
  ⟨[(.v (.int .i64 (-1)))], [], (.tup [(.v (.int .i64 (-1))), (.v (.int .i64 (0)))]), []⟩,
  ⟨[(.v (.int .i64 (31)))], [], (.tup [(.v (.int .i64 (0))), (.v (.int .i64 (0)))]), []⟩,
  ⟨[(.v (.int .i64 (0)))], [], (.tup [(.v (.int .i64 (0))), (.v (.int .i64 (0)))]), []⟩,
  ⟨[(.v (.int .i64 (-365)))], [], (.tup [(.v (.int .i64 (-1))), (.v (.int .i64 (0)))]), []⟩,
  ⟨[(.v (.int .i64 (-3652425000000000001)))], [], (.tup [(.v (.int .i64 (0))), (.v (.int .i64 (6)))]), []⟩,
  ⟨[(.v (.int .i64 (3652425000000000365)))], [], (.tup [(.v (.int .i64 (10000000000000000))), (.v (.int .i64 (0)))]), []⟩,
  ⟨[(.v (.int .i64 (3652425000000000000)))], [], (.tup [(.v (.int .i64 (10000000000000000))), (.v (.int .i64 (0)))]), []⟩,
  ⟨[(.v (.int .i64 (3652425000000000366)))], [], (.tup [(.v (.int .i64 (0))), (.v (.int .i64 (6)))]), []⟩,
  ⟨[(.v (.int .i64 (9223372036854775807)))], [], (.tup [(.v (.int .i64 (0))), (.v (.int .i64 (6)))]), []⟩,
  ⟨[(.v (.int .i64 (-9223372036854775808)))], [], (.tup [(.v (.int .i64 (0))), (.v (.int .i64 (6)))]), []⟩,
  ⟨[(.v (.int .i64 (-3652424999999999969)))], [], (.tup [(.v (.int .i64 (-10000000000000000))), (.v (.int .i64 (0)))]), []⟩,
  ⟨[(.v (.int .i64 (3652425000000000335)))], [], (.tup [(.v (.int .i64 (10000000000000000))), (.v (.int .i64 (0)))]), []⟩]
theorem esEnK1a3_made : madeE tbu (callM tbu msEnK1 100) hp 69 esEnK1a3 = true := by kernel_rfl
theorem esEnK1a3_ok {w0 : World} (hl : laidMet Tryz.prog Rows.unitsKnownRow.laid w0) : EsOk tbu w0 hp 69 esEnK1a3 := madeE_ok (tbu_ok w0) (msEnK1_ok hl) (startOk hl lay_ok hp_eq) esEnK1a3_made
/-- circa/months.length: 3853 operations. -/
def esEnK1a4 : List Entry := [⟨[(.v (.int .i64 (0))), (.v (.int .i64 (1)))], [], (.v (.int .i64 (31))), []⟩,
  ⟨[(.v (.int .i64 (0))), (.v (.int .i64 (2)))], [], (.v (.int .i64 (29))), []⟩,
  ⟨[(.v (.int .i64 (1))), (.v (.int .i64 (1)))], [], (.v (.int .i64 (31))), []⟩,
  ⟨[(.v (.int .i64 (0))), (.v (.int .i64 (3)))], [], (.v (.int .i64 (31))), []⟩,
  ⟨[(.v (.int .i64 (0))), (.v (.int .i64 (4)))], [], (.v (.int .i64 (30))), []⟩,
  ⟨[(.v (.int .i64 (0))), (.v (.int .i64 (5)))], [], (.v (.int .i64 (31))), []⟩,
  ⟨[(.v (.int .i64 (0))), (.v (.int .i64 (6)))], [], (.v (.int .i64 (30))), []⟩,
  ⟨[(.v (.int .i64 (0))), (.v (.int .i64 (7)))], [], (.v (.int .i64 (31))), []⟩,
  ⟨[(.v (.int .i64 (0))), (.v (.int .i64 (8)))], [], (.v (.int .i64 (31))), []⟩,
  ⟨[(.v (.int .i64 (0))), (.v (.int .i64 (9)))], [], (.v (.int .i64 (30))), []⟩,
  ⟨[(.v (.int .i64 (0))), (.v (.int .i64 (10)))], [], (.v (.int .i64 (31))), []⟩,
  ⟨[(.v (.int .i64 (0))), (.v (.int .i64 (11)))], [], (.v (.int .i64 (30))), []⟩,
  ⟨[(.v (.int .i64 (1))), (.v (.int .i64 (2)))], [], (.v (.int .i64 (28))), []⟩,
  ⟨[(.v (.int .i64 (-1))), (.v (.int .i64 (1)))], [], (.v (.int .i64 (31))), []⟩,
  ⟨[(.v (.int .i64 (-1))), (.v (.int .i64 (2)))], [], (.v (.int .i64 (28))), []⟩,
  ⟨[(.v (.int .i64 (-1))), (.v (.int .i64 (3)))], [], (.v (.int .i64 (31))), []⟩,
  ⟨[(.v (.int .i64 (-1))), (.v (.int .i64 (4)))], [], (.v (.int .i64 (30))), []⟩,
  ⟨[(.v (.int .i64 (-1))), (.v (.int .i64 (5)))], [], (.v (.int .i64 (31))), []⟩,
  ⟨[(.v (.int .i64 (-1))), (.v (.int .i64 (6)))], [], (.v (.int .i64 (30))), []⟩,
  ⟨[(.v (.int .i64 (-1))), (.v (.int .i64 (7)))], [], (.v (.int .i64 (31))), []⟩,
  ⟨[(.v (.int .i64 (-1))), (.v (.int .i64 (8)))], [], (.v (.int .i64 (31))), []⟩,
  ⟨[(.v (.int .i64 (-1))), (.v (.int .i64 (9)))], [], (.v (.int .i64 (30))), []⟩,
  ⟨[(.v (.int .i64 (-1))), (.v (.int .i64 (10)))], [], (.v (.int .i64 (31))), []⟩,
  ⟨[(.v (.int .i64 (-1))), (.v (.int .i64 (11)))], [], (.v (.int .i64 (30))), []⟩,
  ⟨[(.v (.int .i64 (-1))), (.v (.int .i64 (12)))], [], (.v (.int .i64 (31))), []⟩,
  ⟨[(.v (.int .i64 (-10000000000000000))), (.v (.int .i64 (1)))], [], (.v (.int .i64 (31))), []⟩,
  ⟨[(.v (.int .i64 (-10000000000000000))), (.v (.int .i64 (2)))], [], (.v (.int .i64 (29))), []⟩,
  ⟨[(.v (.int .i64 (10000000000000000))), (.v (.int .i64 (1)))], [], (.v (.int .i64 (31))), []⟩,
  ⟨[(.v (.int .i64 (10000000000000000))), (.v (.int .i64 (2)))], [], (.v (.int .i64 (29))), []⟩,
  ⟨[(.v (.int .i64 (10000000000000000))), (.v (.int .i64 (3)))], [], (.v (.int .i64 (31))), []⟩,
  ⟨[(.v (.int .i64 (10000000000000000))), (.v (.int .i64 (4)))], [], (.v (.int .i64 (30))), []⟩,
  ⟨[(.v (.int .i64 (10000000000000000))), (.v (.int .i64 (5)))], [], (.v (.int .i64 (31))), []⟩,
  ⟨[(.v (.int .i64 (10000000000000000))), (.v (.int .i64 (6)))], [], (.v (.int .i64 (30))), []⟩,
  ⟨[(.v (.int .i64 (10000000000000000))), (.v (.int .i64 (7)))], [], (.v (.int .i64 (31))), []⟩,
  ⟨[(.v (.int .i64 (10000000000000000))), (.v (.int .i64 (8)))], [], (.v (.int .i64 (31))), []⟩,
  ⟨[(.v (.int .i64 (10000000000000000))), (.v (.int .i64 (9)))], [], (.v (.int .i64 (30))), []⟩,
  ⟨[(.v (.int .i64 (10000000000000000))), (.v (.int .i64 (10)))], [], (.v (.int .i64 (31))), []⟩,
  ⟨[(.v (.int .i64 (10000000000000000))), (.v (.int .i64 (11)))], [], (.v (.int .i64 (30))), []⟩,
  ⟨[(.v (.int .i64 (10000000000000000))), (.v (.int .i64 (12)))], [], (.v (.int .i64 (31))), []⟩,
  ⟨[(.v (.int .i64 (1999))), (.v (.int .i64 (1)))], [], (.v (.int .i64 (31))), []⟩,
  ⟨[(.v (.int .i64 (1999))), (.v (.int .i64 (2)))], [], (.v (.int .i64 (28))), []⟩,
  ⟨[(.v (.int .i64 (1999))), (.v (.int .i64 (3)))], [], (.v (.int .i64 (31))), []⟩,
  ⟨[(.v (.int .i64 (1999))), (.v (.int .i64 (4)))], [], (.v (.int .i64 (30))), []⟩,
  ⟨[(.v (.int .i64 (1999))), (.v (.int .i64 (5)))], [], (.v (.int .i64 (31))), []⟩,
  ⟨[(.v (.int .i64 (1999))), (.v (.int .i64 (6)))], [], (.v (.int .i64 (30))), []⟩,
  ⟨[(.v (.int .i64 (1999))), (.v (.int .i64 (7)))], [], (.v (.int .i64 (31))), []⟩,
  ⟨[(.v (.int .i64 (1999))), (.v (.int .i64 (8)))], [], (.v (.int .i64 (31))), []⟩,
  ⟨[(.v (.int .i64 (1999))), (.v (.int .i64 (9)))], [], (.v (.int .i64 (30))), []⟩,
  ⟨[(.v (.int .i64 (1999))), (.v (.int .i64 (10)))], [], (.v (.int .i64 (31))), []⟩,
  ⟨[(.v (.int .i64 (1999))), (.v (.int .i64 (11)))], [], (.v (.int .i64 (30))), []⟩,
  ⟨[(.v (.int .i64 (2000))), (.v (.int .i64 (1)))], [], (.v (.int .i64 (31))), []⟩,
  ⟨[(.v (.int .i64 (2000))), (.v (.int .i64 (2)))], [], (.v (.int .i64 (29))), []⟩,
  ⟨[(.v (.int .i64 (1999))), (.v (.int .i64 (12)))], [], (.v (.int .i64 (31))), []⟩]
theorem esEnK1a4_made : madeE tbu (callM tbu msEnK1 100) hp 105 esEnK1a4 = true := by kernel_rfl
theorem esEnK1a4_ok {w0 : World} (hl : laidMet Tryz.prog Rows.unitsKnownRow.laid w0) : EsOk tbu w0 hp 105 esEnK1a4 := madeE_ok (tbu_ok w0) (msEnK1_ok hl) (startOk hl lay_ok hp_eq) esEnK1a4_made
end Ev
end Go.Proofs.YtipjmaimjchckaaGreatDoor

/-! Calls that were reckoned, level 2 (printed by genents.py). -/
set_option linter.unusedVariables false
set_option maxRecDepth 1000000
namespace Go.Proofs.YtipjmaimjchckaaGreatDoor
open Go.RowKit
namespace Ev
noncomputable def msEnK2 : Tr (List Entry) := (.node none (.node none (.node none (.node none .nil (.node (some (esEnK1a1)) .nil .nil)) (.node none (.node none (.node none (.node none (.node (some (esEnK0a5)) .nil .nil) .nil) .nil) .nil) .nil)) (.node none (.node (some ((esEnK0a1 ++ esEnK1a0))) (.node none .nil (.node (some (esEnK0a3)) .nil .nil)) (.node (some (esEnK1a2)) (.node none (.node (some (esEnK0a4)) .nil .nil) (.node (some (esEnK1a4)) .nil .nil)) .nil)) (.node none (.node none (.node none (.node (some (esEnK1a3)) .nil .nil) .nil) .nil) .nil))) (.node none (.node none (.node (some (esEnK0a0)) .nil .nil) (.node none (.node (some (esEnK0a2)) .nil .nil) .nil)) .nil))
theorem msEnK2_ok {w0 : World} (hl : laidMet Tryz.prog Rows.unitsKnownRow.laid w0) : MsOk tbu w0 hp msEnK2 := msOk_all (Tr.allP_none (Tr.allP_none (Tr.allP_none (Tr.allP_none Tr.allP_nil (Tr.allP_some ((esEnK1a1_ok hl)) Tr.allP_nil Tr.allP_nil)) (Tr.allP_none (Tr.allP_none (Tr.allP_none (Tr.allP_none (Tr.allP_some ((esEnK0a5_ok hl)) Tr.allP_nil Tr.allP_nil) Tr.allP_nil) Tr.allP_nil) Tr.allP_nil) Tr.allP_nil)) (Tr.allP_none (Tr.allP_some ((EsOk.app (esEnK0a1_ok hl) (esEnK1a0_ok hl))) (Tr.allP_none Tr.allP_nil (Tr.allP_some ((esEnK0a3_ok hl)) Tr.allP_nil Tr.allP_nil)) (Tr.allP_some ((esEnK1a2_ok hl)) (Tr.allP_none (Tr.allP_some ((esEnK0a4_ok hl)) Tr.allP_nil Tr.allP_nil) (Tr.allP_some ((esEnK1a4_ok hl)) Tr.allP_nil Tr.allP_nil)) Tr.allP_nil)) (Tr.allP_none (Tr.allP_none (Tr.allP_none (Tr.allP_some ((esEnK1a3_ok hl)) Tr.allP_nil Tr.allP_nil) Tr.allP_nil) Tr.allP_nil) Tr.allP_nil))) (Tr.allP_none (Tr.allP_none (Tr.allP_some ((esEnK0a0_ok hl)) Tr.allP_nil Tr.allP_nil) (Tr.allP_none (Tr.allP_some ((esEnK0a2_ok hl)) Tr.allP_nil Tr.allP_nil) Tr.allP_nil)) Tr.allP_nil))
end Ev
end Go.Proofs.YtipjmaimjchckaaGreatDoor

/-! Calls that were reckoned, level 2 (printed by genents.py). -/
set_option linter.unusedVariables false
set_option maxRecDepth 1000000
namespace Go.Proofs.YtipjmaimjchckaaGreatDoor
open Go.RowKit
namespace Ev
/-- circa/units.Holding: 1575 operations. -/
def esEnK2a0 : List Entry := [⟨[(.v (.int .i64 (-3652425000000000000))), (.v (.int .u8 (1)))], [], (.tup [(.agg [(.v (.int .i8 (0))), (.v (.int .i64 (-3652425000000000000))), (.v (.int .i8 (0))), (.v (.int .i64 (-3652424999999999635)))]), (.v (.int .i64 (0)))]), []⟩,
  ⟨[(.v (.int .i64 (-3652424999999999634))), (.v (.int .u8 (1)))], [], (.tup [(.agg [(.v (.int .i8 (0))), (.v (.int .i64 (-3652424999999999634))), (.v (.int .i8 (0))), (.v (.int .i64 (-3652424999999999270)))]), (.v (.int .i64 (0)))]), []⟩,
  ⟨[(.v (.int .i64 (60))), (.v (.int .u8 (1)))], [], (.tup [(.agg [(.v (.int .i8 (0))), (.v (.int .i64 (0))), (.v (.int .i8 (0))), (.v (.int .i64 (365)))]), (.v (.int .i64 (0)))]), []⟩,
  ⟨[(.v (.int .i64 (0))), (.v (.int .u8 (1)))], [], (.tup [(.agg [(.v (.int .i8 (0))), (.v (.int .i64 (0))), (.v (.int .i8 (0))), (.v (.int .i64 (365)))]), (.v (.int .i64 (0)))]), []⟩,
  ⟨[(.v (.int .i64 (-365))), (.v (.int .u8 (1)))], [], (.tup [(.agg [(.v (.int .i8 (0))), (.v (.int .i64 (-365))), (.v (.int .i8 (0))), (.v (.int .i64 (-1)))]), (.v (.int .i64 (0)))]), []⟩,
  ⟨[(.v (.int .i64 (-3652425000000000001))), (.v (.int .u8 (1)))], [], (.tup [(.agg [(.v (.int .i8 (0))), (.v (.int .i64 (0))), (.v (.int .i8 (0))), (.v (.int .i64 (0)))]), (.v (.int .i64 (6)))]), []⟩,
  ⟨[(.v (.int .i64 (3652425000000000365))), (.v (.int .u8 (1)))], [], (.tup [(.agg [(.v (.int .i8 (0))), (.v (.int .i64 (3652425000000000000))), (.v (.int .i8 (0))), (.v (.int .i64 (3652425000000000365)))]), (.v (.int .i64 (0)))]), []⟩,
  ⟨[(.v (.int .i64 (3652425000000000000))), (.v (.int .u8 (1)))], [], (.tup [(.agg [(.v (.int .i8 (0))), (.v (.int .i64 (3652425000000000000))), (.v (.int .i8 (0))), (.v (.int .i64 (3652425000000000365)))]), (.v (.int .i64 (0)))]), []⟩,
  ⟨[(.v (.int .i64 (3652425000000000366))), (.v (.int .u8 (1)))], [], (.tup [(.agg [(.v (.int .i8 (0))), (.v (.int .i64 (0))), (.v (.int .i8 (0))), (.v (.int .i64 (0)))]), (.v (.int .i64 (6)))]), []⟩,
  ⟨[(.v (.int .i64 (9223372036854775807))), (.v (.int .u8 (1)))], [], (.tup [(.agg [(.v (.int .i8 (0))), (.v (.int .i64 (0))), (.v (.int .i8 (0))), (.v (.int .i64 (0)))]), (.v (.int .i64 (6)))]), []⟩,
  ⟨[(.v (.int .i64 (-9223372036854775808))), (.v (.int .u8 (1)))], [], (.tup [(.agg [(.v (.int .i8 (0))), (.v (.int .i64 (0))), (.v (.int .i8 (0))), (.v (.int .i64 (0)))]), (.v (.int .i64 (6)))]), []⟩]
theorem esEnK2a0_made : madeE tbu (callM tbu msEnK2 100) hp 8 esEnK2a0 = true := by kernel_rfl
theorem esEnK2a0_ok {w0 : World} (hl : laidMet Tryz.prog Rows.unitsKnownRow.laid w0) : EsOk tbu w0 hp 8 esEnK2a0 := madeE_ok (tbu_ok w0) (msEnK2_ok hl) (startOk hl lay_ok hp_eq) esEnK2a0_made
/-- circa/fillings.Check: 3786 operations. -/
def esEnK2a1 : List Entry := [⟨[(.agg [(.v (.bool false)), (.v (.bool false)), (.v (.string ⟨#[48, 48, 48, 49]⟩)), (.v (.int .i64 (0))), (.v (.int .i64 (0))), (.v (.string ⟨#[48, 49]⟩)), (.v (.string ⟨#[48, 49]⟩)), (.v (.int .u8 (0))), (.v (.int .u8 (0))), (.v (.int .u8 (0)))])], [], (.v (.int .i64 (0))), []⟩]
theorem esEnK2a1_made : madeE tbu (callM tbu msEnK2 100) hp 49 esEnK2a1 = true := by kernel_rfl
theorem esEnK2a1_ok {w0 : World} (hl : laidMet Tryz.prog Rows.unitsKnownRow.laid w0) : EsOk tbu w0 hp 49 esEnK2a1 := madeE_ok (tbu_ok w0) (msEnK2_ok hl) (startOk hl lay_ok hp_eq) esEnK2a1_made
/-- circa/months.Of: 1636 operations. -/
def esEnK2a2 : List Entry := [⟨[(.v (.int .i64 (59)))], [], (.tup [(.v (.int .i64 (0))), (.v (.int .i64 (2))), (.v (.int .i64 (0)))]), []⟩,
  ⟨[(.v (.int .i64 (-1)))], [], (.tup [(.v (.int .i64 (-1))), (.v (.int .i64 (12))), (.v (.int .i64 (0)))]), []⟩,
  ⟨[(.v (.int .i64 (31)))], [], (.tup [(.v (.int .i64 (0))), (.v (.int .i64 (2))), (.v (.int .i64 (0)))]), []⟩,
  ⟨[(.v (.int .i64 (-3652425000000000000)))], [], (.tup [(.v (.int .i64 (-10000000000000000))), (.v (.int .i64 (1))), (.v (.int .i64 (0)))]), []⟩,
  ⟨[(.v (.int .i64 (-3652424999999999969)))], [], (.tup [(.v (.int .i64 (-10000000000000000))), (.v (.int .i64 (2))), (.v (.int .i64 (0)))]), []⟩,
  ⟨[(.v (.int .i64 (-3652425000000000001)))], [], (.tup [(.v (.int .i64 (0))), (.v (.int .i64 (0))), (.v (.int .i64 (6)))]), []⟩,
  ⟨[(.v (.int .i64 (3652425000000000365)))], [], (.tup [(.v (.int .i64 (10000000000000000))), (.v (.int .i64 (12))), (.v (.int .i64 (0)))]), []⟩,
  ⟨[(.v (.int .i64 (3652425000000000335)))], [], (.tup [(.v (.int .i64 (10000000000000000))), (.v (.int .i64 (12))), (.v (.int .i64 (0)))]), []⟩,
  ⟨[(.v (.int .i64 (3652425000000000366)))], [], (.tup [(.v (.int .i64 (0))), (.v (.int .i64 (0))), (.v (.int .i64 (6)))]), []⟩,
  ⟨[(.v (.int .i64 (9223372036854775807)))], [], (.tup [(.v (.int .i64 (0))), (.v (.int .i64 (0))), (.v (.int .i64 (6)))]), []⟩,
  ⟨[(.v (.int .i64 (-9223372036854775808)))], [], (.tup [(.v (.int .i64 (0))), (.v (.int .i64 (0))), (.v (.int .i64 (6)))]), []⟩,
  ⟨[(.v (.int .i64 (0)))], [], (.tup [(.v (.int .i64 (0))), (.v (.int .i64 (1))), (.v (.int .i64 (0)))]), []⟩]
theorem esEnK2a2_made : madeE tbu (callM tbu msEnK2 100) hp 72 esEnK2a2 = true := by kernel_rfl
theorem esEnK2a2_ok {w0 : World} (hl : laidMet Tryz.prog Rows.unitsKnownRow.laid w0) : EsOk tbu w0 hp 72 esEnK2a2 := madeE_ok (tbu_ok w0) (msEnK2_ok hl) (startOk hl lay_ok hp_eq) esEnK2a2_made
/-- circa/units.month: 3135 operations. -/
def esEnK2a3 : List Entry := [⟨[(.v (.int .i64 (1)))], [], (.tup [(.v (.int .i64 (31))), (.v (.int .i64 (59))), (.v (.int .i64 (0)))]), []⟩,
  ⟨[(.v (.int .i64 (12)))], [], (.tup [(.v (.int .i64 (366))), (.v (.int .i64 (396))), (.v (.int .i64 (0)))]), []⟩,
  ⟨[(.v (.int .i64 (-1)))], [], (.tup [(.v (.int .i64 (-31))), (.v (.int .i64 (-1))), (.v (.int .i64 (0)))]), []⟩,
  ⟨[(.v (.int .i64 (2)))], [], (.tup [(.v (.int .i64 (60))), (.v (.int .i64 (90))), (.v (.int .i64 (0)))]), []⟩,
  ⟨[(.v (.int .i64 (-120000000000000000)))], [], (.tup [(.v (.int .i64 (-3652425000000000000))), (.v (.int .i64 (-3652424999999999970))), (.v (.int .i64 (0)))]), []⟩,
  ⟨[(.v (.int .i64 (-119999999999999999)))], [], (.tup [(.v (.int .i64 (-3652424999999999969))), (.v (.int .i64 (-3652424999999999941))), (.v (.int .i64 (0)))]), []⟩,
  ⟨[(.v (.int .i64 (120000000000000011)))], [], (.tup [(.v (.int .i64 (3652425000000000335))), (.v (.int .i64 (3652425000000000365))), (.v (.int .i64 (0)))]), []⟩,
  ⟨[(.v (.int .i64 (120000000000000010)))], [], (.tup [(.v (.int .i64 (3652425000000000305))), (.v (.int .i64 (3652425000000000334))), (.v (.int .i64 (0)))]), []⟩,
  ⟨[(.v (.int .i64 (0)))], [], (.tup [(.v (.int .i64 (0))), (.v (.int .i64 (30))), (.v (.int .i64 (0)))]), []⟩]
theorem esEnK2a3_made : madeE tbu (callM tbu msEnK2 100) hp 73 esEnK2a3 = true := by kernel_rfl
theorem esEnK2a3_ok {w0 : World} (hl : laidMet Tryz.prog Rows.unitsKnownRow.laid w0) : EsOk tbu w0 hp 73 esEnK2a3 := madeE_ok (tbu_ok w0) (msEnK2_ok hl) (startOk hl lay_ok hp_eq) esEnK2a3_made
/-- circa/seasons.Run: 12489 operations. -/
def esEnK2a4 : List Entry := [⟨[(.v (.int .i64 (0))), (.v (.int .i64 (24)))], [], (.tup [(.agg [(.v (.int .i8 (0))), (.v (.int .i64 (335))), (.v (.int .i8 (0))), (.v (.int .i64 (424)))]), (.v (.int .i64 (0)))]), []⟩,
  ⟨[(.v (.int .i64 (1999))), (.v (.int .i64 (21)))], [], (.tup [(.agg [(.v (.int .i8 (0))), (.v (.int .i64 (730179))), (.v (.int .i8 (0))), (.v (.int .i64 (730270)))]), (.v (.int .i64 (0)))]), []⟩,
  ⟨[(.v (.int .i64 (1999))), (.v (.int .i64 (22)))], [], (.tup [(.agg [(.v (.int .i8 (0))), (.v (.int .i64 (730271))), (.v (.int .i8 (0))), (.v (.int .i64 (730362)))]), (.v (.int .i64 (0)))]), []⟩,
  ⟨[(.v (.int .i64 (1999))), (.v (.int .i64 (23)))], [], (.tup [(.agg [(.v (.int .i8 (0))), (.v (.int .i64 (730363))), (.v (.int .i8 (0))), (.v (.int .i64 (730453)))]), (.v (.int .i64 (0)))]), []⟩,
  ⟨[(.v (.int .i64 (1999))), (.v (.int .i64 (24)))], [], (.tup [(.agg [(.v (.int .i8 (0))), (.v (.int .i64 (730454))), (.v (.int .i8 (0))), (.v (.int .i64 (730544)))]), (.v (.int .i64 (0)))]), []⟩,
  ⟨[(.v (.int .i64 (1999))), (.v (.int .i64 (25)))], [], (.tup [(.agg [(.v (.int .i8 (0))), (.v (.int .i64 (730179))), (.v (.int .i8 (0))), (.v (.int .i64 (730270)))]), (.v (.int .i64 (0)))]), []⟩,
  ⟨[(.v (.int .i64 (1999))), (.v (.int .i64 (26)))], [], (.tup [(.agg [(.v (.int .i8 (0))), (.v (.int .i64 (730271))), (.v (.int .i8 (0))), (.v (.int .i64 (730362)))]), (.v (.int .i64 (0)))]), []⟩,
  ⟨[(.v (.int .i64 (1999))), (.v (.int .i64 (27)))], [], (.tup [(.agg [(.v (.int .i8 (0))), (.v (.int .i64 (730363))), (.v (.int .i8 (0))), (.v (.int .i64 (730453)))]), (.v (.int .i64 (0)))]), []⟩,
  ⟨[(.v (.int .i64 (1999))), (.v (.int .i64 (28)))], [], (.tup [(.agg [(.v (.int .i8 (0))), (.v (.int .i64 (730454))), (.v (.int .i8 (0))), (.v (.int .i64 (730544)))]), (.v (.int .i64 (0)))]), []⟩,
  ⟨[(.v (.int .i64 (1999))), (.v (.int .i64 (29)))], [], (.tup [(.agg [(.v (.int .i8 (0))), (.v (.int .i64 (730363))), (.v (.int .i8 (0))), (.v (.int .i64 (730453)))]), (.v (.int .i64 (0)))]), []⟩,
  ⟨[(.v (.int .i64 (1999))), (.v (.int .i64 (30)))], [], (.tup [(.agg [(.v (.int .i8 (0))), (.v (.int .i64 (730454))), (.v (.int .i8 (0))), (.v (.int .i64 (730544)))]), (.v (.int .i64 (0)))]), []⟩,
  ⟨[(.v (.int .i64 (1999))), (.v (.int .i64 (31)))], [], (.tup [(.agg [(.v (.int .i8 (0))), (.v (.int .i64 (730179))), (.v (.int .i8 (0))), (.v (.int .i64 (730270)))]), (.v (.int .i64 (0)))]), []⟩,
  ⟨[(.v (.int .i64 (1999))), (.v (.int .i64 (32)))], [], (.tup [(.agg [(.v (.int .i8 (0))), (.v (.int .i64 (730271))), (.v (.int .i8 (0))), (.v (.int .i64 (730362)))]), (.v (.int .i64 (0)))]), []⟩,
  ⟨[(.v (.int .i64 (1999))), (.v (.int .i64 (33)))], [], (.tup [(.agg [(.v (.int .i8 (0))), (.v (.int .i64 (730120))), (.v (.int .i8 (0))), (.v (.int .i64 (730209)))]), (.v (.int .i64 (0)))]), []⟩,
  ⟨[(.v (.int .i64 (1999))), (.v (.int .i64 (34)))], [], (.tup [(.agg [(.v (.int .i8 (0))), (.v (.int .i64 (730210))), (.v (.int .i8 (0))), (.v (.int .i64 (730300)))]), (.v (.int .i64 (0)))]), []⟩,
  ⟨[(.v (.int .i64 (1999))), (.v (.int .i64 (35)))], [], (.tup [(.agg [(.v (.int .i8 (0))), (.v (.int .i64 (730301))), (.v (.int .i8 (0))), (.v (.int .i64 (730392)))]), (.v (.int .i64 (0)))]), []⟩,
  ⟨[(.v (.int .i64 (1999))), (.v (.int .i64 (36)))], [], (.tup [(.agg [(.v (.int .i8 (0))), (.v (.int .i64 (730393))), (.v (.int .i8 (0))), (.v (.int .i64 (730484)))]), (.v (.int .i64 (0)))]), []⟩,
  ⟨[(.v (.int .i64 (1999))), (.v (.int .i64 (37)))], [], (.tup [(.agg [(.v (.int .i8 (0))), (.v (.int .i64 (730120))), (.v (.int .i8 (0))), (.v (.int .i64 (730239)))]), (.v (.int .i64 (0)))]), []⟩,
  ⟨[(.v (.int .i64 (1999))), (.v (.int .i64 (38)))], [], (.tup [(.agg [(.v (.int .i8 (0))), (.v (.int .i64 (730240))), (.v (.int .i8 (0))), (.v (.int .i64 (730362)))]), (.v (.int .i64 (0)))]), []⟩,
  ⟨[(.v (.int .i64 (1999))), (.v (.int .i64 (39)))], [], (.tup [(.agg [(.v (.int .i8 (0))), (.v (.int .i64 (730363))), (.v (.int .i8 (0))), (.v (.int .i64 (730484)))]), (.v (.int .i64 (0)))]), []⟩,
  ⟨[(.v (.int .i64 (1999))), (.v (.int .i64 (40)))], [], (.tup [(.agg [(.v (.int .i8 (0))), (.v (.int .i64 (730120))), (.v (.int .i8 (0))), (.v (.int .i64 (730300)))]), (.v (.int .i64 (0)))]), []⟩,
  ⟨[(.v (.int .i64 (1999))), (.v (.int .i64 (41)))], [], (.tup [(.agg [(.v (.int .i8 (0))), (.v (.int .i64 (730301))), (.v (.int .i8 (0))), (.v (.int .i64 (730484)))]), (.v (.int .i64 (0)))]), []⟩]
theorem esEnK2a4_made : madeE tbu (callM tbu msEnK2 100) hp 82 esEnK2a4 = true := by kernel_rfl
theorem esEnK2a4_ok {w0 : World} (hl : laidMet Tryz.prog Rows.unitsKnownRow.laid w0) : EsOk tbu w0 hp 82 esEnK2a4 := madeE_ok (tbu_ok w0) (msEnK2_ok hl) (startOk hl lay_ok hp_eq) esEnK2a4_made
end Ev
end Go.Proofs.YtipjmaimjchckaaGreatDoor

/-! Calls that were reckoned, level 3 (printed by genents.py). -/
set_option linter.unusedVariables false
set_option maxRecDepth 1000000
namespace Go.Proofs.YtipjmaimjchckaaGreatDoor
open Go.RowKit
namespace Ev
noncomputable def msEnK3 : Tr (List Entry) := (.node none (.node none (.node none (.node none .nil (.node (some (esEnK1a1)) .nil .nil)) (.node none (.node none (.node none (.node none (.node (some (esEnK0a5)) .nil .nil) .nil) .nil) .nil) .nil)) (.node none (.node (some ((esEnK0a1 ++ esEnK1a0))) (.node none .nil (.node (some ((esEnK0a3 ++ esEnK2a1))) .nil .nil)) (.node (some (esEnK1a2)) (.node none (.node (some ((esEnK0a4 ++ esEnK2a3))) .nil .nil) (.node (some (esEnK1a4)) .nil .nil)) .nil)) (.node none (.node none (.node none (.node (some (esEnK1a3)) .nil .nil) .nil) .nil) .nil))) (.node none (.node none (.node (some ((esEnK0a0 ++ esEnK2a0))) .nil (.node none (.node none (.node (some (esEnK2a2)) .nil .nil) .nil) .nil)) (.node none (.node (some (esEnK0a2)) .nil .nil) .nil)) (.node none (.node none (.node none .nil (.node none (.node (some (esEnK2a4)) .nil .nil) .nil)) .nil) .nil)))
theorem msEnK3_ok {w0 : World} (hl : laidMet Tryz.prog Rows.unitsKnownRow.laid w0) : MsOk tbu w0 hp msEnK3 := msOk_all (Tr.allP_none (Tr.allP_none (Tr.allP_none (Tr.allP_none Tr.allP_nil (Tr.allP_some ((esEnK1a1_ok hl)) Tr.allP_nil Tr.allP_nil)) (Tr.allP_none (Tr.allP_none (Tr.allP_none (Tr.allP_none (Tr.allP_some ((esEnK0a5_ok hl)) Tr.allP_nil Tr.allP_nil) Tr.allP_nil) Tr.allP_nil) Tr.allP_nil) Tr.allP_nil)) (Tr.allP_none (Tr.allP_some ((EsOk.app (esEnK0a1_ok hl) (esEnK1a0_ok hl))) (Tr.allP_none Tr.allP_nil (Tr.allP_some ((EsOk.app (esEnK0a3_ok hl) (esEnK2a1_ok hl))) Tr.allP_nil Tr.allP_nil)) (Tr.allP_some ((esEnK1a2_ok hl)) (Tr.allP_none (Tr.allP_some ((EsOk.app (esEnK0a4_ok hl) (esEnK2a3_ok hl))) Tr.allP_nil Tr.allP_nil) (Tr.allP_some ((esEnK1a4_ok hl)) Tr.allP_nil Tr.allP_nil)) Tr.allP_nil)) (Tr.allP_none (Tr.allP_none (Tr.allP_none (Tr.allP_some ((esEnK1a3_ok hl)) Tr.allP_nil Tr.allP_nil) Tr.allP_nil) Tr.allP_nil) Tr.allP_nil))) (Tr.allP_none (Tr.allP_none (Tr.allP_some ((EsOk.app (esEnK0a0_ok hl) (esEnK2a0_ok hl))) Tr.allP_nil (Tr.allP_none (Tr.allP_none (Tr.allP_some ((esEnK2a2_ok hl)) Tr.allP_nil Tr.allP_nil) Tr.allP_nil) Tr.allP_nil)) (Tr.allP_none (Tr.allP_some ((esEnK0a2_ok hl)) Tr.allP_nil Tr.allP_nil) Tr.allP_nil)) (Tr.allP_none (Tr.allP_none (Tr.allP_none Tr.allP_nil (Tr.allP_none (Tr.allP_some ((esEnK2a4_ok hl)) Tr.allP_nil Tr.allP_nil) Tr.allP_nil)) Tr.allP_nil) Tr.allP_nil)))
end Ev
end Go.Proofs.YtipjmaimjchckaaGreatDoor

