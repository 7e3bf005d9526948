/- Calls that were reckoned, level 3 (printed by genents.py). -/
import Derived.Test.YtlglepkdipapiaaGreatDoorKEnST3
/-! Calls that were reckoned, level 3 (printed by genents.py). -/
set_option linter.unusedVariables false
set_option maxRecDepth 1000000
namespace Go.Proofs.YtlglepkdipapiaaGreatDoor
open Go.RowKit
namespace Ev
/-- circa/parsers.Parse: 20257 operations. -/
noncomputable def esEnS3a0 : List Entry := [⟨[q6], [], (.tup [q14, q5, q5, q5]), []⟩,
  ⟨[q25], [], (.tup [q27, q5, q5, q5]), []⟩,
  ⟨[q33], [], (.tup [q35, q4, q5, q5]), []⟩,
  ⟨[(.v (.string ⟨#[49, 56, 57, 55, 47, 49, 57, 48, 51]⟩))], [], (.tup [q54, q5, q5, q5]), []⟩,
  ⟨[(.v (.string ⟨#[91, 49, 56, 57, 55, 46, 46, 49, 57, 48, 51, 93]⟩))], [], (.tup [q62, q63, q5, q5]), [(.rowU [q1, q1, q47, q5, q5, q7, q7, q0, q0, q0, q40, q1, q1, q49, q5, q5, q7, q7, q0, q0, q0] 21 102)]⟩]
theorem esEnS3a0_made : madeE tbu (callM tbu msEnS3 100) hp 8 esEnS3a0 = true := by kernel_rfl
theorem esEnS3a0_ok {w0 : World} (hl : laidMetH Tryz.prog Rows.suresKnownRow.laid w0) : EsOk tbu w0 hp 8 esEnS3a0 := madeE_ok (tbu_ok w0) (msEnS3_ok hl) (start_ok hl) esEnS3a0_made
/-- circa/parsers.Parse: 22890 operations. -/
noncomputable def esEnS3a1 : List Entry := [⟨[(.v (.string ⟨#[91, 49, 56, 57, 55, 46, 46, 49, 57, 48, 52, 93]⟩))], [], (.tup [q62, q63, q5, q5]), [(.rowU [q1, q1, q47, q5, q5, q7, q7, q0, q0, q0, q40, q1, q1, q75, q5, q5, q7, q7, q0, q0, q0] 21 102)]⟩,
  ⟨[q81], [], (.tup [q83, q4, q5, q5]), []⟩,
  ⟨[q88], [], (.tup [q90, q4, q5, q5]), []⟩,
  ⟨[q95], [], (.tup [q97, q4, q5, q5]), []⟩,
  ⟨[q124], [], (.tup [q125, q63, q5, q5]), []⟩,
  ⟨[q129], [], (.tup [q130, q63, q5, q5]), []⟩,
  ⟨[q166], [], (.tup [q168, q63, q5, q5]), []⟩,
  ⟨[(.v (.string ⟨#[91, 46, 46, 50, 48, 48, 52, 93]⟩))], [], (.tup [q178, q63, q5, q5]), [(.rowU [q1, q1, q6, q5, q5, q7, q7, q0, q0, q0, q1, q1, q1, q7, q5, q5, q7, q7, q0, q0, q0] 21 102)]⟩,
  ⟨[(.v (.string ⟨#[91, 50, 48, 48, 52, 45, 48, 50, 46, 46, 93]⟩))], [], (.tup [q180, q63, q5, q5]), [(.rowU [q1, q1, q6, q5, q5, q147, q7, q0, q0, q0, q1, q1, q1, q7, q5, q5, q7, q7, q0, q0, q0] 21 102)]⟩]
theorem esEnS3a1_made : madeE tbu (callM tbu msEnS3 100) hp 8 esEnS3a1 = true := by kernel_rfl
theorem esEnS3a1_ok {w0 : World} (hl : laidMetH Tryz.prog Rows.suresKnownRow.laid w0) : EsOk tbu w0 hp 8 esEnS3a1 := madeE_ok (tbu_ok w0) (msEnS3_ok hl) (start_ok hl) esEnS3a1_made
/-- circa/parsers.Parse: 22640 operations. -/
noncomputable def esEnS3a2 : List Entry := [⟨[(.v (.string ⟨#[91, 50, 48, 48, 49, 45, 48, 50, 46, 46, 50, 48, 48, 49, 45, 48, 52, 93]⟩))], [], (.tup [q62, q63, q5, q5]), [(.rowU [q1, q1, q25, q5, q5, q147, q7, q0, q0, q0, q40, q1, q1, q25, q5, q5, (.v (.string ⟨#[48, 52]⟩)), q7, q0, q0, q0] 21 102)]⟩,
  ⟨[(.v (.string ⟨#[89, 45, 49, 69, 49, 54, 47, 89, 49, 69, 49, 54]⟩))], [], (.tup [q190, q63, q5, q5]), []⟩,
  ⟨[q203], [], (.tup [q204, q63, q5, q5]), []⟩]
theorem esEnS3a2_made : madeE tbu (callM tbu msEnS3 100) hp 8 esEnS3a2 = true := by kernel_rfl
theorem esEnS3a2_ok {w0 : World} (hl : laidMetH Tryz.prog Rows.suresKnownRow.laid w0) : EsOk tbu w0 hp 8 esEnS3a2 := madeE_ok (tbu_ok w0) (msEnS3_ok hl) (start_ok hl) esEnS3a2_made
end Ev
end Go.Proofs.YtlglepkdipapiaaGreatDoor

