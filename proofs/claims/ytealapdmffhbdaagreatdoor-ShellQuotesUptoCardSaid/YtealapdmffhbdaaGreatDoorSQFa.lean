/- ShellQuotes: closed facts of the row, of the card. -/
import Derived.JoinedOf
import Derived.KernelRfl
import Derived.Test.YtealapdmffhbdaaGreatDoorSQF
import Derived.Test.YtealapdmffhbdaaGreatDoorSWB
set_option linter.unusedVariables false
set_option linter.unusedSectionVars false
set_option linter.unusedSimpArgs false
set_option linter.unnecessarySimpa false
namespace Go.Proofs.YtealapdmffhbdaaGreatDoor.fnShellQuotesUpto
open Go Go.ChangeShapes Go.WideShapes Go.ChangeAt Go.RowKit
theorem fact1 : J1 Tryz.prog 4 Tryz.f4 (Rows.OpenSpec.upto Rows.shellQuotesSpec).bare Rows.shellQuotesUptoRow = true := by kernel_rfl
theorem fact2 : J2 Tryz.prog 4 Tryz.f4 (Rows.OpenSpec.upto Rows.shellQuotesSpec).bare Rows.shellQuotesUptoRow = true := by kernel_rfl
theorem fact3 : J3 Tryz.prog 4 Tryz.f4 (Rows.OpenSpec.upto Rows.shellQuotesSpec).bare Rows.shellQuotesUptoRow = true := by kernel_rfl
theorem fact4 : J4 Tryz.prog 4 Tryz.f4 (Rows.OpenSpec.upto Rows.shellQuotesSpec).bare Rows.shellQuotesUptoRow = true := by kernel_rfl
theorem fact5 : J5 Tryz.prog 4 Tryz.f4 (Rows.OpenSpec.upto Rows.shellQuotesSpec).bare Rows.shellQuotesUptoRow = true := by kernel_rfl
theorem fact6 : J6 Tryz.prog 4 Tryz.f4 (Rows.OpenSpec.upto Rows.shellQuotesSpec).bare Rows.shellQuotesUptoRow = true := by kernel_rfl
theorem fact7 : J7 Tryz.prog 4 Tryz.f4 (Rows.OpenSpec.upto Rows.shellQuotesSpec).bare Rows.shellQuotesUptoRow = true := by kernel_rfl
theorem fact8 : J8 Tryz.prog 4 Tryz.f4 (Rows.OpenSpec.upto Rows.shellQuotesSpec).bare Rows.shellQuotesUptoRow = true := by kernel_rfl
theorem fact9 : J9 Tryz.prog 4 Tryz.f4 (Rows.OpenSpec.upto Rows.shellQuotesSpec).bare Rows.shellQuotesUptoRow = true := by kernel_rfl
theorem fact10 : J10 Tryz.prog 4 Tryz.f4 (Rows.OpenSpec.upto Rows.shellQuotesSpec).bare Rows.shellQuotesUptoRow = true := by kernel_rfl
theorem fact11 : J11 Tryz.prog 4 Tryz.f4 (Rows.OpenSpec.upto Rows.shellQuotesSpec).bare Rows.shellQuotesUptoRow = true := by kernel_rfl
theorem fact12 : J12 Tryz.prog 4 Tryz.f4 (Rows.OpenSpec.upto Rows.shellQuotesSpec).bare Rows.shellQuotesUptoRow = true := by kernel_rfl
end Go.Proofs.YtealapdmffhbdaaGreatDoor.fnShellQuotesUpto
