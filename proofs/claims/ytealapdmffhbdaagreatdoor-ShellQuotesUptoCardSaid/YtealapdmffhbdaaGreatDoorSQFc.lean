/- ShellQuotes: closed facts of the row, of the card. -/
import Derived.JoinedOf
import Derived.KernelRfl
import Derived.Test.YtealapdmffhbdaaGreatDoorSQF
import Derived.Test.YtealapdmffhbdaaGreatDoorSWB
set_option linter.unusedVariables false
set_option linter.unusedSectionVars false
set_option linter.unusedSimpArgs false
set_option linter.unnecessarySimpa false
namespace Go.Proofs.YtealapdmffhbdaaGreatDoor.fnShellQuotesUpto
open Go Go.ChangeShapes Go.WideShapes Go.ChangeAt Go.RowKit
theorem fact25 : J25 Tryz.prog 4 Tryz.f4 (Rows.OpenSpec.upto Rows.shellQuotesSpec).bare Rows.shellQuotesUptoRow = true := by kernel_rfl
theorem fact26 : J26 Tryz.prog 4 Tryz.f4 (Rows.OpenSpec.upto Rows.shellQuotesSpec).bare Rows.shellQuotesUptoRow = true := by kernel_rfl
theorem fact27 : J27 Tryz.prog 4 Tryz.f4 (Rows.OpenSpec.upto Rows.shellQuotesSpec).bare Rows.shellQuotesUptoRow = true := by kernel_rfl
theorem fact28 : J28 Tryz.prog 4 Tryz.f4 (Rows.OpenSpec.upto Rows.shellQuotesSpec).bare Rows.shellQuotesUptoRow = true := by kernel_rfl
theorem fact29 : J29 Tryz.prog 4 Tryz.f4 (Rows.OpenSpec.upto Rows.shellQuotesSpec).bare Rows.shellQuotesUptoRow = true := by kernel_rfl
theorem fact30 : J30 Tryz.prog 4 Tryz.f4 (Rows.OpenSpec.upto Rows.shellQuotesSpec).bare Rows.shellQuotesUptoRow = true := by kernel_rfl
theorem fact31 : J31 Tryz.prog 4 Tryz.f4 (Rows.OpenSpec.upto Rows.shellQuotesSpec).bare Rows.shellQuotesUptoRow = true := by kernel_rfl
theorem fact32 : J32 Tryz.prog 4 Tryz.f4 (Rows.OpenSpec.upto Rows.shellQuotesSpec).bare Rows.shellQuotesUptoRow = true := by kernel_rfl
theorem factN : Tryz.prog.funcNamed "thyrsus/thyrsuslaw16.ShellQuotes" = some 4 := by kernel_rfl
theorem factW : Rows.shellQuotesUptoRow.wfByText (Rows.OpenSpec.upto Rows.shellQuotesSpec) = true := by kernel_rfl
theorem factM : Tryz.prog.mainIs = some (true, ("aa872f438d16cda2330a0f536631de5d4e0cfd2ac033a9b3ab22459c93b78b19" : String).toList) := by kernel_rfl
theorem factL : true = Tryz.prog.looks [] := by kernel_rfl
end Go.Proofs.YtealapdmffhbdaaGreatDoor.fnShellQuotesUpto
