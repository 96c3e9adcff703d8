/- ShellWords: closed facts of the row, of the card. -/
import Derived.JoinedOf
import Derived.KernelRfl
import Derived.Test.YtealapdmffhbdaaGreatDoorSWF
import Derived.Test.YtealapdmffhbdaaGreatDoorSWB
set_option linter.unusedVariables false
set_option linter.unusedSectionVars false
set_option linter.unusedSimpArgs false
set_option linter.unnecessarySimpa false
namespace Go.Proofs.YtealapdmffhbdaaGreatDoor.fnShellWordsUpto
open Go Go.ChangeShapes Go.WideShapes Go.ChangeAt Go.RowKit
theorem fact25 : J25 Tryz.prog 3 Tryz.f3 (Rows.OpenSpec.upto Rows.shellWordsSpec).bare Rows.shellWordsUptoRow = true := by kernel_rfl
theorem fact26 : J26 Tryz.prog 3 Tryz.f3 (Rows.OpenSpec.upto Rows.shellWordsSpec).bare Rows.shellWordsUptoRow = true := by kernel_rfl
theorem fact27 : J27 Tryz.prog 3 Tryz.f3 (Rows.OpenSpec.upto Rows.shellWordsSpec).bare Rows.shellWordsUptoRow = true := by kernel_rfl
theorem fact28 : J28 Tryz.prog 3 Tryz.f3 (Rows.OpenSpec.upto Rows.shellWordsSpec).bare Rows.shellWordsUptoRow = true := by kernel_rfl
theorem fact29 : J29 Tryz.prog 3 Tryz.f3 (Rows.OpenSpec.upto Rows.shellWordsSpec).bare Rows.shellWordsUptoRow = true := by kernel_rfl
theorem fact30 : J30 Tryz.prog 3 Tryz.f3 (Rows.OpenSpec.upto Rows.shellWordsSpec).bare Rows.shellWordsUptoRow = true := by kernel_rfl
theorem fact31 : J31 Tryz.prog 3 Tryz.f3 (Rows.OpenSpec.upto Rows.shellWordsSpec).bare Rows.shellWordsUptoRow = true := by kernel_rfl
theorem fact32 : J32 Tryz.prog 3 Tryz.f3 (Rows.OpenSpec.upto Rows.shellWordsSpec).bare Rows.shellWordsUptoRow = true := by kernel_rfl
theorem factN : Tryz.prog.funcNamed "thyrsus/thyrsuslaw16.ShellWords" = some 3 := by kernel_rfl
theorem factW : Rows.shellWordsUptoRow.wfByText (Rows.OpenSpec.upto Rows.shellWordsSpec) = true := by kernel_rfl
theorem factM : Tryz.prog.mainIs = some (true, ("aa872f438d16cda2330a0f536631de5d4e0cfd2ac033a9b3ab22459c93b78b19" : String).toList) := by kernel_rfl
theorem factL : true = Tryz.prog.looks [] := by kernel_rfl
end Go.Proofs.YtealapdmffhbdaaGreatDoor.fnShellWordsUpto
