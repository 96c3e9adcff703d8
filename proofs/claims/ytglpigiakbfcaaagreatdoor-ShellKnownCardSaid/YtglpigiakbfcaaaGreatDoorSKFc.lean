/- ShellKnown: closed facts of the row, of the card. -/
import Derived.JoinedOf
import Derived.Test.YtglpigiakbfcaaaGreatDoorSKF
import Derived.Test.YtglpigiakbfcaaaGreatDoorSKB
set_option linter.unusedVariables false
set_option linter.unusedSectionVars false
set_option linter.unusedSimpArgs false
set_option linter.unnecessarySimpa false
namespace Go.Proofs.YtglpigiakbfcaaaGreatDoor.fnShellKnown
open Go Go.ChangeShapes Go.WideShapes Go.ChangeAt Go.RowKit
theorem fact25 : J25 Tryz.prog 3 Tryz.f3 Rows.shellKnownSpec Rows.shellKnownRow = true := by kernel_rfl
theorem fact26 : J26 Tryz.prog 3 Tryz.f3 Rows.shellKnownSpec Rows.shellKnownRow = true := by kernel_rfl
theorem fact27 : J27 Tryz.prog 3 Tryz.f3 Rows.shellKnownSpec Rows.shellKnownRow = true := by kernel_rfl
theorem fact28 : J28 Tryz.prog 3 Tryz.f3 Rows.shellKnownSpec Rows.shellKnownRow = true := by kernel_rfl
theorem fact29 : J29 Tryz.prog 3 Tryz.f3 Rows.shellKnownSpec Rows.shellKnownRow = true := by kernel_rfl
theorem fact30 : J30 Tryz.prog 3 Tryz.f3 Rows.shellKnownSpec Rows.shellKnownRow = true := by kernel_rfl
theorem fact31 : J31 Tryz.prog 3 Tryz.f3 Rows.shellKnownSpec Rows.shellKnownRow = true := by kernel_rfl
theorem fact32 : J32 Tryz.prog 3 Tryz.f3 Rows.shellKnownSpec Rows.shellKnownRow = true := by kernel_rfl
theorem factN : Tryz.prog.funcNamed "thyrsus/thyrsuslaw16.ShellKnown" = some 3 := by kernel_rfl
theorem factW : Rows.shellKnownRow.wfByText (OpenSpec.ofChange Rows.shellKnownSpec) = true := by kernel_rfl
theorem factM : Tryz.prog.mainIs = some (true, ("9dd302cec25004f619a6e938a7a365d943f2beb3ac632a1bc66f5315bd6ffb12" : String).toList) := by kernel_rfl
theorem factL : true = Tryz.prog.looks [] := by kernel_rfl
end Go.Proofs.YtglpigiakbfcaaaGreatDoor.fnShellKnown
