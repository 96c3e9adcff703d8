/- ShellKnown: closed facts of the row, of the card. -/
import Derived.JoinedOf
import Derived.Test.YtglpigiakbfcaaaGreatDoorSKF
import Derived.Test.YtglpigiakbfcaaaGreatDoorSKB
set_option linter.unusedVariables false
set_option linter.unusedSectionVars false
set_option linter.unusedSimpArgs false
set_option linter.unnecessarySimpa false
namespace Go.Proofs.YtglpigiakbfcaaaGreatDoor.fnShellKnown
open Go Go.ChangeShapes Go.WideShapes Go.ChangeAt Go.RowKit
theorem factG : false = Rows.shellKnownRow.goesBy Tryz.prog := by kernel_rfl
end Go.Proofs.YtglpigiakbfcaaaGreatDoor.fnShellKnown
