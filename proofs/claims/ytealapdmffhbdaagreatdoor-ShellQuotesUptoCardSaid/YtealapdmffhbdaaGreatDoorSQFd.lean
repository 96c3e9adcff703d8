/- ShellQuotes: closed facts of the row, of the card. -/
import Derived.JoinedOf
import Derived.KernelRfl
import Derived.Test.YtealapdmffhbdaaGreatDoorSQF
import Derived.Test.YtealapdmffhbdaaGreatDoorSWB
set_option linter.unusedVariables false
set_option linter.unusedSectionVars false
set_option linter.unusedSimpArgs false
set_option linter.unnecessarySimpa false
namespace Go.Proofs.YtealapdmffhbdaaGreatDoor.fnShellQuotesUpto
open Go Go.ChangeShapes Go.WideShapes Go.ChangeAt Go.RowKit
theorem factG : false = Rows.shellQuotesUptoRow.goesBy Tryz.prog := by kernel_rfl
end Go.Proofs.YtealapdmffhbdaaGreatDoor.fnShellQuotesUpto
