/- DriveArgs: case 3. -/
import Derived.Test.YtndojngcaohgnaaGreatDoorDAQ
set_option linter.unusedVariables false
set_option linter.unusedSectionVars false
set_option linter.unusedSimpArgs false
set_option linter.unnecessarySimpa false
namespace Go.Proofs.YtndojngcaohgnaaGreatDoor
open Go Go.Ev
theorem case3 (a b c : Int) (w : Int → Int) : last6 (orcF cfg 399) a b c w 3 = some (.bool true) := by kernel_rfl
end Go.Proofs.YtndojngcaohgnaaGreatDoor
