/- Calls of stage 4. -/
import Derived.Test.YtndojngcaohgnaaGreatDoorDAT3
set_option linter.unusedVariables false
set_option linter.unusedSectionVars false
set_option linter.unusedSimpArgs false
set_option linter.unnecessarySimpa false
namespace Go.Proofs.YtndojngcaohgnaaGreatDoor
open Go Go.Ev
theorem q1092 : Known 30 x1092 y1092 := knownT all3 (n := 399) (by kernel_rfl)
end Go.Proofs.YtndojngcaohgnaaGreatDoor
