/- Calls of stage 4. -/
import Derived.Test.YtndojngcaohgnaaGreatDoorDKT3
set_option linter.unusedVariables false
set_option linter.unusedSectionVars false
set_option linter.unusedSimpArgs false
set_option linter.unnecessarySimpa false
namespace Go.Proofs.YtndojngcaohgnaaGreatDoor
open Go Go.Ev
theorem q1538 : Known 11 x1538 y1538 := knownT all3 (n := 399) (by kernel_rfl)
theorem q2605 : Known 30 x2605 y2605 := knownT all3 (n := 399) (by kernel_rfl)
end Go.Proofs.YtndojngcaohgnaaGreatDoor
