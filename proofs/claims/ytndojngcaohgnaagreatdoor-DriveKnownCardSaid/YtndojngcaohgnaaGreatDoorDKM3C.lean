/- Calls of stage 3. -/
import Derived.Test.YtndojngcaohgnaaGreatDoorDKT2
set_option linter.unusedVariables false
set_option linter.unusedSectionVars false
set_option linter.unusedSimpArgs false
set_option linter.unnecessarySimpa false
namespace Go.Proofs.YtndojngcaohgnaaGreatDoor
open Go Go.Ev
theorem q1756 : Known 11 x1756 y1756 := knownT all2 (n := 399) (by kernel_rfl)
theorem q1881 : Known 11 x1881 y1881 := knownT all2 (n := 399) (by kernel_rfl)
end Go.Proofs.YtndojngcaohgnaaGreatDoor
