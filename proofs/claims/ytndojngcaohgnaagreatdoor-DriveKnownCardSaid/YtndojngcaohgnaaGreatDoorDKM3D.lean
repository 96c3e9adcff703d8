/- Calls of stage 3. -/
import Derived.Test.YtndojngcaohgnaaGreatDoorDKT2
set_option linter.unusedVariables false
set_option linter.unusedSectionVars false
set_option linter.unusedSimpArgs false
set_option linter.unnecessarySimpa false
namespace Go.Proofs.YtndojngcaohgnaaGreatDoor
open Go Go.Ev
theorem q2117 : Known 11 x2117 y2117 := knownT all2 (n := 399) (by kernel_rfl)
theorem q2585 : Known 177 x2585 y2585 := knownT all2 (n := 399) (by kernel_rfl)
end Go.Proofs.YtndojngcaohgnaaGreatDoor
