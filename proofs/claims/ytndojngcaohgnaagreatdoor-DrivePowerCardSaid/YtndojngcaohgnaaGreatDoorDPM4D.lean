/- Calls of stage 4. -/
import Derived.Test.YtndojngcaohgnaaGreatDoorDPT3
set_option linter.unusedVariables false
set_option linter.unusedSectionVars false
set_option linter.unusedSimpArgs false
set_option linter.unnecessarySimpa false
namespace Go.Proofs.YtndojngcaohgnaaGreatDoor
open Go Go.Ev
theorem q6691 : Known 37 x6691 y6691 := knownT all3 (n := 399) (by kernel_rfl)
theorem q6705 : Known 12 x6705 y6705 := knownT all3 (n := 399) (by kernel_rfl)
end Go.Proofs.YtndojngcaohgnaaGreatDoor
