/- Calls of stage 2. -/
import Derived.Test.YtndojngcaohgnaaGreatDoorDPT1
set_option linter.unusedVariables false
set_option linter.unusedSectionVars false
set_option linter.unusedSimpArgs false
set_option linter.unnecessarySimpa false
namespace Go.Proofs.YtndojngcaohgnaaGreatDoor
open Go Go.Ev
theorem q4645 : Known 44 x4645 y4645 := knownT all1 (n := 399) (by kernel_rfl)
theorem q4760 : Known 61 x4760 y4760 := knownT all1 (n := 399) (by kernel_rfl)
theorem q4784 : Known 22 x4784 y4784 := knownT all1 (n := 399) (by kernel_rfl)
end Go.Proofs.YtndojngcaohgnaaGreatDoor
