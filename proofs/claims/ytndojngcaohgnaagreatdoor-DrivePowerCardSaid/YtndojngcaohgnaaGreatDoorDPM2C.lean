/- Calls of stage 2. -/
import Derived.Test.YtndojngcaohgnaaGreatDoorDPT1
set_option linter.unusedVariables false
set_option linter.unusedSectionVars false
set_option linter.unusedSimpArgs false
set_option linter.unnecessarySimpa false
namespace Go.Proofs.YtndojngcaohgnaaGreatDoor
open Go Go.Ev
theorem q2706 : Known 44 x2706 y2706 := knownT all1 (n := 399) (by kernel_rfl)
theorem q2818 : Known 61 x2818 y2818 := knownT all1 (n := 399) (by kernel_rfl)
theorem q2833 : Known 37 x2833 y2833 := knownT all1 (n := 399) (by kernel_rfl)
end Go.Proofs.YtndojngcaohgnaaGreatDoor
