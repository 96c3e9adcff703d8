/- Calls of stage 2. -/
import Derived.Test.YtndojngcaohgnaaGreatDoorDPT1
set_option linter.unusedVariables false
set_option linter.unusedSectionVars false
set_option linter.unusedSimpArgs false
set_option linter.unnecessarySimpa false
namespace Go.Proofs.YtndojngcaohgnaaGreatDoor
open Go Go.Ev
theorem q6567 : Known 44 x6567 y6567 := knownT all1 (n := 399) (by kernel_rfl)
theorem q6676 : Known 61 x6676 y6676 := knownT all1 (n := 399) (by kernel_rfl)
theorem q6700 : Known 22 x6700 y6700 := knownT all1 (n := 399) (by kernel_rfl)
end Go.Proofs.YtndojngcaohgnaaGreatDoor
