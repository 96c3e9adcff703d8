/- Calls of stage 2. -/
import Derived.Test.YtndojngcaohgnaaGreatDoorDPT1
set_option linter.unusedVariables false
set_option linter.unusedSectionVars false
set_option linter.unusedSimpArgs false
set_option linter.unnecessarySimpa false
namespace Go.Proofs.YtndojngcaohgnaaGreatDoor
open Go Go.Ev
theorem q3674 : Known 44 x3674 y3674 := knownT all1 (n := 399) (by kernel_rfl)
theorem q3789 : Known 61 x3789 y3789 := knownT all1 (n := 399) (by kernel_rfl)
theorem q3804 : Known 37 x3804 y3804 := knownT all1 (n := 399) (by kernel_rfl)
theorem q3813 : Known 22 x3813 y3813 := knownT all1 (n := 399) (by kernel_rfl)
theorem q3818 : Known 12 x3818 y3818 := knownT all1 (n := 399) (by kernel_rfl)
end Go.Proofs.YtndojngcaohgnaaGreatDoor
