/- Calls of stage 2. -/
import Derived.Test.YtndojngcaohgnaaGreatDoorDPT1
set_option linter.unusedVariables false
set_option linter.unusedSectionVars false
set_option linter.unusedSimpArgs false
set_option linter.unnecessarySimpa false
namespace Go.Proofs.YtndojngcaohgnaaGreatDoor
open Go Go.Ev
theorem q1859 : Known 36 x1859 y1859 := knownT all1 (n := 399) (by kernel_rfl)
theorem q1867 : Known 37 x1867 y1867 := knownT all1 (n := 399) (by kernel_rfl)
theorem q2231 : Known 44 x2231 y2231 := knownT all1 (n := 399) (by kernel_rfl)
theorem q2298 : Known 127 x2298 y2298 := knownT all1 (n := 399) (by kernel_rfl)
theorem q2337 : Known 61 x2337 y2337 := knownT all1 (n := 399) (by kernel_rfl)
theorem q2352 : Known 37 x2352 y2352 := knownT all1 (n := 399) (by kernel_rfl)
end Go.Proofs.YtndojngcaohgnaaGreatDoor
