/- Calls of stage 2. -/
import Derived.Test.YtndojngcaohgnaaGreatDoorDKT1
set_option linter.unusedVariables false
set_option linter.unusedSectionVars false
set_option linter.unusedSimpArgs false
set_option linter.unnecessarySimpa false
namespace Go.Proofs.YtndojngcaohgnaaGreatDoor
open Go Go.Ev
theorem q67 : Known 74 x67 y67 := knownT all1 (n := 399) (by kernel_rfl)
theorem q891 : Known 270 x891 y891 := knownT all1 (n := 399) (by kernel_rfl)
theorem q899 : Known 120 x899 y899 := knownT all1 (n := 399) (by kernel_rfl)
theorem q1475 : Known 122 x1475 y1475 := knownT all1 (n := 399) (by kernel_rfl)
theorem q2528 : Known 214 x2528 y2528 := knownT all1 (n := 399) (by kernel_rfl)
theorem q3377 : Known 30 x3377 y3377 := knownT all1 (n := 399) (by kernel_rfl)
end Go.Proofs.YtndojngcaohgnaaGreatDoor
