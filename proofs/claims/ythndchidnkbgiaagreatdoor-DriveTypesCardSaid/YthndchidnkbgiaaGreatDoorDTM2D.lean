/- Calls of stage 2. -/
import Derived.Test.YthndchidnkbgiaaGreatDoorDTT1
set_option linter.unusedVariables false
set_option linter.unusedSectionVars false
set_option linter.unusedSimpArgs false
set_option linter.unnecessarySimpa false
namespace Go.Proofs.YthndchidnkbgiaaGreatDoor
open Go Go.Ev
theorem q2744 : Known 56 x2744 y2744 := knownT all1 (n := 399) (by kernel_rfl)
theorem q3397 : Known 23 x3397 y3397 := knownT all1 (n := 399) (by kernel_rfl)
theorem q3411 : Known 47 x3411 y3411 := knownT all1 (n := 399) (by kernel_rfl)
theorem q3442 : Known 56 x3442 y3442 := knownT all1 (n := 399) (by kernel_rfl)
theorem q3473 : Known 122 x3473 y3473 := knownT all1 (n := 399) (by kernel_rfl)
end Go.Proofs.YthndchidnkbgiaaGreatDoor
