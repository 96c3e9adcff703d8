/- Calls of stage 2. -/
import Derived.Test.YthndchidnkbgiaaGreatDoorDTT1
set_option linter.unusedVariables false
set_option linter.unusedSectionVars false
set_option linter.unusedSimpArgs false
set_option linter.unnecessarySimpa false
namespace Go.Proofs.YthndchidnkbgiaaGreatDoor
open Go Go.Ev
theorem q141 : Known 4 x141 y141 := knownT all1 (n := 399) (by kernel_rfl)
theorem q742 : Known 23 x742 y742 := knownT all1 (n := 399) (by kernel_rfl)
theorem q947 : Known 47 x947 y947 := knownT all1 (n := 399) (by kernel_rfl)
theorem q1007 : Known 75 x1007 y1007 := knownT all1 (n := 399) (by kernel_rfl)
end Go.Proofs.YthndchidnkbgiaaGreatDoor
