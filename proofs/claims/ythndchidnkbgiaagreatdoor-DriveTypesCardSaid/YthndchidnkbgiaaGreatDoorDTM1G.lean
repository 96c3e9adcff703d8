/- Calls of stage 1. -/
import Derived.Test.YthndchidnkbgiaaGreatDoorDT1
set_option linter.unusedVariables false
set_option linter.unusedSectionVars false
set_option linter.unusedSimpArgs false
set_option linter.unnecessarySimpa false
namespace Go.Proofs.YthndchidnkbgiaaGreatDoor
open Go Go.Ev
theorem q5563 : Known 39 x5563 y5563 := knownT all0 (n := 399) (by kernel_rfl)
theorem q5605 : Known 186 x5605 y5605 := knownT all0 (n := 399) (by kernel_rfl)
end Go.Proofs.YthndchidnkbgiaaGreatDoor
