/- Calls of stage 2. -/
import Derived.Test.YthndchidnkbgiaaGreatDoorDTT1
set_option linter.unusedVariables false
set_option linter.unusedSectionVars false
set_option linter.unusedSimpArgs false
set_option linter.unnecessarySimpa false
namespace Go.Proofs.YthndchidnkbgiaaGreatDoor
open Go Go.Ev
theorem q5581 : Known 47 x5581 y5581 := knownT all1 (n := 399) (by kernel_rfl)
theorem q5612 : Known 56 x5612 y5612 := knownT all1 (n := 399) (by kernel_rfl)
theorem q5621 : Known 56 x5621 y5621 := knownT all1 (n := 399) (by kernel_rfl)
end Go.Proofs.YthndchidnkbgiaaGreatDoor
