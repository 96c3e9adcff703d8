/- Calls of stage 1. -/
import Derived.Test.YthndchidnkbgiaaGreatDoorDT1
set_option linter.unusedVariables false
set_option linter.unusedSectionVars false
set_option linter.unusedSimpArgs false
set_option linter.unnecessarySimpa false
namespace Go.Proofs.YthndchidnkbgiaaGreatDoor
open Go Go.Ev
theorem q2697 : Known 39 x2697 y2697 := knownT all0 (n := 399) (by kernel_rfl)
theorem q2737 : Known 186 x2737 y2737 := knownT all0 (n := 399) (by kernel_rfl)
theorem q2753 : Known 56 x2753 y2753 := knownT all0 (n := 399) (by kernel_rfl)
end Go.Proofs.YthndchidnkbgiaaGreatDoor
