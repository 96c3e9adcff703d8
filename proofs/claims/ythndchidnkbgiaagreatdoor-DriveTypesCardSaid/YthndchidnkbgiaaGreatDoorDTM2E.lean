/- Calls of stage 2. -/
import Derived.Test.YthndchidnkbgiaaGreatDoorDTT1
set_option linter.unusedVariables false
set_option linter.unusedSectionVars false
set_option linter.unusedSimpArgs false
set_option linter.unnecessarySimpa false
namespace Go.Proofs.YthndchidnkbgiaaGreatDoor
open Go Go.Ev
theorem q4108 : Known 23 x4108 y4108 := knownT all1 (n := 399) (by kernel_rfl)
theorem q4122 : Known 47 x4122 y4122 := knownT all1 (n := 399) (by kernel_rfl)
theorem q4153 : Known 56 x4153 y4153 := knownT all1 (n := 399) (by kernel_rfl)
theorem q4832 : Known 23 x4832 y4832 := knownT all1 (n := 399) (by kernel_rfl)
end Go.Proofs.YthndchidnkbgiaaGreatDoor
