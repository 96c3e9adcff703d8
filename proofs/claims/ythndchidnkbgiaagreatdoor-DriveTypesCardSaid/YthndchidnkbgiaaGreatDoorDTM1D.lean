/- Calls of stage 1. -/
import Derived.Test.YthndchidnkbgiaaGreatDoorDT1
set_option linter.unusedVariables false
set_option linter.unusedSectionVars false
set_option linter.unusedSimpArgs false
set_option linter.unnecessarySimpa false
namespace Go.Proofs.YthndchidnkbgiaaGreatDoor
open Go Go.Ev
theorem q3393 : Known 39 x3393 y3393 := knownT all0 (n := 399) (by kernel_rfl)
theorem q3435 : Known 186 x3435 y3435 := knownT all0 (n := 399) (by kernel_rfl)
theorem q3451 : Known 56 x3451 y3451 := knownT all0 (n := 399) (by kernel_rfl)
end Go.Proofs.YthndchidnkbgiaaGreatDoor
