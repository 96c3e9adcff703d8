/- Calls of stage 3. -/
import Derived.Test.YthndchidnkbgiaaGreatDoorDTT2
set_option linter.unusedVariables false
set_option linter.unusedSectionVars false
set_option linter.unusedSimpArgs false
set_option linter.unnecessarySimpa false
namespace Go.Proofs.YthndchidnkbgiaaGreatDoor
open Go Go.Ev
theorem q5672 : Known 56 x5672 y5672 := knownT all2 (n := 399) (by kernel_rfl)
end Go.Proofs.YthndchidnkbgiaaGreatDoor
