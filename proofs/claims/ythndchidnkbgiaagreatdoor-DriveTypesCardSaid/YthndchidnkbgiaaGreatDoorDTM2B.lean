/- Calls of stage 2. -/
import Derived.Test.YthndchidnkbgiaaGreatDoorDTT1
set_option linter.unusedVariables false
set_option linter.unusedSectionVars false
set_option linter.unusedSimpArgs false
set_option linter.unnecessarySimpa false
namespace Go.Proofs.YthndchidnkbgiaaGreatDoor
open Go Go.Ev
theorem q1195 : Known 77 x1195 y1195 := knownT all1 (n := 399) (by kernel_rfl)
theorem q1258 : Known 117 x1258 y1258 := knownT all1 (n := 399) (by kernel_rfl)
theorem q1359 : Known 56 x1359 y1359 := knownT all1 (n := 399) (by kernel_rfl)
theorem q1466 : Known 56 x1466 y1466 := knownT all1 (n := 399) (by kernel_rfl)
theorem q1476 : Known 56 x1476 y1476 := knownT all1 (n := 399) (by kernel_rfl)
theorem q1553 : Known 56 x1553 y1553 := knownT all1 (n := 399) (by kernel_rfl)
theorem q1563 : Known 174 x1563 y1563 := knownT all1 (n := 399) (by kernel_rfl)
theorem q1608 : Known 56 x1608 y1608 := knownT all1 (n := 399) (by kernel_rfl)
theorem q1716 : Known 56 x1716 y1716 := knownT all1 (n := 399) (by kernel_rfl)
theorem q1724 : Known 85 x1724 y1724 := knownT all1 (n := 399) (by kernel_rfl)
theorem q1771 : Known 116 x1771 y1771 := knownT all1 (n := 399) (by kernel_rfl)
end Go.Proofs.YthndchidnkbgiaaGreatDoor
