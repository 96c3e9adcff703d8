/- Calls of stage 1. -/
import Derived.Test.YthndchidnkbgiaaGreatDoorDT1
set_option linter.unusedVariables false
set_option linter.unusedSectionVars false
set_option linter.unusedSimpArgs false
set_option linter.unnecessarySimpa false
namespace Go.Proofs.YthndchidnkbgiaaGreatDoor
open Go Go.Ev
theorem q898 : Known 111 x898 y898 := knownT all0 (n := 399) (by kernel_rfl)
theorem q972 : Known 158 x972 y972 := knownT all0 (n := 399) (by kernel_rfl)
theorem q1019 : Known 56 x1019 y1019 := knownT all0 (n := 399) (by kernel_rfl)
theorem q1122 : Known 209 x1122 y1122 := knownT all0 (n := 399) (by kernel_rfl)
theorem q1163 : Known 209 x1163 y1163 := knownT all0 (n := 399) (by kernel_rfl)
theorem q1198 : Known 167 x1198 y1198 := knownT all0 (n := 399) (by kernel_rfl)
theorem q1309 : Known 118 x1309 y1309 := knownT all0 (n := 399) (by kernel_rfl)
theorem q1333 : Known 116 x1333 y1333 := knownT all0 (n := 399) (by kernel_rfl)
theorem q1337 : Known 85 x1337 y1337 := knownT all0 (n := 399) (by kernel_rfl)
theorem q1346 : Known 85 x1346 y1346 := knownT all0 (n := 399) (by kernel_rfl)
theorem q1458 : Known 186 x1458 y1458 := knownT all0 (n := 399) (by kernel_rfl)
theorem q1512 : Known 118 x1512 y1512 := knownT all0 (n := 399) (by kernel_rfl)
theorem q1538 : Known 186 x1538 y1538 := knownT all0 (n := 399) (by kernel_rfl)
theorem q1597 : Known 118 x1597 y1597 := knownT all0 (n := 399) (by kernel_rfl)
theorem q1623 : Known 209 x1623 y1623 := knownT all0 (n := 399) (by kernel_rfl)
theorem q1650 : Known 186 x1650 y1650 := knownT all0 (n := 399) (by kernel_rfl)
theorem q1657 : Known 56 x1657 y1657 := knownT all0 (n := 399) (by kernel_rfl)
theorem q1670 : Known 251 x1670 y1670 := knownT all0 (n := 399) (by kernel_rfl)
theorem q1709 : Known 186 x1709 y1709 := knownT all0 (n := 399) (by kernel_rfl)
theorem q1805 : Known 186 x1805 y1805 := knownT all0 (n := 399) (by kernel_rfl)
theorem q2040 : Known 85 x2040 y2040 := knownT all0 (n := 399) (by kernel_rfl)
theorem q2181 : Known 19 x2181 y2181 := knownT all0 (n := 399) (by kernel_rfl)
end Go.Proofs.YthndchidnkbgiaaGreatDoor
