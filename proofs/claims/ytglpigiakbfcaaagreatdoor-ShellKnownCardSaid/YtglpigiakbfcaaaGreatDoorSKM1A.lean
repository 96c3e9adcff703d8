/- Calls of stage 1. -/
import Derived.Test.YtglpigiakbfcaaaGreatDoorSKVA
set_option linter.unusedVariables false
set_option linter.unusedSectionVars false
set_option linter.unusedSimpArgs false
set_option linter.unnecessarySimpa false
namespace Go.Proofs.YtglpigiakbfcaaaGreatDoor
open Go Go.Ev
theorem q140 : Known 164 x140 y140 := knownT all0 (n := 399) (by kernel_rfl)
theorem q158 : Known 163 x158 y158 := knownT all0 (n := 399) (by kernel_rfl)
theorem q193 : Known 164 x193 y193 := knownT all0 (n := 399) (by kernel_rfl)
theorem q207 : Known 331 x207 y207 := knownT all0 (n := 399) (by kernel_rfl)
theorem q296 : Known 78 x296 y296 := joinK (by kernel_rfl)
theorem q366 : Known 13 x366 y366 := knownT all0 (n := 399) (by kernel_rfl)
theorem q428 : Known 13 x428 y428 := knownT all0 (n := 399) (by kernel_rfl)
theorem q654 : Known 80 x654 y654 := knownT all0 (n := 399) (by kernel_rfl)
theorem q787 : Known 160 x787 y787 := knownT all0 (n := 399) (by kernel_rfl)
theorem q811 : Known 331 x811 y811 := knownT all0 (n := 399) (by kernel_rfl)
theorem q852 : Known 142 x852 y852 := knownT all0 (n := 399) (by kernel_rfl)
theorem q892 : Known 142 x892 y892 := knownT all0 (n := 399) (by kernel_rfl)
theorem q928 : Known 104 x928 y928 := knownT all0 (n := 399) (by kernel_rfl)
theorem q1021 : Known 142 x1021 y1021 := knownT all0 (n := 399) (by kernel_rfl)
theorem q1031 : Known 104 x1031 y1031 := knownT all0 (n := 399) (by kernel_rfl)
theorem q1110 : Known 138 x1110 y1110 := knownT all0 (n := 399) (by kernel_rfl)
theorem q1178 : Known 108 x1178 y1178 := knownT all0 (n := 399) (by kernel_rfl)
theorem q1190 : Known 77 x1190 y1190 := knownT all0 (n := 399) (by kernel_rfl)
theorem q1198 : Known 78 x1198 y1198 := joinK (by kernel_rfl)
theorem q1253 : Known 104 x1253 y1253 := knownT all0 (n := 399) (by kernel_rfl)
theorem q1267 : Known 78 x1267 y1267 := joinK (by kernel_rfl)
theorem q1336 : Known 78 x1336 y1336 := joinK (by kernel_rfl)
theorem q1338 : Known 78 x1338 y1338 := joinK (by kernel_rfl)
theorem q1342 : Known 78 x1342 y1342 := joinK (by kernel_rfl)
theorem q1366 : Known 78 x1366 y1366 := joinK (by kernel_rfl)
theorem q1370 : Known 78 x1370 y1370 := joinK (by kernel_rfl)
theorem q1419 : Known 78 x1419 y1419 := joinK (by kernel_rfl)
theorem q1423 : Known 78 x1423 y1423 := joinK (by kernel_rfl)
theorem q1637 : Known 78 x1637 y1637 := joinK (by kernel_rfl)
theorem q1646 : Known 78 x1646 y1646 := joinK (by kernel_rfl)
theorem q1650 : Known 78 x1650 y1650 := joinK (by kernel_rfl)
theorem q1797 : Known 78 x1797 y1797 := joinK (by kernel_rfl)
theorem q1803 : Known 78 x1803 y1803 := joinK (by kernel_rfl)
end Go.Proofs.YtglpigiakbfcaaaGreatDoor
