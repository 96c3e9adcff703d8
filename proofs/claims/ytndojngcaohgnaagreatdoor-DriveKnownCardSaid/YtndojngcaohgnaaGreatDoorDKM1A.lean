/- Calls of stage 1. -/
import Derived.Test.YtndojngcaohgnaaGreatDoorDKVA
set_option linter.unusedVariables false
set_option linter.unusedSectionVars false
set_option linter.unusedSimpArgs false
set_option linter.unnecessarySimpa false
namespace Go.Proofs.YtndojngcaohgnaaGreatDoor
open Go Go.Ev
theorem q65 : Known 163 x65 y65 := knownT all0 (n := 399) (by kernel_rfl)
theorem q80 : Known 116 x80 y80 := knownT all0 (n := 399) (by kernel_rfl)
theorem q734 : Known 163 x734 y734 := knownT all0 (n := 399) (by kernel_rfl)
theorem q914 : Known 61 x914 y914 := knownT all0 (n := 399) (by kernel_rfl)
theorem q945 : Known 214 x945 y945 := knownT all0 (n := 399) (by kernel_rfl)
theorem q1103 : Known 214 x1103 y1103 := knownT all0 (n := 399) (by kernel_rfl)
theorem q1480 : Known 33 x1480 y1480 := knownT all0 (n := 399) (by kernel_rfl)
theorem q1664 : Known 61 x1664 y1664 := knownT all0 (n := 399) (by kernel_rfl)
theorem q1673 : Known 61 x1673 y1673 := knownT all0 (n := 399) (by kernel_rfl)
theorem q2053 : Known 33 x2053 y2053 := knownT all0 (n := 399) (by kernel_rfl)
theorem q2315 : Known 44 x2315 y2315 := knownT all0 (n := 399) (by kernel_rfl)
theorem q2417 : Known 33 x2417 y2417 := knownT all0 (n := 399) (by kernel_rfl)
theorem q2512 : Known 61 x2512 y2512 := knownT all0 (n := 399) (by kernel_rfl)
theorem q2575 : Known 214 x2575 y2575 := knownT all0 (n := 399) (by kernel_rfl)
theorem q2596 : Known 33 x2596 y2596 := knownT all0 (n := 399) (by kernel_rfl)
end Go.Proofs.YtndojngcaohgnaaGreatDoor
