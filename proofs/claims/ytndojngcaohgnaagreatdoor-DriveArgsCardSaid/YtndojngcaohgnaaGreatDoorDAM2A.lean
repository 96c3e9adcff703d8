/- Calls of stage 2. -/
import Derived.Test.YtndojngcaohgnaaGreatDoorDAT1
set_option linter.unusedVariables false
set_option linter.unusedSectionVars false
set_option linter.unusedSimpArgs false
set_option linter.unnecessarySimpa false
namespace Go.Proofs.YtndojngcaohgnaaGreatDoor
open Go Go.Ev
theorem q71 : Known 26 x71 y71 := knownT all1 (n := 399) (by kernel_rfl)
theorem q106 : Known 30 x106 y106 := knownT all1 (n := 399) (by kernel_rfl)
theorem q282 : Known 26 x282 y282 := knownT all1 (n := 399) (by kernel_rfl)
theorem q479 : Known 80 x479 y479 := knownT all1 (n := 399) (by kernel_rfl)
theorem q532 : Known 35 x532 y532 := knownT all1 (n := 399) (by kernel_rfl)
theorem q796 : Known 270 x796 y796 := knownT all1 (n := 399) (by kernel_rfl)
theorem q808 : Known 271 x808 y808 := knownT all1 (n := 399) (by kernel_rfl)
theorem q822 : Known 120 x822 y822 := knownT all1 (n := 399) (by kernel_rfl)
theorem q858 : Known 127 x858 y858 := knownT all1 (n := 399) (by kernel_rfl)
end Go.Proofs.YtndojngcaohgnaaGreatDoor
