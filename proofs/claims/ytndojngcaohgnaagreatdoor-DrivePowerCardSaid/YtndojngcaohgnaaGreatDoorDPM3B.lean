/- Calls of stage 3. -/
import Derived.Test.YtndojngcaohgnaaGreatDoorDPT2
set_option linter.unusedVariables false
set_option linter.unusedSectionVars false
set_option linter.unusedSimpArgs false
set_option linter.unnecessarySimpa false
namespace Go.Proofs.YtndojngcaohgnaaGreatDoor
open Go Go.Ev
theorem q2711 : Known 25 x2711 y2711 := knownT all2 (n := 399) (by kernel_rfl)
theorem q2827 : Known 36 x2827 y2827 := knownT all2 (n := 399) (by kernel_rfl)
theorem q3196 : Known 25 x3196 y3196 := knownT all2 (n := 399) (by kernel_rfl)
theorem q3679 : Known 25 x3679 y3679 := knownT all2 (n := 399) (by kernel_rfl)
theorem q3741 : Known 127 x3741 y3741 := knownT all2 (n := 399) (by kernel_rfl)
theorem q4166 : Known 25 x4166 y4166 := knownT all2 (n := 399) (by kernel_rfl)
theorem q4291 : Known 37 x4291 y4291 := knownT all2 (n := 399) (by kernel_rfl)
theorem q4650 : Known 25 x4650 y4650 := knownT all2 (n := 399) (by kernel_rfl)
theorem q4769 : Known 36 x4769 y4769 := knownT all2 (n := 399) (by kernel_rfl)
theorem q4775 : Known 37 x4775 y4775 := knownT all2 (n := 399) (by kernel_rfl)
theorem q5138 : Known 25 x5138 y5138 := knownT all2 (n := 399) (by kernel_rfl)
end Go.Proofs.YtndojngcaohgnaaGreatDoor
