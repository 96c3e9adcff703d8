/- Calls of stage 4. -/
import Derived.Test.YtndojngcaohgnaaGreatDoorDPT3
set_option linter.unusedVariables false
set_option linter.unusedSectionVars false
set_option linter.unusedSimpArgs false
set_option linter.unnecessarySimpa false
namespace Go.Proofs.YtndojngcaohgnaaGreatDoor
open Go Go.Ev
theorem q1132 : Known 30 x1132 y1132 := knownT all3 (n := 399) (by kernel_rfl)
theorem q1259 : Known 35 x1259 y1259 := knownT all3 (n := 399) (by kernel_rfl)
theorem q1801 : Known 30 x1801 y1801 := knownT all3 (n := 399) (by kernel_rfl)
theorem q1824 : Known 35 x1824 y1824 := knownT all3 (n := 399) (by kernel_rfl)
theorem q2291 : Known 30 x2291 y2291 := knownT all3 (n := 399) (by kernel_rfl)
theorem q2314 : Known 35 x2314 y2314 := knownT all3 (n := 399) (by kernel_rfl)
theorem q2766 : Known 30 x2766 y2766 := knownT all3 (n := 399) (by kernel_rfl)
theorem q2789 : Known 35 x2789 y2789 := knownT all3 (n := 399) (by kernel_rfl)
end Go.Proofs.YtndojngcaohgnaaGreatDoor
