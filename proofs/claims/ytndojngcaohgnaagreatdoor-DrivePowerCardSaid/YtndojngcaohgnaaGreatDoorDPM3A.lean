/- Calls of stage 3. -/
import Derived.Test.YtndojngcaohgnaaGreatDoorDPT2
set_option linter.unusedVariables false
set_option linter.unusedSectionVars false
set_option linter.unusedSimpArgs false
set_option linter.unnecessarySimpa false
namespace Go.Proofs.YtndojngcaohgnaaGreatDoor
open Go Go.Ev
theorem q141 : Known 8 x141 y141 := knownT all2 (n := 399) (by kernel_rfl)
theorem q529 : Known 25 x529 y529 := knownT all2 (n := 399) (by kernel_rfl)
theorem q778 : Known 80 x778 y778 := knownT all2 (n := 399) (by kernel_rfl)
theorem q1036 : Known 82 x1036 y1036 := knownT all2 (n := 399) (by kernel_rfl)
theorem q1228 : Known 126 x1228 y1228 := knownT all2 (n := 399) (by kernel_rfl)
theorem q1245 : Known 127 x1245 y1245 := knownT all2 (n := 399) (by kernel_rfl)
theorem q1746 : Known 25 x1746 y1746 := knownT all2 (n := 399) (by kernel_rfl)
theorem q2236 : Known 25 x2236 y2236 := knownT all2 (n := 399) (by kernel_rfl)
theorem q2346 : Known 36 x2346 y2346 := knownT all2 (n := 399) (by kernel_rfl)
end Go.Proofs.YtndojngcaohgnaaGreatDoor
