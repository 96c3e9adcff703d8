/- Calls of stage 3. -/
import Derived.Test.YtndojngcaohgnaaGreatDoorDPT2
set_option linter.unusedVariables false
set_option linter.unusedSectionVars false
set_option linter.unusedSimpArgs false
set_option linter.unnecessarySimpa false
namespace Go.Proofs.YtndojngcaohgnaaGreatDoor
open Go Go.Ev
theorem q5258 : Known 37 x5258 y5258 := knownT all2 (n := 399) (by kernel_rfl)
theorem q5272 : Known 12 x5272 y5272 := knownT all2 (n := 399) (by kernel_rfl)
theorem q5617 : Known 25 x5617 y5617 := knownT all2 (n := 399) (by kernel_rfl)
theorem q5734 : Known 66 x5734 y5734 := knownT all2 (n := 399) (by kernel_rfl)
theorem q5750 : Known 12 x5750 y5750 := knownT all2 (n := 399) (by kernel_rfl)
theorem q6097 : Known 25 x6097 y6097 := knownT all2 (n := 399) (by kernel_rfl)
theorem q6572 : Known 25 x6572 y6572 := knownT all2 (n := 399) (by kernel_rfl)
theorem q6685 : Known 36 x6685 y6685 := knownT all2 (n := 399) (by kernel_rfl)
end Go.Proofs.YtndojngcaohgnaaGreatDoor
