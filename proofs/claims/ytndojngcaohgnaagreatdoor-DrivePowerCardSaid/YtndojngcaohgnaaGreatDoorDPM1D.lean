/- Calls of stage 1. -/
import Derived.Test.YtndojngcaohgnaaGreatDoorDPVA
set_option linter.unusedVariables false
set_option linter.unusedSectionVars false
set_option linter.unusedSimpArgs false
set_option linter.unnecessarySimpa false
namespace Go.Proofs.YtndojngcaohgnaaGreatDoor
open Go Go.Ev
theorem q5288 : Known 33 x5288 y5288 := knownT all0 (n := 399) (by kernel_rfl)
theorem q5292 : Known 33 x5292 y5292 := knownT all0 (n := 399) (by kernel_rfl)
theorem q5296 : Known 33 x5296 y5296 := knownT all0 (n := 399) (by kernel_rfl)
theorem q5664 : Known 33 x5664 y5664 := knownT all0 (n := 399) (by kernel_rfl)
theorem q5738 : Known 33 x5738 y5738 := knownT all0 (n := 399) (by kernel_rfl)
theorem q5753 : Known 33 x5753 y5753 := knownT all0 (n := 399) (by kernel_rfl)
theorem q5759 : Known 33 x5759 y5759 := knownT all0 (n := 399) (by kernel_rfl)
theorem q5763 : Known 33 x5763 y5763 := knownT all0 (n := 399) (by kernel_rfl)
theorem q5767 : Known 33 x5767 y5767 := knownT all0 (n := 399) (by kernel_rfl)
theorem q5771 : Known 33 x5771 y5771 := knownT all0 (n := 399) (by kernel_rfl)
theorem q5777 : Known 33 x5777 y5777 := knownT all0 (n := 399) (by kernel_rfl)
theorem q6144 : Known 33 x6144 y6144 := knownT all0 (n := 399) (by kernel_rfl)
theorem q6217 : Known 33 x6217 y6217 := knownT all0 (n := 399) (by kernel_rfl)
theorem q6232 : Known 33 x6232 y6232 := knownT all0 (n := 399) (by kernel_rfl)
theorem q6238 : Known 33 x6238 y6238 := knownT all0 (n := 399) (by kernel_rfl)
theorem q6242 : Known 33 x6242 y6242 := knownT all0 (n := 399) (by kernel_rfl)
theorem q6246 : Known 33 x6246 y6246 := knownT all0 (n := 399) (by kernel_rfl)
theorem q6250 : Known 33 x6250 y6250 := knownT all0 (n := 399) (by kernel_rfl)
end Go.Proofs.YtndojngcaohgnaaGreatDoor
