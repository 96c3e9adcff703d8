/- Calls of stage 1. -/
import Derived.Test.YtndojngcaohgnaaGreatDoorDPVA
set_option linter.unusedVariables false
set_option linter.unusedSectionVars false
set_option linter.unusedSimpArgs false
set_option linter.unnecessarySimpa false
namespace Go.Proofs.YtndojngcaohgnaaGreatDoor
open Go Go.Ev
theorem q4213 : Known 33 x4213 y4213 := knownT all0 (n := 399) (by kernel_rfl)
theorem q4292 : Known 33 x4292 y4292 := knownT all0 (n := 399) (by kernel_rfl)
theorem q4301 : Known 22 x4301 y4301 := knownT all0 (n := 399) (by kernel_rfl)
theorem q4307 : Known 33 x4307 y4307 := knownT all0 (n := 399) (by kernel_rfl)
theorem q4313 : Known 33 x4313 y4313 := knownT all0 (n := 399) (by kernel_rfl)
theorem q4317 : Known 33 x4317 y4317 := knownT all0 (n := 399) (by kernel_rfl)
theorem q4321 : Known 33 x4321 y4321 := knownT all0 (n := 399) (by kernel_rfl)
theorem q4325 : Known 33 x4325 y4325 := knownT all0 (n := 399) (by kernel_rfl)
theorem q4329 : Known 33 x4329 y4329 := knownT all0 (n := 399) (by kernel_rfl)
theorem q4697 : Known 33 x4697 y4697 := knownT all0 (n := 399) (by kernel_rfl)
theorem q4776 : Known 33 x4776 y4776 := knownT all0 (n := 399) (by kernel_rfl)
theorem q4791 : Known 33 x4791 y4791 := knownT all0 (n := 399) (by kernel_rfl)
theorem q4797 : Known 33 x4797 y4797 := knownT all0 (n := 399) (by kernel_rfl)
theorem q4801 : Known 33 x4801 y4801 := knownT all0 (n := 399) (by kernel_rfl)
theorem q4805 : Known 33 x4805 y4805 := knownT all0 (n := 399) (by kernel_rfl)
theorem q4809 : Known 33 x4809 y4809 := knownT all0 (n := 399) (by kernel_rfl)
theorem q4815 : Known 33 x4815 y4815 := knownT all0 (n := 399) (by kernel_rfl)
theorem q5185 : Known 33 x5185 y5185 := knownT all0 (n := 399) (by kernel_rfl)
theorem q5217 : Known 90 x5217 y5217 := knownT all0 (n := 399) (by kernel_rfl)
theorem q5259 : Known 33 x5259 y5259 := knownT all0 (n := 399) (by kernel_rfl)
theorem q5274 : Known 33 x5274 y5274 := knownT all0 (n := 399) (by kernel_rfl)
theorem q5280 : Known 33 x5280 y5280 := knownT all0 (n := 399) (by kernel_rfl)
theorem q5284 : Known 33 x5284 y5284 := knownT all0 (n := 399) (by kernel_rfl)
end Go.Proofs.YtndojngcaohgnaaGreatDoor
