/- Calls of stage 1. -/
import Derived.Test.YtndojngcaohgnaaGreatDoorDFVA
set_option linter.unusedVariables false
set_option linter.unusedSectionVars false
set_option linter.unusedSimpArgs false
set_option linter.unnecessarySimpa false
namespace Go.Proofs.YtndojngcaohgnaaGreatDoor
open Go Go.Ev
theorem q65 : Known 163 x65 y65 := knownT all0 (n := 399) (by kernel_rfl)
theorem q80 : Known 116 x80 y80 := knownT all0 (n := 399) (by kernel_rfl)
theorem q149 : Known 11 x149 y149 := knownT all0 (n := 399) (by kernel_rfl)
theorem q400 : Known 163 x400 y400 := knownT all0 (n := 399) (by kernel_rfl)
theorem q407 : Known 214 x407 y407 := knownT all0 (n := 399) (by kernel_rfl)
end Go.Proofs.YtndojngcaohgnaaGreatDoor
