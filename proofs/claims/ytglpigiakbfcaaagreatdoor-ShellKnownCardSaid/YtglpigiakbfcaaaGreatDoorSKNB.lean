/- ShellKnown: lines 12 to 21. -/
import Derived.Test.YtglpigiakbfcaaaGreatDoorSKP
set_option linter.unusedVariables false
set_option linter.unusedSectionVars false
set_option linter.unusedSimpArgs false
set_option linter.unnecessarySimpa false
namespace Go.Proofs.YtglpigiakbfcaaaGreatDoor
open Go Go.Ev
theorem text12 (n : Int) : last3_ n 12 = some (.bool true) := by kernel_rfl
theorem text13 (n : Int) : last3_ n 13 = some (.bool true) := by kernel_rfl
theorem text14 (n : Int) : last3_ n 14 = some (.bool true) := by kernel_rfl
theorem text15 (n : Int) : last3_ n 15 = some (.bool true) := by kernel_rfl
theorem text16 (n : Int) : last3_ n 16 = some (.bool true) := by kernel_rfl
theorem text17 (n : Int) : last3_ n 17 = some (.bool true) := by kernel_rfl
theorem text18 (n : Int) : last3_ n 18 = some (.bool true) := by kernel_rfl
theorem text19 (n : Int) : last3_ n 19 = some (.bool true) := by kernel_rfl
theorem text20 (n : Int) : last3_ n 20 = some (.bool true) := by kernel_rfl
theorem text21 (n : Int) : last3_ n 21 = some (.bool true) := by kernel_rfl
end Go.Proofs.YtglpigiakbfcaaaGreatDoor
