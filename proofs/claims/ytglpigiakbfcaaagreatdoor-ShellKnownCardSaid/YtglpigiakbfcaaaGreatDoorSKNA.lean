/- ShellKnown: lines 0 to 11. -/
import Derived.Test.YtglpigiakbfcaaaGreatDoorSKP
set_option linter.unusedVariables false
set_option linter.unusedSectionVars false
set_option linter.unusedSimpArgs false
set_option linter.unnecessarySimpa false
namespace Go.Proofs.YtglpigiakbfcaaaGreatDoor
open Go Go.Ev
theorem text0 (n : Int) : last3_ n 0 = some (.bool true) := by kernel_rfl
theorem text1 (n : Int) : last3_ n 1 = some (.bool true) := by kernel_rfl
theorem text2 (n : Int) : last3_ n 2 = some (.bool true) := by kernel_rfl
theorem text3 (n : Int) : last3_ n 3 = some (.bool true) := by kernel_rfl
theorem text4 (n : Int) : last3_ n 4 = some (.bool true) := by kernel_rfl
theorem text5 (n : Int) : last3_ n 5 = some (.bool true) := by kernel_rfl
theorem text6 (n : Int) : last3_ n 6 = some (.bool true) := by kernel_rfl
theorem text7 (n : Int) : last3_ n 7 = some (.bool true) := by kernel_rfl
theorem text8 (n : Int) : last3_ n 8 = some (.bool true) := by kernel_rfl
theorem text9 (n : Int) : last3_ n 9 = some (.bool true) := by kernel_rfl
theorem text10 (n : Int) : last3_ n 10 = some (.bool true) := by kernel_rfl
theorem text11 (n : Int) : last3_ n 11 = some (.bool true) := by kernel_rfl
end Go.Proofs.YtglpigiakbfcaaaGreatDoor
