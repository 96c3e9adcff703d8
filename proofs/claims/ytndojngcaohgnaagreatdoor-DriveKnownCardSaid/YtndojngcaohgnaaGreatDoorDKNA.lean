/- DriveKnown: texts 0 to 21. -/
import Derived.Test.YtndojngcaohgnaaGreatDoorDKP
set_option linter.unusedVariables false
set_option linter.unusedSectionVars false
set_option linter.unusedSimpArgs false
set_option linter.unnecessarySimpa false
namespace Go.Proofs.YtndojngcaohgnaaGreatDoor
open Go Go.Ev
theorem text0 (n : Int) : last5_ n 0 = some (.bool true) := by kernel_rfl
theorem text1 (n : Int) : last5_ n 1 = some (.bool true) := by kernel_rfl
theorem text2 (n : Int) : last5_ n 2 = some (.bool true) := by kernel_rfl
theorem text3 (n : Int) : last5_ n 3 = some (.bool true) := by kernel_rfl
theorem text4 (n : Int) : last5_ n 4 = some (.bool true) := by kernel_rfl
theorem text5 (n : Int) : last5_ n 5 = some (.bool true) := by kernel_rfl
theorem text6 (n : Int) : last5_ n 6 = some (.bool true) := by kernel_rfl
theorem text7 (n : Int) : last5_ n 7 = some (.bool true) := by kernel_rfl
theorem text8 (n : Int) : last5_ n 8 = some (.bool true) := by kernel_rfl
theorem text9 (n : Int) : last5_ n 9 = some (.bool true) := by kernel_rfl
theorem text10 (n : Int) : last5_ n 10 = some (.bool true) := by kernel_rfl
theorem text11 (n : Int) : last5_ n 11 = some (.bool true) := by kernel_rfl
theorem text12 (n : Int) : last5_ n 12 = some (.bool true) := by kernel_rfl
theorem text13 (n : Int) : last5_ n 13 = some (.bool true) := by kernel_rfl
theorem text14 (n : Int) : last5_ n 14 = some (.bool true) := by kernel_rfl
theorem text15 (n : Int) : last5_ n 15 = some (.bool true) := by kernel_rfl
theorem text16 (n : Int) : last5_ n 16 = some (.bool true) := by kernel_rfl
theorem text17 (n : Int) : last5_ n 17 = some (.bool true) := by kernel_rfl
theorem text18 (n : Int) : last5_ n 18 = some (.bool true) := by kernel_rfl
theorem text19 (n : Int) : last5_ n 19 = some (.bool true) := by kernel_rfl
theorem text20 (n : Int) : last5_ n 20 = some (.bool true) := by kernel_rfl
theorem text21 (n : Int) : last5_ n 21 = some (.bool true) := by kernel_rfl
end Go.Proofs.YtndojngcaohgnaaGreatDoor
