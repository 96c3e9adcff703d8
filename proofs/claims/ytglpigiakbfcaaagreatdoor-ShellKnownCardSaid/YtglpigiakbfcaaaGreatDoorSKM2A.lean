/- Calls of stage 2. -/
import Derived.Test.YtglpigiakbfcaaaGreatDoorSKT1
set_option linter.unusedVariables false
set_option linter.unusedSectionVars false
set_option linter.unusedSimpArgs false
set_option linter.unnecessarySimpa false
namespace Go.Proofs.YtglpigiakbfcaaaGreatDoor
open Go Go.Ev
theorem q229 : Known 56 x229 y229 := knownT all1 (n := 399) (by kernel_rfl)
theorem q667 : Known 54 x667 y667 := knownT all1 (n := 399) (by kernel_rfl)
theorem q690 : Known 97 x690 y690 := knownT all1 (n := 399) (by kernel_rfl)
theorem q764 : Known 134 x764 y764 := knownT all1 (n := 399) (by kernel_rfl)
theorem q819 : Known 292 x819 y819 := knownT all1 (n := 399) (by kernel_rfl)
theorem q897 : Known 214 x897 y897 := knownT all1 (n := 399) (by kernel_rfl)
theorem q913 : Known 331 x913 y913 := knownT all1 (n := 399) (by kernel_rfl)
theorem q938 : Known 118 x938 y938 := knownT all1 (n := 399) (by kernel_rfl)
theorem q1162 : Known 107 x1162 y1162 := knownT all1 (n := 399) (by kernel_rfl)
theorem q1652 : Known 6 x1652 y1652 := knownT all1 (n := 399) (by kernel_rfl)
end Go.Proofs.YtglpigiakbfcaaaGreatDoor
