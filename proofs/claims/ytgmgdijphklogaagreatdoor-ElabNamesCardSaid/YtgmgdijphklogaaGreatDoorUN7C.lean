/- ElabNames: 8 binders. -/
import Derived.Test.YtgmgdijphklogaaGreatDoorUNP
set_option linter.unusedVariables false
set_option linter.unusedSectionVars false
set_option linter.unusedSimpArgs false
set_option linter.unnecessarySimpa false
namespace Go.Proofs.YtgmgdijphklogaaGreatDoor
open Go Go.Ev
theorem names7_4 (n m : Int) : last6 n m 7 4 = some (.bool true) := by kernel_rfl
theorem names7_5 (n m : Int) : last6 n m 7 5 = some (.bool true) := by kernel_rfl
end Go.Proofs.YtgmgdijphklogaaGreatDoor
