/- DrivePower: exponent 7. -/
import Derived.Test.YtndojngcaohgnaaGreatDoorDPP
set_option linter.unusedVariables false
set_option linter.unusedSectionVars false
set_option linter.unusedSimpArgs false
set_option linter.unnecessarySimpa false
namespace Go.Proofs.YtndojngcaohgnaaGreatDoor
open Go Go.Ev
theorem power7_0 (n x : Int) : last3_ n x 7 0 = some (.bool true) := by kernel_rfl
theorem power7_1 (n x : Int) : last3_ n x 7 1 = some (.bool true) := by kernel_rfl
theorem power7_2 (n x : Int) : last3_ n x 7 2 = some (.bool true) := by kernel_rfl
theorem power7_3 (n x : Int) : last3_ n x 7 3 = some (.bool true) := by kernel_rfl
theorem power7_4 (n x : Int) : last3_ n x 7 4 = some (.bool true) := by kernel_rfl
theorem power7_5 (n x : Int) : last3_ n x 7 5 = some (.bool true) := by kernel_rfl
theorem power7_6 (n x : Int) : last3_ n x 7 6 = some (.bool true) := by kernel_rfl
theorem every3_7 (n x : Int) : ∀ j : Fin 7, last3_ n x 7 (j.val : Int) = some (.bool true) := fun j => match j with
  | ⟨0, _⟩ => power7_0 n x
  | ⟨1, _⟩ => power7_1 n x
  | ⟨2, _⟩ => power7_2 n x
  | ⟨3, _⟩ => power7_3 n x
  | ⟨4, _⟩ => power7_4 n x
  | ⟨5, _⟩ => power7_5 n x
  | ⟨6, _⟩ => power7_6 n x
  | ⟨j + 7, h⟩ => absurd h (by omega)
end Go.Proofs.YtndojngcaohgnaaGreatDoor
