/- DrivePower: exponent 8. -/
import Derived.Test.YtndojngcaohgnaaGreatDoorDPP
set_option linter.unusedVariables false
set_option linter.unusedSectionVars false
set_option linter.unusedSimpArgs false
set_option linter.unnecessarySimpa false
namespace Go.Proofs.YtndojngcaohgnaaGreatDoor
open Go Go.Ev
theorem power8_0 (n x : Int) : last3_ n x 8 0 = some (.bool true) := by kernel_rfl
theorem power8_1 (n x : Int) : last3_ n x 8 1 = some (.bool true) := by kernel_rfl
theorem power8_2 (n x : Int) : last3_ n x 8 2 = some (.bool true) := by kernel_rfl
theorem power8_3 (n x : Int) : last3_ n x 8 3 = some (.bool true) := by kernel_rfl
theorem power8_4 (n x : Int) : last3_ n x 8 4 = some (.bool true) := by kernel_rfl
theorem power8_5 (n x : Int) : last3_ n x 8 5 = some (.bool true) := by kernel_rfl
theorem power8_6 (n x : Int) : last3_ n x 8 6 = some (.bool true) := by kernel_rfl
theorem every3_8 (n x : Int) : ∀ j : Fin 7, last3_ n x 8 (j.val : Int) = some (.bool true) := fun j => match j with
  | ⟨0, _⟩ => power8_0 n x
  | ⟨1, _⟩ => power8_1 n x
  | ⟨2, _⟩ => power8_2 n x
  | ⟨3, _⟩ => power8_3 n x
  | ⟨4, _⟩ => power8_4 n x
  | ⟨5, _⟩ => power8_5 n x
  | ⟨6, _⟩ => power8_6 n x
  | ⟨j + 7, h⟩ => absurd h (by omega)
end Go.Proofs.YtndojngcaohgnaaGreatDoor
