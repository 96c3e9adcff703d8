/- DrivePower: exponent 11. -/
import Derived.Test.YtndojngcaohgnaaGreatDoorDPP
set_option linter.unusedVariables false
set_option linter.unusedSectionVars false
set_option linter.unusedSimpArgs false
set_option linter.unnecessarySimpa false
namespace Go.Proofs.YtndojngcaohgnaaGreatDoor
open Go Go.Ev
theorem power11_0 (n x : Int) : last3_ n x 11 0 = some (.bool true) := by kernel_rfl
theorem power11_1 (n x : Int) : last3_ n x 11 1 = some (.bool true) := by kernel_rfl
theorem power11_2 (n x : Int) : last3_ n x 11 2 = some (.bool true) := by kernel_rfl
theorem power11_3 (n x : Int) : last3_ n x 11 3 = some (.bool true) := by kernel_rfl
theorem power11_4 (n x : Int) : last3_ n x 11 4 = some (.bool true) := by kernel_rfl
theorem power11_5 (n x : Int) : last3_ n x 11 5 = some (.bool true) := by kernel_rfl
theorem power11_6 (n x : Int) : last3_ n x 11 6 = some (.bool true) := by kernel_rfl
theorem every3_11 (n x : Int) : ∀ j : Fin 7, last3_ n x 11 (j.val : Int) = some (.bool true) := fun j => match j with
  | ⟨0, _⟩ => power11_0 n x
  | ⟨1, _⟩ => power11_1 n x
  | ⟨2, _⟩ => power11_2 n x
  | ⟨3, _⟩ => power11_3 n x
  | ⟨4, _⟩ => power11_4 n x
  | ⟨5, _⟩ => power11_5 n x
  | ⟨6, _⟩ => power11_6 n x
  | ⟨j + 7, h⟩ => absurd h (by omega)
end Go.Proofs.YtndojngcaohgnaaGreatDoor
