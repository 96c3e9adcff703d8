/- DrivePower: exponent 4. -/
import Derived.Test.YtndojngcaohgnaaGreatDoorDPP
set_option linter.unusedVariables false
set_option linter.unusedSectionVars false
set_option linter.unusedSimpArgs false
set_option linter.unnecessarySimpa false
namespace Go.Proofs.YtndojngcaohgnaaGreatDoor
open Go Go.Ev
theorem power4_0 (n x : Int) : last3_ n x 4 0 = some (.bool true) := by kernel_rfl
theorem power4_1 (n x : Int) : last3_ n x 4 1 = some (.bool true) := by kernel_rfl
theorem power4_2 (n x : Int) : last3_ n x 4 2 = some (.bool true) := by kernel_rfl
theorem power4_3 (n x : Int) : last3_ n x 4 3 = some (.bool true) := by kernel_rfl
theorem power4_4 (n x : Int) : last3_ n x 4 4 = some (.bool true) := by kernel_rfl
theorem power4_5 (n x : Int) : last3_ n x 4 5 = some (.bool true) := by kernel_rfl
theorem power4_6 (n x : Int) : last3_ n x 4 6 = some (.bool true) := by kernel_rfl
theorem every3_4 (n x : Int) : ∀ j : Fin 7, last3_ n x 4 (j.val : Int) = some (.bool true) := fun j => match j with
  | ⟨0, _⟩ => power4_0 n x
  | ⟨1, _⟩ => power4_1 n x
  | ⟨2, _⟩ => power4_2 n x
  | ⟨3, _⟩ => power4_3 n x
  | ⟨4, _⟩ => power4_4 n x
  | ⟨5, _⟩ => power4_5 n x
  | ⟨6, _⟩ => power4_6 n x
  | ⟨j + 7, h⟩ => absurd h (by omega)
end Go.Proofs.YtndojngcaohgnaaGreatDoor
