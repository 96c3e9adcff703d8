/- DrivePower: exponent 9. -/
import Derived.Test.YtndojngcaohgnaaGreatDoorDPP
set_option linter.unusedVariables false
set_option linter.unusedSectionVars false
set_option linter.unusedSimpArgs false
set_option linter.unnecessarySimpa false
namespace Go.Proofs.YtndojngcaohgnaaGreatDoor
open Go Go.Ev
theorem power9_0 (n x : Int) : last3_ n x 9 0 = some (.bool true) := by kernel_rfl
theorem power9_1 (n x : Int) : last3_ n x 9 1 = some (.bool true) := by kernel_rfl
theorem power9_2 (n x : Int) : last3_ n x 9 2 = some (.bool true) := by kernel_rfl
theorem power9_3 (n x : Int) : last3_ n x 9 3 = some (.bool true) := by kernel_rfl
theorem power9_4 (n x : Int) : last3_ n x 9 4 = some (.bool true) := by kernel_rfl
theorem power9_5 (n x : Int) : last3_ n x 9 5 = some (.bool true) := by kernel_rfl
theorem power9_6 (n x : Int) : last3_ n x 9 6 = some (.bool true) := by kernel_rfl
theorem every3_9 (n x : Int) : ∀ j : Fin 7, last3_ n x 9 (j.val : Int) = some (.bool true) := fun j => match j with
  | ⟨0, _⟩ => power9_0 n x
  | ⟨1, _⟩ => power9_1 n x
  | ⟨2, _⟩ => power9_2 n x
  | ⟨3, _⟩ => power9_3 n x
  | ⟨4, _⟩ => power9_4 n x
  | ⟨5, _⟩ => power9_5 n x
  | ⟨6, _⟩ => power9_6 n x
  | ⟨j + 7, h⟩ => absurd h (by omega)
end Go.Proofs.YtndojngcaohgnaaGreatDoor
