/- ElabBinders: what is told of the forms 0 to 11. -/
import Derived.Test.YtdfeffddghpaoaaGreatDoorZ2
set_option linter.unusedVariables false
set_option linter.unusedSectionVars false
set_option linter.unusedSimpArgs false
set_option linter.unnecessarySimpa false
namespace Go.Proofs.YtdfeffddghpaoaaGreatDoor
open Go Go.Ev
theorem toldB0 : (orcF cfg 399).clo 9 [.str ⟨#[40, 108, 101, 116, 32, 40, 97, 32, 99, 41, 32, 40, 97, 100, 100, 32, 97, 32, 97, 41, 41]⟩] = some (.str ⟨#[40, 50, 56, 32, 40, 51, 48, 32, 118, 51, 41, 32, 40, 50, 54, 47, 48, 32, 118, 48, 32, 118, 48, 41, 41, 32, 48, 32, 49, 53]⟩) := by kernel_rfl
theorem toldB1 : (orcF cfg 399).clo 9 [.str ⟨#[40, 108, 101, 116, 32, 40, 97, 32, 110, 41, 32, 97, 41]⟩] = some (.str ⟨#[115, 116, 97, 103, 101]⟩) := by kernel_rfl
theorem toldB2 : (orcF cfg 399).clo 9 [.str ⟨#[40, 108, 101, 116, 32, 40, 120, 32, 104, 41, 32, 40, 120, 32, 49, 41, 41]⟩] = some (.str ⟨#[40, 50, 56, 32, 118, 48, 32, 40, 50, 49, 32, 118, 48, 32, 105, 49, 41, 41, 32, 48, 32, 49, 53]⟩) := by kernel_rfl
theorem toldB3 : (orcF cfg 399).clo 9 [.str ⟨#[40, 102, 105, 120, 32, 40, 97, 32, 73, 110, 116, 41, 32, 97, 41]⟩] = some (.str ⟨#[40, 50, 57, 32, 49, 53, 32, 118, 48, 41, 32, 48, 32, 49, 53]⟩) := by kernel_rfl
theorem toldB4 : (orcF cfg 399).clo 9 [.str ⟨#[40, 102, 105, 120, 32, 40, 97, 32, 40, 45, 62, 32, 73, 110, 116, 32, 73, 110, 116, 41, 41, 32, 40, 102, 110, 32, 98, 32, 40, 97, 32, 98, 41, 41, 41]⟩] = some (.str ⟨#[40, 50, 57, 32, 40, 49, 54, 32, 49, 53, 32, 49, 53, 41, 32, 40, 50, 48, 32, 49, 53, 32, 40, 50, 49, 32, 118, 49, 32, 118, 48, 41, 41, 41, 32, 48, 32, 40, 49, 54, 32, 49, 53, 32, 49, 53, 41]⟩) := by kernel_rfl
theorem toldB5 : (orcF cfg 399).clo 9 [.str ⟨#[40, 102, 105, 120, 32, 40, 97, 32, 78, 97, 116, 41, 32, 97, 41]⟩] = some (.str ⟨#[116, 121, 112, 101]⟩) := by kernel_rfl
theorem toldB6 : (orcF cfg 399).clo 9 [.str ⟨#[40, 102, 105, 120, 32, 40, 97, 32, 73, 110, 116, 41, 32, 110, 41]⟩] = some (.str ⟨#[115, 116, 97, 103, 101]⟩) := by kernel_rfl
theorem toldB7 : (orcF cfg 399).clo 9 [.str ⟨#[40, 116, 104, 101, 32, 78, 97, 116, 32, 51, 41]⟩] = some (.str ⟨#[40, 49, 50, 32, 40, 49, 50, 32, 40, 49, 50, 32, 49, 49, 41, 41, 41, 32, 49, 32, 49, 48]⟩) := by kernel_rfl
theorem toldB8 : (orcF cfg 399).clo 9 [.str ⟨#[40, 116, 104, 101, 32, 73, 110, 116, 32, 51, 41]⟩] = some (.str ⟨#[105, 51, 32, 48, 32, 49, 53]⟩) := by kernel_rfl
theorem toldB9 : (orcF cfg 399).clo 9 [.str ⟨#[40, 116, 104, 101, 32, 40, 108, 105, 102, 116, 32, 73, 110, 116, 41, 32, 51, 41]⟩] = some (.str ⟨#[40, 49, 57, 32, 105, 51, 41, 32, 49, 32, 40, 49, 56, 32, 49, 53, 41]⟩) := by kernel_rfl
theorem toldB10 : (orcF cfg 399).clo 9 [.str ⟨#[40, 116, 104, 101, 32, 40, 45, 62, 32, 78, 97, 116, 32, 78, 97, 116, 41, 32, 40, 102, 110, 32, 97, 32, 97, 41, 41]⟩] = some (.str ⟨#[40, 52, 32, 49, 48, 32, 118, 48, 41, 32, 49, 32, 40, 51, 32, 49, 48, 32, 49, 48, 41]⟩) := by kernel_rfl
theorem toldB11 : (orcF cfg 399).clo 9 [.str ⟨#[40, 116, 104, 101, 32, 40, 45, 62, 32, 73, 110, 116, 32, 73, 110, 116, 41, 32, 40, 102, 110, 32, 97, 32, 97, 41, 41]⟩] = some (.str ⟨#[40, 50, 48, 32, 49, 53, 32, 118, 48, 41, 32, 48, 32, 40, 49, 54, 32, 49, 53, 32, 49, 53, 41]⟩) := by kernel_rfl
end Go.Proofs.YtdfeffddghpaoaaGreatDoor
