/- ElabForms: what is told of the forms 12 to 23. -/
import Derived.Test.YtdfeffddghpaoaaGreatDoorZ2
set_option linter.unusedVariables false
set_option linter.unusedSectionVars false
set_option linter.unusedSimpArgs false
set_option linter.unnecessarySimpa false
namespace Go.Proofs.YtdfeffddghpaoaaGreatDoor
open Go Go.Ev
theorem toldF12 : (orcF cfg 399).clo 9 [.str ⟨#[40, 42, 32, 78, 97, 116, 32, 78, 97, 116, 41]⟩] = some (.str ⟨#[40, 54, 32, 49, 48, 32, 49, 48, 41, 32, 49, 32, 85, 48]⟩) := by kernel_rfl
theorem toldF13 : (orcF cfg 399).clo 9 [.str ⟨#[40, 42, 32, 73, 110, 116, 32, 78, 97, 116, 41]⟩] = some (.str ⟨#[116, 121, 112, 101]⟩) := by kernel_rfl
theorem toldF14 : (orcF cfg 399).clo 9 [.str ⟨#[40, 45, 62, 32, 78, 97, 116, 32, 73, 110, 116, 41]⟩] = some (.str ⟨#[115, 104, 97, 112, 101]⟩) := by kernel_rfl
theorem toldF15 : (orcF cfg 399).clo 9 [.str ⟨#[40, 112, 97, 105, 114, 32, 120, 32, 49, 41]⟩] = some (.str ⟨#[40, 50, 50, 32, 118, 49, 32, 105, 49, 41, 32, 48, 32, 40, 49, 55, 32, 49, 53, 32, 49, 53, 41]⟩) := by kernel_rfl
theorem toldF16 : (orcF cfg 399).clo 9 [.str ⟨#[40, 112, 97, 105, 114, 32, 49, 32, 99, 41]⟩] = some (.str ⟨#[40, 50, 50, 32, 105, 49, 32, 40, 51, 48, 32, 118, 51, 41, 41, 32, 48, 32, 40, 49, 55, 32, 49, 53, 32, 49, 53, 41]⟩) := by kernel_rfl
theorem toldF17 : (orcF cfg 399).clo 9 [.str ⟨#[40, 112, 97, 105, 114, 32, 110, 32, 49, 41]⟩] = some (.str ⟨#[103, 117, 101, 115, 115]⟩) := by kernel_rfl
theorem toldF18 : (orcF cfg 399).clo 9 [.str ⟨#[40, 102, 115, 116, 32, 40, 112, 97, 105, 114, 32, 49, 32, 50, 41, 41]⟩] = some (.str ⟨#[40, 50, 51, 32, 40, 50, 50, 32, 105, 49, 32, 105, 50, 41, 41, 32, 48, 32, 49, 53]⟩) := by kernel_rfl
theorem toldF19 : (orcF cfg 399).clo 9 [.str ⟨#[40, 115, 110, 100, 32, 120, 41]⟩] = some (.str ⟨#[115, 104, 97, 112, 101]⟩) := by kernel_rfl
theorem toldF20 : (orcF cfg 399).clo 9 [.str ⟨#[40, 102, 115, 116, 32, 110, 41]⟩] = some (.str ⟨#[115, 116, 97, 103, 101]⟩) := by kernel_rfl
theorem toldF21 : (orcF cfg 399).clo 9 [.str ⟨#[40, 115, 117, 99, 32, 110, 41]⟩] = some (.str ⟨#[40, 49, 50, 32, 118, 53, 41, 32, 49, 32, 49, 48]⟩) := by kernel_rfl
theorem toldF22 : (orcF cfg 399).clo 9 [.str ⟨#[40, 115, 117, 99, 32, 120, 41]⟩] = some (.str ⟨#[115, 116, 97, 103, 101]⟩) := by kernel_rfl
theorem toldF23 : (orcF cfg 399).clo 9 [.str ⟨#[40, 108, 105, 102, 116, 32, 73, 110, 116, 41]⟩] = some (.str ⟨#[40, 49, 56, 32, 49, 53, 41, 32, 49, 32, 85, 48]⟩) := by kernel_rfl
end Go.Proofs.YtdfeffddghpaoaaGreatDoor
