/- ElabForms: what is told of the forms 0 to 11. -/
import Derived.Test.YtdfeffddghpaoaaGreatDoorZ2
set_option linter.unusedVariables false
set_option linter.unusedSectionVars false
set_option linter.unusedSimpArgs false
set_option linter.unnecessarySimpa false
namespace Go.Proofs.YtdfeffddghpaoaaGreatDoor
open Go Go.Ev
theorem toldF0 : (orcF cfg 399).clo 9 [.str ⟨#[40, 102, 110, 32, 40, 97, 32, 78, 97, 116, 41, 32, 97, 41]⟩] = some (.str ⟨#[40, 52, 32, 49, 48, 32, 118, 48, 41, 32, 49, 32, 40, 51, 32, 49, 48, 32, 49, 48, 41]⟩) := by kernel_rfl
theorem toldF1 : (orcF cfg 399).clo 9 [.str ⟨#[40, 102, 110, 32, 40, 97, 32, 73, 110, 116, 41, 32, 97, 41]⟩] = some (.str ⟨#[40, 50, 48, 32, 49, 53, 32, 118, 48, 41, 32, 48, 32, 40, 49, 54, 32, 49, 53, 32, 49, 53, 41]⟩) := by kernel_rfl
theorem toldF2 : (orcF cfg 399).clo 9 [.str ⟨#[40, 102, 110, 32, 40, 97, 32, 73, 110, 116, 41, 32, 99, 41]⟩] = some (.str ⟨#[40, 50, 48, 32, 49, 53, 32, 40, 51, 48, 32, 118, 52, 41, 41, 32, 48, 32, 40, 49, 54, 32, 49, 53, 32, 49, 53, 41]⟩) := by kernel_rfl
theorem toldF3 : (orcF cfg 399).clo 9 [.str ⟨#[40, 102, 110, 32, 40, 97, 32, 78, 97, 116, 41, 32, 120, 41]⟩] = some (.str ⟨#[115, 116, 97, 103, 101]⟩) := by kernel_rfl
theorem toldF4 : (orcF cfg 399).clo 9 [.str ⟨#[40, 102, 110, 32, 97, 32, 97, 41]⟩] = some (.str ⟨#[103, 117, 101, 115, 115]⟩) := by kernel_rfl
theorem toldF5 : (orcF cfg 399).clo 9 [.str ⟨#[40, 102, 110, 32, 40, 97, 32, 110, 41, 32, 97, 41]⟩] = some (.str ⟨#[115, 104, 97, 112, 101]⟩) := by kernel_rfl
theorem toldF6 : (orcF cfg 399).clo 9 [.str ⟨#[40, 102, 110, 32, 40, 97, 32, 120, 41, 32, 97, 41]⟩] = some (.str ⟨#[115, 116, 97, 103, 101]⟩) := by kernel_rfl
theorem toldF7 : (orcF cfg 399).clo 9 [.str ⟨#[40, 112, 105, 32, 40, 97, 32, 78, 97, 116, 41, 32, 85, 48, 41]⟩] = some (.str ⟨#[40, 51, 32, 49, 48, 32, 85, 48, 41, 32, 49, 32, 85, 49]⟩) := by kernel_rfl
theorem toldF8 : (orcF cfg 399).clo 9 [.str ⟨#[40, 115, 105, 103, 32, 40, 97, 32, 85, 48, 41, 32, 97, 41]⟩] = some (.str ⟨#[40, 54, 32, 85, 48, 32, 118, 48, 41, 32, 49, 32, 85, 49]⟩) := by kernel_rfl
theorem toldF9 : (orcF cfg 399).clo 9 [.str ⟨#[40, 112, 105, 32, 40, 97, 32, 110, 41, 32, 78, 97, 116, 41]⟩] = some (.str ⟨#[115, 104, 97, 112, 101]⟩) := by kernel_rfl
theorem toldF10 : (orcF cfg 399).clo 9 [.str ⟨#[40, 45, 62, 32, 78, 97, 116, 32, 85, 48, 41]⟩] = some (.str ⟨#[40, 51, 32, 49, 48, 32, 85, 48, 41, 32, 49, 32, 85, 49]⟩) := by kernel_rfl
theorem toldF11 : (orcF cfg 399).clo 9 [.str ⟨#[40, 45, 62, 32, 73, 110, 116, 32, 73, 110, 116, 41]⟩] = some (.str ⟨#[40, 49, 54, 32, 49, 53, 32, 49, 53, 41, 32, 49, 32, 49, 52]⟩) := by kernel_rfl
end Go.Proofs.YtdfeffddghpaoaaGreatDoor
