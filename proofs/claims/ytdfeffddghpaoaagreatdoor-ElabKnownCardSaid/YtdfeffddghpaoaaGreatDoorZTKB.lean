/- ElabKnown: what is told of the forms 12 to 23. -/
import Derived.Test.YtdfeffddghpaoaaGreatDoorZ2
set_option linter.unusedVariables false
set_option linter.unusedSectionVars false
set_option linter.unusedSimpArgs false
set_option linter.unnecessarySimpa false
namespace Go.Proofs.YtdfeffddghpaoaaGreatDoor
open Go Go.Ev
theorem toldK12 : (orcF cfg 399).clo 9 [.str ⟨#[85, 50]⟩] = some (.str ⟨#[108, 101, 118, 101, 108]⟩) := by kernel_rfl
theorem toldK13 : (orcF cfg 399).clo 9 [.str ⟨#[78, 97, 116]⟩] = some (.str ⟨#[49, 48, 32, 49, 32, 85, 48]⟩) := by kernel_rfl
theorem toldK14 : (orcF cfg 399).clo 9 [.str ⟨#[122, 101, 114, 111]⟩] = some (.str ⟨#[49, 49, 32, 49, 32, 49, 48]⟩) := by kernel_rfl
theorem toldK15 : (orcF cfg 399).clo 9 [.str ⟨#[84, 121]⟩] = some (.str ⟨#[49, 52, 32, 49, 32, 85, 48]⟩) := by kernel_rfl
theorem toldK16 : (orcF cfg 399).clo 9 [.str ⟨#[73, 110, 116]⟩] = some (.str ⟨#[49, 53, 32, 49, 32, 49, 52]⟩) := by kernel_rfl
theorem toldK17 : (orcF cfg 399).clo 9 [.str ⟨#[112, 97, 105, 114]⟩] = some (.str ⟨#[102, 111, 114, 109]⟩) := by kernel_rfl
theorem toldK18 : (orcF cfg 399).clo 9 [.str ⟨#[100, 101, 102]⟩] = some (.str ⟨#[102, 111, 114, 109]⟩) := by kernel_rfl
theorem toldK19 : (orcF cfg 399).clo 9 [.str ⟨#[40, 102, 32, 110, 41]⟩] = some (.str ⟨#[40, 53, 32, 118, 52, 32, 118, 53, 41, 32, 49, 32, 49, 48]⟩) := by kernel_rfl
theorem toldK20 : (orcF cfg 399).clo 9 [.str ⟨#[40, 102, 32, 122, 101, 114, 111, 32, 110, 41]⟩] = some (.str ⟨#[115, 116, 97, 103, 101]⟩) := by kernel_rfl
theorem toldK21 : (orcF cfg 399).clo 9 [.str ⟨#[40, 102, 32, 51, 41]⟩] = some (.str ⟨#[40, 53, 32, 118, 52, 32, 40, 49, 50, 32, 40, 49, 50, 32, 40, 49, 50, 32, 49, 49, 41, 41, 41, 41, 32, 49, 32, 49, 48]⟩) := by kernel_rfl
theorem toldK22 : (orcF cfg 399).clo 9 [.str ⟨#[40, 102, 32, 120, 41]⟩] = some (.str ⟨#[115, 116, 97, 103, 101]⟩) := by kernel_rfl
theorem toldK23 : (orcF cfg 399).clo 9 [.str ⟨#[40, 102, 32, 99, 41]⟩] = some (.str ⟨#[116, 121, 112, 101]⟩) := by kernel_rfl
end Go.Proofs.YtdfeffddghpaoaaGreatDoor
