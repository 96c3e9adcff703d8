/- ElabKnown: what is told of the forms 0 to 11. -/
import Derived.Test.YtdfeffddghpaoaaGreatDoorZ2
set_option linter.unusedVariables false
set_option linter.unusedSectionVars false
set_option linter.unusedSimpArgs false
set_option linter.unnecessarySimpa false
namespace Go.Proofs.YtdfeffddghpaoaaGreatDoor
open Go Go.Ev
theorem toldK0 : (orcF cfg 399).clo 9 [.str ⟨#[110]⟩] = some (.str ⟨#[118, 53, 32, 49, 32, 49, 48]⟩) := by kernel_rfl
theorem toldK1 : (orcF cfg 399).clo 9 [.str ⟨#[102]⟩] = some (.str ⟨#[118, 52, 32, 49, 32, 40, 51, 32, 49, 48, 32, 49, 48, 41]⟩) := by kernel_rfl
theorem toldK2 : (orcF cfg 399).clo 9 [.str ⟨#[99]⟩] = some (.str ⟨#[118, 51, 32, 49, 32, 40, 49, 56, 32, 49, 53, 41]⟩) := by kernel_rfl
theorem toldK3 : (orcF cfg 399).clo 9 [.str ⟨#[120]⟩] = some (.str ⟨#[118, 49, 32, 48, 32, 49, 53]⟩) := by kernel_rfl
theorem toldK4 : (orcF cfg 399).clo 9 [.str ⟨#[104]⟩] = some (.str ⟨#[118, 48, 32, 48, 32, 40, 49, 54, 32, 49, 53, 32, 49, 53, 41]⟩) := by kernel_rfl
theorem toldK5 : (orcF cfg 399).clo 9 [.str ⟨#[100]⟩] = some (.str ⟨#[40, 49, 50, 32, 40, 49, 50, 32, 49, 49, 41, 41, 32, 49, 32, 49, 48]⟩) := by kernel_rfl
theorem toldK6 : (orcF cfg 399).clo 9 [.str ⟨#[112]⟩] = some (.str ⟨#[105, 57, 32, 48, 32, 49, 53]⟩) := by kernel_rfl
theorem toldK7 : (orcF cfg 399).clo 9 [.str ⟨#[113]⟩] = some (.str ⟨#[110, 97, 109, 101]⟩) := by kernel_rfl
theorem toldK8 : (orcF cfg 399).clo 9 [.str ⟨#[53]⟩] = some (.str ⟨#[105, 53, 32, 48, 32, 49, 53]⟩) := by kernel_rfl
theorem toldK9 : (orcF cfg 399).clo 9 [.str ⟨#[45, 53]⟩] = some (.str ⟨#[105, 45, 53, 32, 48, 32, 49, 53]⟩) := by kernel_rfl
theorem toldK10 : (orcF cfg 399).clo 9 [.str ⟨#[85, 48]⟩] = some (.str ⟨#[85, 48, 32, 49, 32, 85, 49]⟩) := by kernel_rfl
theorem toldK11 : (orcF cfg 399).clo 9 [.str ⟨#[85, 49]⟩] = some (.str ⟨#[85, 49, 32, 49, 32, 85, 50]⟩) := by kernel_rfl
end Go.Proofs.YtdfeffddghpaoaaGreatDoor
