/- ElabShapes: what is told of the shapes 0 and 1, wherever they stand. -/
import Derived.Test.YtdfeffddghpaoaaGreatDoorZ2
set_option linter.unusedVariables false
set_option linter.unusedSectionVars false
set_option linter.unusedSimpArgs false
set_option linter.unnecessarySimpa false
namespace Go.Proofs.YtdfeffddghpaoaaGreatDoor
open Go Go.Ev
theorem toldS0_0 : (orcF cfg 399).clo 9 [.str ⟨#[40, 41]⟩] = some (.str ⟨#[102, 111, 114, 109]⟩) := by kernel_rfl
theorem toldS0_1 : (orcF cfg 399).clo 9 [.str ⟨#[40, 115, 117, 99, 32, 40, 41, 41]⟩] = some (.str ⟨#[102, 111, 114, 109]⟩) := by kernel_rfl
theorem toldS0_2 : (orcF cfg 399).clo 9 [.str ⟨#[40, 97, 100, 100, 32, 40, 41, 32, 49, 41]⟩] = some (.str ⟨#[102, 111, 114, 109]⟩) := by kernel_rfl
theorem toldS0_3 : (orcF cfg 399).clo 9 [.str ⟨#[40, 102, 110, 32, 40, 113, 32, 78, 97, 116, 41, 32, 40, 41, 41]⟩] = some (.str ⟨#[102, 111, 114, 109]⟩) := by kernel_rfl
theorem toldS0_4 : (orcF cfg 399).clo 9 [.str ⟨#[40, 108, 101, 116, 32, 40, 113, 32, 49, 41, 32, 40, 41, 41]⟩] = some (.str ⟨#[102, 111, 114, 109]⟩) := by kernel_rfl
theorem toldS0_5 : (orcF cfg 399).clo 9 [.str ⟨#[40, 102, 32, 40, 41, 41]⟩] = some (.str ⟨#[102, 111, 114, 109]⟩) := by kernel_rfl
theorem toldS1_0 : (orcF cfg 399).clo 9 [.str ⟨#[40, 110, 41]⟩] = some (.str ⟨#[102, 111, 114, 109]⟩) := by kernel_rfl
theorem toldS1_1 : (orcF cfg 399).clo 9 [.str ⟨#[40, 115, 117, 99, 32, 40, 110, 41, 41]⟩] = some (.str ⟨#[102, 111, 114, 109]⟩) := by kernel_rfl
theorem toldS1_2 : (orcF cfg 399).clo 9 [.str ⟨#[40, 97, 100, 100, 32, 40, 110, 41, 32, 49, 41]⟩] = some (.str ⟨#[102, 111, 114, 109]⟩) := by kernel_rfl
theorem toldS1_3 : (orcF cfg 399).clo 9 [.str ⟨#[40, 102, 110, 32, 40, 113, 32, 78, 97, 116, 41, 32, 40, 110, 41, 41]⟩] = some (.str ⟨#[102, 111, 114, 109]⟩) := by kernel_rfl
theorem toldS1_4 : (orcF cfg 399).clo 9 [.str ⟨#[40, 108, 101, 116, 32, 40, 113, 32, 49, 41, 32, 40, 110, 41, 41]⟩] = some (.str ⟨#[102, 111, 114, 109]⟩) := by kernel_rfl
theorem toldS1_5 : (orcF cfg 399).clo 9 [.str ⟨#[40, 102, 32, 40, 110, 41, 41]⟩] = some (.str ⟨#[102, 111, 114, 109]⟩) := by kernel_rfl
end Go.Proofs.YtdfeffddghpaoaaGreatDoor
