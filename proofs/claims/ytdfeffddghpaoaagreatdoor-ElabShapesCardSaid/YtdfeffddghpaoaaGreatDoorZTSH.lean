/- ElabShapes: what is told of the shapes 14 and 15, wherever they stand. -/
import Derived.Test.YtdfeffddghpaoaaGreatDoorZ2
set_option linter.unusedVariables false
set_option linter.unusedSectionVars false
set_option linter.unusedSimpArgs false
set_option linter.unnecessarySimpa false
namespace Go.Proofs.YtdfeffddghpaoaaGreatDoor
open Go Go.Ev
theorem toldS14_0 : (orcF cfg 399).clo 9 [.str ⟨#[40, 108, 105, 102, 116, 41]⟩] = some (.str ⟨#[102, 111, 114, 109]⟩) := by kernel_rfl
theorem toldS14_1 : (orcF cfg 399).clo 9 [.str ⟨#[40, 115, 117, 99, 32, 40, 108, 105, 102, 116, 41, 41]⟩] = some (.str ⟨#[102, 111, 114, 109]⟩) := by kernel_rfl
theorem toldS14_2 : (orcF cfg 399).clo 9 [.str ⟨#[40, 97, 100, 100, 32, 40, 108, 105, 102, 116, 41, 32, 49, 41]⟩] = some (.str ⟨#[102, 111, 114, 109]⟩) := by kernel_rfl
theorem toldS14_3 : (orcF cfg 399).clo 9 [.str ⟨#[40, 102, 110, 32, 40, 113, 32, 78, 97, 116, 41, 32, 40, 108, 105, 102, 116, 41, 41]⟩] = some (.str ⟨#[102, 111, 114, 109]⟩) := by kernel_rfl
theorem toldS14_4 : (orcF cfg 399).clo 9 [.str ⟨#[40, 108, 101, 116, 32, 40, 113, 32, 49, 41, 32, 40, 108, 105, 102, 116, 41, 41]⟩] = some (.str ⟨#[102, 111, 114, 109]⟩) := by kernel_rfl
theorem toldS14_5 : (orcF cfg 399).clo 9 [.str ⟨#[40, 102, 32, 40, 108, 105, 102, 116, 41, 41]⟩] = some (.str ⟨#[102, 111, 114, 109]⟩) := by kernel_rfl
theorem toldS15_0 : (orcF cfg 399).clo 9 [.str ⟨#[40, 113, 117, 111, 116, 101, 32, 49, 32, 50, 41]⟩] = some (.str ⟨#[102, 111, 114, 109]⟩) := by kernel_rfl
theorem toldS15_1 : (orcF cfg 399).clo 9 [.str ⟨#[40, 115, 117, 99, 32, 40, 113, 117, 111, 116, 101, 32, 49, 32, 50, 41, 41]⟩] = some (.str ⟨#[102, 111, 114, 109]⟩) := by kernel_rfl
theorem toldS15_2 : (orcF cfg 399).clo 9 [.str ⟨#[40, 97, 100, 100, 32, 40, 113, 117, 111, 116, 101, 32, 49, 32, 50, 41, 32, 49, 41]⟩] = some (.str ⟨#[102, 111, 114, 109]⟩) := by kernel_rfl
theorem toldS15_3 : (orcF cfg 399).clo 9 [.str ⟨#[40, 102, 110, 32, 40, 113, 32, 78, 97, 116, 41, 32, 40, 113, 117, 111, 116, 101, 32, 49, 32, 50, 41, 41]⟩] = some (.str ⟨#[102, 111, 114, 109]⟩) := by kernel_rfl
theorem toldS15_4 : (orcF cfg 399).clo 9 [.str ⟨#[40, 108, 101, 116, 32, 40, 113, 32, 49, 41, 32, 40, 113, 117, 111, 116, 101, 32, 49, 32, 50, 41, 41]⟩] = some (.str ⟨#[102, 111, 114, 109]⟩) := by kernel_rfl
theorem toldS15_5 : (orcF cfg 399).clo 9 [.str ⟨#[40, 102, 32, 40, 113, 117, 111, 116, 101, 32, 49, 32, 50, 41, 41]⟩] = some (.str ⟨#[102, 111, 114, 109]⟩) := by kernel_rfl
end Go.Proofs.YtdfeffddghpaoaaGreatDoor
