/- UnitKnown: what is told of the texts 8 to 11. -/
import Derived.Test.YtgmgdijphklogaaGreatDoorU2
set_option linter.unusedVariables false
set_option linter.unusedSectionVars false
set_option linter.unusedSimpArgs false
set_option linter.unnecessarySimpa false
namespace Go.Proofs.YtgmgdijphklogaaGreatDoor
open Go Go.Ev
theorem toldK8 : (orcF cfg 399).clo 14 [.str ⟨#[40, 100, 101, 102, 32, 97, 41]⟩] = some (.str ⟨#[102, 111, 114, 109]⟩) := by kernel_rfl
theorem toldK9 : (orcF cfg 399).clo 14 [.str ⟨#[40, 100, 101, 102, 32, 49, 32, 50, 41]⟩] = some (.str ⟨#[102, 111, 114, 109]⟩) := by kernel_rfl
theorem toldK10 : (orcF cfg 399).clo 14 [.str ⟨#[40, 100, 101, 102, 32, 102, 110, 32, 49, 41]⟩] = some (.str ⟨#[102, 111, 114, 109]⟩) := by kernel_rfl
theorem toldK11 : (orcF cfg 399).clo 14 [.str ⟨#[40, 100, 101, 102, 32, 97, 32, 98, 32, 99, 32, 100, 41]⟩] = some (.str ⟨#[102, 111, 114, 109]⟩) := by kernel_rfl
end Go.Proofs.YtgmgdijphklogaaGreatDoor
