/- UnitKnown: what is told of the texts 0 to 3. -/
import Derived.Test.YtgmgdijphklogaaGreatDoorU2
set_option linter.unusedVariables false
set_option linter.unusedSectionVars false
set_option linter.unusedSimpArgs false
set_option linter.unnecessarySimpa false
namespace Go.Proofs.YtgmgdijphklogaaGreatDoor
open Go Go.Ev
theorem toldK0 : (orcF cfg 399).clo 14 [.str ⟨#[]⟩] = some (.str ⟨#[]⟩) := by kernel_rfl
theorem toldK1 : (orcF cfg 399).clo 14 [.str ⟨#[40, 100, 101, 102, 32, 97, 32, 49, 41]⟩] = some (.str ⟨#[97, 48, 32, 105, 49, 32, 49, 53, 59]⟩) := by kernel_rfl
theorem toldK2 : (orcF cfg 399).clo 14 [.str ⟨#[40, 100, 101, 102, 32, 97, 32, 78, 97, 116, 32, 49, 41]⟩] = some (.str ⟨#[97, 49, 32, 40, 49, 50, 32, 49, 49, 41, 32, 49, 48, 59]⟩) := by kernel_rfl
theorem toldK3 : (orcF cfg 399).clo 14 [.str ⟨#[40, 100, 101, 102, 32, 98, 32, 97, 41, 32, 40, 100, 101, 102, 32, 97, 32, 49, 41]⟩] = some (.str ⟨#[97, 48, 32, 105, 49, 32, 49, 53, 59, 98, 48, 32, 105, 49, 32, 49, 53, 59]⟩) := by kernel_rfl
end Go.Proofs.YtgmgdijphklogaaGreatDoor
