/- UnitKnown: what is told of the texts 16 to 19. -/
import Derived.Test.YtgmgdijphklogaaGreatDoorU2
set_option linter.unusedVariables false
set_option linter.unusedSectionVars false
set_option linter.unusedSimpArgs false
set_option linter.unnecessarySimpa false
namespace Go.Proofs.YtgmgdijphklogaaGreatDoor
open Go Go.Ev
theorem toldK16 : (orcF cfg 399).clo 14 [.str ⟨#[40, 100, 101, 102, 32, 116, 32, 85, 49, 32, 85, 48, 41]⟩] = some (.str ⟨#[116, 49, 32, 85, 48, 32, 85, 49, 59]⟩) := by kernel_rfl
theorem toldK17 : (orcF cfg 399).clo 14 [.str ⟨#[40, 100, 101, 102, 32, 97, 32, 53, 32, 49, 41]⟩] = some (.str ⟨#[115, 116, 97, 103, 101]⟩) := by kernel_rfl
theorem toldK18 : (orcF cfg 399).clo 14 [.str ⟨#[40, 100, 101, 102, 32, 97, 32, 122, 101, 114, 111, 32, 49, 41]⟩] = some (.str ⟨#[115, 104, 97, 112, 101]⟩) := by kernel_rfl
theorem toldK19 : (orcF cfg 399).clo 14 [.str ⟨#[40, 100, 101, 102, 32, 102, 32, 40, 45, 62, 32, 78, 97, 116, 32, 78, 97, 116, 41, 32, 40, 102, 110, 32, 120, 32, 120, 41, 41, 32, 40, 100, 101, 102, 32, 121, 32, 78, 97, 116, 32, 40, 102, 32, 50, 41, 41]⟩] = some (.str ⟨#[102, 49, 32, 40, 52, 32, 49, 48, 32, 118, 48, 41, 32, 40, 51, 32, 49, 48, 32, 49, 48, 41, 59, 121, 49, 32, 40, 53, 32, 40, 52, 32, 49, 48, 32, 118, 48, 41, 32, 40, 49, 50, 32, 40, 49, 50, 32, 49, 49, 41, 41, 41, 32, 49, 48, 59]⟩) := by kernel_rfl
end Go.Proofs.YtgmgdijphklogaaGreatDoor
