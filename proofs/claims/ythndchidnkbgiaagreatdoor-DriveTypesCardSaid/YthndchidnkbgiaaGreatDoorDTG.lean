/- DriveTypes: digits, texts of sums. -/
import Derived.Test.YthndchidnkbgiaaGreatDoorDTDA
import Derived.Test.YthndchidnkbgiaaGreatDoorDTDB
import Derived.Test.YthndchidnkbgiaaGreatDoorDTDC
import Derived.Test.YthndchidnkbgiaaGreatDoorDTDD
import Derived.Test.YthndchidnkbgiaaGreatDoorDTDE
import Derived.Test.YthndchidnkbgiaaGreatDoorDTXA
import Derived.Test.YthndchidnkbgiaaGreatDoorDTXB
import Derived.Test.YthndchidnkbgiaaGreatDoorDTXC
import Derived.Test.YthndchidnkbgiaaGreatDoorDTXD
import Derived.Test.YthndchidnkbgiaaGreatDoorDTXE
set_option linter.unusedVariables false
set_option linter.unusedSectionVars false
set_option linter.unusedSimpArgs false
set_option linter.unnecessarySimpa false
namespace Go.Proofs.YthndchidnkbgiaaGreatDoor.W
open Go Go.Ev Go.Proofs.YthndchidnkbgiaaGreatDoor
theorem digits (w : Int → Int) (n : Nat) {m : Int} (h1 : 0 ≤ m) (h2 : m < 5000) : (orcF (cfg w) (n + 9)).clo 6 [.int .i64 m] = some (.str ⟨(digZ m).toArray⟩) := by
  rcases (by omega : (0 ≤ m ∧ m < 0 + 250) ∨ (250 ≤ m ∧ m < 250 + 250) ∨ (500 ≤ m ∧ m < 500 + 250) ∨ (750 ≤ m ∧ m < 750 + 250) ∨ (1000 ≤ m ∧ m < 1000 + 250) ∨ (1250 ≤ m ∧ m < 1250 + 250) ∨ (1500 ≤ m ∧ m < 1500 + 250) ∨ (1750 ≤ m ∧ m < 1750 + 250) ∨ (2000 ≤ m ∧ m < 2000 + 250) ∨ (2250 ≤ m ∧ m < 2250 + 250) ∨ (2500 ≤ m ∧ m < 2500 + 250) ∨ (2750 ≤ m ∧ m < 2750 + 250) ∨ (3000 ≤ m ∧ m < 3000 + 250) ∨ (3250 ≤ m ∧ m < 3250 + 250) ∨ (3500 ≤ m ∧ m < 3500 + 250) ∨ (3750 ≤ m ∧ m < 3750 + 250) ∨ (4000 ≤ m ∧ m < 4000 + 250) ∨ (4250 ≤ m ∧ m < 4250 + 250) ∨ (4500 ≤ m ∧ m < 4500 + 250) ∨ (4750 ≤ m ∧ m < 4750 + 250)) with ⟨k1, k2⟩ | ⟨k1, k2⟩ | ⟨k1, k2⟩ | ⟨k1, k2⟩ | ⟨k1, k2⟩ | ⟨k1, k2⟩ | ⟨k1, k2⟩ | ⟨k1, k2⟩ | ⟨k1, k2⟩ | ⟨k1, k2⟩ | ⟨k1, k2⟩ | ⟨k1, k2⟩ | ⟨k1, k2⟩ | ⟨k1, k2⟩ | ⟨k1, k2⟩ | ⟨k1, k2⟩ | ⟨k1, k2⟩ | ⟨k1, k2⟩ | ⟨k1, k2⟩ | ⟨k1, k2⟩
  · exact dig_of (dig0 w n) k1 k2
  · exact dig_of (dig1 w n) k1 k2
  · exact dig_of (dig2 w n) k1 k2
  · exact dig_of (dig3 w n) k1 k2
  · exact dig_of (dig4 w n) k1 k2
  · exact dig_of (dig5 w n) k1 k2
  · exact dig_of (dig6 w n) k1 k2
  · exact dig_of (dig7 w n) k1 k2
  · exact dig_of (dig8 w n) k1 k2
  · exact dig_of (dig9 w n) k1 k2
  · exact dig_of (dig10 w n) k1 k2
  · exact dig_of (dig11 w n) k1 k2
  · exact dig_of (dig12 w n) k1 k2
  · exact dig_of (dig13 w n) k1 k2
  · exact dig_of (dig14 w n) k1 k2
  · exact dig_of (dig15 w n) k1 k2
  · exact dig_of (dig16 w n) k1 k2
  · exact dig_of (dig17 w n) k1 k2
  · exact dig_of (dig18 w n) k1 k2
  · exact dig_of (dig19 w n) k1 k2
theorem text (w : Int → Int) (n : Nat) {m : Int} (h1 : 0 ≤ m) (h2 : m < 5000) : (orcF (cfg w) (n + 10)).clo 10 [.ag [.int .i64 1, .int .i64 m, .im []]] = some (.str ⟨(digZ m).toArray⟩) := by
  rcases (by omega : (0 ≤ m ∧ m < 0 + 250) ∨ (250 ≤ m ∧ m < 250 + 250) ∨ (500 ≤ m ∧ m < 500 + 250) ∨ (750 ≤ m ∧ m < 750 + 250) ∨ (1000 ≤ m ∧ m < 1000 + 250) ∨ (1250 ≤ m ∧ m < 1250 + 250) ∨ (1500 ≤ m ∧ m < 1500 + 250) ∨ (1750 ≤ m ∧ m < 1750 + 250) ∨ (2000 ≤ m ∧ m < 2000 + 250) ∨ (2250 ≤ m ∧ m < 2250 + 250) ∨ (2500 ≤ m ∧ m < 2500 + 250) ∨ (2750 ≤ m ∧ m < 2750 + 250) ∨ (3000 ≤ m ∧ m < 3000 + 250) ∨ (3250 ≤ m ∧ m < 3250 + 250) ∨ (3500 ≤ m ∧ m < 3500 + 250) ∨ (3750 ≤ m ∧ m < 3750 + 250) ∨ (4000 ≤ m ∧ m < 4000 + 250) ∨ (4250 ≤ m ∧ m < 4250 + 250) ∨ (4500 ≤ m ∧ m < 4500 + 250) ∨ (4750 ≤ m ∧ m < 4750 + 250)) with ⟨k1, k2⟩ | ⟨k1, k2⟩ | ⟨k1, k2⟩ | ⟨k1, k2⟩ | ⟨k1, k2⟩ | ⟨k1, k2⟩ | ⟨k1, k2⟩ | ⟨k1, k2⟩ | ⟨k1, k2⟩ | ⟨k1, k2⟩ | ⟨k1, k2⟩ | ⟨k1, k2⟩ | ⟨k1, k2⟩ | ⟨k1, k2⟩ | ⟨k1, k2⟩ | ⟨k1, k2⟩ | ⟨k1, k2⟩ | ⟨k1, k2⟩ | ⟨k1, k2⟩ | ⟨k1, k2⟩
  · exact txt_of (txt0 w n) k1 k2
  · exact txt_of (txt1 w n) k1 k2
  · exact txt_of (txt2 w n) k1 k2
  · exact txt_of (txt3 w n) k1 k2
  · exact txt_of (txt4 w n) k1 k2
  · exact txt_of (txt5 w n) k1 k2
  · exact txt_of (txt6 w n) k1 k2
  · exact txt_of (txt7 w n) k1 k2
  · exact txt_of (txt8 w n) k1 k2
  · exact txt_of (txt9 w n) k1 k2
  · exact txt_of (txt10 w n) k1 k2
  · exact txt_of (txt11 w n) k1 k2
  · exact txt_of (txt12 w n) k1 k2
  · exact txt_of (txt13 w n) k1 k2
  · exact txt_of (txt14 w n) k1 k2
  · exact txt_of (txt15 w n) k1 k2
  · exact txt_of (txt16 w n) k1 k2
  · exact txt_of (txt17 w n) k1 k2
  · exact txt_of (txt18 w n) k1 k2
  · exact txt_of (txt19 w n) k1 k2
theorem far8 (w : Int → Int) : (orcF (cfg w) 398).clo 6 [.int .i64 8] = some (.str ⟨#[56]⟩) := by kernel_rfl
noncomputable def body7 : Code := (Tryz.f7.body).getD .skip
theorem fn7 (w : Int → Int) : (cfg w).fn 7 = some Tryz.f7 := by kernel_rfl
theorem b7 : Tryz.f7.body = some body7 := by kernel_rfl
end Go.Proofs.YthndchidnkbgiaaGreatDoor.W
