/- DriveTypes: digits of small numbers. -/
import Derived.Test.YthndchidnkbgiaaGreatDoorDTM7A
set_option linter.unusedVariables false
set_option linter.unusedSectionVars false
set_option linter.unusedSimpArgs false
set_option linter.unnecessarySimpa false
namespace Go.Proofs.YthndchidnkbgiaaGreatDoor.W
open Go Go.Ev Go.Proofs.YthndchidnkbgiaaGreatDoor
theorem dig12 (w : Int → Int) (n : Nat) : (List.range 250).all (fun k => sameS ((orcF (cfg w) (n + 9)).clo 6 [.int .i64 ((k : Int) + 3000)]) (digZ ((k : Int) + 3000))) = true := by kernel_rfl
theorem dig13 (w : Int → Int) (n : Nat) : (List.range 250).all (fun k => sameS ((orcF (cfg w) (n + 9)).clo 6 [.int .i64 ((k : Int) + 3250)]) (digZ ((k : Int) + 3250))) = true := by kernel_rfl
theorem dig14 (w : Int → Int) (n : Nat) : (List.range 250).all (fun k => sameS ((orcF (cfg w) (n + 9)).clo 6 [.int .i64 ((k : Int) + 3500)]) (digZ ((k : Int) + 3500))) = true := by kernel_rfl
theorem dig15 (w : Int → Int) (n : Nat) : (List.range 250).all (fun k => sameS ((orcF (cfg w) (n + 9)).clo 6 [.int .i64 ((k : Int) + 3750)]) (digZ ((k : Int) + 3750))) = true := by kernel_rfl
end Go.Proofs.YthndchidnkbgiaaGreatDoor.W
