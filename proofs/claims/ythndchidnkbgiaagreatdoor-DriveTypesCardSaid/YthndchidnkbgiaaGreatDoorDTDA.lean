/- DriveTypes: digits of small numbers. -/
import Derived.Test.YthndchidnkbgiaaGreatDoorDTM7A
set_option linter.unusedVariables false
set_option linter.unusedSectionVars false
set_option linter.unusedSimpArgs false
set_option linter.unnecessarySimpa false
namespace Go.Proofs.YthndchidnkbgiaaGreatDoor.W
open Go Go.Ev Go.Proofs.YthndchidnkbgiaaGreatDoor
theorem dig0 (w : Int → Int) (n : Nat) : (List.range 250).all (fun k => sameS ((orcF (cfg w) (n + 9)).clo 6 [.int .i64 ((k : Int) + 0)]) (digZ ((k : Int) + 0))) = true := by kernel_rfl
theorem dig1 (w : Int → Int) (n : Nat) : (List.range 250).all (fun k => sameS ((orcF (cfg w) (n + 9)).clo 6 [.int .i64 ((k : Int) + 250)]) (digZ ((k : Int) + 250))) = true := by kernel_rfl
theorem dig2 (w : Int → Int) (n : Nat) : (List.range 250).all (fun k => sameS ((orcF (cfg w) (n + 9)).clo 6 [.int .i64 ((k : Int) + 500)]) (digZ ((k : Int) + 500))) = true := by kernel_rfl
theorem dig3 (w : Int → Int) (n : Nat) : (List.range 250).all (fun k => sameS ((orcF (cfg w) (n + 9)).clo 6 [.int .i64 ((k : Int) + 750)]) (digZ ((k : Int) + 750))) = true := by kernel_rfl
end Go.Proofs.YthndchidnkbgiaaGreatDoor.W
