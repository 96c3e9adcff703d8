/- DriveTypes: digits of small numbers. -/
import Derived.Test.YthndchidnkbgiaaGreatDoorDTM7A
set_option linter.unusedVariables false
set_option linter.unusedSectionVars false
set_option linter.unusedSimpArgs false
set_option linter.unnecessarySimpa false
namespace Go.Proofs.YthndchidnkbgiaaGreatDoor.W
open Go Go.Ev Go.Proofs.YthndchidnkbgiaaGreatDoor
theorem dig4 (w : Int → Int) (n : Nat) : (List.range 250).all (fun k => sameS ((orcF (cfg w) (n + 9)).clo 6 [.int .i64 ((k : Int) + 1000)]) (digZ ((k : Int) + 1000))) = true := by kernel_rfl
theorem dig5 (w : Int → Int) (n : Nat) : (List.range 250).all (fun k => sameS ((orcF (cfg w) (n + 9)).clo 6 [.int .i64 ((k : Int) + 1250)]) (digZ ((k : Int) + 1250))) = true := by kernel_rfl
theorem dig6 (w : Int → Int) (n : Nat) : (List.range 250).all (fun k => sameS ((orcF (cfg w) (n + 9)).clo 6 [.int .i64 ((k : Int) + 1500)]) (digZ ((k : Int) + 1500))) = true := by kernel_rfl
theorem dig7 (w : Int → Int) (n : Nat) : (List.range 250).all (fun k => sameS ((orcF (cfg w) (n + 9)).clo 6 [.int .i64 ((k : Int) + 1750)]) (digZ ((k : Int) + 1750))) = true := by kernel_rfl
end Go.Proofs.YthndchidnkbgiaaGreatDoor.W
