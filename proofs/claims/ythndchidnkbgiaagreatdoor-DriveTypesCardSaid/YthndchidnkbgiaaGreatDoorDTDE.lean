/- DriveTypes: digits of small numbers. -/
import Derived.Test.YthndchidnkbgiaaGreatDoorDTM7A
set_option linter.unusedVariables false
set_option linter.unusedSectionVars false
set_option linter.unusedSimpArgs false
set_option linter.unnecessarySimpa false
namespace Go.Proofs.YthndchidnkbgiaaGreatDoor.W
open Go Go.Ev Go.Proofs.YthndchidnkbgiaaGreatDoor
theorem dig16 (w : Int → Int) (n : Nat) : (List.range 250).all (fun k => sameS ((orcF (cfg w) (n + 9)).clo 6 [.int .i64 ((k : Int) + 4000)]) (digZ ((k : Int) + 4000))) = true := by kernel_rfl
theorem dig17 (w : Int → Int) (n : Nat) : (List.range 250).all (fun k => sameS ((orcF (cfg w) (n + 9)).clo 6 [.int .i64 ((k : Int) + 4250)]) (digZ ((k : Int) + 4250))) = true := by kernel_rfl
theorem dig18 (w : Int → Int) (n : Nat) : (List.range 250).all (fun k => sameS ((orcF (cfg w) (n + 9)).clo 6 [.int .i64 ((k : Int) + 4500)]) (digZ ((k : Int) + 4500))) = true := by kernel_rfl
theorem dig19 (w : Int → Int) (n : Nat) : (List.range 250).all (fun k => sameS ((orcF (cfg w) (n + 9)).clo 6 [.int .i64 ((k : Int) + 4750)]) (digZ ((k : Int) + 4750))) = true := by kernel_rfl
end Go.Proofs.YthndchidnkbgiaaGreatDoor.W
