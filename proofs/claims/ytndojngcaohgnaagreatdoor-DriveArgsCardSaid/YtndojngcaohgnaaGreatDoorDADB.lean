/- DriveArgs: digits of small numbers. -/
import Derived.Test.YtndojngcaohgnaaGreatDoorDAP
set_option linter.unusedVariables false
set_option linter.unusedSectionVars false
set_option linter.unusedSimpArgs false
set_option linter.unnecessarySimpa false
namespace Go.Proofs.YtndojngcaohgnaaGreatDoor
open Go Go.Ev
theorem dig4 (n : Nat) : (List.range 250).all (fun k => sameS ((orcF cfg (n + 8)).clo 10 [.int .i64 ((k : Int) + (1))]) (digZ ((k : Int) + (1)))) = true := by kernel_rfl
theorem dig5 (n : Nat) : (List.range 250).all (fun k => sameS ((orcF cfg (n + 8)).clo 10 [.int .i64 ((k : Int) + (251))]) (digZ ((k : Int) + (251)))) = true := by kernel_rfl
theorem dig6 (n : Nat) : (List.range 250).all (fun k => sameS ((orcF cfg (n + 8)).clo 10 [.int .i64 ((k : Int) + (501))]) (digZ ((k : Int) + (501)))) = true := by kernel_rfl
theorem dig7 (n : Nat) : (List.range 250).all (fun k => sameS ((orcF cfg (n + 8)).clo 10 [.int .i64 ((k : Int) + (750))]) (digZ ((k : Int) + (750)))) = true := by kernel_rfl
end Go.Proofs.YtndojngcaohgnaaGreatDoor
