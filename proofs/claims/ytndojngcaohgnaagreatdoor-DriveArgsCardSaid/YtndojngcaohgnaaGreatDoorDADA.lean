/- DriveArgs: digits of small numbers. -/
import Derived.Test.YtndojngcaohgnaaGreatDoorDAP
set_option linter.unusedVariables false
set_option linter.unusedSectionVars false
set_option linter.unusedSimpArgs false
set_option linter.unnecessarySimpa false
namespace Go.Proofs.YtndojngcaohgnaaGreatDoor
open Go Go.Ev
theorem dig0 (n : Nat) : (List.range 250).all (fun k => sameS ((orcF cfg (n + 8)).clo 10 [.int .i64 ((k : Int) + (-999))]) (digZ ((k : Int) + (-999)))) = true := by kernel_rfl
theorem dig1 (n : Nat) : (List.range 250).all (fun k => sameS ((orcF cfg (n + 8)).clo 10 [.int .i64 ((k : Int) + (-749))]) (digZ ((k : Int) + (-749)))) = true := by kernel_rfl
theorem dig2 (n : Nat) : (List.range 250).all (fun k => sameS ((orcF cfg (n + 8)).clo 10 [.int .i64 ((k : Int) + (-499))]) (digZ ((k : Int) + (-499)))) = true := by kernel_rfl
theorem dig3 (n : Nat) : (List.range 250).all (fun k => sameS ((orcF cfg (n + 8)).clo 10 [.int .i64 ((k : Int) + (-249))]) (digZ ((k : Int) + (-249)))) = true := by kernel_rfl
end Go.Proofs.YtndojngcaohgnaaGreatDoor
