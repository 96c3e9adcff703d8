/- DriveArgs: texts of small numbers. -/
import Derived.Test.YtndojngcaohgnaaGreatDoorDAP
set_option linter.unusedVariables false
set_option linter.unusedSectionVars false
set_option linter.unusedSimpArgs false
set_option linter.unnecessarySimpa false
namespace Go.Proofs.YtndojngcaohgnaaGreatDoor
open Go Go.Ev
theorem txt0 (n : Nat) : (List.range 250).all (fun k => sameS ((orcF cfg (n + 9)).clo 24 [.ag [.int .i64 1, .int .i64 ((k : Int) + (-999)), .im []]]) (digZ ((k : Int) + (-999)))) = true := by kernel_rfl
theorem txt1 (n : Nat) : (List.range 250).all (fun k => sameS ((orcF cfg (n + 9)).clo 24 [.ag [.int .i64 1, .int .i64 ((k : Int) + (-749)), .im []]]) (digZ ((k : Int) + (-749)))) = true := by kernel_rfl
theorem txt2 (n : Nat) : (List.range 250).all (fun k => sameS ((orcF cfg (n + 9)).clo 24 [.ag [.int .i64 1, .int .i64 ((k : Int) + (-499)), .im []]]) (digZ ((k : Int) + (-499)))) = true := by kernel_rfl
theorem txt3 (n : Nat) : (List.range 250).all (fun k => sameS ((orcF cfg (n + 9)).clo 24 [.ag [.int .i64 1, .int .i64 ((k : Int) + (-249)), .im []]]) (digZ ((k : Int) + (-249)))) = true := by kernel_rfl
end Go.Proofs.YtndojngcaohgnaaGreatDoor
