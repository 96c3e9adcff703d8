/- DriveArgs: texts of small numbers. -/
import Derived.Test.YtndojngcaohgnaaGreatDoorDAP
set_option linter.unusedVariables false
set_option linter.unusedSectionVars false
set_option linter.unusedSimpArgs false
set_option linter.unnecessarySimpa false
namespace Go.Proofs.YtndojngcaohgnaaGreatDoor
open Go Go.Ev
theorem txt4 (n : Nat) : (List.range 250).all (fun k => sameS ((orcF cfg (n + 9)).clo 24 [.ag [.int .i64 1, .int .i64 ((k : Int) + (1)), .im []]]) (digZ ((k : Int) + (1)))) = true := by kernel_rfl
theorem txt5 (n : Nat) : (List.range 250).all (fun k => sameS ((orcF cfg (n + 9)).clo 24 [.ag [.int .i64 1, .int .i64 ((k : Int) + (251)), .im []]]) (digZ ((k : Int) + (251)))) = true := by kernel_rfl
theorem txt6 (n : Nat) : (List.range 250).all (fun k => sameS ((orcF cfg (n + 9)).clo 24 [.ag [.int .i64 1, .int .i64 ((k : Int) + (501)), .im []]]) (digZ ((k : Int) + (501)))) = true := by kernel_rfl
theorem txt7 (n : Nat) : (List.range 250).all (fun k => sameS ((orcF cfg (n + 9)).clo 24 [.ag [.int .i64 1, .int .i64 ((k : Int) + (750)), .im []]]) (digZ ((k : Int) + (750)))) = true := by kernel_rfl
end Go.Proofs.YtndojngcaohgnaaGreatDoor
