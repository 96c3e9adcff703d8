/- UnitMany: the function's body. -/
import Derived.Test.YtmhemnlcgjebkaaGreatDoorUM3
set_option linter.unusedVariables false
set_option linter.unusedSectionVars false
set_option linter.unusedSimpArgs false
set_option linter.unnecessarySimpa false
namespace Go.Proofs.YtmhemnlcgjebkaaGreatDoor
open Go Go.Ev
/-- as ov, of two questions, told apart by the second argument -/
def isArg (b : Int) (xs : List CV) : Bool := match xs with | [_, .int _ z] => z == b | _ => false
def ov2 (Q : Orc) (g : Nat) (b : Int) (x y : Option CV) : Orc := ⟨fun f xs => cond (Nat.beq f g) (cond (isArg b xs) x y) (Q.clo f xs), Q.opn, Q.loop⟩
noncomputable def body3 : Code := (Tryz.f3.body).getD .skip
end Go.Proofs.YtmhemnlcgjebkaaGreatDoor
