/- DrivePower: the function's beginning, for every two numbers. -/
import Derived.Test.YtndojngcaohgnaaGreatDoorDP3
set_option linter.unusedVariables false
set_option linter.unusedSectionVars false
set_option linter.unusedSimpArgs false
set_option linter.unnecessarySimpa false
namespace Go.Proofs.YtndojngcaohgnaaGreatDoor
open Go Go.Ev
/-- as ov, of two questions, told apart by the second argument -/
def isArg (b : Int) (xs : List CV) : Bool := match xs with | [_, .int _ z] => z == b | _ => false
def ov2 (Q : Orc) (g : Nat) (b : Int) (x y : Option CV) : Orc := ⟨fun f xs => cond (Nat.beq f g) (cond (isArg b xs) x y) (Q.clo f xs), Q.opn, Q.loop⟩
noncomputable def body3 : Code := (Tryz.f3.body).getD .skip
noncomputable def p3_0 (n x : Int) : Code × S := (body3, ⟨inArgsF 0 [.c (.int .i64 n), .c (.int .i64 x)], fun _ => none, 0⟩)
noncomputable def p3_1 (n x : Int) : Code × S := stP (ov noQ 8 (some (.bool true))) 3 2 (p3_0 n x)
theorem atp3_1 (n x : Int) (Q : Orc) (N : Code → S → O → Option (AV × O)) (K : Ex → S → O → Option (AV × O)) : evPre cfg Q 3 2 (p3_0 n x).1 (p3_0 n x).2 [] N K = evPre cfg (ov Q 8 (Q.clo 8 [])) 3 2 (p3_0 n x).1 (p3_0 n x).2 [] N K := by kernel_rfl
theorem top3_1 (n x : Int) (Q : Orc) (N : Code → S → O → Option (AV × O)) (K : Ex → S → O → Option (AV × O)) : evPre cfg (ov Q 8 (some (.bool true))) 3 2 (p3_0 n x).1 (p3_0 n x).2 [] N K = N (p3_1 n x).1 (p3_1 n x).2 [] := by kernel_rfl
noncomputable def p3_2 (n x : Int) (k j : Int) : Code × S := stP (ov2 noQ 9 (12) (some (.int .i64 k)) (some (.int .i64 j))) 3 1 (p3_1 n x)
theorem atp3_2 (n x : Int) (k j : Int) (Q : Orc) (N : Code → S → O → Option (AV × O)) (K : Ex → S → O → Option (AV × O)) : evPre cfg Q 3 1 (p3_1 n x).1 (p3_1 n x).2 [] N K = evPre cfg (ov2 Q 9 (12) (Q.clo 9 [.int .i64 n, .int .i64 12]) (Q.clo 9 [.int .i64 x, .int .i64 7])) 3 1 (p3_1 n x).1 (p3_1 n x).2 [] N K := by kernel_rfl
theorem top3_2 (n x : Int) (k j : Int) (Q : Orc) (N : Code → S → O → Option (AV × O)) (K : Ex → S → O → Option (AV × O)) : evPre cfg (ov2 Q 9 (12) (some (.int .i64 k)) (some (.int .i64 j))) 3 1 (p3_1 n x).1 (p3_1 n x).2 [] N K = N (p3_2 n x k j).1 (p3_2 n x k j).2 [] := by kernel_rfl
theorem from3_ (n x : Int) (k j : Int) (Q : Orc) (K : Ex → S → O → Option (AV × O)) (h0 : Q.clo 8 [] = some (.bool true)) (h1 : Q.clo 9 [.int .i64 n, .int .i64 12] = some (.int .i64 k)) (h2 : Q.clo 9 [.int .i64 x, .int .i64 7] = some (.int .i64 j)) : evCode cfg Q 3 (p3_0 n x).1 (p3_0 n x).2 [] K = evCode cfg Q 3 (p3_2 n x k j).1 (p3_2 n x k j).2 [] K := by
  rw [← evPre_eq cfg Q 3 K 2 (p3_0 n x).1]
  rw [atp3_1 n x, h0, top3_1 n x]
  rw [← evPre_eq cfg Q 3 K 1 (p3_1 n x).1]
  rw [atp3_2 n x k j, h1, h2, top3_2 n x k j]
noncomputable def last3_ (n x : Int) (k j : Int) : Option CV := closed (evCodeF cfg (orcF cfg 399) 3 (p3_2 n x k j).1 (p3_2 n x k j).2 [] (kBody cfg 3 0 Tryz.f3))
theorem run3_ (n x : Int) (k j : Int) (h0 : (orcF cfg 399).clo 8 [] = some (.bool true)) (h1 : (orcF cfg 399).clo 9 [.int .i64 n, .int .i64 12] = some (.int .i64 k)) (h2 : (orcF cfg 399).clo 9 [.int .i64 x, .int .i64 7] = some (.int .i64 j)) {r : CV} (hr : last3_ n x k j = some r) : closed (evCodeF cfg (orcF cfg 399) 3 (p3_0 n x).1 (p3_0 n x).2 [] (kBody cfg 3 0 Tryz.f3)) = some r := by
  unfold last3_ at hr
  rw [evCodeF_eq] at hr ⊢
  rw [from3_ n x k j _ _ h0 h1 h2]
  exact hr
end Go.Proofs.YtndojngcaohgnaaGreatDoor
