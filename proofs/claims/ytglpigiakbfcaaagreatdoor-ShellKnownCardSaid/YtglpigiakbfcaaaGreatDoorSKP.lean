/- ShellKnown: the function's beginning, for every number. -/
import Derived.Test.YtglpigiakbfcaaaGreatDoorSK3
set_option linter.unusedVariables false
set_option linter.unusedSectionVars false
set_option linter.unusedSimpArgs false
set_option linter.unnecessarySimpa false
namespace Go.Proofs.YtglpigiakbfcaaaGreatDoor
open Go Go.Ev
/-- as ov, of two questions, told apart by the second argument -/
def isArg (b : Int) (xs : List CV) : Bool := match xs with | [_, .int _ z] => z == b | _ => false
def ov2 (Q : Orc) (g : Nat) (b : Int) (x y : Option CV) : Orc := ⟨fun f xs => cond (Nat.beq f g) (cond (isArg b xs) x y) (Q.clo f xs), Q.opn, Q.loop⟩
noncomputable def body3 : Code := (Tryz.f3.body).getD .skip
noncomputable def p3_0 (n : Int) : Code × S := (body3, ⟨inArgsF 0 [.c (.int .i64 n)], fun _ => none, 0⟩)
noncomputable def p3_1 (n : Int) : Code × S := stP (ov noQ 4 (some (.bool true))) 3 2 (p3_0 n)
theorem atp3_1 (n : Int) (Q : Orc) (N : Code → S → O → Option (AV × O)) (K : Ex → S → O → Option (AV × O)) : evPre cfg Q 3 2 (p3_0 n).1 (p3_0 n).2 [] N K = evPre cfg (ov Q 4 (Q.clo 4 [])) 3 2 (p3_0 n).1 (p3_0 n).2 [] N K := by kernel_rfl
theorem top3_1 (n : Int) (Q : Orc) (N : Code → S → O → Option (AV × O)) (K : Ex → S → O → Option (AV × O)) : evPre cfg (ov Q 4 (some (.bool true))) 3 2 (p3_0 n).1 (p3_0 n).2 [] N K = N (p3_1 n).1 (p3_1 n).2 [] := by kernel_rfl
noncomputable def p3_2 (n : Int) : Code × S := stP noQ 3 2 (p3_1 n)
theorem top3_2 (n : Int) (Q : Orc) (N : Code → S → O → Option (AV × O)) (K : Ex → S → O → Option (AV × O)) : evPre cfg Q 3 2 (p3_1 n).1 (p3_1 n).2 [] N K = N (p3_2 n).1 (p3_2 n).2 [] := by kernel_rfl
noncomputable def p3_3 (n : Int) (k : Int) : Code × S := stP (ov noQ 5 (some (.int .i64 k))) 3 1 (p3_2 n)
theorem atp3_3 (n : Int) (k : Int) (Q : Orc) (N : Code → S → O → Option (AV × O)) (K : Ex → S → O → Option (AV × O)) : evPre cfg Q 3 1 (p3_2 n).1 (p3_2 n).2 [] N K = evPre cfg (ov Q 5 (Q.clo 5 [.int .i64 n, .int .i64 22])) 3 1 (p3_2 n).1 (p3_2 n).2 [] N K := by kernel_rfl
theorem top3_3 (n : Int) (k : Int) (Q : Orc) (N : Code → S → O → Option (AV × O)) (K : Ex → S → O → Option (AV × O)) : evPre cfg (ov Q 5 (some (.int .i64 k))) 3 1 (p3_2 n).1 (p3_2 n).2 [] N K = N (p3_3 n k).1 (p3_3 n k).2 [] := by kernel_rfl
theorem from3_ (n : Int) (k : Int) (Q : Orc) (K : Ex → S → O → Option (AV × O)) (h0 : Q.clo 4 [] = some (.bool true)) (h1 : Q.clo 5 [.int .i64 n, .int .i64 22] = some (.int .i64 k)) : evCode cfg Q 3 (p3_0 n).1 (p3_0 n).2 [] K = evCode cfg Q 3 (p3_3 n k).1 (p3_3 n k).2 [] K := by
  rw [← evPre_eq cfg Q 3 K 2 (p3_0 n).1]
  rw [atp3_1 n, h0, top3_1 n]
  rw [← evPre_eq cfg Q 3 K 2 (p3_1 n).1]
  rw [top3_2 n]
  rw [← evPre_eq cfg Q 3 K 1 (p3_2 n).1]
  rw [atp3_3 n k, h1, top3_3 n k]
noncomputable def last3_ (n : Int) (k : Int) : Option CV := closed (evCodeF cfg (orcF cfg 399) 3 (p3_3 n k).1 (p3_3 n k).2 [] (kBody cfg 3 0 Tryz.f3))
theorem run3_ (n : Int) (k : Int) (h0 : (orcF cfg 399).clo 4 [] = some (.bool true)) (h1 : (orcF cfg 399).clo 5 [.int .i64 n, .int .i64 22] = some (.int .i64 k)) {r : CV} (hr : last3_ n k = some r) : closed (evCodeF cfg (orcF cfg 399) 3 (p3_0 n).1 (p3_0 n).2 [] (kBody cfg 3 0 Tryz.f3)) = some r := by
  unfold last3_ at hr
  rw [evCodeF_eq] at hr ⊢
  rw [from3_ n k _ _ h0 h1]
  exact hr
end Go.Proofs.YtglpigiakbfcaaaGreatDoor
