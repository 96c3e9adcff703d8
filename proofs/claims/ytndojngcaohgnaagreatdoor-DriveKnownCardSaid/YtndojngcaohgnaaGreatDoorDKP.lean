/- DriveKnown: the function's beginning, for every number. -/
import Derived.Test.YtndojngcaohgnaaGreatDoorDK3
set_option linter.unusedVariables false
set_option linter.unusedSectionVars false
set_option linter.unusedSimpArgs false
set_option linter.unnecessarySimpa false
namespace Go.Proofs.YtndojngcaohgnaaGreatDoor
open Go Go.Ev
/-- as ov, of two questions, told apart by the second argument -/
def isArg (b : Int) (xs : List CV) : Bool := match xs with | [_, .int _ z] => z == b | _ => false
def ov2 (Q : Orc) (g : Nat) (b : Int) (x y : Option CV) : Orc := ⟨fun f xs => cond (Nat.beq f g) (cond (isArg b xs) x y) (Q.clo f xs), Q.opn, Q.loop⟩
noncomputable def body5 : Code := (Tryz.f5.body).getD .skip
noncomputable def p5_0 (n : Int) : Code × S := (body5, ⟨inArgsF 0 [.c (.int .i64 n)], fun _ => none, 0⟩)
noncomputable def p5_1 (n : Int) : Code × S := stP (ov noQ 8 (some (.bool true))) 5 2 (p5_0 n)
theorem atp5_1 (n : Int) (Q : Orc) (N : Code → S → O → Option (AV × O)) (K : Ex → S → O → Option (AV × O)) : evPre cfg Q 5 2 (p5_0 n).1 (p5_0 n).2 [] N K = evPre cfg (ov Q 8 (Q.clo 8 [])) 5 2 (p5_0 n).1 (p5_0 n).2 [] N K := by kernel_rfl
theorem top5_1 (n : Int) (Q : Orc) (N : Code → S → O → Option (AV × O)) (K : Ex → S → O → Option (AV × O)) : evPre cfg (ov Q 8 (some (.bool true))) 5 2 (p5_0 n).1 (p5_0 n).2 [] N K = N (p5_1 n).1 (p5_1 n).2 [] := by kernel_rfl
noncomputable def p5_2 (n : Int) : Code × S := stP noQ 5 2 (p5_1 n)
theorem top5_2 (n : Int) (Q : Orc) (N : Code → S → O → Option (AV × O)) (K : Ex → S → O → Option (AV × O)) : evPre cfg Q 5 2 (p5_1 n).1 (p5_1 n).2 [] N K = N (p5_2 n).1 (p5_2 n).2 [] := by kernel_rfl
noncomputable def p5_3 (n : Int) (k : Int) : Code × S := stP (ov noQ 9 (some (.int .i64 k))) 5 1 (p5_2 n)
theorem atp5_3 (n : Int) (k : Int) (Q : Orc) (N : Code → S → O → Option (AV × O)) (K : Ex → S → O → Option (AV × O)) : evPre cfg Q 5 1 (p5_2 n).1 (p5_2 n).2 [] N K = evPre cfg (ov Q 9 (Q.clo 9 [.int .i64 n, .int .i64 22])) 5 1 (p5_2 n).1 (p5_2 n).2 [] N K := by kernel_rfl
theorem top5_3 (n : Int) (k : Int) (Q : Orc) (N : Code → S → O → Option (AV × O)) (K : Ex → S → O → Option (AV × O)) : evPre cfg (ov Q 9 (some (.int .i64 k))) 5 1 (p5_2 n).1 (p5_2 n).2 [] N K = N (p5_3 n k).1 (p5_3 n k).2 [] := by kernel_rfl
theorem from5_ (n : Int) (k : Int) (Q : Orc) (K : Ex → S → O → Option (AV × O)) (h0 : Q.clo 8 [] = some (.bool true)) (h1 : Q.clo 9 [.int .i64 n, .int .i64 22] = some (.int .i64 k)) : evCode cfg Q 5 (p5_0 n).1 (p5_0 n).2 [] K = evCode cfg Q 5 (p5_3 n k).1 (p5_3 n k).2 [] K := by
  rw [← evPre_eq cfg Q 5 K 2 (p5_0 n).1]
  rw [atp5_1 n, h0, top5_1 n]
  rw [← evPre_eq cfg Q 5 K 2 (p5_1 n).1]
  rw [top5_2 n]
  rw [← evPre_eq cfg Q 5 K 1 (p5_2 n).1]
  rw [atp5_3 n k, h1, top5_3 n k]
noncomputable def last5_ (n : Int) (k : Int) : Option CV := closed (evCodeF cfg (orcF cfg 399) 5 (p5_3 n k).1 (p5_3 n k).2 [] (kBody cfg 5 0 Tryz.f5))
theorem run5_ (n : Int) (k : Int) (h0 : (orcF cfg 399).clo 8 [] = some (.bool true)) (h1 : (orcF cfg 399).clo 9 [.int .i64 n, .int .i64 22] = some (.int .i64 k)) {r : CV} (hr : last5_ n k = some r) : closed (evCodeF cfg (orcF cfg 399) 5 (p5_0 n).1 (p5_0 n).2 [] (kBody cfg 5 0 Tryz.f5)) = some r := by
  unfold last5_ at hr
  rw [evCodeF_eq] at hr ⊢
  rw [from5_ n k _ _ h0 h1]
  exact hr
end Go.Proofs.YtndojngcaohgnaaGreatDoor
