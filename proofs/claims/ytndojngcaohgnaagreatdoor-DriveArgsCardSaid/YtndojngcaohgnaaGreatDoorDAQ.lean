/- DriveArgs: the function's beginning, for every three numbers. -/
import Derived.Test.YtndojngcaohgnaaGreatDoorDAT
set_option linter.unusedVariables false
set_option linter.unusedSectionVars false
set_option linter.unusedSimpArgs false
set_option linter.unnecessarySimpa false
namespace Go.Proofs.YtndojngcaohgnaaGreatDoor
open Go Go.Ev
noncomputable def body6 : Code := (Tryz.f6.body).getD .skip

noncomputable def p6_0 (a b c : Int) : Code × S := (body6, ⟨inArgsF 0 [.c (.int .i64 a), .c (.int .i64 b), .c (.int .i64 c)], fun _ => none, 0⟩)
noncomputable def p6_2 (a b c : Int) : Code × S := stP (ov noQ 8 (some (.bool true))) 6 2 (p6_0 a b c)
noncomputable def p6_3 (a b c : Int) (w : Int → Int) : Code × S := stP (ovw noQ 9 (fun m => some (.int .i64 (w m)))) 6 1 (p6_2 a b c)
noncomputable def p6_4 (a b c : Int) (w : Int → Int) : Code × S := stP noQ 6 1 (p6_3 a b c w)
noncomputable def p6_5 (a b c : Int) (w : Int → Int) : Code × S := (.seq (sqL (sqL (p6_4 a b c w).1)) (.seq (sqR (sqL (p6_4 a b c w).1)) (sqR (p6_4 a b c w).1)), (p6_4 a b c w).2)
noncomputable def p6_6 (a b c : Int) (w : Int → Int) (k : Int) : Code × S := stP (ov noQ 9 (some (.int .i64 k))) 6 1 (p6_5 a b c w)
section
variable (Q : Orc) (a b c : Int) (w : Int → Int) (k : Int) (N : Code → S → O → Option (AV × O)) (K : Ex → S → O → Option (AV × O))
theorem at6_2 : evPre cfg Q 6 2 (p6_0 a b c).1 (p6_0 a b c).2 [] N K = evPre cfg (ov Q 8 (Q.clo 8 [])) 6 2 (p6_0 a b c).1 (p6_0 a b c).2 [] N K := by kernel_rfl
theorem to6_2 : evPre cfg (ov Q 8 (some (.bool true))) 6 2 (p6_0 a b c).1 (p6_0 a b c).2 [] N K = N (p6_2 a b c).1 (p6_2 a b c).2 [] := by kernel_rfl
theorem at6_3 : evPre cfg Q 6 1 (p6_2 a b c).1 (p6_2 a b c).2 [] N K = evPre cfg (ovw Q 9 (fun m => Q.clo 9 [.int .i64 m, .int .i64 1000])) 6 1 (p6_2 a b c).1 (p6_2 a b c).2 [] N K := by kernel_rfl
theorem to6_3 : evPre cfg (ovw Q 9 (fun m => some (.int .i64 (w m)))) 6 1 (p6_2 a b c).1 (p6_2 a b c).2 [] N K = N (p6_3 a b c w).1 (p6_3 a b c w).2 [] := by kernel_rfl
theorem to6_4 : evPre cfg Q 6 1 (p6_3 a b c w).1 (p6_3 a b c w).2 [] N K = N (p6_4 a b c w).1 (p6_4 a b c w).2 [] := by kernel_rfl
theorem is6_4 : (p6_4 a b c w).1 = .seq (.seq (sqL (sqL (p6_4 a b c w).1)) (sqR (sqL (p6_4 a b c w).1))) (sqR (p6_4 a b c w).1) := by kernel_rfl
theorem to6_5 : evCode cfg Q 6 (p6_4 a b c w).1 (p6_4 a b c w).2 [] K = evCode cfg Q 6 (p6_5 a b c w).1 (p6_5 a b c w).2 [] K :=
  (congrArg (fun x => evCode cfg Q 6 x (p6_4 a b c w).2 [] K) (is6_4 a b c w)).trans (evCode_assoc (by kernel_rfl) (by kernel_rfl) _ _ _)
theorem at6_6 : evPre cfg Q 6 1 (p6_5 a b c w).1 (p6_5 a b c w).2 [] N K = evPre cfg (ov Q 9 (Q.clo 9 [.int .i64 c, .int .i64 5])) 6 1 (p6_5 a b c w).1 (p6_5 a b c w).2 [] N K := by kernel_rfl
theorem to6_6 : evPre cfg (ov Q 9 (some (.int .i64 k))) 6 1 (p6_5 a b c w).1 (p6_5 a b c w).2 [] N K = N (p6_6 a b c w k).1 (p6_6 a b c w k).2 [] := by kernel_rfl
theorem from6 (h8 : Q.clo 8 [] = some (.bool true)) (hw : ∀ m, Q.clo 9 [.int .i64 m, .int .i64 1000] = some (.int .i64 (w m))) (hc : Q.clo 9 [.int .i64 c, .int .i64 5] = some (.int .i64 k)) :
    evCode cfg Q 6 (p6_0 a b c).1 (p6_0 a b c).2 [] K = evCode cfg Q 6 (p6_6 a b c w k).1 (p6_6 a b c w k).2 [] K := by
  have hf : (fun m => Q.clo 9 [.int .i64 m, .int .i64 1000]) = fun m => some (.int .i64 (w m)) := funext hw
  rw [← evPre_eq cfg Q 6 K 2 (p6_0 a b c).1, at6_2, h8, to6_2]
  rw [← evPre_eq cfg Q 6 K 1 (p6_2 a b c).1, at6_3, hf, to6_3 Q a b c w]
  rw [← evPre_eq cfg Q 6 K 1 (p6_3 a b c w).1, to6_4]
  rw [to6_5]
  rw [← evPre_eq cfg Q 6 K 1 (p6_5 a b c w).1, at6_6, hc, to6_6]
end
noncomputable def last6 (Q : Orc) (a b c : Int) (w : Int → Int) (k : Int) : Option CV := closed (evCodeF cfg Q 6 (p6_6 a b c w k).1 (p6_6 a b c w k).2 [] (kBody cfg 6 0 Tryz.f6))
end Go.Proofs.YtndojngcaohgnaaGreatDoor
