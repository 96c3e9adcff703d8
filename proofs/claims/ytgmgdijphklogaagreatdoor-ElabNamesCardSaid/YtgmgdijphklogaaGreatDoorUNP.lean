/- ElabNames: the function's beginning, for every two numbers. -/
import Derived.Test.YtgmgdijphklogaaGreatDoorU2
set_option linter.unusedVariables false
set_option linter.unusedSectionVars false
set_option linter.unusedSimpArgs false
set_option linter.unnecessarySimpa false
namespace Go.Proofs.YtgmgdijphklogaaGreatDoor
open Go Go.Ev
noncomputable def body6 : Code := (Tryz.f6.body).getD .skip
noncomputable def p6_0 (n m : Int) : Code × S := (body6, ⟨inArgsF 0 [.c (.int .i64 n), .c (.int .i64 m)], fun _ => none, 0⟩)
noncomputable def p6_2 (n m : Int) : Code × S := stP (ov noQ 15 (some (.bool true))) 6 2 (p6_0 n m)
noncomputable def p6_3 (n m j : Int) : Code × S := stP (ov noQ 16 (some (.int .i64 j))) 6 1 (p6_2 n m)
noncomputable def p6_4 (n m j i : Int) : Code × S := stP (ov noQ 16 (some (.int .i64 i))) 6 1 (p6_3 n m j)
section
variable (Q : Orc) (n m i : Int) (N : Code → S → O → Option (AV × O)) (K : Ex → S → O → Option (AV × O))
theorem at6_2 : evPre cfg Q 6 2 (p6_0 n m).1 (p6_0 n m).2 [] N K = evPre cfg (ov Q 15 (Q.clo 15 [])) 6 2 (p6_0 n m).1 (p6_0 n m).2 [] N K := by kernel_rfl
theorem to6_2 : evPre cfg (ov Q 15 (some (.bool true))) 6 2 (p6_0 n m).1 (p6_0 n m).2 [] N K = N (p6_2 n m).1 (p6_2 n m).2 [] := by kernel_rfl
theorem at6_3 : evPre cfg Q 6 1 (p6_2 n m).1 (p6_2 n m).2 [] N K = evPre cfg (ov Q 16 (Q.clo 16 [.int .i64 n, .int .i64 8])) 6 1 (p6_2 n m).1 (p6_2 n m).2 [] N K := by kernel_rfl
theorem to6_3_0 : evPre cfg (ov Q 16 (some (.int .i64 0))) 6 1 (p6_2 n m).1 (p6_2 n m).2 [] N K = N (p6_3 n m 0).1 (p6_3 n m 0).2 [] := by kernel_rfl
theorem at6_4_0 : evPre cfg Q 6 1 (p6_3 n m 0).1 (p6_3 n m 0).2 [] N K = evPre cfg (ov Q 16 (Q.clo 16 [.int .i64 m, .int .i64 1])) 6 1 (p6_3 n m 0).1 (p6_3 n m 0).2 [] N K := by kernel_rfl
theorem to6_4_0 : evPre cfg (ov Q 16 (some (.int .i64 i))) 6 1 (p6_3 n m 0).1 (p6_3 n m 0).2 [] N K = N (p6_4 n m 0 i).1 (p6_4 n m 0 i).2 [] := by kernel_rfl
theorem to6_3_1 : evPre cfg (ov Q 16 (some (.int .i64 1))) 6 1 (p6_2 n m).1 (p6_2 n m).2 [] N K = N (p6_3 n m 1).1 (p6_3 n m 1).2 [] := by kernel_rfl
theorem at6_4_1 : evPre cfg Q 6 1 (p6_3 n m 1).1 (p6_3 n m 1).2 [] N K = evPre cfg (ov Q 16 (Q.clo 16 [.int .i64 m, .int .i64 2])) 6 1 (p6_3 n m 1).1 (p6_3 n m 1).2 [] N K := by kernel_rfl
theorem to6_4_1 : evPre cfg (ov Q 16 (some (.int .i64 i))) 6 1 (p6_3 n m 1).1 (p6_3 n m 1).2 [] N K = N (p6_4 n m 1 i).1 (p6_4 n m 1 i).2 [] := by kernel_rfl
theorem to6_3_2 : evPre cfg (ov Q 16 (some (.int .i64 2))) 6 1 (p6_2 n m).1 (p6_2 n m).2 [] N K = N (p6_3 n m 2).1 (p6_3 n m 2).2 [] := by kernel_rfl
theorem at6_4_2 : evPre cfg Q 6 1 (p6_3 n m 2).1 (p6_3 n m 2).2 [] N K = evPre cfg (ov Q 16 (Q.clo 16 [.int .i64 m, .int .i64 3])) 6 1 (p6_3 n m 2).1 (p6_3 n m 2).2 [] N K := by kernel_rfl
theorem to6_4_2 : evPre cfg (ov Q 16 (some (.int .i64 i))) 6 1 (p6_3 n m 2).1 (p6_3 n m 2).2 [] N K = N (p6_4 n m 2 i).1 (p6_4 n m 2 i).2 [] := by kernel_rfl
theorem to6_3_3 : evPre cfg (ov Q 16 (some (.int .i64 3))) 6 1 (p6_2 n m).1 (p6_2 n m).2 [] N K = N (p6_3 n m 3).1 (p6_3 n m 3).2 [] := by kernel_rfl
theorem at6_4_3 : evPre cfg Q 6 1 (p6_3 n m 3).1 (p6_3 n m 3).2 [] N K = evPre cfg (ov Q 16 (Q.clo 16 [.int .i64 m, .int .i64 4])) 6 1 (p6_3 n m 3).1 (p6_3 n m 3).2 [] N K := by kernel_rfl
theorem to6_4_3 : evPre cfg (ov Q 16 (some (.int .i64 i))) 6 1 (p6_3 n m 3).1 (p6_3 n m 3).2 [] N K = N (p6_4 n m 3 i).1 (p6_4 n m 3 i).2 [] := by kernel_rfl
theorem to6_3_4 : evPre cfg (ov Q 16 (some (.int .i64 4))) 6 1 (p6_2 n m).1 (p6_2 n m).2 [] N K = N (p6_3 n m 4).1 (p6_3 n m 4).2 [] := by kernel_rfl
theorem at6_4_4 : evPre cfg Q 6 1 (p6_3 n m 4).1 (p6_3 n m 4).2 [] N K = evPre cfg (ov Q 16 (Q.clo 16 [.int .i64 m, .int .i64 5])) 6 1 (p6_3 n m 4).1 (p6_3 n m 4).2 [] N K := by kernel_rfl
theorem to6_4_4 : evPre cfg (ov Q 16 (some (.int .i64 i))) 6 1 (p6_3 n m 4).1 (p6_3 n m 4).2 [] N K = N (p6_4 n m 4 i).1 (p6_4 n m 4 i).2 [] := by kernel_rfl
theorem to6_3_5 : evPre cfg (ov Q 16 (some (.int .i64 5))) 6 1 (p6_2 n m).1 (p6_2 n m).2 [] N K = N (p6_3 n m 5).1 (p6_3 n m 5).2 [] := by kernel_rfl
theorem at6_4_5 : evPre cfg Q 6 1 (p6_3 n m 5).1 (p6_3 n m 5).2 [] N K = evPre cfg (ov Q 16 (Q.clo 16 [.int .i64 m, .int .i64 6])) 6 1 (p6_3 n m 5).1 (p6_3 n m 5).2 [] N K := by kernel_rfl
theorem to6_4_5 : evPre cfg (ov Q 16 (some (.int .i64 i))) 6 1 (p6_3 n m 5).1 (p6_3 n m 5).2 [] N K = N (p6_4 n m 5 i).1 (p6_4 n m 5 i).2 [] := by kernel_rfl
theorem to6_3_6 : evPre cfg (ov Q 16 (some (.int .i64 6))) 6 1 (p6_2 n m).1 (p6_2 n m).2 [] N K = N (p6_3 n m 6).1 (p6_3 n m 6).2 [] := by kernel_rfl
theorem at6_4_6 : evPre cfg Q 6 1 (p6_3 n m 6).1 (p6_3 n m 6).2 [] N K = evPre cfg (ov Q 16 (Q.clo 16 [.int .i64 m, .int .i64 7])) 6 1 (p6_3 n m 6).1 (p6_3 n m 6).2 [] N K := by kernel_rfl
theorem to6_4_6 : evPre cfg (ov Q 16 (some (.int .i64 i))) 6 1 (p6_3 n m 6).1 (p6_3 n m 6).2 [] N K = N (p6_4 n m 6 i).1 (p6_4 n m 6 i).2 [] := by kernel_rfl
theorem to6_3_7 : evPre cfg (ov Q 16 (some (.int .i64 7))) 6 1 (p6_2 n m).1 (p6_2 n m).2 [] N K = N (p6_3 n m 7).1 (p6_3 n m 7).2 [] := by kernel_rfl
theorem at6_4_7 : evPre cfg Q 6 1 (p6_3 n m 7).1 (p6_3 n m 7).2 [] N K = evPre cfg (ov Q 16 (Q.clo 16 [.int .i64 m, .int .i64 8])) 6 1 (p6_3 n m 7).1 (p6_3 n m 7).2 [] N K := by kernel_rfl
theorem to6_4_7 : evPre cfg (ov Q 16 (some (.int .i64 i))) 6 1 (p6_3 n m 7).1 (p6_3 n m 7).2 [] N K = N (p6_4 n m 7 i).1 (p6_4 n m 7 i).2 [] := by kernel_rfl
end
noncomputable def last6 (n m j i : Int) : Option CV := closed (evCodeF cfg (orcF cfg 399) 6 (p6_4 n m j i).1 (p6_4 n m j i).2 [] (kBody cfg 6 0 Tryz.f6))
end Go.Proofs.YtgmgdijphklogaaGreatDoor
