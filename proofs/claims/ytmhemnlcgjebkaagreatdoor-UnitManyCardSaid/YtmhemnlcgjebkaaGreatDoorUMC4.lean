/- UnitMany: 32 definitions: the beginning. -/
import Derived.Test.YtmhemnlcgjebkaaGreatDoorUMP
set_option linter.unusedVariables false
set_option linter.unusedSectionVars false
set_option linter.unusedSimpArgs false
set_option linter.unnecessarySimpa false
namespace Go.Proofs.YtmhemnlcgjebkaaGreatDoor
open Go Go.Ev
noncomputable def p3_k4_0 (n a : Int) : Code × S := (body3, ⟨inArgsF 0 [.c (.int .i64 n), .c (.int .i64 a)], fun _ => none, 0⟩)
noncomputable def p3_k4_1 (n a : Int) : Code × S := stP (ov noQ 4 (some (.bool true))) 3 2 (p3_k4_0 n a)
theorem atp3_k4_1 (n a : Int) (Q : Orc) (N : Code → S → O → Option (AV × O)) (K : Ex → S → O → Option (AV × O)) : evPre cfg Q 3 2 (p3_k4_0 n a).1 (p3_k4_0 n a).2 [] N K = evPre cfg (ov Q 4 (Q.clo 4 [])) 3 2 (p3_k4_0 n a).1 (p3_k4_0 n a).2 [] N K := by kernel_rfl
theorem top3_k4_1 (n a : Int) (Q : Orc) (N : Code → S → O → Option (AV × O)) (K : Ex → S → O → Option (AV × O)) : evPre cfg (ov Q 4 (some (.bool true))) 3 2 (p3_k4_0 n a).1 (p3_k4_0 n a).2 [] N K = N (p3_k4_1 n a).1 (p3_k4_1 n a).2 [] := by kernel_rfl
noncomputable def p3_k4_2 (n a : Int) : Code × S := stP (ov noQ 5 (some (.int .i64 4))) 3 1 (p3_k4_1 n a)
theorem atp3_k4_2 (n a : Int) (Q : Orc) (N : Code → S → O → Option (AV × O)) (K : Ex → S → O → Option (AV × O)) : evPre cfg Q 3 1 (p3_k4_1 n a).1 (p3_k4_1 n a).2 [] N K = evPre cfg (ov Q 5 (Q.clo 5 [.int .i64 n, .int .i64 6])) 3 1 (p3_k4_1 n a).1 (p3_k4_1 n a).2 [] N K := by kernel_rfl
theorem top3_k4_2 (n a : Int) (Q : Orc) (N : Code → S → O → Option (AV × O)) (K : Ex → S → O → Option (AV × O)) : evPre cfg (ov Q 5 (some (.int .i64 4))) 3 1 (p3_k4_1 n a).1 (p3_k4_1 n a).2 [] N K = N (p3_k4_2 n a).1 (p3_k4_2 n a).2 [] := by kernel_rfl
theorem from3_k4_ (n a : Int) (Q : Orc) (K : Ex → S → O → Option (AV × O)) (h0 : Q.clo 4 [] = some (.bool true)) (h1 : Q.clo 5 [.int .i64 n, .int .i64 6] = some (.int .i64 4)) : evCode cfg Q 3 (p3_k4_0 n a).1 (p3_k4_0 n a).2 [] K = evCode cfg Q 3 (p3_k4_2 n a).1 (p3_k4_2 n a).2 [] K := by
  rw [← evPre_eq cfg Q 3 K 2 (p3_k4_0 n a).1]
  rw [atp3_k4_1 n a, h0, top3_k4_1 n a]
  rw [← evPre_eq cfg Q 3 K 1 (p3_k4_1 n a).1]
  rw [atp3_k4_2 n a, h1, top3_k4_2 n a]
noncomputable def last3_k4_ (n a : Int) : Option CV := closed (evCodeF cfg (orcF cfg 399) 3 (p3_k4_2 n a).1 (p3_k4_2 n a).2 [] (kBody cfg 3 0 Tryz.f3))
theorem run3_k4_ (n a : Int) (h0 : (orcF cfg 399).clo 4 [] = some (.bool true)) (h1 : (orcF cfg 399).clo 5 [.int .i64 n, .int .i64 6] = some (.int .i64 4)) {r : CV} (hr : last3_k4_ n a = some r) : closed (evCodeF cfg (orcF cfg 399) 3 (p3_k4_0 n a).1 (p3_k4_0 n a).2 [] (kBody cfg 3 0 Tryz.f3)) = some r := by
  unfold last3_k4_ at hr
  rw [evCodeF_eq] at hr ⊢
  rw [from3_k4_ n a _ _ h0 h1]
  exact hr
theorem many4 (n a : Int) : last3_k4_ n a = some (.bool true) := by kernel_rfl
end Go.Proofs.YtmhemnlcgjebkaaGreatDoor
