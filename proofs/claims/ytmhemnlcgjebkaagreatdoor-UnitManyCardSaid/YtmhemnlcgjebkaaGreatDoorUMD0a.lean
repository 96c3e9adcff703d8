/- UnitMany: 28 definitions, of which one is wrong: places 0 to 9. -/
import Derived.Test.YtmhemnlcgjebkaaGreatDoorUMC0
set_option linter.unusedVariables false
set_option linter.unusedSectionVars false
set_option linter.unusedSimpArgs false
set_option linter.unnecessarySimpa false
namespace Go.Proofs.YtmhemnlcgjebkaaGreatDoor
open Go Go.Ev
noncomputable def q0_0 (n a : Int) : Code × S := stP (ov noQ 5 (some (.int .i64 0))) 3 1 (p3_k0_3 n a)
theorem to0_0 (n a : Int) (Q : Orc) (N : Code → S → O → Option (AV × O)) (K : Ex → S → O → Option (AV × O)) : evPre cfg (ov Q 5 (some (.int .i64 0))) 3 1 (p3_k0_3 n a).1 (p3_k0_3 n a).2 [] N K = N (q0_0 n a).1 (q0_0 n a).2 [] := by kernel_rfl
theorem wrong0_0 (n a : Int) : closed (evCodeF cfg (orcF cfg 399) 3 (q0_0 n a).1 (q0_0 n a).2 [] (kBody cfg 3 0 Tryz.f3)) = some (.bool true) := by kernel_rfl
theorem case0_0 (n a : Int) (h : (orcF cfg 399).clo 5 [.int .i64 a, .int .i64 28] = some (.int .i64 0)) : last3_k0_ n a = some (.bool true) := by
  have hr := wrong0_0 n a
  unfold last3_k0_
  rw [evCodeF_eq] at hr ⊢
  rw [← evPre_eq cfg (orcF cfg 399) 3 _ 1 (p3_k0_3 n a).1, at_k0, h, to0_0]
  exact hr
noncomputable def q0_1 (n a : Int) : Code × S := stP (ov noQ 5 (some (.int .i64 1))) 3 1 (p3_k0_3 n a)
theorem to0_1 (n a : Int) (Q : Orc) (N : Code → S → O → Option (AV × O)) (K : Ex → S → O → Option (AV × O)) : evPre cfg (ov Q 5 (some (.int .i64 1))) 3 1 (p3_k0_3 n a).1 (p3_k0_3 n a).2 [] N K = N (q0_1 n a).1 (q0_1 n a).2 [] := by kernel_rfl
theorem wrong0_1 (n a : Int) : closed (evCodeF cfg (orcF cfg 399) 3 (q0_1 n a).1 (q0_1 n a).2 [] (kBody cfg 3 0 Tryz.f3)) = some (.bool true) := by kernel_rfl
theorem case0_1 (n a : Int) (h : (orcF cfg 399).clo 5 [.int .i64 a, .int .i64 28] = some (.int .i64 1)) : last3_k0_ n a = some (.bool true) := by
  have hr := wrong0_1 n a
  unfold last3_k0_
  rw [evCodeF_eq] at hr ⊢
  rw [← evPre_eq cfg (orcF cfg 399) 3 _ 1 (p3_k0_3 n a).1, at_k0, h, to0_1]
  exact hr
noncomputable def q0_2 (n a : Int) : Code × S := stP (ov noQ 5 (some (.int .i64 2))) 3 1 (p3_k0_3 n a)
theorem to0_2 (n a : Int) (Q : Orc) (N : Code → S → O → Option (AV × O)) (K : Ex → S → O → Option (AV × O)) : evPre cfg (ov Q 5 (some (.int .i64 2))) 3 1 (p3_k0_3 n a).1 (p3_k0_3 n a).2 [] N K = N (q0_2 n a).1 (q0_2 n a).2 [] := by kernel_rfl
theorem wrong0_2 (n a : Int) : closed (evCodeF cfg (orcF cfg 399) 3 (q0_2 n a).1 (q0_2 n a).2 [] (kBody cfg 3 0 Tryz.f3)) = some (.bool true) := by kernel_rfl
theorem case0_2 (n a : Int) (h : (orcF cfg 399).clo 5 [.int .i64 a, .int .i64 28] = some (.int .i64 2)) : last3_k0_ n a = some (.bool true) := by
  have hr := wrong0_2 n a
  unfold last3_k0_
  rw [evCodeF_eq] at hr ⊢
  rw [← evPre_eq cfg (orcF cfg 399) 3 _ 1 (p3_k0_3 n a).1, at_k0, h, to0_2]
  exact hr
noncomputable def q0_3 (n a : Int) : Code × S := stP (ov noQ 5 (some (.int .i64 3))) 3 1 (p3_k0_3 n a)
theorem to0_3 (n a : Int) (Q : Orc) (N : Code → S → O → Option (AV × O)) (K : Ex → S → O → Option (AV × O)) : evPre cfg (ov Q 5 (some (.int .i64 3))) 3 1 (p3_k0_3 n a).1 (p3_k0_3 n a).2 [] N K = N (q0_3 n a).1 (q0_3 n a).2 [] := by kernel_rfl
theorem wrong0_3 (n a : Int) : closed (evCodeF cfg (orcF cfg 399) 3 (q0_3 n a).1 (q0_3 n a).2 [] (kBody cfg 3 0 Tryz.f3)) = some (.bool true) := by kernel_rfl
theorem case0_3 (n a : Int) (h : (orcF cfg 399).clo 5 [.int .i64 a, .int .i64 28] = some (.int .i64 3)) : last3_k0_ n a = some (.bool true) := by
  have hr := wrong0_3 n a
  unfold last3_k0_
  rw [evCodeF_eq] at hr ⊢
  rw [← evPre_eq cfg (orcF cfg 399) 3 _ 1 (p3_k0_3 n a).1, at_k0, h, to0_3]
  exact hr
noncomputable def q0_4 (n a : Int) : Code × S := stP (ov noQ 5 (some (.int .i64 4))) 3 1 (p3_k0_3 n a)
theorem to0_4 (n a : Int) (Q : Orc) (N : Code → S → O → Option (AV × O)) (K : Ex → S → O → Option (AV × O)) : evPre cfg (ov Q 5 (some (.int .i64 4))) 3 1 (p3_k0_3 n a).1 (p3_k0_3 n a).2 [] N K = N (q0_4 n a).1 (q0_4 n a).2 [] := by kernel_rfl
theorem wrong0_4 (n a : Int) : closed (evCodeF cfg (orcF cfg 399) 3 (q0_4 n a).1 (q0_4 n a).2 [] (kBody cfg 3 0 Tryz.f3)) = some (.bool true) := by kernel_rfl
theorem case0_4 (n a : Int) (h : (orcF cfg 399).clo 5 [.int .i64 a, .int .i64 28] = some (.int .i64 4)) : last3_k0_ n a = some (.bool true) := by
  have hr := wrong0_4 n a
  unfold last3_k0_
  rw [evCodeF_eq] at hr ⊢
  rw [← evPre_eq cfg (orcF cfg 399) 3 _ 1 (p3_k0_3 n a).1, at_k0, h, to0_4]
  exact hr
noncomputable def q0_5 (n a : Int) : Code × S := stP (ov noQ 5 (some (.int .i64 5))) 3 1 (p3_k0_3 n a)
theorem to0_5 (n a : Int) (Q : Orc) (N : Code → S → O → Option (AV × O)) (K : Ex → S → O → Option (AV × O)) : evPre cfg (ov Q 5 (some (.int .i64 5))) 3 1 (p3_k0_3 n a).1 (p3_k0_3 n a).2 [] N K = N (q0_5 n a).1 (q0_5 n a).2 [] := by kernel_rfl
theorem wrong0_5 (n a : Int) : closed (evCodeF cfg (orcF cfg 399) 3 (q0_5 n a).1 (q0_5 n a).2 [] (kBody cfg 3 0 Tryz.f3)) = some (.bool true) := by kernel_rfl
theorem case0_5 (n a : Int) (h : (orcF cfg 399).clo 5 [.int .i64 a, .int .i64 28] = some (.int .i64 5)) : last3_k0_ n a = some (.bool true) := by
  have hr := wrong0_5 n a
  unfold last3_k0_
  rw [evCodeF_eq] at hr ⊢
  rw [← evPre_eq cfg (orcF cfg 399) 3 _ 1 (p3_k0_3 n a).1, at_k0, h, to0_5]
  exact hr
noncomputable def q0_6 (n a : Int) : Code × S := stP (ov noQ 5 (some (.int .i64 6))) 3 1 (p3_k0_3 n a)
theorem to0_6 (n a : Int) (Q : Orc) (N : Code → S → O → Option (AV × O)) (K : Ex → S → O → Option (AV × O)) : evPre cfg (ov Q 5 (some (.int .i64 6))) 3 1 (p3_k0_3 n a).1 (p3_k0_3 n a).2 [] N K = N (q0_6 n a).1 (q0_6 n a).2 [] := by kernel_rfl
theorem wrong0_6 (n a : Int) : closed (evCodeF cfg (orcF cfg 399) 3 (q0_6 n a).1 (q0_6 n a).2 [] (kBody cfg 3 0 Tryz.f3)) = some (.bool true) := by kernel_rfl
theorem case0_6 (n a : Int) (h : (orcF cfg 399).clo 5 [.int .i64 a, .int .i64 28] = some (.int .i64 6)) : last3_k0_ n a = some (.bool true) := by
  have hr := wrong0_6 n a
  unfold last3_k0_
  rw [evCodeF_eq] at hr ⊢
  rw [← evPre_eq cfg (orcF cfg 399) 3 _ 1 (p3_k0_3 n a).1, at_k0, h, to0_6]
  exact hr
noncomputable def q0_7 (n a : Int) : Code × S := stP (ov noQ 5 (some (.int .i64 7))) 3 1 (p3_k0_3 n a)
theorem to0_7 (n a : Int) (Q : Orc) (N : Code → S → O → Option (AV × O)) (K : Ex → S → O → Option (AV × O)) : evPre cfg (ov Q 5 (some (.int .i64 7))) 3 1 (p3_k0_3 n a).1 (p3_k0_3 n a).2 [] N K = N (q0_7 n a).1 (q0_7 n a).2 [] := by kernel_rfl
theorem wrong0_7 (n a : Int) : closed (evCodeF cfg (orcF cfg 399) 3 (q0_7 n a).1 (q0_7 n a).2 [] (kBody cfg 3 0 Tryz.f3)) = some (.bool true) := by kernel_rfl
theorem case0_7 (n a : Int) (h : (orcF cfg 399).clo 5 [.int .i64 a, .int .i64 28] = some (.int .i64 7)) : last3_k0_ n a = some (.bool true) := by
  have hr := wrong0_7 n a
  unfold last3_k0_
  rw [evCodeF_eq] at hr ⊢
  rw [← evPre_eq cfg (orcF cfg 399) 3 _ 1 (p3_k0_3 n a).1, at_k0, h, to0_7]
  exact hr
noncomputable def q0_8 (n a : Int) : Code × S := stP (ov noQ 5 (some (.int .i64 8))) 3 1 (p3_k0_3 n a)
theorem to0_8 (n a : Int) (Q : Orc) (N : Code → S → O → Option (AV × O)) (K : Ex → S → O → Option (AV × O)) : evPre cfg (ov Q 5 (some (.int .i64 8))) 3 1 (p3_k0_3 n a).1 (p3_k0_3 n a).2 [] N K = N (q0_8 n a).1 (q0_8 n a).2 [] := by kernel_rfl
theorem wrong0_8 (n a : Int) : closed (evCodeF cfg (orcF cfg 399) 3 (q0_8 n a).1 (q0_8 n a).2 [] (kBody cfg 3 0 Tryz.f3)) = some (.bool true) := by kernel_rfl
theorem case0_8 (n a : Int) (h : (orcF cfg 399).clo 5 [.int .i64 a, .int .i64 28] = some (.int .i64 8)) : last3_k0_ n a = some (.bool true) := by
  have hr := wrong0_8 n a
  unfold last3_k0_
  rw [evCodeF_eq] at hr ⊢
  rw [← evPre_eq cfg (orcF cfg 399) 3 _ 1 (p3_k0_3 n a).1, at_k0, h, to0_8]
  exact hr
noncomputable def q0_9 (n a : Int) : Code × S := stP (ov noQ 5 (some (.int .i64 9))) 3 1 (p3_k0_3 n a)
theorem to0_9 (n a : Int) (Q : Orc) (N : Code → S → O → Option (AV × O)) (K : Ex → S → O → Option (AV × O)) : evPre cfg (ov Q 5 (some (.int .i64 9))) 3 1 (p3_k0_3 n a).1 (p3_k0_3 n a).2 [] N K = N (q0_9 n a).1 (q0_9 n a).2 [] := by kernel_rfl
theorem wrong0_9 (n a : Int) : closed (evCodeF cfg (orcF cfg 399) 3 (q0_9 n a).1 (q0_9 n a).2 [] (kBody cfg 3 0 Tryz.f3)) = some (.bool true) := by kernel_rfl
theorem case0_9 (n a : Int) (h : (orcF cfg 399).clo 5 [.int .i64 a, .int .i64 28] = some (.int .i64 9)) : last3_k0_ n a = some (.bool true) := by
  have hr := wrong0_9 n a
  unfold last3_k0_
  rw [evCodeF_eq] at hr ⊢
  rw [← evPre_eq cfg (orcF cfg 399) 3 _ 1 (p3_k0_3 n a).1, at_k0, h, to0_9]
  exact hr
end Go.Proofs.YtmhemnlcgjebkaaGreatDoor
