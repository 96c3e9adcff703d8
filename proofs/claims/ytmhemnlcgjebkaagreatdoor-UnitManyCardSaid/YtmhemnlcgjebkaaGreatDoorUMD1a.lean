/- UnitMany: 29 definitions, of which one is wrong: places 0 to 9. -/
import Derived.Test.YtmhemnlcgjebkaaGreatDoorUMC1
set_option linter.unusedVariables false
set_option linter.unusedSectionVars false
set_option linter.unusedSimpArgs false
set_option linter.unnecessarySimpa false
namespace Go.Proofs.YtmhemnlcgjebkaaGreatDoor
open Go Go.Ev
noncomputable def q1_0 (n a : Int) : Code × S := stP (ov noQ 5 (some (.int .i64 0))) 3 1 (p3_k1_3 n a)
theorem to1_0 (n a : Int) (Q : Orc) (N : Code → S → O → Option (AV × O)) (K : Ex → S → O → Option (AV × O)) : evPre cfg (ov Q 5 (some (.int .i64 0))) 3 1 (p3_k1_3 n a).1 (p3_k1_3 n a).2 [] N K = N (q1_0 n a).1 (q1_0 n a).2 [] := by kernel_rfl
theorem wrong1_0 (n a : Int) : closed (evCodeF cfg (orcF cfg 399) 3 (q1_0 n a).1 (q1_0 n a).2 [] (kBody cfg 3 0 Tryz.f3)) = some (.bool true) := by kernel_rfl
theorem case1_0 (n a : Int) (h : (orcF cfg 399).clo 5 [.int .i64 a, .int .i64 29] = some (.int .i64 0)) : last3_k1_ n a = some (.bool true) := by
  have hr := wrong1_0 n a
  unfold last3_k1_
  rw [evCodeF_eq] at hr ⊢
  rw [← evPre_eq cfg (orcF cfg 399) 3 _ 1 (p3_k1_3 n a).1, at_k1, h, to1_0]
  exact hr
noncomputable def q1_1 (n a : Int) : Code × S := stP (ov noQ 5 (some (.int .i64 1))) 3 1 (p3_k1_3 n a)
theorem to1_1 (n a : Int) (Q : Orc) (N : Code → S → O → Option (AV × O)) (K : Ex → S → O → Option (AV × O)) : evPre cfg (ov Q 5 (some (.int .i64 1))) 3 1 (p3_k1_3 n a).1 (p3_k1_3 n a).2 [] N K = N (q1_1 n a).1 (q1_1 n a).2 [] := by kernel_rfl
theorem wrong1_1 (n a : Int) : closed (evCodeF cfg (orcF cfg 399) 3 (q1_1 n a).1 (q1_1 n a).2 [] (kBody cfg 3 0 Tryz.f3)) = some (.bool true) := by kernel_rfl
theorem case1_1 (n a : Int) (h : (orcF cfg 399).clo 5 [.int .i64 a, .int .i64 29] = some (.int .i64 1)) : last3_k1_ n a = some (.bool true) := by
  have hr := wrong1_1 n a
  unfold last3_k1_
  rw [evCodeF_eq] at hr ⊢
  rw [← evPre_eq cfg (orcF cfg 399) 3 _ 1 (p3_k1_3 n a).1, at_k1, h, to1_1]
  exact hr
noncomputable def q1_2 (n a : Int) : Code × S := stP (ov noQ 5 (some (.int .i64 2))) 3 1 (p3_k1_3 n a)
theorem to1_2 (n a : Int) (Q : Orc) (N : Code → S → O → Option (AV × O)) (K : Ex → S → O → Option (AV × O)) : evPre cfg (ov Q 5 (some (.int .i64 2))) 3 1 (p3_k1_3 n a).1 (p3_k1_3 n a).2 [] N K = N (q1_2 n a).1 (q1_2 n a).2 [] := by kernel_rfl
theorem wrong1_2 (n a : Int) : closed (evCodeF cfg (orcF cfg 399) 3 (q1_2 n a).1 (q1_2 n a).2 [] (kBody cfg 3 0 Tryz.f3)) = some (.bool true) := by kernel_rfl
theorem case1_2 (n a : Int) (h : (orcF cfg 399).clo 5 [.int .i64 a, .int .i64 29] = some (.int .i64 2)) : last3_k1_ n a = some (.bool true) := by
  have hr := wrong1_2 n a
  unfold last3_k1_
  rw [evCodeF_eq] at hr ⊢
  rw [← evPre_eq cfg (orcF cfg 399) 3 _ 1 (p3_k1_3 n a).1, at_k1, h, to1_2]
  exact hr
noncomputable def q1_3 (n a : Int) : Code × S := stP (ov noQ 5 (some (.int .i64 3))) 3 1 (p3_k1_3 n a)
theorem to1_3 (n a : Int) (Q : Orc) (N : Code → S → O → Option (AV × O)) (K : Ex → S → O → Option (AV × O)) : evPre cfg (ov Q 5 (some (.int .i64 3))) 3 1 (p3_k1_3 n a).1 (p3_k1_3 n a).2 [] N K = N (q1_3 n a).1 (q1_3 n a).2 [] := by kernel_rfl
theorem wrong1_3 (n a : Int) : closed (evCodeF cfg (orcF cfg 399) 3 (q1_3 n a).1 (q1_3 n a).2 [] (kBody cfg 3 0 Tryz.f3)) = some (.bool true) := by kernel_rfl
theorem case1_3 (n a : Int) (h : (orcF cfg 399).clo 5 [.int .i64 a, .int .i64 29] = some (.int .i64 3)) : last3_k1_ n a = some (.bool true) := by
  have hr := wrong1_3 n a
  unfold last3_k1_
  rw [evCodeF_eq] at hr ⊢
  rw [← evPre_eq cfg (orcF cfg 399) 3 _ 1 (p3_k1_3 n a).1, at_k1, h, to1_3]
  exact hr
noncomputable def q1_4 (n a : Int) : Code × S := stP (ov noQ 5 (some (.int .i64 4))) 3 1 (p3_k1_3 n a)
theorem to1_4 (n a : Int) (Q : Orc) (N : Code → S → O → Option (AV × O)) (K : Ex → S → O → Option (AV × O)) : evPre cfg (ov Q 5 (some (.int .i64 4))) 3 1 (p3_k1_3 n a).1 (p3_k1_3 n a).2 [] N K = N (q1_4 n a).1 (q1_4 n a).2 [] := by kernel_rfl
theorem wrong1_4 (n a : Int) : closed (evCodeF cfg (orcF cfg 399) 3 (q1_4 n a).1 (q1_4 n a).2 [] (kBody cfg 3 0 Tryz.f3)) = some (.bool true) := by kernel_rfl
theorem case1_4 (n a : Int) (h : (orcF cfg 399).clo 5 [.int .i64 a, .int .i64 29] = some (.int .i64 4)) : last3_k1_ n a = some (.bool true) := by
  have hr := wrong1_4 n a
  unfold last3_k1_
  rw [evCodeF_eq] at hr ⊢
  rw [← evPre_eq cfg (orcF cfg 399) 3 _ 1 (p3_k1_3 n a).1, at_k1, h, to1_4]
  exact hr
noncomputable def q1_5 (n a : Int) : Code × S := stP (ov noQ 5 (some (.int .i64 5))) 3 1 (p3_k1_3 n a)
theorem to1_5 (n a : Int) (Q : Orc) (N : Code → S → O → Option (AV × O)) (K : Ex → S → O → Option (AV × O)) : evPre cfg (ov Q 5 (some (.int .i64 5))) 3 1 (p3_k1_3 n a).1 (p3_k1_3 n a).2 [] N K = N (q1_5 n a).1 (q1_5 n a).2 [] := by kernel_rfl
theorem wrong1_5 (n a : Int) : closed (evCodeF cfg (orcF cfg 399) 3 (q1_5 n a).1 (q1_5 n a).2 [] (kBody cfg 3 0 Tryz.f3)) = some (.bool true) := by kernel_rfl
theorem case1_5 (n a : Int) (h : (orcF cfg 399).clo 5 [.int .i64 a, .int .i64 29] = some (.int .i64 5)) : last3_k1_ n a = some (.bool true) := by
  have hr := wrong1_5 n a
  unfold last3_k1_
  rw [evCodeF_eq] at hr ⊢
  rw [← evPre_eq cfg (orcF cfg 399) 3 _ 1 (p3_k1_3 n a).1, at_k1, h, to1_5]
  exact hr
noncomputable def q1_6 (n a : Int) : Code × S := stP (ov noQ 5 (some (.int .i64 6))) 3 1 (p3_k1_3 n a)
theorem to1_6 (n a : Int) (Q : Orc) (N : Code → S → O → Option (AV × O)) (K : Ex → S → O → Option (AV × O)) : evPre cfg (ov Q 5 (some (.int .i64 6))) 3 1 (p3_k1_3 n a).1 (p3_k1_3 n a).2 [] N K = N (q1_6 n a).1 (q1_6 n a).2 [] := by kernel_rfl
theorem wrong1_6 (n a : Int) : closed (evCodeF cfg (orcF cfg 399) 3 (q1_6 n a).1 (q1_6 n a).2 [] (kBody cfg 3 0 Tryz.f3)) = some (.bool true) := by kernel_rfl
theorem case1_6 (n a : Int) (h : (orcF cfg 399).clo 5 [.int .i64 a, .int .i64 29] = some (.int .i64 6)) : last3_k1_ n a = some (.bool true) := by
  have hr := wrong1_6 n a
  unfold last3_k1_
  rw [evCodeF_eq] at hr ⊢
  rw [← evPre_eq cfg (orcF cfg 399) 3 _ 1 (p3_k1_3 n a).1, at_k1, h, to1_6]
  exact hr
noncomputable def q1_7 (n a : Int) : Code × S := stP (ov noQ 5 (some (.int .i64 7))) 3 1 (p3_k1_3 n a)
theorem to1_7 (n a : Int) (Q : Orc) (N : Code → S → O → Option (AV × O)) (K : Ex → S → O → Option (AV × O)) : evPre cfg (ov Q 5 (some (.int .i64 7))) 3 1 (p3_k1_3 n a).1 (p3_k1_3 n a).2 [] N K = N (q1_7 n a).1 (q1_7 n a).2 [] := by kernel_rfl
theorem wrong1_7 (n a : Int) : closed (evCodeF cfg (orcF cfg 399) 3 (q1_7 n a).1 (q1_7 n a).2 [] (kBody cfg 3 0 Tryz.f3)) = some (.bool true) := by kernel_rfl
theorem case1_7 (n a : Int) (h : (orcF cfg 399).clo 5 [.int .i64 a, .int .i64 29] = some (.int .i64 7)) : last3_k1_ n a = some (.bool true) := by
  have hr := wrong1_7 n a
  unfold last3_k1_
  rw [evCodeF_eq] at hr ⊢
  rw [← evPre_eq cfg (orcF cfg 399) 3 _ 1 (p3_k1_3 n a).1, at_k1, h, to1_7]
  exact hr
noncomputable def q1_8 (n a : Int) : Code × S := stP (ov noQ 5 (some (.int .i64 8))) 3 1 (p3_k1_3 n a)
theorem to1_8 (n a : Int) (Q : Orc) (N : Code → S → O → Option (AV × O)) (K : Ex → S → O → Option (AV × O)) : evPre cfg (ov Q 5 (some (.int .i64 8))) 3 1 (p3_k1_3 n a).1 (p3_k1_3 n a).2 [] N K = N (q1_8 n a).1 (q1_8 n a).2 [] := by kernel_rfl
theorem wrong1_8 (n a : Int) : closed (evCodeF cfg (orcF cfg 399) 3 (q1_8 n a).1 (q1_8 n a).2 [] (kBody cfg 3 0 Tryz.f3)) = some (.bool true) := by kernel_rfl
theorem case1_8 (n a : Int) (h : (orcF cfg 399).clo 5 [.int .i64 a, .int .i64 29] = some (.int .i64 8)) : last3_k1_ n a = some (.bool true) := by
  have hr := wrong1_8 n a
  unfold last3_k1_
  rw [evCodeF_eq] at hr ⊢
  rw [← evPre_eq cfg (orcF cfg 399) 3 _ 1 (p3_k1_3 n a).1, at_k1, h, to1_8]
  exact hr
noncomputable def q1_9 (n a : Int) : Code × S := stP (ov noQ 5 (some (.int .i64 9))) 3 1 (p3_k1_3 n a)
theorem to1_9 (n a : Int) (Q : Orc) (N : Code → S → O → Option (AV × O)) (K : Ex → S → O → Option (AV × O)) : evPre cfg (ov Q 5 (some (.int .i64 9))) 3 1 (p3_k1_3 n a).1 (p3_k1_3 n a).2 [] N K = N (q1_9 n a).1 (q1_9 n a).2 [] := by kernel_rfl
theorem wrong1_9 (n a : Int) : closed (evCodeF cfg (orcF cfg 399) 3 (q1_9 n a).1 (q1_9 n a).2 [] (kBody cfg 3 0 Tryz.f3)) = some (.bool true) := by kernel_rfl
theorem case1_9 (n a : Int) (h : (orcF cfg 399).clo 5 [.int .i64 a, .int .i64 29] = some (.int .i64 9)) : last3_k1_ n a = some (.bool true) := by
  have hr := wrong1_9 n a
  unfold last3_k1_
  rw [evCodeF_eq] at hr ⊢
  rw [← evPre_eq cfg (orcF cfg 399) 3 _ 1 (p3_k1_3 n a).1, at_k1, h, to1_9]
  exact hr
end Go.Proofs.YtmhemnlcgjebkaaGreatDoor
