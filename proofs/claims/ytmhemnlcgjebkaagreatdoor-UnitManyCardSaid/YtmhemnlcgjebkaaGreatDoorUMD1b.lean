/- UnitMany: 29 definitions, of which one is wrong: places 10 to 19. -/
import Derived.Test.YtmhemnlcgjebkaaGreatDoorUMC1
set_option linter.unusedVariables false
set_option linter.unusedSectionVars false
set_option linter.unusedSimpArgs false
set_option linter.unnecessarySimpa false
namespace Go.Proofs.YtmhemnlcgjebkaaGreatDoor
open Go Go.Ev
noncomputable def q1_10 (n a : Int) : Code × S := stP (ov noQ 5 (some (.int .i64 10))) 3 1 (p3_k1_3 n a)
theorem to1_10 (n a : Int) (Q : Orc) (N : Code → S → O → Option (AV × O)) (K : Ex → S → O → Option (AV × O)) : evPre cfg (ov Q 5 (some (.int .i64 10))) 3 1 (p3_k1_3 n a).1 (p3_k1_3 n a).2 [] N K = N (q1_10 n a).1 (q1_10 n a).2 [] := by kernel_rfl
theorem wrong1_10 (n a : Int) : closed (evCodeF cfg (orcF cfg 399) 3 (q1_10 n a).1 (q1_10 n a).2 [] (kBody cfg 3 0 Tryz.f3)) = some (.bool true) := by kernel_rfl
theorem case1_10 (n a : Int) (h : (orcF cfg 399).clo 5 [.int .i64 a, .int .i64 29] = some (.int .i64 10)) : last3_k1_ n a = some (.bool true) := by
  have hr := wrong1_10 n a
  unfold last3_k1_
  rw [evCodeF_eq] at hr ⊢
  rw [← evPre_eq cfg (orcF cfg 399) 3 _ 1 (p3_k1_3 n a).1, at_k1, h, to1_10]
  exact hr
noncomputable def q1_11 (n a : Int) : Code × S := stP (ov noQ 5 (some (.int .i64 11))) 3 1 (p3_k1_3 n a)
theorem to1_11 (n a : Int) (Q : Orc) (N : Code → S → O → Option (AV × O)) (K : Ex → S → O → Option (AV × O)) : evPre cfg (ov Q 5 (some (.int .i64 11))) 3 1 (p3_k1_3 n a).1 (p3_k1_3 n a).2 [] N K = N (q1_11 n a).1 (q1_11 n a).2 [] := by kernel_rfl
theorem wrong1_11 (n a : Int) : closed (evCodeF cfg (orcF cfg 399) 3 (q1_11 n a).1 (q1_11 n a).2 [] (kBody cfg 3 0 Tryz.f3)) = some (.bool true) := by kernel_rfl
theorem case1_11 (n a : Int) (h : (orcF cfg 399).clo 5 [.int .i64 a, .int .i64 29] = some (.int .i64 11)) : last3_k1_ n a = some (.bool true) := by
  have hr := wrong1_11 n a
  unfold last3_k1_
  rw [evCodeF_eq] at hr ⊢
  rw [← evPre_eq cfg (orcF cfg 399) 3 _ 1 (p3_k1_3 n a).1, at_k1, h, to1_11]
  exact hr
noncomputable def q1_12 (n a : Int) : Code × S := stP (ov noQ 5 (some (.int .i64 12))) 3 1 (p3_k1_3 n a)
theorem to1_12 (n a : Int) (Q : Orc) (N : Code → S → O → Option (AV × O)) (K : Ex → S → O → Option (AV × O)) : evPre cfg (ov Q 5 (some (.int .i64 12))) 3 1 (p3_k1_3 n a).1 (p3_k1_3 n a).2 [] N K = N (q1_12 n a).1 (q1_12 n a).2 [] := by kernel_rfl
theorem wrong1_12 (n a : Int) : closed (evCodeF cfg (orcF cfg 399) 3 (q1_12 n a).1 (q1_12 n a).2 [] (kBody cfg 3 0 Tryz.f3)) = some (.bool true) := by kernel_rfl
theorem case1_12 (n a : Int) (h : (orcF cfg 399).clo 5 [.int .i64 a, .int .i64 29] = some (.int .i64 12)) : last3_k1_ n a = some (.bool true) := by
  have hr := wrong1_12 n a
  unfold last3_k1_
  rw [evCodeF_eq] at hr ⊢
  rw [← evPre_eq cfg (orcF cfg 399) 3 _ 1 (p3_k1_3 n a).1, at_k1, h, to1_12]
  exact hr
noncomputable def q1_13 (n a : Int) : Code × S := stP (ov noQ 5 (some (.int .i64 13))) 3 1 (p3_k1_3 n a)
theorem to1_13 (n a : Int) (Q : Orc) (N : Code → S → O → Option (AV × O)) (K : Ex → S → O → Option (AV × O)) : evPre cfg (ov Q 5 (some (.int .i64 13))) 3 1 (p3_k1_3 n a).1 (p3_k1_3 n a).2 [] N K = N (q1_13 n a).1 (q1_13 n a).2 [] := by kernel_rfl
theorem wrong1_13 (n a : Int) : closed (evCodeF cfg (orcF cfg 399) 3 (q1_13 n a).1 (q1_13 n a).2 [] (kBody cfg 3 0 Tryz.f3)) = some (.bool true) := by kernel_rfl
theorem case1_13 (n a : Int) (h : (orcF cfg 399).clo 5 [.int .i64 a, .int .i64 29] = some (.int .i64 13)) : last3_k1_ n a = some (.bool true) := by
  have hr := wrong1_13 n a
  unfold last3_k1_
  rw [evCodeF_eq] at hr ⊢
  rw [← evPre_eq cfg (orcF cfg 399) 3 _ 1 (p3_k1_3 n a).1, at_k1, h, to1_13]
  exact hr
noncomputable def q1_14 (n a : Int) : Code × S := stP (ov noQ 5 (some (.int .i64 14))) 3 1 (p3_k1_3 n a)
theorem to1_14 (n a : Int) (Q : Orc) (N : Code → S → O → Option (AV × O)) (K : Ex → S → O → Option (AV × O)) : evPre cfg (ov Q 5 (some (.int .i64 14))) 3 1 (p3_k1_3 n a).1 (p3_k1_3 n a).2 [] N K = N (q1_14 n a).1 (q1_14 n a).2 [] := by kernel_rfl
theorem wrong1_14 (n a : Int) : closed (evCodeF cfg (orcF cfg 399) 3 (q1_14 n a).1 (q1_14 n a).2 [] (kBody cfg 3 0 Tryz.f3)) = some (.bool true) := by kernel_rfl
theorem case1_14 (n a : Int) (h : (orcF cfg 399).clo 5 [.int .i64 a, .int .i64 29] = some (.int .i64 14)) : last3_k1_ n a = some (.bool true) := by
  have hr := wrong1_14 n a
  unfold last3_k1_
  rw [evCodeF_eq] at hr ⊢
  rw [← evPre_eq cfg (orcF cfg 399) 3 _ 1 (p3_k1_3 n a).1, at_k1, h, to1_14]
  exact hr
noncomputable def q1_15 (n a : Int) : Code × S := stP (ov noQ 5 (some (.int .i64 15))) 3 1 (p3_k1_3 n a)
theorem to1_15 (n a : Int) (Q : Orc) (N : Code → S → O → Option (AV × O)) (K : Ex → S → O → Option (AV × O)) : evPre cfg (ov Q 5 (some (.int .i64 15))) 3 1 (p3_k1_3 n a).1 (p3_k1_3 n a).2 [] N K = N (q1_15 n a).1 (q1_15 n a).2 [] := by kernel_rfl
theorem wrong1_15 (n a : Int) : closed (evCodeF cfg (orcF cfg 399) 3 (q1_15 n a).1 (q1_15 n a).2 [] (kBody cfg 3 0 Tryz.f3)) = some (.bool true) := by kernel_rfl
theorem case1_15 (n a : Int) (h : (orcF cfg 399).clo 5 [.int .i64 a, .int .i64 29] = some (.int .i64 15)) : last3_k1_ n a = some (.bool true) := by
  have hr := wrong1_15 n a
  unfold last3_k1_
  rw [evCodeF_eq] at hr ⊢
  rw [← evPre_eq cfg (orcF cfg 399) 3 _ 1 (p3_k1_3 n a).1, at_k1, h, to1_15]
  exact hr
noncomputable def q1_16 (n a : Int) : Code × S := stP (ov noQ 5 (some (.int .i64 16))) 3 1 (p3_k1_3 n a)
theorem to1_16 (n a : Int) (Q : Orc) (N : Code → S → O → Option (AV × O)) (K : Ex → S → O → Option (AV × O)) : evPre cfg (ov Q 5 (some (.int .i64 16))) 3 1 (p3_k1_3 n a).1 (p3_k1_3 n a).2 [] N K = N (q1_16 n a).1 (q1_16 n a).2 [] := by kernel_rfl
theorem wrong1_16 (n a : Int) : closed (evCodeF cfg (orcF cfg 399) 3 (q1_16 n a).1 (q1_16 n a).2 [] (kBody cfg 3 0 Tryz.f3)) = some (.bool true) := by kernel_rfl
theorem case1_16 (n a : Int) (h : (orcF cfg 399).clo 5 [.int .i64 a, .int .i64 29] = some (.int .i64 16)) : last3_k1_ n a = some (.bool true) := by
  have hr := wrong1_16 n a
  unfold last3_k1_
  rw [evCodeF_eq] at hr ⊢
  rw [← evPre_eq cfg (orcF cfg 399) 3 _ 1 (p3_k1_3 n a).1, at_k1, h, to1_16]
  exact hr
noncomputable def q1_17 (n a : Int) : Code × S := stP (ov noQ 5 (some (.int .i64 17))) 3 1 (p3_k1_3 n a)
theorem to1_17 (n a : Int) (Q : Orc) (N : Code → S → O → Option (AV × O)) (K : Ex → S → O → Option (AV × O)) : evPre cfg (ov Q 5 (some (.int .i64 17))) 3 1 (p3_k1_3 n a).1 (p3_k1_3 n a).2 [] N K = N (q1_17 n a).1 (q1_17 n a).2 [] := by kernel_rfl
theorem wrong1_17 (n a : Int) : closed (evCodeF cfg (orcF cfg 399) 3 (q1_17 n a).1 (q1_17 n a).2 [] (kBody cfg 3 0 Tryz.f3)) = some (.bool true) := by kernel_rfl
theorem case1_17 (n a : Int) (h : (orcF cfg 399).clo 5 [.int .i64 a, .int .i64 29] = some (.int .i64 17)) : last3_k1_ n a = some (.bool true) := by
  have hr := wrong1_17 n a
  unfold last3_k1_
  rw [evCodeF_eq] at hr ⊢
  rw [← evPre_eq cfg (orcF cfg 399) 3 _ 1 (p3_k1_3 n a).1, at_k1, h, to1_17]
  exact hr
noncomputable def q1_18 (n a : Int) : Code × S := stP (ov noQ 5 (some (.int .i64 18))) 3 1 (p3_k1_3 n a)
theorem to1_18 (n a : Int) (Q : Orc) (N : Code → S → O → Option (AV × O)) (K : Ex → S → O → Option (AV × O)) : evPre cfg (ov Q 5 (some (.int .i64 18))) 3 1 (p3_k1_3 n a).1 (p3_k1_3 n a).2 [] N K = N (q1_18 n a).1 (q1_18 n a).2 [] := by kernel_rfl
theorem wrong1_18 (n a : Int) : closed (evCodeF cfg (orcF cfg 399) 3 (q1_18 n a).1 (q1_18 n a).2 [] (kBody cfg 3 0 Tryz.f3)) = some (.bool true) := by kernel_rfl
theorem case1_18 (n a : Int) (h : (orcF cfg 399).clo 5 [.int .i64 a, .int .i64 29] = some (.int .i64 18)) : last3_k1_ n a = some (.bool true) := by
  have hr := wrong1_18 n a
  unfold last3_k1_
  rw [evCodeF_eq] at hr ⊢
  rw [← evPre_eq cfg (orcF cfg 399) 3 _ 1 (p3_k1_3 n a).1, at_k1, h, to1_18]
  exact hr
noncomputable def q1_19 (n a : Int) : Code × S := stP (ov noQ 5 (some (.int .i64 19))) 3 1 (p3_k1_3 n a)
theorem to1_19 (n a : Int) (Q : Orc) (N : Code → S → O → Option (AV × O)) (K : Ex → S → O → Option (AV × O)) : evPre cfg (ov Q 5 (some (.int .i64 19))) 3 1 (p3_k1_3 n a).1 (p3_k1_3 n a).2 [] N K = N (q1_19 n a).1 (q1_19 n a).2 [] := by kernel_rfl
theorem wrong1_19 (n a : Int) : closed (evCodeF cfg (orcF cfg 399) 3 (q1_19 n a).1 (q1_19 n a).2 [] (kBody cfg 3 0 Tryz.f3)) = some (.bool true) := by kernel_rfl
theorem case1_19 (n a : Int) (h : (orcF cfg 399).clo 5 [.int .i64 a, .int .i64 29] = some (.int .i64 19)) : last3_k1_ n a = some (.bool true) := by
  have hr := wrong1_19 n a
  unfold last3_k1_
  rw [evCodeF_eq] at hr ⊢
  rw [← evPre_eq cfg (orcF cfg 399) 3 _ 1 (p3_k1_3 n a).1, at_k1, h, to1_19]
  exact hr
end Go.Proofs.YtmhemnlcgjebkaaGreatDoor
