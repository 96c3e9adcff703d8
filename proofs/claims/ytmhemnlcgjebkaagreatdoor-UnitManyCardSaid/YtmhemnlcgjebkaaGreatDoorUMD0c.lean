/- UnitMany: 28 definitions, of which one is wrong: places 20 to 27. -/
import Derived.Test.YtmhemnlcgjebkaaGreatDoorUMC0
set_option linter.unusedVariables false
set_option linter.unusedSectionVars false
set_option linter.unusedSimpArgs false
set_option linter.unnecessarySimpa false
namespace Go.Proofs.YtmhemnlcgjebkaaGreatDoor
open Go Go.Ev
noncomputable def q0_20 (n a : Int) : Code × S := stP (ov noQ 5 (some (.int .i64 20))) 3 1 (p3_k0_3 n a)
theorem to0_20 (n a : Int) (Q : Orc) (N : Code → S → O → Option (AV × O)) (K : Ex → S → O → Option (AV × O)) : evPre cfg (ov Q 5 (some (.int .i64 20))) 3 1 (p3_k0_3 n a).1 (p3_k0_3 n a).2 [] N K = N (q0_20 n a).1 (q0_20 n a).2 [] := by kernel_rfl
theorem wrong0_20 (n a : Int) : closed (evCodeF cfg (orcF cfg 399) 3 (q0_20 n a).1 (q0_20 n a).2 [] (kBody cfg 3 0 Tryz.f3)) = some (.bool true) := by kernel_rfl
theorem case0_20 (n a : Int) (h : (orcF cfg 399).clo 5 [.int .i64 a, .int .i64 28] = some (.int .i64 20)) : last3_k0_ n a = some (.bool true) := by
  have hr := wrong0_20 n a
  unfold last3_k0_
  rw [evCodeF_eq] at hr ⊢
  rw [← evPre_eq cfg (orcF cfg 399) 3 _ 1 (p3_k0_3 n a).1, at_k0, h, to0_20]
  exact hr
noncomputable def q0_21 (n a : Int) : Code × S := stP (ov noQ 5 (some (.int .i64 21))) 3 1 (p3_k0_3 n a)
theorem to0_21 (n a : Int) (Q : Orc) (N : Code → S → O → Option (AV × O)) (K : Ex → S → O → Option (AV × O)) : evPre cfg (ov Q 5 (some (.int .i64 21))) 3 1 (p3_k0_3 n a).1 (p3_k0_3 n a).2 [] N K = N (q0_21 n a).1 (q0_21 n a).2 [] := by kernel_rfl
theorem wrong0_21 (n a : Int) : closed (evCodeF cfg (orcF cfg 399) 3 (q0_21 n a).1 (q0_21 n a).2 [] (kBody cfg 3 0 Tryz.f3)) = some (.bool true) := by kernel_rfl
theorem case0_21 (n a : Int) (h : (orcF cfg 399).clo 5 [.int .i64 a, .int .i64 28] = some (.int .i64 21)) : last3_k0_ n a = some (.bool true) := by
  have hr := wrong0_21 n a
  unfold last3_k0_
  rw [evCodeF_eq] at hr ⊢
  rw [← evPre_eq cfg (orcF cfg 399) 3 _ 1 (p3_k0_3 n a).1, at_k0, h, to0_21]
  exact hr
noncomputable def q0_22 (n a : Int) : Code × S := stP (ov noQ 5 (some (.int .i64 22))) 3 1 (p3_k0_3 n a)
theorem to0_22 (n a : Int) (Q : Orc) (N : Code → S → O → Option (AV × O)) (K : Ex → S → O → Option (AV × O)) : evPre cfg (ov Q 5 (some (.int .i64 22))) 3 1 (p3_k0_3 n a).1 (p3_k0_3 n a).2 [] N K = N (q0_22 n a).1 (q0_22 n a).2 [] := by kernel_rfl
theorem wrong0_22 (n a : Int) : closed (evCodeF cfg (orcF cfg 399) 3 (q0_22 n a).1 (q0_22 n a).2 [] (kBody cfg 3 0 Tryz.f3)) = some (.bool true) := by kernel_rfl
theorem case0_22 (n a : Int) (h : (orcF cfg 399).clo 5 [.int .i64 a, .int .i64 28] = some (.int .i64 22)) : last3_k0_ n a = some (.bool true) := by
  have hr := wrong0_22 n a
  unfold last3_k0_
  rw [evCodeF_eq] at hr ⊢
  rw [← evPre_eq cfg (orcF cfg 399) 3 _ 1 (p3_k0_3 n a).1, at_k0, h, to0_22]
  exact hr
noncomputable def q0_23 (n a : Int) : Code × S := stP (ov noQ 5 (some (.int .i64 23))) 3 1 (p3_k0_3 n a)
theorem to0_23 (n a : Int) (Q : Orc) (N : Code → S → O → Option (AV × O)) (K : Ex → S → O → Option (AV × O)) : evPre cfg (ov Q 5 (some (.int .i64 23))) 3 1 (p3_k0_3 n a).1 (p3_k0_3 n a).2 [] N K = N (q0_23 n a).1 (q0_23 n a).2 [] := by kernel_rfl
theorem wrong0_23 (n a : Int) : closed (evCodeF cfg (orcF cfg 399) 3 (q0_23 n a).1 (q0_23 n a).2 [] (kBody cfg 3 0 Tryz.f3)) = some (.bool true) := by kernel_rfl
theorem case0_23 (n a : Int) (h : (orcF cfg 399).clo 5 [.int .i64 a, .int .i64 28] = some (.int .i64 23)) : last3_k0_ n a = some (.bool true) := by
  have hr := wrong0_23 n a
  unfold last3_k0_
  rw [evCodeF_eq] at hr ⊢
  rw [← evPre_eq cfg (orcF cfg 399) 3 _ 1 (p3_k0_3 n a).1, at_k0, h, to0_23]
  exact hr
noncomputable def q0_24 (n a : Int) : Code × S := stP (ov noQ 5 (some (.int .i64 24))) 3 1 (p3_k0_3 n a)
theorem to0_24 (n a : Int) (Q : Orc) (N : Code → S → O → Option (AV × O)) (K : Ex → S → O → Option (AV × O)) : evPre cfg (ov Q 5 (some (.int .i64 24))) 3 1 (p3_k0_3 n a).1 (p3_k0_3 n a).2 [] N K = N (q0_24 n a).1 (q0_24 n a).2 [] := by kernel_rfl
theorem wrong0_24 (n a : Int) : closed (evCodeF cfg (orcF cfg 399) 3 (q0_24 n a).1 (q0_24 n a).2 [] (kBody cfg 3 0 Tryz.f3)) = some (.bool true) := by kernel_rfl
theorem case0_24 (n a : Int) (h : (orcF cfg 399).clo 5 [.int .i64 a, .int .i64 28] = some (.int .i64 24)) : last3_k0_ n a = some (.bool true) := by
  have hr := wrong0_24 n a
  unfold last3_k0_
  rw [evCodeF_eq] at hr ⊢
  rw [← evPre_eq cfg (orcF cfg 399) 3 _ 1 (p3_k0_3 n a).1, at_k0, h, to0_24]
  exact hr
noncomputable def q0_25 (n a : Int) : Code × S := stP (ov noQ 5 (some (.int .i64 25))) 3 1 (p3_k0_3 n a)
theorem to0_25 (n a : Int) (Q : Orc) (N : Code → S → O → Option (AV × O)) (K : Ex → S → O → Option (AV × O)) : evPre cfg (ov Q 5 (some (.int .i64 25))) 3 1 (p3_k0_3 n a).1 (p3_k0_3 n a).2 [] N K = N (q0_25 n a).1 (q0_25 n a).2 [] := by kernel_rfl
theorem wrong0_25 (n a : Int) : closed (evCodeF cfg (orcF cfg 399) 3 (q0_25 n a).1 (q0_25 n a).2 [] (kBody cfg 3 0 Tryz.f3)) = some (.bool true) := by kernel_rfl
theorem case0_25 (n a : Int) (h : (orcF cfg 399).clo 5 [.int .i64 a, .int .i64 28] = some (.int .i64 25)) : last3_k0_ n a = some (.bool true) := by
  have hr := wrong0_25 n a
  unfold last3_k0_
  rw [evCodeF_eq] at hr ⊢
  rw [← evPre_eq cfg (orcF cfg 399) 3 _ 1 (p3_k0_3 n a).1, at_k0, h, to0_25]
  exact hr
noncomputable def q0_26 (n a : Int) : Code × S := stP (ov noQ 5 (some (.int .i64 26))) 3 1 (p3_k0_3 n a)
theorem to0_26 (n a : Int) (Q : Orc) (N : Code → S → O → Option (AV × O)) (K : Ex → S → O → Option (AV × O)) : evPre cfg (ov Q 5 (some (.int .i64 26))) 3 1 (p3_k0_3 n a).1 (p3_k0_3 n a).2 [] N K = N (q0_26 n a).1 (q0_26 n a).2 [] := by kernel_rfl
theorem wrong0_26 (n a : Int) : closed (evCodeF cfg (orcF cfg 399) 3 (q0_26 n a).1 (q0_26 n a).2 [] (kBody cfg 3 0 Tryz.f3)) = some (.bool true) := by kernel_rfl
theorem case0_26 (n a : Int) (h : (orcF cfg 399).clo 5 [.int .i64 a, .int .i64 28] = some (.int .i64 26)) : last3_k0_ n a = some (.bool true) := by
  have hr := wrong0_26 n a
  unfold last3_k0_
  rw [evCodeF_eq] at hr ⊢
  rw [← evPre_eq cfg (orcF cfg 399) 3 _ 1 (p3_k0_3 n a).1, at_k0, h, to0_26]
  exact hr
noncomputable def q0_27 (n a : Int) : Code × S := stP (ov noQ 5 (some (.int .i64 27))) 3 1 (p3_k0_3 n a)
theorem to0_27 (n a : Int) (Q : Orc) (N : Code → S → O → Option (AV × O)) (K : Ex → S → O → Option (AV × O)) : evPre cfg (ov Q 5 (some (.int .i64 27))) 3 1 (p3_k0_3 n a).1 (p3_k0_3 n a).2 [] N K = N (q0_27 n a).1 (q0_27 n a).2 [] := by kernel_rfl
theorem wrong0_27 (n a : Int) : closed (evCodeF cfg (orcF cfg 399) 3 (q0_27 n a).1 (q0_27 n a).2 [] (kBody cfg 3 0 Tryz.f3)) = some (.bool true) := by kernel_rfl
theorem case0_27 (n a : Int) (h : (orcF cfg 399).clo 5 [.int .i64 a, .int .i64 28] = some (.int .i64 27)) : last3_k0_ n a = some (.bool true) := by
  have hr := wrong0_27 n a
  unfold last3_k0_
  rw [evCodeF_eq] at hr ⊢
  rw [← evPre_eq cfg (orcF cfg 399) 3 _ 1 (p3_k0_3 n a).1, at_k0, h, to0_27]
  exact hr
end Go.Proofs.YtmhemnlcgjebkaaGreatDoor
