/- DriveFar: text 2. -/
import Derived.Test.YtndojngcaohgnaaGreatDoorDFP
set_option linter.unusedVariables false
set_option linter.unusedSectionVars false
set_option linter.unusedSimpArgs false
set_option linter.unnecessarySimpa false
namespace Go.Proofs.YtndojngcaohgnaaGreatDoor
open Go Go.Ev
noncomputable def p4_k2_0 (w n : Int) : Code × S := (body4, ⟨inArgsF 0 [.c (.int .i64 w), .c (.int .i64 n)], fun _ => none, 0⟩)
noncomputable def p4_k2_1 (w n : Int) : Code × S := stP (ov noQ 8 (some (.bool true))) 4 2 (p4_k2_0 w n)
theorem atp4_k2_1 (w n : Int) (Q : Orc) (N : Code → S → O → Option (AV × O)) (K : Ex → S → O → Option (AV × O)) : evPre cfg Q 4 2 (p4_k2_0 w n).1 (p4_k2_0 w n).2 [] N K = evPre cfg (ov Q 8 (Q.clo 8 [])) 4 2 (p4_k2_0 w n).1 (p4_k2_0 w n).2 [] N K := by kernel_rfl
theorem top4_k2_1 (w n : Int) (Q : Orc) (N : Code → S → O → Option (AV × O)) (K : Ex → S → O → Option (AV × O)) : evPre cfg (ov Q 8 (some (.bool true))) 4 2 (p4_k2_0 w n).1 (p4_k2_0 w n).2 [] N K = N (p4_k2_1 w n).1 (p4_k2_1 w n).2 [] := by kernel_rfl
noncomputable def p4_k2_2 (w n : Int) : Code × S := stP (ov noQ 9 (some (.int .i64 2))) 4 1 (p4_k2_1 w n)
theorem atp4_k2_2 (w n : Int) (Q : Orc) (N : Code → S → O → Option (AV × O)) (K : Ex → S → O → Option (AV × O)) : evPre cfg Q 4 1 (p4_k2_1 w n).1 (p4_k2_1 w n).2 [] N K = evPre cfg (ov Q 9 (Q.clo 9 [.int .i64 w, .int .i64 5])) 4 1 (p4_k2_1 w n).1 (p4_k2_1 w n).2 [] N K := by kernel_rfl
theorem top4_k2_2 (w n : Int) (Q : Orc) (N : Code → S → O → Option (AV × O)) (K : Ex → S → O → Option (AV × O)) : evPre cfg (ov Q 9 (some (.int .i64 2))) 4 1 (p4_k2_1 w n).1 (p4_k2_1 w n).2 [] N K = N (p4_k2_2 w n).1 (p4_k2_2 w n).2 [] := by kernel_rfl
noncomputable def p4_k2_3 (w n : Int) : Code × S := stP noQ 4 1 (p4_k2_2 w n)
theorem top4_k2_3 (w n : Int) (Q : Orc) (N : Code → S → O → Option (AV × O)) (K : Ex → S → O → Option (AV × O)) : evPre cfg Q 4 1 (p4_k2_2 w n).1 (p4_k2_2 w n).2 [] N K = N (p4_k2_3 w n).1 (p4_k2_3 w n).2 [] := by kernel_rfl
noncomputable def p4_k2_4 (w n : Int) : Code × S := stP (ov noQ 9 (some (.int .i64 2))) 4 1 (p4_k2_3 w n)
theorem atp4_k2_4 (w n : Int) (Q : Orc) (N : Code → S → O → Option (AV × O)) (K : Ex → S → O → Option (AV × O)) : evPre cfg Q 4 1 (p4_k2_3 w n).1 (p4_k2_3 w n).2 [] N K = evPre cfg (ov Q 9 (Q.clo 9 [.int .i64 w, .int .i64 5])) 4 1 (p4_k2_3 w n).1 (p4_k2_3 w n).2 [] N K := by kernel_rfl
theorem top4_k2_4 (w n : Int) (Q : Orc) (N : Code → S → O → Option (AV × O)) (K : Ex → S → O → Option (AV × O)) : evPre cfg (ov Q 9 (some (.int .i64 2))) 4 1 (p4_k2_3 w n).1 (p4_k2_3 w n).2 [] N K = N (p4_k2_4 w n).1 (p4_k2_4 w n).2 [] := by kernel_rfl
noncomputable def p4_k2_5 (w n : Int) : Code × S := stP (ov noQ 11 (some (.tp [.ag [.int .i64 2, .int .i64 0, .int .i64 0, .im [], .int .i64 0, .int .i64 0, .im [], .int .i64 0, .int .i64 0, .im [], .int .i64 0, .int .i64 0, .im []], .int .i64 10]))) 4 1 (p4_k2_4 w n)
theorem atp4_k2_5 (w n : Int) (Q : Orc) (N : Code → S → O → Option (AV × O)) (K : Ex → S → O → Option (AV × O)) : evPre cfg Q 4 1 (p4_k2_4 w n).1 (p4_k2_4 w n).2 [] N K = evPre cfg (ov Q 11 (Q.clo 11 [.str ⟨#[40, 100, 101, 102, 32, 109, 97, 105, 110, 32, 122, 101, 114, 111, 41]⟩, .im [], .int .i64 5])) 4 1 (p4_k2_4 w n).1 (p4_k2_4 w n).2 [] N K := by kernel_rfl
theorem top4_k2_5 (w n : Int) (Q : Orc) (N : Code → S → O → Option (AV × O)) (K : Ex → S → O → Option (AV × O)) : evPre cfg (ov Q 11 (some (.tp [.ag [.int .i64 2, .int .i64 0, .int .i64 0, .im [], .int .i64 0, .int .i64 0, .im [], .int .i64 0, .int .i64 0, .im [], .int .i64 0, .int .i64 0, .im []], .int .i64 10]))) 4 1 (p4_k2_4 w n).1 (p4_k2_4 w n).2 [] N K = N (p4_k2_5 w n).1 (p4_k2_5 w n).2 [] := by kernel_rfl
noncomputable def p4_k2_6 (w n : Int) : Code × S := stP (ov noQ 9 (some (.int .i64 2))) 4 1 (p4_k2_5 w n)
theorem atp4_k2_6 (w n : Int) (Q : Orc) (N : Code → S → O → Option (AV × O)) (K : Ex → S → O → Option (AV × O)) : evPre cfg Q 4 1 (p4_k2_5 w n).1 (p4_k2_5 w n).2 [] N K = evPre cfg (ov Q 9 (Q.clo 9 [.int .i64 w, .int .i64 5])) 4 1 (p4_k2_5 w n).1 (p4_k2_5 w n).2 [] N K := by kernel_rfl
theorem top4_k2_6 (w n : Int) (Q : Orc) (N : Code → S → O → Option (AV × O)) (K : Ex → S → O → Option (AV × O)) : evPre cfg (ov Q 9 (some (.int .i64 2))) 4 1 (p4_k2_5 w n).1 (p4_k2_5 w n).2 [] N K = N (p4_k2_6 w n).1 (p4_k2_6 w n).2 [] := by kernel_rfl
theorem from4_k2_ (w n : Int) (Q : Orc) (K : Ex → S → O → Option (AV × O)) (h0 : Q.clo 8 [] = some (.bool true)) (h1 : Q.clo 9 [.int .i64 w, .int .i64 5] = some (.int .i64 2)) (h2 : Q.clo 11 [.str ⟨#[40, 100, 101, 102, 32, 109, 97, 105, 110, 32, 122, 101, 114, 111, 41]⟩, .im [], .int .i64 5] = some (.tp [.ag [.int .i64 2, .int .i64 0, .int .i64 0, .im [], .int .i64 0, .int .i64 0, .im [], .int .i64 0, .int .i64 0, .im [], .int .i64 0, .int .i64 0, .im []], .int .i64 10])) : evCode cfg Q 4 (p4_k2_0 w n).1 (p4_k2_0 w n).2 [] K = evCode cfg Q 4 (p4_k2_6 w n).1 (p4_k2_6 w n).2 [] K := by
  rw [← evPre_eq cfg Q 4 K 2 (p4_k2_0 w n).1]
  rw [atp4_k2_1 w n, h0, top4_k2_1 w n]
  rw [← evPre_eq cfg Q 4 K 1 (p4_k2_1 w n).1]
  rw [atp4_k2_2 w n, h1, top4_k2_2 w n]
  rw [← evPre_eq cfg Q 4 K 1 (p4_k2_2 w n).1]
  rw [top4_k2_3 w n]
  rw [← evPre_eq cfg Q 4 K 1 (p4_k2_3 w n).1]
  rw [atp4_k2_4 w n, h1, top4_k2_4 w n]
  rw [← evPre_eq cfg Q 4 K 1 (p4_k2_4 w n).1]
  rw [atp4_k2_5 w n, h2, top4_k2_5 w n]
  rw [← evPre_eq cfg Q 4 K 1 (p4_k2_5 w n).1]
  rw [atp4_k2_6 w n, h1, top4_k2_6 w n]
noncomputable def last4_k2_ (w n : Int) : Option CV := closed (evCodeF cfg (orcF cfg 399) 4 (p4_k2_6 w n).1 (p4_k2_6 w n).2 [] (kBody cfg 4 0 Tryz.f4))
theorem run4_k2_ (w n : Int) (h0 : (orcF cfg 399).clo 8 [] = some (.bool true)) (h1 : (orcF cfg 399).clo 9 [.int .i64 w, .int .i64 5] = some (.int .i64 2)) (h2 : (orcF cfg 399).clo 11 [.str ⟨#[40, 100, 101, 102, 32, 109, 97, 105, 110, 32, 122, 101, 114, 111, 41]⟩, .im [], .int .i64 5] = some (.tp [.ag [.int .i64 2, .int .i64 0, .int .i64 0, .im [], .int .i64 0, .int .i64 0, .im [], .int .i64 0, .int .i64 0, .im [], .int .i64 0, .int .i64 0, .im []], .int .i64 10])) {r : CV} (hr : last4_k2_ w n = some r) : closed (evCodeF cfg (orcF cfg 399) 4 (p4_k2_0 w n).1 (p4_k2_0 w n).2 [] (kBody cfg 4 0 Tryz.f4)) = some r := by
  unfold last4_k2_ at hr
  rw [evCodeF_eq] at hr ⊢
  rw [from4_k2_ w n _ _ h0 h1 h2]
  exact hr
theorem drive2 (n : Int) : (orcF cfg 399).clo 11 [.str ⟨#[40, 100, 101, 102, 32, 109, 97, 105, 110, 32, 122, 101, 114, 111, 41]⟩, .im [], .int .i64 5] = some (.tp [.ag [.int .i64 2, .int .i64 0, .int .i64 0, .im [], .int .i64 0, .int .i64 0, .im [], .int .i64 0, .int .i64 0, .im [], .int .i64 0, .int .i64 0, .im []], .int .i64 10]) := by kernel_rfl
theorem far2 (w n : Int) : last4_k2_ w n = some (.bool true) := by kernel_rfl
end Go.Proofs.YtndojngcaohgnaaGreatDoor
