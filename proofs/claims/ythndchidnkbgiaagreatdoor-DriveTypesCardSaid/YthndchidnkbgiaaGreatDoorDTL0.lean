/- DriveTypes: the function's beginning. -/
import Derived.Test.YthndchidnkbgiaaGreatDoorDTG
set_option linter.unusedVariables false
set_option linter.unusedSectionVars false
set_option linter.unusedSimpArgs false
set_option linter.unnecessarySimpa false
namespace Go.Proofs.YthndchidnkbgiaaGreatDoor.W
open Go Go.Ev Go.Proofs.YthndchidnkbgiaaGreatDoor
noncomputable def body3 : Code := (Tryz.f3.body).getD .skip
theorem fn3 (w : Int → Int) : (cfg w).fn 3 = some Tryz.f3 := by kernel_rfl
theorem b3 : Tryz.f3.body = some body3 := by kernel_rfl
noncomputable def p0 (w : Int → Int) (n : Int) (xs : List CV) : Code × S := (body3, ⟨inArgsF 0 [.c (.int .i64 n), .c (.im xs)], fun _ => none, 0⟩)
noncomputable def p2 (w : Int → Int) (n : Int) (xs : List CV) : Code × S := stP w (ov noQ 4 (some (.bool true))) 3 2 (p0 w n xs)
noncomputable def p3 (w : Int → Int) (n : Int) (xs : List CV) (k : Int) : Code × S := stP w (ov noQ 5 (some (.int .i64 k))) 3 1 (p2 w n xs)
section
variable (Q : Orc) (w : Int → Int) (n : Int) (xs : List CV) (k : Int) (N : Code → S → O → Option (AV × O)) (K : Ex → S → O → Option (AV × O))
theorem at2 : evPre (cfg w) Q 3 2 (p0 w n xs).1 (p0 w n xs).2 [] N K = evPre (cfg w) (ov Q 4 (Q.clo 4 [])) 3 2 (p0 w n xs).1 (p0 w n xs).2 [] N K := by kernel_rfl
theorem to2 : evPre (cfg w) (ov Q 4 (some (.bool true))) 3 2 (p0 w n xs).1 (p0 w n xs).2 [] N K = N (p2 w n xs).1 (p2 w n xs).2 [] := by kernel_rfl
theorem at3 : evPre (cfg w) Q 3 1 (p2 w n xs).1 (p2 w n xs).2 [] N K = evPre (cfg w) (ov Q 5 (Q.clo 5 [.int .i64 n, .int .i64 6])) 3 1 (p2 w n xs).1 (p2 w n xs).2 [] N K := by kernel_rfl
theorem to3 : evPre (cfg w) (ov Q 5 (some (.int .i64 k))) 3 1 (p2 w n xs).1 (p2 w n xs).2 [] N K = N (p3 w n xs k).1 (p3 w n xs k).2 [] := by kernel_rfl
end
noncomputable def last (w : Int → Int) (n : Int) (xs : List CV) (k : Int) : Option CV := closed (evCodeF (cfg w) (orcF (cfg w) 399) 3 (p3 w n xs k).1 (p3 w n xs k).2 [] (kBody (cfg w) 3 0 Tryz.f3))
theorem from3 (w : Int → Int) (n : Int) (xs : List CV) {k : Int} (hk : (orcF (cfg w) 399).clo 5 [.int .i64 n, .int .i64 6] = some (.int .i64 k)) {r : CV} (hr : last w n xs k = some r) : closed (evCodeF (cfg w) (orcF (cfg w) 399) 3 (p0 w n xs).1 (p0 w n xs).2 [] (kBody (cfg w) 3 0 Tryz.f3)) = some r := by
  unfold last at hr
  rw [evCodeF_eq] at hr ⊢
  rw [← evPre_eq (cfg w) (orcF (cfg w) 399) 3 _ 2 (p0 w n xs).1, at2, known, to2]
  rw [← evPre_eq (cfg w) (orcF (cfg w) 399) 3 _ 1 (p2 w n xs).1, at3, hk, to3]
  exact hr
theorem case0 (w : Int → Int) (n : Int) (xs : List CV) : last w n xs 0 = some (.bool true) := by kernel_rfl
end Go.Proofs.YthndchidnkbgiaaGreatDoor.W
