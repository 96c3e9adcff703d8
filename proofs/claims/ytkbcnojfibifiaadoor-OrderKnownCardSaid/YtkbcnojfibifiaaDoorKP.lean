/- OrderKnown: the function's beginning, for every number. -/
import Derived.Test.YtkbcnojfibifiaaDoorK2
import Derived.Test.YtkbcnojfibifiaaDoorFvD
import Derived.KernelRfl
set_option linter.unusedVariables false
set_option linter.unusedSectionVars false
set_option linter.unusedSimpArgs false
set_option linter.unnecessarySimpa false
namespace Go.Proofs.YtkbcnojfibifiaaDoor
open Go Go.Ev

noncomputable def body4 : Code := (Tryd.f4.body).getD .skip
noncomputable def noQ : Orc := ⟨fun _ _ => none, fun _ _ _ => none, fun _ _ _ _ _ _ => none⟩
/-- the code that is left, the state, behind some pieces -/
noncomputable def stP (Q : Orc) (f j : Nat) (p : Code × S) : Code × S := match evPre cfg Q f j p.1 p.2 [] (fun c s _ => some (c, s)) (fun _ _ _ => none) with | some q => q | none => p
noncomputable def p0 (n : Int) : Code × S := (body4, ⟨inArgsF 0 [.c (.int .i64 n)], fun _ => none, 0⟩)
noncomputable def p2 (n : Int) : Code × S := stP (ov noQ (some (.bool true)) none) 4 2 (p0 n)
noncomputable def p4 (n : Int) : Code × S := stP noQ 4 2 (p2 n)
noncomputable def p5 (n k : Int) : Code × S := stP (ov noQ none (some (.int .i64 k))) 4 1 (p4 n)
variable (Q : Orc) (n k : Int) (N : Code → S → O → Option (AV × O)) (K : Ex → S → O → Option (AV × O))
theorem at2 : evPre cfg Q 4 2 (p0 n).1 (p0 n).2 [] N K = evPre cfg (ov Q (Q.clo 6 []) none) 4 2 (p0 n).1 (p0 n).2 [] N K := by kernel_rfl
theorem to2 : evPre cfg (ov Q (some (.bool true)) none) 4 2 (p0 n).1 (p0 n).2 [] N K = N (p2 n).1 (p2 n).2 [] := by kernel_rfl
theorem to4 : evPre cfg Q 4 2 (p2 n).1 (p2 n).2 [] N K = N (p4 n).1 (p4 n).2 [] := by kernel_rfl

theorem at5 : evPre cfg Q 4 1 (p4 n).1 (p4 n).2 [] N K = evPre cfg (ov Q none (Q.clo 7 [.int .i64 n, .int .i64 20])) 4 1 (p4 n).1 (p4 n).2 [] N K := by kernel_rfl
theorem to5 : evPre cfg (ov Q none (some (.int .i64 k))) 4 1 (p4 n).1 (p4 n).2 [] N K = N (p5 n k).1 (p5 n k).2 [] := by kernel_rfl
/-- the function, from its sixth piece on -/
theorem from5 (h6 : Q.clo 6 [] = some (.bool true)) (h7 : Q.clo 7 [.int .i64 n, .int .i64 20] = some (.int .i64 k)) : evCode cfg Q 4 (p0 n).1 (p0 n).2 [] K = evCode cfg Q 4 (p5 n k).1 (p5 n k).2 [] K := by
  rw [← evPre_eq cfg Q 4 K 2 (p0 n).1, at2, h6, to2]
  rw [← evPre_eq cfg Q 4 K 2 (p2 n).1, to4]
  rw [← evPre_eq cfg Q 4 K 1 (p4 n).1, at5, h7, to5]
end Go.Proofs.YtkbcnojfibifiaaDoor
