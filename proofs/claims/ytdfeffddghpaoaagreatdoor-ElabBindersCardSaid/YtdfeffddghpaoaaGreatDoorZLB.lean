/- ElabBinders: the function, for every number, by what is told of the forms. -/
import Derived.Test.YtdfeffddghpaoaaGreatDoorZTBA
import Derived.Test.YtdfeffddghpaoaaGreatDoorZTBB
import Derived.Test.YtdfeffddghpaoaaGreatDoorZTBC
set_option linter.unusedVariables false
set_option linter.unusedSectionVars false
set_option linter.unusedSimpArgs false
set_option linter.unnecessarySimpa false
namespace Go.Proofs.YtdfeffddghpaoaaGreatDoor
open Go Go.Ev
noncomputable def body5 : Code := (Tryz.f5.body).getD .skip
noncomputable def p5_0 (n : Int) : Code × S := (body5, ⟨inArgsF 0 [.c (.int .i64 n)], fun _ => none, 0⟩)
noncomputable def p5_2 (n : Int) : Code × S := stP (ov noQ (some (.bool true)) none none) 5 2 (p5_0 n)
noncomputable def p5_5 (n : Int) : Code × S := stP noQ 5 2 (p5_2 n)
noncomputable def p5_6 (n k : Int) : Code × S := stP (ov noQ none (some (.int .i64 k)) none) 5 1 (p5_5 n)
section
variable (Q : Orc) (n k : Int) (N : Code → S → O → Option (AV × O)) (K : Ex → S → O → Option (AV × O))
theorem at5_2 : evPre cfg Q 5 2 (p5_0 n).1 (p5_0 n).2 [] N K = evPre cfg (ov Q (Q.clo 7 []) none none) 5 2 (p5_0 n).1 (p5_0 n).2 [] N K := by kernel_rfl
theorem to5_2 : evPre cfg (ov Q (some (.bool true)) none none) 5 2 (p5_0 n).1 (p5_0 n).2 [] N K = N (p5_2 n).1 (p5_2 n).2 [] := by kernel_rfl
theorem to5_5 : evPre cfg Q 5 2 (p5_2 n).1 (p5_2 n).2 [] N K = N (p5_5 n).1 (p5_5 n).2 [] := by kernel_rfl
theorem at5_6 : evPre cfg Q 5 1 (p5_5 n).1 (p5_5 n).2 [] N K = evPre cfg (ov Q none (Q.clo 8 [.int .i64 n, .int .i64 32]) none) 5 1 (p5_5 n).1 (p5_5 n).2 [] N K := by kernel_rfl
theorem to5_6 : evPre cfg (ov Q none (some (.int .i64 k)) none) 5 1 (p5_5 n).1 (p5_5 n).2 [] N K = N (p5_6 n k).1 (p5_6 n k).2 [] := by kernel_rfl
/-- the function, from its seventh piece on -/
theorem from5 (h7 : Q.clo 7 [] = some (.bool true)) (h8 : Q.clo 8 [.int .i64 n, .int .i64 32] = some (.int .i64 k)) : evCode cfg Q 5 (p5_0 n).1 (p5_0 n).2 [] K = evCode cfg Q 5 (p5_6 n k).1 (p5_6 n k).2 [] K := by
  rw [← evPre_eq cfg Q 5 K 2 (p5_0 n).1, at5_2, h7, to5_2]
  rw [← evPre_eq cfg Q 5 K 2 (p5_2 n).1, to5_5]
  rw [← evPre_eq cfg Q 5 K 1 (p5_5 n).1, at5_6, h8, to5_6]
end
/-- what is left, by what is told of a form -/
noncomputable def last5 (Q : Orc) (n k : Int) : Option CV := closed (evCodeF cfg Q 5 (p5_6 n k).1 (p5_6 n k).2 [] (kBody cfg 5 0 Tryz.f5))
theorem atB0 (Q : Orc) (n : Int) : last5 Q n 0 = last5 (ov Q none none (Q.clo 9 [.str ⟨#[40, 108, 101, 116, 32, 40, 97, 32, 99, 41, 32, 40, 97, 100, 100, 32, 97, 32, 97, 41, 41]⟩])) n 0 := by kernel_rfl
theorem toB0 (Q : Orc) (n : Int) : last5 (ov Q none none (some (.str ⟨#[40, 50, 56, 32, 40, 51, 48, 32, 118, 51, 41, 32, 40, 50, 54, 47, 48, 32, 118, 48, 32, 118, 48, 41, 41, 32, 48, 32, 49, 53]⟩))) n 0 = some (.bool true) := by kernel_rfl
theorem atB1 (Q : Orc) (n : Int) : last5 Q n 1 = last5 (ov Q none none (Q.clo 9 [.str ⟨#[40, 108, 101, 116, 32, 40, 97, 32, 110, 41, 32, 97, 41]⟩])) n 1 := by kernel_rfl
theorem toB1 (Q : Orc) (n : Int) : last5 (ov Q none none (some (.str ⟨#[115, 116, 97, 103, 101]⟩))) n 1 = some (.bool true) := by kernel_rfl
theorem atB2 (Q : Orc) (n : Int) : last5 Q n 2 = last5 (ov Q none none (Q.clo 9 [.str ⟨#[40, 108, 101, 116, 32, 40, 120, 32, 104, 41, 32, 40, 120, 32, 49, 41, 41]⟩])) n 2 := by kernel_rfl
theorem toB2 (Q : Orc) (n : Int) : last5 (ov Q none none (some (.str ⟨#[40, 50, 56, 32, 118, 48, 32, 40, 50, 49, 32, 118, 48, 32, 105, 49, 41, 41, 32, 48, 32, 49, 53]⟩))) n 2 = some (.bool true) := by kernel_rfl
theorem atB3 (Q : Orc) (n : Int) : last5 Q n 3 = last5 (ov Q none none (Q.clo 9 [.str ⟨#[40, 102, 105, 120, 32, 40, 97, 32, 73, 110, 116, 41, 32, 97, 41]⟩])) n 3 := by kernel_rfl
theorem toB3 (Q : Orc) (n : Int) : last5 (ov Q none none (some (.str ⟨#[40, 50, 57, 32, 49, 53, 32, 118, 48, 41, 32, 48, 32, 49, 53]⟩))) n 3 = some (.bool true) := by kernel_rfl
theorem atB4 (Q : Orc) (n : Int) : last5 Q n 4 = last5 (ov Q none none (Q.clo 9 [.str ⟨#[40, 102, 105, 120, 32, 40, 97, 32, 40, 45, 62, 32, 73, 110, 116, 32, 73, 110, 116, 41, 41, 32, 40, 102, 110, 32, 98, 32, 40, 97, 32, 98, 41, 41, 41]⟩])) n 4 := by kernel_rfl
theorem toB4 (Q : Orc) (n : Int) : last5 (ov Q none none (some (.str ⟨#[40, 50, 57, 32, 40, 49, 54, 32, 49, 53, 32, 49, 53, 41, 32, 40, 50, 48, 32, 49, 53, 32, 40, 50, 49, 32, 118, 49, 32, 118, 48, 41, 41, 41, 32, 48, 32, 40, 49, 54, 32, 49, 53, 32, 49, 53, 41]⟩))) n 4 = some (.bool true) := by kernel_rfl
theorem atB5 (Q : Orc) (n : Int) : last5 Q n 5 = last5 (ov Q none none (Q.clo 9 [.str ⟨#[40, 102, 105, 120, 32, 40, 97, 32, 78, 97, 116, 41, 32, 97, 41]⟩])) n 5 := by kernel_rfl
theorem toB5 (Q : Orc) (n : Int) : last5 (ov Q none none (some (.str ⟨#[116, 121, 112, 101]⟩))) n 5 = some (.bool true) := by kernel_rfl
theorem atB6 (Q : Orc) (n : Int) : last5 Q n 6 = last5 (ov Q none none (Q.clo 9 [.str ⟨#[40, 102, 105, 120, 32, 40, 97, 32, 73, 110, 116, 41, 32, 110, 41]⟩])) n 6 := by kernel_rfl
theorem toB6 (Q : Orc) (n : Int) : last5 (ov Q none none (some (.str ⟨#[115, 116, 97, 103, 101]⟩))) n 6 = some (.bool true) := by kernel_rfl
theorem atB7 (Q : Orc) (n : Int) : last5 Q n 7 = last5 (ov Q none none (Q.clo 9 [.str ⟨#[40, 116, 104, 101, 32, 78, 97, 116, 32, 51, 41]⟩])) n 7 := by kernel_rfl
theorem toB7 (Q : Orc) (n : Int) : last5 (ov Q none none (some (.str ⟨#[40, 49, 50, 32, 40, 49, 50, 32, 40, 49, 50, 32, 49, 49, 41, 41, 41, 32, 49, 32, 49, 48]⟩))) n 7 = some (.bool true) := by kernel_rfl
theorem atB8 (Q : Orc) (n : Int) : last5 Q n 8 = last5 (ov Q none none (Q.clo 9 [.str ⟨#[40, 116, 104, 101, 32, 73, 110, 116, 32, 51, 41]⟩])) n 8 := by kernel_rfl
theorem toB8 (Q : Orc) (n : Int) : last5 (ov Q none none (some (.str ⟨#[105, 51, 32, 48, 32, 49, 53]⟩))) n 8 = some (.bool true) := by kernel_rfl
theorem atB9 (Q : Orc) (n : Int) : last5 Q n 9 = last5 (ov Q none none (Q.clo 9 [.str ⟨#[40, 116, 104, 101, 32, 40, 108, 105, 102, 116, 32, 73, 110, 116, 41, 32, 51, 41]⟩])) n 9 := by kernel_rfl
theorem toB9 (Q : Orc) (n : Int) : last5 (ov Q none none (some (.str ⟨#[40, 49, 57, 32, 105, 51, 41, 32, 49, 32, 40, 49, 56, 32, 49, 53, 41]⟩))) n 9 = some (.bool true) := by kernel_rfl
theorem atB10 (Q : Orc) (n : Int) : last5 Q n 10 = last5 (ov Q none none (Q.clo 9 [.str ⟨#[40, 116, 104, 101, 32, 40, 45, 62, 32, 78, 97, 116, 32, 78, 97, 116, 41, 32, 40, 102, 110, 32, 97, 32, 97, 41, 41]⟩])) n 10 := by kernel_rfl
theorem toB10 (Q : Orc) (n : Int) : last5 (ov Q none none (some (.str ⟨#[40, 52, 32, 49, 48, 32, 118, 48, 41, 32, 49, 32, 40, 51, 32, 49, 48, 32, 49, 48, 41]⟩))) n 10 = some (.bool true) := by kernel_rfl
theorem atB11 (Q : Orc) (n : Int) : last5 Q n 11 = last5 (ov Q none none (Q.clo 9 [.str ⟨#[40, 116, 104, 101, 32, 40, 45, 62, 32, 73, 110, 116, 32, 73, 110, 116, 41, 32, 40, 102, 110, 32, 97, 32, 97, 41, 41]⟩])) n 11 := by kernel_rfl
theorem toB11 (Q : Orc) (n : Int) : last5 (ov Q none none (some (.str ⟨#[40, 50, 48, 32, 49, 53, 32, 118, 48, 41, 32, 48, 32, 40, 49, 54, 32, 49, 53, 32, 49, 53, 41]⟩))) n 11 = some (.bool true) := by kernel_rfl
theorem atB12 (Q : Orc) (n : Int) : last5 Q n 12 = last5 (ov Q none none (Q.clo 9 [.str ⟨#[40, 116, 104, 101, 32, 40, 108, 105, 102, 116, 32, 40, 45, 62, 32, 73, 110, 116, 32, 73, 110, 116, 41, 41, 32, 40, 102, 110, 32, 97, 32, 97, 41, 41]⟩])) n 12 := by kernel_rfl
theorem toB12 (Q : Orc) (n : Int) : last5 (ov Q none none (some (.str ⟨#[40, 49, 57, 32, 40, 50, 48, 32, 49, 53, 32, 118, 48, 41, 41, 32, 49, 32, 40, 49, 56, 32, 40, 49, 54, 32, 49, 53, 32, 49, 53, 41, 41]⟩))) n 12 = some (.bool true) := by kernel_rfl
theorem atB13 (Q : Orc) (n : Int) : last5 Q n 13 = last5 (ov Q none none (Q.clo 9 [.str ⟨#[40, 116, 104, 101, 32, 40, 42, 32, 78, 97, 116, 32, 78, 97, 116, 41, 32, 40, 112, 97, 105, 114, 32, 49, 32, 50, 41, 41]⟩])) n 13 := by kernel_rfl
theorem toB13 (Q : Orc) (n : Int) : last5 (ov Q none none (some (.str ⟨#[40, 55, 32, 40, 54, 32, 49, 48, 32, 49, 48, 41, 32, 40, 49, 50, 32, 49, 49, 41, 32, 40, 49, 50, 32, 40, 49, 50, 32, 49, 49, 41, 41, 41, 32, 49, 32, 40, 54, 32, 49, 48, 32, 49, 48, 41]⟩))) n 13 = some (.bool true) := by kernel_rfl
theorem atB14 (Q : Orc) (n : Int) : last5 Q n 14 = last5 (ov Q none none (Q.clo 9 [.str ⟨#[40, 116, 104, 101, 32, 40, 42, 32, 73, 110, 116, 32, 73, 110, 116, 41, 32, 40, 112, 97, 105, 114, 32, 49, 32, 50, 41, 41]⟩])) n 14 := by kernel_rfl
theorem toB14 (Q : Orc) (n : Int) : last5 (ov Q none none (some (.str ⟨#[40, 50, 50, 32, 105, 49, 32, 105, 50, 41, 32, 48, 32, 40, 49, 55, 32, 49, 53, 32, 49, 53, 41]⟩))) n 14 = some (.bool true) := by kernel_rfl
theorem atB15 (Q : Orc) (n : Int) : last5 Q n 15 = last5 (ov Q none none (Q.clo 9 [.str ⟨#[40, 116, 104, 101, 32, 78, 97, 116, 32, 120, 41]⟩])) n 15 := by kernel_rfl
theorem toB15 (Q : Orc) (n : Int) : last5 (ov Q none none (some (.str ⟨#[115, 116, 97, 103, 101]⟩))) n 15 = some (.bool true) := by kernel_rfl
theorem atB16 (Q : Orc) (n : Int) : last5 Q n 16 = last5 (ov Q none none (Q.clo 9 [.str ⟨#[40, 116, 104, 101, 32, 78, 97, 116, 32, 52, 49, 41]⟩])) n 16 := by kernel_rfl
theorem toB16 (Q : Orc) (n : Int) : last5 (ov Q none none (some (.str ⟨#[97, 114, 103]⟩))) n 16 = some (.bool true) := by kernel_rfl
theorem atB17 (Q : Orc) (n : Int) : last5 Q n 17 = last5 (ov Q none none (Q.clo 9 [.str ⟨#[40, 116, 104, 101, 32, 78, 97, 116, 32, 45, 49, 41]⟩])) n 17 := by kernel_rfl
theorem toB17 (Q : Orc) (n : Int) : last5 (ov Q none none (some (.str ⟨#[97, 114, 103]⟩))) n 17 = some (.bool true) := by kernel_rfl
theorem atB18 (Q : Orc) (n : Int) : last5 Q n 18 = last5 (ov Q none none (Q.clo 9 [.str ⟨#[40, 116, 104, 101, 32, 110, 32, 49, 41]⟩])) n 18 := by kernel_rfl
theorem toB18 (Q : Orc) (n : Int) : last5 (ov Q none none (some (.str ⟨#[115, 104, 97, 112, 101]⟩))) n 18 = some (.bool true) := by kernel_rfl
theorem atB19 (Q : Orc) (n : Int) : last5 Q n 19 = last5 (ov Q none none (Q.clo 9 [.str ⟨#[40, 116, 104, 101, 32, 73, 110, 116, 32, 99, 41]⟩])) n 19 := by kernel_rfl
theorem toB19 (Q : Orc) (n : Int) : last5 (ov Q none none (some (.str ⟨#[40, 51, 48, 32, 118, 51, 41, 32, 48, 32, 49, 53]⟩))) n 19 = some (.bool true) := by kernel_rfl
theorem atB20 (Q : Orc) (n : Int) : last5 Q n 20 = last5 (ov Q none none (Q.clo 9 [.str ⟨#[40, 116, 104, 101, 32, 40, 108, 105, 102, 116, 32, 73, 110, 116, 41, 32, 120, 41]⟩])) n 20 := by kernel_rfl
theorem toB20 (Q : Orc) (n : Int) : last5 (ov Q none none (some (.str ⟨#[40, 49, 57, 32, 118, 49, 41, 32, 49, 32, 40, 49, 56, 32, 49, 53, 41]⟩))) n 20 = some (.bool true) := by kernel_rfl
theorem atB21 (Q : Orc) (n : Int) : last5 Q n 21 = last5 (ov Q none none (Q.clo 9 [.str ⟨#[40, 116, 104, 101, 32, 85, 49, 32, 85, 48, 41]⟩])) n 21 := by kernel_rfl
theorem toB21 (Q : Orc) (n : Int) : last5 (ov Q none none (some (.str ⟨#[85, 48, 32, 49, 32, 85, 49]⟩))) n 21 = some (.bool true) := by kernel_rfl
theorem atB22 (Q : Orc) (n : Int) : last5 Q n 22 = last5 (ov Q none none (Q.clo 9 [.str ⟨#[40, 114, 101, 99, 32, 40, 97, 32, 78, 97, 116, 41, 32, 110, 32, 40, 105, 32, 106, 32, 40, 115, 117, 99, 32, 106, 41, 41, 32, 50, 41]⟩])) n 22 := by kernel_rfl
theorem toB22 (Q : Orc) (n : Int) : last5 (ov Q none none (some (.str ⟨#[40, 49, 51, 32, 49, 48, 32, 118, 53, 32, 40, 49, 50, 32, 118, 48, 41, 32, 40, 49, 50, 32, 40, 49, 50, 32, 49, 49, 41, 41, 41, 32, 49, 32, 49, 48]⟩))) n 22 = some (.bool true) := by kernel_rfl
theorem atB23 (Q : Orc) (n : Int) : last5 Q n 23 = last5 (ov Q none none (Q.clo 9 [.str ⟨#[40, 114, 101, 99, 32, 40, 97, 32, 84, 121, 41, 32, 73, 110, 116, 32, 40, 105, 32, 106, 32, 40, 45, 62, 32, 106, 32, 106, 41, 41, 32, 110, 41]⟩])) n 23 := by kernel_rfl
theorem toB23 (Q : Orc) (n : Int) : last5 (ov Q none none (some (.str ⟨#[40, 49, 51, 32, 49, 52, 32, 49, 53, 32, 40, 49, 54, 32, 118, 48, 32, 118, 48, 41, 32, 118, 53, 41, 32, 49, 32, 49, 52]⟩))) n 23 = some (.bool true) := by kernel_rfl
theorem atB24 (Q : Orc) (n : Int) : last5 Q n 24 = last5 (ov Q none none (Q.clo 9 [.str ⟨#[40, 114, 101, 99, 32, 40, 97, 32, 78, 97, 116, 41, 32, 120, 32, 40, 105, 32, 106, 32, 106, 41, 32, 110, 41]⟩])) n 24 := by kernel_rfl
theorem toB24 (Q : Orc) (n : Int) : last5 (ov Q none none (some (.str ⟨#[115, 116, 97, 103, 101]⟩))) n 24 = some (.bool true) := by kernel_rfl
theorem atB25 (Q : Orc) (n : Int) : last5 Q n 25 = last5 (ov Q none none (Q.clo 9 [.str ⟨#[40, 114, 101, 99, 32, 40, 97, 32, 110, 41, 32, 110, 32, 40, 105, 32, 106, 32, 106, 41, 32, 110, 41]⟩])) n 25 := by kernel_rfl
theorem toB25 (Q : Orc) (n : Int) : last5 (ov Q none none (some (.str ⟨#[115, 104, 97, 112, 101]⟩))) n 25 = some (.bool true) := by kernel_rfl
theorem atB26 (Q : Orc) (n : Int) : last5 Q n 26 = last5 (ov Q none none (Q.clo 9 [.str ⟨#[40, 116, 104, 101, 32, 78, 97, 116, 32, 40, 102, 110, 32, 97, 32, 97, 41, 41]⟩])) n 26 := by kernel_rfl
theorem toB26 (Q : Orc) (n : Int) : last5 (ov Q none none (some (.str ⟨#[115, 104, 97, 112, 101]⟩))) n 26 = some (.bool true) := by kernel_rfl
theorem atB27 (Q : Orc) (n : Int) : last5 Q n 27 = last5 (ov Q none none (Q.clo 9 [.str ⟨#[40, 116, 104, 101, 32, 73, 110, 116, 32, 40, 112, 97, 105, 114, 32, 49, 32, 50, 41, 41]⟩])) n 27 := by kernel_rfl
theorem toB27 (Q : Orc) (n : Int) : last5 (ov Q none none (some (.str ⟨#[115, 104, 97, 112, 101]⟩))) n 27 = some (.bool true) := by kernel_rfl
theorem atB28 (Q : Orc) (n : Int) : last5 Q n 28 = last5 (ov Q none none (Q.clo 9 [.str ⟨#[40, 116, 104, 101, 32, 78, 97, 116, 32, 40, 105, 102, 32, 120, 32, 49, 32, 50, 41, 41]⟩])) n 28 := by kernel_rfl
theorem toB28 (Q : Orc) (n : Int) : last5 (ov Q none none (some (.str ⟨#[115, 116, 97, 103, 101]⟩))) n 28 = some (.bool true) := by kernel_rfl
theorem atB29 (Q : Orc) (n : Int) : last5 Q n 29 = last5 (ov Q none none (Q.clo 9 [.str ⟨#[40, 40, 102, 110, 32, 40, 97, 32, 78, 97, 116, 41, 32, 40, 102, 32, 97, 41, 41, 32, 110, 41]⟩])) n 29 := by kernel_rfl
theorem toB29 (Q : Orc) (n : Int) : last5 (ov Q none none (some (.str ⟨#[40, 53, 32, 40, 52, 32, 49, 48, 32, 40, 53, 32, 118, 53, 32, 118, 48, 41, 41, 32, 118, 53, 41, 32, 49, 32, 49, 48]⟩))) n 29 = some (.bool true) := by kernel_rfl
theorem atB30 (Q : Orc) (n : Int) : last5 Q n 30 = last5 (ov Q none none (Q.clo 9 [.str ⟨#[40, 40, 102, 110, 32, 40, 97, 32, 73, 110, 116, 41, 32, 40, 97, 100, 100, 32, 97, 32, 49, 41, 41, 32, 120, 41]⟩])) n 30 := by kernel_rfl
theorem toB30 (Q : Orc) (n : Int) : last5 (ov Q none none (some (.str ⟨#[40, 50, 49, 32, 40, 50, 48, 32, 49, 53, 32, 40, 50, 54, 47, 48, 32, 118, 48, 32, 105, 49, 41, 41, 32, 118, 49, 41, 32, 48, 32, 49, 53]⟩))) n 30 = some (.bool true) := by kernel_rfl
theorem atB31 (Q : Orc) (n : Int) : last5 Q n 31 = last5 (ov Q none none (Q.clo 9 [.str ⟨#[40, 40, 102, 110, 32, 40, 97, 32, 85, 48, 41, 32, 40, 102, 110, 32, 40, 98, 32, 97, 41, 32, 98, 41, 41, 32, 78, 97, 116, 32, 50, 41]⟩])) n 31 := by kernel_rfl
theorem toB31 (Q : Orc) (n : Int) : last5 (ov Q none none (some (.str ⟨#[40, 53, 32, 40, 53, 32, 40, 52, 32, 85, 48, 32, 40, 52, 32, 118, 48, 32, 118, 48, 41, 41, 32, 49, 48, 41, 32, 40, 49, 50, 32, 40, 49, 50, 32, 49, 49, 41, 41, 41, 32, 49, 32, 49, 48]⟩))) n 31 = some (.bool true) := by kernel_rfl
theorem all5 (n : Int) : ∀ k : Fin 32, last5 (orcF cfg 399) n (k.val : Int) = some (.bool true) := fun k => match k with
  | ⟨0, _⟩ => ((atB0 (orcF cfg 399) n).trans (congrArg (fun x => last5 (ov (orcF cfg 399) none none x) n 0) toldB0)).trans (toB0 _ n)
  | ⟨1, _⟩ => ((atB1 (orcF cfg 399) n).trans (congrArg (fun x => last5 (ov (orcF cfg 399) none none x) n 1) toldB1)).trans (toB1 _ n)
  | ⟨2, _⟩ => ((atB2 (orcF cfg 399) n).trans (congrArg (fun x => last5 (ov (orcF cfg 399) none none x) n 2) toldB2)).trans (toB2 _ n)
  | ⟨3, _⟩ => ((atB3 (orcF cfg 399) n).trans (congrArg (fun x => last5 (ov (orcF cfg 399) none none x) n 3) toldB3)).trans (toB3 _ n)
  | ⟨4, _⟩ => ((atB4 (orcF cfg 399) n).trans (congrArg (fun x => last5 (ov (orcF cfg 399) none none x) n 4) toldB4)).trans (toB4 _ n)
  | ⟨5, _⟩ => ((atB5 (orcF cfg 399) n).trans (congrArg (fun x => last5 (ov (orcF cfg 399) none none x) n 5) toldB5)).trans (toB5 _ n)
  | ⟨6, _⟩ => ((atB6 (orcF cfg 399) n).trans (congrArg (fun x => last5 (ov (orcF cfg 399) none none x) n 6) toldB6)).trans (toB6 _ n)
  | ⟨7, _⟩ => ((atB7 (orcF cfg 399) n).trans (congrArg (fun x => last5 (ov (orcF cfg 399) none none x) n 7) toldB7)).trans (toB7 _ n)
  | ⟨8, _⟩ => ((atB8 (orcF cfg 399) n).trans (congrArg (fun x => last5 (ov (orcF cfg 399) none none x) n 8) toldB8)).trans (toB8 _ n)
  | ⟨9, _⟩ => ((atB9 (orcF cfg 399) n).trans (congrArg (fun x => last5 (ov (orcF cfg 399) none none x) n 9) toldB9)).trans (toB9 _ n)
  | ⟨10, _⟩ => ((atB10 (orcF cfg 399) n).trans (congrArg (fun x => last5 (ov (orcF cfg 399) none none x) n 10) toldB10)).trans (toB10 _ n)
  | ⟨11, _⟩ => ((atB11 (orcF cfg 399) n).trans (congrArg (fun x => last5 (ov (orcF cfg 399) none none x) n 11) toldB11)).trans (toB11 _ n)
  | ⟨12, _⟩ => ((atB12 (orcF cfg 399) n).trans (congrArg (fun x => last5 (ov (orcF cfg 399) none none x) n 12) toldB12)).trans (toB12 _ n)
  | ⟨13, _⟩ => ((atB13 (orcF cfg 399) n).trans (congrArg (fun x => last5 (ov (orcF cfg 399) none none x) n 13) toldB13)).trans (toB13 _ n)
  | ⟨14, _⟩ => ((atB14 (orcF cfg 399) n).trans (congrArg (fun x => last5 (ov (orcF cfg 399) none none x) n 14) toldB14)).trans (toB14 _ n)
  | ⟨15, _⟩ => ((atB15 (orcF cfg 399) n).trans (congrArg (fun x => last5 (ov (orcF cfg 399) none none x) n 15) toldB15)).trans (toB15 _ n)
  | ⟨16, _⟩ => ((atB16 (orcF cfg 399) n).trans (congrArg (fun x => last5 (ov (orcF cfg 399) none none x) n 16) toldB16)).trans (toB16 _ n)
  | ⟨17, _⟩ => ((atB17 (orcF cfg 399) n).trans (congrArg (fun x => last5 (ov (orcF cfg 399) none none x) n 17) toldB17)).trans (toB17 _ n)
  | ⟨18, _⟩ => ((atB18 (orcF cfg 399) n).trans (congrArg (fun x => last5 (ov (orcF cfg 399) none none x) n 18) toldB18)).trans (toB18 _ n)
  | ⟨19, _⟩ => ((atB19 (orcF cfg 399) n).trans (congrArg (fun x => last5 (ov (orcF cfg 399) none none x) n 19) toldB19)).trans (toB19 _ n)
  | ⟨20, _⟩ => ((atB20 (orcF cfg 399) n).trans (congrArg (fun x => last5 (ov (orcF cfg 399) none none x) n 20) toldB20)).trans (toB20 _ n)
  | ⟨21, _⟩ => ((atB21 (orcF cfg 399) n).trans (congrArg (fun x => last5 (ov (orcF cfg 399) none none x) n 21) toldB21)).trans (toB21 _ n)
  | ⟨22, _⟩ => ((atB22 (orcF cfg 399) n).trans (congrArg (fun x => last5 (ov (orcF cfg 399) none none x) n 22) toldB22)).trans (toB22 _ n)
  | ⟨23, _⟩ => ((atB23 (orcF cfg 399) n).trans (congrArg (fun x => last5 (ov (orcF cfg 399) none none x) n 23) toldB23)).trans (toB23 _ n)
  | ⟨24, _⟩ => ((atB24 (orcF cfg 399) n).trans (congrArg (fun x => last5 (ov (orcF cfg 399) none none x) n 24) toldB24)).trans (toB24 _ n)
  | ⟨25, _⟩ => ((atB25 (orcF cfg 399) n).trans (congrArg (fun x => last5 (ov (orcF cfg 399) none none x) n 25) toldB25)).trans (toB25 _ n)
  | ⟨26, _⟩ => ((atB26 (orcF cfg 399) n).trans (congrArg (fun x => last5 (ov (orcF cfg 399) none none x) n 26) toldB26)).trans (toB26 _ n)
  | ⟨27, _⟩ => ((atB27 (orcF cfg 399) n).trans (congrArg (fun x => last5 (ov (orcF cfg 399) none none x) n 27) toldB27)).trans (toB27 _ n)
  | ⟨28, _⟩ => ((atB28 (orcF cfg 399) n).trans (congrArg (fun x => last5 (ov (orcF cfg 399) none none x) n 28) toldB28)).trans (toB28 _ n)
  | ⟨29, _⟩ => ((atB29 (orcF cfg 399) n).trans (congrArg (fun x => last5 (ov (orcF cfg 399) none none x) n 29) toldB29)).trans (toB29 _ n)
  | ⟨30, _⟩ => ((atB30 (orcF cfg 399) n).trans (congrArg (fun x => last5 (ov (orcF cfg 399) none none x) n 30) toldB30)).trans (toB30 _ n)
  | ⟨31, _⟩ => ((atB31 (orcF cfg 399) n).trans (congrArg (fun x => last5 (ov (orcF cfg 399) none none x) n 31) toldB31)).trans (toB31 _ n)
  | ⟨n + 32, h⟩ => absurd h (by omega)
theorem fn5 : cfg.fn 5 = some Tryz.f5 := by kernel_rfl
theorem b5 : Tryz.f5.body = some body5 := by kernel_rfl
theorem known5 : (orcF cfg 399).clo 7 [] = some (.bool true) := by kernel_rfl
theorem clo5 (n : Int) : CloC Tryz.prog 5 [.int .i64 n] (.bool true) := by
  obtain ⟨k, hk⟩ := within_is (orcF cfg 398) n 32 (by omega) (by omega)
  have hk := clo_of (xs := [.int .i64 n, .int .i64 32]) (by kernel_rfl) (by kernel_rfl) hk
  refine clo1 (n := 400) (clo_of (by kernel_rfl) (by kernel_rfl) ?_)
  rw [body_pre fn5 b5 0]
  refine Eq.trans (congrArg closed (?_ : _ = evCodeF cfg (orcF cfg 399) 5 (p5_6 n (k.val : Int)).1 (p5_6 n (k.val : Int)).2 [] (kBody cfg 5 0 Tryz.f5))) (all5 n k)
  show evCodeF cfg (orcF cfg 399) 5 (p5_0 n).1 (p5_0 n).2 [] (kBody cfg 5 0 Tryz.f5) = _
  rw [evCodeF_eq, evCodeF_eq]
  exact from5 _ _ _ _ known5 hk
end Go.Proofs.YtdfeffddghpaoaaGreatDoor
