/- UnitKnown: the function, for every number, by what is told of the texts. -/
import Derived.Test.YtgmgdijphklogaaGreatDoorUTKA
import Derived.Test.YtgmgdijphklogaaGreatDoorUTKB
import Derived.Test.YtgmgdijphklogaaGreatDoorUTKC
import Derived.Test.YtgmgdijphklogaaGreatDoorUTKD
import Derived.Test.YtgmgdijphklogaaGreatDoorUTKE
import Derived.Test.YtgmgdijphklogaaGreatDoorUTKF
set_option linter.unusedVariables false
set_option linter.unusedSectionVars false
set_option linter.unusedSimpArgs false
set_option linter.unnecessarySimpa false
namespace Go.Proofs.YtgmgdijphklogaaGreatDoor
open Go Go.Ev
noncomputable def body5 : Code := (Tryz.f5.body).getD .skip
noncomputable def p5_0 (n : Int) : Code × S := (body5, ⟨inArgsF 0 [.c (.int .i64 n)], fun _ => none, 0⟩)
noncomputable def p5_2 (n : Int) : Code × S := stP (ov noQ 7 (some (.bool true))) 5 2 (p5_0 n)
noncomputable def p5_5 (n : Int) : Code × S := stP noQ 5 2 (p5_2 n)
noncomputable def p5_6 (n k : Int) : Code × S := stP (ov noQ 8 (some (.int .i64 k))) 5 1 (p5_5 n)
section
variable (Q : Orc) (n k : Int) (N : Code → S → O → Option (AV × O)) (K : Ex → S → O → Option (AV × O))
theorem at5_2 : evPre cfg Q 5 2 (p5_0 n).1 (p5_0 n).2 [] N K = evPre cfg (ov Q 7 (Q.clo 7 [])) 5 2 (p5_0 n).1 (p5_0 n).2 [] N K := by kernel_rfl
theorem to5_2 : evPre cfg (ov Q 7 (some (.bool true))) 5 2 (p5_0 n).1 (p5_0 n).2 [] N K = N (p5_2 n).1 (p5_2 n).2 [] := by kernel_rfl
theorem to5_5 : evPre cfg Q 5 2 (p5_2 n).1 (p5_2 n).2 [] N K = N (p5_5 n).1 (p5_5 n).2 [] := by kernel_rfl
theorem at5_6 : evPre cfg Q 5 1 (p5_5 n).1 (p5_5 n).2 [] N K = evPre cfg (ov Q 8 (Q.clo 8 [.int .i64 n, .int .i64 24])) 5 1 (p5_5 n).1 (p5_5 n).2 [] N K := by kernel_rfl
theorem to5_6 : evPre cfg (ov Q 8 (some (.int .i64 k))) 5 1 (p5_5 n).1 (p5_5 n).2 [] N K = N (p5_6 n k).1 (p5_6 n k).2 [] := by kernel_rfl
/-- the function, from its last piece on -/
theorem from5 (h7 : Q.clo 7 [] = some (.bool true)) (h8 : Q.clo 8 [.int .i64 n, .int .i64 24] = some (.int .i64 k)) : evCode cfg Q 5 (p5_0 n).1 (p5_0 n).2 [] K = evCode cfg Q 5 (p5_6 n k).1 (p5_6 n k).2 [] K := by
  rw [← evPre_eq cfg Q 5 K 2 (p5_0 n).1, at5_2, h7, to5_2]
  rw [← evPre_eq cfg Q 5 K 2 (p5_2 n).1, to5_5]
  rw [← evPre_eq cfg Q 5 K 1 (p5_5 n).1, at5_6, h8, to5_6]
end
/-- what is left, by what is told of a text -/
noncomputable def last5 (Q : Orc) (n k : Int) : Option CV := closed (evCodeF cfg Q 5 (p5_6 n k).1 (p5_6 n k).2 [] (kBody cfg 5 0 Tryz.f5))
theorem atK0 (Q : Orc) (n : Int) : last5 Q n 0 = last5 (ov Q 14 (Q.clo 14 [.str ⟨#[]⟩])) n 0 := by kernel_rfl
theorem toK0 (Q : Orc) (n : Int) : last5 (ov Q 14 (some (.str ⟨#[]⟩))) n 0 = some (.bool true) := by kernel_rfl
theorem atK1 (Q : Orc) (n : Int) : last5 Q n 1 = last5 (ov Q 14 (Q.clo 14 [.str ⟨#[40, 100, 101, 102, 32, 97, 32, 49, 41]⟩])) n 1 := by kernel_rfl
theorem toK1 (Q : Orc) (n : Int) : last5 (ov Q 14 (some (.str ⟨#[97, 48, 32, 105, 49, 32, 49, 53, 59]⟩))) n 1 = some (.bool true) := by kernel_rfl
theorem atK2 (Q : Orc) (n : Int) : last5 Q n 2 = last5 (ov Q 14 (Q.clo 14 [.str ⟨#[40, 100, 101, 102, 32, 97, 32, 78, 97, 116, 32, 49, 41]⟩])) n 2 := by kernel_rfl
theorem toK2 (Q : Orc) (n : Int) : last5 (ov Q 14 (some (.str ⟨#[97, 49, 32, 40, 49, 50, 32, 49, 49, 41, 32, 49, 48, 59]⟩))) n 2 = some (.bool true) := by kernel_rfl
theorem atK3 (Q : Orc) (n : Int) : last5 Q n 3 = last5 (ov Q 14 (Q.clo 14 [.str ⟨#[40, 100, 101, 102, 32, 98, 32, 97, 41, 32, 40, 100, 101, 102, 32, 97, 32, 49, 41]⟩])) n 3 := by kernel_rfl
theorem toK3 (Q : Orc) (n : Int) : last5 (ov Q 14 (some (.str ⟨#[97, 48, 32, 105, 49, 32, 49, 53, 59, 98, 48, 32, 105, 49, 32, 49, 53, 59]⟩))) n 3 = some (.bool true) := by kernel_rfl
theorem atK4 (Q : Orc) (n : Int) : last5 Q n 4 = last5 (ov Q 14 (Q.clo 14 [.str ⟨#[40, 100, 101, 102, 32, 97, 32, 73, 110, 116, 32, 120, 41, 32, 40, 100, 101, 102, 32, 120, 32, 50, 41]⟩])) n 4 := by kernel_rfl
theorem toK4 (Q : Orc) (n : Int) : last5 (ov Q 14 (some (.str ⟨#[120, 48, 32, 105, 50, 32, 49, 53, 59, 97, 48, 32, 105, 50, 32, 49, 53, 59]⟩))) n 4 = some (.bool true) := by kernel_rfl
theorem atK5 (Q : Orc) (n : Int) : last5 Q n 5 = last5 (ov Q 14 (Q.clo 14 [.str ⟨#[40, 100, 101, 102, 32, 97, 32, 98, 41, 32, 40, 100, 101, 102, 32, 98, 32, 97, 41]⟩])) n 5 := by kernel_rfl
theorem toK5 (Q : Orc) (n : Int) : last5 (ov Q 14 (some (.str ⟨#[108, 111, 111, 112]⟩))) n 5 = some (.bool true) := by kernel_rfl
theorem atK6 (Q : Orc) (n : Int) : last5 Q n 6 = last5 (ov Q 14 (Q.clo 14 [.str ⟨#[40, 100, 101, 102, 32, 97, 32, 97, 41]⟩])) n 6 := by kernel_rfl
theorem toK6 (Q : Orc) (n : Int) : last5 (ov Q 14 (some (.str ⟨#[108, 111, 111, 112]⟩))) n 6 = some (.bool true) := by kernel_rfl
theorem atK7 (Q : Orc) (n : Int) : last5 Q n 7 = last5 (ov Q 14 (Q.clo 14 [.str ⟨#[40, 100, 101, 102, 32, 97, 32, 49, 41, 32, 40, 100, 101, 102, 32, 97, 32, 50, 41]⟩])) n 7 := by kernel_rfl
theorem toK7 (Q : Orc) (n : Int) : last5 (ov Q 14 (some (.str ⟨#[116, 119, 105, 99, 101]⟩))) n 7 = some (.bool true) := by kernel_rfl
theorem atK8 (Q : Orc) (n : Int) : last5 Q n 8 = last5 (ov Q 14 (Q.clo 14 [.str ⟨#[40, 100, 101, 102, 32, 97, 41]⟩])) n 8 := by kernel_rfl
theorem toK8 (Q : Orc) (n : Int) : last5 (ov Q 14 (some (.str ⟨#[102, 111, 114, 109]⟩))) n 8 = some (.bool true) := by kernel_rfl
theorem atK9 (Q : Orc) (n : Int) : last5 Q n 9 = last5 (ov Q 14 (Q.clo 14 [.str ⟨#[40, 100, 101, 102, 32, 49, 32, 50, 41]⟩])) n 9 := by kernel_rfl
theorem toK9 (Q : Orc) (n : Int) : last5 (ov Q 14 (some (.str ⟨#[102, 111, 114, 109]⟩))) n 9 = some (.bool true) := by kernel_rfl
theorem atK10 (Q : Orc) (n : Int) : last5 Q n 10 = last5 (ov Q 14 (Q.clo 14 [.str ⟨#[40, 100, 101, 102, 32, 102, 110, 32, 49, 41]⟩])) n 10 := by kernel_rfl
theorem toK10 (Q : Orc) (n : Int) : last5 (ov Q 14 (some (.str ⟨#[102, 111, 114, 109]⟩))) n 10 = some (.bool true) := by kernel_rfl
theorem atK11 (Q : Orc) (n : Int) : last5 Q n 11 = last5 (ov Q 14 (Q.clo 14 [.str ⟨#[40, 100, 101, 102, 32, 97, 32, 98, 32, 99, 32, 100, 41]⟩])) n 11 := by kernel_rfl
theorem toK11 (Q : Orc) (n : Int) : last5 (ov Q 14 (some (.str ⟨#[102, 111, 114, 109]⟩))) n 11 = some (.bool true) := by kernel_rfl
theorem atK12 (Q : Orc) (n : Int) : last5 Q n 12 = last5 (ov Q 14 (Q.clo 14 [.str ⟨#[97]⟩])) n 12 := by kernel_rfl
theorem toK12 (Q : Orc) (n : Int) : last5 (ov Q 14 (some (.str ⟨#[102, 111, 114, 109]⟩))) n 12 = some (.bool true) := by kernel_rfl
theorem atK13 (Q : Orc) (n : Int) : last5 Q n 13 = last5 (ov Q 14 (Q.clo 14 [.str ⟨#[40, 97, 32, 98, 32, 99, 41]⟩])) n 13 := by kernel_rfl
theorem toK13 (Q : Orc) (n : Int) : last5 (ov Q 14 (some (.str ⟨#[102, 111, 114, 109]⟩))) n 13 = some (.bool true) := by kernel_rfl
theorem atK14 (Q : Orc) (n : Int) : last5 Q n 14 = last5 (ov Q 14 (Q.clo 14 [.str ⟨#[40, 100, 101, 102, 32, 97, 32, 122, 122, 41]⟩])) n 14 := by kernel_rfl
theorem toK14 (Q : Orc) (n : Int) : last5 (ov Q 14 (some (.str ⟨#[110, 97, 109, 101]⟩))) n 14 = some (.bool true) := by kernel_rfl
theorem atK15 (Q : Orc) (n : Int) : last5 Q n 15 = last5 (ov Q 14 (Q.clo 14 [.str ⟨#[40, 100, 101, 102, 32, 116, 32, 84, 121, 32, 73, 110, 116, 41, 32, 40, 100, 101, 102, 32, 120, 32, 116, 32, 51, 41]⟩])) n 15 := by kernel_rfl
theorem toK15 (Q : Orc) (n : Int) : last5 (ov Q 14 (some (.str ⟨#[116, 49, 32, 49, 53, 32, 49, 52, 59, 120, 48, 32, 105, 51, 32, 49, 53, 59]⟩))) n 15 = some (.bool true) := by kernel_rfl
theorem atK16 (Q : Orc) (n : Int) : last5 Q n 16 = last5 (ov Q 14 (Q.clo 14 [.str ⟨#[40, 100, 101, 102, 32, 116, 32, 85, 49, 32, 85, 48, 41]⟩])) n 16 := by kernel_rfl
theorem toK16 (Q : Orc) (n : Int) : last5 (ov Q 14 (some (.str ⟨#[116, 49, 32, 85, 48, 32, 85, 49, 59]⟩))) n 16 = some (.bool true) := by kernel_rfl
theorem atK17 (Q : Orc) (n : Int) : last5 Q n 17 = last5 (ov Q 14 (Q.clo 14 [.str ⟨#[40, 100, 101, 102, 32, 97, 32, 53, 32, 49, 41]⟩])) n 17 := by kernel_rfl
theorem toK17 (Q : Orc) (n : Int) : last5 (ov Q 14 (some (.str ⟨#[115, 116, 97, 103, 101]⟩))) n 17 = some (.bool true) := by kernel_rfl
theorem atK18 (Q : Orc) (n : Int) : last5 Q n 18 = last5 (ov Q 14 (Q.clo 14 [.str ⟨#[40, 100, 101, 102, 32, 97, 32, 122, 101, 114, 111, 32, 49, 41]⟩])) n 18 := by kernel_rfl
theorem toK18 (Q : Orc) (n : Int) : last5 (ov Q 14 (some (.str ⟨#[115, 104, 97, 112, 101]⟩))) n 18 = some (.bool true) := by kernel_rfl
theorem atK19 (Q : Orc) (n : Int) : last5 Q n 19 = last5 (ov Q 14 (Q.clo 14 [.str ⟨#[40, 100, 101, 102, 32, 102, 32, 40, 45, 62, 32, 78, 97, 116, 32, 78, 97, 116, 41, 32, 40, 102, 110, 32, 120, 32, 120, 41, 41, 32, 40, 100, 101, 102, 32, 121, 32, 78, 97, 116, 32, 40, 102, 32, 50, 41, 41]⟩])) n 19 := by kernel_rfl
theorem toK19 (Q : Orc) (n : Int) : last5 (ov Q 14 (some (.str ⟨#[102, 49, 32, 40, 52, 32, 49, 48, 32, 118, 48, 41, 32, 40, 51, 32, 49, 48, 32, 49, 48, 41, 59, 121, 49, 32, 40, 53, 32, 40, 52, 32, 49, 48, 32, 118, 48, 41, 32, 40, 49, 50, 32, 40, 49, 50, 32, 49, 49, 41, 41, 41, 32, 49, 48, 59]⟩))) n 19 = some (.bool true) := by kernel_rfl
theorem atK20 (Q : Orc) (n : Int) : last5 Q n 20 = last5 (ov Q 14 (Q.clo 14 [.str ⟨#[40, 100, 101, 102, 32, 99, 32, 40, 113, 117, 111, 116, 101, 32, 49, 41, 41, 32, 40, 100, 101, 102, 32, 100, 32, 40, 97, 100, 100, 32, 99, 32, 99, 41, 41]⟩])) n 20 := by kernel_rfl
theorem toK20 (Q : Orc) (n : Int) : last5 (ov Q 14 (some (.str ⟨#[99, 49, 32, 40, 49, 57, 32, 105, 49, 41, 32, 40, 49, 56, 32, 49, 53, 41, 59, 100, 48, 32, 40, 50, 54, 47, 48, 32, 40, 51, 48, 32, 40, 49, 57, 32, 105, 49, 41, 41, 32, 40, 51, 48, 32, 40, 49, 57, 32, 105, 49, 41, 41, 41, 32, 49, 53, 59]⟩))) n 20 = some (.bool true) := by kernel_rfl
theorem atK21 (Q : Orc) (n : Int) : last5 Q n 21 = last5 (ov Q 14 (Q.clo 14 [.str ⟨#[40, 100, 101, 102, 32, 97, 32, 40, 116, 104, 101, 32, 78, 97, 116, 32, 49, 41, 41, 32, 40, 100, 101, 102, 32, 98, 32, 40, 115, 117, 99, 32, 97, 41, 41]⟩])) n 21 := by kernel_rfl
theorem toK21 (Q : Orc) (n : Int) : last5 (ov Q 14 (some (.str ⟨#[97, 49, 32, 40, 49, 50, 32, 49, 49, 41, 32, 49, 48, 59, 98, 49, 32, 40, 49, 50, 32, 40, 49, 50, 32, 49, 49, 41, 41, 32, 49, 48, 59]⟩))) n 21 = some (.bool true) := by kernel_rfl
theorem atK22 (Q : Orc) (n : Int) : last5 Q n 22 = last5 (ov Q 14 (Q.clo 14 [.str ⟨#[40, 100, 101, 102, 32, 112, 32, 40, 42, 32, 78, 97, 116, 32, 78, 97, 116, 41, 32, 40, 112, 97, 105, 114, 32, 49, 32, 48, 41, 41, 32, 40, 100, 101, 102, 32, 113, 32, 40, 102, 115, 116, 32, 112, 41, 41]⟩])) n 22 := by kernel_rfl
theorem toK22 (Q : Orc) (n : Int) : last5 (ov Q 14 (some (.str ⟨#[112, 49, 32, 40, 55, 32, 40, 54, 32, 49, 48, 32, 49, 48, 41, 32, 40, 49, 50, 32, 49, 49, 41, 32, 49, 49, 41, 32, 40, 54, 32, 49, 48, 32, 49, 48, 41, 59, 113, 49, 32, 40, 56, 32, 40, 55, 32, 40, 54, 32, 49, 48, 32, 49, 48, 41, 32, 40, 49, 50, 32, 49, 49, 41, 32, 49, 49, 41, 41, 32, 49, 48, 59]⟩))) n 22 = some (.bool true) := by kernel_rfl
theorem atK23 (Q : Orc) (n : Int) : last5 Q n 23 = last5 (ov Q 14 (Q.clo 14 [.str ⟨#[40, 100, 101, 102, 32, 122, 32, 122, 101, 114, 111, 41, 32, 40, 100, 101, 102, 32, 109, 32, 40, 114, 101, 99, 32, 40, 107, 32, 78, 97, 116, 41, 32, 122, 32, 40, 105, 32, 106, 32, 105, 41, 32, 122, 41, 41]⟩])) n 23 := by kernel_rfl
theorem toK23 (Q : Orc) (n : Int) : last5 (ov Q 14 (some (.str ⟨#[122, 49, 32, 49, 49, 32, 49, 48, 59, 109, 49, 32, 40, 49, 51, 32, 49, 48, 32, 49, 49, 32, 118, 49, 32, 49, 49, 41, 32, 49, 48, 59]⟩))) n 23 = some (.bool true) := by kernel_rfl
theorem all5 (n : Int) : ∀ k : Fin 24, last5 (orcF cfg 399) n (k.val : Int) = some (.bool true) := fun k => match k with
  | ⟨0, _⟩ => ((atK0 (orcF cfg 399) n).trans (congrArg (fun x => last5 (ov (orcF cfg 399) 14 x) n 0) toldK0)).trans (toK0 _ n)
  | ⟨1, _⟩ => ((atK1 (orcF cfg 399) n).trans (congrArg (fun x => last5 (ov (orcF cfg 399) 14 x) n 1) toldK1)).trans (toK1 _ n)
  | ⟨2, _⟩ => ((atK2 (orcF cfg 399) n).trans (congrArg (fun x => last5 (ov (orcF cfg 399) 14 x) n 2) toldK2)).trans (toK2 _ n)
  | ⟨3, _⟩ => ((atK3 (orcF cfg 399) n).trans (congrArg (fun x => last5 (ov (orcF cfg 399) 14 x) n 3) toldK3)).trans (toK3 _ n)
  | ⟨4, _⟩ => ((atK4 (orcF cfg 399) n).trans (congrArg (fun x => last5 (ov (orcF cfg 399) 14 x) n 4) toldK4)).trans (toK4 _ n)
  | ⟨5, _⟩ => ((atK5 (orcF cfg 399) n).trans (congrArg (fun x => last5 (ov (orcF cfg 399) 14 x) n 5) toldK5)).trans (toK5 _ n)
  | ⟨6, _⟩ => ((atK6 (orcF cfg 399) n).trans (congrArg (fun x => last5 (ov (orcF cfg 399) 14 x) n 6) toldK6)).trans (toK6 _ n)
  | ⟨7, _⟩ => ((atK7 (orcF cfg 399) n).trans (congrArg (fun x => last5 (ov (orcF cfg 399) 14 x) n 7) toldK7)).trans (toK7 _ n)
  | ⟨8, _⟩ => ((atK8 (orcF cfg 399) n).trans (congrArg (fun x => last5 (ov (orcF cfg 399) 14 x) n 8) toldK8)).trans (toK8 _ n)
  | ⟨9, _⟩ => ((atK9 (orcF cfg 399) n).trans (congrArg (fun x => last5 (ov (orcF cfg 399) 14 x) n 9) toldK9)).trans (toK9 _ n)
  | ⟨10, _⟩ => ((atK10 (orcF cfg 399) n).trans (congrArg (fun x => last5 (ov (orcF cfg 399) 14 x) n 10) toldK10)).trans (toK10 _ n)
  | ⟨11, _⟩ => ((atK11 (orcF cfg 399) n).trans (congrArg (fun x => last5 (ov (orcF cfg 399) 14 x) n 11) toldK11)).trans (toK11 _ n)
  | ⟨12, _⟩ => ((atK12 (orcF cfg 399) n).trans (congrArg (fun x => last5 (ov (orcF cfg 399) 14 x) n 12) toldK12)).trans (toK12 _ n)
  | ⟨13, _⟩ => ((atK13 (orcF cfg 399) n).trans (congrArg (fun x => last5 (ov (orcF cfg 399) 14 x) n 13) toldK13)).trans (toK13 _ n)
  | ⟨14, _⟩ => ((atK14 (orcF cfg 399) n).trans (congrArg (fun x => last5 (ov (orcF cfg 399) 14 x) n 14) toldK14)).trans (toK14 _ n)
  | ⟨15, _⟩ => ((atK15 (orcF cfg 399) n).trans (congrArg (fun x => last5 (ov (orcF cfg 399) 14 x) n 15) toldK15)).trans (toK15 _ n)
  | ⟨16, _⟩ => ((atK16 (orcF cfg 399) n).trans (congrArg (fun x => last5 (ov (orcF cfg 399) 14 x) n 16) toldK16)).trans (toK16 _ n)
  | ⟨17, _⟩ => ((atK17 (orcF cfg 399) n).trans (congrArg (fun x => last5 (ov (orcF cfg 399) 14 x) n 17) toldK17)).trans (toK17 _ n)
  | ⟨18, _⟩ => ((atK18 (orcF cfg 399) n).trans (congrArg (fun x => last5 (ov (orcF cfg 399) 14 x) n 18) toldK18)).trans (toK18 _ n)
  | ⟨19, _⟩ => ((atK19 (orcF cfg 399) n).trans (congrArg (fun x => last5 (ov (orcF cfg 399) 14 x) n 19) toldK19)).trans (toK19 _ n)
  | ⟨20, _⟩ => ((atK20 (orcF cfg 399) n).trans (congrArg (fun x => last5 (ov (orcF cfg 399) 14 x) n 20) toldK20)).trans (toK20 _ n)
  | ⟨21, _⟩ => ((atK21 (orcF cfg 399) n).trans (congrArg (fun x => last5 (ov (orcF cfg 399) 14 x) n 21) toldK21)).trans (toK21 _ n)
  | ⟨22, _⟩ => ((atK22 (orcF cfg 399) n).trans (congrArg (fun x => last5 (ov (orcF cfg 399) 14 x) n 22) toldK22)).trans (toK22 _ n)
  | ⟨23, _⟩ => ((atK23 (orcF cfg 399) n).trans (congrArg (fun x => last5 (ov (orcF cfg 399) 14 x) n 23) toldK23)).trans (toK23 _ n)
  | ⟨n + 24, h⟩ => absurd h (by omega)
theorem fn5 : cfg.fn 5 = some Tryz.f5 := by kernel_rfl
theorem b5 : Tryz.f5.body = some body5 := by kernel_rfl
theorem clo5 (n : Int) : CloC Tryz.prog 5 [.int .i64 n] (.bool true) := by
  obtain ⟨k, hk⟩ := within8 n 24 (by omega) (by omega) (by kernel_rfl) (by kernel_rfl)
  refine clo1 (n := 400) (clo_of (by kernel_rfl) (by kernel_rfl) ?_)
  rw [body_pre fn5 b5 0]
  refine Eq.trans (congrArg closed (?_ : _ = evCodeF cfg (orcF cfg 399) 5 (p5_6 n (k.val : Int)).1 (p5_6 n (k.val : Int)).2 [] (kBody cfg 5 0 Tryz.f5))) (all5 n k)
  show evCodeF cfg (orcF cfg 399) 5 (p5_0 n).1 (p5_0 n).2 [] (kBody cfg 5 0 Tryz.f5) = _
  rw [evCodeF_eq, evCodeF_eq]
  exact from5 _ _ _ _ known7 hk
end Go.Proofs.YtgmgdijphklogaaGreatDoor
