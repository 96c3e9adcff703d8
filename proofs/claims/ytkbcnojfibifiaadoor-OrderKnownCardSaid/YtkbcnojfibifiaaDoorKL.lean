/- OrderKnown: what the interpreter answers at each of the forms. -/
import Derived.Test.YtkbcnojfibifiaaDoorKP
import Derived.KernelRfl
set_option linter.unusedVariables false
set_option linter.unusedSectionVars false
set_option linter.unusedSimpArgs false
set_option linter.unnecessarySimpa false
namespace Go.Proofs.YtkbcnojfibifiaaDoor
open Go Go.Ev
theorem form0 (n : Int) : closed (evCodeF cfg (orcF cfg 400) 4 (p5 n 0).1 (p5 n 0).2 [] (kBody cfg 4 0 Tryd.f4)) = some (.bool true) := by kernel_rfl
theorem form1 (n : Int) : closed (evCodeF cfg (orcF cfg 400) 4 (p5 n 1).1 (p5 n 1).2 [] (kBody cfg 4 0 Tryd.f4)) = some (.bool true) := by kernel_rfl
theorem form2 (n : Int) : closed (evCodeF cfg (orcF cfg 400) 4 (p5 n 2).1 (p5 n 2).2 [] (kBody cfg 4 0 Tryd.f4)) = some (.bool true) := by kernel_rfl
theorem form3 (n : Int) : closed (evCodeF cfg (orcF cfg 400) 4 (p5 n 3).1 (p5 n 3).2 [] (kBody cfg 4 0 Tryd.f4)) = some (.bool true) := by kernel_rfl
theorem form4 (n : Int) : closed (evCodeF cfg (orcF cfg 400) 4 (p5 n 4).1 (p5 n 4).2 [] (kBody cfg 4 0 Tryd.f4)) = some (.bool true) := by kernel_rfl
theorem form5 (n : Int) : closed (evCodeF cfg (orcF cfg 400) 4 (p5 n 5).1 (p5 n 5).2 [] (kBody cfg 4 0 Tryd.f4)) = some (.bool true) := by kernel_rfl
theorem form6 (n : Int) : closed (evCodeF cfg (orcF cfg 400) 4 (p5 n 6).1 (p5 n 6).2 [] (kBody cfg 4 0 Tryd.f4)) = some (.bool true) := by kernel_rfl
theorem form7 (n : Int) : closed (evCodeF cfg (orcF cfg 400) 4 (p5 n 7).1 (p5 n 7).2 [] (kBody cfg 4 0 Tryd.f4)) = some (.bool true) := by kernel_rfl
theorem form8 (n : Int) : closed (evCodeF cfg (orcF cfg 400) 4 (p5 n 8).1 (p5 n 8).2 [] (kBody cfg 4 0 Tryd.f4)) = some (.bool true) := by kernel_rfl
theorem form9 (n : Int) : closed (evCodeF cfg (orcF cfg 400) 4 (p5 n 9).1 (p5 n 9).2 [] (kBody cfg 4 0 Tryd.f4)) = some (.bool true) := by kernel_rfl
theorem form10 (n : Int) : closed (evCodeF cfg (orcF cfg 400) 4 (p5 n 10).1 (p5 n 10).2 [] (kBody cfg 4 0 Tryd.f4)) = some (.bool true) := by kernel_rfl
theorem form11 (n : Int) : closed (evCodeF cfg (orcF cfg 400) 4 (p5 n 11).1 (p5 n 11).2 [] (kBody cfg 4 0 Tryd.f4)) = some (.bool true) := by kernel_rfl
theorem form12 (n : Int) : closed (evCodeF cfg (orcF cfg 400) 4 (p5 n 12).1 (p5 n 12).2 [] (kBody cfg 4 0 Tryd.f4)) = some (.bool true) := by kernel_rfl
theorem form13 (n : Int) : closed (evCodeF cfg (orcF cfg 400) 4 (p5 n 13).1 (p5 n 13).2 [] (kBody cfg 4 0 Tryd.f4)) = some (.bool true) := by kernel_rfl
theorem form14 (n : Int) : closed (evCodeF cfg (orcF cfg 400) 4 (p5 n 14).1 (p5 n 14).2 [] (kBody cfg 4 0 Tryd.f4)) = some (.bool true) := by kernel_rfl
theorem form15 (n : Int) : closed (evCodeF cfg (orcF cfg 400) 4 (p5 n 15).1 (p5 n 15).2 [] (kBody cfg 4 0 Tryd.f4)) = some (.bool true) := by kernel_rfl
theorem form16 (n : Int) : closed (evCodeF cfg (orcF cfg 400) 4 (p5 n 16).1 (p5 n 16).2 [] (kBody cfg 4 0 Tryd.f4)) = some (.bool true) := by kernel_rfl
theorem form17 (n : Int) : closed (evCodeF cfg (orcF cfg 400) 4 (p5 n 17).1 (p5 n 17).2 [] (kBody cfg 4 0 Tryd.f4)) = some (.bool true) := by kernel_rfl
theorem form18 (n : Int) : closed (evCodeF cfg (orcF cfg 400) 4 (p5 n 18).1 (p5 n 18).2 [] (kBody cfg 4 0 Tryd.f4)) = some (.bool true) := by kernel_rfl
theorem form19 (n : Int) : closed (evCodeF cfg (orcF cfg 400) 4 (p5 n 19).1 (p5 n 19).2 [] (kBody cfg 4 0 Tryd.f4)) = some (.bool true) := by kernel_rfl
theorem form_all (n : Int) : ∀ k : Fin 20, closed (evCodeF cfg (orcF cfg 400) 4 (p5 n (k.val : Int)).1 (p5 n (k.val : Int)).2 [] (kBody cfg 4 0 Tryd.f4)) = some (.bool true) := fun k => match k with
  | ⟨0, _⟩ => form0 n
  | ⟨1, _⟩ => form1 n
  | ⟨2, _⟩ => form2 n
  | ⟨3, _⟩ => form3 n
  | ⟨4, _⟩ => form4 n
  | ⟨5, _⟩ => form5 n
  | ⟨6, _⟩ => form6 n
  | ⟨7, _⟩ => form7 n
  | ⟨8, _⟩ => form8 n
  | ⟨9, _⟩ => form9 n
  | ⟨10, _⟩ => form10 n
  | ⟨11, _⟩ => form11 n
  | ⟨12, _⟩ => form12 n
  | ⟨13, _⟩ => form13 n
  | ⟨14, _⟩ => form14 n
  | ⟨15, _⟩ => form15 n
  | ⟨16, _⟩ => form16 n
  | ⟨17, _⟩ => form17 n
  | ⟨18, _⟩ => form18 n
  | ⟨19, _⟩ => form19 n
  | ⟨n + 20, h⟩ => absurd h (by omega)
theorem fn4 : cfg.fn 4 = some Tryd.f4 := by kernel_rfl
theorem b4 : Tryd.f4.body = some body4 := by kernel_rfl
theorem known_clo (n : Int) : CloC Tryd.prog 4 [.int .i64 n] (.bool true) := by
  obtain ⟨k, hk⟩ := within20_is (orcF cfg 399) n
  have hk := clo_of (xs := [.int .i64 n, .int .i64 20]) (by kernel_rfl) (by kernel_rfl) hk
  refine clo1 (n := 401) (clo_of (by kernel_rfl) (by kernel_rfl) ?_)
  rw [body_pre fn4 b4 0]
  refine Eq.trans (congrArg closed (?_ : _ = evCodeF cfg (orcF cfg 400) 4 (p5 n (k.val : Int)).1 (p5 n (k.val : Int)).2 [] (kBody cfg 4 0 Tryd.f4))) (form_all n k)
  show evCodeF cfg (orcF cfg 400) 4 (p0 n).1 (p0 n).2 [] (kBody cfg 4 0 Tryd.f4) = _
  rw [evCodeF_eq, evCodeF_eq]
  exact from5 _ _ _ _ known_run hk
end Go.Proofs.YtkbcnojfibifiaaDoor
