/- OrderLeast: the function, for every number. -/
import Derived.Test.YtkbcnojfibifiaaDoorLeastA
import Derived.Test.YtkbcnojfibifiaaDoorLeastB
import Derived.Test.YtkbcnojfibifiaaDoorLeastC
import Derived.Test.YtkbcnojfibifiaaDoorLeastD
set_option linter.unusedVariables false
set_option linter.unusedSectionVars false
set_option linter.unusedSimpArgs false
set_option linter.unnecessarySimpa false
namespace Go.Proofs.YtkbcnojfibifiaaDoor
open Go Go.Ev
theorem least_all (n : Int) : ∀ k : Fin 36, closed (evBodyF cfg (ov (orcF cfg 400) (some (.bool true)) (some (.int .i64 (k.val : Int)))) 3 [.c (.int .i64 n)] []) = some (.bool true) := fun k => match k with
  | ⟨0, _⟩ => least0 n
  | ⟨1, _⟩ => least1 n
  | ⟨2, _⟩ => least2 n
  | ⟨3, _⟩ => least3 n
  | ⟨4, _⟩ => least4 n
  | ⟨5, _⟩ => least5 n
  | ⟨6, _⟩ => least6 n
  | ⟨7, _⟩ => least7 n
  | ⟨8, _⟩ => least8 n
  | ⟨9, _⟩ => least9 n
  | ⟨10, _⟩ => least10 n
  | ⟨11, _⟩ => least11 n
  | ⟨12, _⟩ => least12 n
  | ⟨13, _⟩ => least13 n
  | ⟨14, _⟩ => least14 n
  | ⟨15, _⟩ => least15 n
  | ⟨16, _⟩ => least16 n
  | ⟨17, _⟩ => least17 n
  | ⟨18, _⟩ => least18 n
  | ⟨19, _⟩ => least19 n
  | ⟨20, _⟩ => least20 n
  | ⟨21, _⟩ => least21 n
  | ⟨22, _⟩ => least22 n
  | ⟨23, _⟩ => least23 n
  | ⟨24, _⟩ => least24 n
  | ⟨25, _⟩ => least25 n
  | ⟨26, _⟩ => least26 n
  | ⟨27, _⟩ => least27 n
  | ⟨28, _⟩ => least28 n
  | ⟨29, _⟩ => least29 n
  | ⟨30, _⟩ => least30 n
  | ⟨31, _⟩ => least31 n
  | ⟨32, _⟩ => least32 n
  | ⟨33, _⟩ => least33 n
  | ⟨34, _⟩ => least34 n
  | ⟨35, _⟩ => least35 n
  | ⟨n + 36, h⟩ => absurd h (by omega)
theorem evLeast (Q : Orc) (n : Int) : evBody cfg Q 3 [.c (.int .i64 n)] [] = evBody cfg (ov Q (Q.clo 6 []) (Q.clo 7 [.int .i64 n, .int .i64 36])) 3 [.c (.int .i64 n)] [] := by kernel_rfl
theorem least_clo (n : Int) : CloC Tryd.prog 3 [.int .i64 n] (.bool true) := by
  obtain ⟨k, hk⟩ := within36_is (orcF cfg 399) n
  have hk := clo_of (xs := [.int .i64 n, .int .i64 36]) (by kernel_rfl) (by kernel_rfl) hk
  refine clo1 (n := 401) (clo_of (by kernel_rfl) (by kernel_rfl) ?_)
  rw [evBodyF_eq]
  refine Eq.trans (congrArg closed (evLeast _ n)) ?_
  rw [known_run, hk, ← evBodyF_eq]
  exact least_all n k
end Go.Proofs.YtkbcnojfibifiaaDoor
