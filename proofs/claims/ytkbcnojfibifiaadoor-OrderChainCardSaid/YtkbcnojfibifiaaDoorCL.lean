/- OrderChain: the function, for every number. -/
import Derived.Test.YtkbcnojfibifiaaDoorChain00A
import Derived.Test.YtkbcnojfibifiaaDoorChain00B
import Derived.Test.YtkbcnojfibifiaaDoorChain00C
import Derived.Test.YtkbcnojfibifiaaDoorChain00D
import Derived.Test.YtkbcnojfibifiaaDoorChain01A
import Derived.Test.YtkbcnojfibifiaaDoorChain01B
import Derived.Test.YtkbcnojfibifiaaDoorChain01C
import Derived.Test.YtkbcnojfibifiaaDoorChain01D
import Derived.Test.YtkbcnojfibifiaaDoorChain10A
import Derived.Test.YtkbcnojfibifiaaDoorChain10B
import Derived.Test.YtkbcnojfibifiaaDoorChain10C
import Derived.Test.YtkbcnojfibifiaaDoorChain10D
import Derived.Test.YtkbcnojfibifiaaDoorChain11A
import Derived.Test.YtkbcnojfibifiaaDoorChain11B
import Derived.Test.YtkbcnojfibifiaaDoorChain11C
import Derived.Test.YtkbcnojfibifiaaDoorChain11D
set_option linter.unusedVariables false
set_option linter.unusedSectionVars false
set_option linter.unusedSimpArgs false
set_option linter.unnecessarySimpa false
namespace Go.Proofs.YtkbcnojfibifiaaDoor
open Go Go.Ev
theorem chain00 (n : Int) : ∀ k : Fin 31, closed (evBodyF cfg (ov (orcF cfg 400) (some (.bool true)) (some (.int .i64 (k.val : Int)))) 5 [.c (.int .i64 n), .c (.bool false), .c (.bool false)] []) = some (.bool true) := fun k => match k with
  | ⟨0, _⟩ => chain00_0 n
  | ⟨1, _⟩ => chain00_1 n
  | ⟨2, _⟩ => chain00_2 n
  | ⟨3, _⟩ => chain00_3 n
  | ⟨4, _⟩ => chain00_4 n
  | ⟨5, _⟩ => chain00_5 n
  | ⟨6, _⟩ => chain00_6 n
  | ⟨7, _⟩ => chain00_7 n
  | ⟨8, _⟩ => chain00_8 n
  | ⟨9, _⟩ => chain00_9 n
  | ⟨10, _⟩ => chain00_10 n
  | ⟨11, _⟩ => chain00_11 n
  | ⟨12, _⟩ => chain00_12 n
  | ⟨13, _⟩ => chain00_13 n
  | ⟨14, _⟩ => chain00_14 n
  | ⟨15, _⟩ => chain00_15 n
  | ⟨16, _⟩ => chain00_16 n
  | ⟨17, _⟩ => chain00_17 n
  | ⟨18, _⟩ => chain00_18 n
  | ⟨19, _⟩ => chain00_19 n
  | ⟨20, _⟩ => chain00_20 n
  | ⟨21, _⟩ => chain00_21 n
  | ⟨22, _⟩ => chain00_22 n
  | ⟨23, _⟩ => chain00_23 n
  | ⟨24, _⟩ => chain00_24 n
  | ⟨25, _⟩ => chain00_25 n
  | ⟨26, _⟩ => chain00_26 n
  | ⟨27, _⟩ => chain00_27 n
  | ⟨28, _⟩ => chain00_28 n
  | ⟨29, _⟩ => chain00_29 n
  | ⟨30, _⟩ => chain00_30 n
  | ⟨n + 31, h⟩ => absurd h (by omega)
theorem evChain00 (Q : Orc) (n : Int) : evBody cfg Q 5 [.c (.int .i64 n), .c (.bool false), .c (.bool false)] [] = evBody cfg (ov Q (Q.clo 6 []) (Q.clo 7 [.int .i64 n, .int .i64 31])) 5 [.c (.int .i64 n), .c (.bool false), .c (.bool false)] [] := by kernel_rfl
theorem chain_clo00 (n : Int) : CloC Tryd.prog 5 [.int .i64 n, .bool false, .bool false] (.bool true) := by
  obtain ⟨k, hk⟩ := within31_is (orcF cfg 399) n
  have hk := clo_of (xs := [.int .i64 n, .int .i64 31]) (by kernel_rfl) (by kernel_rfl) hk
  refine clo1 (n := 401) (clo_of (by kernel_rfl) (by kernel_rfl) ?_)
  rw [evBodyF_eq]
  refine Eq.trans (congrArg closed (evChain00 _ n)) ?_
  rw [known_run, hk, ← evBodyF_eq]
  exact chain00 n k
theorem chain01 (n : Int) : ∀ k : Fin 31, closed (evBodyF cfg (ov (orcF cfg 400) (some (.bool true)) (some (.int .i64 (k.val : Int)))) 5 [.c (.int .i64 n), .c (.bool false), .c (.bool true)] []) = some (.bool true) := fun k => match k with
  | ⟨0, _⟩ => chain01_0 n
  | ⟨1, _⟩ => chain01_1 n
  | ⟨2, _⟩ => chain01_2 n
  | ⟨3, _⟩ => chain01_3 n
  | ⟨4, _⟩ => chain01_4 n
  | ⟨5, _⟩ => chain01_5 n
  | ⟨6, _⟩ => chain01_6 n
  | ⟨7, _⟩ => chain01_7 n
  | ⟨8, _⟩ => chain01_8 n
  | ⟨9, _⟩ => chain01_9 n
  | ⟨10, _⟩ => chain01_10 n
  | ⟨11, _⟩ => chain01_11 n
  | ⟨12, _⟩ => chain01_12 n
  | ⟨13, _⟩ => chain01_13 n
  | ⟨14, _⟩ => chain01_14 n
  | ⟨15, _⟩ => chain01_15 n
  | ⟨16, _⟩ => chain01_16 n
  | ⟨17, _⟩ => chain01_17 n
  | ⟨18, _⟩ => chain01_18 n
  | ⟨19, _⟩ => chain01_19 n
  | ⟨20, _⟩ => chain01_20 n
  | ⟨21, _⟩ => chain01_21 n
  | ⟨22, _⟩ => chain01_22 n
  | ⟨23, _⟩ => chain01_23 n
  | ⟨24, _⟩ => chain01_24 n
  | ⟨25, _⟩ => chain01_25 n
  | ⟨26, _⟩ => chain01_26 n
  | ⟨27, _⟩ => chain01_27 n
  | ⟨28, _⟩ => chain01_28 n
  | ⟨29, _⟩ => chain01_29 n
  | ⟨30, _⟩ => chain01_30 n
  | ⟨n + 31, h⟩ => absurd h (by omega)
theorem evChain01 (Q : Orc) (n : Int) : evBody cfg Q 5 [.c (.int .i64 n), .c (.bool false), .c (.bool true)] [] = evBody cfg (ov Q (Q.clo 6 []) (Q.clo 7 [.int .i64 n, .int .i64 31])) 5 [.c (.int .i64 n), .c (.bool false), .c (.bool true)] [] := by kernel_rfl
theorem chain_clo01 (n : Int) : CloC Tryd.prog 5 [.int .i64 n, .bool false, .bool true] (.bool true) := by
  obtain ⟨k, hk⟩ := within31_is (orcF cfg 399) n
  have hk := clo_of (xs := [.int .i64 n, .int .i64 31]) (by kernel_rfl) (by kernel_rfl) hk
  refine clo1 (n := 401) (clo_of (by kernel_rfl) (by kernel_rfl) ?_)
  rw [evBodyF_eq]
  refine Eq.trans (congrArg closed (evChain01 _ n)) ?_
  rw [known_run, hk, ← evBodyF_eq]
  exact chain01 n k
theorem chain10 (n : Int) : ∀ k : Fin 31, closed (evBodyF cfg (ov (orcF cfg 400) (some (.bool true)) (some (.int .i64 (k.val : Int)))) 5 [.c (.int .i64 n), .c (.bool true), .c (.bool false)] []) = some (.bool true) := fun k => match k with
  | ⟨0, _⟩ => chain10_0 n
  | ⟨1, _⟩ => chain10_1 n
  | ⟨2, _⟩ => chain10_2 n
  | ⟨3, _⟩ => chain10_3 n
  | ⟨4, _⟩ => chain10_4 n
  | ⟨5, _⟩ => chain10_5 n
  | ⟨6, _⟩ => chain10_6 n
  | ⟨7, _⟩ => chain10_7 n
  | ⟨8, _⟩ => chain10_8 n
  | ⟨9, _⟩ => chain10_9 n
  | ⟨10, _⟩ => chain10_10 n
  | ⟨11, _⟩ => chain10_11 n
  | ⟨12, _⟩ => chain10_12 n
  | ⟨13, _⟩ => chain10_13 n
  | ⟨14, _⟩ => chain10_14 n
  | ⟨15, _⟩ => chain10_15 n
  | ⟨16, _⟩ => chain10_16 n
  | ⟨17, _⟩ => chain10_17 n
  | ⟨18, _⟩ => chain10_18 n
  | ⟨19, _⟩ => chain10_19 n
  | ⟨20, _⟩ => chain10_20 n
  | ⟨21, _⟩ => chain10_21 n
  | ⟨22, _⟩ => chain10_22 n
  | ⟨23, _⟩ => chain10_23 n
  | ⟨24, _⟩ => chain10_24 n
  | ⟨25, _⟩ => chain10_25 n
  | ⟨26, _⟩ => chain10_26 n
  | ⟨27, _⟩ => chain10_27 n
  | ⟨28, _⟩ => chain10_28 n
  | ⟨29, _⟩ => chain10_29 n
  | ⟨30, _⟩ => chain10_30 n
  | ⟨n + 31, h⟩ => absurd h (by omega)
theorem evChain10 (Q : Orc) (n : Int) : evBody cfg Q 5 [.c (.int .i64 n), .c (.bool true), .c (.bool false)] [] = evBody cfg (ov Q (Q.clo 6 []) (Q.clo 7 [.int .i64 n, .int .i64 31])) 5 [.c (.int .i64 n), .c (.bool true), .c (.bool false)] [] := by kernel_rfl
theorem chain_clo10 (n : Int) : CloC Tryd.prog 5 [.int .i64 n, .bool true, .bool false] (.bool true) := by
  obtain ⟨k, hk⟩ := within31_is (orcF cfg 399) n
  have hk := clo_of (xs := [.int .i64 n, .int .i64 31]) (by kernel_rfl) (by kernel_rfl) hk
  refine clo1 (n := 401) (clo_of (by kernel_rfl) (by kernel_rfl) ?_)
  rw [evBodyF_eq]
  refine Eq.trans (congrArg closed (evChain10 _ n)) ?_
  rw [known_run, hk, ← evBodyF_eq]
  exact chain10 n k
theorem chain11 (n : Int) : ∀ k : Fin 31, closed (evBodyF cfg (ov (orcF cfg 400) (some (.bool true)) (some (.int .i64 (k.val : Int)))) 5 [.c (.int .i64 n), .c (.bool true), .c (.bool true)] []) = some (.bool true) := fun k => match k with
  | ⟨0, _⟩ => chain11_0 n
  | ⟨1, _⟩ => chain11_1 n
  | ⟨2, _⟩ => chain11_2 n
  | ⟨3, _⟩ => chain11_3 n
  | ⟨4, _⟩ => chain11_4 n
  | ⟨5, _⟩ => chain11_5 n
  | ⟨6, _⟩ => chain11_6 n
  | ⟨7, _⟩ => chain11_7 n
  | ⟨8, _⟩ => chain11_8 n
  | ⟨9, _⟩ => chain11_9 n
  | ⟨10, _⟩ => chain11_10 n
  | ⟨11, _⟩ => chain11_11 n
  | ⟨12, _⟩ => chain11_12 n
  | ⟨13, _⟩ => chain11_13 n
  | ⟨14, _⟩ => chain11_14 n
  | ⟨15, _⟩ => chain11_15 n
  | ⟨16, _⟩ => chain11_16 n
  | ⟨17, _⟩ => chain11_17 n
  | ⟨18, _⟩ => chain11_18 n
  | ⟨19, _⟩ => chain11_19 n
  | ⟨20, _⟩ => chain11_20 n
  | ⟨21, _⟩ => chain11_21 n
  | ⟨22, _⟩ => chain11_22 n
  | ⟨23, _⟩ => chain11_23 n
  | ⟨24, _⟩ => chain11_24 n
  | ⟨25, _⟩ => chain11_25 n
  | ⟨26, _⟩ => chain11_26 n
  | ⟨27, _⟩ => chain11_27 n
  | ⟨28, _⟩ => chain11_28 n
  | ⟨29, _⟩ => chain11_29 n
  | ⟨30, _⟩ => chain11_30 n
  | ⟨n + 31, h⟩ => absurd h (by omega)
theorem evChain11 (Q : Orc) (n : Int) : evBody cfg Q 5 [.c (.int .i64 n), .c (.bool true), .c (.bool true)] [] = evBody cfg (ov Q (Q.clo 6 []) (Q.clo 7 [.int .i64 n, .int .i64 31])) 5 [.c (.int .i64 n), .c (.bool true), .c (.bool true)] [] := by kernel_rfl
theorem chain_clo11 (n : Int) : CloC Tryd.prog 5 [.int .i64 n, .bool true, .bool true] (.bool true) := by
  obtain ⟨k, hk⟩ := within31_is (orcF cfg 399) n
  have hk := clo_of (xs := [.int .i64 n, .int .i64 31]) (by kernel_rfl) (by kernel_rfl) hk
  refine clo1 (n := 401) (clo_of (by kernel_rfl) (by kernel_rfl) ?_)
  rw [evBodyF_eq]
  refine Eq.trans (congrArg closed (evChain11 _ n)) ?_
  rw [known_run, hk, ← evBodyF_eq]
  exact chain11 n k
theorem chain_clo (n : Int) (u t : Bool) : CloC Tryd.prog 5 [.int .i64 n, .bool u, .bool t] (.bool true) := by
  cases u <;> cases t
  · exact chain_clo00 n
  · exact chain_clo01 n
  · exact chain_clo10 n
  · exact chain_clo11 n
end Go.Proofs.YtkbcnojfibifiaaDoor
