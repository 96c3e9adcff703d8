/- An interpreter of the model's code that the kernel can run, and the proof that what it answers the model answers, part 5 of 5. No condition. -/
import Derived.Test.YthndchidnkbgiaaGreatDoorEvD
import Derived.Deep.Slices
import Derived.Carry
set_option linter.unusedVariables false
set_option linter.unusedSectionVars false
set_option linter.unusedSimpArgs false
set_option linter.unnecessarySimpa false
/- Memos: calls of closed values whose answers are known. -/
namespace Go.Ev
open Go
variable [Glob]
/-- the same arguments? the last ones first -/
def sameArgs : List CV → List CV → Bool
  | [], [] => true
  | a :: l, b :: k => sameArgs l k && sameCV 64 a b
  | _, _ => false
def lookT : List (List CV × CV) → List CV → Option CV
  | [], _ => none
  | e :: l, xs => match sameArgs e.1 xs with | true => some e.2 | false => lookT l xs
/-- by functions: arguments, answers -/
abbrev MT := List (Nat × List (List CV × CV))
def prmsOf (t : MT) : List (Nat × (List CV → Option CV)) := t.map fun p => (p.1, lookT p.2)
def AllE (Q : List CV → CV → Prop) : List (List CV × CV) → Prop
  | [] => True
  | e :: l => Q e.1 e.2 ∧ AllE Q l
def AllT (Q : Nat → List CV → CV → Prop) : MT → Prop
  | [] => True
  | p :: l => AllE (Q p.1) p.2 ∧ AllT Q l
/-- a call's answer -/
def Fact (P : Program) (C : Cfg) (f : Nat) (xs : List CV) (r : CV) : Prop := CloC P f xs r ∧ ∀ fn, C.fn f = some fn → resOk C fn (.c r) = true
theorem sameArgs_eq : ∀ {a b : List CV}, sameArgs a b = true → a = b
  | [], [], _ => rfl
  | [], _ :: _, h => by cases h
  | _ :: _, [], h => by cases h
  | a :: l, b :: k, h => by
    have h : (sameArgs l k && sameCV 64 a b) = true := h
    rw [Bool.and_eq_true] at h
    rw [sameArgs_eq h.1, sameCV_eq 64 a b h.2]
theorem lookT_ok {Q : List CV → CV → Prop} : ∀ {l : List (List CV × CV)} {xs : List CV} {r : CV}, AllE Q l → lookT l xs = some r → Q xs r
  | [], _, _, _, h => by cases h
  | e :: l, xs, r, hq, h => by
    unfold lookT at h
    split at h
    · rename_i he
      injection h with h
      subst h
      rw [← sameArgs_eq he]
      exact hq.1
    · exact lookT_ok hq.2 h
theorem lookP_ok {Q : Nat → List CV → CV → Prop} : ∀ {t : MT} {f : Nat} {p : List CV → Option CV} {xs : List CV} {r : CV}, AllT Q t → List.lookup f (prmsOf t) = some p → p xs = some r → Q f xs r
  | [], _, _, _, _, _, h, _ => by cases h
  | q :: t, f, p, xs, r, hq, h, hx => by
    have h1 : List.lookup f ((q.1, lookT q.2) :: prmsOf t) = some p := h
    unfold List.lookup at h1
    split at h1
    · rename_i he
      obtain rfl : f = q.1 := eq_of_beq he
      injection h1 with h1
      subst h1
      exact lookT_ok hq.1 hx
    · exact lookP_ok hq.2 h1 hx
omit [Glob] in
theorem resOk_eq {C D : Cfg} (ht : C.ty = D.ty) (fn : Func) (r : AV) : resOk C fn r = resOk D fn r := by
  unfold resOk plainRes
  rw [ht]
theorem memo_ok {P : Program} {C D : Cfg} {t : MT} (hp : ∀ f, C.prm f = List.lookup f (prmsOf t)) (hf : C.fn = D.fn) (ht : C.ty = D.ty) (h : AllT (Fact P D) t) : PrmOk P C := fun f p xs r h1 h2 => by
  rw [hp] at h1
  obtain ⟨k1, k2⟩ := lookP_ok h h1 h2
  exact ⟨k1, fun fn hfn => by rw [resOk_eq ht]; exact k2 fn (by rw [← hf]; exact hfn)⟩
theorem memo_fact {P : Program} {C D : Cfg} (hP : Ok P C) (hc : CodesOk C) (hprm : PrmOk P C) (hf : C.fn = D.fn) (ht : C.ty = D.ty) {n f : Nat} {xs : List CV} {r : CV} (h : (orcF C n).clo f xs = some r) : Fact P D f xs r := by
  rw [orcF_eq] at h
  obtain ⟨k1, k2⟩ := (orc_ok hP hc hprm n).f.clo f xs r h
  exact ⟨k1, fun fn hfn => by rw [← resOk_eq ht]; exact k2 fn (by rw [hf]; exact hfn)⟩
end Go.Ev
/- Arguments: what is read of them as data, as closed values. -/
namespace Go.Ev
open Go Go.RowKit Go.ChangeShapes Go.WideShapes Go.Deep
variable [Glob]
/-- cells of a type of plain data -/
inductive WT (P : Program) : Nat → List CV → Prop where
  | bool (t : Nat) (b : Bool) : P.underlying t = some .bool → WT P t [.bool b]
  | int (t : Nat) (k : IntKind) (n : Int) : P.underlying t = some (.int k) → (Lit.int k n).wf = true → WT P t [.int k n]
  | str (t : Nat) (s : ByteArray) : P.underlying t = some .string → s.size ≤ maxLen → WT P t [.str s]
  | nil (t e : Nat) : P.underlying t = some (.slice e) → WT P t [.nils]
  | em (t e : Nat) : P.underlying t = some (.slice e) → WT P t [.em]
  | sl (t e : Nat) (xs : List CV) : P.underlying t = some (.slice e) → (∀ x, x ∈ xs → WT P e x.cells) → xs.length ≤ maxLen → WT P t [.im xs]
  | st (t : Nat) (fs : Array Field) (cs : List CV) : P.underlying t = some (.struct fs) → cs.length = P.cellsOf t → (∀ f, f ∈ fs.toList → WT P f.type ((cs.drop f.offset).take (P.cellsOf f.type))) → WT P t cs
/-- an argument that is a number, a bool, a string -/
theorem vr_int {w : World} {k : IntKind} (n : Int) : VR w (immI w) (.int k n) (.int k n) := .int k n
variable {H : Type} {enc : TypeId × Value → H} {P : Program} {w : World} {spare : Nat → Bool} {held : Bool}
/-- where a slice that is handed in lies -/
theorem slice_at {t e base : Nat} {r : Reach} {v : Value} (ht : P.underlying t = some (.slice e)) (hval : Value.okWide P w r base t v) : ∀ a len cap, v = .slice (some a) len cap → a.spot = none ∧ a.block < w.heap.size := by
  rintro a len cap rfl
  unfold Value.okWide at hval
  rw [ht] at hval
  have hval : Cell.okWide P w r base t (.slice (some a) len cap) := hval
  unfold Cell.okWide at hval
  rw [ht] at hval
  have hval : Cell.ok P w r base t (.slice (some a) len cap) := hval
  unfold Cell.ok at hval
  rw [ht] at hval
  obtain ⟨_, _, _, h2, row, cells, h3, _⟩ := hval
  refine ⟨h2, ?_⟩
  apply Classical.byContradiction
  intro hn
  have : w.heap[a.block]? = none := Array.getElem?_eq_none (by omega)
  unfold World.shape? at h3
  rw [this] at h3
  cases h3
/-- a slice of numbers that is handed in, its address without a map's entry -/
theorem vr_ints {t e : Nat} {k : IntKind} {fuel : Nat} {v : Value} {x : DataW H × List MemPlace} (ht : P.underlying t = some (.slice e)) (he : P.underlying e = some (.int k)) (hc : P.cellsOf e = 1)
    (hsp : ∀ a len cap, v = .slice (some a) len cap → a.spot = none ∧ a.block < w.heap.size) (h : DataW.trod enc P w 0 spare held fuel t [v] = some x) : ∃ l : List Int, VR w (immI w) (.im (l.map (CV.int k))) v ∧ WT P t [.im (l.map (CV.int k))] := by
  rcases open_slice1 ht hc h with ⟨h1, _⟩ | ⟨a, len, cap, m, n, V, D, Pl, h1, _, h3, h4, h5, _, h7⟩
  · injection h1 with h1
    subst h1
    exact ⟨[], .im0, .sl t e [] ht (fun x hx => by simp at hx) (Nat.zero_le _)⟩
  · injection h1 with h1
    subst h1
    obtain ⟨hs, hb⟩ := hsp a len cap rfl
    have hm : len ≤ m := by rw [h5]; split <;> omega
    have hint : ∀ i, i < len → ∃ z : Int, V i = .int k z ∧ (Lit.int k z).wf = true := fun i hi => by
      obtain ⟨_, h8⟩ := h7 i (by omega)
      cases n with
      | zero => simp [DataW.trod] at h8
      | succ n =>
        unfold DataW.trod at h8
        rw [he] at h8
        generalize V i = u at h8
        cases u <;> simp_all
    obtain ⟨Z, hZ⟩ := Classical.skolem.mp (fun i : Nat => (by
      by_cases hi : i < len
      · obtain ⟨z, hz⟩ := hint i hi
        exact ⟨z, fun _ => hz⟩
      · exact ⟨0, fun h => absurd h hi⟩ : ∃ z : Int, i < len → V i = .int k z ∧ (Lit.int k z).wf = true))
    suffices h0 : VR w (immI w) (.im ((List.range len).map fun i => .int k (Z i))) (.slice (some a) len cap) ∧ WT P t [.im ((List.range len).map fun i => .int k (Z i))] from ⟨(List.range len).map Z, by rw [List.map_map]; exact h0⟩
    refine ⟨?_, .sl t e _ ht (fun x hx => ?_) (by simp; omega)⟩
    · obtain ⟨ab, ao, as_⟩ := a
      have hs : as_ = none := hs
      subst hs
      have hfl : ((List.range len).map fun i => CV.int k (Z i)).flatMap CV.cells = (List.range len).map fun i => CV.int k (Z i) := flats_cells (by simp [CV.flat])
      have := VR.im (w := w) (I := immI w) ((List.range len).map fun i => .int k (Z i)) ab ao cap 1 ((List.range len).map fun i => .int k (Z i)) (by
        rw [hfl]
        refine VRs.of_get (by simp) fun i x v hx hv => ?_
        rw [List.getElem?_map] at hx hv
        cases hr : (List.range len)[i]? with
        | none => rw [hr] at hx; cases hx
        | some j =>
          rw [hr] at hx hv
          injection hx with hx; injection hv with hv
          subst hx; subst hv
          exact .int _ _) (fun x hx => by
          obtain ⟨i, _, rfl⟩ := List.mem_map.mp hx
          rfl) (by rw [immI_lt hb]; trivial) (fun i v hv => by
          rw [List.getElem?_map] at hv
          cases hr : (List.range len)[i]? with
          | none => rw [hr] at hv; cases hv
          | some j =>
            have hlt := (List.getElem?_eq_some_iff.mp hr).1
            rw [List.length_range] at hlt
            rw [List.getElem?_range hlt] at hr
            injection hr with hr; subst hr
            rw [List.getElem?_range hlt] at hv
            injection hv with hv; subst hv
            obtain ⟨h8, _⟩ := h7 i (by omega)
            rw [(hZ i hlt).1, add_at] at h8
            exact ⟨h8, rfl⟩) (by simpa using h3)
      simpa using this
    · obtain ⟨i, hi, rfl⟩ := List.mem_map.mp hx
      exact .int e k (Z i) he (hZ i (by simpa using hi)).2
/-- the same, of an argument -/
theorem vr_intl {t e : Nat} {k : IntKind} {v : Value} {d : DataW H} {ps : List MemPlace} (ht : P.underlying t = some (.slice e)) (he : P.underlying e = some (.int k)) (hc : P.cellsOf e = 1)
    {base : Nat} {r : Reach} (hval : Value.okWide P w r base t v) (h : DataW.Trod enc P w 0 spare held t v d ps) : ∃ l : List Int, VR w (immI w) (.im (l.map (CV.int k))) v := by
  obtain ⟨a, len, cap, rfl⟩ := okWide_slice ht hval
  obtain ⟨fuel, hf⟩ := h
  have hf : DataW.trod enc P w 0 spare held fuel t [.slice a len cap] = some (d, ps) := hf
  obtain ⟨l, h1, _⟩ := vr_ints ht he hc (slice_at ht hval) hf
  exact ⟨l, h1⟩
end Go.Ev
