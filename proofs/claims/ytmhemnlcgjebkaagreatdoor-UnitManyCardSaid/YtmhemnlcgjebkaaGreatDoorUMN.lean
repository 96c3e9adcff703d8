/- What a form without parts, that is no name, needs: nothing. -/
import Derived.Test.YtmhemnlcgjebkaaGreatDoorUMT4
import Derived.Test.YtmhemnlcgjebkaaGreatDoorEvE
set_option linter.unusedVariables false
set_option linter.unusedSectionVars false
set_option linter.unusedSimpArgs false
set_option linter.unnecessarySimpa false
namespace Go.Proofs.YtmhemnlcgjebkaaGreatDoor
open Go Go.Ev
def pNeeds : List CV → Option CV
  | [.ag [.int .i64 k, .int .i64 _, .str _, .im l]] => match l with
    | [] => (match k with
      | .ofNat 0 => some .nils
      | .ofNat (_ + 2) => some .nils
      | _ => none)
    | _ :: _ => none
  | _ => none
noncomputable def tF : MT := [(42, [(x4, y4)])]
theorem allF : AllT Known tF := consT (consE q4 trivial) trivial
theorem needs0 (z : Int) (t : ByteArray) : (orcF (cfgT tF) 399).clo 28 [.ag [.int .i64 0, .int .i64 z, .str t, .im []]] = some .nils := by kernel_rfl
theorem needs2 (z : Int) (t : ByteArray) : (orcF (cfgT tF) 399).clo 28 [.ag [.int .i64 (Int.ofNat (0 + 2)), .int .i64 z, .str t, .im []]] = some .nils := by kernel_rfl
theorem needs3 (z : Int) (t : ByteArray) : (orcF (cfgT tF) 399).clo 28 [.ag [.int .i64 (Int.ofNat (0 + 1 + 2)), .int .i64 z, .str t, .im []]] = some .nils := by kernel_rfl
theorem needs4 (b : Nat) (z : Int) (t : ByteArray) : (orcF (cfgT tF) 399).clo 28 [.ag [.int .i64 (Int.ofNat (b + 1 + 1 + 2)), .int .i64 z, .str t, .im []]] = some .nils := by kernel_rfl
theorem needsB (b : Nat) (z : Int) (t : ByteArray) : (orcF (cfgT tF) 399).clo 28 [.ag [.int .i64 (Int.ofNat (b + 2)), .int .i64 z, .str t, .im []]] = some .nils := match b with
  | 0 => needs2 z t
  | 1 => needs3 z t
  | b + 2 => needs4 b z t
theorem needsK {xs : List CV} {r : CV} (h : pNeeds xs = some r) : Known 28 xs r := by
  unfold pNeeds at h
  split at h
  · split at h
    · split at h
      · injection h with h; subst h; exact knownT allF (needs0 _ _)
      · injection h with h; subst h; exact knownT allF (needsB _ _ _)
      · cases h
    · cases h
  · cases h
noncomputable def cfgN : Cfg := withBl (mkCfg ((28, pNeeds) :: prmsOf t4) types funcs opns ress nily twos joins loops) blurL
theorem okN : Ok Tryz.prog cfgN ∧ CodesOk cfgN := ok_of rfl rfl rfl rfl types_all funcs_all funcs_ok mixed
/-- one more function that is known -/
theorem prm_cons {C D : Cfg} {g : Nat} {p : List CV → Option CV} (h1 : ∀ f, C.prm f = match f == g with | true => some p | false => D.prm f) (hf : C.fn = D.fn) (ht : C.ty = D.ty) (hp : ∀ xs r, p xs = some r → Fact Tryz.prog D g xs r) (hD : PrmOk Tryz.prog D) : PrmOk Tryz.prog C := fun f q xs r k1 k2 => by
  rw [h1] at k1
  cases hg : f == g with
  | true =>
    rw [hg] at k1
    injection k1 with k1
    subst k1
    obtain rfl : f = g := eq_of_beq hg
    obtain ⟨a, b⟩ := hp xs r k2
    exact ⟨a, fun fn hfn => by rw [resOk_eq ht]; exact b fn (by rw [← hf]; exact hfn)⟩
  | false =>
    rw [hg] at k1
    obtain ⟨a, b⟩ := hD f q xs r k1 k2
    exact ⟨a, fun fn hfn => by rw [resOk_eq ht]; exact b fn (by rw [← hf]; exact hfn)⟩
theorem factD {C D : Cfg} (hf : C.fn = D.fn) (ht : C.ty = D.ty) {f : Nat} {xs : List CV} {r : CV} (h : Fact Tryz.prog C f xs r) : Fact Tryz.prog D f xs r := ⟨h.1, fun fn hfn => by rw [← resOk_eq ht]; exact h.2 fn (by rw [hf]; exact hfn)⟩
theorem prmN : PrmOk Tryz.prog cfgN := prm_cons (D := cfgT t4) (fun f => by show List.lookup f ((28, pNeeds) :: prmsOf t4) = _; unfold List.lookup; cases f == 28 <;> rfl) rfl rfl (fun xs r h => factD rfl rfl (needsK h)) (prmT all4)
/-- what the interpreter answers, the program answers -/
theorem knownN {n f : Nat} {xs : List CV} {r : CV} (h : (orcF cfgN n).clo f xs = some r) : Known f xs r := memo_fact okN.1 okN.2 prmN rfl rfl h
end Go.Proofs.YtmhemnlcgjebkaaGreatDoor
