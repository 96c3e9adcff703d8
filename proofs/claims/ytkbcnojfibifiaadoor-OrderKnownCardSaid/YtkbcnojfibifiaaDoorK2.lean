import Derived.Test.YtkbcnojfibifiaaDoorK1
import Derived.Test.YtkbcnojfibifiaaDoorFvD
import Derived.KernelRfl
import Derived.Test.YtkbcnojfibifiaaDoorChecked
set_option linter.unusedVariables false
set_option linter.unusedSectionVars false
set_option linter.unusedSimpArgs false
set_option linter.unnecessarySimpa false
namespace Go.Proofs.YtkbcnojfibifiaaDoor
open Go Go.Ev
theorem types_all : (List.range 160).map (tab types) = (List.range 160).map (fun t => Tryd.prog.info? t) := by kernel_rfl
theorem funcs_all : (List.range 112).map (tab funcs) = (List.range 112).map (fun t => Tryd.prog.funcs[t]?) := by kernel_rfl
theorem funcs_ok : funcs.flatten.all goOk = true := by kernel_rfl
theorem mixed : Tryd.prog.follows .mixedOrders = true := by kernel_rfl
theorem ok0 : Ok Tryd.prog cfg0 ∧ CodesOk cfg0 := ok_of rfl rfl rfl rfl types_all funcs_all funcs_ok mixed
theorem ok1 : Ok Tryd.prog cfg ∧ CodesOk cfg := ok_of rfl rfl rfl rfl types_all funcs_all funcs_ok mixed
theorem prm0 : PrmOk Tryd.prog cfg0 := fun f p xs r h => by cases h
theorem taken_run : (orcF cfg0 150).clo 20 [.str ⟨takenB.toArray⟩] = some takenW := by kernel_rfl
theorem cont0_run (s : ByteArray) : (orcF cfg0 20).clo 26 [.im [], .str s] = some (.bool false) := by kernel_rfl
theorem clo0 {n f : Nat} {xs : List CV} {r : CV} (h : (orcF cfg0 n).clo f xs = some r) : CloC Tryd.prog f xs r ∧ ∀ fn, cfg0.fn f = some fn → resOk cfg0 fn (.c r) = true := by
  rw [orcF_eq] at h
  exact (orc_ok ok0.1 ok0.2 prm0 n).f.clo f xs r h
theorem prm1 : PrmOk Tryd.prog cfg := by
  intro f p xs r hp hx
  have hp : List.lookup f [(20, pTaken), (26, pCont)] = some p := hp
  unfold List.lookup at hp
  split at hp
  · rename_i h
    obtain rfl : f = 20 := eq_of_beq h
    injection hp with hp
    subst hp
    unfold pTaken at hx
    split at hx
    · rename_i s
      rcases cond_inv hx with ⟨hs, hx⟩ | ⟨_, hx⟩
      · injection hx with hx
        subst hx
        obtain ⟨⟨l⟩⟩ := s
        have hs : l = takenB := eq_of_beq hs
        subst hs
        exact clo0 taken_run
      · cases hx
    · cases hx
  · unfold List.lookup at hp
    split at hp
    · rename_i h
      obtain rfl : f = 26 := eq_of_beq h
      injection hp with hp
      subst hp
      unfold pCont at hx
      split at hx
      · rename_i s
        injection hx with hx
        subst hx
        exact clo0 (cont0_run s)
      · cases hx
    · cases hp
theorem clo1 {n f : Nat} {xs : List CV} {r : CV} (h : (orcF cfg n).clo f xs = some r) : CloC Tryd.prog f xs r := by
  rw [orcF_eq] at h
  exact ev_sound ok1.1 ok1.2 prm1 h
/-! ### The common beginning: known(), within(n, N) -/
def ov (Q : Orc) (x y : Option CV) : Orc := ⟨fun f xs => match f with | 6 => x | 7 => y | f => Q.clo f xs, Q.opn, Q.loop⟩
theorem known_run : (orcF cfg 400).clo 6 [] = some (.bool true) := by kernel_rfl
theorem within20 (Q : Orc) (n : Int) : evBodyF cfg Q 7 [.c (.int .i64 n), .c (.int .i64 20)] [] = ifb (decide (n.tmod 20 < 0)) (some (.c (.int .i64 (IntKind.i64.wrap (n.tmod 20 + 20))), [])) (some (.c (.int .i64 (n.tmod 20)), [])) := by kernel_rfl
theorem small20 : ∀ m : Fin 39, ∃ k : Fin 20, ifb (decide (((m.val : Int) - 19) < 0)) (some (AV.c (.int .i64 (IntKind.i64.wrap (((m.val : Int) - 19) + 20))), ([] : O))) (some (.c (.int .i64 ((m.val : Int) - 19)), [])) = some (.c (.int .i64 (k.val : Int)), []) := by
  intro m
  by_cases h : ((m.val : Int) - 19) < 0
  · refine ⟨⟨m.val + 1, by omega⟩, ?_⟩
    have e : IntKind.i64.wrap (((m.val : Int) - 19) + 20) = ((m.val + 1 : Nat) : Int) := by
      have : ∀ m : Fin 39, ((m.val : Int) - 19) < 0 → IntKind.i64.wrap (((m.val : Int) - 19) + 20) = ((m.val + 1 : Nat) : Int) := by decide +kernel
      exact this m h
    rw [e, decide_eq_true h]
    rfl
  · refine ⟨⟨m.val - 19, by omega⟩, ?_⟩
    rw [decide_eq_false h]
    have e : ((m.val : Int) - 19) = ((m.val - 19 : Nat) : Int) := by omega
    rw [e]
    rfl
theorem within20_is (Q : Orc) (n : Int) : ∃ k : Fin 20, closed (evBodyF cfg Q 7 [.c (.int .i64 n), .c (.int .i64 20)] []) = some (.int .i64 (k.val : Int)) := by
  have h1 : -20 < n.tmod 20 := by have := Int.lt_tmod_of_pos n (b := 20) (by decide); omega
  have h2 : n.tmod 20 < 20 := Int.tmod_lt_of_pos n (by decide)
  obtain ⟨k, hk⟩ := small20 ⟨(n.tmod 20 + 19).toNat, by omega⟩
  have e : (((n.tmod 20 + 19).toNat : Nat) : Int) - 19 = n.tmod 20 := by omega
  rw [e] at hk
  exact ⟨k, by rw [within20, hk]; rfl⟩
end Go.Proofs.YtkbcnojfibifiaaDoor
