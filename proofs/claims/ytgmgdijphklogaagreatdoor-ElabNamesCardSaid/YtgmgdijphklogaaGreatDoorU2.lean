/- The tables are the program's; what is memoized; the common beginnings: known(), within(n, N). -/
import Derived.Test.YtgmgdijphklogaaGreatDoorU1
import Derived.Test.YtgmgdijphklogaaGreatDoorEvD
import Derived.KernelRfl
import Derived.Test.YtgmgdijphklogaaGreatDoorChecked
set_option linter.unusedVariables false
set_option linter.unusedSectionVars false
set_option linter.unusedSimpArgs false
set_option linter.unnecessarySimpa false
namespace Go.Proofs.YtgmgdijphklogaaGreatDoor
open Go Go.Ev
theorem types_all : (List.range 288).map (tab types) = (List.range 288).map (fun t => Tryz.prog.info? t) := by kernel_rfl
theorem funcs_all : (List.range 240).map (tab funcs) = (List.range 240).map (fun t => Tryz.prog.funcs[t]?) := by kernel_rfl
theorem funcs_ok : funcs.flatten.all goOk = true := by kernel_rfl
theorem mixed : Tryz.prog.follows .mixedOrders = true := by kernel_rfl
theorem ok0 : Ok Tryz.prog cfg0 ∧ CodesOk cfg0 := ok_of rfl rfl rfl rfl types_all funcs_all funcs_ok mixed
theorem ok1 : Ok Tryz.prog cfg ∧ CodesOk cfg := ok_of rfl rfl rfl rfl types_all funcs_all funcs_ok mixed
theorem prm0 : PrmOk Tryz.prog cfg0 := fun f p xs r h => by cases h
theorem taken_run : (orcF cfg0 150).clo 90 [.str ⟨takenB.toArray⟩] = some takenW := by kernel_rfl
theorem arith_run : (orcF cfg0 150).clo 90 [.str ⟨arithB.toArray⟩] = some arithW := by kernel_rfl
theorem clo0 {n f : Nat} {xs : List CV} {r : CV} (h : (orcF cfg0 n).clo f xs = some r) : CloC Tryz.prog f xs r ∧ ∀ fn, cfg0.fn f = some fn → resOk cfg0 fn (.c r) = true := by
  rw [orcF_eq] at h
  exact (orc_ok ok0.1 ok0.2 prm0 n).f.clo f xs r h
theorem prm1 : PrmOk Tryz.prog cfg := by
  intro f p xs r hp hx
  have hp : List.lookup f [(90, pTaken)] = some p := hp
  unfold List.lookup at hp
  split at hp
  · rename_i h
    obtain rfl : f = 90 := eq_of_beq h
    injection hp with hp
    subst hp
    unfold pTaken at hx
    split at hx
    · rename_i s
      rcases cond_inv hx with ⟨hs, hx⟩ | ⟨_, hx⟩
      · injection hx with hx
        subst hx
        obtain ⟨⟨l⟩⟩ := s
        have hs : l = takenB := eq_of_beq hs
        subst hs
        exact clo0 taken_run
      · rcases cond_inv hx with ⟨hs, hx⟩ | ⟨_, hx⟩
        · injection hx with hx
          subst hx
          obtain ⟨⟨l⟩⟩ := s
          have hs : l = arithB := eq_of_beq hs
          subst hs
          exact clo0 arith_run
        · cases hx
    · cases hx
  · cases hp
theorem clo1 {n f : Nat} {xs : List CV} {r : CV} (h : (orcF cfg n).clo f xs = some r) : CloC Tryz.prog f xs r := by
  rw [orcF_eq] at h
  exact ev_sound ok1.1 ok1.2 prm1 h
/-- a call's answer is taken from elsewhere -/
def ov (Q : Orc) (g : Nat) (x : Option CV) : Orc := ⟨fun f xs => cond (Nat.beq f g) x (Q.clo f xs), Q.opn, Q.loop⟩
noncomputable def noQ : Orc := ⟨fun _ _ => none, fun _ _ _ => none, fun _ _ _ _ _ _ => none⟩
/-- the code that is left, the state, behind some pieces -/
noncomputable def stP (Q : Orc) (f j : Nat) (p : Code × S) : Code × S := match evPre cfg Q f j p.1 p.2 [] (fun c s _ => some (c, s)) (fun _ _ _ => none) with | some q => q | none => p
theorem within8_run (Q : Orc) (n N : Int) (h : (N == 0) = false) : evBodyF cfg Q 8 [.c (.int .i64 n), .c (.int .i64 N)] [] = ifb (decide (n.tmod N < 0)) (some (.c (.int .i64 (IntKind.i64.wrap (n.tmod N + N))), [])) (some (.c (.int .i64 (n.tmod N)), [])) := by
  have h1 : evBodyF cfg Q 8 [.c (.int .i64 n), .c (.int .i64 N)] [] = chk (!(N == 0)) (ifb (decide (n.tmod N < 0)) (some (.c (.int .i64 (IntKind.i64.wrap (n.tmod N + N))), [])) (some (.c (.int .i64 (n.tmod N)), []))) := by kernel_rfl
  rw [h1, h]
  rfl
theorem within8_is (Q : Orc) (n : Int) (N : Nat) (h0 : 0 < N) (hN : N < 1000) : ∃ k : Fin N, closed (evBodyF cfg Q 8 [.c (.int .i64 n), .c (.int .i64 (N : Int))] []) = some (.int .i64 (k.val : Int)) := by
  have hp : (0 : Int) < (N : Int) := by omega
  have h1 : -(N : Int) < n.tmod N := by have := Int.lt_tmod_of_pos n hp; omega
  have h2 : n.tmod N < N := Int.tmod_lt_of_pos n hp
  have hz : ((N : Int) == 0) = false := by
    rw [beq_eq_false_iff_ne]; omega
  rw [within8_run Q n N hz]
  generalize n.tmod N = m at h1 h2
  by_cases h : m < 0
  · refine ⟨⟨(m + N).toNat, by omega⟩, ?_⟩
    have e : IntKind.i64.wrap (m + N) = (((m + N).toNat : Nat) : Int) := by
      have hw : ∀ j : Nat, j < 1000 → IntKind.i64.wrap (j : Int) = (j : Int) := by decide +kernel
      have e1 : m + (N : Int) = (((m + N).toNat : Nat) : Int) := by omega
      rw [e1]
      exact hw _ (by omega)
    rw [decide_eq_true h, e]
    rfl
  · refine ⟨⟨m.toNat, by omega⟩, ?_⟩
    have e : m = ((m.toNat : Nat) : Int) := by omega
    rw [decide_eq_false h]
    show some (CV.int .i64 m) = some (.int .i64 ((m.toNat : Nat) : Int))
    rw [← e]
theorem within8 (n : Int) (N : Nat) (h0 : 0 < N) (hN : N < 1000) (hp : prmOf cfg 8 [.int .i64 n, .int .i64 (N : Int)] = none) (h2 : cfg.two 8 = false) : ∃ k : Fin N, (orcF cfg 399).clo 8 [.int .i64 n, .int .i64 (N : Int)] = some (.int .i64 (k.val : Int)) := by
  obtain ⟨k, hk⟩ := within8_is (orcF cfg 398) n N h0 hN
  exact ⟨k, clo_of (n := 398) (xs := [.int .i64 n, .int .i64 (N : Int)]) hp h2 hk⟩
theorem within16_run (Q : Orc) (n N : Int) (h : (N == 0) = false) : evBodyF cfg Q 16 [.c (.int .i64 n), .c (.int .i64 N)] [] = ifb (decide (n.tmod N < 0)) (some (.c (.int .i64 (IntKind.i64.wrap (n.tmod N + N))), [])) (some (.c (.int .i64 (n.tmod N)), [])) := by
  have h1 : evBodyF cfg Q 16 [.c (.int .i64 n), .c (.int .i64 N)] [] = chk (!(N == 0)) (ifb (decide (n.tmod N < 0)) (some (.c (.int .i64 (IntKind.i64.wrap (n.tmod N + N))), [])) (some (.c (.int .i64 (n.tmod N)), []))) := by kernel_rfl
  rw [h1, h]
  rfl
theorem within16_is (Q : Orc) (n : Int) (N : Nat) (h0 : 0 < N) (hN : N < 1000) : ∃ k : Fin N, closed (evBodyF cfg Q 16 [.c (.int .i64 n), .c (.int .i64 (N : Int))] []) = some (.int .i64 (k.val : Int)) := by
  have hp : (0 : Int) < (N : Int) := by omega
  have h1 : -(N : Int) < n.tmod N := by have := Int.lt_tmod_of_pos n hp; omega
  have h2 : n.tmod N < N := Int.tmod_lt_of_pos n hp
  have hz : ((N : Int) == 0) = false := by
    rw [beq_eq_false_iff_ne]; omega
  rw [within16_run Q n N hz]
  generalize n.tmod N = m at h1 h2
  by_cases h : m < 0
  · refine ⟨⟨(m + N).toNat, by omega⟩, ?_⟩
    have e : IntKind.i64.wrap (m + N) = (((m + N).toNat : Nat) : Int) := by
      have hw : ∀ j : Nat, j < 1000 → IntKind.i64.wrap (j : Int) = (j : Int) := by decide +kernel
      have e1 : m + (N : Int) = (((m + N).toNat : Nat) : Int) := by omega
      rw [e1]
      exact hw _ (by omega)
    rw [decide_eq_true h, e]
    rfl
  · refine ⟨⟨m.toNat, by omega⟩, ?_⟩
    have e : m = ((m.toNat : Nat) : Int) := by omega
    rw [decide_eq_false h]
    show some (CV.int .i64 m) = some (.int .i64 ((m.toNat : Nat) : Int))
    rw [← e]
theorem within16 (n : Int) (N : Nat) (h0 : 0 < N) (hN : N < 1000) (hp : prmOf cfg 16 [.int .i64 n, .int .i64 (N : Int)] = none) (h2 : cfg.two 16 = false) : ∃ k : Fin N, (orcF cfg 399).clo 16 [.int .i64 n, .int .i64 (N : Int)] = some (.int .i64 (k.val : Int)) := by
  obtain ⟨k, hk⟩ := within16_is (orcF cfg 398) n N h0 hN
  exact ⟨k, clo_of (n := 398) (xs := [.int .i64 n, .int .i64 (N : Int)]) hp h2 hk⟩
theorem known7 : (orcF cfg 399).clo 7 [] = some (.bool true) := by kernel_rfl
theorem known15 : (orcF cfg 399).clo 15 [] = some (.bool true) := by kernel_rfl
end Go.Proofs.YtgmgdijphklogaaGreatDoor
