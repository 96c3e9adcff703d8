/- All that is known of calls; the common beginnings: known(), within(n, N). -/
import Derived.Test.YtmhemnlcgjebkaaGreatDoorUMS
import Derived.Test.YtmhemnlcgjebkaaGreatDoorEvE
set_option linter.unusedVariables false
set_option linter.unusedSectionVars false
set_option linter.unusedSimpArgs false
set_option linter.unnecessarySimpa false
namespace Go.Proofs.YtmhemnlcgjebkaaGreatDoor
open Go Go.Ev
theorem clo1 {n f : Nat} {xs : List CV} {r : CV} (h : (orcF cfg n).clo f xs = some r) : CloC Tryz.prog f xs r := by
  rw [orcF_eq] at h
  exact ev_sound ok1.1 ok1.2 prm1 h
/-- a call's answer is taken from elsewhere -/
def ov (Q : Orc) (g : Nat) (x : Option CV) : Orc := ⟨fun f xs => cond (Nat.beq f g) x (Q.clo f xs), Q.opn, Q.loop⟩
noncomputable def noQ : Orc := ⟨fun _ _ => none, fun _ _ _ => none, fun _ _ _ _ _ _ => none⟩
/-- the code that is left, the state, behind some pieces -/
noncomputable def stP (Q : Orc) (f j : Nat) (p : Code × S) : Code × S := match evPre cfg Q f j p.1 p.2 [] (fun c s _ => some (c, s)) (fun _ _ _ => none) with | some q => q | none => p
theorem within5_run (Q : Orc) (n N : Int) (h : (N == 0) = false) : evBodyF cfg Q 5 [.c (.int .i64 n), .c (.int .i64 N)] [] = ifb (ltI (n.tmod N) 0) (some (.c (.int .i64 (IntKind.i64.wrap (n.tmod N + N))), [])) (some (.c (.int .i64 (n.tmod N)), [])) := by
  have h1 : evBodyF cfg Q 5 [.c (.int .i64 n), .c (.int .i64 N)] [] = chk (!(N == 0)) (ifb (ltI (n.tmod N) 0) (some (.c (.int .i64 (IntKind.i64.wrap (n.tmod N + N))), [])) (some (.c (.int .i64 (n.tmod N)), []))) := by kernel_rfl
  rw [h1, h]
  rfl
theorem within5_is (Q : Orc) (n : Int) (N : Nat) (h0 : 0 < N) (hN : N < 1001) : ∃ k : Fin N, closed (evBodyF cfg Q 5 [.c (.int .i64 n), .c (.int .i64 (N : Int))] []) = some (.int .i64 (k.val : Int)) := by
  have hp : (0 : Int) < (N : Int) := by omega
  have h1 : -(N : Int) < n.tmod N := by have := Int.lt_tmod_of_pos n hp; omega
  have h2 : n.tmod N < N := Int.tmod_lt_of_pos n hp
  have hz : ((N : Int) == 0) = false := by
    rw [beq_eq_false_iff_ne]; omega
  rw [within5_run Q n N hz, ltI_eq]
  generalize n.tmod N = m at h1 h2
  by_cases h : m < 0
  · refine ⟨⟨(m + N).toNat, by omega⟩, ?_⟩
    have e : IntKind.i64.wrap (m + N) = (((m + N).toNat : Nat) : Int) := by
      have hw : ∀ j : Nat, j < 1001 → IntKind.i64.wrap (j : Int) = (j : Int) := by decide +kernel
      have e1 : m + (N : Int) = (((m + N).toNat : Nat) : Int) := by omega
      rw [e1]
      exact hw _ (by omega)
    rw [decide_eq_true h, e]
    rfl
  · refine ⟨⟨m.toNat, by omega⟩, ?_⟩
    have e : m = ((m.toNat : Nat) : Int) := by omega
    rw [decide_eq_false h]
    show some (CV.int .i64 m) = some (.int .i64 ((m.toNat : Nat) : Int))
    rw [← e]
theorem within5 (n : Int) (N : Nat) (h0 : 0 < N) (hN : N < 1001) (hp : prmOf cfg 5 [.int .i64 n, .int .i64 (N : Int)] = none) (h2 : cfg.two 5 = false) : ∃ k : Fin N, (orcF cfg 399).clo 5 [.int .i64 n, .int .i64 (N : Int)] = some (.int .i64 (k.val : Int)) := by
  obtain ⟨k, hk⟩ := within5_is (orcF cfg 398) n N h0 hN
  exact ⟨k, clo_of (n := 398) (xs := [.int .i64 n, .int .i64 (N : Int)]) hp h2 hk⟩
theorem known4 : (orcF cfg 399).clo 4 [] = some (.bool true) := by kernel_rfl
end Go.Proofs.YtmhemnlcgjebkaaGreatDoor
