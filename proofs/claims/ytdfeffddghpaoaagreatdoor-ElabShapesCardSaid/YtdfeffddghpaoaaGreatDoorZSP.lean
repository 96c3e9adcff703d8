/- ElabShapes: the function's pieces, for every two numbers. -/
import Derived.Test.YtdfeffddghpaoaaGreatDoorZ2
set_option linter.unusedVariables false
set_option linter.unusedSectionVars false
set_option linter.unusedSimpArgs false
set_option linter.unnecessarySimpa false
namespace Go.Proofs.YtdfeffddghpaoaaGreatDoor
open Go Go.Ev
noncomputable def body6 : Code := (Tryz.f6.body).getD .skip
noncomputable def p6_0 (n m : Int) : Code × S := (body6, ⟨inArgsF 0 [.c (.int .i64 n), .c (.int .i64 m)], fun _ => none, 0⟩)
noncomputable def p6_2 (n m : Int) : Code × S := stP (ov noQ (some (.bool true)) none none) 6 2 (p6_0 n m)
noncomputable def p6_4 (n m : Int) : Code × S := stP noQ 6 1 (p6_2 n m)
noncomputable def p6_5 (n m k : Int) : Code × S := stP (ov noQ none (some (.int .i64 k)) none) 6 1 (p6_4 n m)
section
variable (Q : Orc) (n m k : Int) (N : Code → S → O → Option (AV × O)) (K : Ex → S → O → Option (AV × O))
theorem at6_2 : evPre cfg Q 6 2 (p6_0 n m).1 (p6_0 n m).2 [] N K = evPre cfg (ov Q (Q.clo 7 []) none none) 6 2 (p6_0 n m).1 (p6_0 n m).2 [] N K := by kernel_rfl
theorem to6_2 : evPre cfg (ov Q (some (.bool true)) none none) 6 2 (p6_0 n m).1 (p6_0 n m).2 [] N K = N (p6_2 n m).1 (p6_2 n m).2 [] := by kernel_rfl
theorem to6_4 : evPre cfg Q 6 1 (p6_2 n m).1 (p6_2 n m).2 [] N K = N (p6_4 n m).1 (p6_4 n m).2 [] := by kernel_rfl
theorem at6_5 : evPre cfg Q 6 1 (p6_4 n m).1 (p6_4 n m).2 [] N K = evPre cfg (ov Q none (Q.clo 8 [.int .i64 n, .int .i64 30]) none) 6 1 (p6_4 n m).1 (p6_4 n m).2 [] N K := by kernel_rfl
/-- the function, from its sixth piece on -/
theorem from6 (hto : ∀ (N : Code → S → O → Option (AV × O)) (K : Ex → S → O → Option (AV × O)), evPre cfg (ov Q none (some (.int .i64 k)) none) 6 1 (p6_4 n m).1 (p6_4 n m).2 [] N K = N (p6_5 n m k).1 (p6_5 n m k).2 []) (h7 : Q.clo 7 [] = some (.bool true)) (h8 : Q.clo 8 [.int .i64 n, .int .i64 30] = some (.int .i64 k)) : evCode cfg Q 6 (p6_0 n m).1 (p6_0 n m).2 [] K = evCode cfg Q 6 (p6_5 n m k).1 (p6_5 n m k).2 [] K := by
  rw [← evPre_eq cfg Q 6 K 2 (p6_0 n m).1, at6_2, h7, to6_2]
  rw [← evPre_eq cfg Q 6 K 1 (p6_2 n m).1, to6_4]
  rw [← evPre_eq cfg Q 6 K 1 (p6_4 n m).1, at6_5, h8, hto]
end
theorem to6_5_0 (Q : Orc) (n m : Int) (N : Code → S → O → Option (AV × O)) (K : Ex → S → O → Option (AV × O)) : evPre cfg (ov Q none (some (.int .i64 0)) none) 6 1 (p6_4 n m).1 (p6_4 n m).2 [] N K = N (p6_5 n m 0).1 (p6_5 n m 0).2 [] := by kernel_rfl
theorem to6_5_1 (Q : Orc) (n m : Int) (N : Code → S → O → Option (AV × O)) (K : Ex → S → O → Option (AV × O)) : evPre cfg (ov Q none (some (.int .i64 1)) none) 6 1 (p6_4 n m).1 (p6_4 n m).2 [] N K = N (p6_5 n m 1).1 (p6_5 n m 1).2 [] := by kernel_rfl
theorem to6_5_2 (Q : Orc) (n m : Int) (N : Code → S → O → Option (AV × O)) (K : Ex → S → O → Option (AV × O)) : evPre cfg (ov Q none (some (.int .i64 2)) none) 6 1 (p6_4 n m).1 (p6_4 n m).2 [] N K = N (p6_5 n m 2).1 (p6_5 n m 2).2 [] := by kernel_rfl
theorem to6_5_3 (Q : Orc) (n m : Int) (N : Code → S → O → Option (AV × O)) (K : Ex → S → O → Option (AV × O)) : evPre cfg (ov Q none (some (.int .i64 3)) none) 6 1 (p6_4 n m).1 (p6_4 n m).2 [] N K = N (p6_5 n m 3).1 (p6_5 n m 3).2 [] := by kernel_rfl
theorem to6_5_4 (Q : Orc) (n m : Int) (N : Code → S → O → Option (AV × O)) (K : Ex → S → O → Option (AV × O)) : evPre cfg (ov Q none (some (.int .i64 4)) none) 6 1 (p6_4 n m).1 (p6_4 n m).2 [] N K = N (p6_5 n m 4).1 (p6_5 n m 4).2 [] := by kernel_rfl
theorem to6_5_5 (Q : Orc) (n m : Int) (N : Code → S → O → Option (AV × O)) (K : Ex → S → O → Option (AV × O)) : evPre cfg (ov Q none (some (.int .i64 5)) none) 6 1 (p6_4 n m).1 (p6_4 n m).2 [] N K = N (p6_5 n m 5).1 (p6_5 n m 5).2 [] := by kernel_rfl
theorem to6_5_6 (Q : Orc) (n m : Int) (N : Code → S → O → Option (AV × O)) (K : Ex → S → O → Option (AV × O)) : evPre cfg (ov Q none (some (.int .i64 6)) none) 6 1 (p6_4 n m).1 (p6_4 n m).2 [] N K = N (p6_5 n m 6).1 (p6_5 n m 6).2 [] := by kernel_rfl
theorem to6_5_7 (Q : Orc) (n m : Int) (N : Code → S → O → Option (AV × O)) (K : Ex → S → O → Option (AV × O)) : evPre cfg (ov Q none (some (.int .i64 7)) none) 6 1 (p6_4 n m).1 (p6_4 n m).2 [] N K = N (p6_5 n m 7).1 (p6_5 n m 7).2 [] := by kernel_rfl
theorem to6_5_8 (Q : Orc) (n m : Int) (N : Code → S → O → Option (AV × O)) (K : Ex → S → O → Option (AV × O)) : evPre cfg (ov Q none (some (.int .i64 8)) none) 6 1 (p6_4 n m).1 (p6_4 n m).2 [] N K = N (p6_5 n m 8).1 (p6_5 n m 8).2 [] := by kernel_rfl
theorem to6_5_9 (Q : Orc) (n m : Int) (N : Code → S → O → Option (AV × O)) (K : Ex → S → O → Option (AV × O)) : evPre cfg (ov Q none (some (.int .i64 9)) none) 6 1 (p6_4 n m).1 (p6_4 n m).2 [] N K = N (p6_5 n m 9).1 (p6_5 n m 9).2 [] := by kernel_rfl
theorem to6_5_10 (Q : Orc) (n m : Int) (N : Code → S → O → Option (AV × O)) (K : Ex → S → O → Option (AV × O)) : evPre cfg (ov Q none (some (.int .i64 10)) none) 6 1 (p6_4 n m).1 (p6_4 n m).2 [] N K = N (p6_5 n m 10).1 (p6_5 n m 10).2 [] := by kernel_rfl
theorem to6_5_11 (Q : Orc) (n m : Int) (N : Code → S → O → Option (AV × O)) (K : Ex → S → O → Option (AV × O)) : evPre cfg (ov Q none (some (.int .i64 11)) none) 6 1 (p6_4 n m).1 (p6_4 n m).2 [] N K = N (p6_5 n m 11).1 (p6_5 n m 11).2 [] := by kernel_rfl
theorem to6_5_12 (Q : Orc) (n m : Int) (N : Code → S → O → Option (AV × O)) (K : Ex → S → O → Option (AV × O)) : evPre cfg (ov Q none (some (.int .i64 12)) none) 6 1 (p6_4 n m).1 (p6_4 n m).2 [] N K = N (p6_5 n m 12).1 (p6_5 n m 12).2 [] := by kernel_rfl
theorem to6_5_13 (Q : Orc) (n m : Int) (N : Code → S → O → Option (AV × O)) (K : Ex → S → O → Option (AV × O)) : evPre cfg (ov Q none (some (.int .i64 13)) none) 6 1 (p6_4 n m).1 (p6_4 n m).2 [] N K = N (p6_5 n m 13).1 (p6_5 n m 13).2 [] := by kernel_rfl
theorem to6_5_14 (Q : Orc) (n m : Int) (N : Code → S → O → Option (AV × O)) (K : Ex → S → O → Option (AV × O)) : evPre cfg (ov Q none (some (.int .i64 14)) none) 6 1 (p6_4 n m).1 (p6_4 n m).2 [] N K = N (p6_5 n m 14).1 (p6_5 n m 14).2 [] := by kernel_rfl
theorem to6_5_15 (Q : Orc) (n m : Int) (N : Code → S → O → Option (AV × O)) (K : Ex → S → O → Option (AV × O)) : evPre cfg (ov Q none (some (.int .i64 15)) none) 6 1 (p6_4 n m).1 (p6_4 n m).2 [] N K = N (p6_5 n m 15).1 (p6_5 n m 15).2 [] := by kernel_rfl
theorem to6_5_16 (Q : Orc) (n m : Int) (N : Code → S → O → Option (AV × O)) (K : Ex → S → O → Option (AV × O)) : evPre cfg (ov Q none (some (.int .i64 16)) none) 6 1 (p6_4 n m).1 (p6_4 n m).2 [] N K = N (p6_5 n m 16).1 (p6_5 n m 16).2 [] := by kernel_rfl
theorem to6_5_17 (Q : Orc) (n m : Int) (N : Code → S → O → Option (AV × O)) (K : Ex → S → O → Option (AV × O)) : evPre cfg (ov Q none (some (.int .i64 17)) none) 6 1 (p6_4 n m).1 (p6_4 n m).2 [] N K = N (p6_5 n m 17).1 (p6_5 n m 17).2 [] := by kernel_rfl
theorem to6_5_18 (Q : Orc) (n m : Int) (N : Code → S → O → Option (AV × O)) (K : Ex → S → O → Option (AV × O)) : evPre cfg (ov Q none (some (.int .i64 18)) none) 6 1 (p6_4 n m).1 (p6_4 n m).2 [] N K = N (p6_5 n m 18).1 (p6_5 n m 18).2 [] := by kernel_rfl
theorem to6_5_19 (Q : Orc) (n m : Int) (N : Code → S → O → Option (AV × O)) (K : Ex → S → O → Option (AV × O)) : evPre cfg (ov Q none (some (.int .i64 19)) none) 6 1 (p6_4 n m).1 (p6_4 n m).2 [] N K = N (p6_5 n m 19).1 (p6_5 n m 19).2 [] := by kernel_rfl
theorem to6_5_20 (Q : Orc) (n m : Int) (N : Code → S → O → Option (AV × O)) (K : Ex → S → O → Option (AV × O)) : evPre cfg (ov Q none (some (.int .i64 20)) none) 6 1 (p6_4 n m).1 (p6_4 n m).2 [] N K = N (p6_5 n m 20).1 (p6_5 n m 20).2 [] := by kernel_rfl
theorem to6_5_21 (Q : Orc) (n m : Int) (N : Code → S → O → Option (AV × O)) (K : Ex → S → O → Option (AV × O)) : evPre cfg (ov Q none (some (.int .i64 21)) none) 6 1 (p6_4 n m).1 (p6_4 n m).2 [] N K = N (p6_5 n m 21).1 (p6_5 n m 21).2 [] := by kernel_rfl
theorem to6_5_22 (Q : Orc) (n m : Int) (N : Code → S → O → Option (AV × O)) (K : Ex → S → O → Option (AV × O)) : evPre cfg (ov Q none (some (.int .i64 22)) none) 6 1 (p6_4 n m).1 (p6_4 n m).2 [] N K = N (p6_5 n m 22).1 (p6_5 n m 22).2 [] := by kernel_rfl
theorem to6_5_23 (Q : Orc) (n m : Int) (N : Code → S → O → Option (AV × O)) (K : Ex → S → O → Option (AV × O)) : evPre cfg (ov Q none (some (.int .i64 23)) none) 6 1 (p6_4 n m).1 (p6_4 n m).2 [] N K = N (p6_5 n m 23).1 (p6_5 n m 23).2 [] := by kernel_rfl
theorem to6_5_24 (Q : Orc) (n m : Int) (N : Code → S → O → Option (AV × O)) (K : Ex → S → O → Option (AV × O)) : evPre cfg (ov Q none (some (.int .i64 24)) none) 6 1 (p6_4 n m).1 (p6_4 n m).2 [] N K = N (p6_5 n m 24).1 (p6_5 n m 24).2 [] := by kernel_rfl
theorem to6_5_25 (Q : Orc) (n m : Int) (N : Code → S → O → Option (AV × O)) (K : Ex → S → O → Option (AV × O)) : evPre cfg (ov Q none (some (.int .i64 25)) none) 6 1 (p6_4 n m).1 (p6_4 n m).2 [] N K = N (p6_5 n m 25).1 (p6_5 n m 25).2 [] := by kernel_rfl
theorem to6_5_26 (Q : Orc) (n m : Int) (N : Code → S → O → Option (AV × O)) (K : Ex → S → O → Option (AV × O)) : evPre cfg (ov Q none (some (.int .i64 26)) none) 6 1 (p6_4 n m).1 (p6_4 n m).2 [] N K = N (p6_5 n m 26).1 (p6_5 n m 26).2 [] := by kernel_rfl
theorem to6_5_27 (Q : Orc) (n m : Int) (N : Code → S → O → Option (AV × O)) (K : Ex → S → O → Option (AV × O)) : evPre cfg (ov Q none (some (.int .i64 27)) none) 6 1 (p6_4 n m).1 (p6_4 n m).2 [] N K = N (p6_5 n m 27).1 (p6_5 n m 27).2 [] := by kernel_rfl
theorem to6_5_28 (Q : Orc) (n m : Int) (N : Code → S → O → Option (AV × O)) (K : Ex → S → O → Option (AV × O)) : evPre cfg (ov Q none (some (.int .i64 28)) none) 6 1 (p6_4 n m).1 (p6_4 n m).2 [] N K = N (p6_5 n m 28).1 (p6_5 n m 28).2 [] := by kernel_rfl
theorem to6_5_29 (Q : Orc) (n m : Int) (N : Code → S → O → Option (AV × O)) (K : Ex → S → O → Option (AV × O)) : evPre cfg (ov Q none (some (.int .i64 29)) none) 6 1 (p6_4 n m).1 (p6_4 n m).2 [] N K = N (p6_5 n m 29).1 (p6_5 n m 29).2 [] := by kernel_rfl
noncomputable def p6_8 (n m k : Int) : Code × S := stP (orcF cfg 399) 6 3 (p6_5 n m k)
theorem upd_self {α : Type} {f : Nat → Option α} {t : Nat} {x : α} (h : f t = some x) : upd f t x = f := by
  funext u
  rw [upd_env]
  by_cases e : u = t
  · rw [if_pos e, e, h]
  · rw [if_neg e]
/-- only these three slots, and the list, are read by what is left -/
noncomputable def slim (s : S) (m : Int) (l : List CV) : S := ⟨upd (upd (upd s.env 1 (.c (.int .i64 m))) 10 (.c (.int .i64 7))) 11 (.sl 50), upd s.own 50 (.lst 1 l), s.gen⟩
theorem slim_is {s : S} {m : Int} {l : List CV} (h : (s.env 1, s.env 10, s.env 11, s.own 50) = (some (.c (.int .i64 m)), some (.c (.int .i64 7)), some (.sl 50), some (.lst 1 l))) : slim s m l = s := by
  injection h with h1 h; injection h with h2 h; injection h with h3 h4
  unfold slim
  rw [upd_self h1, upd_self h2, upd_self h3, upd_self h4]
def dropP : Nat → Code → Code
  | n + 1, .seq _ b => dropP n b
  | _, c => c
noncomputable def code6 : Code := dropP 7 body6
/-- within, told are taken from elsewhere -/
def ov8 (Q : Orc) (y : Option CV) : Orc := ⟨fun f xs => match f with | 8 => y | f => Q.clo f xs, Q.opn, Q.loop⟩
def ov9 (Q : Orc) (z : Option CV) : Orc := ⟨fun f xs => match f with | 9 => z | f => Q.clo f xs, Q.opn, Q.loop⟩
noncomputable def last6 (Q : Orc) (s : S) (m : Int) (l : List CV) : Option CV := closed (evCodeF cfg Q 6 code6 (slim s m l) [] (kBody cfg 6 0 Tryz.f6))
/-- the last region, its operations in three parts -/
noncomputable def ops8 : Array Oper := match code6 with | .seq (.region _ o _) _ => o | _ => #[]
theorem code6_is : code6 = .seq (.region 8 ops8 false) .ret := by kernel_rfl
theorem ch8 : chOf cfg 6 (.region 8 ops8 false) = none := by kernel_rfl
noncomputable def ts8 : List Nat := (cfg.join 6 8).getD []
theorem join8 : cfg.join 6 8 = some ts8 := by kernel_rfl
noncomputable def opsA : List Oper := ops8.toList.take 5
noncomputable def opsB : List Oper := (ops8.toList.drop 5).take 3
noncomputable def opsC : List Oper := (ops8.toList.drop 5).drop 3
noncomputable def stO (Q : Orc) (l : List Oper) (p : S × List Log) : S × List Log := match evOps cfg Q (cfg.nily 6) ops8.toList l p.1 [] p.2 (fun s _ l => some (s, l)) with | some q => q | none => p
noncomputable def q0 (s : S) (m : Int) (l : List CV) : S × List Log := (slim s m l, [])
noncomputable def qA (s : S) (m : Int) (l : List CV) (j : Int) : S × List Log := stO (ov8 noQ (some (.int .i64 j))) opsA (q0 s m l)
noncomputable def qB (s : S) (m : Int) (l : List CV) (j : Int) : S × List Log := stO (ov9 noQ (some (.str ⟨#[102, 111, 114, 109]⟩))) opsB (qA s m l j)
noncomputable def fin8 (s' : S) (_ : O) (logs : List Log) : Option (List CV) := chk (slotsOnly logs) (logOk false ops8 logs (cvs s' ts8))
noncomputable def end8 (Q : Orc) (s' : S) (x : Option (List CV)) : Option (AV × O) := match x with | some xs => evCode cfg Q 6 .ret (putCs (s'.del ops8.toList) ts8 xs) [] (kBody cfg 6 0 Tryz.f6) | none => none
theorem cut8 (Q : Orc) (s : S) (m : Int) (l : List CV) : last6 Q s m l = closed (end8 Q (slim s m l) (evOps cfg Q (cfg.nily 6) ops8.toList opsA (slim s m l) [] [] fun s w logs => evOps cfg Q (cfg.nily 6) ops8.toList opsB s w logs fun s w logs => evOps cfg Q (cfg.nily 6) ops8.toList opsC s w logs fin8)) := by
  unfold last6
  rw [evCodeF_eq, code6_is, evCode_region ch8]
  unfold evRegion
  rw [join8]
  dsimp only
  rw [evOps_cut cfg Q _ _ _ 5]
  have e : (fun (s : S) (w : O) (logs : List Log) => evOps cfg Q (cfg.nily 6) ops8.toList (ops8.toList.drop 5) s w logs fin8) = fun s w logs => evOps cfg Q (cfg.nily 6) ops8.toList opsB s w logs fun s w logs => evOps cfg Q (cfg.nily 6) ops8.toList opsC s w logs fin8 := by
    funext s w logs
    exact evOps_cut cfg Q _ _ _ 3 _ s w logs
  rw [← e]
  unfold end8 opsA fin8
  rfl
section
variable (Q : Orc) (s : S) (m : Int) (b0 b1 b2 b3 b4 b5 : ByteArray) (N : S → O → List Log → Option (List CV))
theorem atA : evOps cfg Q (cfg.nily 6) ops8.toList opsA (slim s m [.str b0, .str b1, .str b2, .str b3, .str b4, .str b5]) [] [] N = evOps cfg (ov8 Q (Q.clo 8 [.int .i64 m, .int .i64 6])) (cfg.nily 6) ops8.toList opsA (slim s m [.str b0, .str b1, .str b2, .str b3, .str b4, .str b5]) [] [] N := by kernel_rfl
theorem toA (j : Int) : evOps cfg (ov8 Q (some (.int .i64 j))) (cfg.nily 6) ops8.toList opsA (slim s m [.str b0, .str b1, .str b2, .str b3, .str b4, .str b5]) [] [] N = N (qA s m [.str b0, .str b1, .str b2, .str b3, .str b4, .str b5] j).1 [] (qA s m [.str b0, .str b1, .str b2, .str b3, .str b4, .str b5] j).2 := by kernel_rfl
theorem atB0 : evOps cfg Q (cfg.nily 6) ops8.toList opsB (qA s m [.str b0, .str b1, .str b2, .str b3, .str b4, .str b5] 0).1 [] (qA s m [.str b0, .str b1, .str b2, .str b3, .str b4, .str b5] 0).2 N = evOps cfg (ov9 Q (Q.clo 9 [.str b0])) (cfg.nily 6) ops8.toList opsB (qA s m [.str b0, .str b1, .str b2, .str b3, .str b4, .str b5] 0).1 [] (qA s m [.str b0, .str b1, .str b2, .str b3, .str b4, .str b5] 0).2 N := by kernel_rfl
theorem toB0 : evOps cfg (ov9 Q (some (.str ⟨#[102, 111, 114, 109]⟩))) (cfg.nily 6) ops8.toList opsB (qA s m [.str b0, .str b1, .str b2, .str b3, .str b4, .str b5] 0).1 [] (qA s m [.str b0, .str b1, .str b2, .str b3, .str b4, .str b5] 0).2 N = N (qB s m [.str b0, .str b1, .str b2, .str b3, .str b4, .str b5] 0).1 [] (qB s m [.str b0, .str b1, .str b2, .str b3, .str b4, .str b5] 0).2 := by kernel_rfl
theorem toC0 : closed (end8 Q (slim s m [.str b0, .str b1, .str b2, .str b3, .str b4, .str b5]) (evOps cfg Q (cfg.nily 6) ops8.toList opsC (qB s m [.str b0, .str b1, .str b2, .str b3, .str b4, .str b5] 0).1 [] (qB s m [.str b0, .str b1, .str b2, .str b3, .str b4, .str b5] 0).2 fin8)) = some (.bool true) := by kernel_rfl
theorem atB1 : evOps cfg Q (cfg.nily 6) ops8.toList opsB (qA s m [.str b0, .str b1, .str b2, .str b3, .str b4, .str b5] 1).1 [] (qA s m [.str b0, .str b1, .str b2, .str b3, .str b4, .str b5] 1).2 N = evOps cfg (ov9 Q (Q.clo 9 [.str b1])) (cfg.nily 6) ops8.toList opsB (qA s m [.str b0, .str b1, .str b2, .str b3, .str b4, .str b5] 1).1 [] (qA s m [.str b0, .str b1, .str b2, .str b3, .str b4, .str b5] 1).2 N := by kernel_rfl
theorem toB1 : evOps cfg (ov9 Q (some (.str ⟨#[102, 111, 114, 109]⟩))) (cfg.nily 6) ops8.toList opsB (qA s m [.str b0, .str b1, .str b2, .str b3, .str b4, .str b5] 1).1 [] (qA s m [.str b0, .str b1, .str b2, .str b3, .str b4, .str b5] 1).2 N = N (qB s m [.str b0, .str b1, .str b2, .str b3, .str b4, .str b5] 1).1 [] (qB s m [.str b0, .str b1, .str b2, .str b3, .str b4, .str b5] 1).2 := by kernel_rfl
theorem toC1 : closed (end8 Q (slim s m [.str b0, .str b1, .str b2, .str b3, .str b4, .str b5]) (evOps cfg Q (cfg.nily 6) ops8.toList opsC (qB s m [.str b0, .str b1, .str b2, .str b3, .str b4, .str b5] 1).1 [] (qB s m [.str b0, .str b1, .str b2, .str b3, .str b4, .str b5] 1).2 fin8)) = some (.bool true) := by kernel_rfl
theorem atB2 : evOps cfg Q (cfg.nily 6) ops8.toList opsB (qA s m [.str b0, .str b1, .str b2, .str b3, .str b4, .str b5] 2).1 [] (qA s m [.str b0, .str b1, .str b2, .str b3, .str b4, .str b5] 2).2 N = evOps cfg (ov9 Q (Q.clo 9 [.str b2])) (cfg.nily 6) ops8.toList opsB (qA s m [.str b0, .str b1, .str b2, .str b3, .str b4, .str b5] 2).1 [] (qA s m [.str b0, .str b1, .str b2, .str b3, .str b4, .str b5] 2).2 N := by kernel_rfl
theorem toB2 : evOps cfg (ov9 Q (some (.str ⟨#[102, 111, 114, 109]⟩))) (cfg.nily 6) ops8.toList opsB (qA s m [.str b0, .str b1, .str b2, .str b3, .str b4, .str b5] 2).1 [] (qA s m [.str b0, .str b1, .str b2, .str b3, .str b4, .str b5] 2).2 N = N (qB s m [.str b0, .str b1, .str b2, .str b3, .str b4, .str b5] 2).1 [] (qB s m [.str b0, .str b1, .str b2, .str b3, .str b4, .str b5] 2).2 := by kernel_rfl
theorem toC2 : closed (end8 Q (slim s m [.str b0, .str b1, .str b2, .str b3, .str b4, .str b5]) (evOps cfg Q (cfg.nily 6) ops8.toList opsC (qB s m [.str b0, .str b1, .str b2, .str b3, .str b4, .str b5] 2).1 [] (qB s m [.str b0, .str b1, .str b2, .str b3, .str b4, .str b5] 2).2 fin8)) = some (.bool true) := by kernel_rfl
theorem atB3 : evOps cfg Q (cfg.nily 6) ops8.toList opsB (qA s m [.str b0, .str b1, .str b2, .str b3, .str b4, .str b5] 3).1 [] (qA s m [.str b0, .str b1, .str b2, .str b3, .str b4, .str b5] 3).2 N = evOps cfg (ov9 Q (Q.clo 9 [.str b3])) (cfg.nily 6) ops8.toList opsB (qA s m [.str b0, .str b1, .str b2, .str b3, .str b4, .str b5] 3).1 [] (qA s m [.str b0, .str b1, .str b2, .str b3, .str b4, .str b5] 3).2 N := by kernel_rfl
theorem toB3 : evOps cfg (ov9 Q (some (.str ⟨#[102, 111, 114, 109]⟩))) (cfg.nily 6) ops8.toList opsB (qA s m [.str b0, .str b1, .str b2, .str b3, .str b4, .str b5] 3).1 [] (qA s m [.str b0, .str b1, .str b2, .str b3, .str b4, .str b5] 3).2 N = N (qB s m [.str b0, .str b1, .str b2, .str b3, .str b4, .str b5] 3).1 [] (qB s m [.str b0, .str b1, .str b2, .str b3, .str b4, .str b5] 3).2 := by kernel_rfl
theorem toC3 : closed (end8 Q (slim s m [.str b0, .str b1, .str b2, .str b3, .str b4, .str b5]) (evOps cfg Q (cfg.nily 6) ops8.toList opsC (qB s m [.str b0, .str b1, .str b2, .str b3, .str b4, .str b5] 3).1 [] (qB s m [.str b0, .str b1, .str b2, .str b3, .str b4, .str b5] 3).2 fin8)) = some (.bool true) := by kernel_rfl
theorem atB4 : evOps cfg Q (cfg.nily 6) ops8.toList opsB (qA s m [.str b0, .str b1, .str b2, .str b3, .str b4, .str b5] 4).1 [] (qA s m [.str b0, .str b1, .str b2, .str b3, .str b4, .str b5] 4).2 N = evOps cfg (ov9 Q (Q.clo 9 [.str b4])) (cfg.nily 6) ops8.toList opsB (qA s m [.str b0, .str b1, .str b2, .str b3, .str b4, .str b5] 4).1 [] (qA s m [.str b0, .str b1, .str b2, .str b3, .str b4, .str b5] 4).2 N := by kernel_rfl
theorem toB4 : evOps cfg (ov9 Q (some (.str ⟨#[102, 111, 114, 109]⟩))) (cfg.nily 6) ops8.toList opsB (qA s m [.str b0, .str b1, .str b2, .str b3, .str b4, .str b5] 4).1 [] (qA s m [.str b0, .str b1, .str b2, .str b3, .str b4, .str b5] 4).2 N = N (qB s m [.str b0, .str b1, .str b2, .str b3, .str b4, .str b5] 4).1 [] (qB s m [.str b0, .str b1, .str b2, .str b3, .str b4, .str b5] 4).2 := by kernel_rfl
theorem toC4 : closed (end8 Q (slim s m [.str b0, .str b1, .str b2, .str b3, .str b4, .str b5]) (evOps cfg Q (cfg.nily 6) ops8.toList opsC (qB s m [.str b0, .str b1, .str b2, .str b3, .str b4, .str b5] 4).1 [] (qB s m [.str b0, .str b1, .str b2, .str b3, .str b4, .str b5] 4).2 fin8)) = some (.bool true) := by kernel_rfl
theorem atB5 : evOps cfg Q (cfg.nily 6) ops8.toList opsB (qA s m [.str b0, .str b1, .str b2, .str b3, .str b4, .str b5] 5).1 [] (qA s m [.str b0, .str b1, .str b2, .str b3, .str b4, .str b5] 5).2 N = evOps cfg (ov9 Q (Q.clo 9 [.str b5])) (cfg.nily 6) ops8.toList opsB (qA s m [.str b0, .str b1, .str b2, .str b3, .str b4, .str b5] 5).1 [] (qA s m [.str b0, .str b1, .str b2, .str b3, .str b4, .str b5] 5).2 N := by kernel_rfl
theorem toB5 : evOps cfg (ov9 Q (some (.str ⟨#[102, 111, 114, 109]⟩))) (cfg.nily 6) ops8.toList opsB (qA s m [.str b0, .str b1, .str b2, .str b3, .str b4, .str b5] 5).1 [] (qA s m [.str b0, .str b1, .str b2, .str b3, .str b4, .str b5] 5).2 N = N (qB s m [.str b0, .str b1, .str b2, .str b3, .str b4, .str b5] 5).1 [] (qB s m [.str b0, .str b1, .str b2, .str b3, .str b4, .str b5] 5).2 := by kernel_rfl
theorem toC5 : closed (end8 Q (slim s m [.str b0, .str b1, .str b2, .str b3, .str b4, .str b5]) (evOps cfg Q (cfg.nily 6) ops8.toList opsC (qB s m [.str b0, .str b1, .str b2, .str b3, .str b4, .str b5] 5).1 [] (qB s m [.str b0, .str b1, .str b2, .str b3, .str b4, .str b5] 5).2 fin8)) = some (.bool true) := by kernel_rfl
end
theorem all6 {Q : Orc} {s : S} {m : Int} {b0 b1 b2 b3 b4 b5 : ByteArray} (h0 : Q.clo 9 [.str b0] = some (.str ⟨#[102, 111, 114, 109]⟩)) (h1 : Q.clo 9 [.str b1] = some (.str ⟨#[102, 111, 114, 109]⟩)) (h2 : Q.clo 9 [.str b2] = some (.str ⟨#[102, 111, 114, 109]⟩)) (h3 : Q.clo 9 [.str b3] = some (.str ⟨#[102, 111, 114, 109]⟩)) (h4 : Q.clo 9 [.str b4] = some (.str ⟨#[102, 111, 114, 109]⟩)) (h5 : Q.clo 9 [.str b5] = some (.str ⟨#[102, 111, 114, 109]⟩))
    (j : Fin 6) (hj : Q.clo 8 [.int .i64 m, .int .i64 6] = some (.int .i64 (j.val : Int))) : last6 Q s m [.str b0, .str b1, .str b2, .str b3, .str b4, .str b5] = some (.bool true) := by
  rw [cut8, atA, hj, toA]
  match j with
  | ⟨0, _⟩ =>
    dsimp only
    refine Eq.trans ?_ (toC0 Q s m b0 b1 b2 b3 b4 b5)
    refine congrArg (fun x => closed (end8 Q _ x)) ?_
    refine (atB0 Q s m b0 b1 b2 b3 b4 b5 _).trans ?_
    rw [h0]
    exact toB0 Q s m b0 b1 b2 b3 b4 b5 _
  | ⟨1, _⟩ =>
    dsimp only
    refine Eq.trans ?_ (toC1 Q s m b0 b1 b2 b3 b4 b5)
    refine congrArg (fun x => closed (end8 Q _ x)) ?_
    refine (atB1 Q s m b0 b1 b2 b3 b4 b5 _).trans ?_
    rw [h1]
    exact toB1 Q s m b0 b1 b2 b3 b4 b5 _
  | ⟨2, _⟩ =>
    dsimp only
    refine Eq.trans ?_ (toC2 Q s m b0 b1 b2 b3 b4 b5)
    refine congrArg (fun x => closed (end8 Q _ x)) ?_
    refine (atB2 Q s m b0 b1 b2 b3 b4 b5 _).trans ?_
    rw [h2]
    exact toB2 Q s m b0 b1 b2 b3 b4 b5 _
  | ⟨3, _⟩ =>
    dsimp only
    refine Eq.trans ?_ (toC3 Q s m b0 b1 b2 b3 b4 b5)
    refine congrArg (fun x => closed (end8 Q _ x)) ?_
    refine (atB3 Q s m b0 b1 b2 b3 b4 b5 _).trans ?_
    rw [h3]
    exact toB3 Q s m b0 b1 b2 b3 b4 b5 _
  | ⟨4, _⟩ =>
    dsimp only
    refine Eq.trans ?_ (toC4 Q s m b0 b1 b2 b3 b4 b5)
    refine congrArg (fun x => closed (end8 Q _ x)) ?_
    refine (atB4 Q s m b0 b1 b2 b3 b4 b5 _).trans ?_
    rw [h4]
    exact toB4 Q s m b0 b1 b2 b3 b4 b5 _
  | ⟨5, _⟩ =>
    dsimp only
    refine Eq.trans ?_ (toC5 Q s m b0 b1 b2 b3 b4 b5)
    refine congrArg (fun x => closed (end8 Q _ x)) ?_
    refine (atB5 Q s m b0 b1 b2 b3 b4 b5 _).trans ?_
    rw [h5]
    exact toB5 Q s m b0 b1 b2 b3 b4 b5 _
  | ⟨j + 6, h⟩ => exact absurd h (by omega)
end Go.Proofs.YtdfeffddghpaoaaGreatDoor
