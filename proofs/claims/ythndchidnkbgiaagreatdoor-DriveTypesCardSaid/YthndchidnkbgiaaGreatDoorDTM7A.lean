/- Calls of stage 7. -/
import Derived.Test.YthndchidnkbgiaaGreatDoorDTM5A
import Derived.Test.YthndchidnkbgiaaGreatDoorEvD
set_option linter.unusedVariables false
set_option linter.unusedSectionVars false
set_option linter.unusedSimpArgs false
set_option linter.unnecessarySimpa false
namespace Go.Proofs.YthndchidnkbgiaaGreatDoor
open Go Go.Ev
theorem q4201 : Known 33 x4201 y4201 := knownT all6 (n := 399) (by kernel_rfl)
theorem q4925 : Known 33 x4925 y4925 := knownT all6 (n := 399) (by kernel_rfl)
theorem q5660 : Known 33 x5660 y5660 := knownT all6 (n := 399) (by kernel_rfl)
end Go.Proofs.YthndchidnkbgiaaGreatDoor
/- The calls that are known by stage 7. -/
namespace Go.Proofs.YthndchidnkbgiaaGreatDoor
open Go Go.Ev
noncomputable def t7 : MT := [(158, [(x65, y65), (x972, y972)]),
  (111, [(x80, y80), (x812, y812), (x814, y814), (x820, y820), (x828, y828), (x839, y839), (x843, y843), (x848, y848), (x866, y866), (x868, y868), (x873, y873), (x875, y875), (x898, y898)]),
  (4, [(x141, y141)]),
  (39, [(x712, y712), (x2697, y2697), (x3393, y3393), (x4104, y4104), (x4828, y4828), (x5563, y5563)]),
  (23, [(x742, y742), (x2701, y2701), (x3397, y3397), (x4108, y4108), (x4832, y4832), (x5567, y5567)]),
  (45, [(x761, y761), (x788, y788)]),
  (47, [(x947, y947), (x2713, y2713), (x3411, y3411), (x4122, y4122), (x4846, y4846), (x5581, y5581)]),
  (75, [(x1007, y1007), (x1335, y1335), (x5634, y5634)]),
  (56, [(x1019, y1019), (x1359, y1359), (x1466, y1466), (x1476, y1476), (x1553, y1553), (x1608, y1608), (x1657, y1657), (x1716, y1716), (x1809, y1809), (x1954, y1954), (x2053, y2053), (x2744, y2744), (x2753, y2753), (x3442, y3442), (x3451, y3451), (x3521, y3521), (x4153, y4153), (x4162, y4162), (x4228, y4228), (x4877, y4877), (x4886, y4886), (x4943, y4943), (x5612, y5612), (x5621, y5621), (x5672, y5672)]),
  (209, [(x1122, y1122), (x1163, y1163), (x1623, y1623)]),
  (77, [(x1195, y1195), (x1772, y1772)]),
  (167, [(x1198, y1198)]),
  (117, [(x1258, y1258)]),
  (118, [(x1309, y1309), (x1512, y1512), (x1597, y1597)]),
  (116, [(x1333, y1333), (x1771, y1771)]),
  (85, [(x1337, y1337), (x1346, y1346), (x1724, y1724), (x2040, y2040), (x2133, y2133), (x4884, y4884)]),
  (186, [(x1458, y1458), (x1538, y1538), (x1650, y1650), (x1709, y1709), (x1805, y1805), (x2737, y2737), (x3435, y3435), (x4146, y4146), (x4870, y4870), (x5605, y5605)]),
  (174, [(x1563, y1563)]),
  (251, [(x1670, y1670), (x1733, y1733), (x2063, y2063)]),
  (239, [(x1719, y1719)]),
  (166, [(x1777, y1777)]),
  (115, [(x1792, y1792)]),
  (122, [(x2076, y2076), (x2110, y2110), (x3473, y3473)]),
  (134, [(x2081, y2081)]),
  (121, [(x2093, y2093)]),
  (34, [(x2152, y2152), (x2837, y2837)]),
  (19, [(x2181, y2181)]),
  (180, [(x4157, y4157)]),
  (33, [(x4201, y4201), (x4925, y4925), (x5660, y5660)]),
  (148, [(x4278, y4278), (x5008, y5008)]),
  (28, [(x4900, y4900)]),
  (51, [(x4927, y4927)])]
theorem all7 : AllT Known t7 := (consT (consE q65 (consE q972 trivial))
  (consT (consE q80 (consE q812 (consE q814 (consE q820 (consE q828 (consE q839 (consE q843 (consE q848 (consE q866 (consE q868 (consE q873 (consE q875 (consE q898 trivial)))))))))))))
  (consT (consE q141 trivial)
  (consT (consE q712 (consE q2697 (consE q3393 (consE q4104 (consE q4828 (consE q5563 trivial))))))
  (consT (consE q742 (consE q2701 (consE q3397 (consE q4108 (consE q4832 (consE q5567 trivial))))))
  (consT (consE q761 (consE q788 trivial))
  (consT (consE q947 (consE q2713 (consE q3411 (consE q4122 (consE q4846 (consE q5581 trivial))))))
  (consT (consE q1007 (consE q1335 (consE q5634 trivial)))
  (consT (consE q1019 (consE q1359 (consE q1466 (consE q1476 (consE q1553 (consE q1608 (consE q1657 (consE q1716 (consE q1809 (consE q1954 (consE q2053 (consE q2744 (consE q2753 (consE q3442 (consE q3451 (consE q3521 (consE q4153 (consE q4162 (consE q4228 (consE q4877 (consE q4886 (consE q4943 (consE q5612 (consE q5621 (consE q5672 trivial)))))))))))))))))))))))))
  (consT (consE q1122 (consE q1163 (consE q1623 trivial)))
  (consT (consE q1195 (consE q1772 trivial))
  (consT (consE q1198 trivial)
  (consT (consE q1258 trivial)
  (consT (consE q1309 (consE q1512 (consE q1597 trivial)))
  (consT (consE q1333 (consE q1771 trivial))
  (consT (consE q1337 (consE q1346 (consE q1724 (consE q2040 (consE q2133 (consE q4884 trivial))))))
  (consT (consE q1458 (consE q1538 (consE q1650 (consE q1709 (consE q1805 (consE q2737 (consE q3435 (consE q4146 (consE q4870 (consE q5605 trivial))))))))))
  (consT (consE q1563 trivial)
  (consT (consE q1670 (consE q1733 (consE q2063 trivial)))
  (consT (consE q1719 trivial)
  (consT (consE q1777 trivial)
  (consT (consE q1792 trivial)
  (consT (consE q2076 (consE q2110 (consE q3473 trivial)))
  (consT (consE q2081 trivial)
  (consT (consE q2093 trivial)
  (consT (consE q2152 (consE q2837 trivial))
  (consT (consE q2181 trivial)
  (consT (consE q4157 trivial)
  (consT (consE q4201 (consE q4925 (consE q5660 trivial)))
  (consT (consE q4278 (consE q5008 trivial))
  (consT (consE q4900 trivial)
  (consT (consE q4927 trivial)
  trivial))))))))))))))))))))))))))))))))
end Go.Proofs.YthndchidnkbgiaaGreatDoor
/- All that is known of calls; the common beginnings: known(), within(n, N). -/
namespace Go.Proofs.YthndchidnkbgiaaGreatDoor
open Go Go.Ev
noncomputable def cfg : Cfg := cfgT t7
theorem ok1 : Ok Tryz.prog cfg ∧ CodesOk cfg := okT _
theorem prm1 : PrmOk Tryz.prog cfg := prmT all7
theorem clo1 {n f : Nat} {xs : List CV} {r : CV} (h : (orcF cfg n).clo f xs = some r) : CloC Tryz.prog f xs r := by
  rw [orcF_eq] at h
  exact ev_sound ok1.1 ok1.2 prm1 h
/-- a call's answer is taken from elsewhere -/
def ov (Q : Orc) (g : Nat) (x : Option CV) : Orc := ⟨fun f xs => cond (Nat.beq f g) x (Q.clo f xs), Q.opn, Q.loop⟩
noncomputable def noQ : Orc := ⟨fun _ _ => none, fun _ _ _ => none, fun _ _ _ _ _ _ => none⟩
/-- the code that is left, the state, behind some pieces -/
noncomputable def stP (Q : Orc) (f j : Nat) (p : Code × S) : Code × S := match evPre cfg Q f j p.1 p.2 [] (fun c s _ => some (c, s)) (fun _ _ _ => none) with | some q => q | none => p
theorem within5_run (Q : Orc) (n N : Int) (h : (N == 0) = false) : evBodyF cfg Q 5 [.c (.int .i64 n), .c (.int .i64 N)] [] = ifb (ltI (n.tmod N) 0) (some (.c (.int .i64 (IntKind.i64.wrap (n.tmod N + N))), [])) (some (.c (.int .i64 (n.tmod N)), [])) := by
  have h1 : evBodyF cfg Q 5 [.c (.int .i64 n), .c (.int .i64 N)] [] = chk (!(N == 0)) (ifb (ltI (n.tmod N) 0) (some (.c (.int .i64 (IntKind.i64.wrap (n.tmod N + N))), [])) (some (.c (.int .i64 (n.tmod N)), []))) := by kernel_rfl
  rw [h1, h]
  rfl
theorem within5_is (Q : Orc) (n : Int) (N : Nat) (h0 : 0 < N) (hN : N < 1001) : ∃ k : Fin N, closed (evBodyF cfg Q 5 [.c (.int .i64 n), .c (.int .i64 (N : Int))] []) = some (.int .i64 (k.val : Int)) := by
  have hp : (0 : Int) < (N : Int) := by omega
  have h1 : -(N : Int) < n.tmod N := by have := Int.lt_tmod_of_pos n hp; omega
  have h2 : n.tmod N < N := Int.tmod_lt_of_pos n hp
  have hz : ((N : Int) == 0) = false := by
    rw [beq_eq_false_iff_ne]; omega
  rw [within5_run Q n N hz, ltI_eq]
  generalize n.tmod N = m at h1 h2
  by_cases h : m < 0
  · refine ⟨⟨(m + N).toNat, by omega⟩, ?_⟩
    have e : IntKind.i64.wrap (m + N) = (((m + N).toNat : Nat) : Int) := by
      have hw : ∀ j : Nat, j < 1001 → IntKind.i64.wrap (j : Int) = (j : Int) := by decide +kernel
      have e1 : m + (N : Int) = (((m + N).toNat : Nat) : Int) := by omega
      rw [e1]
      exact hw _ (by omega)
    rw [decide_eq_true h, e]
    rfl
  · refine ⟨⟨m.toNat, by omega⟩, ?_⟩
    have e : m = ((m.toNat : Nat) : Int) := by omega
    rw [decide_eq_false h]
    show some (CV.int .i64 m) = some (.int .i64 ((m.toNat : Nat) : Int))
    rw [← e]
theorem within5 (n : Int) (N : Nat) (h0 : 0 < N) (hN : N < 1001) (hp : prmOf cfg 5 [.int .i64 n, .int .i64 (N : Int)] = none) (h2 : cfg.two 5 = false) : ∃ k : Fin N, (orcF cfg 399).clo 5 [.int .i64 n, .int .i64 (N : Int)] = some (.int .i64 (k.val : Int)) := by
  obtain ⟨k, hk⟩ := within5_is (orcF cfg 398) n N h0 hN
  exact ⟨k, clo_of (n := 398) (xs := [.int .i64 n, .int .i64 (N : Int)]) hp h2 hk⟩
theorem known4 : (orcF cfg 399).clo 4 [] = some (.bool true) := by kernel_rfl
end Go.Proofs.YthndchidnkbgiaaGreatDoor
/- DriveTypes: within(m, 1000) as a function of m. -/
namespace Go.Proofs.YthndchidnkbgiaaGreatDoor.W
open Go Go.Ev Go.Proofs.YthndchidnkbgiaaGreatDoor
noncomputable def pW (w : Int → Int) (xs : List CV) : Option CV := match xs with
  | [.int .i64 m, .int .i64 N] => cond (N == 1000) (some (.int .i64 (w m))) none
  | _ => none
noncomputable def cfg (w : Int → Int) : Cfg := mkCfg ((5, pW w) :: prmsOf t7) types funcs opns ress nily twos joins loops
theorem okW (w : Int → Int) : Ok Tryz.prog (cfg w) ∧ CodesOk (cfg w) := ok_of rfl rfl rfl rfl types_all funcs_all funcs_ok mixed
theorem fnW (w : Int → Int) : (cfg w).fn 5 = some Tryz.f5 := by kernel_rfl
theorem resW (w : Int → Int) (z : Int) : resOk (cfg w) Tryz.f5 (.c (.int .i64 z)) = true := by kernel_rfl
theorem prmW {w : Int → Int} (hw : ∀ m, CloC Tryz.prog 5 [.int .i64 m, .int .i64 1000] (.int .i64 (w m))) : PrmOk Tryz.prog (cfg w) := by
  intro f p xs r hp hx
  have hp : List.lookup f ((5, pW w) :: prmsOf t7) = some p := hp
  unfold List.lookup at hp
  split at hp
  · rename_i h
    obtain rfl : f = 5 := eq_of_beq h
    injection hp with hp
    subst hp
    unfold pW at hx
    split at hx
    · rename_i m N
      rcases cond_inv hx with ⟨hN, hx⟩ | ⟨_, hx⟩
      · injection hx with hx
        subst hx
        obtain rfl : N = 1000 := eq_of_beq hN
        refine ⟨hw m, fun fn hfn => ?_⟩
        rw [fnW] at hfn
        injection hfn with hfn
        subst hfn
        exact resW w _
      · cases hx
    · cases hx
  · exact prmT all7 f p xs r hp hx
theorem cloW {w : Int → Int} (hw : ∀ m, CloC Tryz.prog 5 [.int .i64 m, .int .i64 1000] (.int .i64 (w m))) {n f : Nat} {xs : List CV} {r : CV} (h : (orcF (cfg w) n).clo f xs = some r) : CloC Tryz.prog f xs r := by
  rw [orcF_eq] at h
  exact ev_sound (okW w).1 (okW w).2 (prmW hw) h
noncomputable def stP (w : Int → Int) (Q : Orc) (f j : Nat) (p : Code × S) : Code × S := match evPre (cfg w) Q f j p.1 p.2 [] (fun c s _ => some (c, s)) (fun _ _ _ => none) with | some q => q | none => p
theorem known (w : Int → Int) : (orcF (cfg w) 399).clo 4 [] = some (.bool true) := by kernel_rfl
theorem evCode_assoc {R : Type} {C : Cfg} {Q : Orc} {fid : Nat} {a b c : Code} (h : chOf C fid a = none) (h' : chOf C fid b = none) (s : S) (w : O) (K : Ex → S → O → Option R) :
    evCode C Q fid (.seq (.seq a b) c) s w K = evCode C Q fid (.seq a (.seq b c)) s w K := by
  have h0 : chOf C fid (.seq a b) = none := rfl
  simp only [evCode, h0, h, h']
  try
    congr 1
    funext e s w
    cases e <;> rfl
theorem wrap_small {x : Int} (h1 : -4000000000000000000 ≤ x) (h2 : x ≤ 4000000000000000000) : IntKind.i64.wrap x = x := by
  unfold IntKind.wrap
  have hb : IntKind.i64.bits = 64 := rfl
  have hs : IntKind.i64.signed = true := rfl
  rw [hb, hs]
  simp only [Bool.true_and, decide_eq_true_eq]
  have e1 : (2 ^ 64 : Int) = 18446744073709551616 := by decide
  have e2 : (2 ^ (64 - 1) : Int) = 9223372036854775808 := by decide
  rw [e1, e2]
  split <;> omega
theorem put_same {s : S} {t : Nat} {v : AV} (h : s.env t = some v) : s.put t v = s := by
  obtain ⟨e, o, g⟩ := s
  have : upd e t v = e := by
    funext u
    show cond (Nat.beq u t) (some v) (e u) = e u
    cases hb : Nat.beq u t with
    | false => rfl
    | true => rw [Nat.eq_of_beq_eq_true hb]; exact h.symm
  show S.mk (upd e t v) o g = _
  rw [this]
def sqL : Code → Code | .seq a _ => a | c => c
def sqR : Code → Code | .seq _ b => b | c => c
def digN (k : Nat) : List UInt8 := cond (Nat.blt k 10) [UInt8.ofNat (48 + k)] (cond (Nat.blt k 100) [UInt8.ofNat (48 + k / 10), UInt8.ofNat (48 + k % 10)] (cond (Nat.blt k 1000) [UInt8.ofNat (48 + k / 100), UInt8.ofNat (48 + k / 10 % 10), UInt8.ofNat (48 + k % 10)] [UInt8.ofNat (48 + k / 1000), UInt8.ofNat (48 + k / 100 % 10), UInt8.ofNat (48 + k / 10 % 10), UInt8.ofNat (48 + k % 10)]))
def digZ (m : Int) : List UInt8 := match m with | .ofNat k => digN k | .negSucc k => 45 :: digN (k + 1)
def sameS (r : Option CV) (l : List UInt8) : Bool := match r with | some (.str s) => s.data.toList == l | _ => false
theorem sameS_eq {r : Option CV} {l : List UInt8} (h : sameS r l = true) : r = some (.str ⟨l.toArray⟩) := by
  unfold sameS at h
  split at h
  · rename_i s
    obtain ⟨⟨x⟩⟩ := s
    have h : x = l := eq_of_beq h
    rw [h]
  · cases h
theorem dig_of {Q : Orc} {B : Int} (h : (List.range 250).all (fun k => sameS (Q.clo 6 [.int .i64 ((k : Int) + B)]) (digZ ((k : Int) + B))) = true) {m : Int} (h1 : B ≤ m) (h2 : m < B + 250) : Q.clo 6 [.int .i64 m] = some (.str ⟨(digZ m).toArray⟩) := by
  rw [List.all_eq_true] at h
  have h3 : sameS (Q.clo 6 [.int .i64 (((m - B).toNat : Int) + B)]) (digZ (((m - B).toNat : Int) + B)) = true := h (m - B).toNat (List.mem_range.mpr (by omega))
  have e : ((m - B).toNat : Int) + B = m := by omega
  rw [e] at h3
  exact sameS_eq h3
theorem txt_of {Q : Orc} {B : Int} (h : (List.range 250).all (fun k => sameS (Q.clo 10 [.ag [.int .i64 1, .int .i64 ((k : Int) + B), .im []]]) (digZ ((k : Int) + B))) = true) {m : Int} (h1 : B ≤ m) (h2 : m < B + 250) : Q.clo 10 [.ag [.int .i64 1, .int .i64 m, .im []]] = some (.str ⟨(digZ m).toArray⟩) := by
  rw [List.all_eq_true] at h
  have h3 : sameS (Q.clo 10 [.ag [.int .i64 1, .int .i64 (((m - B).toNat : Int) + B), .im []]]) (digZ (((m - B).toNat : Int) + B)) = true := h (m - B).toNat (List.mem_range.mpr (by omega))
  have e : ((m - B).toNat : Int) + B = m := by omega
  rw [e] at h3
  exact sameS_eq h3
def blkK {R : Type} (id : Nat) (K : Ex → S → O → Option R) : Ex → S → O → Option R := fun e s w => match e with
  | .normal => K .normal s w
  | .exit j => cond (Nat.beq j id) (K .normal s w) (K (.exit j) s w)
  | .ret => K .ret s w
  | .retv rs => K (.retv rs) s w
def seqK {R : Type} (N : S → O → Option R) (K : Ex → S → O → Option R) : Ex → S → O → Option R := fun e s w => match e with
  | .normal => N s w
  | .exit j => K (.exit j) s w
  | .ret => K .ret s w
  | .retv rs => K (.retv rs) s w
theorem evCode_block {R : Type} {C : Cfg} {Q : Orc} {fid id : Nat} {a b z : Code} (s : S) (w : O) (K : Ex → S → O → Option R) :
    evCode C Q fid (.seq (.block id (.seq a b)) z) s w K = evCode C Q fid (.seq a b) s w (blkK id (seqK (fun s w => evCode C Q fid z s w K) K)) := by
  have h0 : chOf C fid (.block id (.seq a b)) = none := rfl
  have h1 : ∀ K' : Ex → S → O → Option R, evCode C Q fid (.block id (.seq a b)) s w K' = evCode C Q fid (.seq a b) s w (blkK id K') := fun K' => by
    conv => lhs; unfold evCode
    rfl
  have h2 : evCode C Q fid (.seq (.block id (.seq a b)) z) s w K = evCode C Q fid (.block id (.seq a b)) s w (seqK (fun s w => evCode C Q fid z s w K) K) := by
    conv => lhs; unfold evCode
    rw [h0]
    rfl
  rw [h2, h1]
theorem evCode_true {R : Type} {C : Cfg} {Q : Orc} {fid t : Nat} {a b : Code} {s : S} (h : s.env t = some (.c (.bool true))) (w : O) (K : Ex → S → O → Option R) : evCode C Q fid (.cond (.tmp t) a b) s w K = evCode C Q fid a s w K := by
  conv => lhs; unfold evCode
  dsimp only
  rw [h]
  rfl
def blkB : Code → Code | .block _ b => b | c => c
def conA : Code → Code | .cond _ a _ => a | c => c
def conB : Code → Code | .cond _ _ b => b | c => c
theorem digZ_shape {m : Int} (h : 0 ≤ m) : (∃ x, digZ m = [x]) ∨ (∃ x y, digZ m = [x, y]) ∨ (∃ x y z, digZ m = [x, y, z]) ∨ ∃ x y z u, digZ m = [x, y, z, u] := by
  cases m with
  | ofNat k =>
    show (∃ x, digN k = [x]) ∨ (∃ x y, digN k = [x, y]) ∨ (∃ x y z, digN k = [x, y, z]) ∨ ∃ x y z u, digN k = [x, y, z, u]
    unfold digN
    cases Nat.blt k 10 with
    | true => exact .inl ⟨_, rfl⟩
    | false =>
      cases Nat.blt k 100 with
      | true => exact .inr (.inl ⟨_, _, rfl⟩)
      | false =>
        cases Nat.blt k 1000 with
        | true => exact .inr (.inr (.inl ⟨_, _, _, rfl⟩))
        | false => exact .inr (.inr (.inr ⟨_, _, _, _, rfl⟩))
  | negSucc k => have := Int.negSucc_lt_zero k; omega
end Go.Proofs.YthndchidnkbgiaaGreatDoor.W
