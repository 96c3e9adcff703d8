/- DriveArgs: tools. -/
import Derived.Test.YtndojngcaohgnaaGreatDoorDA3
set_option linter.unusedVariables false
set_option linter.unusedSectionVars false
set_option linter.unusedSimpArgs false
set_option linter.unnecessarySimpa false
namespace Go.Proofs.YtndojngcaohgnaaGreatDoor
open Go Go.Ev
/-- as ov, of two questions, told apart by the second argument -/
def isArg (b : Int) (xs : List CV) : Bool := match xs with | [_, .int _ z] => z == b | _ => false
def ov2 (Q : Orc) (g : Nat) (b : Int) (x y : Option CV) : Orc := ⟨fun f xs => cond (Nat.beq f g) (cond (isArg b xs) x y) (Q.clo f xs), Q.opn, Q.loop⟩
/-- as ov, of a function of two numbers, by the first -/
def ovw (Q : Orc) (g : Nat) (h : Int → Option CV) : Orc := ⟨fun f xs => cond (Nat.beq f g) (match xs with | [.int _ m, _] => h m | _ => none) (Q.clo f xs), Q.opn, Q.loop⟩
theorem evCode_assoc {R : Type} {C : Cfg} {Q : Orc} {fid : Nat} {a b c : Code} (h : chOf C fid a = none) (h' : chOf C fid b = none) (s : S) (w : O) (K : Ex → S → O → Option R) :
    evCode C Q fid (.seq (.seq a b) c) s w K = evCode C Q fid (.seq a (.seq b c)) s w K := by
  have h0 : chOf C fid (.seq a b) = none := rfl
  simp only [evCode, h0, h, h']
  try
    congr 1
    funext e s w
    cases e <;> rfl
theorem wrap_small {x : Int} (h1 : -4000000000000000000 ≤ x) (h2 : x ≤ 4000000000000000000) : IntKind.i64.wrap x = x := by
  unfold IntKind.wrap
  have hb : IntKind.i64.bits = 64 := rfl
  have hs : IntKind.i64.signed = true := rfl
  rw [hb, hs]
  simp only [Bool.true_and, decide_eq_true_eq]
  have e1 : (2 ^ 64 : Int) = 18446744073709551616 := by decide
  have e2 : (2 ^ (64 - 1) : Int) = 9223372036854775808 := by decide
  rw [e1, e2]
  split <;> omega
theorem put_same {s : S} {t : Nat} {v : AV} (h : s.env t = some v) : s.put t v = s := by
  obtain ⟨e, o, g⟩ := s
  have : upd e t v = e := by
    funext u
    show cond (Nat.beq u t) (some v) (e u) = e u
    cases hb : Nat.beq u t with
    | false => rfl
    | true => rw [Nat.eq_of_beq_eq_true hb]; exact h.symm
  show S.mk (upd e t v) o g = _
  rw [this]
def sqL : Code → Code | .seq a _ => a | c => c
def sqR : Code → Code | .seq _ b => b | c => c
def digN (k : Nat) : List UInt8 := cond (Nat.blt k 10) [UInt8.ofNat (48 + k)] (cond (Nat.blt k 100) [UInt8.ofNat (48 + k / 10), UInt8.ofNat (48 + k % 10)] [UInt8.ofNat (48 + k / 100), UInt8.ofNat (48 + k / 10 % 10), UInt8.ofNat (48 + k % 10)])
def digZ (m : Int) : List UInt8 := match m with | .ofNat k => digN k | .negSucc k => 45 :: digN (k + 1)
def sameS (r : Option CV) (l : List UInt8) : Bool := match r with | some (.str s) => s.data.toList == l | _ => false
theorem sameS_eq {r : Option CV} {l : List UInt8} (h : sameS r l = true) : r = some (.str ⟨l.toArray⟩) := by
  unfold sameS at h
  split at h
  · rename_i s
    obtain ⟨⟨x⟩⟩ := s
    have h : x = l := eq_of_beq h
    rw [h]
  · cases h
theorem dig_of {Q : Orc} {B : Int} (h : (List.range 250).all (fun k => sameS (Q.clo 10 [.int .i64 ((k : Int) + B)]) (digZ ((k : Int) + B))) = true) {m : Int} (h1 : B ≤ m) (h2 : m < B + 250) : Q.clo 10 [.int .i64 m] = some (.str ⟨(digZ m).toArray⟩) := by
  rw [List.all_eq_true] at h
  have h3 : sameS (Q.clo 10 [.int .i64 (((m - B).toNat : Int) + B)]) (digZ (((m - B).toNat : Int) + B)) = true := h (m - B).toNat (List.mem_range.mpr (by omega))
  have e : ((m - B).toNat : Int) + B = m := by omega
  rw [e] at h3
  exact sameS_eq h3
theorem txt_of {Q : Orc} {B : Int} (h : (List.range 250).all (fun k => sameS (Q.clo 24 [.ag [.int .i64 1, .int .i64 ((k : Int) + B), .im []]]) (digZ ((k : Int) + B))) = true) {m : Int} (h1 : B ≤ m) (h2 : m < B + 250) : Q.clo 24 [.ag [.int .i64 1, .int .i64 m, .im []]] = some (.str ⟨(digZ m).toArray⟩) := by
  rw [List.all_eq_true] at h
  have h3 : sameS (Q.clo 24 [.ag [.int .i64 1, .int .i64 (((m - B).toNat : Int) + B), .im []]]) (digZ (((m - B).toNat : Int) + B)) = true := h (m - B).toNat (List.mem_range.mpr (by omega))
  have e : ((m - B).toNat : Int) + B = m := by omega
  rw [e] at h3
  exact sameS_eq h3
def blkK {R : Type} (id : Nat) (K : Ex → S → O → Option R) : Ex → S → O → Option R := fun e s w => match e with
  | .normal => K .normal s w
  | .exit j => cond (Nat.beq j id) (K .normal s w) (K (.exit j) s w)
  | .ret => K .ret s w
  | .retv rs => K (.retv rs) s w
def seqK {R : Type} (N : S → O → Option R) (K : Ex → S → O → Option R) : Ex → S → O → Option R := fun e s w => match e with
  | .normal => N s w
  | .exit j => K (.exit j) s w
  | .ret => K .ret s w
  | .retv rs => K (.retv rs) s w
theorem evCode_block {R : Type} {C : Cfg} {Q : Orc} {fid id : Nat} {a b z : Code} (s : S) (w : O) (K : Ex → S → O → Option R) :
    evCode C Q fid (.seq (.block id (.seq a b)) z) s w K = evCode C Q fid (.seq a b) s w (blkK id (seqK (fun s w => evCode C Q fid z s w K) K)) := by
  have h0 : chOf C fid (.block id (.seq a b)) = none := rfl
  have h1 : ∀ K' : Ex → S → O → Option R, evCode C Q fid (.block id (.seq a b)) s w K' = evCode C Q fid (.seq a b) s w (blkK id K') := fun K' => by
    conv => lhs; unfold evCode
    rfl
  have h2 : evCode C Q fid (.seq (.block id (.seq a b)) z) s w K = evCode C Q fid (.block id (.seq a b)) s w (seqK (fun s w => evCode C Q fid z s w K) K) := by
    conv => lhs; unfold evCode
    rw [h0]
    rfl
  rw [h2, h1]
theorem evCode_true {R : Type} {C : Cfg} {Q : Orc} {fid t : Nat} {a b : Code} {s : S} (h : s.env t = some (.c (.bool true))) (w : O) (K : Ex → S → O → Option R) : evCode C Q fid (.cond (.tmp t) a b) s w K = evCode C Q fid a s w K := by
  conv => lhs; unfold evCode
  dsimp only
  rw [h]
  rfl
def blkB : Code → Code | .block _ b => b | c => c
def conA : Code → Code | .cond _ a _ => a | c => c
def conB : Code → Code | .cond _ _ b => b | c => c
theorem digN_shape (k : Nat) : (∃ x, digN k = [x]) ∨ (∃ x y, digN k = [x, y]) ∨ ∃ x y z, digN k = [x, y, z] := by
  unfold digN
  cases Nat.blt k 10 with
  | true => exact .inl ⟨_, rfl⟩
  | false =>
    cases Nat.blt k 100 with
    | true => exact .inr (.inl ⟨_, _, rfl⟩)
    | false => exact .inr (.inr ⟨_, _, _, rfl⟩)
theorem digZ_shape (m : Int) : (∃ x, digZ m = [x]) ∨ (∃ x y, digZ m = [x, y]) ∨ (∃ x y z, digZ m = [x, y, z]) ∨ ∃ x y z u, digZ m = [x, y, z, u] := by
  cases m with
  | ofNat k => rcases digN_shape k with ⟨x, h⟩ | ⟨x, y, h⟩ | ⟨x, y, z, h⟩ <;> simp [digZ, h]
  | negSucc k => rcases digN_shape (k + 1) with ⟨x, h⟩ | ⟨x, y, h⟩ | ⟨x, y, z, h⟩ <;> simp [digZ, h]
end Go.Proofs.YtndojngcaohgnaaGreatDoor
