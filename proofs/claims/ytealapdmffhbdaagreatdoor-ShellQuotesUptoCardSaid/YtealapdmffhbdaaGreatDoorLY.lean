import Derived.Test.YtealapdmffhbdaaGreatDoorSHT
import Derived.Test.YtealapdmffhbdaaGreatDoorEvE
import Derived.Test.YtealapdmffhbdaaGreatDoorWSpec
import Derived.KernelRfl
set_option linter.unusedVariables false
set_option linter.unusedSectionVars false
set_option linter.unusedSimpArgs false
set_option linter.unnecessarySimpa false
namespace Go.Proofs.YtealapdmffhbdaaGreatDoor.S
open Go Go.Ev Go.Proofs.YtealapdmffhbdaaGreatDoor Go.Ev.Ws
abbrev HEX : ByteArray := ⟨#[48, 49, 50, 51, 52, 53, 54, 55, 56, 57, 97, 98, 99, 100, 101, 102]⟩
def hexZ (c : UInt8) : Int := match hexv c with | some k => k | none => -1
theorem beqU {c : UInt8} {k : Nat} (hk : k < 256) : (Int.ofNat c.toNat == Int.ofNat k) = (c == UInt8.ofNat k) := by
  by_cases h : c = UInt8.ofNat k
  · subst h
    have : (UInt8.ofNat k).toNat = k := by rw [UInt8.toNat_ofNat']; omega
    rw [this, beq_self_eq_true, beq_self_eq_true]
  · rw [beq_eq_false_iff_ne.mpr h]
    refine beq_eq_false_iff_ne.mpr fun e => h ?_
    have e : c.toNat = k := Int.ofNat.inj e
    rw [← e, UInt8.ofNat_toNat]
theorem esc_plain (Q : Orc) (c : UInt8) (r : B) (h : c ≠ 92) : tree_escape Q ⟨⟨c :: r⟩⟩ = some (.c (.tp [.int .u8 (Int.ofNat c.toNat), .int .i64 (Int.ofNat 1)]), []) := by
  have hb : (Int.ofNat c.toNat != Int.ofNat 92) = true := by
    show (!(Int.ofNat c.toNat == Int.ofNat 92)) = true
    have h' : (c == UInt8.ofNat 92) = false := beq_eq_false_iff_ne.mpr h
    rw [beqU (by omega), h']
    rfl
  have h0 : Nat.blt 0 (ByteArray.size ⟨⟨c :: r⟩⟩) = true := rfl
  have h1 : (Array.toList (ByteArray.data ⟨⟨c :: r⟩⟩))[0]? = some c := rfl
  unfold tree_escape
  simp only [h0, h1, hb]
theorem esc_one (Q : Orc) : tree_escape Q ⟨⟨[92]⟩⟩ = some (.c (.tp [.int .u8 (Int.ofNat 0), .int .i64 (Int.ofNat 0)]), []) := by kernel_rfl
theorem esc_bs (Q : Orc) (r : B) : tree_escape Q ⟨⟨92 :: 92 :: r⟩⟩ = some (.c (.tp [.int .u8 (Int.ofNat 92), .int .i64 (Int.ofNat 2)]), []) := by kernel_rfl
theorem esc_qu (Q : Orc) (r : B) : tree_escape Q ⟨⟨92 :: 34 :: r⟩⟩ = some (.c (.tp [.int .u8 (Int.ofNat 34), .int .i64 (Int.ofNat 2)]), []) := by kernel_rfl
theorem esc_n (Q : Orc) (r : B) : tree_escape Q ⟨⟨92 :: 110 :: r⟩⟩ = some (.c (.tp [.int .u8 (Int.ofNat 10), .int .i64 (Int.ofNat 2)]), []) := by kernel_rfl
theorem esc_t (Q : Orc) (r : B) : tree_escape Q ⟨⟨92 :: 116 :: r⟩⟩ = some (.c (.tp [.int .u8 (Int.ofNat 9), .int .i64 (Int.ofNat 2)]), []) := by kernel_rfl
theorem esc_x0 (Q : Orc) : tree_escape Q ⟨⟨[92, 120]⟩⟩ = some (.c (.tp [.int .u8 (Int.ofNat 0), .int .i64 (Int.ofNat 0)]), []) := by kernel_rfl
theorem esc_x1 (Q : Orc) (a : UInt8) : tree_escape Q ⟨⟨[92, 120, a]⟩⟩ = some (.c (.tp [.int .u8 (Int.ofNat 0), .int .i64 (Int.ofNat 0)]), []) := by kernel_rfl
/-- IndexByte, on the digits -/
def HexOk (Q : Orc) : Prop := ∀ c : UInt8, Q.clo 29 [.str HEX, .int .u8 (Int.ofNat c.toNat)] = some (.int .i64 (hexZ c))
theorem esc_x (Q : Orc) (hQ : HexOk Q) (a b : UInt8) (r : B) : tree_escape Q ⟨⟨92 :: 120 :: a :: b :: r⟩⟩ = match hexv a, hexv b with
    | some x, some y => some (.c (.tp [.int .u8 (IntKind.u8.wrap (IntKind.i64.wrap (IntKind.i64.wrap (Int.ofNat 16 * (x : Int)) + (y : Int)))), .int .i64 (Int.ofNat 4)]), [])
    | _, _ => some (.c (.tp [.int .u8 (Int.ofNat 0), .int .i64 (Int.ofNat 0)]), []) := by
  have e : tree_escape Q ⟨⟨92 :: 120 :: a :: b :: r⟩⟩ = (match Q.clo 29 [.str HEX, .int .u8 (Int.ofNat a.toNat)] with
    | .none => none
    | .some p => (match conf (.one (.int .i64)) p with
      | false => none
      | true => (match Q.clo 29 [.str HEX, .int .u8 (Int.ofNat b.toNat)] with
        | .none => none
        | .some q => (match conf (.one (.int .i64)) q with
          | false => none
          | true => (match leI (Int.ofNat 0) (intAt p) with
            | false => some (.c (.tp [.int .u8 (Int.ofNat 0), .int .i64 (Int.ofNat 0)]), [])
            | true => (match leI (Int.ofNat 0) (intAt q) with
              | false => some (.c (.tp [.int .u8 (Int.ofNat 0), .int .i64 (Int.ofNat 0)]), [])
              | true => some (.c (.tp [.int .u8 (IntKind.u8.wrap (IntKind.i64.wrap (IntKind.i64.wrap (Int.ofNat 16 * intAt p) + intAt q))), .int .i64 (Int.ofNat 4)]), []))))))) := by kernel_rfl
  rw [e, hQ a, hQ b]
  unfold hexZ
  cases hexv a <;> cases hexv b <;> rfl
theorem esc_no (Q : Orc) (d : UInt8) (r : B) (h1 : d ≠ 92) (h2 : d ≠ 34) (h3 : d ≠ 110) (h4 : d ≠ 116) (h5 : d ≠ 120) : tree_escape Q ⟨⟨92 :: d :: r⟩⟩ = some (.c (.tp [.int .u8 (Int.ofNat 0), .int .i64 (Int.ofNat 0)]), []) := by
  have q (k : Nat) (hk : k < 256) (h : d ≠ UInt8.ofNat k) : (Int.ofNat d.toNat == Int.ofNat k) = false := by rw [beqU hk]; exact beq_eq_false_iff_ne.mpr h
  have b1 := q 92 (by omega) h1
  have b2 := q 34 (by omega) h2
  have b3 := q 110 (by omega) h3
  have b4 := q 116 (by omega) h4
  have b5 := q 120 (by omega) h5
  have s0 : Nat.blt 0 (ByteArray.size ⟨⟨92 :: d :: r⟩⟩) = true := rfl
  have s1 : Nat.blt 1 (ByteArray.size ⟨⟨92 :: d :: r⟩⟩) = true := rfl
  have s2 : ltI (Int.ofNat (ByteArray.size ⟨⟨92 :: d :: r⟩⟩)) (Int.ofNat 2) = false := by
    refine Bool.eq_false_iff.mpr fun h' => ?_
    have := Nat.blt_eq.mp h'
    have e : ByteArray.size ⟨⟨92 :: d :: r⟩⟩ = r.length + 2 := rfl
    omega
  have l0 : (Array.toList (ByteArray.data ⟨⟨92 :: d :: r⟩⟩))[0]? = some 92 := rfl
  have l1 : (Array.toList (ByteArray.data ⟨⟨92 :: d :: r⟩⟩))[1]? = some d := rfl
  have c0 : (Int.ofNat (UInt8.toNat 92) != Int.ofNat 92) = false := rfl
  unfold tree_escape
  simp only [s0, l0, c0, s2, s1, l1, b1, b2, b3, b4, b5]
/-- escape's answer -/
def escR (l : B) : Int × Int := match esc l with | some (b, k) => (Int.ofNat b.toNat, Int.ofNat k) | none => (0, 0)
theorem wrapX : ∀ (x y : Fin 16), IntKind.u8.wrap (IntKind.i64.wrap (IntKind.i64.wrap (Int.ofNat 16 * ((x.val : Nat) : Int)) + ((y.val : Nat) : Int))) = Int.ofNat (UInt8.ofNat (16 * x.val + y.val)).toNat := by decide +kernel
theorem hexv_lt {c : UInt8} {k : Nat} (h : hexv c = some k) : k < 16 := by
  unfold hexv at h
  split at h
  · injection h with h; omega
  · split at h
    · injection h with h; omega
    · cases h
theorem escape_tree (Q : Orc) (hQ : HexOk Q) (c : UInt8) (r : B) : tree_escape Q ⟨⟨c :: r⟩⟩ = some (.c (.tp [.int .u8 (escR (c :: r)).1, .int .i64 (escR (c :: r)).2]), []) := by
  by_cases h : c = 92
  · subst h
    cases r with
    | nil => exact esc_one Q
    | cons d r =>
      by_cases h1 : d = 92
      · subst h1; exact esc_bs Q r
      by_cases h2 : d = 34
      · subst h2; exact esc_qu Q r
      by_cases h3 : d = 110
      · subst h3; exact esc_n Q r
      by_cases h4 : d = 116
      · subst h4; exact esc_t Q r
      by_cases h5 : d = 120
      · subst h5
        match r with
        | [] => exact esc_x0 Q
        | [a] => exact esc_x1 Q a
        | a :: b :: r =>
          rw [esc_x Q hQ]
          have e : esc (92 :: 120 :: a :: b :: r) = (match hexv a, hexv b with
            | some x, some y => some (UInt8.ofNat (16 * x + y), 4)
            | _, _ => none) := rfl
          unfold escR
          rw [e]
          cases ha : hexv a with
          | none => rfl
          | some x =>
            cases hb : hexv b with
            | none => rfl
            | some y =>
              have := wrapX ⟨x, hexv_lt ha⟩ ⟨y, hexv_lt hb⟩
              dsimp only at this ⊢
              rw [this]
      · rw [esc_no Q d r h1 h2 h3 h4 h5]
        have e : esc (92 :: d :: r) = none := by
          simp only [esc, if_true, h1, h2, h3, h4, h5, or_self, if_false]
        unfold escR
        rw [e]
        rfl
  · rw [esc_plain Q c r h]
    have e : esc (c :: r) = some (c, 1) := by simp only [esc, if_neg h]
    unfold escR
    rw [e]
end Go.Proofs.YtealapdmffhbdaaGreatDoor.S
namespace Go.Proofs.YtealapdmffhbdaaGreatDoor.S
open Go Go.Ev Go.Proofs.YtealapdmffhbdaaGreatDoor Go.Ev.Ws
def sameB (r : Option (AV × O)) (z : Int) : Bool := match r with | some (.c (.int .i64 y), []) => y == z | _ => false
theorem sameB_eq {r : Option (AV × O)} {z : Int} (h : sameB r z = true) : r = some (.c (.int .i64 z), []) := by
  unfold sameB at h
  split at h
  · rw [eq_of_beq h]
  · cases h
theorem hex_all (Q : Orc) : (List.range 256).all (fun k => sameB (tree_hex Q (UInt8.ofNat k)) (hexZ (UInt8.ofNat k))) = true := by kernel_rfl
theorem hex_tree (Q : Orc) (c : UInt8) : tree_hex Q c = some (.c (.int .i64 (hexZ c)), []) := by
  have h := List.all_eq_true.mp (hex_all Q) c.toNat (List.mem_range.mpr c.toNat_lt)
  rw [UInt8.ofNat_toNat] at h
  exact sameB_eq h
theorem hex_ok (n : Nat) (c : UInt8) : (orcF cfgS (n + 1)).clo 18 [.int .u8 (Int.ofNat c.toNat)] = some (.int .i64 (hexZ c)) := by
  refine clo_of (by kernel_rfl) (by kernel_rfl) ?_
  show closed (evBodyF cfgS (orcF cfgS n) 18 [.c (.int .u8 (Int.ofNat c.toNat))] []) = _
  rw [eq_hex, hex_tree]
  rfl
end Go.Proofs.YtealapdmffhbdaaGreatDoor.S
namespace Go.Proofs.YtealapdmffhbdaaGreatDoor.S
open Go Go.Ev Go.Proofs.YtealapdmffhbdaaGreatDoor Go.Ev.Ws
theorem wrapS {n : Nat} (h : n < 4000000000000000000) : IntKind.i64.wrap (Int.ofNat n) = Int.ofNat n := by
  unfold IntKind.wrap
  have hb : IntKind.i64.bits = 64 := rfl
  have hs : IntKind.i64.signed = true := rfl
  rw [hb, hs]
  simp only [Bool.true_and, decide_eq_true_eq]
  have e1 : (2 ^ 64 : Int) = 18446744073709551616 := by decide
  have e2 : (2 ^ (64 - 1) : Int) = 9223372036854775808 := by decide
  have e3 : (Int.ofNat n) = (n : Int) := rfl
  rw [e1, e2, e3]
  split <;> omega
/-- a row of bytes as values -/
def mkB (l : B) : List CV := l.map fun b => .int .u8 (Int.ofNat b.toNat)
theorem bytesOf_mkB : ∀ l : B, bytesOf (mkB l) = some l
  | [] => rfl
  | c :: l => by
    have ih := bytesOf_mkB l
    show (match bytesOf (mkB l) with | some l => some ((Int.ofNat c.toNat).toNat.toUInt8 :: l) | none => none) = _
    rw [ih]
    show some ((c.toNat.toUInt8) :: l) = _
    have : c.toNat.toUInt8 = c := UInt8.ofNat_toNat
    rw [this]
def EscOk (Q : Orc) : Prop := ∀ (c : UInt8) (r : B), Q.clo 17 [.str ⟨⟨c :: r⟩⟩] = some (.tp [.int .u8 (escR (c :: r)).1, .int .i64 (escR (c :: r)).2])
theorem ltI_lt {a b : Nat} (h : a < b) : ltI (Int.ofNat a) (Int.ofNat b) = true := Nat.blt_eq.mpr h
theorem ltI_ge {a b : Nat} (h : b ≤ a) : ltI (Int.ofNat a) (Int.ofNat b) = false := Bool.eq_false_iff.mpr fun h' => by have := Nat.blt_eq.mp h'; omega
/-- quoted's loop, a round -/
theorem quotedL_quote (Q : Orc) (l : B) (e : ByteArray) (n : Int) (b : Bool) (i : Nat) (o : B) (h : i < l.length) (hl : l.length < 1000000000) (hc : l[i]? = some 34) :
    tree_quotedL Q ⟨⟨l⟩⟩ e n b i (mkB o) = some (.ret [.c (.str ⟨o.toArray⟩), .c (.int .i64 (Int.ofNat (i + 1))), .c (.bool true)] []) := by
  have h1 : ltI (Int.ofNat i) (Int.ofNat (ByteArray.size ⟨⟨l⟩⟩)) = true := ltI_lt h
  have h2 : Nat.blt i (ByteArray.size ⟨⟨l⟩⟩) = true := Nat.blt_eq.mpr h
  have h3 : (Array.toList (ByteArray.data ⟨⟨l⟩⟩))[i]? = some 34 := hc
  have h4 : (Int.ofNat (UInt8.toNat 34) == Int.ofNat 34) = true := rfl
  have h5 : IntKind.i64.wrap (Int.ofNat i + Int.ofNat 1) = Int.ofNat (i + 1) := wrapS (n := i + 1) (by omega)
  unfold tree_quotedL
  simp only [h1, h2, h3, h4, bytesOf_mkB, h5]
theorem quotedL_next (Q : Orc) (hE : EscOk Q) (l : B) (e : ByteArray) (n : Int) (b : Bool) (i : Nat) (o : B) (c : UInt8) (r : B) (d : UInt8) (k : Nat) (h : i < l.length) (hl : l.length < 1000000000) (ho : o.length ≤ i) (hk : k ≤ l.length) (hd : l.drop i = c :: r) (h34 : c ≠ 34) (he : esc (c :: r) = some (d, k)) (hk0 : 1 ≤ k) :
    tree_quotedL Q ⟨⟨l⟩⟩ e n b i (mkB o) = Q.loop 11 B11_0 0 T11_0 [.str ⟨⟨l⟩⟩, .str e, .int .i64 n, .bool b, .int .i64 (Int.ofNat (i + k)), .im (mkB (o ++ [d]))] [] := by
  have h1 : ltI (Int.ofNat i) (Int.ofNat (ByteArray.size ⟨⟨l⟩⟩)) = true := ltI_lt h
  have h2 : Nat.blt i (ByteArray.size ⟨⟨l⟩⟩) = true := Nat.blt_eq.mpr h
  have hc : l[i]? = some c := by
    have := List.getElem?_drop (xs := l) (i := i) (j := 0)
    rw [hd] at this
    simpa using this.symm
  have h3 : (Array.toList (ByteArray.data ⟨⟨l⟩⟩))[i]? = some c := hc
  have h4 : (Int.ofNat (UInt8.toNat c) == Int.ofNat 34) = false := by rw [beqU (by omega)]; exact beq_eq_false_iff_ne.mpr h34
  have h5 : IntKind.i64.wrap (Int.ofNat i + Int.ofNat k) = Int.ofNat (i + k) := wrapS (n := i + k) (by omega)
  have h6 : Nat.ble i (ByteArray.size ⟨⟨l⟩⟩) = true := Nat.ble_eq.mpr (Nat.le_of_lt h)
  have h7 : cutS ⟨⟨l⟩⟩ i (ByteArray.size ⟨⟨l⟩⟩) = ⟨⟨c :: r⟩⟩ := by
    have e0 : ByteArray.size ⟨⟨l⟩⟩ = l.length := rfl
    have e1 : (l.drop i).take (l.length - i) = c :: r := by rw [List.take_of_length_le (by rw [List.length_drop]; omega), hd]
    unfold cutS
    rw [e0]
    show (⟨⟨(l.drop i).take (l.length - i)⟩⟩ : ByteArray) = _
    rw [e1]
  have h8 : Q.clo 17 [.str (cutS ⟨⟨l⟩⟩ i (ByteArray.size ⟨⟨l⟩⟩))] = some (.tp [.int .u8 (Int.ofNat d.toNat), .int .i64 (Int.ofNat k)]) := by
    rw [h7, hE c r]
    unfold escR
    rw [he]
  have h9 : (Int.ofNat k == Int.ofNat 0) = false := beq_eq_false_iff_ne.mpr fun e => by have := Int.ofNat.inj e; omega
  have h10 : Nat.ble ((mkB o).length + 1) 2147483648 = true := Nat.ble_eq.mpr (by unfold mkB; rw [List.length_map]; omega)
  have h11 : mkB (o ++ [d]) = mkB o ++ [.int .u8 (Int.ofNat d.toNat)] := by simp [mkB]
  unfold tree_quotedL
  simp only [h1, h2, h3, h4, h6, h8]
  rw [h11]
  have q1 : conf (Shp.tp [Sp.int .u8, Sp.int .i64]) (.tp [.int .u8 (Int.ofNat d.toNat), .int .i64 (Int.ofNat k)]) = true := rfl
  have q2 : intAt (g (List.tail (tplAt (.tp [.int .u8 (Int.ofNat d.toNat), .int .i64 (Int.ofNat k)]))) 0) = Int.ofNat k := rfl
  have q3 : intAt (g (tplAt (.tp [.int .u8 (Int.ofNat d.toNat), .int .i64 (Int.ofNat k)])) 0) = Int.ofNat d.toNat := rfl
  have q4 : ([CV.int .u8 (Int.ofNat d.toNat)]).length = 1 := rfl
  simp only [q1, q2, q3, q4, h5, h9, h10, Bool.and_true]
end Go.Proofs.YtealapdmffhbdaaGreatDoor.S
namespace Go.Proofs.YtealapdmffhbdaaGreatDoor.S
open Go Go.Ev Go.Proofs.YtealapdmffhbdaaGreatDoor Go.Ev.Ws
theorem quotedL_end (Q : Orc) (l : B) (e : ByteArray) (n : Int) (b : Bool) (i : Nat) (out : List CV) (h : l.length ≤ i) : tree_quotedL Q ⟨⟨l⟩⟩ e n b i out = some (.brk [.str ⟨⟨l⟩⟩, .str e, .int .i64 n, .bool b, .int .i64 (Int.ofNat i), .im out] []) := by
  have h1 : ltI (Int.ofNat i) (Int.ofNat (ByteArray.size ⟨⟨l⟩⟩)) = false := ltI_ge h
  unfold tree_quotedL
  simp only [h1]
theorem quotedL_none (Q : Orc) (hE : EscOk Q) (l : B) (e : ByteArray) (n : Int) (b : Bool) (i : Nat) (o : List CV) (c : UInt8) (r : B) (h : i < l.length) (hd : l.drop i = c :: r) (h34 : c ≠ 34) (he : esc (c :: r) = none) :
    tree_quotedL Q ⟨⟨l⟩⟩ e n b i o = some (.brk [.str ⟨⟨l⟩⟩, .str e, .int .i64 n, .bool b, .int .i64 (Int.ofNat i), .im o] []) := by
  have h1 : ltI (Int.ofNat i) (Int.ofNat (ByteArray.size ⟨⟨l⟩⟩)) = true := ltI_lt h
  have h2 : Nat.blt i (ByteArray.size ⟨⟨l⟩⟩) = true := Nat.blt_eq.mpr h
  have hc : l[i]? = some c := by
    have := List.getElem?_drop (xs := l) (i := i) (j := 0)
    rw [hd] at this
    simpa using this.symm
  have h3 : (Array.toList (ByteArray.data ⟨⟨l⟩⟩))[i]? = some c := hc
  have h4 : (Int.ofNat (UInt8.toNat c) == Int.ofNat 34) = false := by rw [beqU (by omega)]; exact beq_eq_false_iff_ne.mpr h34
  have h6 : Nat.ble i (ByteArray.size ⟨⟨l⟩⟩) = true := Nat.ble_eq.mpr (Nat.le_of_lt h)
  have h7 : cutS ⟨⟨l⟩⟩ i (ByteArray.size ⟨⟨l⟩⟩) = ⟨⟨c :: r⟩⟩ := by
    have e0 : ByteArray.size ⟨⟨l⟩⟩ = l.length := rfl
    have e1 : (l.drop i).take (l.length - i) = c :: r := by rw [List.take_of_length_le (by rw [List.length_drop]; omega), hd]
    unfold cutS
    rw [e0]
    show (⟨⟨(l.drop i).take (l.length - i)⟩⟩ : ByteArray) = _
    rw [e1]
  have h8 : Q.clo 17 [.str (cutS ⟨⟨l⟩⟩ i (ByteArray.size ⟨⟨l⟩⟩))] = some (.tp [.int .u8 0, .int .i64 0]) := by
    rw [h7, hE c r]
    unfold escR
    rw [he]
  have q1 : conf (Shp.tp [Sp.int .u8, Sp.int .i64]) (.tp [.int .u8 0, .int .i64 0]) = true := rfl
  have q2 : (intAt (g (List.tail (tplAt (.tp [.int .u8 0, .int .i64 0]))) 0) == Int.ofNat 0) = true := rfl
  unfold tree_quotedL
  simp only [h1, h2, h3, h4, h6, h8, q1, q2]
theorem quotedL_loop {c0 : Nat} (hE : ∀ N, c0 ≤ N → EscOk (orcF cfgS N)) (l : B) (hl : l.length < 1000000000) (e : ByteArray) (n : Int) (b : Bool) : ∀ (m N i : Nat) (o : B), l.length - i < m → i ≤ l.length → o.length ≤ i → m + c0 ≤ N →
    (∀ w k, qt m (l.drop i) = some (w, k) → (orcF cfgS N).loop 11 B11_0 0 T11_0 [.str ⟨⟨l⟩⟩, .str e, .int .i64 n, .bool b, .int .i64 (Int.ofNat i), .im (mkB o)] [] = some (.ret [.c (.str ⟨⟨o ++ w⟩⟩), .c (.int .i64 (Int.ofNat (i + k))), .c (.bool true)] [])) ∧
    (qt m (l.drop i) = none → ∃ j o', (orcF cfgS N).loop 11 B11_0 0 T11_0 [.str ⟨⟨l⟩⟩, .str e, .int .i64 n, .bool b, .int .i64 (Int.ofNat i), .im (mkB o)] [] = some (.brk [.str ⟨⟨l⟩⟩, .str e, .int .i64 n, .bool b, .int .i64 (Int.ofNat j), .im o'] []))
  | 0, N, i, o, h, _, _, _ => by omega
  | m + 1, N, i, o, h1, h2, h3, h4 => by
    obtain ⟨N, rfl⟩ : ∃ K, N = K + 1 := ⟨N - 1, by omega⟩
    have step : (orcF cfgS (N + 1)).loop 11 B11_0 0 T11_0 [.str ⟨⟨l⟩⟩, .str e, .int .i64 n, .bool b, .int .i64 (Int.ofNat i), .im (mkB o)] [] = tree_quotedL (orcF cfgS N) ⟨⟨l⟩⟩ e n b i (mkB o) := eq_quotedL (orcF cfgS N) ⟨⟨l⟩⟩ e n b i (mkB o)
    rw [step]
    have hN := hE N (by omega)
    cases hd : l.drop i with
    | nil =>
      have hi : l.length ≤ i := List.drop_eq_nil_iff.mp hd
      refine ⟨fun w k hq => (by cases hq), fun _ => ⟨i, _, quotedL_end _ l e n b i _ hi⟩⟩
    | cons c r =>
      have hi : i < l.length := by
        have := congrArg List.length hd
        rw [List.length_drop, List.length_cons] at this
        omega
      rw [qt_cons]
      by_cases h34 : c = 34
      · subst h34
        have hc : l[i]? = some 34 := by
          have := List.getElem?_drop (xs := l) (i := i) (j := 0)
          rw [hd] at this
          simpa using this.symm
        rw [if_pos rfl, quotedL_quote _ l e n b i o hi hl hc]
        refine ⟨fun w k hq => ?_, fun hq => by cases hq⟩
        injection hq with hq; injection hq with e1 e2
        subst e1; subst e2
        rw [List.append_nil]
      · rw [if_neg h34]
        cases he : esc (c :: r) with
        | none => exact ⟨fun w k hq => (by cases hq), fun _ => ⟨i, _, quotedL_none _ hN l e n b i _ c r hi hd h34 he⟩⟩
        | some p =>
          obtain ⟨d, k⟩ := p
          obtain ⟨k1, k2⟩ := esc_pos he
          have hlen : (c :: r).length = l.length - i := by rw [← hd, List.length_drop]
          have hdd : (c :: r).drop k = l.drop (i + k) := by rw [← hd, List.drop_drop]
          rw [quotedL_next _ hN l e n b i o c r d k hi hl h3 (by omega) hd h34 he k1]
          dsimp only
          rw [hdd]
          obtain ⟨g1, g2⟩ := quotedL_loop hE l hl e n b m N (i + k) (o ++ [d]) (by omega) (by omega) (by rw [List.length_append, List.length_singleton]; omega) (by omega)
          cases hq : qt m (l.drop (i + k)) with
          | none => exact ⟨fun w k' hq' => (by cases hq'), fun _ => g2 hq⟩
          | some q =>
            obtain ⟨w, j⟩ := q
            refine ⟨fun w' k' hq' => ?_, fun hq' => by cases hq'⟩
            injection hq' with hq'; injection hq' with e1 e2
            subst e1; subst e2
            rw [g1 w j hq, List.append_assoc, Nat.add_assoc]
            rfl
end Go.Proofs.YtealapdmffhbdaaGreatDoor.S
namespace Go.Proofs.YtealapdmffhbdaaGreatDoor.S
open Go Go.Ev Go.Proofs.YtealapdmffhbdaaGreatDoor Go.Ev.Ws
/-- quoted's answer -/
def qtV (l : B) : CV := match qt (l.length + 1) l with
  | some (w, k) => .tp [.str ⟨⟨w⟩⟩, .int .i64 (Int.ofNat k), .bool true]
  | none => .tp [.str ⟨⟨[]⟩⟩, .int .i64 (Int.ofNat 0), .bool false]
theorem quoted_ok {c0 : Nat} (hE : ∀ N, c0 ≤ N → EscOk (orcF cfgS N)) (l : B) (hl : l.length < 1000000000) (N : Nat) (hN : l.length + 1 + c0 ≤ N) : (orcF cfgS (N + 1)).clo 11 [.str ⟨⟨l⟩⟩] = some (qtV l) := by
  refine clo_of (by kernel_rfl) (by kernel_rfl) ?_
  show closed (evBodyF cfgS (orcF cfgS N) 11 [.c (.str ⟨⟨l⟩⟩)] []) = _
  rw [eq_quoted]
  obtain ⟨g1, g2⟩ := quotedL_loop hE l hl ⟨⟨[]⟩⟩ 0 false (l.length + 1) N 0 [] (by omega) (by omega) (by simp) hN
  rw [List.drop_zero] at g1 g2
  unfold qtV
  cases hq : qt (l.length + 1) l with
  | some p =>
    obtain ⟨w, k⟩ := p
    have h := g1 w k hq
    have h : (orcF cfgS N).loop 11 B11_0 0 T11_0 [.str ⟨⟨l⟩⟩, .str ⟨⟨[]⟩⟩, .int .i64 (Int.ofNat 0), .bool false, .int .i64 (Int.ofNat 0), .im []] [] = _ := h
    unfold tree_quoted
    rw [h]
    show closed (some (AV.c (.tp [.str ⟨⟨[] ++ w⟩⟩, .int .i64 (Int.ofNat (0 + k)), .bool true]), [])) = _
    rw [List.nil_append, Nat.zero_add]
    rfl
  | none =>
    obtain ⟨j, o', h⟩ := g2 hq
    have h : (orcF cfgS N).loop 11 B11_0 0 T11_0 [.str ⟨⟨l⟩⟩, .str ⟨⟨[]⟩⟩, .int .i64 (Int.ofNat 0), .bool false, .int .i64 (Int.ofNat 0), .im []] [] = _ := h
    unfold tree_quoted
    rw [h]
    rfl
end Go.Proofs.YtealapdmffhbdaaGreatDoor.S
namespace Go.Proofs.YtealapdmffhbdaaGreatDoor.S
open Go Go.Ev Go.Proofs.YtealapdmffhbdaaGreatDoor Go.Ev.Ws
theorem wordsI_loop (l : B) (hl : l.length < 1000000000) (x : List CV) (n : Int) (j : Nat) (out : List CV) : ∀ (m N i : Nat), l.length - i < m → i ≤ l.length → m ≤ N →
    (Ws.noQ ((l.drop i).take (bare (l.drop i))) = true → (orcF cfgS N).loop 6 B6_2 2 T6_2 [.str ⟨⟨l⟩⟩, .im x, .int .i64 n, .int .i64 (Int.ofNat i), .int .i64 (Int.ofNat j), .im out] [] = some (.brk [.str ⟨⟨l⟩⟩, .im x, .int .i64 n, .int .i64 (Int.ofNat (i + bare (l.drop i))), .int .i64 (Int.ofNat j), .im out] [])) ∧
    (Ws.noQ ((l.drop i).take (bare (l.drop i))) = false → (orcF cfgS N).loop 6 B6_2 2 T6_2 [.str ⟨⟨l⟩⟩, .im x, .int .i64 n, .int .i64 (Int.ofNat i), .int .i64 (Int.ofNat j), .im out] [] = some (.ret [.c (.im []), .c (.int .i64 (Int.ofNat 19))] []))
  | 0, N, i, h, _, _ => by omega
  | m + 1, N, i, h1, h2, h4 => by
    obtain ⟨N, rfl⟩ : ∃ K, N = K + 1 := ⟨N - 1, by omega⟩
    have step : (orcF cfgS (N + 1)).loop 6 B6_2 2 T6_2 [.str ⟨⟨l⟩⟩, .im x, .int .i64 n, .int .i64 (Int.ofNat i), .int .i64 (Int.ofNat j), .im out] [] = tree_wordsI (orcF cfgS N) ⟨⟨l⟩⟩ x n i j out := eq_wordsI (orcF cfgS N) ⟨⟨l⟩⟩ x n i j out
    rw [step]
    cases hd : l.drop i with
    | nil =>
      have hi : l.length ≤ i := List.drop_eq_nil_iff.mp hd
      have t1 : ltI (Int.ofNat i) (Int.ofNat (ByteArray.size ⟨⟨l⟩⟩)) = false := ltI_ge hi
      refine ⟨fun _ => ?_, fun h => by cases h⟩
      unfold tree_wordsI
      simp only [t1]
      rfl
    | cons c r =>
      have hi : i < l.length := by
        have := congrArg List.length hd
        rw [List.length_drop, List.length_cons] at this
        omega
      have hc : l[i]? = some c := by
        have := List.getElem?_drop (xs := l) (i := i) (j := 0)
        rw [hd] at this
        simpa using this.symm
      have t1 : ltI (Int.ofNat i) (Int.ofNat (ByteArray.size ⟨⟨l⟩⟩)) = true := ltI_lt hi
      have t2 : Nat.blt i (ByteArray.size ⟨⟨l⟩⟩) = true := Nat.blt_eq.mpr hi
      have t3 : (Array.toList (ByteArray.data ⟨⟨l⟩⟩))[i]? = some c := hc
      have q (k : Nat) (hk : k < 256) : (Int.ofNat (UInt8.toNat c) != Int.ofNat k) = !(c == UInt8.ofNat k) := by
        show (!(Int.ofNat (UInt8.toNat c) == Int.ofNat k)) = _
        rw [beqU hk]
      by_cases h32 : c = 32
      · subst h32
        have t4 : (Int.ofNat (UInt8.toNat 32) != Int.ofNat 32) = false := rfl
        refine ⟨fun _ => ?_, fun h => by cases h⟩
        unfold tree_wordsI
        simp only [t1, t2, t3, t4]
        rfl
      · have t4 : (Int.ofNat (UInt8.toNat c) != Int.ofNat 32) = true := by
          rw [q 32 (by omega)]
          have : (c == UInt8.ofNat 32) = false := beq_eq_false_iff_ne.mpr h32
          rw [this]; rfl
        by_cases h9 : c = 9
        · subst h9
          have t5 : (Int.ofNat (UInt8.toNat 9) != Int.ofNat 9) = false := rfl
          refine ⟨fun _ => ?_, fun h => by cases h⟩
          unfold tree_wordsI
          simp only [t1, t2, t3, t4, t5]
          rfl
        · have t5 : (Int.ofNat (UInt8.toNat c) != Int.ofNat 9) = true := by
            rw [q 9 (by omega)]
            have : (c == UInt8.ofNat 9) = false := beq_eq_false_iff_ne.mpr h9
            rw [this]; rfl
          have hbl : Ws.blank c = false := by
            unfold Ws.blank
            rw [beq_eq_false_iff_ne.mpr h32, beq_eq_false_iff_ne.mpr h9]; rfl
          have hbare : bare (c :: r) = bare r + 1 := by
            show (if Ws.blank c = true then 0 else bare r + 1) = _
            rw [hbl]; rfl
          have hr : r = l.drop (i + 1) := by rw [← List.drop_drop, hd]; rfl
          rw [hbare, List.take_succ_cons]
          by_cases h34 : c = 34
          · subst h34
            have t6 : (Int.ofNat (UInt8.toNat 34) == Int.ofNat 34) = true := rfl
            refine ⟨fun h => (by cases h), fun _ => ?_⟩
            unfold tree_wordsI
            simp only [t1, t2, t3, t4, t5, t6]
          · have t6 : (Int.ofNat (UInt8.toNat c) == Int.ofNat 34) = false := by rw [beqU (by omega)]; exact beq_eq_false_iff_ne.mpr h34
            have h5 : IntKind.i64.wrap (Int.ofNat i + Int.ofNat 1) = Int.ofNat (i + 1) := wrapS (n := i + 1) (by omega)
            have e1 : tree_wordsI (orcF cfgS N) ⟨⟨l⟩⟩ x n i j out = (orcF cfgS N).loop 6 B6_2 2 T6_2 [.str ⟨⟨l⟩⟩, .im x, .int .i64 n, .int .i64 (Int.ofNat (i + 1)), .int .i64 (Int.ofNat j), .im out] [] := by
              unfold tree_wordsI
              simp only [t1, t2, t3, t4, t5, t6, h5]
            have hq : Ws.noQ (c :: r.take (bare r)) = Ws.noQ (r.take (bare r)) := by
              unfold Ws.noQ
              rw [List.all_cons, beq_eq_false_iff_ne.mpr h34]
              rfl
            obtain ⟨g1, g2⟩ := wordsI_loop l hl x n j out m N (i + 1) (by omega) (by omega) (by omega)
            rw [← hr] at g1 g2
            rw [e1, hq]
            refine ⟨fun h => ?_, fun h => g2 h⟩
            rw [g1 h, Nat.add_assoc, Nat.add_comm 1 (bare r)]
end Go.Proofs.YtealapdmffhbdaaGreatDoor.S
namespace Go.Proofs.YtealapdmffhbdaaGreatDoor.S
open Go Go.Ev Go.Proofs.YtealapdmffhbdaaGreatDoor Go.Ev.Ws
/-- rows of bytes as values -/
def strs (o : List B) : List CV := o.map fun w => .str ⟨⟨w⟩⟩
theorem strs_push (o : List B) (w : B) : strs o ++ [.str ⟨⟨w⟩⟩] = strs (o ++ [w]) := by simp [strs]
theorem strs_len (o : List B) : (strs o).length = o.length := by simp [strs]
theorem drop_at {l : B} {i : Nat} {c : UInt8} {r : B} (hd : l.drop i = c :: r) : i < l.length ∧ l[i]? = some c ∧ r = l.drop (i + 1) ∧ r.length + 1 + i = l.length := by
  have h1 := congrArg List.length hd
  rw [List.length_drop, List.length_cons] at h1
  have h2 := List.getElem?_drop (xs := l) (i := i) (j := 0)
  rw [hd] at h2
  refine ⟨by omega, by simpa using h2.symm, by rw [← List.drop_drop, hd]; rfl, by omega⟩
section
variable (Q : Orc) (l : B) (x : List CV) (n : Int) (i : Nat) (o : List B)
/-- the loop of Words, at a place -/
noncomputable abbrev goW (i : Nat) (out : List CV) : Option LR := Q.loop 6 B6_0 0 T6_0 [.str ⟨⟨l⟩⟩, .im x, .int .i64 n, .int .i64 (Int.ofNat i), .im out] []
abbrev noW : Option LR := some (.ret [.c (.im []), .c (.int .i64 (Int.ofNat 19))] [])
theorem beqC (c : UInt8) (k : Nat) (hk : k < 256) (h : c ≠ UInt8.ofNat k) : (Int.ofNat (UInt8.toNat c) == Int.ofNat k) = false := by rw [beqU hk]; exact beq_eq_false_iff_ne.mpr h
theorem bneC (c : UInt8) (k : Nat) (hk : k < 256) : (Int.ofNat (UInt8.toNat c) != Int.ofNat k) = !(c == UInt8.ofNat k) := by
  show (!(Int.ofNat (UInt8.toNat c) == Int.ofNat k)) = _
  rw [beqU hk]
theorem words_end (out : List CV) (h : l.length ≤ i) : tree_wordsL Q ⟨⟨l⟩⟩ x n i out = some (.brk [.str ⟨⟨l⟩⟩, .im x, .int .i64 n, .int .i64 (Int.ofNat i), .im out] []) := by
  have t1 : ltI (Int.ofNat i) (Int.ofNat (ByteArray.size ⟨⟨l⟩⟩)) = false := ltI_ge h
  unfold tree_wordsL
  simp only [t1]
theorem words_blank (out : List CV) (hl : l.length < 1000000000) {c : UInt8} {r : B} (hd : l.drop i = c :: r) (hb : Ws.blank c = true) : tree_wordsL Q ⟨⟨l⟩⟩ x n i out = goW Q l x n (i + 1) out := by
  obtain ⟨hi, hc, _, _⟩ := drop_at hd
  have t1 : ltI (Int.ofNat i) (Int.ofNat (ByteArray.size ⟨⟨l⟩⟩)) = true := ltI_lt hi
  have t2 : Nat.blt i (ByteArray.size ⟨⟨l⟩⟩) = true := Nat.blt_eq.mpr hi
  have t3 : (Array.toList (ByteArray.data ⟨⟨l⟩⟩))[i]? = some c := hc
  have h5 : IntKind.i64.wrap (Int.ofNat i + Int.ofNat 1) = Int.ofNat (i + 1) := wrapS (n := i + 1) (by omega)
  by_cases h32 : c = 32
  · subst h32
    have t4 : (Int.ofNat (UInt8.toNat 32) == Int.ofNat 32) = true := rfl
    unfold tree_wordsL
    simp only [t1, t2, t3, t4, h5]
  · have t4 := beqC c 32 (by omega) h32
    have h9 : c = 9 := by
      unfold Ws.blank at hb
      rw [beq_eq_false_iff_ne.mpr h32] at hb
      simpa using hb
    subst h9
    have t5 : (Int.ofNat (UInt8.toNat 9) == Int.ofNat 9) = true := rfl
    unfold tree_wordsL
    simp only [t1, t2, t3, t4, t5, h5]
theorem words_remark (out : List CV) {r : B} (hd : l.drop i = 35 :: r) : tree_wordsL Q ⟨⟨l⟩⟩ x n i out = some (.brk [.str ⟨⟨l⟩⟩, .im x, .int .i64 n, .int .i64 (Int.ofNat i), .im out] []) := by
  obtain ⟨hi, hc, _, _⟩ := drop_at hd
  have t1 : ltI (Int.ofNat i) (Int.ofNat (ByteArray.size ⟨⟨l⟩⟩)) = true := ltI_lt hi
  have t2 : Nat.blt i (ByteArray.size ⟨⟨l⟩⟩) = true := Nat.blt_eq.mpr hi
  have t3 : (Array.toList (ByteArray.data ⟨⟨l⟩⟩))[i]? = some 35 := hc
  have t4 : (Int.ofNat (UInt8.toNat 35) == Int.ofNat 32) = false := rfl
  have t5 : (Int.ofNat (UInt8.toNat 35) == Int.ofNat 9) = false := rfl
  have t6 : (Int.ofNat (UInt8.toNat 35) == Int.ofNat 35) = true := rfl
  unfold tree_wordsL
  simp only [t1, t2, t3, t4, t5, t6]
theorem words_bad (out : List CV) (hl : l.length < 1000000000) {r : B} (hd : l.drop i = 34 :: r) (hq : Q.clo 11 [.str ⟨⟨r⟩⟩] = some (.tp [.str ⟨⟨[]⟩⟩, .int .i64 (Int.ofNat 0), .bool false])) : tree_wordsL Q ⟨⟨l⟩⟩ x n i out = noW := by
  obtain ⟨hi, hc, hr, hrl⟩ := drop_at hd
  have t1 : ltI (Int.ofNat i) (Int.ofNat (ByteArray.size ⟨⟨l⟩⟩)) = true := ltI_lt hi
  have t2 : Nat.blt i (ByteArray.size ⟨⟨l⟩⟩) = true := Nat.blt_eq.mpr hi
  have t3 : (Array.toList (ByteArray.data ⟨⟨l⟩⟩))[i]? = some 34 := hc
  have t4 : (Int.ofNat (UInt8.toNat 34) == Int.ofNat 32) = false := rfl
  have t5 : (Int.ofNat (UInt8.toNat 34) == Int.ofNat 9) = false := rfl
  have t6 : (Int.ofNat (UInt8.toNat 34) == Int.ofNat 35) = false := rfl
  have t7 : (Int.ofNat (UInt8.toNat 34) == Int.ofNat 34) = true := rfl
  have h5 : IntKind.i64.wrap (Int.ofNat i + Int.ofNat 1) = Int.ofNat (i + 1) := wrapS (n := i + 1) (by omega)
  have t8 : Nat.ble (i + 1) (ByteArray.size ⟨⟨l⟩⟩) = true := Nat.ble_eq.mpr (by show i + 1 ≤ l.length; omega)
  have hcut : cutS ⟨⟨l⟩⟩ (i + 1) (ByteArray.size ⟨⟨l⟩⟩) = ⟨⟨r⟩⟩ := by
    show (⟨⟨(l.drop (i + 1)).take (l.length - (i + 1))⟩⟩ : ByteArray) = _
    rw [List.take_of_length_le (by rw [List.length_drop]; omega), hr]
  have t9 : Q.clo 11 [.str (cutS ⟨⟨l⟩⟩ (i + 1) (ByteArray.size ⟨⟨l⟩⟩))] = some (.tp [.str ⟨⟨[]⟩⟩, .int .i64 (Int.ofNat 0), .bool false]) := by rw [hcut]; exact hq
  have q1 : conf (Shp.tp [Sp.str, Sp.int .i64, Sp.bool]) (.tp [.str ⟨⟨[]⟩⟩, .int .i64 (Int.ofNat 0), .bool false]) = true := rfl
  have q2 : (!boolAt (g (List.tail (List.tail (tplAt (.tp [.str ⟨⟨[]⟩⟩, .int .i64 (Int.ofNat 0), .bool false])))) 0)) = true := rfl
  unfold tree_wordsL
  simp only [t1, t2, t3, t4, t5, t6, t7, h5, t8, t9, q1, q2]
theorem words_quote (hl : l.length < 1000000000) {r w : B} {k : Nat} (hd : l.drop i = 34 :: r) (hq : Q.clo 11 [.str ⟨⟨r⟩⟩] = some (.tp [.str ⟨⟨w⟩⟩, .int .i64 (Int.ofNat k), .bool true])) (hk : k ≤ r.length) (ho : o.length ≤ i) :
    tree_wordsL Q ⟨⟨l⟩⟩ x n i (strs o) = if endOk (r.drop k) then goW Q l x n (i + 1 + k) (strs (o ++ [w])) else noW := by
  obtain ⟨hi, hc, hr, hrl⟩ := drop_at hd
  have t1 : ltI (Int.ofNat i) (Int.ofNat (ByteArray.size ⟨⟨l⟩⟩)) = true := ltI_lt hi
  have t2 : Nat.blt i (ByteArray.size ⟨⟨l⟩⟩) = true := Nat.blt_eq.mpr hi
  have t3 : (Array.toList (ByteArray.data ⟨⟨l⟩⟩))[i]? = some 34 := hc
  have t4 : (Int.ofNat (UInt8.toNat 34) == Int.ofNat 32) = false := rfl
  have t5 : (Int.ofNat (UInt8.toNat 34) == Int.ofNat 9) = false := rfl
  have t6 : (Int.ofNat (UInt8.toNat 34) == Int.ofNat 35) = false := rfl
  have t7 : (Int.ofNat (UInt8.toNat 34) == Int.ofNat 34) = true := rfl
  have h5 : IntKind.i64.wrap (Int.ofNat i + Int.ofNat 1) = Int.ofNat (i + 1) := wrapS (n := i + 1) (by omega)
  have t8 : Nat.ble (i + 1) (ByteArray.size ⟨⟨l⟩⟩) = true := Nat.ble_eq.mpr (by show i + 1 ≤ l.length; omega)
  have hcut : cutS ⟨⟨l⟩⟩ (i + 1) (ByteArray.size ⟨⟨l⟩⟩) = ⟨⟨r⟩⟩ := by
    show (⟨⟨(l.drop (i + 1)).take (l.length - (i + 1))⟩⟩ : ByteArray) = _
    rw [List.take_of_length_le (by rw [List.length_drop]; omega), hr]
  have t9 : Q.clo 11 [.str (cutS ⟨⟨l⟩⟩ (i + 1) (ByteArray.size ⟨⟨l⟩⟩))] = some (.tp [.str ⟨⟨w⟩⟩, .int .i64 (Int.ofNat k), .bool true]) := by rw [hcut]; exact hq
  have q1 : conf (Shp.tp [Sp.str, Sp.int .i64, Sp.bool]) (.tp [.str ⟨⟨w⟩⟩, .int .i64 (Int.ofNat k), .bool true]) = true := rfl
  have q2 : (!boolAt (g (List.tail (List.tail (tplAt (.tp [.str ⟨⟨w⟩⟩, .int .i64 (Int.ofNat k), .bool true])))) 0)) = false := rfl
  have q3 : intAt (g (List.tail (tplAt (.tp [.str ⟨⟨w⟩⟩, .int .i64 (Int.ofNat k), .bool true]))) 0) = Int.ofNat k := rfl
  have q4 : strAt (g (tplAt (.tp [.str ⟨⟨w⟩⟩, .int .i64 (Int.ofNat k), .bool true])) 0) = ⟨⟨w⟩⟩ := rfl
  have w2 : IntKind.i64.wrap (Int.ofNat 1 + Int.ofNat k) = Int.ofNat (1 + k) := wrapS (n := 1 + k) (by omega)
  have w3 : IntKind.i64.wrap (Int.ofNat i + Int.ofNat (1 + k)) = Int.ofNat (i + (1 + k)) := wrapS (n := i + (1 + k)) (by omega)
  have t10 : (Bool.true && Nat.ble ((strs o).length + List.length ([CV.str ⟨⟨w⟩⟩])) 2147483648 && Bool.true) = true := by
    rw [strs_len, Bool.true_and, Bool.and_true]
    exact Nat.ble_eq.mpr (by show o.length + 1 ≤ _; omega)
  have hgo : goW Q l x n (i + (1 + k)) (strs o ++ [.str ⟨⟨w⟩⟩]) = goW Q l x n (i + 1 + k) (strs (o ++ [w])) := by rw [strs_push, Nat.add_assoc]
  have hdk : r.drop k = l.drop (i + (1 + k)) := by rw [hr, List.drop_drop]; congr 1; omega
  rw [← hgo]
  cases he : r.drop k with
  | nil =>
    have t11 : ltI (Int.ofNat (i + (1 + k))) (Int.ofNat (ByteArray.size ⟨⟨l⟩⟩)) = false := ltI_ge (by
      have := congrArg List.length he
      rw [List.length_drop, List.length_nil] at this
      show l.length ≤ _
      omega)
    unfold tree_wordsL
    simp only [t1, t2, t3, t4, t5, t6, t7, h5, t8, t9, q1, q2, q3, q4, w2, w3, t10, t11]
    rfl
  | cons d e =>
    rw [hdk] at he
    obtain ⟨hi2, hc2, _, _⟩ := drop_at he
    have t11 : ltI (Int.ofNat (i + (1 + k))) (Int.ofNat (ByteArray.size ⟨⟨l⟩⟩)) = true := ltI_lt hi2
    have t12 : Nat.blt (i + (1 + k)) (ByteArray.size ⟨⟨l⟩⟩) = true := Nat.blt_eq.mpr hi2
    have t13 : (Array.toList (ByteArray.data ⟨⟨l⟩⟩))[i + (1 + k)]? = some d := hc2
    have hend : endOk (d :: e) = Ws.blank d := rfl
    rw [hend]
    by_cases h32 : d = 32
    · subst h32
      have t14 : (Int.ofNat (UInt8.toNat 32) != Int.ofNat 32) = false := rfl
      unfold tree_wordsL
      simp only [t1, t2, t3, t4, t5, t6, t7, h5, t8, t9, q1, q2, q3, q4, w2, w3, t10, t11, t12, t13, t14]
      rfl
    · have t14 : (Int.ofNat (UInt8.toNat d) != Int.ofNat 32) = true := by
        rw [bneC d 32 (by omega)]
        have : (d == UInt8.ofNat 32) = false := beq_eq_false_iff_ne.mpr h32
        rw [this]; rfl
      by_cases h9 : d = 9
      · subst h9
        have t15 : (Int.ofNat (UInt8.toNat 9) != Int.ofNat 9) = false := rfl
        unfold tree_wordsL
        simp only [t1, t2, t3, t4, t5, t6, t7, h5, t8, t9, q1, q2, q3, q4, w2, w3, t10, t11, t12, t13, t14, t15]
        rfl
      · have t15 : (Int.ofNat (UInt8.toNat d) != Int.ofNat 9) = true := by
          rw [bneC d 9 (by omega)]
          have : (d == UInt8.ofNat 9) = false := beq_eq_false_iff_ne.mpr h9
          rw [this]; rfl
        have hbl : Ws.blank d = false := by
          unfold Ws.blank
          rw [beq_eq_false_iff_ne.mpr h32, beq_eq_false_iff_ne.mpr h9]; rfl
        rw [hbl]
        unfold tree_wordsL
        simp only [t1, t2, t3, t4, t5, t6, t7, h5, t8, t9, q1, q2, q3, q4, w2, w3, t10, t11, t12, t13, t14, t15]
        rfl
theorem words_bare {c : UInt8} {r : B} (hl : l.length < 1000000000) (hd : l.drop i = c :: r) (hb : Ws.blank c = false) (h35 : c ≠ 35) (h34 : c ≠ 34) (ho : o.length ≤ i)
    (h1 : Ws.noQ ((l.drop i).take (bare (l.drop i))) = true → Q.loop 6 B6_2 2 T6_2 [.str ⟨⟨l⟩⟩, .im x, .int .i64 n, .int .i64 (Int.ofNat i), .int .i64 (Int.ofNat i), .im (strs o)] [] = some (.brk [.str ⟨⟨l⟩⟩, .im x, .int .i64 n, .int .i64 (Int.ofNat (i + bare (l.drop i))), .int .i64 (Int.ofNat i), .im (strs o)] []))
    (h2 : Ws.noQ ((l.drop i).take (bare (l.drop i))) = false → Q.loop 6 B6_2 2 T6_2 [.str ⟨⟨l⟩⟩, .im x, .int .i64 n, .int .i64 (Int.ofNat i), .int .i64 (Int.ofNat i), .im (strs o)] [] = some (.ret [.c (.im []), .c (.int .i64 (Int.ofNat 19))] [])) :
    tree_wordsL Q ⟨⟨l⟩⟩ x n i (strs o) = if Ws.noQ ((l.drop i).take (bare (l.drop i))) then goW Q l x n (i + bare (l.drop i)) (strs (o ++ [(l.drop i).take (bare (l.drop i))])) else noW := by
  obtain ⟨hi, hc, hr, hrl⟩ := drop_at hd
  have t1 : ltI (Int.ofNat i) (Int.ofNat (ByteArray.size ⟨⟨l⟩⟩)) = true := ltI_lt hi
  have t2 : Nat.blt i (ByteArray.size ⟨⟨l⟩⟩) = true := Nat.blt_eq.mpr hi
  have t3 : (Array.toList (ByteArray.data ⟨⟨l⟩⟩))[i]? = some c := hc
  have h32 : c ≠ 32 := by rintro rfl; cases hb
  have h9 : c ≠ 9 := by rintro rfl; cases hb
  have t4 := beqC c 32 (by omega) h32
  have t5 := beqC c 9 (by omega) h9
  have t6 := beqC c 35 (by omega) h35
  have t7 := beqC c 34 (by omega) h34
  have hbl : bare (l.drop i) ≤ (l.drop i).length := by rw [hd]; exact (bare_pos hb).2
  rw [List.length_drop] at hbl
  cases hq : Ws.noQ ((l.drop i).take (bare (l.drop i))) with
  | false =>
    have t8 := h2 hq
    have q1 : (confA [Sp.im, Sp.int .i64] [.c (.im []), .c (.int .i64 (Int.ofNat 19))] && confO [] []) = true := rfl
    unfold tree_wordsL
    simp only [t1, t2, t3, t4, t5, t6, t7, t8, q1]
    rfl
  | true =>
    have t8 := h1 hq
    generalize hbb : bare (l.drop i) = b at *
    have q1 : (confL [Sp.str, Sp.im, Sp.int .i64, Sp.int .i64, Sp.int .i64, Sp.im] [.str ⟨⟨l⟩⟩, .im x, .int .i64 n, .int .i64 (Int.ofNat (i + b)), .int .i64 (Int.ofNat i), .im (strs o)] && confO [] []) = true := rfl
    have q2 : intAt (g (List.tail (List.tail (List.tail [.str ⟨⟨l⟩⟩, .im x, .int .i64 n, .int .i64 (Int.ofNat (i + b)), .int .i64 (Int.ofNat i), .im (strs o)]))) 0) = Int.ofNat (i + b) := rfl
    have q3 : strAt (g [.str ⟨⟨l⟩⟩, .im x, .int .i64 n, .int .i64 (Int.ofNat (i + b)), .int .i64 (Int.ofNat i), .im (strs o)] 0) = ⟨⟨l⟩⟩ := rfl
    have q4 : intAt (g (List.tail (List.tail (List.tail (List.tail [.str ⟨⟨l⟩⟩, .im x, .int .i64 n, .int .i64 (Int.ofNat (i + b)), .int .i64 (Int.ofNat i), .im (strs o)])))) 0) = Int.ofNat i := rfl
    have q5 : lstOf (CV.im (imAt (g (List.tail (List.tail (List.tail (List.tail (List.tail [.str ⟨⟨l⟩⟩, .im x, .int .i64 n, .int .i64 (Int.ofNat (i + b)), .int .i64 (Int.ofNat i), .im (strs o)]))))) 0))) = strs o := rfl
    have q6 : imAt (g (List.tail [.str ⟨⟨l⟩⟩, .im x, .int .i64 n, .int .i64 (Int.ofNat (i + b)), .int .i64 (Int.ofNat i), .im (strs o)]) 0) = x := rfl
    have q7 : intAt (g (List.tail (List.tail [.str ⟨⟨l⟩⟩, .im x, .int .i64 n, .int .i64 (Int.ofNat (i + b)), .int .i64 (Int.ofNat i), .im (strs o)])) 0) = n := rfl
    have t9 : Nat.ble (i + b) (ByteArray.size ⟨⟨l⟩⟩) = true := Nat.ble_eq.mpr (by show i + b ≤ l.length; omega)
    have t10 : Nat.ble i (i + b) = true := Nat.ble_eq.mpr (by omega)
    have hcut : cutS ⟨⟨l⟩⟩ i (i + b) = ⟨⟨(l.drop i).take b⟩⟩ := by
      show (⟨⟨(l.drop i).take (i + b - i)⟩⟩ : ByteArray) = _
      rw [Nat.add_sub_cancel_left]
    have t11 : (Bool.true && Nat.ble ((strs o).length + List.length ([CV.str (cutS ⟨⟨l⟩⟩ i (i + b))])) 2147483648 && Bool.true) = true := by
      rw [strs_len, Bool.true_and, Bool.and_true]
      exact Nat.ble_eq.mpr (by show o.length + 1 ≤ _; omega)
    unfold tree_wordsL
    simp only [t1, t2, t3, t4, t5, t6, t7, t8, q1, q2, q3, q4, q5, q6, q7, t9, t10, t11]
    rw [hcut, strs_push]
    rfl
end
end Go.Proofs.YtealapdmffhbdaaGreatDoor.S
namespace Go.Proofs.YtealapdmffhbdaaGreatDoor.S
open Go Go.Ev Go.Proofs.YtealapdmffhbdaaGreatDoor Go.Ev.Ws
theorem wordsL_loop {c0 : Nat} (hE : ∀ N, c0 ≤ N → EscOk (orcF cfgS N)) (l : B) (hl : l.length < 1000000000) (x : List CV) (n : Int) : ∀ (m N i : Nat) (o : List B), l.length - i < m → i ≤ l.length → o.length ≤ i → m + l.length + c0 + 2 ≤ N →
    (∀ ws, words m (l.drop i) = some ws → ∃ j : Nat, goW (orcF cfgS N) l x n i (strs o) = some (.brk [.str ⟨⟨l⟩⟩, .im x, .int .i64 n, .int .i64 (Int.ofNat j), .im (strs (o ++ ws))] [])) ∧
    (words m (l.drop i) = none → goW (orcF cfgS N) l x n i (strs o) = noW)
  | 0, N, i, o, h, _, _, _ => by omega
  | m + 1, N, i, o, h1, h2, h3, h4 => by
    obtain ⟨N, rfl⟩ : ∃ K, N = K + 2 := ⟨N - 2, by omega⟩
    have step : ∀ out, goW (orcF cfgS (N + 1 + 1)) l x n i out = tree_wordsL (orcF cfgS (N + 1)) ⟨⟨l⟩⟩ x n i out := fun out => eq_wordsL (orcF cfgS (N + 1)) ⟨⟨l⟩⟩ x n i out
    rw [step]
    cases hd : l.drop i with
    | nil =>
      have hi : l.length ≤ i := List.drop_eq_nil_iff.mp hd
      rw [words_end _ l x n i _ hi]
      refine ⟨fun ws hw => ?_, fun hw => by cases hw⟩
      injection hw with hw
      subst hw
      exact ⟨i, by rw [List.append_nil]⟩
    | cons c r =>
      obtain ⟨hi, hc, hr, hrl⟩ := drop_at hd
      rw [words_cons]
      cases hb : Ws.blank c with
      | true =>
        rw [words_blank _ l x n i _ hl hd hb, if_pos rfl, hr]
        exact wordsL_loop hE l hl x n m (N + 1) (i + 1) o (by omega) (by omega) (by omega) (by omega)
      | false =>
        rw [if_neg (by simp)]
        by_cases h35 : c = 35
        · subst h35
          rw [words_remark _ l x n i _ hd, if_pos rfl]
          refine ⟨fun ws hw => ?_, fun hw => by cases hw⟩
          injection hw with hw
          subst hw
          exact ⟨i, by rw [List.append_nil]⟩
        · rw [if_neg h35]
          by_cases h34 : c = 34
          · subst h34
            rw [if_pos rfl]
            have hq := quoted_ok hE r (by omega) N (by omega)
            unfold qtV at hq
            cases hqt : qt (r.length + 1) r with
            | none =>
              rw [hqt] at hq
              rw [words_bad _ l x n i _ hl hd hq]
              exact ⟨fun ws hw => (by cases hw), fun _ => rfl⟩
            | some p =>
              obtain ⟨w, k⟩ := p
              rw [hqt] at hq
              obtain ⟨k1, k2⟩ := qt_len _ _ hqt
              rw [words_quote _ l x n i o hl hd hq k2 h3]
              dsimp only
              cases he : endOk (r.drop k) with
              | false => exact ⟨fun ws hw => (by simp at hw), fun _ => by simp⟩
              | true =>
                have hdd : r.drop k = l.drop (i + 1 + k) := by rw [hr, List.drop_drop]
                rw [if_pos rfl, if_pos rfl, hdd]
                obtain ⟨g1, g2⟩ := wordsL_loop hE l hl x n m (N + 1) (i + 1 + k) (o ++ [w]) (by omega) (by omega) (by rw [List.length_append, List.length_singleton]; omega) (by omega)
                cases hw : words m (l.drop (i + 1 + k)) with
                | none => exact ⟨fun ws h => (by cases h), fun _ => g2 hw⟩
                | some ws =>
                  refine ⟨fun ws' h => ?_, fun h => by cases h⟩
                  injection h with h
                  subst h
                  obtain ⟨j, hj⟩ := g1 ws hw
                  exact ⟨j, by rw [hj, List.append_assoc]; rfl⟩
          · rw [if_neg h34]
            obtain ⟨a1, a2⟩ := wordsI_loop l hl x n i (strs o) (l.length - i + 1) (N + 1) i (by omega) (by omega) (by omega)
            rw [words_bare _ l x n i o hl hd hb h35 h34 h3 a1 a2, hd]
            obtain ⟨b1, b2⟩ := bare_pos (r := r) hb
            have hlen : (c :: r).length = l.length - i := by rw [← hd, List.length_drop]
            cases hq : Ws.noQ ((c :: r).take (bare (c :: r))) with
            | false => exact ⟨fun ws hw => (by simp at hw), fun _ => by simp⟩
            | true =>
              have hdd : (c :: r).drop (bare (c :: r)) = l.drop (i + bare (c :: r)) := by rw [← hd, List.drop_drop]
              rw [if_pos rfl, if_pos rfl, hdd]
              obtain ⟨g1, g2⟩ := wordsL_loop hE l hl x n m (N + 1) (i + bare (c :: r)) (o ++ [(c :: r).take (bare (c :: r))]) (by omega) (by omega) (by rw [List.length_append, List.length_singleton]; omega) (by omega)
              cases hw : words m (l.drop (i + bare (c :: r))) with
              | none => exact ⟨fun ws h => (by cases h), fun _ => g2 hw⟩
              | some ws =>
                refine ⟨fun ws' h => ?_, fun h => by cases h⟩
                injection h with h
                subst h
                obtain ⟨j, hj⟩ := g1 ws hw
                exact ⟨j, by rw [hj, List.append_assoc]; rfl⟩
/-- the answer of Words -/
def wdV (l : B) : CV := match words (l.length + 1) l with
  | some ws => .tp [.im (strs ws), .int .i64 (Int.ofNat 0)]
  | none => .tp [.im [], .int .i64 (Int.ofNat 19)]
theorem words_ok {c0 : Nat} (hE : ∀ N, c0 ≤ N → EscOk (orcF cfgS N)) (l : B) (hl : l.length < 1000000000) (N : Nat) (hN : 2 * l.length + c0 + 3 ≤ N) : (orcF cfgS (N + 1)).clo 6 [.str ⟨⟨l⟩⟩] = some (wdV l) := by
  refine clo_of (by kernel_rfl) (by kernel_rfl) ?_
  show closed (evBodyF cfgS (orcF cfgS N) 6 [.c (.str ⟨⟨l⟩⟩)] []) = _
  rw [eq_words]
  obtain ⟨g1, g2⟩ := wordsL_loop hE l hl [] 0 (l.length + 1) N 0 [] (by omega) (by omega) (by simp) (by omega)
  rw [List.drop_zero] at g1 g2
  unfold wdV
  cases hw : words (l.length + 1) l with
  | some ws =>
    obtain ⟨j, h⟩ := g1 ws hw
    have h : (orcF cfgS N).loop 6 B6_0 0 T6_0 [.str ⟨⟨l⟩⟩, .im [], .int .i64 (Int.ofNat 0), .int .i64 (Int.ofNat 0), .im []] [] = _ := h
    unfold tree_words
    rw [h]
    rfl
  | none =>
    have h := g2 hw
    have h : (orcF cfgS N).loop 6 B6_0 0 T6_0 [.str ⟨⟨l⟩⟩, .im [], .int .i64 (Int.ofNat 0), .int .i64 (Int.ofNat 0), .im []] [] = _ := h
    unfold tree_words
    rw [h]
    rfl
end Go.Proofs.YtealapdmffhbdaaGreatDoor.S
namespace Go.Proofs.YtealapdmffhbdaaGreatDoor.S
open Go Go.Ev Go.Proofs.YtealapdmffhbdaaGreatDoor Go.Ev.Ws
def sameI (r : Option CV) (z : Int) : Bool := match r with | some (.int .i64 y) => y == z | _ => false
theorem sameI_eq {r : Option CV} {z : Int} (h : sameI r z = true) : r = some (.int .i64 z) := by
  unfold sameI at h
  split at h
  · rw [eq_of_beq h]
  · cases h
theorem ib_all (N : Nat) : (List.range 256).all (fun k => sameI ((orcF cfgS (N + 6)).clo 29 [.str HEX, .int .u8 (Int.ofNat (UInt8.ofNat k).toNat)]) (hexZ (UInt8.ofNat k))) = true := by kernel_rfl
theorem hexOk (N : Nat) (h : 6 ≤ N) : HexOk (orcF cfgS N) := fun c => by
  obtain ⟨M, rfl⟩ : ∃ M, N = M + 6 := ⟨N - 6, by omega⟩
  have h := List.all_eq_true.mp (ib_all M) c.toNat (List.mem_range.mpr c.toNat_lt)
  rw [UInt8.ofNat_toNat] at h
  exact sameI_eq h
theorem escOk (N : Nat) (h : 7 ≤ N) : EscOk (orcF cfgS N) := fun c r => by
  obtain ⟨M, rfl⟩ : ∃ M, N = M + 1 := ⟨N - 1, by omega⟩
  refine clo_of (by kernel_rfl) (by kernel_rfl) ?_
  show closed (evBodyF cfgS (orcF cfgS M) 17 [.c (.str ⟨⟨c :: r⟩⟩)] []) = _
  rw [eq_escape, escape_tree _ (hexOk M (by omega))]
  rfl
end Go.Proofs.YtealapdmffhbdaaGreatDoor.S
namespace Go.Proofs.YtealapdmffhbdaaGreatDoor.S
open Go Go.Ev Go.Proofs.YtealapdmffhbdaaGreatDoor Go.Ev.Ws
theorem leI_nat (a b : Nat) : leI (Int.ofNat a) (Int.ofNat b) = Nat.ble a b := rfl
theorem ble_no {a b : Nat} (h : b < a) : Nat.ble a b = false := Bool.eq_false_iff.mpr fun h' => by have := Nat.ble_eq.mp h'; omega
section
variable (Q : Orc) (l : B) (e : ByteArray) (n : Int) (i : Nat) (o : B)
/-- the loop of the reference's quoted, at a place -/
noncomputable abbrev goR (i : Nat) (out : List CV) : Option LR := Q.loop 12 B12_0 0 T12_0 [.str ⟨⟨l⟩⟩, .int .i64 (Int.ofNat i), .str e, .int .i64 n, .im out] []
abbrev badR : Option LR := some (.ret [.c (.str ⟨⟨[]⟩⟩), .c (.int .i64 (Int.negSucc 0))] [])
def HexQ (Q : Orc) : Prop := ∀ c : UInt8, Q.clo 18 [.int .u8 (Int.ofNat c.toNat)] = some (.int .i64 (hexZ c))
theorem rq_end (out : List CV) (h : l.drop i = [] ∨ ∃ r, l.drop i = 34 :: r) : tree_rquotedL Q ⟨⟨l⟩⟩ i e n out = some (.brk [.str ⟨⟨l⟩⟩, .int .i64 (Int.ofNat i), .str e, .int .i64 n, .im out] []) := by
  rcases h with h | ⟨r, hd⟩
  · have t1 : ltI (Int.ofNat i) (Int.ofNat (ByteArray.size ⟨⟨l⟩⟩)) = false := ltI_ge (List.drop_eq_nil_iff.mp h)
    unfold tree_rquotedL
    simp only [t1]
  · obtain ⟨hi, hc, _, _⟩ := drop_at hd
    have t1 : ltI (Int.ofNat i) (Int.ofNat (ByteArray.size ⟨⟨l⟩⟩)) = true := ltI_lt hi
    have t2 : Nat.blt i (ByteArray.size ⟨⟨l⟩⟩) = true := Nat.blt_eq.mpr hi
    have t3 : (Array.toList (ByteArray.data ⟨⟨l⟩⟩))[i]? = some 34 := hc
    have t4 : (Int.ofNat (UInt8.toNat 34) != Int.ofNat 34) = false := rfl
    unfold tree_rquotedL
    simp only [t1, t2, t3, t4]
theorem mkB_push (o : B) (b : UInt8) : mkB o ++ [.int .u8 (Int.ofNat b.toNat)] = mkB (o ++ [b]) := by simp [mkB]
theorem rq_round (hX : HexQ Q) (hl : l.length < 1000000000) {c : UInt8} {r : B} (hd : l.drop i = c :: r) (h34 : c ≠ 34) (ho : o.length ≤ i) :
    tree_rquotedL Q ⟨⟨l⟩⟩ i e n (mkB o) = match esc (c :: r) with
      | some (b, k) => goR Q l e n (i + k) (mkB (o ++ [b]))
      | none => badR := by
  obtain ⟨hi, hc, hr, hrl⟩ := drop_at hd
  have t1 : ltI (Int.ofNat i) (Int.ofNat (ByteArray.size ⟨⟨l⟩⟩)) = true := ltI_lt hi
  have t2 : Nat.blt i (ByteArray.size ⟨⟨l⟩⟩) = true := Nat.blt_eq.mpr hi
  have t3 : (Array.toList (ByteArray.data ⟨⟨l⟩⟩))[i]? = some c := hc
  have t4 : (Int.ofNat (UInt8.toNat c) != Int.ofNat 34) = true := by
    rw [bneC c 34 (by omega)]
    have : (c == UInt8.ofNat 34) = false := beq_eq_false_iff_ne.mpr h34
    rw [this]; rfl
  have w1 : IntKind.i64.wrap (Int.ofNat i + Int.ofNat 1) = Int.ofNat (i + 1) := wrapS (n := i + 1) (by omega)
  have w2 : IntKind.i64.wrap (Int.ofNat i + Int.ofNat 2) = Int.ofNat (i + 2) := wrapS (n := i + 2) (by omega)
  have w3 : IntKind.i64.wrap (Int.ofNat i + Int.ofNat 3) = Int.ofNat (i + 3) := wrapS (n := i + 3) (by omega)
  have w4 : IntKind.i64.wrap (Int.ofNat (i + 2) + Int.ofNat 2) = Int.ofNat (i + 4) := wrapS (n := i + 4) (by omega)
  have tX : ∀ X : CV, (Bool.true && Nat.ble ((mkB o).length + List.length [X]) 2147483648 && Bool.true) = true := fun X => by
    rw [Bool.true_and, Bool.and_true]
    exact Nat.ble_eq.mpr (by show (mkB o).length + 1 ≤ _; unfold mkB; rw [List.length_map]; omega)
  have tY : (Bool.true && Nat.ble ((mkB o).length + 1) 2147483648 && Bool.true) = true := tX (.bool true)
  by_cases h92 : c = 92
  · subst h92
    have t5 : (Int.ofNat (UInt8.toNat 92) != Int.ofNat 92) = false := rfl
    cases hr2 : r with
    | nil =>
      subst hr2
      have t6 : leI (Int.ofNat (ByteArray.size ⟨⟨l⟩⟩)) (Int.ofNat (i + 1)) = true := Nat.ble_eq.mpr (by show l.length ≤ i + 1; simp at hrl; omega)
      unfold tree_rquotedL
      simp only [t1, t2, t3, t4, t5, w1, t6]
      rfl
    | cons d r2 =>
      subst hr2
      obtain ⟨hi1, hc1, hr1, hrl1⟩ := drop_at hr.symm
      have t6 : leI (Int.ofNat (ByteArray.size ⟨⟨l⟩⟩)) (Int.ofNat (i + 1)) = false := ble_no hi1
      have t7 : Nat.blt (i + 1) (ByteArray.size ⟨⟨l⟩⟩) = true := Nat.blt_eq.mpr hi1
      have t8 : (Array.toList (ByteArray.data ⟨⟨l⟩⟩))[i + 1]? = some d := hc1
      by_cases d92 : d = 92
      · subst d92
        have u1 : (Int.ofNat (UInt8.toNat 92) == Int.ofNat 92) = true := rfl
        have u2 : (Int.ofNat (UInt8.toNat 92) == Int.ofNat 34) = false := rfl
        unfold tree_rquotedL
        simp only [t1, t2, t3, t4, t5, w1, w2, t6, t7, t8, u1, u2, tX, mkB_push]
        rfl
      by_cases d34 : d = 34
      · subst d34
        have u1 : (Int.ofNat (UInt8.toNat 34) == Int.ofNat 92) = false := rfl
        have u2 : (Int.ofNat (UInt8.toNat 34) == Int.ofNat 34) = true := rfl
        unfold tree_rquotedL
        simp only [t1, t2, t3, t4, t5, w1, w2, t6, t7, t8, u1, u2, tX, mkB_push]
        rfl
      have u1 := beqC d 92 (by omega) d92
      have u2 := beqC d 34 (by omega) d34
      by_cases d110 : d = 110
      · subst d110
        have u3 : (Int.ofNat (UInt8.toNat 110) == Int.ofNat 110) = true := rfl
        have e1 : mkB o ++ [.int .u8 (Int.ofNat 10)] = mkB (o ++ [10]) := mkB_push o 10
        unfold tree_rquotedL
        simp only [t1, t2, t3, t4, t5, w1, w2, t6, t7, t8, u1, u2, u3, tY, e1]
        rfl
      have u3 := beqC d 110 (by omega) d110
      by_cases d116 : d = 116
      · subst d116
        have u4 : (Int.ofNat (UInt8.toNat 116) == Int.ofNat 116) = true := rfl
        have e1 : mkB o ++ [.int .u8 (Int.ofNat 9)] = mkB (o ++ [9]) := mkB_push o 9
        unfold tree_rquotedL
        simp only [t1, t2, t3, t4, t5, w1, w2, t6, t7, t8, u1, u2, u3, u4, tY, e1]
        rfl
      have u4 := beqC d 116 (by omega) d116
      by_cases d120 : d = 120
      · subst d120
        have u5 : (Int.ofNat (UInt8.toNat 120) == Int.ofNat 120) = true := rfl
        match hr3 : r2 with
        | [] =>
          have t9 : leI (Int.ofNat (ByteArray.size ⟨⟨l⟩⟩)) (Int.ofNat (i + 3)) = true := Nat.ble_eq.mpr (by show l.length ≤ i + 3; simp at hrl1; omega)
          unfold tree_rquotedL
          simp only [t1, t2, t3, t4, t5, w1, w2, w3, t6, t7, t8, u1, u2, u3, u4, u5, t9]
          rfl
        | [a] =>
          have t9 : leI (Int.ofNat (ByteArray.size ⟨⟨l⟩⟩)) (Int.ofNat (i + 3)) = true := Nat.ble_eq.mpr (by show l.length ≤ i + 3; simp at hrl1; omega)
          unfold tree_rquotedL
          simp only [t1, t2, t3, t4, t5, w1, w2, w3, t6, t7, t8, u1, u2, u3, u4, u5, t9]
          rfl
        | a :: b :: r4 =>
          obtain ⟨hi2, hc2, hr2', hrl2⟩ := drop_at hr1.symm
          obtain ⟨hi3, hc3, _, _⟩ := drop_at hr2'.symm
          have t9 : leI (Int.ofNat (ByteArray.size ⟨⟨l⟩⟩)) (Int.ofNat (i + 3)) = false := ble_no hi3
          have t10 : Nat.blt (i + 2) (ByteArray.size ⟨⟨l⟩⟩) = true := Nat.blt_eq.mpr hi2
          have t11 : (Array.toList (ByteArray.data ⟨⟨l⟩⟩))[i + 2]? = some a := hc2
          have t12 : Nat.blt (i + 3) (ByteArray.size ⟨⟨l⟩⟩) = true := Nat.blt_eq.mpr hi3
          have t13 : (Array.toList (ByteArray.data ⟨⟨l⟩⟩))[i + 3]? = some b := hc3
          have ha := hX a
          have hb := hX b
          have q1 : ∀ z : Int, conf (Shp.one (Sp.int .i64)) (.int .i64 z) = true := fun z => rfl
          have q2 : ∀ z : Int, intAt (.int .i64 z) = z := fun z => rfl
          have he : esc (92 :: 120 :: a :: b :: r4) = (match hexv a, hexv b with
            | some x, some y => some (UInt8.ofNat (16 * x + y), 4)
            | _, _ => none) := rfl
          rw [he]
          cases hva : hexv a with
          | none =>
            have za : hexZ a = -1 := by unfold hexZ; rw [hva]
            have z1 : ltI (hexZ a) (Int.ofNat 0) = true := by rw [za]; rfl
            unfold tree_rquotedL
            simp only [t1, t2, t3, t4, t5, w1, w2, w3, t6, t7, t8, u1, u2, u3, u4, u5, t9, t10, t11, ha, q1, q2, z1]
          | some xa =>
            have za : hexZ a = Int.ofNat xa := by unfold hexZ; rw [hva]; rfl
            have z1 : ltI (hexZ a) (Int.ofNat 0) = false := by rw [za]; exact ltI_ge (Nat.zero_le _)
            cases hvb : hexv b with
            | none =>
              have zb : hexZ b = -1 := by unfold hexZ; rw [hvb]
              have z2 : ltI (hexZ b) (Int.ofNat 0) = true := by rw [zb]; rfl
              unfold tree_rquotedL
              simp only [t1, t2, t3, t4, t5, w1, w2, w3, t6, t7, t8, u1, u2, u3, u4, u5, t9, t10, t11, t12, t13, ha, hb, q1, q2, z1, z2]
            | some xb =>
              have zb : hexZ b = Int.ofNat xb := by unfold hexZ; rw [hvb]; rfl
              have z2 : ltI (hexZ b) (Int.ofNat 0) = false := by rw [zb]; exact ltI_ge (Nat.zero_le _)
              have hw : IntKind.u8.wrap (IntKind.i64.wrap (IntKind.i64.wrap (Int.ofNat 16 * hexZ a) + hexZ b)) = Int.ofNat (UInt8.ofNat (16 * xa + xb)).toNat := by
                rw [za, zb]
                exact wrapX ⟨xa, hexv_lt hva⟩ ⟨xb, hexv_lt hvb⟩
              unfold tree_rquotedL
              simp only [t1, t2, t3, t4, t5, w1, w2, w3, w4, t6, t7, t8, u1, u2, u3, u4, u5, t9, t10, t11, t12, t13, ha, hb, q1, q2, z1, z2, hw, tX, mkB_push]
      have u5 := beqC d 120 (by omega) d120
      have he : esc (92 :: d :: r2) = none := by simp only [esc, if_true, d92, d34, d110, d116, d120, or_self, if_false]
      rw [he]
      unfold tree_rquotedL
      simp only [t1, t2, t3, t4, t5, w1, w2, w3, t6, t7, t8, u1, u2, u3, u4, u5]
  · have t5 : (Int.ofNat (UInt8.toNat c) != Int.ofNat 92) = true := by
      rw [bneC c 92 (by omega)]
      have : (c == UInt8.ofNat 92) = false := beq_eq_false_iff_ne.mpr h92
      rw [this]; rfl
    have he : esc (c :: r) = some (c, 1) := by simp only [esc, if_neg h92]
    rw [he]
    unfold tree_rquotedL
    simp only [t1, t2, t3, t4, t5, w1, tX, mkB_push]
end
end Go.Proofs.YtealapdmffhbdaaGreatDoor.S
namespace Go.Proofs.YtealapdmffhbdaaGreatDoor.S
open Go Go.Ev Go.Proofs.YtealapdmffhbdaaGreatDoor Go.Ev.Ws
theorem hexQ (N : Nat) (h : 1 ≤ N) : HexQ (orcF cfgS N) := fun c => by
  obtain ⟨M, rfl⟩ : ∃ M, N = M + 1 := ⟨N - 1, by omega⟩
  exact hex_ok M c
abbrev brkR (l : B) (e : ByteArray) (n : Int) (j : Nat) (out : List CV) : Option LR := some (.brk [.str ⟨⟨l⟩⟩, .int .i64 (Int.ofNat j), .str e, .int .i64 n, .im out] [])
theorem rquotedL_loop (l : B) (hl : l.length < 1000000000) (e : ByteArray) (n : Int) : ∀ (m N i : Nat) (o : B), l.length - i < m → i ≤ l.length → o.length ≤ i → m + 1 ≤ N →
    (∀ w k, qt m (l.drop i) = some (w, k) → goR (orcF cfgS N) l e n i (mkB o) = brkR l e n (i + k - 1) (mkB (o ++ w)) ∧ 1 ≤ k ∧ i + k - 1 < l.length) ∧
    (qt m (l.drop i) = none → (∃ j out, l.length ≤ j ∧ goR (orcF cfgS N) l e n i (mkB o) = brkR l e n j out) ∨ goR (orcF cfgS N) l e n i (mkB o) = badR)
  | 0, N, i, o, h, _, _, _ => by omega
  | m + 1, N, i, o, h1, h2, h3, h4 => by
    obtain ⟨N, rfl⟩ : ∃ K, N = K + 1 := ⟨N - 1, by omega⟩
    have step : goR (orcF cfgS (N + 1)) l e n i (mkB o) = tree_rquotedL (orcF cfgS N) ⟨⟨l⟩⟩ i e n (mkB o) := eq_rquotedL (orcF cfgS N) ⟨⟨l⟩⟩ i e n (mkB o)
    rw [step]
    cases hd : l.drop i with
    | nil =>
      have hi : l.length ≤ i := List.drop_eq_nil_iff.mp hd
      rw [rq_end _ l e n i _ (.inl hd)]
      exact ⟨fun w k hq => (by cases hq), fun _ => .inl ⟨i, _, hi, rfl⟩⟩
    | cons c r =>
      obtain ⟨hi, hc, hr, hrl⟩ := drop_at hd
      rw [qt_cons]
      by_cases h34 : c = 34
      · subst h34
        rw [rq_end _ l e n i _ (.inr ⟨r, hd⟩), if_pos rfl]
        refine ⟨fun w k hq => ?_, fun hq => by cases hq⟩
        injection hq with hq; injection hq with e1 e2
        subst e1; subst e2
        rw [List.append_nil]
        exact ⟨rfl, Nat.le_refl _, by omega⟩
      · rw [if_neg h34, rq_round _ l e n i o (hexQ N (by omega)) hl hd h34 h3]
        cases he : esc (c :: r) with
        | none => exact ⟨fun w k hq => (by cases hq), fun _ => .inr rfl⟩
        | some p =>
          obtain ⟨d, k⟩ := p
          obtain ⟨k1, k2⟩ := esc_pos he
          have hlen : (c :: r).length = l.length - i := by rw [← hd, List.length_drop]
          have hdd : (c :: r).drop k = l.drop (i + k) := by rw [← hd, List.drop_drop]
          dsimp only
          rw [hdd]
          obtain ⟨g1, g2⟩ := rquotedL_loop l hl e n m N (i + k) (o ++ [d]) (by omega) (by omega) (by rw [List.length_append, List.length_singleton]; omega) (by omega)
          cases hq : qt m (l.drop (i + k)) with
          | none => exact ⟨fun w k' hq' => (by cases hq'), fun _ => g2 hq⟩
          | some q =>
            obtain ⟨w, j⟩ := q
            refine ⟨fun w' k' hq' => ?_, fun hq' => by cases hq'⟩
            injection hq' with hq'; injection hq' with e1 e2
            subst e1; subst e2
            obtain ⟨a1, a2, a3⟩ := g1 w j hq
            refine ⟨?_, by omega, by omega⟩
            rw [a1, List.append_assoc, Nat.add_assoc]
            rfl
/-- the reference's quoted's answer, at a place where a quote stands -/
def rqV (i : Nat) (r : B) : CV := match qt (r.length + 1) r with
  | some (w, k) => .tp [.str ⟨⟨w⟩⟩, .int .i64 (Int.ofNat (i + 1 + k))]
  | none => .tp [.str ⟨⟨[]⟩⟩, .int .i64 (Int.negSucc 0)]
theorem rquoted_ok (l : B) (hl : l.length < 1000000000) (i : Nat) (r : B) (hd : l.drop i = 34 :: r) (N : Nat) (hN : r.length + 2 ≤ N) : (orcF cfgS (N + 1)).clo 12 [.str ⟨⟨l⟩⟩, .int .i64 (Int.ofNat i)] = some (rqV i r) := by
  refine clo_of (by kernel_rfl) (by kernel_rfl) ?_
  show closed (evBodyF cfgS (orcF cfgS N) 12 [.c (.str ⟨⟨l⟩⟩), .c (.int .i64 (Int.ofNat i))] []) = _
  rw [eq_rquoted]
  obtain ⟨hi, hc, hr, hrl⟩ := drop_at hd
  have w1 : IntKind.i64.wrap (Int.ofNat i + Int.ofNat 1) = Int.ofNat (i + 1) := wrapS (n := i + 1) (by omega)
  obtain ⟨g1, g2⟩ := rquotedL_loop l hl ⟨⟨[]⟩⟩ (Int.ofNat 0) (r.length + 1) N (i + 1) [] (by omega) (by omega) (by simp) (by omega)
  rw [← hr] at g1 g2
  unfold rqV
  cases hq : qt (r.length + 1) r with
  | some p =>
    obtain ⟨w, k⟩ := p
    obtain ⟨h, k1, k2⟩ := g1 w k hq
    rw [List.nil_append] at h
    have h : (orcF cfgS N).loop 12 B12_0 0 T12_0 [.str ⟨⟨l⟩⟩, .int .i64 (IntKind.i64.wrap (Int.ofNat i + Int.ofNat 1)), .str ⟨⟨[]⟩⟩, .int .i64 (Int.ofNat 0), .im []] [] = brkR l ⟨⟨[]⟩⟩ (Int.ofNat 0) (i + 1 + k - 1) (mkB w) := by rw [w1]; exact h
    generalize hj : i + 1 + k - 1 = j at h k2
    have q1 : (confL [Sp.str, Sp.int .i64, Sp.str, Sp.int .i64, Sp.im] [.str ⟨⟨l⟩⟩, .int .i64 (Int.ofNat j), .str ⟨⟨[]⟩⟩, .int .i64 (Int.ofNat 0), .im (mkB w)] && confO [] []) = true := rfl
    have q2 : strAt (g [.str ⟨⟨l⟩⟩, .int .i64 (Int.ofNat j), .str ⟨⟨[]⟩⟩, .int .i64 (Int.ofNat 0), .im (mkB w)] 0) = ⟨⟨l⟩⟩ := rfl
    have q3 : intAt (g (List.tail [.str ⟨⟨l⟩⟩, .int .i64 (Int.ofNat j), .str ⟨⟨[]⟩⟩, .int .i64 (Int.ofNat 0), .im (mkB w)]) 0) = Int.ofNat j := rfl
    have q4 : bytesOf (lstOf (CV.im (imAt (g (List.tail (List.tail (List.tail (List.tail [.str ⟨⟨l⟩⟩, .int .i64 (Int.ofNat j), .str ⟨⟨[]⟩⟩, .int .i64 (Int.ofNat 0), .im (mkB w)])))) 0)))) = some w := bytesOf_mkB w
    have t1 : leI (Int.ofNat (ByteArray.size ⟨⟨l⟩⟩)) (Int.ofNat j) = false := ble_no k2
    have w2 : IntKind.i64.wrap (Int.ofNat j + Int.ofNat 1) = Int.ofNat (j + 1) := wrapS (n := j + 1) (by omega)
    have ej : j + 1 = i + 1 + k := by omega
    unfold tree_rquoted
    simp only [h, q1, q2, q3, q4, t1, w2, ej]
    rfl
  | none =>
    rcases g2 hq with ⟨j, out, hj, h⟩ | h
    · have h : (orcF cfgS N).loop 12 B12_0 0 T12_0 [.str ⟨⟨l⟩⟩, .int .i64 (IntKind.i64.wrap (Int.ofNat i + Int.ofNat 1)), .str ⟨⟨[]⟩⟩, .int .i64 (Int.ofNat 0), .im []] [] = brkR l ⟨⟨[]⟩⟩ (Int.ofNat 0) j out := by rw [w1]; exact h
      have q1 : (confL [Sp.str, Sp.int .i64, Sp.str, Sp.int .i64, Sp.im] [.str ⟨⟨l⟩⟩, .int .i64 (Int.ofNat j), .str ⟨⟨[]⟩⟩, .int .i64 (Int.ofNat 0), .im out] && confO [] []) = true := rfl
      have q2 : strAt (g [.str ⟨⟨l⟩⟩, .int .i64 (Int.ofNat j), .str ⟨⟨[]⟩⟩, .int .i64 (Int.ofNat 0), .im out] 0) = ⟨⟨l⟩⟩ := rfl
      have q3 : intAt (g (List.tail [.str ⟨⟨l⟩⟩, .int .i64 (Int.ofNat j), .str ⟨⟨[]⟩⟩, .int .i64 (Int.ofNat 0), .im out]) 0) = Int.ofNat j := rfl
      have t1 : leI (Int.ofNat (ByteArray.size ⟨⟨l⟩⟩)) (Int.ofNat j) = true := Nat.ble_eq.mpr hj
      unfold tree_rquoted
      simp only [h, q1, q2, q3, t1]
      rfl
    · have h : (orcF cfgS N).loop 12 B12_0 0 T12_0 [.str ⟨⟨l⟩⟩, .int .i64 (IntKind.i64.wrap (Int.ofNat i + Int.ofNat 1)), .str ⟨⟨[]⟩⟩, .int .i64 (Int.ofNat 0), .im []] [] = badR := by rw [w1]; exact h
      unfold tree_rquoted
      rw [h]
      rfl
end Go.Proofs.YtealapdmffhbdaaGreatDoor.S
