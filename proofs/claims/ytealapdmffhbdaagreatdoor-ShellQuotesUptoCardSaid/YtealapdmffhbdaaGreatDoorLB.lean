import Derived.Test.YtealapdmffhbdaaGreatDoorLBQ
import Derived.Test.YtealapdmffhbdaaGreatDoorLBR
import Derived.Test.YtealapdmffhbdaaGreatDoorLY
import Derived.Test.YtealapdmffhbdaaGreatDoorSWK
import Derived.Test.YtealapdmffhbdaaGreatDoorEvE
set_option linter.unusedVariables false
set_option linter.unusedSectionVars false
set_option linter.unusedSimpArgs false
set_option linter.unnecessarySimpa false
namespace Go.Proofs.YtealapdmffhbdaaGreatDoor.S
open Go Go.Ev Go.Proofs.YtealapdmffhbdaaGreatDoor Go.Ev.Ws
theorem enc_le (c : UInt8) : (enc c).length ≤ 4 := by
  unfold enc
  repeat' split
  all_goals simp
theorem flat_le : ∀ l : B, (l.flatMap enc).length ≤ 4 * l.length
  | [] => Nat.le_refl 0
  | c :: l => by
    have h1 := flat_le l
    have h2 := enc_le c
    rw [List.flatMap_cons, List.length_append, List.length_cons]
    omega
noncomputable abbrev go_quote (Q : Orc) (l : B) (e : ByteArray) (i : Nat) (out : List CV) : Option LR := Q.loop 8 B8_0 0 T8_0 [.str e, .im (ofBytes ⟨⟨l⟩⟩), .int .i64 (Int.ofNat l.length), (.int .i64 (Int.ofNat i)), .im out] []
theorem quote_loop (l : B) (hl : l.length < 400000000) (e : ByteArray) : ∀ (m N i : Nat) (o : B), l.length - i < m → i ≤ l.length → o.length ≤ 4 * i + 1 → m ≤ N →
    ∃ j : Nat, go_quote (orcF cfgS N) l e i (mkB o) = some (.brk [.str e, .im (ofBytes ⟨⟨l⟩⟩), .int .i64 (Int.ofNat l.length), (.int .i64 (Int.ofNat j)), .im (mkB (o ++ (l.drop i).flatMap enc))] [])
  | 0, N, i, o, h, _, _, _ => by omega
  | m + 1, N, i, o, h1, h2, h3, h4 => by
    obtain ⟨N, rfl⟩ : ∃ K, N = K + 1 := ⟨N - 1, by omega⟩
    have step : go_quote (orcF cfgS (N + 1)) l e i (mkB o) = tree_quoteL (orcF cfgS N) e ⟨⟨l⟩⟩ (Int.ofNat l.length) i (mkB o) := eq_quoteL (orcF cfgS N) e ⟨⟨l⟩⟩ (Int.ofNat l.length) i (mkB o)
    rw [step]
    have sz : List.length (ofBytes ⟨⟨l⟩⟩) = l.length := by show (mkB l).length = _; unfold mkB; rw [List.length_map]
    cases hd : l.drop i with
    | nil =>
      have hi : l.length ≤ i := List.drop_eq_nil_iff.mp hd
      have t1 : ltI (Int.ofNat i) (Int.ofNat l.length) = false := ltI_ge hi
      refine ⟨i, ?_⟩
      unfold tree_quoteL
      simp only [sz, t1, List.flatMap_nil, List.append_nil]
    | cons c r =>
      obtain ⟨hi, hc, hr, hrl⟩ := drop_at hd
      have t1 : ltI (Int.ofNat i) (Int.ofNat l.length) = true := ltI_lt hi
      have t2 : Nat.blt i l.length = true := Nat.blt_eq.mpr hi
      have t3 : (ofBytes ⟨⟨l⟩⟩)[i]? = some (.int .u8 (Int.ofNat c.toNat)) := by
        show (mkB l)[i]? = _
        unfold mkB
        rw [List.getElem?_map, hc]
        rfl
      have t4 : (Bool.true && Nat.ble ((mkB o).length + (mkB (enc c)).length) 2147483648 && Bool.true) = true := by
        rw [Bool.true_and, Bool.and_true]
        have := enc_le c
        exact Nat.ble_eq.mpr (by unfold mkB; rw [List.length_map, List.length_map]; omega)
      have w1 : IntKind.i64.wrap (Int.ofNat i + Int.ofNat 1) = Int.ofNat (i + 1) := wrapS (n := i + 1) (by omega)
      have e1 : mkB o ++ mkB (enc c) = mkB (o ++ enc c) := by unfold mkB; rw [List.map_append]
      rw [rest_quoteL_eq, t3, eq_quoteR, round_quote]
      unfold spec_quote
      simp only [sz, t1, t2, t4, w1, e1]
      obtain ⟨j, hj⟩ := quote_loop l hl e m N (i + 1) (o ++ enc c) (by omega) (by omega) (by have := enc_le c; rw [List.length_append]; omega) (by omega)
      refine ⟨j, ?_⟩
      rw [List.flatMap_cons, ← List.append_assoc, hr]
      exact hj
theorem quote_tree (Q : Orc) (l X : B) (e : ByteArray) (j : Nat) (h : go_quote Q l ⟨⟨[]⟩⟩ 0 [.int .u8 (Int.ofNat 34)] = some (.brk [.str e, .im (ofBytes ⟨⟨l⟩⟩), .int .i64 (Int.ofNat l.length), (.int .i64 (Int.ofNat j)), .im (mkB X)] [])) (hX : X.length < 2000000000) : tree_quote Q ⟨⟨l⟩⟩ = some (.c (.str ⟨⟨X ++ [34]⟩⟩), []) := by
  have sz : List.length (ofBytes ⟨⟨l⟩⟩) = l.length := by show (mkB l).length = _; unfold mkB; rw [List.length_map]
  have e : tree_quote Q ⟨⟨l⟩⟩ = (match ((Bool.true && Nat.ble ((mkB X).length + 1) 2147483648) && Bool.true) with | false => none | true => (match bytesOf (mkB X ++ [.int .u8 (Int.ofNat 34)]) with | .none => none | .some y => some (.c (.str ⟨y.toArray⟩), []))) := by
    have h : Q.loop 8 B8_0 0 T8_0 _ [] = _ := h
    unfold tree_quote
    rw [sz, h]
    rfl
  have t4 : (Bool.true && Nat.ble ((mkB X).length + 1) 2147483648 && Bool.true) = true := by
    rw [Bool.true_and, Bool.and_true]
    exact Nat.ble_eq.mpr (by unfold mkB; rw [List.length_map]; omega)
  have e1 : mkB X ++ [.int .u8 (Int.ofNat 34)] = mkB (X ++ [34]) := mkB_push X 34
  rw [e, t4, e1, bytesOf_mkB]
theorem quote_ok (l : B) (hl : l.length < 400000000) (N : Nat) (hN : l.length + 1 ≤ N) : (orcF cfgS (N + 1)).clo 8 [.im (mkB l)] = some (.str ⟨⟨quote l⟩⟩) := by
  refine clo_of (by kernel_rfl) (by kernel_rfl) ?_
  show closed (evBodyF cfgS (orcF cfgS N) 8 [.c (.im (ofBytes ⟨⟨l⟩⟩))] []) = _
  have sz : List.length (ofBytes ⟨⟨l⟩⟩) = l.length := by show (mkB l).length = _; unfold mkB; rw [List.length_map]
  obtain ⟨j, h⟩ := quote_loop l hl ⟨⟨[]⟩⟩ (l.length + 1) N 0 [34] (by omega) (by omega) (by simp) (by omega)
  rw [List.drop_zero] at h
  have hX : ([34] ++ l.flatMap enc : B).length < 2000000000 := by
    have := flat_le l
    rw [List.length_append, List.length_singleton]
    omega
  rw [eq_quote, quote_tree (orcF cfgS N) l _ ⟨⟨[]⟩⟩ j h hX]
  rfl
noncomputable abbrev go_rquote (Q : Orc) (l : B) (e : ByteArray) (i : Nat) (out : List CV) : Option LR := Q.loop 9 B9_0 0 T9_0 [.im (ofBytes ⟨⟨l⟩⟩), .str e, .str HEX, (.int .i64 (Int.ofNat i)), .im out] []
theorem rquote_loop (l : B) (hl : l.length < 400000000) (e : ByteArray) : ∀ (m N i : Nat) (o : B), l.length - i < m → i ≤ l.length → o.length ≤ 4 * i + 1 → m ≤ N →
    ∃ j : Nat, go_rquote (orcF cfgS N) l e i (mkB o) = some (.brk [.im (ofBytes ⟨⟨l⟩⟩), .str e, .str HEX, (.int .i64 (Int.ofNat j)), .im (mkB (o ++ (l.drop i).flatMap enc))] [])
  | 0, N, i, o, h, _, _, _ => by omega
  | m + 1, N, i, o, h1, h2, h3, h4 => by
    obtain ⟨N, rfl⟩ : ∃ K, N = K + 1 := ⟨N - 1, by omega⟩
    have step : go_rquote (orcF cfgS (N + 1)) l e i (mkB o) = tree_rquoteL (orcF cfgS N) ⟨⟨l⟩⟩ e HEX i (mkB o) := eq_rquoteL (orcF cfgS N) ⟨⟨l⟩⟩ e HEX i (mkB o)
    rw [step]
    have sz : List.length (ofBytes ⟨⟨l⟩⟩) = l.length := by show (mkB l).length = _; unfold mkB; rw [List.length_map]
    cases hd : l.drop i with
    | nil =>
      have hi : l.length ≤ i := List.drop_eq_nil_iff.mp hd
      have t1 : ltI (Int.ofNat i) (Int.ofNat l.length) = false := ltI_ge hi
      refine ⟨i, ?_⟩
      unfold tree_rquoteL
      simp only [sz, t1, List.flatMap_nil, List.append_nil]
    | cons c r =>
      obtain ⟨hi, hc, hr, hrl⟩ := drop_at hd
      have t1 : ltI (Int.ofNat i) (Int.ofNat l.length) = true := ltI_lt hi
      have t2 : Nat.blt i l.length = true := Nat.blt_eq.mpr hi
      have t3 : (ofBytes ⟨⟨l⟩⟩)[i]? = some (.int .u8 (Int.ofNat c.toNat)) := by
        show (mkB l)[i]? = _
        unfold mkB
        rw [List.getElem?_map, hc]
        rfl
      have t4 : (Bool.true && Nat.ble ((mkB o).length + (mkB (enc c)).length) 2147483648 && Bool.true) = true := by
        rw [Bool.true_and, Bool.and_true]
        have := enc_le c
        exact Nat.ble_eq.mpr (by unfold mkB; rw [List.length_map, List.length_map]; omega)
      have w1 : IntKind.i64.wrap (Int.ofNat i + Int.ofNat 1) = Int.ofNat (i + 1) := wrapS (n := i + 1) (by omega)
      have e1 : mkB o ++ mkB (enc c) = mkB (o ++ enc c) := by unfold mkB; rw [List.map_append]
      rw [rest_rquoteL_eq, t3, eq_rquoteR, round_rquote]
      unfold spec_rquote
      simp only [sz, t1, t2, t4, w1, e1]
      obtain ⟨j, hj⟩ := rquote_loop l hl e m N (i + 1) (o ++ enc c) (by omega) (by omega) (by have := enc_le c; rw [List.length_append]; omega) (by omega)
      refine ⟨j, ?_⟩
      rw [List.flatMap_cons, ← List.append_assoc, hr]
      exact hj
theorem rquote_tree (Q : Orc) (l X : B) (e : ByteArray) (j : Nat) (h : go_rquote Q l ⟨⟨[]⟩⟩ 0 [.int .u8 (Int.ofNat 34)] = some (.brk [.im (ofBytes ⟨⟨l⟩⟩), .str e, .str HEX, (.int .i64 (Int.ofNat j)), .im (mkB X)] [])) (hX : X.length < 2000000000) : tree_rquote Q ⟨⟨l⟩⟩ = some (.c (.str ⟨⟨X ++ [34]⟩⟩), []) := by
  have sz : List.length (ofBytes ⟨⟨l⟩⟩) = l.length := by show (mkB l).length = _; unfold mkB; rw [List.length_map]
  have e : tree_rquote Q ⟨⟨l⟩⟩ = (match ((Bool.true && Nat.ble ((mkB X).length + 1) 2147483648) && Bool.true) with | false => none | true => (match bytesOf (mkB X ++ [.int .u8 (Int.ofNat 34)]) with | .none => none | .some y => some (.c (.str ⟨y.toArray⟩), []))) := by
    have h : Q.loop 9 B9_0 0 T9_0 _ [] = _ := h
    unfold tree_rquote
    erw [h]
    rfl
  have t4 : (Bool.true && Nat.ble ((mkB X).length + 1) 2147483648 && Bool.true) = true := by
    rw [Bool.true_and, Bool.and_true]
    exact Nat.ble_eq.mpr (by unfold mkB; rw [List.length_map]; omega)
  have e1 : mkB X ++ [.int .u8 (Int.ofNat 34)] = mkB (X ++ [34]) := mkB_push X 34
  rw [e, t4, e1, bytesOf_mkB]
theorem rquote_ok (l : B) (hl : l.length < 400000000) (N : Nat) (hN : l.length + 1 ≤ N) : (orcF cfgS (N + 1)).clo 9 [.im (mkB l)] = some (.str ⟨⟨quote l⟩⟩) := by
  refine clo_of (by kernel_rfl) (by kernel_rfl) ?_
  show closed (evBodyF cfgS (orcF cfgS N) 9 [.c (.im (ofBytes ⟨⟨l⟩⟩))] []) = _
  have sz : List.length (ofBytes ⟨⟨l⟩⟩) = l.length := by show (mkB l).length = _; unfold mkB; rw [List.length_map]
  obtain ⟨j, h⟩ := rquote_loop l hl ⟨⟨[]⟩⟩ (l.length + 1) N 0 [34] (by omega) (by omega) (by simp) (by omega)
  rw [List.drop_zero] at h
  have hX : ([34] ++ l.flatMap enc : B).length < 2000000000 := by
    have := flat_le l
    rw [List.length_append, List.length_singleton]
    omega
  rw [eq_rquote, rquote_tree (orcF cfgS N) l _ ⟨⟨[]⟩⟩ j h hX]
  rfl
end Go.Proofs.YtealapdmffhbdaaGreatDoor.S
namespace Go.Proofs.YtealapdmffhbdaaGreatDoor.S
open Go Go.Ev Go.Proofs.YtealapdmffhbdaaGreatDoor Go.Ev.Ws
theorem rwordsJ_loop (l : B) (hl : l.length < 1000000000) (x : List CV) (n : Int) (j : Nat) (out : List CV) : ∀ (m N i : Nat), l.length - i < m → i ≤ l.length → m ≤ N →
    (Ws.noQ ((l.drop i).take (bare (l.drop i))) = true → (orcF cfgS N).loop 7 B7_4 4 T7_4 [.str ⟨⟨l⟩⟩, .im x, .int .i64 n, .int .i64 (Int.ofNat i), .int .i64 (Int.ofNat j), .im out] [] = some (.brk [.str ⟨⟨l⟩⟩, .im x, .int .i64 n, .int .i64 (Int.ofNat (i + bare (l.drop i))), .int .i64 (Int.ofNat j), .im out] [])) ∧
    (Ws.noQ ((l.drop i).take (bare (l.drop i))) = false → (orcF cfgS N).loop 7 B7_4 4 T7_4 [.str ⟨⟨l⟩⟩, .im x, .int .i64 n, .int .i64 (Int.ofNat i), .int .i64 (Int.ofNat j), .im out] [] = some (.ret [.c (.im []), .c (.int .i64 (Int.ofNat 19))] []))
  | 0, N, i, h, _, _ => by omega
  | m + 1, N, i, h1, h2, h4 => by
    obtain ⟨N, rfl⟩ : ∃ K, N = K + 1 := ⟨N - 1, by omega⟩
    have step : (orcF cfgS (N + 1)).loop 7 B7_4 4 T7_4 [.str ⟨⟨l⟩⟩, .im x, .int .i64 n, .int .i64 (Int.ofNat i), .int .i64 (Int.ofNat j), .im out] [] = tree_rwordsJ (orcF cfgS N) ⟨⟨l⟩⟩ x n i j out := eq_rwordsJ (orcF cfgS N) ⟨⟨l⟩⟩ x n i j out
    rw [step]
    cases hd : l.drop i with
    | nil =>
      have hi : l.length ≤ i := List.drop_eq_nil_iff.mp hd
      have t1 : ltI (Int.ofNat i) (Int.ofNat (ByteArray.size ⟨⟨l⟩⟩)) = false := ltI_ge hi
      refine ⟨fun _ => ?_, fun h => by cases h⟩
      unfold tree_rwordsJ
      simp only [t1]
      rfl
    | cons c r =>
      have hi : i < l.length := by
        have := congrArg List.length hd
        rw [List.length_drop, List.length_cons] at this
        omega
      have hc : l[i]? = some c := by
        have := List.getElem?_drop (xs := l) (i := i) (j := 0)
        rw [hd] at this
        simpa using this.symm
      have t1 : ltI (Int.ofNat i) (Int.ofNat (ByteArray.size ⟨⟨l⟩⟩)) = true := ltI_lt hi
      have t2 : Nat.blt i (ByteArray.size ⟨⟨l⟩⟩) = true := Nat.blt_eq.mpr hi
      have t3 : (Array.toList (ByteArray.data ⟨⟨l⟩⟩))[i]? = some c := hc
      have q (k : Nat) (hk : k < 256) : (Int.ofNat (UInt8.toNat c) != Int.ofNat k) = !(c == UInt8.ofNat k) := by
        show (!(Int.ofNat (UInt8.toNat c) == Int.ofNat k)) = _
        rw [beqU hk]
      by_cases h32 : c = 32
      · subst h32
        have t4 : (Int.ofNat (UInt8.toNat 32) != Int.ofNat 32) = false := rfl
        refine ⟨fun _ => ?_, fun h => by cases h⟩
        unfold tree_rwordsJ
        simp only [t1, t2, t3, t4]
        rfl
      · have t4 : (Int.ofNat (UInt8.toNat c) != Int.ofNat 32) = true := by
          rw [q 32 (by omega)]
          have : (c == UInt8.ofNat 32) = false := beq_eq_false_iff_ne.mpr h32
          rw [this]; rfl
        by_cases h9 : c = 9
        · subst h9
          have t5 : (Int.ofNat (UInt8.toNat 9) != Int.ofNat 9) = false := rfl
          refine ⟨fun _ => ?_, fun h => by cases h⟩
          unfold tree_rwordsJ
          simp only [t1, t2, t3, t4, t5]
          rfl
        · have t5 : (Int.ofNat (UInt8.toNat c) != Int.ofNat 9) = true := by
            rw [q 9 (by omega)]
            have : (c == UInt8.ofNat 9) = false := beq_eq_false_iff_ne.mpr h9
            rw [this]; rfl
          have hbl : Ws.blank c = false := by
            unfold Ws.blank
            rw [beq_eq_false_iff_ne.mpr h32, beq_eq_false_iff_ne.mpr h9]; rfl
          have hbare : bare (c :: r) = bare r + 1 := by
            show (if Ws.blank c = true then 0 else bare r + 1) = _
            rw [hbl]; rfl
          have hr : r = l.drop (i + 1) := by rw [← List.drop_drop, hd]; rfl
          rw [hbare, List.take_succ_cons]
          by_cases h34 : c = 34
          · subst h34
            have t6 : (Int.ofNat (UInt8.toNat 34) == Int.ofNat 34) = true := rfl
            refine ⟨fun h => (by cases h), fun _ => ?_⟩
            unfold tree_rwordsJ
            simp only [t1, t2, t3, t4, t5, t6]
          · have t6 : (Int.ofNat (UInt8.toNat c) == Int.ofNat 34) = false := by rw [beqU (by omega)]; exact beq_eq_false_iff_ne.mpr h34
            have h5 : IntKind.i64.wrap (Int.ofNat i + Int.ofNat 1) = Int.ofNat (i + 1) := wrapS (n := i + 1) (by omega)
            have e1 : tree_rwordsJ (orcF cfgS N) ⟨⟨l⟩⟩ x n i j out = (orcF cfgS N).loop 7 B7_4 4 T7_4 [.str ⟨⟨l⟩⟩, .im x, .int .i64 n, .int .i64 (Int.ofNat (i + 1)), .int .i64 (Int.ofNat j), .im out] [] := by
              unfold tree_rwordsJ
              simp only [t1, t2, t3, t4, t5, t6, h5]
            have hq : Ws.noQ (c :: r.take (bare r)) = Ws.noQ (r.take (bare r)) := by
              unfold Ws.noQ
              rw [List.all_cons, beq_eq_false_iff_ne.mpr h34]
              rfl
            obtain ⟨g1, g2⟩ := rwordsJ_loop l hl x n j out m N (i + 1) (by omega) (by omega) (by omega)
            rw [← hr] at g1 g2
            rw [e1, hq]
            refine ⟨fun h => ?_, fun h => g2 h⟩
            rw [g1 h, Nat.add_assoc, Nat.add_comm 1 (bare r)]
end Go.Proofs.YtealapdmffhbdaaGreatDoor.S
namespace Go.Proofs.YtealapdmffhbdaaGreatDoor.S
open Go Go.Ev Go.Proofs.YtealapdmffhbdaaGreatDoor Go.Ev.Ws
theorem rwordsI_loop (l : B) (hl : l.length < 1000000000) (x : List CV) (n : Int) (out : List CV) : ∀ (m N i : Nat), l.length - i < m → i ≤ l.length → m ≤ N →
    (orcF cfgS N).loop 7 B7_2 2 T7_2 [.str ⟨⟨l⟩⟩, .im x, .int .i64 n, .int .i64 (Int.ofNat i), .im out] [] = some (.brk [.str ⟨⟨l⟩⟩, .im x, .int .i64 n, .int .i64 (Int.ofNat (i + sk (l.drop i))), .im out] [])
  | 0, N, i, h, _, _ => by omega
  | m + 1, N, i, h1, h2, h4 => by
    obtain ⟨N, rfl⟩ : ∃ K, N = K + 1 := ⟨N - 1, by omega⟩
    have step : (orcF cfgS (N + 1)).loop 7 B7_2 2 T7_2 [.str ⟨⟨l⟩⟩, .im x, .int .i64 n, .int .i64 (Int.ofNat i), .im out] [] = tree_rwordsI (orcF cfgS N) ⟨⟨l⟩⟩ x n i out := eq_rwordsI (orcF cfgS N) ⟨⟨l⟩⟩ x n i out
    rw [step]
    cases hd : l.drop i with
    | nil =>
      have t1 : ltI (Int.ofNat i) (Int.ofNat (ByteArray.size ⟨⟨l⟩⟩)) = false := ltI_ge (List.drop_eq_nil_iff.mp hd)
      unfold tree_rwordsI
      simp only [t1]
      rfl
    | cons c r =>
      obtain ⟨hi, hc, hr, hrl⟩ := drop_at hd
      have t1 : ltI (Int.ofNat i) (Int.ofNat (ByteArray.size ⟨⟨l⟩⟩)) = true := ltI_lt hi
      have t2 : Nat.blt i (ByteArray.size ⟨⟨l⟩⟩) = true := Nat.blt_eq.mpr hi
      have t3 : (Array.toList (ByteArray.data ⟨⟨l⟩⟩))[i]? = some c := hc
      have w1 : IntKind.i64.wrap (Int.ofNat i + Int.ofNat 1) = Int.ofNat (i + 1) := wrapS (n := i + 1) (by omega)
      have ih := rwordsI_loop l hl x n out m N (i + 1) (by omega) (by omega) (by omega)
      rw [← hr] at ih
      cases hb : Ws.blank c with
      | true =>
        rw [sk_yes hb]
        have e1 : i + (sk r + 1) = i + 1 + sk r := by omega
        rw [e1]
        by_cases h32 : c = 32
        · subst h32
          have t4 : (Int.ofNat (UInt8.toNat 32) == Int.ofNat 32) = true := rfl
          unfold tree_rwordsI
          simp only [t1, t2, t3, t4, w1]
          exact ih
        · have t4 := beqC c 32 (by omega) h32
          have h9 : c = 9 := by
            unfold Ws.blank at hb
            rw [beq_eq_false_iff_ne.mpr h32] at hb
            simpa using hb
          subst h9
          have t5 : (Int.ofNat (UInt8.toNat 9) == Int.ofNat 9) = true := rfl
          unfold tree_rwordsI
          simp only [t1, t2, t3, t4, t5, w1]
          exact ih
      | false =>
        rw [sk_no hb]
        have t4 := beqC c 32 (by omega) (by rintro rfl; cases hb)
        have t5 := beqC c 9 (by omega) (by rintro rfl; cases hb)
        unfold tree_rwordsI
        simp only [t1, t2, t3, t4, t5]
        rfl
end Go.Proofs.YtealapdmffhbdaaGreatDoor.S
namespace Go.Proofs.YtealapdmffhbdaaGreatDoor.S
open Go Go.Ev Go.Proofs.YtealapdmffhbdaaGreatDoor Go.Ev.Ws
section
variable (Q : Orc) (l : B) (x : List CV) (n : Int) (i p : Nat) (o : List B)
/-- the loop of the reference's Words, at a place -/
noncomputable abbrev goV (i : Nat) (out : List CV) : Option LR := Q.loop 7 B7_0 0 T7_0 [.str ⟨⟨l⟩⟩, .im x, .int .i64 n, .int .i64 (Int.ofNat i), .im out] []
abbrev yes (out : List CV) : Option LR := some (.ret [.c (.im out), .c (.int .i64 (Int.ofNat 0))] [])
/-- behind the blanks -/
abbrev Skip : Prop := Q.loop 7 B7_2 2 T7_2 [.str ⟨⟨l⟩⟩, .im x, .int .i64 n, .int .i64 (Int.ofNat i), .im (strs o)] [] = some (.brk [.str ⟨⟨l⟩⟩, .im x, .int .i64 n, .int .i64 (Int.ofNat p), .im (strs o)] [])
theorem yc : (confL [Sp.str, Sp.im, Sp.int .i64, Sp.int .i64, Sp.im] [.str ⟨⟨l⟩⟩, .im x, .int .i64 n, .int .i64 (Int.ofNat p), .im (strs o)] && confO [] []) = true := rfl
theorem ys : strAt (g [.str ⟨⟨l⟩⟩, .im x, .int .i64 n, .int .i64 (Int.ofNat p), .im (strs o)] 0) = ⟨⟨l⟩⟩ := rfl
theorem yx : imAt (g (List.tail [.str ⟨⟨l⟩⟩, .im x, .int .i64 n, .int .i64 (Int.ofNat p), .im (strs o)]) 0) = x := rfl
theorem yn : intAt (g (List.tail (List.tail [.str ⟨⟨l⟩⟩, .im x, .int .i64 n, .int .i64 (Int.ofNat p), .im (strs o)])) 0) = n := rfl
theorem yp : intAt (g (List.tail (List.tail (List.tail [.str ⟨⟨l⟩⟩, .im x, .int .i64 n, .int .i64 (Int.ofNat p), .im (strs o)]))) 0) = Int.ofNat p := rfl
theorem yo : lstOf (CV.im (imAt (g (List.tail (List.tail (List.tail (List.tail [.str ⟨⟨l⟩⟩, .im x, .int .i64 n, .int .i64 (Int.ofNat p), .im (strs o)])))) 0))) = strs o := rfl
theorem rw_end (hs : Skip Q l x n i p o) (h : l.drop p = [] ∨ ∃ r, l.drop p = 35 :: r) : tree_rwordsL Q ⟨⟨l⟩⟩ x n i (strs o) = yes (strs o) := by
  rcases h with h | ⟨r, hd⟩
  · have t1 : leI (Int.ofNat (ByteArray.size ⟨⟨l⟩⟩)) (Int.ofNat p) = true := Nat.ble_eq.mpr (List.drop_eq_nil_iff.mp h)
    unfold tree_rwordsL
    simp only [hs, yc, ys, yx, yn, yp, yo, t1]
  · obtain ⟨hi, hc, _, _⟩ := drop_at hd
    have t1 : leI (Int.ofNat (ByteArray.size ⟨⟨l⟩⟩)) (Int.ofNat p) = false := ble_no hi
    have t2 : Nat.blt p (ByteArray.size ⟨⟨l⟩⟩) = true := Nat.blt_eq.mpr hi
    have t3 : (Array.toList (ByteArray.data ⟨⟨l⟩⟩))[p]? = some 35 := hc
    have t4 : (Int.ofNat (UInt8.toNat 35) == Int.ofNat 35) = true := rfl
    unfold tree_rwordsL
    simp only [hs, yc, ys, yx, yn, yp, yo, t1, t2, t3, t4]
theorem rw_bad (hs : Skip Q l x n i p o) {r : B} (hd : l.drop p = 34 :: r) (hq : Q.clo 12 [.str ⟨⟨l⟩⟩, .int .i64 (Int.ofNat p)] = some (.tp [.str ⟨⟨[]⟩⟩, .int .i64 (Int.negSucc 0)])) : tree_rwordsL Q ⟨⟨l⟩⟩ x n i (strs o) = noW := by
  obtain ⟨hi, hc, _, _⟩ := drop_at hd
  have t1 : leI (Int.ofNat (ByteArray.size ⟨⟨l⟩⟩)) (Int.ofNat p) = false := ble_no hi
  have t2 : Nat.blt p (ByteArray.size ⟨⟨l⟩⟩) = true := Nat.blt_eq.mpr hi
  have t3 : (Array.toList (ByteArray.data ⟨⟨l⟩⟩))[p]? = some 34 := hc
  have t4 : (Int.ofNat (UInt8.toNat 34) == Int.ofNat 35) = false := rfl
  have t5 : (Int.ofNat (UInt8.toNat 34) == Int.ofNat 34) = true := rfl
  have q1 : conf (Shp.tp [Sp.str, Sp.int .i64]) (.tp [.str ⟨⟨[]⟩⟩, .int .i64 (Int.negSucc 0)]) = true := rfl
  have q2 : ltI (intAt (g (List.tail (tplAt (.tp [.str ⟨⟨[]⟩⟩, .int .i64 (Int.negSucc 0)]))) 0)) (Int.ofNat 0) = true := rfl
  unfold tree_rwordsL
  simp only [hs, yc, ys, yx, yn, yp, yo, t1, t2, t3, t4, t5, hq, q1, q2]
theorem rw_quote (hl : l.length < 1000000000) (hs : Skip Q l x n i p o) {r w : B} {k : Nat} (hd : l.drop p = 34 :: r) (hq : Q.clo 12 [.str ⟨⟨l⟩⟩, .int .i64 (Int.ofNat p)] = some (.tp [.str ⟨⟨w⟩⟩, .int .i64 (Int.ofNat (p + 1 + k))])) (hk : k ≤ r.length) (ho : o.length ≤ p) :
    tree_rwordsL Q ⟨⟨l⟩⟩ x n i (strs o) = if endOk (r.drop k) then goV Q l x n (p + 1 + k) (strs (o ++ [w])) else noW := by
  obtain ⟨hi, hc, hr, hrl⟩ := drop_at hd
  have t1 : leI (Int.ofNat (ByteArray.size ⟨⟨l⟩⟩)) (Int.ofNat p) = false := ble_no hi
  have t2 : Nat.blt p (ByteArray.size ⟨⟨l⟩⟩) = true := Nat.blt_eq.mpr hi
  have t3 : (Array.toList (ByteArray.data ⟨⟨l⟩⟩))[p]? = some 34 := hc
  have t4 : (Int.ofNat (UInt8.toNat 34) == Int.ofNat 35) = false := rfl
  have t5 : (Int.ofNat (UInt8.toNat 34) == Int.ofNat 34) = true := rfl
  have hdk : r.drop k = l.drop (p + 1 + k) := by rw [hr, List.drop_drop]
  generalize hj : p + 1 + k = j at *
  have q1 : conf (Shp.tp [Sp.str, Sp.int .i64]) (.tp [.str ⟨⟨w⟩⟩, .int .i64 (Int.ofNat j)]) = true := rfl
  have q2 : intAt (g (List.tail (tplAt (.tp [.str ⟨⟨w⟩⟩, .int .i64 (Int.ofNat j)]))) 0) = Int.ofNat j := rfl
  have q3 : strAt (g (tplAt (.tp [.str ⟨⟨w⟩⟩, .int .i64 (Int.ofNat j)])) 0) = ⟨⟨w⟩⟩ := rfl
  have t6 : ltI (Int.ofNat j) (Int.ofNat 0) = false := ltI_ge (Nat.zero_le _)
  have t10 : (Bool.true && Nat.ble ((strs o).length + List.length ([CV.str ⟨⟨w⟩⟩])) 2147483648 && Bool.true) = true := by
    rw [strs_len, Bool.true_and, Bool.and_true]
    exact Nat.ble_eq.mpr (by show o.length + 1 ≤ _; omega)
  cases he : r.drop k with
  | nil =>
    have t11 : ltI (Int.ofNat j) (Int.ofNat (ByteArray.size ⟨⟨l⟩⟩)) = false := ltI_ge (by
      have := congrArg List.length he
      rw [List.length_drop, List.length_nil] at this
      show l.length ≤ _
      omega)
    unfold tree_rwordsL
    simp only [hs, yc, ys, yx, yn, yp, yo, t1, t2, t3, t4, t5, hq, q1, q2, q3, t6, t10, t11, strs_push]
    rfl
  | cons d e =>
    rw [hdk] at he
    obtain ⟨hi2, hc2, _, _⟩ := drop_at he
    have t11 : ltI (Int.ofNat j) (Int.ofNat (ByteArray.size ⟨⟨l⟩⟩)) = true := ltI_lt hi2
    have t12 : Nat.blt j (ByteArray.size ⟨⟨l⟩⟩) = true := Nat.blt_eq.mpr hi2
    have t13 : (Array.toList (ByteArray.data ⟨⟨l⟩⟩))[j]? = some d := hc2
    have hend : endOk (d :: e) = Ws.blank d := rfl
    rw [hend]
    by_cases h32 : d = 32
    · subst h32
      have t14 : (Int.ofNat (UInt8.toNat 32) != Int.ofNat 32) = false := rfl
      unfold tree_rwordsL
      simp only [hs, yc, ys, yx, yn, yp, yo, t1, t2, t3, t4, t5, hq, q1, q2, q3, t6, t10, t11, t12, t13, t14, strs_push]
      rfl
    · have t14 : (Int.ofNat (UInt8.toNat d) != Int.ofNat 32) = true := by
        rw [bneC d 32 (by omega)]
        have : (d == UInt8.ofNat 32) = false := beq_eq_false_iff_ne.mpr h32
        rw [this]; rfl
      by_cases h9 : d = 9
      · subst h9
        have t15 : (Int.ofNat (UInt8.toNat 9) != Int.ofNat 9) = false := rfl
        unfold tree_rwordsL
        simp only [hs, yc, ys, yx, yn, yp, yo, t1, t2, t3, t4, t5, hq, q1, q2, q3, t6, t10, t11, t12, t13, t14, t15, strs_push]
        rfl
      · have t15 : (Int.ofNat (UInt8.toNat d) != Int.ofNat 9) = true := by
          rw [bneC d 9 (by omega)]
          have : (d == UInt8.ofNat 9) = false := beq_eq_false_iff_ne.mpr h9
          rw [this]; rfl
        have hbl : Ws.blank d = false := by
          unfold Ws.blank
          rw [beq_eq_false_iff_ne.mpr h32, beq_eq_false_iff_ne.mpr h9]; rfl
        rw [hbl]
        unfold tree_rwordsL
        simp only [hs, yc, ys, yx, yn, yp, yo, t1, t2, t3, t4, t5, hq, q1, q2, q3, t6, t10, t11, t12, t13, t14, t15, strs_push]
        rfl
theorem rw_bare {c : UInt8} {r : B} (hl : l.length < 1000000000) (hs : Skip Q l x n i p o) (hd : l.drop p = c :: r) (hb : Ws.blank c = false) (h35 : c ≠ 35) (h34 : c ≠ 34) (ho : o.length ≤ p)
    (h1 : Ws.noQ ((l.drop p).take (bare (l.drop p))) = true → Q.loop 7 B7_4 4 T7_4 [.str ⟨⟨l⟩⟩, .im x, .int .i64 n, .int .i64 (Int.ofNat p), .int .i64 (Int.ofNat p), .im (strs o)] [] = some (.brk [.str ⟨⟨l⟩⟩, .im x, .int .i64 n, .int .i64 (Int.ofNat (p + bare (l.drop p))), .int .i64 (Int.ofNat p), .im (strs o)] []))
    (h2 : Ws.noQ ((l.drop p).take (bare (l.drop p))) = false → Q.loop 7 B7_4 4 T7_4 [.str ⟨⟨l⟩⟩, .im x, .int .i64 n, .int .i64 (Int.ofNat p), .int .i64 (Int.ofNat p), .im (strs o)] [] = some (.ret [.c (.im []), .c (.int .i64 (Int.ofNat 19))] [])) :
    tree_rwordsL Q ⟨⟨l⟩⟩ x n i (strs o) = if Ws.noQ ((l.drop p).take (bare (l.drop p))) then goV Q l x n (p + bare (l.drop p)) (strs (o ++ [(l.drop p).take (bare (l.drop p))])) else noW := by
  obtain ⟨hi, hc, hr, hrl⟩ := drop_at hd
  have t1 : leI (Int.ofNat (ByteArray.size ⟨⟨l⟩⟩)) (Int.ofNat p) = false := ble_no hi
  have t2 : Nat.blt p (ByteArray.size ⟨⟨l⟩⟩) = true := Nat.blt_eq.mpr hi
  have t3 : (Array.toList (ByteArray.data ⟨⟨l⟩⟩))[p]? = some c := hc
  have t6 := beqC c 35 (by omega) h35
  have t7 := beqC c 34 (by omega) h34
  have hbl : bare (l.drop p) ≤ (l.drop p).length := by rw [hd]; exact (bare_pos hb).2
  rw [List.length_drop] at hbl
  cases hq : Ws.noQ ((l.drop p).take (bare (l.drop p))) with
  | false =>
    have t8 := h2 hq
    have q1 : (confA [Sp.im, Sp.int .i64] [.c (.im []), .c (.int .i64 (Int.ofNat 19))] && confO [] []) = true := rfl
    unfold tree_rwordsL
    simp only [hs, yc, ys, yx, yn, yp, yo, t1, t2, t3, t6, t7, t8, q1]
    rfl
  | true =>
    have t8 := h1 hq
    generalize hbb : bare (l.drop p) = b at *
    have q1 : (confL [Sp.str, Sp.im, Sp.int .i64, Sp.int .i64, Sp.int .i64, Sp.im] [.str ⟨⟨l⟩⟩, .im x, .int .i64 n, .int .i64 (Int.ofNat (p + b)), .int .i64 (Int.ofNat p), .im (strs o)] && confO [] []) = true := rfl
    have q2 : intAt (g (List.tail (List.tail (List.tail [.str ⟨⟨l⟩⟩, .im x, .int .i64 n, .int .i64 (Int.ofNat (p + b)), .int .i64 (Int.ofNat p), .im (strs o)]))) 0) = Int.ofNat (p + b) := rfl
    have q3 : strAt (g [.str ⟨⟨l⟩⟩, .im x, .int .i64 n, .int .i64 (Int.ofNat (p + b)), .int .i64 (Int.ofNat p), .im (strs o)] 0) = ⟨⟨l⟩⟩ := rfl
    have q4 : intAt (g (List.tail (List.tail (List.tail (List.tail [.str ⟨⟨l⟩⟩, .im x, .int .i64 n, .int .i64 (Int.ofNat (p + b)), .int .i64 (Int.ofNat p), .im (strs o)])))) 0) = Int.ofNat p := rfl
    have q5 : lstOf (CV.im (imAt (g (List.tail (List.tail (List.tail (List.tail (List.tail [.str ⟨⟨l⟩⟩, .im x, .int .i64 n, .int .i64 (Int.ofNat (p + b)), .int .i64 (Int.ofNat p), .im (strs o)]))))) 0))) = strs o := rfl
    have q6 : imAt (g (List.tail [.str ⟨⟨l⟩⟩, .im x, .int .i64 n, .int .i64 (Int.ofNat (p + b)), .int .i64 (Int.ofNat p), .im (strs o)]) 0) = x := rfl
    have q7 : intAt (g (List.tail (List.tail [.str ⟨⟨l⟩⟩, .im x, .int .i64 n, .int .i64 (Int.ofNat (p + b)), .int .i64 (Int.ofNat p), .im (strs o)])) 0) = n := rfl
    have t9 : Nat.ble (p + b) (ByteArray.size ⟨⟨l⟩⟩) = true := Nat.ble_eq.mpr (by show p + b ≤ l.length; omega)
    have t10 : Nat.ble p (p + b) = true := Nat.ble_eq.mpr (by omega)
    have hcut : cutS ⟨⟨l⟩⟩ p (p + b) = ⟨⟨(l.drop p).take b⟩⟩ := by
      show (⟨⟨(l.drop p).take (p + b - p)⟩⟩ : ByteArray) = _
      rw [Nat.add_sub_cancel_left]
    have t11 : (Bool.true && Nat.ble ((strs o).length + List.length ([CV.str (cutS ⟨⟨l⟩⟩ p (p + b))])) 2147483648 && Bool.true) = true := by
      rw [strs_len, Bool.true_and, Bool.and_true]
      exact Nat.ble_eq.mpr (by show o.length + 1 ≤ _; omega)
    unfold tree_rwordsL
    simp only [hs, yc, ys, yx, yn, yp, yo, t1, t2, t3, t6, t7, t8, q1, q2, q3, q4, q5, q6, q7, t9, t10, t11]
    rw [hcut, strs_push]
    rfl
end
end Go.Proofs.YtealapdmffhbdaaGreatDoor.S
namespace Go.Proofs.YtealapdmffhbdaaGreatDoor.S
open Go Go.Ev Go.Proofs.YtealapdmffhbdaaGreatDoor Go.Ev.Ws
theorem rwordsL_loop (l : B) (hl : l.length < 1000000000) (x : List CV) (n : Int) : ∀ (m N i : Nat) (o : List B), l.length - i < m → i ≤ l.length → o.length ≤ i → m + l.length + 6 ≤ N →
    (∀ ws, words m (l.drop i) = some ws → goV (orcF cfgS N) l x n i (strs o) = yes (strs (o ++ ws))) ∧
    (words m (l.drop i) = none → goV (orcF cfgS N) l x n i (strs o) = noW)
  | 0, N, i, o, h, _, _, _ => by omega
  | m + 1, N, i, o, h1, h2, h3, h4 => by
    obtain ⟨N, rfl⟩ : ∃ K, N = K + 2 := ⟨N - 2, by omega⟩
    have step : goV (orcF cfgS (N + 1 + 1)) l x n i (strs o) = tree_rwordsL (orcF cfgS (N + 1)) ⟨⟨l⟩⟩ x n i (strs o) := eq_rwordsL (orcF cfgS (N + 1)) ⟨⟨l⟩⟩ x n i (strs o)
    rw [step]
    have hsk := sk_le (l.drop i)
    rw [List.length_drop] at hsk
    have hs : Skip (orcF cfgS (N + 1)) l x n i (i + sk (l.drop i)) o := rwordsI_loop l hl x n (strs o) (l.length - i + 1) (N + 1) i (by omega) h2 (by omega)
    have hw : words (m + 1) (l.drop i) = words (m + 1) (l.drop (i + sk (l.drop i))) := by
      rw [words_sk (l.drop i) (m + 1) (by rw [List.length_drop]; omega), List.drop_drop]
    rw [hw]
    have hnb : ∀ {c : UInt8} {r : B}, l.drop (i + sk (l.drop i)) = c :: r → Ws.blank c = false := fun {c r} h => sk_head (l := l.drop i) (by rw [List.drop_drop]; exact h)
    generalize hp : i + sk (l.drop i) = p at *
    cases hd : l.drop p with
    | nil =>
      rw [rw_end _ l x n i p o hs (.inl hd)]
      refine ⟨fun ws h => ?_, fun h => by cases h⟩
      injection h with h
      subst h
      rw [List.append_nil]
    | cons c r =>
      obtain ⟨hi, hc, hr, hrl⟩ := drop_at hd
      have hb := hnb hd
      rw [words_cons, hb, if_neg (by simp)]
      by_cases h35 : c = 35
      · subst h35
        rw [rw_end _ l x n i p o hs (.inr ⟨r, hd⟩), if_pos rfl]
        refine ⟨fun ws h => ?_, fun h => by cases h⟩
        injection h with h
        subst h
        rw [List.append_nil]
      · rw [if_neg h35]
        by_cases h34 : c = 34
        · subst h34
          rw [if_pos rfl]
          have hq := rquoted_ok l hl p r hd N (by omega)
          unfold rqV at hq
          cases hqt : qt (r.length + 1) r with
          | none =>
            rw [hqt] at hq
            rw [rw_bad _ l x n i p o hs hd hq]
            exact ⟨fun ws h => (by cases h), fun _ => rfl⟩
          | some q =>
            obtain ⟨w, k⟩ := q
            rw [hqt] at hq
            obtain ⟨k1, k2⟩ := qt_len _ _ hqt
            rw [rw_quote _ l x n i p o hl hs hd hq k2 (by omega)]
            dsimp only
            cases he : endOk (r.drop k) with
            | false => exact ⟨fun ws hw => (by simp at hw), fun _ => by simp⟩
            | true =>
              have hdd : r.drop k = l.drop (p + 1 + k) := by rw [hr, List.drop_drop]
              rw [if_pos rfl, if_pos rfl, hdd]
              obtain ⟨g1, g2⟩ := rwordsL_loop l hl x n m (N + 1) (p + 1 + k) (o ++ [w]) (by omega) (by omega) (by rw [List.length_append, List.length_singleton]; omega) (by omega)
              cases hww : words m (l.drop (p + 1 + k)) with
              | none => exact ⟨fun ws h => (by cases h), fun _ => g2 hww⟩
              | some ws =>
                refine ⟨fun ws' h => ?_, fun h => by cases h⟩
                injection h with h
                subst h
                rw [g1 ws hww, List.append_assoc]; rfl
        · rw [if_neg h34]
          obtain ⟨a1, a2⟩ := rwordsJ_loop l hl x n p (strs o) (l.length - p + 1) (N + 1) p (by omega) (by omega) (by omega)
          rw [rw_bare _ l x n i p o hl hs hd hb h35 h34 (by omega) a1 a2, hd]
          obtain ⟨b1, b2⟩ := bare_pos (r := r) hb
          have hlen : (c :: r).length = l.length - p := by rw [← hd, List.length_drop]
          cases hq : Ws.noQ ((c :: r).take (bare (c :: r))) with
          | false => exact ⟨fun ws hw => (by simp at hw), fun _ => by simp⟩
          | true =>
            have hdd : (c :: r).drop (bare (c :: r)) = l.drop (p + bare (c :: r)) := by rw [← hd, List.drop_drop]
            rw [if_pos rfl, if_pos rfl, hdd]
            obtain ⟨g1, g2⟩ := rwordsL_loop l hl x n m (N + 1) (p + bare (c :: r)) (o ++ [(c :: r).take (bare (c :: r))]) (by omega) (by omega) (by rw [List.length_append, List.length_singleton]; omega) (by omega)
            cases hww : words m (l.drop (p + bare (c :: r))) with
            | none => exact ⟨fun ws h => (by cases h), fun _ => g2 hww⟩
            | some ws =>
              refine ⟨fun ws' h => ?_, fun h => by cases h⟩
              injection h with h
              subst h
              rw [g1 ws hww, List.append_assoc]; rfl
theorem rwords_ok (l : B) (hl : l.length < 1000000000) (N : Nat) (hN : 2 * l.length + 8 ≤ N) : (orcF cfgS (N + 1)).clo 7 [.str ⟨⟨l⟩⟩] = some (wdV l) := by
  refine clo_of (by kernel_rfl) (by kernel_rfl) ?_
  show closed (evBodyF cfgS (orcF cfgS N) 7 [.c (.str ⟨⟨l⟩⟩)] []) = _
  rw [eq_rwords]
  obtain ⟨g1, g2⟩ := rwordsL_loop l hl [] 0 (l.length + 1) N 0 [] (by omega) (by omega) (by simp) (by omega)
  rw [List.drop_zero] at g1 g2
  unfold wdV
  cases hw : words (l.length + 1) l with
  | some ws =>
    have h := g1 ws hw
    have h : (orcF cfgS N).loop 7 B7_0 0 T7_0 [.str ⟨⟨l⟩⟩, .im [], .int .i64 (Int.ofNat 0), .int .i64 (Int.ofNat 0), .im []] [] = _ := h
    unfold tree_rwords
    rw [h]
    rfl
  | none =>
    have h := g2 hw
    have h : (orcF cfgS N).loop 7 B7_0 0 T7_0 [.str ⟨⟨l⟩⟩, .im [], .int .i64 (Int.ofNat 0), .int .i64 (Int.ofNat 0), .im []] [] = _ := h
    unfold tree_rwords
    rw [h]
    rfl
end Go.Proofs.YtealapdmffhbdaaGreatDoor.S
namespace Go.Proofs.YtealapdmffhbdaaGreatDoor.S
open Go Go.Ev Go.Proofs.YtealapdmffhbdaaGreatDoor Go.Ev.Ws
theorem words_le : ∀ (n : Nat) (l : B) (ws : List B), words n l = some ws → ws.length ≤ n
  | 0, _, _, h => by cases h
  | n + 1, l, ws, h => by
    cases l with
    | nil =>
      have h : some [] = some ws := h
      injection h with h
      subst h
      exact Nat.zero_le _
    | cons c r =>
      rw [words_cons] at h
      split at h
      · have := words_le n _ _ h; omega
      · split at h
        · injection h with h; subst h; exact Nat.zero_le _
        · split at h
          · split at h
            · split at h
              · split at h
                · rename_i hw
                  injection h with h
                  subst h
                  have := words_le n _ _ hw
                  rw [List.length_cons]; omega
                · cases h
              · cases h
            · cases h
          · split at h
            · split at h
              · rename_i hw
                injection h with h
                subst h
                have := words_le n _ _ hw
                rw [List.length_cons]; omega
              · cases h
            · cases h
theorem wdV_form (l : B) : ∃ (ws : List B) (z : Nat), wdV l = .tp [.im (strs ws), .int .i64 (Int.ofNat z)] ∧ ws.length ≤ l.length + 1 := by
  unfold wdV
  cases hw : words (l.length + 1) l with
  | some ws => exact ⟨ws, 0, rfl, words_le _ _ _ hw⟩
  | none => exact ⟨[], 19, rfl, Nat.zero_le _⟩
theorem kn_ok (N : Nat) : (orcF cfgS (N + 1)).clo 5 [] = some (.bool true) := by kernel_rfl
theorem beqL (l : B) : (l == l) = true := beq_self_eq_true l
theorem law_loop (b : ByteArray) (r : Bool) (ws : List B) (hl : ws.length < 1000000000) : ∀ (m N i : Nat), ws.length - i < m → i ≤ ws.length → m ≤ N →
    ∃ j : Nat, (orcF cfgS N).loop 3 B3_0 0 T3_0 [.im (ofBytes b), .bool r, .im (strs ws), .im (strs ws), .int .i64 (Int.ofNat i)] [] = some (.brk [.im (ofBytes b), .bool r, .im (strs ws), .im (strs ws), .int .i64 (Int.ofNat j)] [])
  | 0, N, i, h, _, _ => by omega
  | m + 1, N, i, h1, h2, h3 => by
    obtain ⟨N, rfl⟩ : ∃ K, N = K + 1 := ⟨N - 1, by omega⟩
    have step : (orcF cfgS (N + 1)).loop 3 B3_0 0 T3_0 [.im (ofBytes b), .bool r, .im (strs ws), .im (strs ws), .int .i64 (Int.ofNat i)] [] = tree_lawL (orcF cfgS N) b r (strs ws) (strs ws) i := eq_lawL (orcF cfgS N) b r (strs ws) (strs ws) i
    rw [step]
    have sz := strs_len ws
    by_cases hi : i < ws.length
    · have t1 : ltI (Int.ofNat i) (Int.ofNat ws.length) = true := ltI_lt hi
      have t2 : Nat.blt i ws.length = true := Nat.blt_eq.mpr hi
      have t3 : (strs ws)[i]? = some (.str ⟨⟨ws[i]⟩⟩) := by
        unfold strs
        rw [List.getElem?_map, List.getElem?_eq_getElem hi]
        rfl
      have t4 : CV.isN (.str ⟨⟨ws[i]⟩⟩) 1 = true := rfl
      have t5 : (!(Array.toList (ByteArray.data ⟨⟨ws[i]⟩⟩) == Array.toList (ByteArray.data ⟨⟨ws[i]⟩⟩))) = false := by rw [beqL]; rfl
      have w1 : IntKind.i64.wrap (Int.ofNat i + Int.ofNat 1) = Int.ofNat (i + 1) := wrapS (n := i + 1) (by omega)
      unfold tree_lawL
      simp only [sz, t1, t2, t3, t4, t5, w1]
      exact law_loop b r ws hl m N (i + 1) (by omega) (by omega) (by omega)
    · have t1 : ltI (Int.ofNat i) (Int.ofNat ws.length) = false := ltI_ge (by omega)
      refine ⟨i, ?_⟩
      unfold tree_lawL
      simp only [sz, t1]
theorem allN_mkB : ∀ l : B, allN 1 (mkB l) = true
  | [] => rfl
  | c :: l => by
    have ih := allN_mkB l
    exact ih
theorem law_ok (l x : B) (hl : l.length < 400000000) (hx : x.length < 400000000) (N : Nat) (hN : 2 * l.length + 20 ≤ N) (hN2 : x.length + 20 ≤ N) : (orcF cfgS (N + 1)).clo 3 [.str ⟨⟨l⟩⟩, .im (ofBytes ⟨⟨x⟩⟩)] = some (.bool true) := by
  refine clo_of (by kernel_rfl) (by kernel_rfl) ?_
  show closed (evBodyF cfgS (orcF cfgS N) 3 [.c (.str ⟨⟨l⟩⟩), .c (.im (ofBytes ⟨⟨x⟩⟩))] []) = _
  rw [eq_law]
  obtain ⟨M, rfl⟩ : ∃ M, N = M + 1 := ⟨N - 1, by omega⟩
  have hk := kn_ok M
  have h1 := words_ok (c0 := 7) escOk l (by omega) M (by omega)
  have h2 := rwords_ok l (by omega) M (by omega)
  have h3 := quote_ok x hx M (by omega)
  have h4 := rquote_ok x hx M (by omega)
  obtain ⟨ws, z, e, hw⟩ := wdV_form l
  rw [e] at h1 h2
  obtain ⟨j, hj⟩ := law_loop ⟨⟨x⟩⟩ false ws (by omega) (ws.length + 1) (M + 1) 0 (by omega) (by omega) (by omega)
  have q1 : conf (.one .bool) (.bool true) = true := rfl
  have q2 : (!boolAt (.bool true)) = false := rfl
  have q3 : conf (.tp [.im, .int .i64]) (.tp [.im (strs ws), .int .i64 (Int.ofNat z)]) = true := rfl
  have q4 : imAt (g (tplAt (.tp [.im (strs ws), .int .i64 (Int.ofNat z)])) 0) = strs ws := rfl
  have q5 : intAt (g (List.tail (tplAt (.tp [.im (strs ws), .int .i64 (Int.ofNat z)]))) 0) = Int.ofNat z := rfl
  have q6 : ∀ k : Int, (k != k) = false := fun k => by simp
  have q7 : (confL [.im, .bool, .im, .im, .int .i64] [.im (ofBytes ⟨⟨x⟩⟩), .bool false, .im (strs ws), .im (strs ws), .int .i64 (Int.ofNat j)] && confO [] []) = true := rfl
  have q8 : imAt (g [.im (ofBytes ⟨⟨x⟩⟩), .bool false, .im (strs ws), .im (strs ws), .int .i64 (Int.ofNat j)] 0) = mkB x := rfl
  have q9 : (((Bool.true && allN 1 (mkB x)) && Nat.ble (0 + (mkB x).length) 2147483648) && Bool.true) = true := by
    rw [allN_mkB, Bool.true_and, Bool.true_and, Bool.and_true]
    exact Nat.ble_eq.mpr (by unfold mkB; rw [List.length_map]; omega)
  have q10 : ∀ k : ByteArray, conf (.one .str) (.str k) = true := fun k => rfl
  have q11 : ∀ k : ByteArray, strAt (.str k) = k := fun k => rfl
  have q12 : [] ++ mkB x = mkB x := rfl
  have q13 : ∀ k : B, (k == k) = true := fun k => beqL k
  unfold tree_law
  simp only [hk, q1, q2, h1, h2, q3, q4, q5, q6, hj, q7, q8, q9, q12, h3, h4, q10, q11, q13, bytesOf_mkB]
  rfl
end Go.Proofs.YtealapdmffhbdaaGreatDoor.S
namespace Go.Proofs.YtealapdmffhbdaaGreatDoor.S
open Go Go.Ev Go.Proofs.YtealapdmffhbdaaGreatDoor Go.Ev.Ws
/-- rows of rows of bytes, as values -/
def rows (L : List B) : List CV := L.map fun x => .im (mkB x)
theorem rows_len (L : List B) : (rows L).length = L.length := by simp [rows]
theorem rows_at {L : List B} {i : Nat} (hi : i < L.length) : (rows L)[i]? = some (.im (mkB L[i])) := by
  unfold rows
  rw [List.getElem?_map, List.getElem?_eq_getElem hi]
  rfl
def pre (L : List B) : B := L.flatMap fun w => 32 :: (quote w ++ [9])
theorem pre_push (L : List B) (i : Nat) (hi : i < L.length) : pre (L.take i) ++ [32] ++ quote L[i] ++ [9] = pre (L.take (i + 1)) := by
  have e : L.take (i + 1) = L.take i ++ [L[i]] := by rw [List.take_add_one, List.getElem?_eq_getElem hi]; rfl
  unfold pre
  rw [e, List.flatMap_append, List.flatMap_cons, List.flatMap_nil, List.append_nil, List.append_assoc, List.append_assoc]
  rfl
theorem quote_le (l : B) : (quote l).length ≤ 4 * l.length + 2 := by
  have := flat_le l
  unfold quote
  simp only [List.length_cons, List.length_append, List.length_nil]
  omega
theorem line_eq (L : List B) (r : B) : line L r = pre L ++ [35] ++ r := by unfold line pre; simp
theorem lawq_loop (L : List B) (z : ByteArray) (r : Bool) (hL : ∀ x ∈ L, x.length < 100000000) : ∀ (m N i : Nat), L.length - i < m → i ≤ L.length → i ≤ 20 → (pre (L.take i)).length ≤ 500000000 → (∀ x ∈ L, x.length + m + 1 < N) → m ≤ N →
    ∃ j : Nat, j ≤ L.length ∧ j ≤ 20 ∧ (pre (L.take j)).length ≤ 500000000 ∧ (orcF cfgS N).loop 4 B4_0 0 T4_0 [.im (rows L), .str z, .bool r, .str ⟨⟨pre (L.take i)⟩⟩, .int .i64 (Int.ofNat i), .int .i64 (Int.ofNat i)] [] = some (.brk [.im (rows L), .str z, .bool r, .str ⟨⟨pre (L.take j)⟩⟩, .int .i64 (Int.ofNat j), .int .i64 (Int.ofNat j)] [])
  | 0, N, i, h, _, _, _, _, _ => by omega
  | m + 1, N, i, h1, h2, h20, hp, hN, h3 => by
    obtain ⟨N, rfl⟩ : ∃ K, N = K + 1 := ⟨N - 1, by omega⟩
    have step : (orcF cfgS (N + 1)).loop 4 B4_0 0 T4_0 [.im (rows L), .str z, .bool r, .str ⟨⟨pre (L.take i)⟩⟩, .int .i64 (Int.ofNat i), .int .i64 (Int.ofNat i)] [] = tree_lawqL (orcF cfgS N) (rows L) z r ⟨⟨pre (L.take i)⟩⟩ i i := eq_lawqL (orcF cfgS N) (rows L) z r ⟨⟨pre (L.take i)⟩⟩ i i
    rw [step]
    have sz := rows_len L
    have sp : ByteArray.size ⟨⟨pre (L.take i)⟩⟩ = (pre (L.take i)).length := rfl
    by_cases hi : i < L.length
    case neg =>
      have t1 : ltI (Int.ofNat i) (Int.ofNat L.length) = false := ltI_ge (by omega)
      refine ⟨i, h2, h20, hp, ?_⟩
      unfold tree_lawqL
      simp only [sz, t1]
    have t1 : ltI (Int.ofNat i) (Int.ofNat L.length) = true := ltI_lt hi
    by_cases hi20 : i < 20
    case neg =>
      have t2 : ltI (Int.ofNat i) (Int.ofNat 20) = false := ltI_ge (by omega)
      refine ⟨i, h2, h20, hp, ?_⟩
      unfold tree_lawqL
      simp only [sz, t1, t2]
    have t2 : ltI (Int.ofNat i) (Int.ofNat 20) = true := ltI_lt hi20
    by_cases hs : (pre (L.take i)).length < 16384
    case neg =>
      have t3 : ltI (Int.ofNat (pre (L.take i)).length) (Int.ofNat 16384) = false := ltI_ge (by omega)
      refine ⟨i, h2, h20, hp, ?_⟩
      unfold tree_lawqL
      simp only [sz, sp, t1, t2, t3]
    have t3 : ltI (Int.ofNat (pre (L.take i)).length) (Int.ofNat 16384) = true := ltI_lt hs
    have t4 : Nat.ble ((pre (L.take i)).length + 1) 1099511627776 = true := Nat.ble_eq.mpr (by omega)
    have t5 : Nat.blt i L.length = true := Nat.blt_eq.mpr hi
    have t6 := rows_at hi
    have t7 : CV.isN (.im (mkB L[i])) 1 = true := rfl
    have hx : L[i].length < 100000000 := hL _ (List.getElem_mem hi)
    have hxN : L[i].length + (m + 1) + 1 < N + 1 := hN _ (List.getElem_mem hi)
    obtain ⟨M, rfl⟩ : ∃ M, N = M + 1 := ⟨N - 1, by omega⟩
    have t8 := quote_ok L[i] (by omega) M (by omega)
    have hq := quote_le L[i]
    have q10 : conf (.one .str) (.str ⟨⟨quote L[i]⟩⟩) = true := rfl
    have q11 : strAt (.str ⟨⟨quote L[i]⟩⟩) = ⟨⟨quote L[i]⟩⟩ := rfl
    have t9 : Nat.ble (ByteArray.size (catS ⟨⟨pre (L.take i)⟩⟩ (ByteArray.mk (Array.mk [(UInt8.ofNat 32)]))) + ByteArray.size ⟨⟨quote L[i]⟩⟩) 1099511627776 = true := by
      have e1 : ByteArray.size (catS ⟨⟨pre (L.take i)⟩⟩ (ByteArray.mk (Array.mk [(UInt8.ofNat 32)]))) = (pre (L.take i) ++ [32]).length := rfl
      have e2 : ByteArray.size ⟨⟨quote L[i]⟩⟩ = (quote L[i]).length := rfl
      rw [e1, e2, List.length_append, List.length_singleton]
      exact Nat.ble_eq.mpr (by omega)
    have t10 : Nat.ble (ByteArray.size (catS (catS ⟨⟨pre (L.take i)⟩⟩ (ByteArray.mk (Array.mk [(UInt8.ofNat 32)]))) ⟨⟨quote L[i]⟩⟩) + 1) 1099511627776 = true := by
      have e1 : ByteArray.size (catS (catS ⟨⟨pre (L.take i)⟩⟩ (ByteArray.mk (Array.mk [(UInt8.ofNat 32)]))) ⟨⟨quote L[i]⟩⟩) = ((pre (L.take i) ++ [32]) ++ quote L[i]).length := rfl
      rw [e1, List.length_append, List.length_append, List.length_singleton]
      exact Nat.ble_eq.mpr (by omega)
    have t11 : catS (catS (catS ⟨⟨pre (L.take i)⟩⟩ (ByteArray.mk (Array.mk [(UInt8.ofNat 32)]))) ⟨⟨quote L[i]⟩⟩) (ByteArray.mk (Array.mk [(UInt8.ofNat 9)])) = ⟨⟨pre (L.take (i + 1))⟩⟩ := by
      rw [← pre_push L i hi]
      rfl
    have w1 : IntKind.i64.wrap (Int.ofNat i + Int.ofNat 1) = Int.ofNat (i + 1) := wrapS (n := i + 1) (by omega)
    unfold tree_lawqL
    simp only [sz, sp, t1, t2, t3, t4, t5, t6, t7, t8, q10, q11, t9, t10, t11, w1]
    refine lawq_loop L z r hL m (M + 1) (i + 1) (by omega) (by omega) (by omega) ?_ (fun x hx => by have := hN x hx; omega) (by omega)
    rw [← pre_push L i hi]
    simp only [List.length_append, List.length_singleton]
    omega
theorem lawqI_loop (L W : List B) (r : Bool) (n : Nat) (hn : n < 1000000000) (hW : ∀ i, i < n → ∃ (h1 : i < W.length) (h2 : i < L.length), W[i] = L[i]) : ∀ (m N i : Nat), n - i < m → i ≤ n → m ≤ N →
    ∃ j : Nat, (orcF cfgS N).loop 4 B4_2 2 T4_2 [.im (rows L), .bool r, .int .i64 (Int.ofNat n), .im (strs W), .int .i64 (Int.ofNat i)] [] = some (.brk [.im (rows L), .bool r, .int .i64 (Int.ofNat n), .im (strs W), .int .i64 (Int.ofNat j)] [])
  | 0, N, i, h, _, _ => by omega
  | m + 1, N, i, h1, h2, h3 => by
    obtain ⟨N, rfl⟩ : ∃ K, N = K + 1 := ⟨N - 1, by omega⟩
    have step : (orcF cfgS (N + 1)).loop 4 B4_2 2 T4_2 [.im (rows L), .bool r, .int .i64 (Int.ofNat n), .im (strs W), .int .i64 (Int.ofNat i)] [] = tree_lawqI (orcF cfgS N) (rows L) r n (strs W) i := eq_lawqI (orcF cfgS N) (rows L) r n (strs W) i
    rw [step]
    have sz := rows_len L
    have sw := strs_len W
    by_cases hi : i < n
    · obtain ⟨g1, g2, g3⟩ := hW i hi
      have t1 : ltI (Int.ofNat i) (Int.ofNat n) = true := ltI_lt hi
      have t2 : Nat.blt i W.length = true := Nat.blt_eq.mpr g1
      have t3 : (strs W)[i]? = some (.str ⟨⟨L[i]⟩⟩) := by
        unfold strs
        rw [List.getElem?_map, List.getElem?_eq_getElem g1, g3]
        rfl
      have t4 : CV.isN (.str ⟨⟨L[i]⟩⟩) 1 = true := rfl
      have t5 : Nat.blt i L.length = true := Nat.blt_eq.mpr g2
      have t6 := rows_at g2
      have t7 : CV.isN (.im (mkB L[i])) 1 = true := rfl
      have t8 : (!(Array.toList (ByteArray.data ⟨⟨L[i]⟩⟩) == Array.toList (ByteArray.data (ByteArray.mk (List.toArray L[i]))))) = false := by
        have : (L[i] == L[i]) = true := beqL _
        show (!(L[i] == L[i])) = false
        rw [this]; rfl
      have w1 : IntKind.i64.wrap (Int.ofNat i + Int.ofNat 1) = Int.ofNat (i + 1) := wrapS (n := i + 1) (by omega)
      unfold tree_lawqI
      simp only [sz, sw, t1, t2, t3, t4, t5, t6, t7, bytesOf_mkB, t8, w1]
      exact lawqI_loop L W r n hn hW m N (i + 1) (by omega) (by omega) (by omega)
    · have t1 : ltI (Int.ofNat i) (Int.ofNat n) = false := ltI_ge (by omega)
      refine ⟨i, ?_⟩
      unfold tree_lawqI
      simp only [t1]
theorem lawq_ok (L : List B) (z : B) (hL : ∀ x ∈ L, x.length < 100000000) (hz : z.length < 100000000) (N : Nat) (hN : 2000000000 + L.length ≤ N) : (orcF cfgS (N + 1)).clo 4 [.im (rows L), .str ⟨⟨z⟩⟩] = some (.bool true) := by
  refine clo_of (by kernel_rfl) (by kernel_rfl) ?_
  show closed (evBodyF cfgS (orcF cfgS N) 4 [.c (.im (rows L)), .c (.str ⟨⟨z⟩⟩)] []) = _
  rw [eq_lawq]
  obtain ⟨M, rfl⟩ : ∃ M, N = M + 1 := ⟨N - 1, by omega⟩
  have hk := kn_ok M
  obtain ⟨j, j1, j2, j3, hj⟩ := lawq_loop L ⟨⟨z⟩⟩ false hL (L.length + 1) (M + 1) 0 (by omega) (by omega) (by omega) (by simp [pre]) (fun x hx => by have := hL x hx; omega) (by omega)
  have hj : (orcF cfgS (M + 1)).loop 4 B4_0 0 T4_0 [.im (rows L), .str ⟨⟨z⟩⟩, .bool false, .str (ByteArray.mk (Array.mk [])), .int .i64 (Int.ofNat 0), .int .i64 (Int.ofNat 0)] [] = _ := hj
  have hlen : (L.take j).length = j := by rw [List.length_take]; omega
  have hlw : words ((line (L.take j) z).length + 1) (line (L.take j) z) = some (L.take j) := by
    refine words_line z (L.take j) _ ?_
    have : ∀ l : List B, 3 * l.length ≤ (line l z).length := fun l => by
      induction l with
      | nil => exact Nat.zero_le _
      | cons w l ih =>
        have e : line (w :: l) z = 32 :: (quote w ++ [9]) ++ line l z := by simp [line]
        rw [e, List.length_append, List.length_cons, List.length_cons, List.length_append, List.length_singleton]
        have : 2 ≤ (quote w).length := by unfold quote; simp
        omega
    have := this (L.take j)
    omega
  have hv : wdV (line (L.take j) z) = .tp [.im (strs (L.take j)), .int .i64 (Int.ofNat 0)] := by unfold wdV; rw [hlw]
  have hll : (line (L.take j) z).length = (pre (L.take j)).length + 1 + z.length := by rw [line_eq, List.length_append, List.length_append, List.length_singleton]
  have h1 := words_ok (c0 := 7) escOk (line (L.take j) z) (by omega) M (by omega)
  rw [hv] at h1
  obtain ⟨k, hk2⟩ := lawqI_loop L (L.take j) false j (by omega) (fun i hi => ⟨by omega, by omega, by simp⟩) (j + 1) (M + 1) 0 (by omega) (by omega) (by omega)
  have q1 : conf (.one .bool) (.bool true) = true := rfl
  have q2 : (!boolAt (.bool true)) = false := rfl
  have e0 : (confL [.im, .str, .bool, .str, .int .i64, .int .i64] [.im (rows L), .str ⟨⟨z⟩⟩, .bool false, .str ⟨⟨pre (L.take j)⟩⟩, .int .i64 (Int.ofNat j), .int .i64 (Int.ofNat j)] && confO [] []) = true := rfl
  generalize hy : ([.im (rows L), .str ⟨⟨z⟩⟩, .bool false, .str ⟨⟨pre (L.take j)⟩⟩, .int .i64 (Int.ofNat j), .int .i64 (Int.ofNat j)] : List CV) = y at hj e0
  have y0 : imAt (g y 0) = rows L := by rw [← hy]; rfl
  have y1 : strAt (g (List.tail y) 0) = ⟨⟨z⟩⟩ := by rw [← hy]; rfl
  have y2 : boolAt (g (List.tail (List.tail y)) 0) = false := by rw [← hy]; rfl
  have y3 : strAt (g (List.tail (List.tail (List.tail y))) 0) = ⟨⟨pre (L.take j)⟩⟩ := by rw [← hy]; rfl
  have y4 : intAt (g (List.tail (List.tail (List.tail (List.tail y)))) 0) = Int.ofNat j := by rw [← hy]; rfl
  have t1 : Nat.ble (ByteArray.size ⟨⟨pre (L.take j)⟩⟩ + 1) 1099511627776 = true := by
    show Nat.ble ((pre (L.take j)).length + 1) _ = true
    exact Nat.ble_eq.mpr (by omega)
  have t2 : Nat.ble (ByteArray.size (catS ⟨⟨pre (L.take j)⟩⟩ (ByteArray.mk (Array.mk [(UInt8.ofNat 35)]))) + ByteArray.size ⟨⟨z⟩⟩) 1099511627776 = true := by
    show Nat.ble ((pre (L.take j) ++ [35]).length + z.length) _ = true
    rw [List.length_append, List.length_singleton]
    exact Nat.ble_eq.mpr (by omega)
  have t3 : catS (catS ⟨⟨pre (L.take j)⟩⟩ (ByteArray.mk (Array.mk [(UInt8.ofNat 35)]))) ⟨⟨z⟩⟩ = ⟨⟨line (L.take j) z⟩⟩ := by rw [line_eq]; rfl
  have q3 : conf (.tp [.im, .int .i64]) (.tp [.im (strs (L.take j)), .int .i64 (Int.ofNat 0)]) = true := rfl
  have q4 : imAt (g (tplAt (.tp [.im (strs (L.take j)), .int .i64 (Int.ofNat 0)])) 0) = strs (L.take j) := rfl
  have q5 : intAt (g (List.tail (tplAt (.tp [.im (strs (L.take j)), .int .i64 (Int.ofNat 0)]))) 0) = Int.ofNat 0 := rfl
  have q6 : ∀ k : Int, (k != k) = false := fun k => by simp
  have q7 : (strs (L.take j)).length = j := by rw [strs_len, hlen]
  have q8 : (confL [.im, .bool, .int .i64, .im, .int .i64] [.im (rows L), .bool false, .int .i64 (Int.ofNat j), .im (strs (L.take j)), .int .i64 (Int.ofNat k)] && confO [] []) = true := rfl
  unfold tree_lawq
  simp only [hk, q1, q2, hj, e0, y0, y1, y2, y3, y4, t1, t2, t3, h1, q3, q4, q5, q6, q7, hk2, q8]
  rfl
end Go.Proofs.YtealapdmffhbdaaGreatDoor.S
namespace Go.Proofs.YtealapdmffhbdaaGreatDoor.S
open Go Go.Ev Go.Proofs.YtealapdmffhbdaaGreatDoor Go.Ev.Ws
theorem funcs_ok2 : funcs.flatten.all (@goOk) = true := by kernel_rfl
theorem okS : Ok Tryz.prog cfgS ∧ CodesOk cfgS := ok_of rfl rfl rfl rfl types_all funcs_all funcs_ok2 mixed
theorem knS : @CloC glob2 Tryz.prog 5 [] (.bool true) := knownF.1
theorem prmS : PrmOk Tryz.prog cfgS := by
  intro f p xs r hp hx
  have hp : List.lookup f [(5, pKn)] = some p := hp
  unfold List.lookup at hp
  split at hp
  · rename_i h
    obtain rfl : f = 5 := eq_of_beq h
    injection hp with hp
    subst hp
    cases xs with
    | nil =>
      have hx : some (CV.bool true) = some r := hx
      injection hx with hx
      subst hx
      refine ⟨knS, fun fn _ => ?_⟩
      unfold resOk
      split <;> rfl
    | cons x xs => cases hx
  · cases hp
theorem cloS {n f : Nat} {xs : List CV} {r : CV} (h : (orcF cfgS n).clo f xs = some r) : @CloC glob Tryz.prog f xs r := by
  rw [orcF_eq] at h
  exact ev_sound okS.1 okS.2 prmS h
theorem wordsC (s x : ByteArray) (hs : s.size ≤ 1048576) (hx : x.size ≤ 1048576) : @CloC glob Tryz.prog 3 [.str s, .im (ofBytes x)] (.bool true) := by
  obtain ⟨⟨l⟩⟩ := s
  obtain ⟨⟨y⟩⟩ := x
  have hs : l.length ≤ 1048576 := hs
  have hx : y.length ≤ 1048576 := hx
  obtain ⟨N, h1, h2⟩ : ∃ N, 2 * l.length + 20 ≤ N ∧ y.length + 20 ≤ N := ⟨2 * l.length + y.length + 20, by omega, by omega⟩
  exact cloS (law_ok l y (by omega) (by omega) N h1 h2)
theorem quotesC (a : List ByteArray) (s : ByteArray) (ha : ∀ x, x ∈ a → x.size ≤ 1048576) (hs : s.size ≤ 1048576) : @CloC glob Tryz.prog 4 [.im (a.map fun s => .im (ofBytes s)), .str s] (.bool true) := by
  obtain ⟨⟨l⟩⟩ := s
  have hs : l.length ≤ 1048576 := hs
  have e : a.map (fun s => CV.im (ofBytes s)) = rows (a.map fun s => s.data.toList) := by
    unfold rows
    rw [List.map_map]
    rfl
  have hL : ∀ x ∈ a.map (fun s => s.data.toList), x.length < 100000000 := fun x hx => by
    obtain ⟨y, hy, rfl⟩ := List.mem_map.mp hx
    have h := ha y hy
    have h : y.data.toList.length ≤ 1048576 := h
    omega
  obtain ⟨N, hN⟩ : ∃ N, 2000000000 + (a.map fun s => s.data.toList).length ≤ N := ⟨_, Nat.le_refl _⟩
  rw [e]
  exact cloS (lawq_ok _ l hL (by omega) N hN)
end Go.Proofs.YtealapdmffhbdaaGreatDoor.S
