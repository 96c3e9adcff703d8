/- Words and quoted words of rows of bytes: no program here. -/
set_option linter.unusedVariables false
set_option linter.unusedSectionVars false
set_option linter.unusedSimpArgs false
set_option linter.unnecessarySimpa false
namespace Go.Ev.Ws
abbrev B := List UInt8
def blank (c : UInt8) : Bool := c == 32 || c == 9
/-- a digit's number -/
def hexv (c : UInt8) : Option Nat := if 48 ≤ c.toNat ∧ c.toNat ≤ 57 then some (c.toNat - 48) else if 97 ≤ c.toNat ∧ c.toNat ≤ 102 then some (c.toNat - 87) else none
/-- one byte, as it is written; how many signs -/
def esc : B → Option (UInt8 × Nat)
  | [] => none
  | c :: r => if c = 92 then (match r with
      | [] => none
      | d :: r => if d = 92 ∨ d = 34 then some (d, 2) else if d = 110 then some (10, 2) else if d = 116 then some (9, 2) else if d = 120 then (match r with
        | a :: b :: _ => (match hexv a, hexv b with
          | some x, some y => some (UInt8.ofNat (16 * x + y), 4)
          | _, _ => none)
        | _ => none) else none)
    else some (c, 1)
/-- up to the sign that ends a word: its bytes, how many signs -/
def qt : Nat → B → Option (B × Nat)
  | 0, _ => none
  | n + 1, l => match l with
    | [] => none
    | c :: r => if c = 34 then some ([], 1) else (match esc (c :: r) with
      | some (b, k) => (match qt n ((c :: r).drop k) with
        | some (w, m) => some (b :: w, k + m)
        | none => none)
      | none => none)
/-- a word without quotes: how long -/
def bare : B → Nat
  | [] => 0
  | c :: r => if blank c then 0 else bare r + 1
def noQ (l : B) : Bool := l.all fun c => !(c == 34)
def endOk : B → Bool
  | [] => true
  | d :: _ => blank d
/-- a line's words -/
def words : Nat → B → Option (List B)
  | 0, _ => none
  | n + 1, l => match l with
    | [] => some []
    | c :: r => if blank c then words n r else if c = 35 then some [] else if c = 34 then (match qt (r.length + 1) r with
        | some (w, k) => if endOk (r.drop k) then (match words n (r.drop k) with | some ws => some (w :: ws) | none => none) else none
        | none => none)
      else if noQ ((c :: r).take (bare (c :: r))) then (match words n ((c :: r).drop (bare (c :: r))) with | some ws => some ((c :: r).take (bare (c :: r)) :: ws) | none => none) else none
def dig (n : Nat) : UInt8 := UInt8.ofNat (if n < 10 then 48 + n else 87 + n)
/-- a byte, written -/
def enc (c : UInt8) : B := if c = 92 ∨ c = 34 then [92, c] else if c = 10 then [92, 110] else if c = 9 then [92, 116] else if c.toNat < 32 ∨ 126 < c.toNat then [92, 120, dig (c.toNat / 16), dig (c.toNat % 16)] else [c]
def quote (l : B) : B := 34 :: (l.flatMap enc ++ [34])
theorem hexv_dig : ∀ n : Fin 16, hexv (dig n.val) = some n.val := by decide +kernel
theorem enc_esc (c : UInt8) (r : B) : esc (enc c ++ r) = some (c, (enc c).length) := by
  unfold enc
  by_cases h1 : c = 92 ∨ c = 34
  · rw [if_pos h1]
    show esc (92 :: c :: r) = some (c, 2)
    simp only [esc, if_true, if_pos h1]
  · rw [if_neg h1]
    by_cases h2 : c = 10
    · subst h2; rfl
    · rw [if_neg h2]
      by_cases h3 : c = 9
      · subst h3; rfl
      · rw [if_neg h3]
        by_cases h4 : c.toNat < 32 ∨ 126 < c.toNat
        · rw [if_pos h4]
          have hc : c.toNat < 256 := c.toNat_lt
          have e1 := hexv_dig ⟨c.toNat / 16, by omega⟩
          have e2 := hexv_dig ⟨c.toNat % 16, by omega⟩
          have e3 : 16 * (c.toNat / 16) + c.toNat % 16 = c.toNat := Nat.div_add_mod _ _
          show esc (92 :: 120 :: dig (c.toNat / 16) :: dig (c.toNat % 16) :: r) = some (c, 4)
          simp only [esc, if_true, e1, e2, e3, UInt8.ofNat_toNat]
          rfl
        · rw [if_neg h4]
          have h5 : ¬ c = 92 := fun e => h1 (.inl e)
          show esc (c :: r) = some (c, 1)
          simp only [esc, if_neg h5]
theorem enc_head (c : UInt8) : ∃ h t, enc c = h :: t ∧ h ≠ 34 := by
  unfold enc
  by_cases h1 : c = 92 ∨ c = 34
  · rw [if_pos h1]; exact ⟨92, [c], rfl, by decide⟩
  · rw [if_neg h1]
    by_cases h2 : c = 10
    · rw [if_pos h2]; exact ⟨92, _, rfl, by decide⟩
    · rw [if_neg h2]
      by_cases h3 : c = 9
      · rw [if_pos h3]; exact ⟨92, _, rfl, by decide⟩
      · rw [if_neg h3]
        by_cases h4 : c.toNat < 32 ∨ 126 < c.toNat
        · rw [if_pos h4]; exact ⟨92, _, rfl, by decide⟩
        · rw [if_neg h4]; exact ⟨c, [], rfl, fun e => h1 (.inr e)⟩
theorem qt_enc (r : B) : ∀ (l : B) (n : Nat), l.length < n → qt n (l.flatMap enc ++ 34 :: r) = some (l, (l.flatMap enc).length + 1)
  | [], n + 1, _ => by simp [qt]
  | c :: l, n + 1, h => by
    obtain ⟨x, t, e, hx⟩ := enc_head c
    have e1 : (c :: l).flatMap enc ++ 34 :: r = enc c ++ (l.flatMap enc ++ 34 :: r) := by simp
    have h2 := enc_esc c (l.flatMap enc ++ 34 :: r)
    have ih := qt_enc r l n (by simpa using h)
    rw [e1]
    have h3 : (enc c ++ (l.flatMap enc ++ 34 :: r)).drop (enc c).length = l.flatMap enc ++ 34 :: r := by simp
    rw [e] at h2 h3 ⊢
    rw [List.cons_append] at h2 h3 ⊢
    unfold qt
    simp only [if_neg hx, h2, h3, ih]
    simp [e]
    omega
theorem enc_len : ∀ l : B, l.length ≤ (l.flatMap enc).length
  | [] => by simp
  | c :: l => by
    obtain ⟨x, t, e, _⟩ := enc_head c
    have := enc_len l
    simp only [List.flatMap_cons, List.length_append, List.length_cons, e]
    omega
/-- a row of quoted words, each between a blank and a tab; then a remark -/
def line (l : List B) (r : B) : B := l.flatMap (fun w => 32 :: (quote w ++ [9])) ++ 35 :: r
theorem words_line (r : B) : ∀ (l : List B) (n : Nat), 3 * l.length < n → words n (line l r) = some l
  | [], n + 1, _ => by simp [words, line, blank]
  | w :: l, n + 1, h => by
    have h : 3 * l.length + 3 < n + 1 := by simpa [Nat.mul_add] using h
    obtain ⟨m, rfl⟩ : ∃ m, n = m + 2 := ⟨n - 2, by omega⟩
    have e : line (w :: l) r = 32 :: 34 :: (w.flatMap enc ++ 34 :: (9 :: line l r)) := by simp [line, quote]
    have hq := qt_enc (9 :: line l r) w ((w.flatMap enc ++ 34 :: (9 :: line l r)).length + 1) (by
      have := enc_len w
      simp only [List.length_append, List.length_cons]
      omega)
    have ih := words_line r l m (by omega)
    have hd : (w.flatMap enc ++ 34 :: (9 :: line l r)).drop ((w.flatMap enc).length + 1) = 9 :: line l r := by
      rw [← List.drop_drop]; simp
    rw [e]
    show words (m + 2 + 1) _ = _
    unfold words
    have b1 : blank 32 = true := rfl
    simp only [b1, if_true]
    unfold words
    have b2 : blank 34 = false := rfl
    have b3 : ¬ ((34 : UInt8) = 35) := by decide
    simp only [b2, if_neg b3, hq, hd, Bool.false_eq_true, if_false, if_true]
    have b4 : endOk (9 :: line l r) = true := rfl
    simp only [b4, if_true]
    have h9 : words (m + 1) (9 :: line l r) = words m (line l r) := by
      conv => lhs; unfold words
      have b5 : blank 9 = true := rfl
      simp only [b5, if_true]
    rw [h9, ih]
/-! ### Enough rounds -/
theorem esc_pos {l : B} {b : UInt8} {k : Nat} (h : esc l = some (b, k)) : 1 ≤ k ∧ k ≤ l.length := by
  cases l with
  | nil => cases h
  | cons c r =>
    unfold esc at h
    by_cases h1 : c = 92
    · simp only [if_pos h1] at h
      cases r with
      | nil => cases h
      | cons d r =>
        dsimp only at h
        split at h
        · injection h with h; injection h with _ h; subst h; simp
        · split at h
          · injection h with h; injection h with _ h; subst h; simp
          · split at h
            · injection h with h; injection h with _ h; subst h; simp
            · split at h
              · split at h
                · split at h
                  · injection h with h; injection h with _ h; subst h; simp
                  · cases h
                · cases h
              · cases h
    · simp only [if_neg h1] at h
      injection h with h; injection h with _ h; subst h; simp
theorem qt_cons (n : Nat) (c : UInt8) (r : B) : qt (n + 1) (c :: r) = if c = 34 then some ([], 1) else (match esc (c :: r) with
      | some (b, k) => (match qt n ((c :: r).drop k) with
        | some (w, m) => some (b :: w, k + m)
        | none => none)
      | none => none) := rfl
theorem words_cons (n : Nat) (c : UInt8) (r : B) : words (n + 1) (c :: r) = if blank c then words n r else if c = 35 then some [] else if c = 34 then (match qt (r.length + 1) r with
        | some (w, k) => if endOk (r.drop k) then (match words n (r.drop k) with | some ws => some (w :: ws) | none => none) else none
        | none => none)
      else if noQ ((c :: r).take (bare (c :: r))) then (match words n ((c :: r).drop (bare (c :: r))) with | some ws => some ((c :: r).take (bare (c :: r)) :: ws) | none => none) else none := rfl
theorem qt_fuel : ∀ (n m : Nat) (l : B), l.length < n → l.length < m → qt n l = qt m l
  | 0, _, l, h, _ => by omega
  | _ + 1, 0, l, _, h => by omega
  | n + 1, m + 1, l, h1, h2 => by
    cases l with
    | nil => rfl
    | cons c r =>
      rw [qt_cons, qt_cons]
      by_cases h0 : c = 34
      · rw [if_pos h0, if_pos h0]
      · rw [if_neg h0, if_neg h0]
        cases he : esc (c :: r) with
        | none => rfl
        | some p =>
          obtain ⟨b, k⟩ := p
          obtain ⟨k1, k2⟩ := esc_pos he
          have : qt n ((c :: r).drop k) = qt m ((c :: r).drop k) := qt_fuel n m _ (by rw [List.length_drop]; omega) (by rw [List.length_drop]; omega)
          simp only [this]
theorem qt_len : ∀ (n : Nat) (l : B) {w : B} {k : Nat}, qt n l = some (w, k) → 1 ≤ k ∧ k ≤ l.length
  | 0, _, _, _, h => by cases h
  | n + 1, l, w, k, h => by
    cases l with
    | nil => cases h
    | cons c r =>
      rw [qt_cons] at h
      by_cases h0 : c = 34
      · rw [if_pos h0] at h
        injection h with h; injection h with _ h; subst h; simp
      · rw [if_neg h0] at h
        cases he : esc (c :: r) with
        | none => rw [he] at h; cases h
        | some p =>
          obtain ⟨b, j⟩ := p
          rw [he] at h
          dsimp only at h
          obtain ⟨k1, k2⟩ := esc_pos he
          cases hq : qt n ((c :: r).drop j) with
          | none => rw [hq] at h; cases h
          | some q =>
            obtain ⟨w', m⟩ := q
            rw [hq] at h
            injection h with h; injection h with _ h; subst h
            obtain ⟨m1, m2⟩ := qt_len n _ hq
            rw [List.length_drop] at m2
            omega
theorem bare_pos {c : UInt8} {r : B} (h : blank c = false) : 1 ≤ bare (c :: r) ∧ bare (c :: r) ≤ (c :: r).length := by
  have le : ∀ l : B, bare l ≤ l.length := fun l => by
    induction l with
    | nil => simp [bare]
    | cons c l ih =>
      unfold bare
      split
      · omega
      · simp only [List.length_cons]; omega
  refine ⟨?_, le _⟩
  unfold bare
  rw [h]
  simp
theorem words_fuel : ∀ (n m : Nat) (l : B), l.length < n → l.length < m → words n l = words m l
  | 0, _, l, h, _ => by omega
  | _ + 1, 0, l, _, h => by omega
  | n + 1, m + 1, l, h1, h2 => by
    cases l with
    | nil => rfl
    | cons c r =>
      have hl : (c :: r).length = r.length + 1 := rfl
      rw [words_cons, words_cons]
      split
      · exact words_fuel n m r (by omega) (by omega)
      · rename_i hb
        split
        · rfl
        · split
          · cases hq : qt (r.length + 1) r with
            | none => rfl
            | some p =>
              obtain ⟨w, k⟩ := p
              obtain ⟨k1, k2⟩ := qt_len _ _ hq
              have : words n (r.drop k) = words m (r.drop k) := words_fuel n m _ (by rw [List.length_drop]; omega) (by rw [List.length_drop]; omega)
              simp only [this]
          · obtain ⟨b1, b2⟩ := bare_pos (r := r) (by simpa using hb)
            have : words n ((c :: r).drop (bare (c :: r))) = words m ((c :: r).drop (bare (c :: r))) := words_fuel n m _ (by rw [List.length_drop]; omega) (by rw [List.length_drop]; omega)
            simp only [this]
end Go.Ev.Ws
/- Words of rows of bytes, as the reference takes them: blanks first. No program here. -/
namespace Go.Ev.Ws
/-- how many blanks stand ahead -/
def sk : B → Nat
  | [] => 0
  | c :: r => if blank c then sk r + 1 else 0
theorem sk_le : ∀ l : B, sk l ≤ l.length
  | [] => Nat.le_refl _
  | c :: r => by
    have := sk_le r
    unfold sk
    split
    · simp only [List.length_cons]; omega
    · simp only [List.length_cons]; omega
theorem words_sk : ∀ (l : B) (n : Nat), l.length < n → words n l = words n (l.drop (sk l))
  | [], n, _ => by simp [sk]
  | c :: r, 0, h => by omega
  | c :: r, n + 1, h => by
    have hl : (c :: r).length = r.length + 1 := rfl
    unfold sk
    cases hb : blank c with
    | false => simp
    | true =>
      simp only [if_true]
      have h1 : words (n + 1) (c :: r) = words n r := by rw [words_cons, hb]; simp
      rw [h1, words_sk r n (by omega)]
      show _ = words (n + 1) (r.drop (sk r))
      exact words_fuel _ _ _ (by rw [List.length_drop]; omega) (by rw [List.length_drop]; omega)
theorem sk_head {l : B} {c : UInt8} {r : B} (h : l.drop (sk l) = c :: r) : blank c = false := by
  induction l with
  | nil => simp [sk] at h
  | cons d l ih =>
    unfold sk at h
    cases hb : blank d with
    | true => rw [hb] at h; simp only [if_true] at h; exact ih (by simpa using h)
    | false => rw [hb] at h; simp at h; rw [← h.1]; exact hb
theorem sk_cons (c : UInt8) (r : B) : sk (c :: r) = if blank c then sk r + 1 else 0 := rfl
theorem sk_yes {c : UInt8} {r : B} (h : blank c = true) : sk (c :: r) = sk r + 1 := by rw [sk_cons, h]; rfl
theorem sk_no {c : UInt8} {r : B} (h : blank c = false) : sk (c :: r) = 0 := by rw [sk_cons, h]; rfl
end Go.Ev.Ws
