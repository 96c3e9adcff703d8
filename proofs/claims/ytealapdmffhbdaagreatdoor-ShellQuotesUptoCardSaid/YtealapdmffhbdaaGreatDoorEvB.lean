/- An interpreter of the model's code that the kernel can run, and the proof that what it answers the model answers, part 2 of 5. No condition. -/
import Derived.Test.YtealapdmffhbdaaGreatDoorEvA
import Derived.Laws.IdiomCopy
set_option linter.unusedVariables false
set_option linter.unusedSectionVars false
set_option linter.unusedSimpArgs false
set_option linter.unnecessarySimpa false
/- Freezing, whole. -/
namespace Go.Ev
open Go Go.RowKit
variable [Glob]
section
variable {α R : Type} {F : α → S → O → Log → Option R} {r : R} {w : World} {tmps : Array Value}

def FrzP (w : World) (tmps : Array Value) (F : α → S → O → Log → Option R) (r : R) (f : (AV → Prog α) → Prog α) (v : AV) : Prop := ∀ (K : AV → Prog α) (s : S) (o : O) (l : Log) (G : Gh) (x : Value),
  (f K).run s o l F = some r → St w G s o tmps → AVR w G (used w G s o) v x → ∃ u s' o' l' G', (K u).run s' o' l' F = some r ∧ Gs w G s o tmps G' s' o' ∧ AVR w G' (outU o') u x
theorem each_ok {f : AV → (AV → Prog α) → Prog α} (hf : ∀ v, FrzP w tmps F r (f v) v) : ∀ (l : List AV) (K : List AV → Prog α) (s : S) (o : O) (lg : Log) (G : Gh) (xs : List Value),
    (each f l K).run s o lg F = some r → St w G s o tmps → AVRs w G (used w G s o) l xs → ∃ us s' o' l' G', (K us).run s' o' l' F = some r ∧ Gs w G s o tmps G' s' o' ∧ AVRs w G' (outU o') us xs ∧ us.length = l.length
  | [], K, s, o, lg, G, xs, h, hst, hv => by cases hv; exact ⟨[], s, o, lg, G, h, .refl hst, .nil, rfl⟩
  | v :: l, K, s, o, lg, G, _, h, hst, .cons _ x _ xs hv hvs => by
    obtain ⟨u, s1, o1, l1, G1, h1, g1, hu⟩ := hf v _ s o lg G x h hst hv
    obtain ⟨us, s2, o2, l2, G2, h2, g2, hus, hlen⟩ := each_ok hf l _ s1 o1 l1 G1 xs h1 g1.st (g1.vals hvs)
    exact ⟨u :: us, s2, o2, l2, G2, h2, g1.trans g2, .cons _ _ _ _ (g2.out hu) hus, by simp [hlen]⟩
theorem mkTp_of {G : Gh} {U : Used} {l : List AV} {vs : List Value} (h : AVRs w G U l vs) : AVR w G U (mkTp l) (.tuple vs.toArray) := by
  unfold mkTp; split
  · rename_i xs hx; exact .c _ _ (.tp _ _ (allCC_of hx h))
  · exact .tp _ _ h
theorem mkFn_of {G : Gh} {U : Used} {f : Fn} {a b : List AV} {as_ bs : List Value} (h : AVRs w G U a as_) (h' : AVRs w G U b bs) : AVR w G U (mkFn f a b) (.func f as_.toArray bs.toArray) := by
  unfold mkFn; split
  · rename_i xs ys hx hy; exact .c _ _ (.fn _ _ _ _ _ (allCC_of hx h) (allCC_of hy h'))
  · exact .fn _ _ _ _ _ h h'
theorem AVR.c_inv {G : Gh} {U : Used} {x : CV} {v : Value} (h : AVR w G U (.c x) v) : VR w G.I x v := by cases h; assumption
theorem mkIfc_of {G : Gh} {U : Used} {t : Nat} {x : AV} {v : Value} (h : AVR w G U x v) : AVR w G U (mkIfc t x) (.iface t v) := by
  unfold mkIfc; split
  · exact .c _ _ (.ifc _ _ _ h.c_inv)
  · exact .ifc _ _ _ h
theorem allC_of {G : Gh} {U : Used} : ∀ {l : List AV} {xs : List CV} {vs : List Value}, allC l = some xs → AVRs w G U l vs → VRs w G.I xs vs
  | [], xs, vs, h, hv => by injection h with h; subst h; cases hv; exact .nil
  | v :: l, xs, vs, h, hv => by
    cases hv with
    | cons _ u _ us h1 h2 =>
      cases v <;> simp only [allC] at h <;> try (cases h)
      · split at h
        · rename_i ys hys; injection h with h; subst h; exact .cons _ _ _ _ h1.c_inv (allC_of hys h2)
        · cases h
      · split at h
        · rename_i ys hys; injection h with h; subst h; cases h1; exact .cons _ _ _ _ .im0 (allC_of hys h2)
        · cases h
theorem shut_of {G : Gh} {U : Used} {x : AV} {v : Value} (h : AVR w G U x v) : AVR w G U (shut x) v := by
  unfold shut; split
  · cases h; exact .c _ _ .im0
  · split
    · rename_i l xs hx
      cases h with
      | ag _ vs h hf => exact .c _ _ (.ag _ _ (allC_of hx h) hf)
    · exact h
  · exact h
/-- cells of what a variable holds -/
theorem epOf_of {G : Gh} {U : Used} {a : Bool} {y : AV} {vs : List Value} {r0 : Nat} (h : AVRs w G U (y.cellsA a) vs) (hc : ∀ x, y = .c x → VRs w G.I (x.cellsB a) vs) (off : Nat) (hr : (G.I r0).holds (off + vs.length)) (hm : MemAt w r0 off vs) (o : Nat) :
    AVR w G U (epOf a y o) (.pointer (some ⟨r0, off + o, none⟩)) := by
  unfold epOf
  split
  · exact .c _ _ (.ep _ _ _ _ _ _ (hc _ rfl) hr hm)
  · exact .ep _ _ _ _ _ _ h hr hm
theorem cells_of {G : Gh} {U : Used} {y : AV} {vs : List Value} (hy : (∃ l, y = .ag l) ∨ ∃ xs, y = .c (.ag xs)) (h : AVR w G U y (.agg vs.toArray)) : (y.cellsA true = [y] ∨ AVRs w G U (y.cellsA true) vs) ∧ (∀ x, y = .c x → VRs w G.I (x.cellsB true) vs) := by
  rcases hy with ⟨l, rfl⟩ | ⟨xs, rfl⟩
  · generalize hv : Value.agg vs.toArray = v at h
    cases h with
    | ag _ us h _ => injection hv with hv; (have : us = vs := by simpa using hv.symm); subst this; exact ⟨.inr h, by simp⟩
  · refine ⟨.inl rfl, fun x e => ?_⟩
    injection e with e; subst e
    have h' := h.c_inv
    clear h
    generalize hv : Value.agg vs.toArray = v at h'
    cases h' with
    | ag _ us h _ => injection hv with hv; (have : us = vs := by simpa using hv.symm); subst this; exact h
theorem epOf_ag {G : Gh} {U : Used} {y : AV} {vs : List Value} {r0 off : Nat} (hy : (∃ l, y = .ag l) ∨ ∃ xs, y = .c (.ag xs)) (h : AVR w G U y (.agg vs.toArray)) (hr : (G.I r0).holds (off + vs.length)) (hm : MemAt w r0 off vs) (o : Nat) :
    AVR w G U (epOf true y o) (.pointer (some ⟨r0, off + o, none⟩)) := by
  obtain ⟨h1, h2⟩ := cells_of hy h
  rcases hy with ⟨l, rfl⟩ | ⟨xs, rfl⟩
  · rcases h1 with h1 | h1
    · generalize hv : Value.agg vs.toArray = v at h
      cases h with
      | ag _ us h _ => injection hv with hv; (have : us = vs := by simpa using hv.symm); subst this; exact .ep _ _ _ _ _ _ h hr hm
    · exact .ep _ _ _ _ _ _ h1 hr hm
  · exact .c _ _ (.ep _ _ _ _ _ _ (h2 _ rfl) hr hm)
theorem epOf_one {G : Gh} {U : Used} {y : AV} {v : Value} {r0 off : Nat} (h : AVR w G U y v) (hr : (G.I r0).holds (off + 1)) (hm : MemAt w r0 off [v]) (o : Nat) :
    AVR w G U (epOf false y o) (.pointer (some ⟨r0, off + o, none⟩)) :=
  epOf_of (.cons _ _ _ _ h .nil) (fun x e => by subst e; exact .cons _ _ _ _ h.c_inv .nil) off hr hm o
theorem mkEp_of {G : Gh} {U : Used} {a : Bool} {us : List AV} {vs : List Value} {r0 : Nat} (h : AVRs w G U us vs) (hl : a = false → us.length = 1) (hr : G.I r0 = .imm) (hm : MemAt w r0 0 vs) (o : Nat) :
    AVR w G U (mkEp a us o) (.pointer (some ⟨r0, o, none⟩)) := by
  have e : (⟨r0, o, none⟩ : Addr) = ⟨r0, 0 + o, none⟩ := by rw [Nat.zero_add]
  have e' : mkEp a us o = epOf a (mkVar a us) o := by unfold mkEp epOf; cases mkVar a us <;> rfl
  rw [e, e']
  cases a with
  | false =>
    match us, hl rfl, h with
    | [u], _, .cons _ v _ _ hu .nil => exact epOf_one (shut_of hu) (by rw [hr]; trivial) hm o
  | true =>
    refine epOf_ag ?_ (shut_of (mkAg_of h hm.flat)) (by rw [hr]; trivial) hm o
    show (∃ l, shut (mkAg us) = .ag l) ∨ ∃ xs, shut (mkAg us) = .c (.ag xs)
    unfold mkAg
    split
    · exact .inr ⟨_, rfl⟩
    · unfold shut
      simp only
      split
      · exact .inr ⟨_, rfl⟩
      · exact .inl ⟨_, rfl⟩
theorem nstAll_inv {xs : List CV} {out : Option (Nat × Nat)} {s : S} {o : O} {l : Log} {k : List CV → Prog α} (h : (nstAll xs out k).run s o l F = some r) : ∃ ys l', (k ys).run s o l' F = some r ∧
    ((out = none ∧ ys = xs) ∨ ∃ j n zs, out = some (j, n) ∧ ((∃ m, s.own n = some (.lst m zs)) ∨ s.own n = some (.fls zs)) ∧ ys = xs.set j (.im zs)) := by
  unfold nstAll at h
  split at h
  · exact ⟨_, _, h, .inl ⟨rfl, rfl⟩⟩
  · simp only [Prog.run] at h
    split at h
    · exact ⟨_, _, h, .inr ⟨_, _, _, rfl, .inl ⟨_, by assumption⟩, rfl⟩⟩
    · exact ⟨_, _, h, .inr ⟨_, _, _, rfl, .inr (by assumption), rfl⟩⟩
    · cases h
theorem agg_inv {G : Gh} {o : O} {u : AV} {vs : Array Value} (h : AVR w G (outU o) u (.agg vs)) : (∃ l, u = .ag l) ∨ ∃ xs, u = .c (.ag xs) := by
  generalize hv : Value.agg vs = v at h
  cases h with
  | c x _ hx => subst hv; cases hx; exact .inr ⟨_, rfl⟩
  | ag => exact .inl ⟨_, rfl⟩
  | lo _ _ _ _ hl => exact hl.elim
  | sl _ hn => exact hn.elim
  | ol id _ => have h1 := G.ohf id; rw [← hv] at h1; cases h1
  | ov id k _ => have h1 := viewOf_one (k := k) (G.ohf id); rw [← hv] at h1; cases h1
  | _ => cases hv
theorem freeze_ok : ∀ (n : Nat) (v : AV), FrzP w tmps F r (freeze n v) v
  | 0, v => fun K s o l G x h _ _ => by cases h
  | n + 1, v => fun K s o l G x h hst hv => by
    have ih := freeze_ok n
    cases v with
    | c y => exact ⟨.c y, s, o, l, G, h, .refl hst, .c _ _ hv.c_inv⟩
    | nl => cases hv; exact ⟨_, s, o, l, G, h, .refl hst, .c _ _ .im0⟩
    | un => cases h
    | ov id k => cases h
    | le => cases h
    | hl => cases h
    | mp => cases h
    | oe => cases h
    | om => cases h
    | ol id =>
      cases hv with
      | ol _ hid =>
        simp only [freeze, Prog.run] at h
        split at h
        · rename_i q m xs hk
          simp only [Prog.run] at h
          obtain ⟨I', g, hv⟩ := frz_ol hst hk
          exact ⟨_, _, _, _, _, h, g, .c _ _ hv⟩
        · rename_i q m xs hk
          obtain ⟨I', g, hv⟩ := frz_olp hst hk
          exact ⟨_, _, _, _, _, h, g, .c _ _ hv⟩
        · rename_i q xs hk
          exact ⟨_, _, _, _, _, h, .refl hst, .c _ _ ((hst.out id hid).is hk).1⟩
        · cases h
    | po id k => cases hv with | po _ _ hid => exact ⟨_, s, o, l, G, h, .refl hst, .po _ _ hid⟩
    | sl b =>
      cases hv with
      | sl _ hb =>
        simp only [freeze, Prog.run] at h
        split at h
        · rename_i k m xs hk
          simp only [Prog.run] at h
          obtain ⟨g, hv⟩ := frz_lst hst hk
          exact ⟨_, _, _, _, _, h, g, .c _ _ hv⟩
        · rename_i k xs hk
          exact ⟨_, _, _, _, _, h, .refl hst, .c _ _ (hst.own b _ hk).1⟩
        · rename_i k m xs out hk
          obtain ⟨ys, l', h, hy⟩ := nstAll_inv h
          rcases hy with ⟨rfl, rfl⟩ | ⟨j, e, zs, rfl, hz, rfl⟩
          · simp only [frzOut, Prog.run] at h
            obtain ⟨g, hv⟩ := frz_nst hst hk (.inl ⟨rfl, rfl⟩)
            exact ⟨_, _, _, _, _, h, g, .c _ _ hv⟩
          · simp only [frzOut, Prog.run] at h
            rcases hz with ⟨m', hz⟩ | hz
            · rw [hz] at h
              simp only [Prog.run] at h
              obtain ⟨g, _⟩ := frz_lst hst hz
              have hne : b ≠ e := by rintro rfl; rw [hk] at hz; cases hz
              obtain ⟨g', hv⟩ := frz_nst (b := b) g.st (by rw [blk_own, if_neg hne]; exact hk) (.inr ⟨j, e, zs, rfl, by rw [blk_own, if_pos rfl], rfl⟩)
              exact ⟨_, _, _, _, _, h, g.trans g', .c _ _ hv⟩
            · rw [hz] at h
              simp only [Prog.run] at h
              obtain ⟨g, hv⟩ := frz_nst hst hk (.inr ⟨j, e, zs, rfl, hz, rfl⟩)
              exact ⟨_, _, _, _, _, h, g, .c _ _ hv⟩
        · cases h
    | pt b k =>
      cases hv with
      | pt _ _ hb =>
        simp only [freeze, Prog.run] at h
        split at h
        · rename_i q a cs hk
          obtain ⟨hI, vs, ty, hh, hvs, hl, hfl⟩ := hst.own b _ hk
          obtain ⟨us, s', o', l', G', h, g, hus, hlen⟩ := each_ok ih cs _ s o _ G vs h hst hvs
          simp only [Prog.run] at h
          split at h
          · rename_i q' a' cs' hk'
            simp only [Prog.run] at h
            have e := (g.to.keeps.a b hb).2.1
            obtain ⟨_, _, _, _, _, hl'⟩ := g.st.own b _ hk'
            have hah : w.heap[G'.a b]? = some (.cells vs.toArray ty (0, 0)) := by rw [e]; exact hh
            obtain ⟨g', hm, hi⟩ := frz_box (a := a) g.st hk' hah hus (fun ha => by rw [hlen]; exact hl ha) hfl
            refine ⟨_, _, _, _, _, h, g.trans g', ?_⟩
            rw [← e]
            exact mkEp_of (g'.outs hus) (fun ha => by rw [hlen]; exact hl ha) hi hm k
          · cases h
        · rename_i q a cs hk
          obtain ⟨hI, vs, hm, hvs, hl⟩ := hst.own b _ hk
          exact ⟨_, _, _, _, _, h, .refl hst, mkEp_of hvs hl hI hm k⟩
        · rename_i q id hk
          obtain ⟨h1, h2⟩ := hst.own b _ hk
          refine ⟨_, _, _, _, _, h, .refl hst, ?_⟩
          rw [h2]; exact .po _ _ h1
        · cases h
    | lo id k e =>
      simp only [freeze] at h
      obtain ⟨a, cs, m, xs, l', rfl, h1, h2, h⟩ := held_inv h
      simp only [Prog.run] at h
      obtain ⟨g, hx⟩ := frz_lo hst hv h1 h2
      exact ⟨_, _, _, _, _, h, g, .c _ _ hx⟩
    | ag cs =>
      cases hv with
      | ag _ vs hv hf =>
        obtain ⟨us, s', o', l', G', h, g, hus, _⟩ := each_ok ih cs _ s o _ G vs h hst hv
        exact ⟨_, _, _, _, _, h, g, mkAg_of hus hf⟩
    | tp cs =>
      cases hv with
      | tp _ vs hv =>
        obtain ⟨us, s', o', l', G', h, g, hus, _⟩ := each_ok ih cs _ s o _ G vs h hst hv
        exact ⟨_, _, _, _, _, h, g, mkTp_of hus⟩
    | fn f a b =>
      cases hv with
      | fn _ _ _ as_ bs ha hb =>
        obtain ⟨us, s1, o1, l1, G1, h, g1, hus, _⟩ := each_ok ih a _ s o _ G as_ h hst ha
        obtain ⟨vs, s2, o2, l2, G2, h, g2, hvs, _⟩ := each_ok ih b _ s1 o1 l1 G1 bs h g1.st (g1.vals hb)
        exact ⟨_, _, _, _, _, h, g1.trans g2, mkFn_of (g2.outs hus) hvs⟩
    | ifc t y =>
      cases hv with
      | ifc _ _ v hv =>
        obtain ⟨u, s', o', l', G', h, g, hu⟩ := ih y _ s o _ G v h hst hv
        exact ⟨_, _, _, _, _, h, g, mkIfc_of hu⟩
    | ep a y k =>
      cases hv with
      | ep _ _ _ r0 off vs hc hI hm =>
        simp only [freeze] at h
        split at h
        · rename_i cs
          obtain ⟨u, s', o', l', G', h, g, hu⟩ := ih (.ag cs) _ s o _ G _ h hst (.ag _ _ hc hm.flat)
          exact ⟨_, _, _, _, _, h, g, epOf_ag (agg_inv hu) hu (g.to.stays r0 _ hI).1 hm k⟩
        · cases hc with
          | cons _ v _ _ hv hn =>
            cases hn
            obtain ⟨u, s', o', l', G', h, g, hu⟩ := ih y _ s o _ G v h hst hv
            exact ⟨_, _, _, _, _, h, g, epOf_one hu (g.to.stays r0 _ hI).1 hm k⟩
        · cases h
theorem keep1_ok (v : AV) : FrzP w tmps F r (keep1 v) v := fun K s o l G x h hst hv => by
  unfold keep1 at h
  split at h
  · cases hv with | ol _ hid => exact ⟨_, _, _, _, _, h, .refl hst, .ol _ hid⟩
  · cases hv with | om _ hid => exact ⟨_, _, _, _, _, h, .refl hst, .om _ hid⟩
  · exact freeze_ok 8 _ K s o l G x h hst hv
theorem keepO_ok (v : AV) : FrzP w tmps F r (keepO v) v := fun K s o l G x h hst hv => by
  unfold keepO at h
  split at h
  · cases hv with
    | ag _ vs hv hf =>
      obtain ⟨us, s', o', l', G', h, g, hus, _⟩ := each_ok keep1_ok _ _ s o _ G vs h hst hv
      exact ⟨_, _, _, _, _, h, g, mkAg_of hus hf⟩
  · exact keep1_ok _ K s o l G x h hst hv
end
end Go.Ev
/- Operations that leave the memory alone. -/
namespace Go.Ev
open Go Go.RowKit
variable [Glob]
/-- What an operation does, whose result is v, behind which the state is s', o'. -/
def OpR (P : Program) (p : Oper) (a : Act) (w : World) (G : Gh) (s : S) (o : O) (v : AV) (s' : S) (o' : O) : Prop := ∀ (next : Act → World → Prop) (Q : Exit → Act → World → Prop),
  (∀ x w1 G', St w1 G' s' o' a.tmps → To w G s o w1 G' s' o' → AVR w1 G' (used w1 G' s' o') v x → next (a.put p.dst x) w1) → p.wp P a w next Q
section
variable {α R : Type} {F : α → S → O → Log → Option R} {r : R} {w : World} {P : Program} {C : Cfg} {Q : Orc} {p : Oper} {a : Act} {G : Gh} {s : S} {o : O}

theorem OpR.value {v : AV} {s' : S} {o' : O} {x : Value} {w1 : World} {G' : Gh} (h : (execOp a.eval p).run P w = .ok (.value x) w1) (hs : St w1 G' s' o' a.tmps) (ht : To w G s o w1 G' s' o')
    (hv : AVR w1 G' (used w1 G' s' o') v x) : OpR P p a w G s o v s' o' := fun next Q' hn => by
  unfold Oper.wp
  rw [h]
  exact hn x w1 G' hs ht hv
theorem OpR.pure {v : AV} {x : Value} (hs : St w G s o a.tmps) (h : (execOp a.eval p).run P w = .ok (.value x) w) (hv : AVR w G (used w G s o) v x) : OpR P p a w G s o v s o :=
  OpR.value h hs (.refl hs) hv
/-- The ghost may turn ahead of the operation. -/
theorem OpR.ghost {v : AV} {s' s'' : S} {o' o'' : O} {G' : Gh} (g : Gs w G s o a.tmps G' s' o') (h : OpR P p a w G' s' o' v s'' o'') : OpR P p a w G s o v s'' o'' := fun next Q' hn =>
  h next Q' fun x w1 G1 hs ht hv => hn x w1 G1 hs (g.to.trans ht) hv
/-- What the program of an operation shows: it goes on with a value that the operation answers. -/
def OpOk (P : Program) (p : Oper) (f : (AV → Prog α) → Prog α) : Prop := ∀ {R : Type} (F : α → S → O → Log → Option R) (r : R) (K : AV → Prog α) (w : World) (G : Gh) (s : S) (o : O) (l : Log) (a : Act),
  (f K).run s o l F = some r → St w G s o a.tmps → ∃ v s' o' l', (K v).run s' o' l' F = some r ∧ OpR P p a w G s o v s' o'

theorem ok_move {ny : Bool} {x : Operand} (hp : p.op = .move x ∨ p.op = .assign x) : OpOk (α := α) P p (rd ny x) := by
  intro R F r K w G s o l a h hs
  obtain ⟨v, l', hv, h⟩ := rd_inv h
  refine ⟨v, s, o, l', h, OpR.pure hs ?_ (opd_of hs hv)⟩
  rcases hp with e | e <;> simp only [execOp, e, Sem.run_pure]
theorem run_v {m : Sem Value} {x : Value} {w' : World} (h : m.run P w = .ok x w') : (do let y ← m; pure (Next.value y) : Sem Next).run P w = .ok (.value x) w' := by
  simp only [Sem.run_bind, h, Result.andThen, Sem.run_pure]
theorem TyIs.struct {t : Nat} {i : TI} {fs : List (Nat × Nat)} (h : TyIs P t i) (hi : i.td = .struct fs) : ∃ fields, P.underlying t = some (.struct fields) ∧ fs = fields.toList.map fun f => (f.offset, f.type) := by
  obtain ⟨d, h1, h2⟩ := h.under
  rw [hi] at h2
  cases d <;> simp only [tdOf] at h2 <;> try (cases h2)
  exact ⟨_, h1, rfl⟩
theorem TyIs.slice {t : Nat} {i : TI} {e : Nat} (h : TyIs P t i) (hi : i.td = .slice e) : P.underlying t = some (.slice e) := by
  obtain ⟨d, h1, h2⟩ := h.under
  rw [hi] at h2
  cases d <;> simp only [tdOf] at h2 <;> try (cases h2)
  exact h1
theorem TyIs.array {t : Nat} {i : TI} {n e : Nat} (h : TyIs P t i) (hi : i.td = .array n e) : P.underlying t = some (.array n e) := by
  obtain ⟨d, h1, h2⟩ := h.under
  rw [hi] at h2
  cases d <;> simp only [tdOf] at h2 <;> try (cases h2)
  exact h1
theorem offOf_inv {i : TI} {f : Nat} {k : Nat → Nat → Prog α} {l : Log} (h : (offOf i f k).run s o l F = some r) : ∃ fs n t, i.td = .struct fs ∧ fs[f]? = some (n, t) ∧ (k n t).run s o l F = some r := by
  unfold offOf at h
  split at h
  · split at h
    · exact ⟨_, _, _, by assumption, by assumption, h⟩
    · cases h
  · cases h
theorem plus_inv {v : AV} {n : Nat} {k : AV → Prog α} {l : Log} {x : Value} (h : (v.plus n k).run s o l F = some r) (hv : AVR w G (used w G s o) v x) : ∃ u b off, x = .pointer (some ⟨b, off, none⟩) ∧
    (k u).run s o l F = some r ∧ AVR w G (used w G s o) u (.pointer (some ⟨b, off + n, none⟩)) := by
  unfold AV.plus at h
  split at h
  · cases hv with | pt b k hb => exact ⟨_, _, _, rfl, h, .pt _ _ hb⟩
  · cases hv with | le q i k hb => exact ⟨_, _, _, rfl, h, by rw [Nat.add_assoc]; exact .le _ _ _ hb⟩
  · cases hv with | oe q i k hb => exact ⟨_, _, _, rfl, h, by rw [Nat.add_assoc]; exact .oe _ _ _ hb⟩
  · cases hv with | po id k hb => exact ⟨_, _, _, rfl, h, .po _ _ hb⟩
  · have hv := hv.c_inv
    cases hv with | ep a y k r0 off vs hc hi hm => exact ⟨_, _, _, rfl, h, .c _ _ (by rw [Nat.add_assoc]; exact .ep _ _ _ _ _ _ hc hi hm)⟩
  · cases hv with | ep a y k r0 off vs hc hi hm => exact ⟨_, _, _, rfl, h, by rw [Nat.add_assoc]; exact .ep _ _ _ _ _ _ hc hi hm⟩
  · cases h
theorem ok_fieldAddr (hC : TyOk P C) {ny : Bool} {t : Nat} {x : Operand} {f : Nat} (hp : p.op = .fieldAddr t x f) :
    OpOk (α := α) P p fun K => tyP C t fun i => rd ny x fun v => offOf i f fun n ft => tyP C ft fun j => pchk (Nat.blt 0 j.size) (v.plus n K) := by
  intro R F r K w G s o l a h hs
  obtain ⟨i, hi, h⟩ := tyP_inv h
  obtain ⟨v, l', hv, h⟩ := rd_inv h
  obtain ⟨fs, n, ft, htd, hf, h⟩ := offOf_inv h
  obtain ⟨j, hj, h⟩ := tyP_inv h
  obtain ⟨hz, h⟩ := pchk_inv h
  have hx := opd_of hs hv
  obtain ⟨u, b, off, hxe, h, hu⟩ := plus_inv h hx
  obtain ⟨fields, hu1, hu2⟩ := (hC _ _ hi).struct htd
  refine ⟨u, s, o, l', h, OpR.pure hs ?_ hu⟩
  have hfield : ∃ fd, fields[f]? = some fd ∧ fd.offset = n ∧ fd.type = ft := by
    rw [hu2, List.getElem?_map] at hf
    cases hq : fields.toList[f]? with
    | none => rw [hq] at hf; cases hf
    | some fd =>
      rw [hq] at hf
      injection hf with hf; injection hf with e1 e2
      exact ⟨fd, by simpa using hq, e1, e2⟩
  obtain ⟨fd, hfd, e1, e2⟩ := hfield
  subst e1 e2
  have hz : ¬ j.size = 0 := by have := Nat.blt_eq.mp hz; omega
  simp only [execOp, hp]
  refine run_v ?_
  simp only [Instr.fieldAt, Sem.run_bind, run_under hu1, Result.andThen, hfd, hxe, Instr.sureAddr, Sem.run_pure, fieldPlace, run_size (hC _ _ hj), hz, if_false, add_at]
end
end Go.Ev
/- Sums, tests, conversions. -/
namespace Go.Ev
open Go Go.RowKit
variable [Glob]
section
variable {α R : Type} {F : α → S → O → Log → Option R} {r : R} {w : World} {P : Program} {C : Cfg} {Q : Orc} {p : Oper} {a : Act} {G : Gh} {s : S} {o : O} {I : Nat → Role}

theorem VR.int_inv {k : IntKind} {n : Int} {x : Value} (h : VR w I (.int k n) x) : x = .int k n := by cases h; rfl
theorem VR.bool_inv {b : Bool} {x : Value} (h : VR w I (.bool b) x) : x = .bool b := by cases h; rfl
theorem VR.str_inv {b : ByteArray} {x : Value} (h : VR w I (.str b) x) : x = .string b := by cases h; rfl
theorem leI_eq (a b : Int) : leI a b = decide (a ≤ b) := by
  rcases a with m | m <;> rcases b with n | n
  · by_cases h : m ≤ n
    · rw [decide_eq_true (by exact Int.ofNat_le.mpr h)]; exact Nat.ble_eq.mpr h
    · rw [decide_eq_false (by intro h'; exact h (Int.ofNat_le.mp h'))]; exact Bool.eq_false_iff.mpr fun h' => h (Nat.ble_eq.mp h')
  · rw [decide_eq_false (by have := Int.negSucc_lt_zero n; have h0 : (0 : Int) ≤ Int.ofNat m := Int.natCast_nonneg m; omega)]; rfl
  · rw [decide_eq_true (by have := Int.negSucc_lt_zero m; have h0 : (0 : Int) ≤ Int.ofNat n := Int.natCast_nonneg n; omega)]; rfl
  · by_cases h : n ≤ m
    · rw [decide_eq_true (by rw [Int.negSucc_eq, Int.negSucc_eq]; omega)]; exact Nat.ble_eq.mpr h
    · rw [decide_eq_false (by rw [Int.negSucc_eq, Int.negSucc_eq]; omega)]; exact Bool.eq_false_iff.mpr fun h' => h (Nat.ble_eq.mp h')
theorem ltI_eq (a b : Int) : ltI a b = decide (a < b) := by
  rcases a with m | m <;> rcases b with n | n
  · by_cases h : m < n
    · rw [decide_eq_true (by exact Int.ofNat_lt.mpr h)]; exact Nat.blt_eq.mpr h
    · rw [decide_eq_false (by intro h'; exact h (Int.ofNat_lt.mp h'))]; exact Bool.eq_false_iff.mpr fun h' => h (Nat.blt_eq.mp h')
  · rw [decide_eq_false (by have := Int.negSucc_lt_zero n; have h0 : (0 : Int) ≤ Int.ofNat m := Int.natCast_nonneg m; omega)]; rfl
  · rw [decide_eq_true (by have := Int.negSucc_lt_zero m; have h0 : (0 : Int) ≤ Int.ofNat n := Int.natCast_nonneg n; omega)]; rfl
  · by_cases h : n < m
    · rw [decide_eq_true (by rw [Int.negSucc_eq, Int.negSucc_eq]; omega)]; exact Nat.blt_eq.mpr h
    · rw [decide_eq_false (by rw [Int.negSucc_eq, Int.negSucc_eq]; omega)]; exact Bool.eq_false_iff.mpr fun h' => h (Nat.blt_eq.mp h')
theorem run_arith {op : BinOp} {k : IntKind} {m n : Int} {z : CV} (h : arith op k m n = some z) (t : TypeId) : ∃ x, (binOp op t (.int k m) (.int k n)).run P w = .ok x w ∧ VR w I z x := by
  cases op <;> simp only [arith, leI_eq, ltI_eq] at h <;> first
    | (injection h with h; subst h; exact ⟨_, by simp only [binOp, ne_eq, not_true_eq_false, if_false, Op.intArith, Op.intCmp, Op.intBits, Sem.run_pure]; rfl, by constructor⟩)
    | cases h
theorem run_div {k : IntKind} {m n : Int} (hn : n ≠ 0) (t : TypeId) : (binOp .quo t (.int k m) (.int k n)).run P w = .ok (.int k (k.wrap (m.tdiv n))) w := by
  simp only [binOp, ne_eq, not_true_eq_false, if_false, Op.intDiv, hn, Sem.run_pure]
theorem run_rem {k : IntKind} {m n : Int} (hn : n ≠ 0) (t : TypeId) : (binOp .rem t (.int k m) (.int k n)).run P w = .ok (.int k (m.tmod n)) w := by
  simp only [binOp, ne_eq, not_true_eq_false, if_false, Op.intDiv, hn, Sem.run_pure]
theorem guard_none {op : BinOp} {t : TypeId} {x y : Operand} {u v : Value} (h : ∀ xs, u ≠ .agg xs) (h' : u = .nilIface → v = .nilIface → (∃ c, x = .const c) ∨ (∃ c, y = .const c)) : (eqGuard op t x y u v).run P w = .ok () w := by
  cases op <;> unfold eqGuard <;> simp only [Bool.not_true, Bool.not_false, if_true, Bool.false_eq_true, if_false] <;> first
    | rfl
    | (split
       · rcases h' rfl rfl with ⟨c, rfl⟩ | ⟨c, rfl⟩
         · rfl
         · cases x <;> rfl
       · exact absurd rfl (h _)
       · rfl)
theorem ok_pick {ny : Bool} {c x y : Operand} (hp : p.op = .pick c x y) : OpOk (α := α) P p fun K => rdc ny c fun t => .look _ (lB t) fun t => .look _ (lIfb t) fun t => (match t with | true => rd ny x K | false => rd ny y K) := by
  intro R F r K w G s o l a h hs
  obtain ⟨t, l', ht, h⟩ := rdc_inv h
  obtain ⟨b, rfl, h1⟩ := lB_inv h
  clear h
  have h := lIfb_inv h1
  have hb := (opd_of hs ht).c_inv.bool_inv
  cases b with
  | true =>
    obtain ⟨v, l', hv, h⟩ := rd_inv h
    exact ⟨v, s, o, l', h, OpR.pure hs (by simp only [execOp, hp, hb, asBool, Sem.run_bind, Sem.run_pure, Result.andThen, if_true]) (opd_of hs hv)⟩
  | false =>
    obtain ⟨v, l', hv, h⟩ := rd_inv h
    exact ⟨v, s, o, l', h, OpR.pure hs (by simp only [execOp, hp, hb, asBool, Sem.run_bind, Sem.run_pure, Result.andThen, Bool.false_eq_true, if_false]) (opd_of hs hv)⟩
theorem run_str {op : BinOp} {m n : ByteArray} {k : CV → Prog α} {l : Log} (h : (strOp op m n k).run s o l F = some r) (t : TypeId) : ∃ z x, (k z).run s o l F = some r ∧ (binOp op t (.string m) (.string n)).run P w = .ok x w ∧ VR w I z x := by
  cases op <;> simp only [strOp, catS_eq, ← bytesL_eq] at h <;> first
    | cases h
    | (obtain ⟨hz, h1⟩ := pchk_inv h
       refine ⟨_, _, h1, ?_, .str _⟩
       have hz := Nat.le_of_ble_eq_true hz
       have hz' : ¬ ((m.size + n.size : Nat) : Int) > IntKind.i64.max := by
         have : IntKind.i64.max = 9223372036854775807 := by decide
         rw [this]
         unfold maxStr at hz
         omega
       simp only [binOp, Op.stringOp, hz', if_false, Sem.run_pure]; done)
    | exact ⟨_, _, h, by simp only [binOp, Op.stringOp, Sem.run_pure]; rfl, by constructor⟩
theorem tdOf_int {d : TypeDesc} {k : IntKind} (h : tdOf d = .int k) : d = .int k := by cases d <;> first | (injection h with h; subst h; rfl) | cases h
theorem tdOf_bool {d : TypeDesc} (h : tdOf d = .bool) : d = .bool := by cases d <;> first | rfl | cases h
theorem tdOf_str {d : TypeDesc} (h : tdOf d = .str) : d = .string := by cases d <;> first | rfl | cases h
theorem tdOf_ptr {d : TypeDesc} (h : tdOf d = .ptr) : ∃ e, d = .pointer e := by cases d <;> first | exact ⟨_, rfl⟩ | cases h
theorem tdOf_slice {d : TypeDesc} {e : Nat} (h : tdOf d = .slice e) : d = .slice e := by cases d <;> first | (injection h with h; subst h; rfl) | cases h
theorem tdOf_map {d : TypeDesc} {e f : Nat} (h : tdOf d = .map e f) : d = .map e f := by cases d <;> first | (injection h with h h'; subst h; subst h'; rfl) | cases h
theorem tdOf_fn {d : TypeDesc} (h : tdOf d = .fn) : ∃ x y z, d = .func x y z := by cases d <;> first | exact ⟨_, _, _, rfl⟩ | cases h
theorem tdOf_ifc {d : TypeDesc} (h : tdOf d = .ifc) : ∃ x, d = .interface x := by cases d <;> first | exact ⟨_, rfl⟩ | cases h
/-- two values of a type are held against one another -/
theorem equal_def (t : TypeId) (x y : Value) : Op.equal t x y = Op.equalIn (9999 + 1) t x y := rfl
theorem run_bool {op : BinOp} {m n : Bool} {t : TypeId} (ht : P.underlying t = some .bool) :
    (binOp .eql t (.bool m) (.bool n)).run P w = .ok (.bool (m == n)) w ∧ (binOp .neq t (.bool m) (.bool n)).run P w = .ok (.bool (!(m == n))) w := by
  have h : (Op.equal t (.bool m) (.bool n)).run P w = .ok (m == n) w := by
    rw [equal_def]
    unfold Op.equalIn
    simp only [Sem.run_bind, run_under ht, Result.andThen, Sem.run_pure]
  constructor <;> simp only [binOp, Sem.run_bind, h, Result.andThen, Sem.run_pure]
end
end Go.Ev
/- Operators, whole. -/
namespace Go.Ev
open Go Go.RowKit
variable [Glob]
section
variable {α R : Type} {F : α → S → O → Log → Option R} {r : R} {w : World} {P : Program} {C : Cfg} {Q : Orc} {p : Oper} {a : Act} {G : Gh} {s : S} {o : O} {I : Nat → Role}

/-- the nil that a value is held against -/
theorem isNilO_inv {k : TD} {x : Operand} (h : isNilO k x = true) : ∃ v, x = .const v ∧ ((k = .ptr ∧ v = .pointer none) ∨ ((∃ e, k = .slice e) ∧ v = .slice none 0 0) ∨ (k = .fn ∧ v = .nilFunc) ∨ (k = .ifc ∧ v = .nilIface)) := by
  unfold isNilO at h
  split at h
  · split at h
    · exact ⟨_, rfl, .inl ⟨rfl, rfl⟩⟩
    · exact ⟨_, rfl, .inr (.inl ⟨⟨_, rfl⟩, rfl⟩)⟩
    · exact ⟨_, rfl, .inr (.inr (.inl ⟨rfl, rfl⟩))⟩
    · exact ⟨_, rfl, .inr (.inr (.inr ⟨rfl, rfl⟩))⟩
    · cases h
  · cases h
/-- a header, of so many elements -/
theorem hd_key {x : Value} (ys : List CV) (h : (x = .slice none 0 0 ∧ ys = []) ∨ (∃ b c, x = .slice (some b) ys.length c)) :
      (ys = [] ∧ (x = .slice none 0 0 ∨ ∃ b c, x = .slice (some b) 0 c)) ∨ (ys ≠ [] ∧ ∃ b c, x = .slice (some b) ys.length c) := by
  rcases h with ⟨h1, h2⟩ | ⟨b, c, h1⟩
  · exact .inl ⟨h2, .inl h1⟩
  · cases ys with
    | nil => exact .inl ⟨rfl, .inr ⟨b, c, h1⟩⟩
    | cons y ys => exact .inr ⟨by simp, b, c, h1⟩
theorem listOut_inv {n : Nat} {k : List CV → Prog α} {l : Log} (h : (listOut n k).run s o l F = some r) (hs : St w G s o a.tmps) (hn : n < o.length) : ∃ xs l', (k xs).run s o l' F = some r ∧
    ((xs = [] ∧ ((G.oh n).1 = .slice none 0 0 ∨ ∃ b c, (G.oh n).1 = .slice (some b) 0 c)) ∨ (xs ≠ [] ∧ ∃ b c, (G.oh n).1 = .slice (some b) xs.length c)) := by
  simp only [listOut, Prog.run] at h
  split at h
  · rename_i q m xs hk
    obtain ⟨_, _, hl⟩ := (hs.out n hn).is hk
    refine ⟨xs, _, h, hd_key xs (hl.2.imp id ?_)⟩
    rintro ⟨cap, _, _, _, e, _⟩; exact ⟨_, _, e⟩
  · rename_i q m xs hk
    obtain ⟨_, _, hl⟩ := (hs.out n hn).is hk
    refine ⟨xs, _, h, hd_key xs (hl.2.imp id ?_)⟩
    rintro ⟨cap, _, _, _, _, e, _⟩; exact ⟨_, _, e⟩
  · rename_i q xs hk
    obtain ⟨hv, _, _⟩ := (hs.out n hn).is hk
    refine ⟨xs, _, h, hd_key xs ?_⟩
    generalize hh : (G.oh n).1 = x at hv
    cases hv with
    | im0 => exact .inl ⟨rfl, rfl⟩
    | imz a => exact .inr ⟨_, _, rfl⟩
    | im => exact .inr ⟨_, _, rfl⟩
  · cases h
theorem listOf_inv {n : Nat} {k : List CV → Prog α} {l : Log} (h : (listOf n k).run s o l F = some r) (hs : St w G s o a.tmps) : ∃ xs l', (k xs).run s o l' F = some r ∧
    ((xs = [] ∧ (G.hd n = .slice none 0 0 ∨ ∃ b c, G.hd n = .slice (some b) 0 c)) ∨ (xs ≠ [] ∧ ∃ b c, G.hd n = .slice (some b) xs.length c)) := by
  have key : ∀ ys : List CV, (G.hd n = .slice none 0 0 ∧ ys = []) ∨ (∃ b c, G.hd n = .slice (some b) ys.length c) →
      (ys = [] ∧ (G.hd n = .slice none 0 0 ∨ ∃ b c, G.hd n = .slice (some b) 0 c)) ∨ (ys ≠ [] ∧ ∃ b c, G.hd n = .slice (some b) ys.length c) := fun ys h => hd_key ys h
  simp only [listOf, Prog.run] at h
  split at h
  · rename_i q m xs hn
    obtain ⟨_, _, hl⟩ := hs.own n _ hn
    refine ⟨xs, _, h, key xs (hl.2.imp id ?_)⟩
    rintro ⟨cap, _, _, _, e, _⟩; exact ⟨_, _, e⟩
  · rename_i q xs hn
    obtain ⟨hv, _, _⟩ := hs.own n _ hn
    refine ⟨xs, _, h, key xs ?_⟩
    generalize hh : G.hd n = x at hv
    cases hv with
    | im0 => exact .inl ⟨rfl, rfl⟩
    | imz a => exact .inr ⟨_, _, rfl⟩
    | im => exact .inr ⟨_, _, rfl⟩
  · cases h
/-- what is held against nil -/
inductive NilIs (k : TD) : Value → Bool → Prop where
  | ptr0 : k = .ptr → NilIs k (.pointer none) true
  | ptr1 (b : Addr) : k = .ptr → NilIs k (.pointer (some b)) false
  | sl0 (e : Nat) : k = .slice e → NilIs k (.slice none 0 0) true
  | sl1 (e : Nat) (b : Addr) (n c : Nat) : k = .slice e → NilIs k (.slice (some b) n c) false
  | fn0 : k = .fn → NilIs k .nilFunc true
  | fn1 (f : Fn) (x y : Array Value) : k = .fn → NilIs k (.func f x y) false
  | if0 : k = .ifc → NilIs k .nilIface true
  | if1 (t : Nat) (x : Value) : k = .ifc → NilIs k (.iface t x) false
theorem isNil_ok {k : TD} {v : AV} {K : Bool → Prog α} {l : Log} {x : Value} (h : (v.isNil k K).run s o l F = some r) (hs : St w G s o a.tmps) (hv : AVR w G (used w G s o) v x) :
    ∃ t l', (K t).run s o l' F = some r ∧ NilIs k x t := by
  unfold AV.isNil at h
  split at h
  · obtain ⟨t, h1, ⟨rfl, rfl⟩ | ⟨rfl, ⟨y, ys, rfl⟩ | rfl⟩⟩ := lNilS_inv h
    · have := hv.c_inv; cases this; exact ⟨_, _, h1, .sl0 _ rfl⟩
    · have := hv.c_inv; cases this; exact ⟨_, _, h1, .sl1 _ _ _ _ rfl⟩
    · have := hv.c_inv; cases this <;> exact ⟨_, _, h1, .sl1 _ _ _ _ rfl⟩
  · cases hv; exact ⟨_, _, h, .sl0 _ rfl⟩
  · obtain ⟨xs, l', h1, h2⟩ := listOf_inv h hs
    have h1 := lEmp_inv h1
    cases xs with
    | nil => cases h1
    | cons y ys =>
      rcases h2 with ⟨e, _⟩ | ⟨_, b, c, e⟩
      · cases e
      · cases hv with | sl _ _ => rw [e]; exact ⟨_, _, h1, .sl1 _ _ _ _ rfl⟩
  · have hv' := hv
    cases hv with
    | ol _ hid =>
      obtain ⟨xs, l', h1, h2⟩ := listOut_inv h hs hid
      have h1 := lEmp_inv h1
      cases xs with
      | nil => cases h1
      | cons y ys =>
        rcases h2 with ⟨e, _⟩ | ⟨_, b, c, e⟩
        · cases e
        · rw [e]; exact ⟨_, _, h1, .sl1 _ _ _ _ rfl⟩
  · obtain ⟨t, h1, ⟨rfl, rfl⟩ | ⟨rfl, y, ys, o', rfl⟩⟩ := lNilP_inv h
    · have := hv.c_inv; cases this; exact ⟨_, _, h1, .ptr0 rfl⟩
    · have := hv.c_inv; cases this; exact ⟨_, _, h1, .ptr1 _ rfl⟩
  · cases hv; exact ⟨_, _, h, .ptr1 _ rfl⟩
  · cases hv; exact ⟨_, _, h, .ptr1 _ rfl⟩
  · cases hv; exact ⟨_, _, h, .ptr1 _ rfl⟩
  · cases hv; exact ⟨_, _, h, .ptr1 _ rfl⟩
  · cases hv; exact ⟨_, _, h, .ptr1 _ rfl⟩
  · obtain ⟨t, h1, ⟨rfl, rfl⟩ | ⟨rfl, y, ys, o', rfl⟩⟩ := lNilF_inv h
    · have := hv.c_inv; cases this; exact ⟨_, _, h1, .fn0 rfl⟩
    · have := hv.c_inv; cases this; exact ⟨_, _, h1, .fn1 _ _ _ rfl⟩
  · cases hv; exact ⟨_, _, h, .fn1 _ _ _ rfl⟩
  · obtain ⟨t, h1, ⟨rfl, rfl⟩ | ⟨rfl, y, ys, rfl⟩⟩ := lNilI_inv h
    · have := hv.c_inv; cases this; exact ⟨_, _, h1, .if0 rfl⟩
    · have := hv.c_inv; cases this; exact ⟨_, _, h1, .if1 _ _ rfl⟩
  · cases hv; exact ⟨_, _, h, .if1 _ _ rfl⟩
  · cases h
theorem run_nil {k : TD} {t : TypeId} {i : TI} (ht : TyIs P t i) (hi : i.td = k) {x n : Value} {b : Bool} (hx : NilIs k x b) (hn : NilIs k n true) :
    (Op.equal t x n).run P w = .ok b w ∧ (Op.equal t n x).run P w = .ok b w := by
  obtain ⟨d, hd, hk⟩ := ht.under
  rw [hi] at hk
  rw [equal_def, equal_def]
  unfold Op.equalIn
  simp only [Sem.run_bind, run_under hd, Result.andThen]
  cases hn with
  | ptr0 e =>
    rw [e] at hk hx
    obtain ⟨e, rfl⟩ := tdOf_ptr hk
    cases hx <;> first | (rename_i q; cases q; done) | exact ⟨rfl, rfl⟩
  | sl0 e' e =>
    rw [e] at hk hx
    have := tdOf_slice hk
    subst this
    cases hx <;> first | (rename_i q; cases q; done) | exact ⟨rfl, rfl⟩
  | fn0 e =>
    rw [e] at hk hx
    obtain ⟨e1, e2, e3, rfl⟩ := tdOf_fn hk
    cases hx <;> first | (rename_i q; cases q; done) | exact ⟨rfl, rfl⟩
  | if0 e =>
    rw [e] at hk hx
    obtain ⟨e, rfl⟩ := tdOf_ifc hk
    cases hx <;> first | (rename_i q; cases q; done) | exact ⟨rfl, rfl⟩
theorem isNilO_is {k : TD} {x : Operand} (h : isNilO k x = true) (a : Act) : (∃ c, x = .const c) ∧ NilIs k (a.eval x) true := by
  obtain ⟨v, rfl, h1⟩ := isNilO_inv h
  refine ⟨⟨v, rfl⟩, ?_⟩
  show NilIs k v true
  clear h
  rcases h1 with ⟨h, rfl⟩ | ⟨⟨e, h⟩, rfl⟩ | ⟨h, rfl⟩ | ⟨h, rfl⟩
  · exact .ptr0 h
  · exact .sl0 e h
  · exact .fn0 h
  · exact .if0 h
theorem NilIs.notAgg {k : TD} {x : Value} {b : Bool} (h : NilIs k x b) : ∀ xs, x ≠ .agg xs := by intro xs e; subst e; cases h
theorem bin_nil {k k' : TD} {t : TypeId} {x n : Value} {b c : Bool} (hx : NilIs k x b) (hn : NilIs k' n c) :
    binOp .eql t x n = (do pure (.bool (← Op.equal t x n))) ∧ binOp .neq t x n = (do pure (.bool (!(← Op.equal t x n)))) := by
  cases hn <;> cases hx <;> exact ⟨rfl, rfl⟩
theorem run_binNil {k : TD} {t : TypeId} {i : TI} (ht : TyIs P t i) (hi : i.td = k) {x n : Value} {b : Bool} (hx : NilIs k x b) (hn : NilIs k n true) :
    ((binOp .eql t x n).run P w = .ok (.bool b) w ∧ (binOp .neq t x n).run P w = .ok (.bool (!b)) w) ∧ (binOp .eql t n x).run P w = .ok (.bool b) w ∧ (binOp .neq t n x).run P w = .ok (.bool (!b)) w := by
  obtain ⟨h1, h2⟩ := run_nil (w := w) ht hi hx hn
  rw [(bin_nil hx hn).1, (bin_nil hx hn).2, (bin_nil hn hx).1, (bin_nil hn hx).2]
  simp only [Sem.run_bind, h1, h2, Result.andThen, Sem.run_pure, and_self]
theorem run_shl {k yk : IntKind} {m n : Int} (hn : 0 ≤ n) (t : TypeId) : (binOp .shl t (.int k m) (.int yk n)).run P w = .ok (.int k (k.wrap (m * 2 ^ min n.toNat k.bits))) w := by
  have h : ¬ n < 0 := by omega
  simp only [binOp, Op.shift, if_neg h, Sem.run_pure]
theorem run_shr {k yk : IntKind} {m n : Int} (hn : 0 ≤ n) (t : TypeId) : (binOp .shr t (.int k m) (.int yk n)).run P w = .ok (.int k (m.fdiv (2 ^ min n.toNat k.bits))) w := by
  have h : ¬ n < 0 := by omega
  simp only [binOp, Op.shift, if_neg h, Sem.run_pure]
theorem binA_ok (hC : TyOk P C) {op : BinOp} {t : Nat} {i : TI} (hi : C.ty t = some i) {ny : Bool} {ox oy : Operand} {x y : AV} {K : CV → Prog α} {l : Log} (h : (binA op i ox oy x y K).run s o l F = some r) (hs : St w G s o a.tmps)
    (hx : opdS ny s ox = some x) (hy : opdS ny s oy = some y) : ∃ z v l', (K z).run s o l' F = some r ∧ (do eqGuard op t ox oy (a.eval ox) (a.eval oy); binOp op t (a.eval ox) (a.eval oy) : Sem Value).run P w = .ok v w ∧ VR w G.I z v := by
  have ht := hC _ _ hi
  have vx := opd_of hs hx
  have vy := opd_of hs hy
  unfold binA at h
  split at h
  · rename_i k hk
    obtain ⟨x, rfl, h1⟩ := cv_inv h
    obtain ⟨y, rfl, h2⟩ := cv_inv h1
    obtain ⟨m, rfl, h3⟩ := lInt_inv h2
    have ex := vx.c_inv.int_inv
    have hg : (eqGuard op t ox oy (a.eval ox) (a.eval oy)).run P w = .ok () w := guard_none (by rw [ex]; simp) (by rw [ex]; simp)
    clear h h1 h2
    simp only [Sem.run_bind, hg, Result.andThen]
    rw [ex]
    split at h3
    · obtain ⟨yk, n, rfl, h4⟩ := lAny_inv h3
      obtain ⟨hz, h5⟩ := pchk_inv h4
      rw [leI_eq, decide_eq_true_eq] at hz
      rw [vy.c_inv.int_inv]
      exact ⟨_, _, _, h5, run_shl hz t, .int _ _⟩
    · obtain ⟨yk, n, rfl, h4⟩ := lAny_inv h3
      obtain ⟨hz, h5⟩ := pchk_inv h4
      rw [leI_eq, decide_eq_true_eq] at hz
      rw [vy.c_inv.int_inv]
      exact ⟨_, _, _, h5, run_shr hz t, .int _ _⟩
    · obtain ⟨n, rfl, h4⟩ := lInt_inv h3
      rw [vy.c_inv.int_inv]
      split at h4
      · obtain ⟨hz, h5⟩ := pchk_inv h4
        exact ⟨_, _, _, h5, run_div (by simpa using hz) t, .int _ _⟩
      · obtain ⟨hz, h5⟩ := pchk_inv h4
        exact ⟨_, _, _, h5, run_rem (by simpa using hz) t, .int _ _⟩
      · split at h4
        · rename_i z hz
          obtain ⟨v, h5, h6⟩ := run_arith (P := P) (w := w) (I := G.I) hz t
          exact ⟨z, v, _, h4, h5, h6⟩
        · cases h4
  · rename_i hk
    obtain ⟨x, rfl, h1⟩ := cv_inv h
    obtain ⟨y, rfl, h2⟩ := cv_inv h1
    obtain ⟨m, rfl, h3⟩ := lB_inv h2
    obtain ⟨n, rfl, h4⟩ := lB_inv h3
    have ex := vx.c_inv.bool_inv
    have ey := vy.c_inv.bool_inv
    clear h h1 h2 h3
    have hg : (eqGuard op t ox oy (a.eval ox) (a.eval oy)).run P w = .ok () w := guard_none (by rw [ex]; simp) (by rw [ex]; simp)
    obtain ⟨d, hd, hd'⟩ := ht.under
    rw [hk] at hd'
    have := tdOf_bool hd'
    subst this
    simp only [Sem.run_bind, hg, Result.andThen]
    rw [ex, ey]
    obtain ⟨e1, e2⟩ := run_bool (op := op) (w := w) (m := m) (n := n) hd
    split at h4
    · exact ⟨_, _, _, h4, e1, .bool _⟩
    · exact ⟨_, _, _, h4, e2, .bool _⟩
    · cases h4
  · rename_i hk
    obtain ⟨x, rfl, h1⟩ := cv_inv h
    obtain ⟨y, rfl, h2⟩ := cv_inv h1
    obtain ⟨m, rfl, h3⟩ := lStr_inv h2
    obtain ⟨n, rfl, h4⟩ := lStr_inv h3
    have ex := vx.c_inv.str_inv
    have ey := vy.c_inv.str_inv
    clear h h1 h2 h3
    have hg : (eqGuard op t ox oy (a.eval ox) (a.eval oy)).run P w = .ok () w := guard_none (by rw [ex]; simp) (by rw [ex]; simp)
    simp only [Sem.run_bind, hg, Result.andThen]
    rw [ex, ey]
    obtain ⟨z, v, h5, h6, h7⟩ := run_str (P := P) (w := w) (I := G.I) h4 t
    exact ⟨z, v, _, h5, h6, h7⟩
  · split at h
    · obtain ⟨hc, hn⟩ := isNilO_is (k := i.td) (x := oy) (by assumption) a
      obtain ⟨b, l', h1, hb⟩ := isNil_ok h hs vx
      have hg : (eqGuard op t ox oy (a.eval ox) (a.eval oy)).run P w = .ok () w := guard_none hb.notAgg (fun _ _ => .inr hc)
      simp only [Sem.run_bind, hg, Result.andThen]
      obtain ⟨⟨e1, e2⟩, _⟩ := run_binNil (w := w) ht rfl hb hn
      split at h1
      · exact ⟨_, _, _, h1, e1, .bool _⟩
      · exact ⟨_, _, _, h1, e2, .bool _⟩
      · cases h1
    · obtain ⟨hc, hn⟩ := isNilO_is (k := i.td) (x := ox) (by assumption) a
      obtain ⟨b, l', h1, hb⟩ := isNil_ok h hs vy
      have hg : (eqGuard op t ox oy (a.eval ox) (a.eval oy)).run P w = .ok () w := guard_none hn.notAgg (fun _ _ => .inl hc)
      simp only [Sem.run_bind, hg, Result.andThen]
      obtain ⟨_, e1, e2⟩ := run_binNil (w := w) ht rfl hb hn
      split at h1
      · exact ⟨_, _, _, h1, e1, .bool _⟩
      · exact ⟨_, _, _, h1, e2, .bool _⟩
      · cases h1
    · cases h
theorem ok_binOp (hC : TyOk P C) {ny : Bool} {op : BinOp} {t t' : Nat} {x y : Operand} (hp : p.op = .binOp op t x y t') : OpOk (α := α) P p fun K => tyP C t fun i => rd ny x fun u => rd ny y fun v => binA op i x y u v fun z => K (.c z) := by
  intro R F r K w G s o l a h hs
  obtain ⟨i, hi, h⟩ := tyP_inv h
  obtain ⟨u, l1, hu, h⟩ := rd_inv h
  obtain ⟨v, l2, hv, h⟩ := rd_inv h
  obtain ⟨z, q, l3, h, hr, hq⟩ := binA_ok hC hi h hs hu hv
  refine ⟨_, s, o, l3, h, OpR.pure hs ?_ (.c _ _ hq)⟩
  simp only [execOp, hp]
  exact run_v hr
theorem ok_unOp {ny : Bool} {op : UnOp} {t : Nat} {x : Operand} (hp : p.op = .unOp op t x) : OpOk (α := α) P p fun K => rdc ny x fun x => unA op x fun z => K (.c z) := by
  intro R F r K w G s o l a h hs
  obtain ⟨u, l1, hu, h1⟩ := rdc_inv h
  have hx := (opd_of hs hu).c_inv
  unfold unA at h1
  split at h1
  · obtain ⟨b, rfl, h2⟩ := lB_inv h1
    refine ⟨_, s, o, l1, h2, OpR.pure hs ?_ (.c _ _ (.bool _))⟩
    simp only [execOp, hp, hx.bool_inv]
    exact run_v rfl
  · obtain ⟨k, n, rfl, h2⟩ := lAny_inv h1
    refine ⟨_, s, o, l1, h2, OpR.pure hs ?_ (.c _ _ (.int _ _))⟩
    simp only [execOp, hp, hx.int_inv]
    refine run_v ?_
    simp only [Op.unary, Op.intArith, Sem.run_pure, Int.zero_sub]
  · obtain ⟨k, n, rfl, h2⟩ := lAny_inv h1
    refine ⟨_, s, o, l1, h2, OpR.pure hs ?_ (.c _ _ (.int _ _))⟩
    simp only [execOp, hp, hx.int_inv]
    refine run_v ?_
    simp only [Op.unary, Op.intBits, Sem.run_pure]
  · cases h1
end
end Go.Ev
/- Parts of values; closures; values of interfaces. -/
namespace Go.Ev
open Go Go.RowKit
variable [Glob]
section
variable {α R : Type} {F : α → S → O → Log → Option R} {r : R} {w : World} {P : Program} {C : Cfg} {Q : Orc} {p : Oper} {a : Act} {G : Gh} {s : S} {o : O} {I : Nat → Role}

theorem VR.ag_inv {cs : List CV} {x : Value} (h : VR w I (.ag cs) x) : ∃ vs : List Value, x = .agg vs.toArray ∧ VRs w I cs vs ∧ Flat vs := by cases h; exact ⟨_, rfl, by assumption, by assumption⟩
theorem AVR.ag_inv {U : Used} {cs : List AV} {x : Value} (h : AVR w G U (.ag cs) x) : ∃ vs : List Value, x = .agg vs.toArray ∧ AVRs w G U cs vs ∧ Flat vs := by cases h; exact ⟨_, rfl, by assumption, by assumption⟩
theorem VRs.part {cs : List CV} {vs : List Value} (h : VRs w I cs vs) (off n : Nat) : VRs w I ((cs.drop off).take n) ((vs.drop off).take n) := by
  have hl := h.length
  refine VRs.of_get (by simp only [List.length_take, List.length_drop, hl]) fun k x v hx hv => ?_
  rw [List.getElem?_take] at hx hv
  split at hx
  · rename_i hk
    rw [if_pos hk] at hv
    rw [List.getElem?_drop] at hx hv
    obtain ⟨u, hu, hr⟩ := h.get hx
    rw [hv] at hu; injection hu with hu; subst hu; exact hr
  · cases hx
theorem AVRs.of_get {U : Used} : ∀ {xs : List AV} {vs : List Value}, xs.length = vs.length → (∀ (k : Nat) (x : AV) (v : Value), xs[k]? = some x → vs[k]? = some v → AVR w G U x v) → AVRs w G U xs vs
  | [], [], _, _ => .nil
  | [], _ :: _, h, _ => by simp at h
  | _ :: _, [], h, _ => by simp at h
  | x :: xs, v :: vs, h, hv => .cons _ _ _ _ (hv 0 x v rfl rfl) (AVRs.of_get (by simpa using h) (fun k x v h1 h2 => hv (k + 1) x v (by simpa using h1) (by simpa using h2)))
theorem AVRs.part {U : Used} {cs : List AV} {vs : List Value} (h : AVRs w G U cs vs) (off n : Nat) : AVRs w G U ((cs.drop off).take n) ((vs.drop off).take n) := by
  have hl := h.length
  refine AVRs.of_get (by simp only [List.length_take, List.length_drop, hl]) fun k x v hx hv => ?_
  rw [List.getElem?_take] at hx hv
  split at hx
  · rename_i hk
    rw [if_pos hk] at hv
    rw [List.getElem?_drop] at hx hv
    obtain ⟨u, hu, hr⟩ := h.get hx
    rw [hv] at hu; injection hu with hu; subst hu; exact hr
  · cases hx
theorem extract_list (vs : List Value) (off n : Nat) : vs.toArray.extract off (off + n) = ((vs.drop off).take n).toArray := by
  simp [List.extract_toArray, Nat.add_sub_cancel_left]
theorem run_partAg {t : Nat} {i : TI} (ht : TyIs P t i) (ha : i.agg = true) (vs : List Value) (off : Nat) : (part t vs.toArray off).run P w = .ok (.agg ((vs.drop off).take i.size).toArray) w := by
  simp only [Go.part, Sem.run_bind, run_isAgg ht, Result.andThen, ha, if_true, run_size ht, Sem.run_pure, extract_list]
theorem run_partOne {t : Nat} {i : TI} (ht : TyIs P t i) (ha : i.agg = false) {vs : List Value} {off : Nat} {v : Value} (hv : vs[off]? = some v) : (part t vs.toArray off).run P w = .ok v w := by
  simp only [Go.part, Sem.run_bind, run_isAgg ht, Result.andThen, ha, Bool.false_eq_true, if_false, List.getElem?_toArray, hv, Sem.run_pure]
/-- a part of a value: closed, or not -/
theorem fldCV_ok {t : Nat} {i : TI} (ht : TyIs P t i) {x : CV} {off : Nat} {K : AV → Prog α} {l : Log} {v : Value} (h : (fldCV i x off K).run s o l F = some r) (hv : VR w G.I x v) :
    ∃ u vs y, (K u).run s o l F = some r ∧ v = .agg (List.toArray vs) ∧ (part t (List.toArray vs) off).run P w = .ok y w ∧ AVR w G (used w G s o) u y := by
  obtain ⟨cs, rfl, h1⟩ := lAg_inv h
  obtain ⟨vs, rfl, hvs, hfl⟩ := hv.ag_inv
  split at h1
  · rename_i ha
    obtain ⟨hz, h2⟩ := pchk_inv h1
    exact ⟨_, vs, _, h2, rfl, run_partAg ht ha vs off, .c _ _ (.ag _ _ (hvs.part off i.size) ((hfl.drop _).take _))⟩
  · rename_i ha
    obtain ⟨y, hy, h2⟩ := popt_inv h1
    obtain ⟨u, hu, hr⟩ := hvs.get hy
    exact ⟨_, vs, _, h2, rfl, run_partOne ht ha hu, .c _ _ hr⟩
theorem fldAV_ok {t : Nat} {i : TI} (ht : TyIs P t i) {x : List AV} {off : Nat} {K : AV → Prog α} {l : Log} {v : Value} (h : (ldCells i x off K).run s o l F = some r) (hv : AVR w G (used w G s o) (.ag x) v) :
    ∃ u vs y, (K u).run s o l F = some r ∧ v = .agg (List.toArray vs) ∧ (part t (List.toArray vs) off).run P w = .ok y w ∧ AVR w G (used w G s o) u y := by
  obtain ⟨vs, rfl, hvs, hfl⟩ := hv.ag_inv
  unfold ldCells at h
  split at h
  · rename_i ha
    obtain ⟨hz, h2⟩ := pchk_inv h
    exact ⟨_, vs, _, h2, rfl, run_partAg ht ha vs off, mkAg_of (hvs.part off i.size) ((hfl.drop _).take _)⟩
  · rename_i ha
    split at h
    · rename_i y hy
      obtain ⟨u, hu, hr⟩ := hvs.get hy
      exact ⟨_, vs, _, h, rfl, run_partOne ht ha hu, hr⟩
    · cases h
theorem struct_field {fields : Array Field} {fs : List (Nat × Nat)} {f n ft : Nat} (hu2 : fs = fields.toList.map fun f => (f.offset, f.type)) (hf : fs[f]? = some (n, ft)) : ∃ fd, fields[f]? = some fd ∧ fd.offset = n ∧ fd.type = ft := by
  rw [hu2, List.getElem?_map] at hf
  cases hq : fields.toList[f]? with
  | none => rw [hq] at hf; cases hf
  | some fd =>
    rw [hq] at hf
    injection hf with hf; injection hf with e1 e2
    exact ⟨fd, by simpa using hq, e1, e2⟩
theorem ok_field (hC : TyOk P C) {ny : Bool} {t : Nat} {x : Operand} {f : Nat} (hp : p.op = .field t x f) :
    OpOk (α := α) P p fun K => tyP C t fun i => rd ny x fun v => offOf i f fun n ft => tyP C ft fun j => (match v with
      | .c x => fldCV j x n K
      | .ag l => ldCells j l n K
      | _ => .fail) := by
  intro R F r K w G s o l a h hs
  obtain ⟨i, hi, h1⟩ := tyP_inv h
  obtain ⟨v, l', hv, h2⟩ := rd_inv h1
  obtain ⟨fs, n, ft, htd, hf, h3⟩ := offOf_inv h2
  obtain ⟨j, hj, h4⟩ := tyP_inv h3
  have hx := opd_of hs hv
  obtain ⟨fields, hu1, hu2⟩ := (hC _ _ hi).struct htd
  obtain ⟨fd, hfd, e1, e2⟩ := struct_field hu2 hf
  subst e1 e2
  have key : ∀ (u : AV) (vs : List Value) (y : Value), a.eval x = .agg (List.toArray vs) → (part fd.type (List.toArray vs) fd.offset).run P w = .ok y w → (execOp a.eval p).run P w = .ok (.value y) w := by
    intro u vs y e hr
    simp only [execOp, hp]
    refine run_v ?_
    simp only [Instr.field, Sem.run_bind, run_under hu1, Result.andThen, hfd, e, asAgg, Sem.run_pure, hr]
  split at h4
  · obtain ⟨u, vs, y, h5, e, hr, hy⟩ := fldCV_ok (hC _ _ hj) h4 hx.c_inv
    exact ⟨u, s, o, _, h5, OpR.pure hs (key u vs y e hr) hy⟩
  · obtain ⟨u, vs, y, h5, e, hr, hy⟩ := fldAV_ok (hC _ _ hj) h4 hx
    exact ⟨u, s, o, _, h5, OpR.pure hs (key u vs y e hr) hy⟩
  · cases h4
end
end Go.Ev
/- Tuples, values of interfaces, closures, elements. -/
namespace Go.Ev
open Go Go.RowKit
variable [Glob]
section
variable {α R : Type} {F : α → S → O → Log → Option R} {r : R} {w : World} {P : Program} {C : Cfg} {Q : Orc} {p : Oper} {a : Act} {G : Gh} {s : S} {o : O} {I : Nat → Role}

theorem ok_extract {ny : Bool} {x : Operand} {k : Nat} (hp : p.op = .extract x k) : OpOk (α := α) P p fun K => rd ny x fun v => (match v with
      | .c x => .look _ (lTp x) fun xs => popt xs[k]? fun y => K (.c y)
      | .tp l => (match l[k]? with | some v => K v | none => .fail)
      | _ => .fail) := by
  intro R F r K w G s o l a h hs
  obtain ⟨v, l', hv, h1⟩ := rd_inv h
  have hx := opd_of hs hv
  split at h1
  · obtain ⟨xs, rfl, h2⟩ := lTp_inv h1
    obtain ⟨y, hy, h3⟩ := popt_inv h2
    have hx := hx.c_inv
    generalize hu : a.eval x = u at hx
    cases hx with
    | tp _ vs hvs =>
      obtain ⟨u, hu', hr⟩ := hvs.get hy
      refine ⟨_, s, o, _, h3, OpR.pure hs ?_ (.c _ _ hr)⟩
      simp only [execOp, hp, hu]
      refine run_v ?_
      simp only [Instr.extract, List.getElem?_toArray, hu', Sem.run_pure]
  · split at h1
    · rename_i y hy
      generalize hu : a.eval x = u at hx
      cases hx with
      | tp _ vs hvs =>
        obtain ⟨u, hu', hr⟩ := hvs.get hy
        refine ⟨_, s, o, _, h1, OpR.pure hs ?_ hr⟩
        simp only [execOp, hp, hu]
        refine run_v ?_
        simp only [Instr.extract, List.getElem?_toArray, hu', Sem.run_pure]
    · cases h1
  · cases h1
theorem notIfc {t : Nat} {i : TI} (ht : TyIs P t i) (hn : i.td ≠ .ifc) : ∃ d, P.underlying t = some d ∧ ∀ ms, d ≠ .interface ms := by
  obtain ⟨d, h1, h2⟩ := ht.under
  refine ⟨d, h1, fun ms e => ?_⟩
  subst e
  exact hn h2.symm
theorem ok_makeInterface (hC : TyOk P C) {ny : Bool} {t : Nat} {x : Operand} (hp : p.op = .makeInterface t x) :
    OpOk (α := α) P p fun K => tyP C t fun i => rd ny x fun v => (match i.td with | .ifc => .fail | _ => pchk (noLo v) (K (mkIfc t v))) := by
  intro R F r K w G s o l a h hs
  obtain ⟨i, hi, h1⟩ := tyP_inv h
  obtain ⟨v, l', hv, h2⟩ := rd_inv h1
  split at h2
  · cases h2
  · rename_i hn
    obtain ⟨_, h3⟩ := pchk_inv h2
    obtain ⟨d, hd, hd'⟩ := notIfc (hC _ _ hi) hn
    refine ⟨_, s, o, _, h3, OpR.pure hs ?_ (mkIfc_of (opd_of hs hv))⟩
    simp only [execOp, hp]
    refine run_v ?_
    simp only [Instr.makeInterface, Sem.run_bind, run_under hd, Result.andThen]
    cases d <;> first | exact absurd rfl (hd' _) | rfl
theorem ok_typeAssert (hC : TyOk P C) {ny : Bool} {x : Operand} {q t : Nat} {ok : Bool} (hp : p.op = .typeAssert x q t ok) :
    OpOk (α := α) P p fun K => tyP C t fun i => rd ny x fun v => taA i t v ok K := by
  intro R F r K w G s o l a h hs
  obtain ⟨i, hi, h1⟩ := tyP_inv h
  obtain ⟨v, l', hv, h2⟩ := rd_inv h1
  have hx := opd_of hs hv
  have key : ∀ y, i.td ≠ .ifc → a.eval x = .iface t y → (Instr.typeAssert (a.eval x) q t false).run P w = .ok y w := by
    intro y hn e
    obtain ⟨d, hd, hd'⟩ := notIfc (hC _ _ hi) hn
    rw [e]
    simp only [Instr.typeAssert, Sem.run_bind, run_under hd, Result.andThen]
    cases d <;> first | exact absurd rfl (hd' _) | (simp only [if_true, Bool.false_eq_true, if_false]; rfl)
  have run : ∀ z, ok = false → i.td ≠ .ifc → a.eval x = .iface t z → (execOp a.eval p).run P w = .ok (.value z) w := by
    intro z e hn hu
    subst e
    simp only [execOp, hp]
    exact run_v (key z hn hu)
  unfold taA at h2
  split at h2
  · cases h2
  · rename_i hn
    obtain ⟨b, y, rfl, h3⟩ := lIfc_inv h2
    obtain ⟨hb, h4⟩ := pchk_inv h3
    have hb := Nat.eq_of_beq_eq_true hb
    have hx := hx.c_inv
    generalize hu : a.eval x = u at hx
    cases hx with
    | ifc _ _ z hz =>
      exact ⟨_, s, o, _, h4, OpR.pure hs (run z rfl (by assumption) (by rw [hu, hb])) (.c _ _ hz)⟩
  · obtain ⟨hb, h4⟩ := pchk_inv h2
    have hb := Nat.eq_of_beq_eq_true hb
    generalize hu : a.eval x = u at hx
    cases hx with
    | ifc _ _ z hz =>
      exact ⟨_, s, o, _, h4, OpR.pure hs (run z rfl (by assumption) (by rw [hu, hb])) hz⟩
  · cases h2
theorem opds_of {ny : Bool} (hs : St w G s o a.tmps) : ∀ {xs : List Operand} {vs : List AV}, opdsS ny s xs vs → AVRs w G (used w G s o) vs (xs.map a.eval)
  | [], [], _ => .nil
  | _ :: _, _ :: _, h => .cons _ _ _ _ (opd_of hs h.1) (opds_of hs h.2)
  | [], _ :: _, h => h.elim
  | _ :: _, [], h => h.elim
theorem ok_makeFunc {ny : Bool} {f : Fn} {x y : Array Operand} (hp : p.op = .makeFunc f x y) :
    OpOk (α := α) P p fun K => rds ny x.toList fun a => rds ny y.toList fun b => pchk ((a ++ b).all noLo) (K (mkFn f a b)) := by
  intro R F r K w G s o l a h hs
  obtain ⟨us, l1, hu, h1⟩ := rds_inv h
  obtain ⟨vs, l2, hv, h2⟩ := rds_inv h1
  obtain ⟨_, h3⟩ := pchk_inv h2
  refine ⟨_, s, o, _, h3, OpR.pure hs ?_ (mkFn_of (opds_of hs hu) (opds_of hs hv))⟩
  simp only [execOp, hp]
  refine run_v ?_
  have e : ∀ z : Array Operand, z.map a.eval = (z.toList.map a.eval).toArray := fun z => by cases z; simp
  rw [e x, e y]
  simp only [Instr.makeFunc, Sem.run_pure]
theorem okP_ok {v : AV} {K : AV → Prog α} {l : Log} {x : Value} (h : (okP v K).run s o l F = some r) (hv : AVR w G (used w G s o) v x) : (K v).run s o l F = some r ∧
    ((∃ b, x = .pointer (some b)) ∨ (∃ f y z, x = .func (.func f) y z) ∨ ∃ t y, x = .iface t y) := by
  unfold okP at h
  split at h
  · obtain ⟨h1, ⟨b, y, k, rfl⟩ | ⟨f, y, z, rfl⟩ | ⟨t, y, rfl⟩⟩ := lOk_inv h
    · have := hv.c_inv; cases this; exact ⟨h1, .inl ⟨_, rfl⟩⟩
    · have := hv.c_inv; cases this; exact ⟨h1, .inr (.inl ⟨_, _, _, rfl⟩)⟩
    · have := hv.c_inv; cases this; exact ⟨h1, .inr (.inr ⟨_, _, rfl⟩)⟩
  · cases hv; exact ⟨h, .inl ⟨_, rfl⟩⟩
  · cases hv; exact ⟨h, .inl ⟨_, rfl⟩⟩
  · cases hv; exact ⟨h, .inl ⟨_, rfl⟩⟩
  · cases hv; exact ⟨h, .inl ⟨_, rfl⟩⟩
  · cases hv; exact ⟨h, .inr (.inr ⟨_, _, rfl⟩)⟩
  · cases hv; exact ⟨h, .inl ⟨_, rfl⟩⟩
  · cases hv; exact ⟨h, .inr (.inl ⟨_, _, _, rfl⟩)⟩
  · cases h
theorem ok_nilCheck {ny : Bool} {x : Operand} (hp : p.op = .nilCheck x) : OpOk (α := α) P p fun K => rd ny x fun v => okP v K := by
  intro R F r K w G s o l a h hs
  obtain ⟨v, l', hv, h1⟩ := rd_inv h
  have hx := opd_of hs hv
  obtain ⟨h2, h3⟩ := okP_ok h1 hx
  refine ⟨v, s, o, l', h2, OpR.pure hs ?_ hx⟩
  simp only [execOp, hp]
  rcases h3 with ⟨b, e⟩ | ⟨f, y, z, e⟩ | ⟨t, y, e⟩ <;> rw [e] <;> rfl
end
end Go.Ev
/- Elements: their places. -/
namespace Go.Ev
open Go Go.RowKit
variable [Glob]
section
variable {α R : Type} {F : α → S → O → Log → Option R} {r : R} {w : World} {P : Program} {C : Cfg} {Q : Orc} {p : Oper} {a : Act} {G : Gh} {s : S} {o : O} {I : Nat → Role}

theorem isN_cells {x : CV} {m : Nat} (h : x.isN m = true) : x.cells.length = m := by
  unfold CV.isN at h
  split at h
  · exact Nat.eq_of_beq_eq_true h
  · cases h
  · rename_i hn _
    have := Nat.eq_of_beq_eq_true h
    cases x <;> first | exact absurd rfl (hn _) | (subst this; rfl)
theorem flat_part {m : Nat} : ∀ {xs : List CV} {k : Nat} {x : CV}, (∀ y, y ∈ xs → y.cells.length = m) → xs[k]? = some x → ((xs.flatMap CV.cells).drop (k * m)).take m = x.cells
  | [], k, x, _, h => by simp at h
  | y :: xs, 0, x, hm, h => by
    simp at h; subst h
    have := hm y (by simp)
    rw [Nat.zero_mul, List.drop_zero, List.flatMap_cons, List.take_append_of_le_length (by omega), List.take_of_length_le (by omega)]
  | y :: xs, k + 1, x, hm, h => by
    have hy := hm y (by simp)
    rw [List.flatMap_cons, Nat.succ_mul, Nat.add_comm, ← List.drop_drop, ← hy, List.drop_left, hy]
    exact flat_part (fun z hz => hm z (by simp [hz])) (by simpa using h)
theorem imAddr_ok {j : TI} {xs : List CV} {k : Int} {K : AV → Prog α} {l : Log} {v : Value} (h : (imAddr j xs k K).run s o l F = some r) (hv : VR w G.I (.im xs) v) :
    ∃ (n : Nat) (u : AV) (b off c : Nat), k = (n : Int) ∧ n < xs.length ∧ (K u).run s o l F = some r ∧ v = .slice (some ⟨b, off, none⟩) xs.length c ∧ AVR w G (used w G s o) u (.pointer (some ⟨b, off + n * j.size, none⟩)) := by
  obtain ⟨n, rfl, hn, h1⟩ := lIx_inv h
  obtain ⟨n', x, e, hx, h2⟩ := lNth_inv h1
  have e : n = n' := by omega
  subst e
  obtain ⟨hz, h3⟩ := pchk_inv h2
  have hz := isN_cells hz
  generalize hxs : CV.im xs = y at hv
  cases hv with
  | im0 => injection hxs with e; subst e; simp at hn
  | imz a => injection hxs with e; subst e; simp at hn
  | im ys b off c m vs hvs hm hI hmem hc =>
    injection hxs with e; subst e
    have hj : j.size = m := by rw [← hz]; exact hm x (List.mem_of_getElem? hx)
    refine ⟨n, _, b, off, c, rfl, hn, h3, rfl, .c _ _ ?_⟩
    have := VR.ep (w := w) (I := G.I) true x 0 b (off + n * m) ((vs.drop (n * m)).take m) (by
      show VRs w G.I x.cells _
      rw [← flat_part hm hx]
      exact hvs.part _ _) (hI.le (by
        have h1 : vs.length = xs.length * m := by rw [← hvs.length, flat_len hm]
        have h2 : n * m + m ≤ xs.length * m := by rw [← Nat.succ_mul]; exact Nat.mul_le_mul_right m hn
        rw [List.length_take, List.length_drop]; omega)) (hmem.part _ _)
    rw [hj]
    exact this
  | _ => cases hxs
theorem int_opd {k : IntKind} {n : Int} {ny : Bool} {x : Operand} (hs : St w G s o a.tmps) (h : opdS ny s x = some (.c (.int k n))) : a.eval x = .int k n := (opd_of hs h).c_inv.int_inv
theorem run_indexSl (hC : TyOk P C) {t e : Nat} {i j : TI} (hi : C.ty t = some i) (htd : i.td = .slice e) (hj : C.ty e = some j) {b off n len c : Nat} {k : IntKind} (hn : n < len) :
    (Instr.indexAt t (.slice (some ⟨b, off, none⟩) len c) (.int k n)).run P w = .ok (.pointer (some ⟨b, off + n * j.size, none⟩)) w := by
  simp only [Instr.indexAt, asIntOf, Sem.run_bind, Sem.run_pure, Result.andThen, run_under ((hC _ _ hi).slice htd)]
  have : (0 : Int) ≤ (n : Int) ∧ (n : Int) < (len : Int) := ⟨by omega, by omega⟩
  rw [if_pos this]
  simp only [Sem.run_bind, run_size (hC _ _ hj), Result.andThen, Sem.run_pure, add_at, Int.toNat_natCast]
theorem run_indexAr (hC : TyOk P C) {t e len : Nat} {i j : TI} (hi : C.ty t = some i) (htd : i.td = .array len e) (hj : C.ty e = some j) {b off n : Nat} {k : IntKind} (hn : n < len) :
    (Instr.indexAt t (.pointer (some ⟨b, off, none⟩)) (.int k n)).run P w = .ok (.pointer (some ⟨b, off + n * j.size, none⟩)) w := by
  simp only [Instr.indexAt, asIntOf, Sem.run_bind, Sem.run_pure, Result.andThen, run_under ((hC _ _ hi).array htd), Instr.sureAddr]
  have : (0 : Int) ≤ (n : Int) ∧ (n : Int) < (len : Int) := ⟨by omega, by omega⟩
  rw [if_pos this]
  simp only [Sem.run_bind, run_size (hC _ _ hj), Result.andThen, Sem.run_pure, add_at, Int.toNat_natCast]
/-- an outer list, from an element on: its header -/
theorem ov_hd {tmps : Array Value} {id k m : Nat} {xs : List CV} {x : Value} (hs : St w G s o tmps) (hx : AVR w G (used w G s o) (.ov id k) x) (hg : O.get o id = some (.lst m xs)) : (G.oh id).2 = m ∧ 0 < m ∧ id < o.length ∧
    ((x = .slice none 0 (0 - k) ∧ xs = [] ∧ (G.oh id).1 = .slice none 0 0) ∨ ∃ cap, xs.length ≤ cap ∧ (G.oh id).1 = .slice (some ⟨G.o id, 0, none⟩) xs.length cap ∧ x = .slice (if cap = k then some ⟨G.o id, 0, none⟩ else some (Addr.add ⟨G.o id, 0, none⟩ (k * m))) (xs.length - k) (cap - k)) := by
  cases hx with
  | ov _ _ hn =>
    obtain ⟨h1, h2, h3⟩ := (hs.out id hn).is hg
    refine ⟨h1, h2, hn, ?_⟩
    rcases h3.2 with ⟨e1, e2⟩ | ⟨cap, vs, c, ty, e1, e2, _⟩
    · refine .inl ⟨?_, e2, e1⟩
      unfold viewOf
      rw [e1]
      simp
    · refine .inr ⟨cap, e2, e1, ?_⟩
      unfold viewOf
      rw [e1, h1]
      simp only [Option.map_some]
theorem ok_indexAddr (hC : TyOk P C) {ny : Bool} {t : Nat} {x k : Operand} (hp : p.op = .indexAddr t x k) :
    OpOk (α := α) P p fun K => tyP C t fun i => rd ny x fun v => rdc ny k fun k => .look _ (lAny k) fun (_, k) => (match i.td, v with
      | .slice e, .sl n => tyP C e fun j => .blk n fun b => (match b with
        | some (.lst m xs) => pchk (Nat.beq m j.size) (.look _ (lIx k xs.length) fun k => K (.le n k 0))
        | some (.nst _ xs _) => pchk (Nat.beq j.size 1) (.look _ (lIx k xs.length) fun k => K (.le n k 0))
        | some (.fls xs) => imAddr j xs k K
        | some (.movedL id) => .outB id fun q => (match q with
          | some (.lst m xs) => pchk (Nat.beq m j.size) (.look _ (lIx k xs.length) fun k => K (.oe id k 0))
          | _ => .fail)
        | _ => .fail)
      | .slice e, .ol id => tyP C e fun j => .outB id fun q => (match q with
        | some (.lst m xs) => pchk (Nat.beq m j.size) (.look _ (lIx k xs.length) fun k => K (.oe id k 0))
        | some (.fls xs) => imAddr j xs k K
        | some (.lsp _ xs) => imAddr j xs k K
        | some (.rls xs) => pchk (Nat.beq j.size 1) (.look _ (lIx k xs.length) fun k => K (.oe id k 0))
        | _ => .fail)
      | .slice e, .ov id q => tyP C e fun j => .out fun _ w => (match w.get id with
        | some (.lst m xs) => pchk (Nat.beq m j.size) (.look _ (lIx k (xs.length - q)) fun k => K (.oe id (q + k) 0))
        | _ => .fail)
      | .slice e, .c x => tyP C e fun j => .look _ (lLst x) fun xs => imAddr j xs k K
      | .array len e, .pt n o => tyP C e fun j => .look _ (lIx k len) fun k => K (.pt n (o + k * j.size))
      | .array len e, .po id o => tyP C e fun j => .look _ (lIx k len) fun k => K (.po id (o + k * j.size))
      | .array n e, .c (.ep a x o) => tyP C e fun j => .look _ (lIx k n) fun k => K (.c (.ep a x (o + k * j.size)))
      | _, _ => .fail) := by
  intro R F r K w G s o l a h hs
  obtain ⟨i, hi, h1⟩ := tyP_inv h
  obtain ⟨v, l1, hv, h2⟩ := rd_inv h1
  obtain ⟨y, l2, hy, h3⟩ := rdc_inv h2
  obtain ⟨q, n, rfl, h4⟩ := lAny_inv h3
  have hx := opd_of hs hv
  have hk := int_opd hs hy
  have fin : ∀ {u : AV} {z : Value} {l' : Log}, (K u).run s o l' F = some r → (Instr.indexAt t (a.eval x) (.int q n)).run P w = .ok z w → AVR w G (used w G s o) u z →
      ∃ v s' o' l', (K v).run s' o' l' F = some r ∧ OpR P p a w G s o v s' o' := by
    intro u z l' h5 hr hz
    refine ⟨u, s, o, l', h5, OpR.pure hs ?_ hz⟩
    simp only [execOp, hp, hk]
    exact run_v hr
  clear h h1 h2 h3
  dsimp only at h4
  split at h4
  · rename_i e b htd
    obtain ⟨j, hj, h5⟩ := tyP_inv h4
    simp only [Prog.run] at h5
    generalize hev : a.eval x = z at hx
    cases hx with
    | sl _ hb =>
      split at h5
      · rename_i m xs hn
        obtain ⟨hm, h6⟩ := pchk_inv h5
        obtain ⟨n', rfl, hlt, h7⟩ := lIx_inv h6
        obtain ⟨hm1, _, hl⟩ := hs.own b _ hn
        have hm := Nat.eq_of_beq_eq_true hm
        rcases hl.2 with ⟨_, e0⟩ | ⟨cap, _, _, _, e1, _⟩
        · subst e0; simp at hlt
        · refine fin h7 (by rw [hev, e1]; exact run_indexSl hC hi htd hj hlt) ?_
          have := AVR.le (w := w) (G := G) (U := used w G s o) b n' 0 hb
          rw [hm1, hm] at this
          simpa using this
      · rename_i m xs out hn
        obtain ⟨hm, h6⟩ := pchk_inv h5
        obtain ⟨n', rfl, hlt, h7⟩ := lIx_inv h6
        obtain ⟨hm1, _, _, hl⟩ := hs.own b _ hn
        have hm := Nat.eq_of_beq_eq_true hm
        rcases hl with ⟨_, e0⟩ | ⟨cap, _, _, e1, _⟩
        · subst e0; simp at hlt
        · refine fin h7 (by rw [hev, e1]; exact run_indexSl hC hi htd hj hlt) ?_
          have := AVR.le (w := w) (G := G) (U := used w G s o) b n' 0 hb
          rw [hm1, ← hm] at this
          simpa using this
      · rename_i xs hn
        obtain ⟨n', u, b', off, c, rfl, hlt, h6, e1, hu⟩ := imAddr_ok h5 (hs.own b _ hn).1
        exact fin h6 (by rw [hev, e1]; exact run_indexSl hC hi htd hj hlt) hu
      · rename_i id hn
        obtain ⟨hid, hhd⟩ := hs.own b _ hn
        simp only [Prog.run] at h5
        split at h5
        · rename_i m xs hg
          obtain ⟨hm, h6⟩ := pchk_inv h5
          obtain ⟨n', rfl, hlt, h7⟩ := lIx_inv h6
          obtain ⟨hm1, _, hl⟩ := (hs.out id hid).is hg
          have hm := Nat.eq_of_beq_eq_true hm
          rcases hl.2 with ⟨_, e0⟩ | ⟨cap, _, _, _, e1, _⟩
          · subst e0; simp at hlt
          · refine fin h7 (by rw [hev, hhd, e1]; exact run_indexSl hC hi htd hj hlt) ?_
            have := AVR.oe (w := w) (G := G) (U := used w G s o) id n' 0 hid
            rw [hm1, hm] at this
            simpa using this
        · cases h5
      · cases h5
  · rename_i e b htd
    obtain ⟨j, hj, h5⟩ := tyP_inv h4
    simp only [Prog.run] at h5
    generalize hev : a.eval x = z at hx
    cases hx with
    | ol _ hb =>
      split at h5
      · rename_i m xs hn
        obtain ⟨hm, h6⟩ := pchk_inv h5
        obtain ⟨n', rfl, hlt, h7⟩ := lIx_inv h6
        obtain ⟨hm1, _, hl⟩ := (hs.out b hb).is hn
        have hm := Nat.eq_of_beq_eq_true hm
        rcases hl.2 with ⟨_, e0⟩ | ⟨cap, _, _, _, e1, _⟩
        · subst e0; simp at hlt
        · refine fin h7 (by rw [hev, e1]; exact run_indexSl hC hi htd hj hlt) ?_
          have := AVR.oe (w := w) (G := G) (U := used w G s o) b n' 0 hb
          rw [hm1, hm] at this
          simpa using this
      · rename_i xs hn
        obtain ⟨n', u, b', off, c, rfl, hlt, h6, e1, hu⟩ := imAddr_ok h5 ((hs.out b hb).is hn).1
        exact fin h6 (by rw [hev, e1]; exact run_indexSl hC hi htd hj hlt) hu
      · rename_i m xs hn
        obtain ⟨I', g, hv'⟩ := frz_olp hs hn
        obtain ⟨n', u, b', off, c, rfl, hlt, h6, e1, hu⟩ := imAddr_ok (G := { G with I := I' }) h5 hv'
        refine ⟨u, s, o, _, h6, OpR.value (x := .pointer (some ⟨b', off + n' * j.size, none⟩)) ?_ g.st g.to hu⟩
        simp only [execOp, hp, hk]
        exact run_v (by rw [hev, e1]; exact run_indexSl hC hi htd hj hlt)
      · rename_i xs hn
        obtain ⟨hm, h6⟩ := pchk_inv h5
        obtain ⟨n', rfl, hlt, h7⟩ := lIx_inv h6
        obtain ⟨hm1, hl⟩ := (hs.out b hb).is hn
        have hm := Nat.eq_of_beq_eq_true hm
        rcases hl with ⟨_, e0⟩ | ⟨cap, _, _, _, e1, _⟩
        · subst e0; simp at hlt
        · refine fin h7 (by rw [hev, e1]; exact run_indexSl hC hi htd hj hlt) ?_
          have := AVR.oe (w := w) (G := G) (U := used w G s o) b n' 0 hb
          rw [hm1, ← hm] at this
          simpa using this
      · cases h5
  · rename_i e id q0 htd
    obtain ⟨j, hj, h5⟩ := tyP_inv h4
    simp only [Prog.run] at h5
    split at h5
    · rename_i m xs hn
      obtain ⟨hm, h6⟩ := pchk_inv h5
      obtain ⟨n', rfl, hlt, h7⟩ := lIx_inv h6
      have hm := Nat.eq_of_beq_eq_true hm
      obtain ⟨hm1, _, hid, hor⟩ := ov_hd hs hx hn
      rcases hor with ⟨_, e0, _⟩ | ⟨cap, hcap, _, e1⟩
      · subst e0; simp at hlt
      · rw [if_neg (by omega), add_at] at e1
        refine fin h7 (by rw [e1]; exact run_indexSl hC hi htd hj hlt) ?_
        have := AVR.oe (w := w) (G := G) (U := used w G s o) id (q0 + n') 0 hid
        rw [hm1, Nat.add_mul, Nat.add_zero] at this
        rw [Nat.zero_add, ← hm]
        exact this
    · cases h5
  · rename_i e y htd
    obtain ⟨j, hj, h5⟩ := tyP_inv h4
    obtain ⟨xs, h6, rfl | ⟨rfl, rfl⟩ | ⟨rfl, rfl⟩ | rfl⟩ := lLst_inv h5
    · obtain ⟨n', u, b', off, c, rfl, hlt, h7, e1, hu⟩ := imAddr_ok h6 hx.c_inv
      exact fin h7 (by rw [e1]; exact run_indexSl hC hi htd hj hlt) hu
    · obtain ⟨n', u, b', off, c, rfl, hlt, _⟩ := imAddr_ok (w := w) (G := G) h6 .im0
      simp at hlt
    · obtain ⟨n', u, b', off, c, rfl, hlt, _⟩ := imAddr_ok (w := w) (G := G) h6 .im0
      simp at hlt
    · obtain ⟨n', u, b', off, c, rfl, hlt, h7, e1, hu⟩ := imAddr_ok h6 hx.c_inv.ic_im.1
      exact fin h7 (by rw [e1]; exact run_indexSl hC hi htd hj hlt) hu
  · rename_i len e b off htd
    obtain ⟨j, hj, h5⟩ := tyP_inv h4
    obtain ⟨n', rfl, hlt, h7⟩ := lIx_inv h5
    generalize hev : a.eval x = z at hx
    cases hx with
    | pt _ _ hb => exact fin h7 (by rw [hev]; exact run_indexAr hC hi htd hj hlt) (.pt _ _ hb)
  · rename_i len e b off htd
    obtain ⟨j, hj, h5⟩ := tyP_inv h4
    obtain ⟨n', rfl, hlt, h7⟩ := lIx_inv h5
    generalize hev : a.eval x = z at hx
    cases hx with
    | po _ _ hb => exact fin h7 (by rw [hev]; exact run_indexAr hC hi htd hj hlt) (.po _ _ hb)
  · rename_i len e b y off htd
    obtain ⟨j, hj, h5⟩ := tyP_inv h4
    obtain ⟨n', rfl, hlt, h6⟩ := lIx_inv h5
    have hx := hx.c_inv
    generalize hev : a.eval x = z at hx
    cases hx with
    | ep _ _ _ r0 off' vs h1 h2 h3 =>
      refine fin h6 (by rw [hev]; exact run_indexAr hC hi htd hj hlt) (.c _ _ ?_)
      rw [Nat.add_assoc]
      exact .ep _ _ _ _ _ _ h1 h2 h3
  · cases h4
end
end Go.Ev
/- Loads. -/
namespace Go.Ev
open Go Go.RowKit
variable [Glob]
section
variable {α R : Type} {F : α → S → O → Log → Option R} {r : R} {w : World} {P : Program} {C : Cfg} {Q : Orc} {p : Oper} {a : Act} {G : Gh} {s : S} {o : O} {I : Nat → Role}

/-- a load out of cells that stand in memory -/
theorem ldCells_ok {t : Nat} {i : TI} (ht : TyIs P t i) {U : Used} {cs : List AV} {vs : List Value} {b base off : Nat} {K : AV → Prog α} {l : Log} (h : (ldCells i cs off K).run s o l F = some r) (hv : AVRs w G U cs vs) (hm : MemAt w b base vs) :
    ∃ u y, (K u).run s o l F = some r ∧ (loadVar t ⟨b, base + off, none⟩).run P w = .ok y w ∧ AVR w G U u y := by
  have hl := hv.length
  unfold ldCells at h
  split at h
  · rename_i ha
    obtain ⟨hz, h2⟩ := pchk_inv h
    have hz := Nat.le_of_ble_eq_true hz
    exact ⟨_, _, h2, run_loadAgg ht ha (hm.part off i.size) (by rw [List.length_take, List.length_drop]; omega), mkAg_of (hv.part off i.size) ((hm.flat.drop _).take _)⟩
  · rename_i ha
    split at h
    · rename_i y hy
      obtain ⟨u, hu, hr⟩ := hv.get hy
      exact ⟨_, _, h, run_loadOne ht ha (hm off u hu).1, hr⟩
    · cases h
theorem ldCV_ok {t : Nat} {i : TI} (ht : TyIs P t i) {x : CV} {vs : List Value} {b base off : Nat} {K : AV → Prog α} {l : Log} (h : (ldCV i x off K).run s o l F = some r) (hv : VRs w G.I x.cells vs) (hm : MemAt w b base vs) :
    ∃ u y, (K (.c u)).run s o l F = some r ∧ (loadVar t ⟨b, base + off, none⟩).run P w = .ok y w ∧ VR w G.I u y := by
  have hl := hv.length
  unfold ldCV at h
  split at h
  · rename_i ha
    obtain ⟨cs, rfl, hz, h2⟩ := lLdAg_inv h
    have hl : cs.length = vs.length := hl
    exact ⟨_, _, h2, run_loadAgg ht ha (hm.part off i.size) (by rw [List.length_take, List.length_drop]; omega), .ag _ _ (VRs.part hv off i.size) ((hm.flat.drop _).take _)⟩
  · rename_i ha
    obtain ⟨y, hy, h2⟩ := lLd_inv h
    obtain ⟨u, hu, hr⟩ := hv.get hy
    exact ⟨_, _, h2, run_loadOne ht ha (hm off u hu).1, hr⟩
theorem exec_load {t : Nat} {x : Operand} (hp : p.op = .load t x) {b : Addr} (hx : a.eval x = .pointer (some b)) {y : Value} (h : (loadVar t b).run P w = .ok y w) : (execOp a.eval p).run P w = .ok (.value y) w := by
  simp only [execOp, hp]
  refine run_v ?_
  simp only [Instr.loadAt, hx, Instr.sureAddr, Sem.run_bind, Sem.run_pure, Result.andThen, h]
theorem box_mem (hs : St w G s o a.tmps) {b : Nat} {g : Bool} {cs : List AV} (hb : s.own b = some (.box g cs) ∨ s.own b = some (.frz g cs)) : ∃ vs, MemAt w (G.a b) 0 vs ∧ AVRs w G (used w G s o) cs vs := by
  rcases hb with hb | hb
  · obtain ⟨_, vs, ty, h1, h2, _, hf⟩ := hs.own b _ hb
    exact ⟨vs, memAt_own h1 hf, h2⟩
  · obtain ⟨_, vs, h1, h2, _⟩ := hs.own b _ hb
    exact ⟨vs, h1, outs_used h2⟩
theorem lst_mem (hs : St w G s o a.tmps) {b : Nat} {xs : List CV} {n : Nat} {x : CV} (hb : (∃ m, s.own b = some (.lst m xs)) ∨ s.own b = some (.fls xs)) (hx : xs[n]? = some x) : ∃ vs, MemAt w (G.a b) (n * G.m b) vs ∧ VRs w G.I x.cells vs := by
  have hne : xs ≠ [] := by rintro rfl; simp at hx
  rcases hb with ⟨m, hb⟩ | hb
  · obtain ⟨h1, _, hl⟩ := hs.own b _ hb
    rcases hl.2 with ⟨_, e⟩ | ⟨cap, vs, c, ty, _, _, hv, _, hh, _, hp⟩
    · exact absurd e hne
    · refine ⟨(vs.drop (n * m)).take m, ?_, ?_⟩
      · rw [h1]
        have := (memAt_of hh hp).part (n * m) m
        rwa [Nat.zero_add] at this
      · rw [← flat_part hl.1 hx]; exact hv.part _ _
  · obtain ⟨hv, hm, hc⟩ := hs.own b _ hb
    obtain ⟨cap, e⟩ := hc hne
    rw [e] at hv
    generalize hxs : CV.im xs = y at hv
    generalize hz : Value.slice (some ⟨G.a b, 0, none⟩) xs.length cap = z at hv
    cases hv with
    | im ys r0 off c m vs hvs hm' hI hmem hle =>
      injection hxs with e'; subst e'
      injection hz with e1 e2 e3
      injection e1 with e1
      injection e1 with e1 e4
      subst e1; subst e4
      have hmm : G.m b = m := by rw [← hm x (List.mem_of_getElem? hx)]; exact hm' x (List.mem_of_getElem? hx)
      refine ⟨(vs.drop (n * m)).take m, ?_, ?_⟩
      · rw [hmm]
        have := hmem.part (n * m) m
        rwa [Nat.zero_add] at this
      · rw [← flat_part hm' hx]; exact hvs.part _ _
    | imz a => injection hxs with e'; subst e'; exact absurd rfl hne
    | _ => first | (cases hxs; done) | (cases hz; done)
theorem olst_mem (hs : St w G s o a.tmps) {b : Nat} {xs : List CV} {n : Nat} {x : CV} (hid : b < o.length) (hb : (∃ m, o.get b = some (.lst m xs)) ∨ o.get b = some (.fls xs) ∨ ∃ m, o.get b = some (.lsp m xs)) (hx : xs[n]? = some x) : ∃ vs, MemAt w (G.o b) (n * (G.oh b).2) vs ∧ VRs w G.I x.cells vs := by
  have hne : xs ≠ [] := by rintro rfl; simp at hx
  rcases hb with ⟨m, hb⟩ | hb | ⟨m, hb⟩
  · obtain ⟨h1, _, hl⟩ := (hs.out b hid).is hb
    rcases hl.2 with ⟨_, e⟩ | ⟨cap, vs, c, ty, _, _, hv, _, hh, _, hp⟩
    · exact absurd e hne
    · refine ⟨(vs.drop (n * m)).take m, ?_, ?_⟩
      · rw [h1]
        have := (memAt_of hh hp).part (n * m) m
        rwa [Nat.zero_add] at this
      · rw [← flat_part hl.1 hx]; exact hv.part _ _
  · obtain ⟨hv, hm, hc⟩ := (hs.out b hid).is hb
    obtain ⟨cap, e⟩ := hc hne
    rw [e] at hv
    generalize hxs : CV.im xs = y at hv
    generalize hz : Value.slice (some ⟨G.o b, 0, none⟩) xs.length cap = z at hv
    cases hv with
    | im ys r0 off c m vs hvs hm' hI hmem hle =>
      injection hxs with e'; subst e'
      injection hz with e1 e2 e3
      injection e1 with e1
      injection e1 with e1 e4
      subst e1; subst e4
      have hmm : (G.oh b).2 = m := by rw [← hm x (List.mem_of_getElem? hx)]; exact hm' x (List.mem_of_getElem? hx)
      refine ⟨(vs.drop (n * m)).take m, ?_, ?_⟩
      · rw [hmm]
        have := hmem.part (n * m) m
        rwa [Nat.zero_add] at this
      · rw [← flat_part hm' hx]; exact hvs.part _ _
    | imz a => injection hxs with e'; subst e'; exact absurd rfl hne
    | _ => first | (cases hxs; done) | (cases hz; done)
  · obtain ⟨h1, _, hl⟩ := (hs.out b hid).is hb
    rcases hl.2 with ⟨_, e⟩ | ⟨cap, _, vs, c, ty, _, _, hv, _, _, hh, _, hp⟩
    · exact absurd e hne
    · refine ⟨(vs.drop (n * m)).take m, ?_, ?_⟩
      · rw [h1]
        have := (memAt_of hh hp).part (n * m) m
        rwa [Nat.zero_add] at this
      · rw [← flat_part hl.1 hx]; exact hv.part _ _
theorem listOut_get {n : Nat} {k : List CV → Prog α} {l : Log} (h : (listOut n k).run s o l F = some r) : ∃ xs l', (k xs).run s o l' F = some r ∧ ((∃ m, o.get n = some (.lst m xs)) ∨ o.get n = some (.fls xs) ∨ ∃ m, o.get n = some (.lsp m xs)) := by
  simp only [listOut, Prog.run] at h
  split at h
  · exact ⟨_, _, h, .inl ⟨_, by assumption⟩⟩
  · exact ⟨_, _, h, .inr (.inr ⟨_, by assumption⟩)⟩
  · exact ⟨_, _, h, .inr (.inl (by assumption))⟩
  · cases h
/-- What a load's program shows, of the pointer it is given. -/
def LoadOk (P : Program) (t : TypeId) (f : AV → (AV → Prog α) → Prog α) (v : AV) : Prop := ∀ {R : Type} (F : α → S → O → Log → Option R) (r : R) (K : AV → Prog α) (w : World) (G : Gh) (s : S) (o : O) (l : Log) (tmps : Array Value) (x : Value),
  (f v K).run s o l F = some r → St w G s o tmps → AVR w G (used w G s o) v x → ∃ u s' o' l' G' b y, (K u).run s' o' l' F = some r ∧ x = .pointer (some b) ∧ (loadVar t b).run P w = .ok y w ∧ St w G' s' o' tmps ∧ To w G s o w G' s' o' ∧ AVR w G' (used w G' s' o') u y
theorem ok_load {ny : Bool} {t : Nat} {x : Operand} {i : TI} {d : Bool} (hp : p.op = .load t x) (hi : C.ty t = some i) (h : ∀ v, LoadOk (α := α) P t (evLoad i d p.dst) v) :
    OpOk (α := α) P p fun K => tyP C t fun i => rd ny x fun v => evLoad i d p.dst v K := by
  intro R F r K w G s o l a hr hs
  obtain ⟨i', hi', h1⟩ := tyP_inv hr
  rw [hi] at hi'; injection hi' with e; subst e
  obtain ⟨v, l', hv, h2⟩ := rd_inv h1
  obtain ⟨u, s', o', l', G', b, y, h3, hx, hl, hst, hto, hy⟩ := h v F r K w G s o _ a.tmps _ h2 hs (opd_of hs hv)
  exact ⟨u, s', o', l', h3, OpR.value (exec_load hp hx hl) hst hto hy⟩
/-- an outer variable's cell -/
theorem out_cell (hs : St w G s o a.tmps) {id : Nat} {g : Bool} {cs : List AV} (h1 : o.get id = some (.box g cs)) : ∃ vs, MemAt w (G.o id) 0 vs ∧ vs.length = cs.length ∧ ∀ (j : Nat) (x : AV), cs[j]? = some x → ∃ v, vs[j]? = some v ∧ OutC w G (outU o) id j x v := by
  have hid := get_lt h1
  obtain ⟨vs, ty, k2, k3, k4, hfl, k5⟩ := (hs.out id hid).var h1
  exact ⟨vs, memAt_own k3 hfl, k4, k5⟩
theorem outC_val {id j : Nat} {x : AV} {v : Value} (h : OutC w G (outU o) id j x v) (h1 : isHl x = false) (h2 : isUn x = false) : AVR w G (used w G s o) x v := by
  unfold OutC at h
  split at h
  · cases h1
  · cases h2
  · exact out_used h
/-- All lists that an outer variable's cells hold are written no more. -/
def frzOA (I : Nat → Role) (id : Nat) : Nat → Role := fun r => match I r with
  | .key (.hl id' _) => if id' = id then .imm else I r
  | _ => I r
theorem frzOA_hl {I : Nat → Role} {id j r : Nat} (h : I r = .key (.hl id j)) : frzOA I id r = .imm := by simp [frzOA, h]
theorem frzOA_else {I : Nat → Role} {id r : Nat} (h : ∀ j, I r ≠ .key (.hl id j)) : frzOA I id r = I r := by
  unfold frzOA
  split
  · rename_i id' j e; rw [if_neg]; rintro rfl; exact h j e
  · rfl
theorem frz_out (hs : St w G s o a.tmps) {id : Nat} {g : Bool} {cs : List AV} (h1 : o.get id = some (.box g cs)) :
    Gs w G s o a.tmps { G with I := frzOA G.I id } s.tick (o.put id (.box g (cs.map closeHl))) := by
  have hid := get_lt h1
  obtain ⟨vs, ty, k2, k3, k4, hfl, k5⟩ := (hs.out id hid).var h1
  have hst : Stays G.I (frzOA G.I id) w w := .mk fun r hr => ⟨rfl, (frzOA_else (by first | exact hr.no | exact hr.key _ | exact fun _ => hr.key _))⟩
  have hnew : OutR w { G with I := frzOA G.I id } (o.put id (.box g (cs.map closeHl))) id := by
    refine OutR.mk' (b := .box g (cs.map closeHl)) (by rw [put_get hid, if_pos rfl]) ⟨vs, ty, (frzOA_else (by rw [k2]; simp)).trans k2, k3, by simp [k4], hfl, fun j x hx => ?_⟩
    rw [List.getElem?_map] at hx
    cases hy : cs[j]? with
    | none => rw [hy] at hx; cases hx
    | some y =>
      rw [hy] at hx; injection hx with hx; subst hx
      obtain ⟨v, hv, hc⟩ := k5 j y hy
      refine ⟨v, hv, ?_⟩
      have hk : G.Keeps { G with I := frzOA G.I id } (outU o) (outU (o.put id (.box g (cs.map closeHl)))) := outU_keeps fun n hn => ⟨by rw [put_len]; exact hn, rfl⟩
      by_cases hl : isHl y = true
      · cases y <;> try (cases hl)
        obtain ⟨_, r, hl⟩ := hc
        exact .c _ _ (hl.imm hst frzOA_hl)
      · have e : closeHl y = y := by cases y <;> first | rfl | exact absurd rfl hl
        rw [e]
        unfold OutC at hc ⊢
        split at hc
        · exact absurd rfl hl
        · trivial
        · exact hc.mono hk hst
  obtain ⟨s1, s2⟩ := hs.outer (I' := frzOA G.I id) (k := .box g (cs.map closeHl)) hid (w' := w) (.mk' rfl rfl rfl (Nat.le_refl _) fun _ _ hn => ⟨rfl, frzOA_else (fun _ => hn _)⟩) (fun _ _ _ h3 => ⟨rfl, frzOA_else h3⟩)
    (fun _ => hnew) (fun r hr => hs.heap r (fun e => hr (by simp [frzOA, e])))
  exact ⟨s1, s2, rfl, put_len _ _ _⟩
theorem out_part {id off n : Nat} {cs : List AV} {vs : List Value} (hl : vs.length = cs.length) (hc : ∀ (j : Nat) (x : AV), cs[j]? = some x → ∃ v, vs[j]? = some v ∧ OutC w G (outU o) id j x v)
    (h1 : ((cs.drop off).take n).any isHl = false) (h2 : ((cs.drop off).take n).any isUn = false) : AVRs w G (used w G s o) ((cs.drop off).take n) ((vs.drop off).take n) := by
  refine AVRs.of_get (by simp only [List.length_take, List.length_drop, hl]) fun k x v hx hv => ?_
  have m := List.mem_of_getElem? hx
  have f1 : isHl x = false := by
    cases e : isHl x with
    | false => rfl
    | true => rw [List.any_eq_false] at h1; exact absurd e (by simpa using h1 x m)
  have f2 : isUn x = false := by
    cases e : isUn x with
    | false => rfl
    | true => rw [List.any_eq_false] at h2; exact absurd e (by simpa using h2 x m)
  rw [List.getElem?_take] at hx hv
  split at hx
  · rename_i hk
    rw [if_pos hk] at hv
    rw [List.getElem?_drop] at hx hv
    obtain ⟨u, hu, hr⟩ := hc _ _ hx
    rw [hv] at hu; injection hu with hu; subst hu
    exact outC_val hr f1 f2
  · cases hx
open Classical in
/-- a block is handed on -/
noncomputable def toRole (I : Nat → Role) (r0 : Nat) (k : Key) (ρ : Role) : Nat → Role := fun r => if r = r0 ∧ I r = .key k then ρ else I r
theorem toRole_else {I : Nat → Role} {r0 r : Nat} {k : Key} {ρ : Role} (h : I r ≠ .key k) : toRole I r0 k ρ r = I r := if_neg (fun e => h e.2)
theorem toRole_is {I : Nat → Role} {r0 : Nat} {k : Key} {ρ : Role} (h : I r0 = .key k) : toRole I r0 k ρ r0 = ρ := if_pos ⟨rfl, h⟩
theorem take_out (hs : St w G s o a.tmps) {id off d m : Nat} {g : Bool} {cs : List AV} {xs : List CV} (h1 : o.get id = some (.box g cs)) (h2 : cs[off]? = some (.hl m xs)) (hd : s.own d = none) :
    ∃ v G', w.cell? ⟨G.o id, off, none⟩ = some v ∧ St w G' (s.tick.blk d (.lst m xs)) (o.put id (.box g (cs.set off .un))) a.tmps ∧ To w G s o w G' (s.tick.blk d (.lst m xs)) (o.put id (.box g (cs.set off .un))) ∧ G'.hd d = v := by
  have hid := get_lt h1
  obtain ⟨vs, ty, k2, k3, k4, hfl, k5⟩ := (hs.out id hid).var h1
  obtain ⟨v, hv, hm, r0, hl⟩ := k5 off _ h2
  obtain ⟨I', hI', hI⟩ : ∃ I', (G.I r0 = .key (.hl id off) → I' r0 = .key (.own d)) ∧ ∀ r, G.I r ≠ .key (.hl id off) → I' r = G.I r := ⟨toRole G.I r0 (.hl id off) (.key (.own d)), toRole_is, fun r => toRole_else⟩
  have hst : Stays G.I I' w w := .mk fun r hr => ⟨rfl, (hI r (by first | exact hr.no | exact hr.key _ | exact fun _ => hr.key _))⟩
  have hnew : OutR w { G with I := I' } (o.put id (.box g (cs.set off .un))) id := by
    refine OutR.mk' (b := .box g (cs.set off .un)) (by rw [put_get hid, if_pos rfl]) ⟨vs, ty, (hI _ (by rw [k2]; simp)).trans k2, k3, by simp [k4], hfl, fun j x hx => ?_⟩
    by_cases e : off = j
    · subst e
      rw [List.getElem?_set_self (List.getElem?_eq_some_iff.mp h2).1] at hx
      injection hx with hx; subst hx
      exact ⟨v, hv, trivial⟩
    · rw [List.getElem?_set_ne e] at hx
      obtain ⟨u, hu, hc⟩ := k5 j x hx
      refine ⟨u, hu, hc.frame (outU_keeps fun n hn => ⟨by rw [put_len]; exact hn, rfl⟩) hst (fun r hr => ⟨rfl, (hI r ?_).trans hr⟩)⟩
      rw [hr]; intro e'; injection e' with e'; injection e' with _ e'; exact e e'.symm
  obtain ⟨s1, t1⟩ := hs.outer (I' := I') (k := .box g (cs.set off .un)) hid (w' := w) (.mk' rfl rfl rfl (Nat.le_refl _) fun _ _ hn => ⟨rfl, hI _ (hn _)⟩) (fun r _ _ h3 => ⟨rfl, hI r (h3 _)⟩)
    (fun _ => hnew) (fun r hr => hs.heap r (fun e => hr (by rw [hI r (by rw [e]; simp)]; exact e)))
  have hcell : w.cell? ⟨G.o id, off, none⟩ = some v := by
    have := (memAt_own k3 hfl off v hv).1
    rwa [Nat.zero_add] at this
  let G' : Gh := ⟨fun n => if n = d then r0 else G.a n, fun n => if n = d then v else G.hd n, fun n => if n = d then m else G.m n, G.o, G.oh, G.ohf, I', fun n => by
    show (if n = d then v else G.hd n).oneCell' = true
    split
    · exact hfl _ v hv
    · exact G.hf n⟩
  obtain ⟨s2, t2⟩ := s1.new (G' := G') (d := d) (k := .lst m xs) (w' := w) hd (.refl _ _) (fun _ _ _ => ⟨rfl, rfl⟩) (fun n hn => ⟨if_neg hn, if_neg hn, if_neg hn⟩) rfl
    (fun _ => ⟨if_pos rfl, hm, by
      show LstR w I' (.own d) (if d = d then r0 else G.a d) m xs (if d = d then v else G.hd d)
      rw [if_pos rfl, if_pos rfl]
      refine ⟨hl.1, hl.2.imp (fun e => e) ?_⟩
      rintro ⟨cap, us, c, ty, q1, q2, q3, q4, q5, q6, q7⟩
      exact ⟨cap, us, c, ty, q1, q2, q3.mono hst, hI' q4, q5, q6, q7⟩⟩) s1.heap
  exact ⟨v, G', hcell, s2, t1.trans t2, if_pos rfl⟩
theorem ldOut_ok {t : Nat} {i : TI} (ht : TyIs P t i) {taken : Bool} {d : Option Nat} {id off : Nat} {K : AV → Prog α} {l : Log} (h : (ldOut i taken d id off K).run s o l F = some r) (hs : St w G s o a.tmps) (hid : id < o.length) :
    ∃ u s' o' l' G' y, (K u).run s' o' l' F = some r ∧ (loadVar t ⟨G.o id, off, none⟩).run P w = .ok y w ∧ St w G' s' o' a.tmps ∧ To w G s o w G' s' o' ∧ AVR w G' (used w G' s' o') u y := by
  simp only [ldOut, Prog.run] at h
  split at h
  · rename_i q g cs h1
    obtain ⟨vs, hm, hl, hc⟩ := out_cell hs h1
    have e0 : (⟨G.o id, off, none⟩ : Addr) = ⟨G.o id, 0 + off, none⟩ := by rw [Nat.zero_add]
    split at h
    · rename_i ha
      obtain ⟨hz, h2⟩ := pchk_inv h
      rw [Bool.and_eq_true] at hz
      have hz1 := Nat.le_of_ble_eq_true hz.1
      have hz2 : ((cs.drop off).take i.size).any isUn = false := by simpa using hz.2
      have hrun : (loadVar t ⟨G.o id, off, none⟩).run P w = .ok (.agg ((vs.drop off).take i.size).toArray) w := by
        rw [e0]
        exact run_loadAgg ht ha (hm.part off i.size) (by rw [List.length_take, List.length_drop]; omega)
      split at h2
      · simp only [Prog.run] at h2
        have gs := frz_out hs h1
        obtain ⟨vs', hm', hl', hc'⟩ := out_cell gs.st (id := id) (by rw [put_get hid, if_pos rfl])
        have em : ((cs.drop off).take i.size).map closeHl = ((cs.map closeHl).drop off).take i.size := by rw [List.map_take, List.map_drop]
        have n1 : (((cs.map closeHl).drop off).take i.size).any isHl = false := by
          rw [← em, List.any_map, List.any_eq_false]
          intro x _ e
          cases x <;> cases e
        have n2 : (((cs.map closeHl).drop off).take i.size).any isUn = false := by
          rw [← em, List.any_map, List.any_eq_false]
          intro x hx e
          rw [List.any_eq_false] at hz2
          have := hz2 x hx
          cases x <;> first | exact this rfl | cases e
        have hl2 : vs'.length = cs.length := by simpa using hl'
        have hrun' : (loadVar t ⟨G.o id, off, none⟩).run P w = .ok (.agg ((vs'.drop off).take i.size).toArray) w := by
          rw [e0]
          exact run_loadAgg ht ha (hm'.part off i.size) (by rw [List.length_take, List.length_drop]; omega)
        refine ⟨_, _, _, _, _, _, h2, hrun', gs.st, gs.to, ?_⟩
        rw [em]
        exact mkAg_of (out_part hl' hc' n1 n2) ((hm'.flat.drop _).take _)
      · rename_i hh
        exact ⟨_, _, _, _, _, _, h2, hrun, hs, .refl hs, mkAg_of (out_part hl hc hh hz2) ((hm.flat.drop _).take _)⟩
    · rename_i ha
      split at h
      · rename_i m xs h2
        split at h
        · simp only [Prog.run] at h
          obtain ⟨e, l', rfl, hd, _, h3⟩ := newL_inv h
          obtain ⟨v, G', hcell, s2, t2, hhd⟩ := take_out hs h1 h2 hd
          refine ⟨_, _, _, _, G', v, h3, run_loadOne ht ha hcell, s2, t2, ?_⟩
          rw [← hhd]
          exact .sl _ (by show (s.tick.blk e (.lst m xs)).own e ≠ none; rw [blk_own, if_pos rfl]; simp)
        · obtain ⟨v, hv, _⟩ := hc _ _ h2
          have hcell : w.cell? ⟨G.o id, off, none⟩ = some v := by rw [e0]; exact (hm off v hv).1
          exact ⟨_, _, _, _, _, v, h, run_loadOne ht ha hcell, hs, .refl hs, .lo _ _ _ _ ⟨Nat.le_refl _, fun _ => ⟨m, xs, g, cs, h1, h2, hcell⟩⟩⟩
      · cases h
      · rename_i u q1 q2 h2
        obtain ⟨v, hv, hcv⟩ := hc _ _ h2
        have hcell : w.cell? ⟨G.o id, off, none⟩ = some v := by rw [e0]; exact (hm off v hv).1
        refine ⟨_, _, _, _, _, v, h, run_loadOne ht ha hcell, hs, .refl hs, outC_val hcv ?_ ?_⟩
        · cases u <;> first | rfl | exact absurd rfl (q1 _ _)
        · cases u <;> first | rfl | exact absurd rfl q2
      · cases h
  · cases h
end
end Go.Ev
/- Lists of lists: an element gets a name, goes back. -/
namespace Go.Ev
open Go Go.RowKit
variable [Glob]
theorem blk_blk (s : S) (n : Nat) (a b : Blk) : (s.blk n a).blk n b = s.blk n b := by
  have : upd (upd s.own n a) n b = upd s.own n b := funext fun u => by
    rw [upd_env, upd_env, upd_env]; split <;> rfl
  show S.mk s.env (upd (upd s.own n a) n b) s.gen = _
  rw [this]; rfl
section
variable {α R : Type} {F : α → S → O → Log → Option R} {r : R} {w w' : World} {G G' : Gh} {s : S} {o : O} {tmps : Array Value}
theorem nst_out (hs : St w G s o tmps) : ∀ id a cs, O.get o id = some (.box a cs) → w.heap[G.o id]? = w.heap[G.o id]? := fun _ _ _ _ => rfl
/-- the element that has a name goes back to its place -/
theorem St.back (hs : St w G s o tmps) {n n' j m m' : Nat} {xs ys : List CV} (hn : s.own n = some (.nst m xs (some (j, n')))) (hn' : s.own n' = some (.lst m' ys)) :
    ∃ I', St w { G with I := I' } ((s.blk n' .dead).blk n (.nst m (xs.set j (.im ys)) none)) o tmps ∧ To w G s o w { G with I := I' } ((s.blk n' .dead).blk n (.nst m (xs.set j (.im ys)) none)) o := by
  have hnn : n ≠ n' := by rintro rfl; rw [hn] at hn'; cases hn'
  obtain ⟨I', hI1, hI2⟩ : ∃ I' : Nat → Role, (G.I (G.a n') = .key (.own n') → I' (G.a n') = .key (.el n j)) ∧ ∀ r, G.I r ≠ .key (.own n') → I' r = G.I r := ⟨toRole G.I (G.a n') (.own n') (.key (.el n j)), toRole_is, fun r => toRole_else⟩
  have hst : Stays G.I I' w w := .mk fun r hr => ⟨rfl, (hI2 r (by first | exact hr.no | exact hr.key _ | exact fun _ => hr.key _))⟩
  let s' := (s.blk n' .dead).blk n (.nst m (xs.set j (.im ys)) none)
  have hown : ∀ q, s'.own q = if q = n then some (.nst m (xs.set j (.im ys)) none) else if q = n' then some .dead else s.own q := fun q => by
    show ((s.blk n' .dead).blk n (.nst m (xs.set j (.im ys)) none)).own q = _
    rw [blk_own, blk_own]
  have to : To w G s o w { G with I := I' } s' o := ⟨(.mk' rfl rfl rfl (Nat.le_refl _) fun r _ h => ⟨rfl, hI2 r (h _)⟩), ⟨fun q hq => ⟨by
    show s'.own q ≠ none
    rw [hown]; split; · simp
    split; · simp
    exact hq, rfl, rfl, rfl⟩, fun q hq => ⟨hq, rfl⟩, fun _ _ => rfl, lo_keeps rfl (fun _ _ => rfl) (fun _ => rfl) (nst_out hs)⟩, hs.imm⟩
  refine ⟨I', hs.step to rfl (fun q => q = n ∨ q = n') (fun _ => False) (fun q hq => ?_) ?_ ?_ ?_ (fun _ h => h) (fun _ _ h => ⟨h, rfl⟩) ?_ (fun _ h => h.elim) ?_, to⟩
  · rw [hown, if_neg (fun e => hq (.inl e)), if_neg (fun e => hq (.inr e))]
  · rintro r q hq _ _ (h | ⟨i, h⟩)
    · exact ⟨rfl, hI2 r (by rw [h]; intro e; exact hq (.inr (own_key e)))⟩
    · exact ⟨rfl, hI2 r (by rw [h]; simp)⟩
  · intro q hq
    have e : q ≠ n := by rintro rfl; rw [hn] at hq; exact hq
    rw [hown, if_neg e]
    split
    · exact ⟨trivial, rfl, fun a ys h => (by cases h), fun ys h => (by cases h)⟩
    · exact ⟨hq, rfl, fun a ys h => ⟨ys, h⟩, fun ys h => .inr ⟨ys, h⟩⟩
  · rintro q k hq hk
    rw [hown] at hk
    by_cases e : q = n
    · subst e
      rw [if_pos rfl] at hk
      injection hk with hk; subst hk
      obtain ⟨h1, h2, h3, h4⟩ := hs.own q _ hn
      refine ⟨h1, h2, fun j n e => (by cases e), ?_⟩
      rcases h4 with ⟨h4, h5⟩ | ⟨cap, c, ty, h4, h5, h6, h7, h8, h9⟩
      · subst h5; exact .inl ⟨h4, by simp⟩
      · refine .inr ⟨cap, c, ty, by rw [List.length_set]; exact h4, by rw [List.length_set]; exact h5, (hI2 _ (by rw [h6]; intro e; exact hnn (own_key e))).trans h6, h7, h8, fun k x hx => ?_⟩
        by_cases e : j = k
        · subst e
          have hlt : j < xs.length := by
            have := (List.getElem?_eq_some_iff.mp hx).1
            simpa using this
          rw [List.getElem?_set_self hlt] at hx
          injection hx with hx; subst hx
          obtain ⟨v, hv, hf, hE⟩ := h9 j _ (List.getElem?_eq_getElem hlt)
          unfold ElR at hE
          simp only [if_true] at hE
          obtain ⟨e1, e2⟩ := hE.1 _ _ hn'
          subst e1
          obtain ⟨m1, m2, hl⟩ := hs.own n' _ hn'
          refine ⟨v, hv, hf, ys, G.a n', rfl, hl.1, ?_⟩
          rw [e2]
          refine hl.2.imp (fun h => h) ?_
          rintro ⟨cap, us, c, ty, q1, q2, q3, q4, q5, q6, q7⟩
          exact ⟨cap, us, c, ty, q1, q2, q3.mono hst, hI1 q4, q5, q6, q7⟩
        · rw [List.getElem?_set_ne e] at hx
          obtain ⟨v, hv, hf, hE⟩ := h9 k x hx
          unfold ElR at hE
          simp only [if_neg e] at hE
          obtain ⟨zs, r, rfl, hl⟩ := hE
          exact ⟨v, hv, hf, zs, r, rfl, hl.frame hst fun hr => ⟨rfl, (hI2 r (by rw [hr]; simp)).trans hr⟩⟩
    · rw [if_neg e] at hk
      have e' : q = n' := hq.resolve_left e
      rw [if_pos e'] at hk
      injection hk with hk; subst hk
      trivial
  · rintro r id _ _ (h | ⟨i, h⟩ | ⟨i, h⟩) <;> exact ⟨rfl, hI2 r (by rw [h]; simp)⟩
  · intro r hr
    by_cases e : G.I r = .key (.own n')
    · exact hs.heap r (by rw [e]; simp)
    · exact hs.heap r (by rw [← hI2 r e]; exact hr)
/-- an element gets a name -/
theorem St.take (hs : St w G s o tmps) {n d k m : Nat} {xs zs : List CV} (hn : s.own n = some (.nst m xs none)) (hk : xs[k]? = some (.im zs)) (hd : s.own d = none) :
    ∃ v G', w.cell? ⟨G.a n, k, none⟩ = some v ∧ St w G' ((s.blk n (.nst m xs (some (k, d)))).blk d (.lst m zs)) o tmps ∧ To w G s o w G' ((s.blk n (.nst m xs (some (k, d)))).blk d (.lst m zs)) o ∧ G'.hd d = v := by
  have hnd : d ≠ n := by rintro rfl; rw [hn] at hd; cases hd
  obtain ⟨h1, h2, h3, h4⟩ := hs.own n _ hn
  rcases h4 with ⟨_, h5⟩ | ⟨cap, c, ty, h4, h5, h6, h7, h8, h9⟩
  · subst h5; simp at hk
  obtain ⟨v, hv, hf, zs', r0, hz, hl⟩ := h9 k _ hk
  injection hz with hz; subst hz
  obtain ⟨I', hI1, hI2⟩ : ∃ I' : Nat → Role, (G.I r0 = .key (.el n k) → I' r0 = .key (.own d)) ∧ ∀ r, G.I r ≠ .key (.el n k) → I' r = G.I r := ⟨toRole G.I r0 (.el n k) (.key (.own d)), toRole_is, fun r => toRole_else⟩
  have hst : Stays G.I I' w w := .mk fun r hr => ⟨rfl, (hI2 r (by first | exact hr.no | exact hr.key _ | exact fun _ => hr.key _))⟩
  let G' : Gh := ⟨fun q => if q = d then r0 else G.a q, fun q => if q = d then v else G.hd q, fun q => if q = d then m else G.m q, G.o, G.oh, G.ohf, I', fun q => by
    show (if q = d then v else G.hd q).oneCell' = true
    split
    · exact hf
    · exact G.hf q⟩
  let s' := (s.blk n (.nst m xs (some (k, d)))).blk d (.lst m zs)
  have hown : ∀ q, s'.own q = if q = d then some (.lst m zs) else if q = n then some (.nst m xs (some (k, d))) else s.own q := fun q => by
    show ((s.blk n (.nst m xs (some (k, d)))).blk d (.lst m zs)).own q = _
    rw [blk_own, blk_own]
  have hGq : ∀ q, q ≠ d → G'.a q = G.a q ∧ G'.hd q = G.hd q ∧ G'.m q = G.m q := fun q hq => ⟨if_neg hq, if_neg hq, if_neg hq⟩
  have to : To w G s o w G' s' o := ⟨(.mk' rfl rfl rfl (Nat.le_refl _) fun r _ h => ⟨rfl, hI2 r (h _)⟩), ⟨fun q hq => ⟨by
    show s'.own q ≠ none
    rw [hown]; split; · simp
    split; · simp
    exact hq, hGq q (by rintro rfl; exact hq hd)⟩, fun q hq => ⟨hq, rfl⟩, fun _ _ => rfl, lo_keeps rfl (fun _ _ => rfl) (fun _ => rfl) (nst_out hs)⟩, hs.imm⟩
  have hcell : w.cell? ⟨G.a n, k, none⟩ = some v := by
    simp only [World.cell?, h7, Option.isSome_none, Bool.false_eq_true, if_false]
    exact hv
  refine ⟨v, G', hcell, hs.step to rfl (fun q => q = n ∨ q = d) (fun _ => False) (fun q hq => ?_) ?_ ?_ ?_ (fun _ h => h) (fun _ _ h => ⟨h, rfl⟩) ?_ (fun _ h => h.elim) ?_, to, if_pos rfl⟩
  · rw [hown, if_neg (fun e => hq (.inr e)), if_neg (fun e => hq (.inl e))]
  · rintro r q hq _ _ (h | ⟨i, h⟩)
    · exact ⟨rfl, hI2 r (by rw [h]; simp)⟩
    · exact ⟨rfl, hI2 r (by rw [h]; intro e; injection e with e; injection e with e _; exact hq (.inl e))⟩
  · intro q hq
    have e : q ≠ n := by rintro rfl; rw [hn] at hq; exact hq
    have e' : q ≠ d := by rintro rfl; rw [hd] at hq; exact hq
    rw [hown, if_neg e', if_neg e]
    exact ⟨hq, (hGq q e').2.1, fun a ys h => ⟨ys, h⟩, fun ys h => .inr ⟨ys, h⟩⟩
  · rintro q b hq hb
    rw [hown] at hb
    by_cases e : q = d
    · subst e
      rw [if_pos rfl] at hb
      injection hb with hb; subst hb
      refine ⟨if_pos rfl, h2, ?_⟩
      show LstR w I' (.own q) (if q = q then r0 else G.a q) m zs (if q = q then v else G.hd q)
      rw [if_pos rfl, if_pos rfl]
      refine ⟨hl.1, hl.2.imp (fun h => h) ?_⟩
      rintro ⟨cap, us, c, ty, q1, q2, q3, q4, q5, q6, q7⟩
      exact ⟨cap, us, c, ty, q1, q2, q3.mono hst, hI1 q4, q5, q6, q7⟩
    · have e' : q = n := hq.resolve_right e
      subst e'
      rw [if_neg e, if_pos rfl] at hb
      injection hb with hb; subst hb
      obtain ⟨g1, g2, g3⟩ := hGq q e
      refine ⟨g3.trans h1, h2, fun j n' e1 => ?_, .inr ⟨cap, c, ty, ?_, h5, ?_, ?_, h8, fun j x hx => ?_⟩⟩
      · injection e1 with e1; injection e1 with _ e1; subst e1
        rw [hown, if_pos rfl]; trivial
      · rw [g1, g2]; exact h4
      · rw [g1]; exact (hI2 _ (by rw [h6]; simp)).trans h6
      · rw [g1]; exact h7
      · obtain ⟨u, hu, hfu, zs', r, hz, hl'⟩ := h9 j x hx
        refine ⟨u, hu, hfu, ?_⟩
        unfold ElR
        simp only
        by_cases ej : k = j
        · subst ej
          rw [if_pos rfl]
          rw [hu] at hv; injection hv with hv; subst hv
          refine ⟨fun a ys hy => ?_, fun ys hy => ?_⟩
          · rw [hown, if_pos rfl] at hy
            injection hy with hy; injection hy with hy _
            exact ⟨hy.symm, (if_pos rfl).symm⟩
          · rw [hown, if_pos rfl] at hy; cases hy
        · rw [if_neg ej]
          subst hz
          exact ⟨zs', r, rfl, hl'.frame hst fun hr => ⟨rfl, (hI2 r (by rw [hr]; intro e; injection e with e; injection e with _ e; exact ej e.symm)).trans hr⟩⟩
  · rintro r id _ _ (h | ⟨i, h⟩ | ⟨i, h⟩) <;> exact ⟨rfl, hI2 r (by rw [h]; simp)⟩
  · intro r hr
    by_cases e : G.I r = .key (.el n k)
    · exact hs.heap r (by rw [e]; simp)
    · exact hs.heap r (by rw [← hI2 r e]; exact hr)
end
end Go.Ev
/- Loads, by the pointer. -/
namespace Go.Ev
open Go Go.RowKit
variable [Glob]
section
variable {α R : Type} {F : α → S → O → Log → Option R} {r : R} {w : World} {P : Program} {C : Cfg} {Q : Orc} {p : Oper} {a : Act} {G : Gh} {s : S} {o : O} {I : Nat → Role}

/-- a closed pointer is gone through -/
theorem load_ep {t : Nat} {i : TI} (ht : TyIs P t i) {g : Bool} {y : CV} {k : Nat} {K : AV → Prog α} {l : Log} {x : Value} (hs : St w G s o a.tmps)
    (h : (match g with | true => ldCV i y k K | false => (match i.agg, k with | false, 0 => K (.c y) | _, _ => .fail)).run s o l F = some r) (hx : VR w G.I (.ep g y k) x) :
    ∃ u b z, (K (.c u)).run s o l F = some r ∧ x = .pointer (some b) ∧ (loadVar t b).run P w = .ok z w ∧ VR w G.I u z := by
  cases hx with
  | ep _ _ _ r0 off vs hv hI hm =>
    cases g with
    | true =>
      obtain ⟨u, z, h1, h2, h3⟩ := ldCV_ok ht h hv hm
      exact ⟨u, _, z, h1, rfl, h2, h3⟩
    | false =>
      dsimp only at h
      split at h
      · rename_i ha
        cases hv with
        | cons _ v _ _ hv hn =>
          cases hn
          exact ⟨y, _, v, h, rfl, run_loadOne ht ha (hm 0 v rfl).1, hv⟩
      · cases h
theorem load_cells {t : Nat} {i : TI} (ht : TyIs P t i) {tmps : Array Value} {cs : List AV} {vs : List Value} {b base off : Nat} {K : AV → Prog α} {l : Log} (h : (ldCells i cs off K).run s o l F = some r)
    (hs : St w G s o tmps) (hv : AVRs w G (used w G s o) cs vs) (hm : MemAt w b base vs) :
    ∃ u s' o' l' G' y, (K u).run s' o' l' F = some r ∧ (loadVar t ⟨b, base + off, none⟩).run P w = .ok y w ∧ St w G' s' o' tmps ∧ To w G s o w G' s' o' ∧ AVR w G' (used w G' s' o') u y := by
  obtain ⟨u, y, h1, h2, h3⟩ := ldCells_ok ht h hv hm
  exact ⟨u, s, o, l, G, y, h1, h2, hs, .refl hs, h3⟩
theorem load_ok {t : Nat} {i : TI} (ht : TyIs P t i) {taken : Bool} {d : Option Nat} : ∀ v, LoadOk (α := α) P t (evLoad i taken d) v := by
  intro v R F r K w G s o l tmps x h hs hx
  let a : Act := ⟨tmps, []⟩
  have hs : St w G s o a.tmps := hs
  unfold evLoad at h
  split at h
  · rename_i b k
    cases hx with
    | pt _ _ hb =>
      simp only [Prog.run] at h
      have e0 : (⟨G.a b, k, none⟩ : Addr) = ⟨G.a b, 0 + k, none⟩ := by rw [Nat.zero_add]
      split at h
      · rename_i g cs hk
        obtain ⟨vs, hm, hv⟩ := box_mem hs (.inl hk)
        obtain ⟨u, s', o', l', G', y, h1, h2, h3⟩ := load_cells ht h hs hv hm
        exact ⟨u, s', o', l', G', _, y, h1, rfl, by rw [e0]; exact h2, h3⟩
      · rename_i g cs hk
        obtain ⟨vs, hm, hv⟩ := box_mem hs (.inr hk)
        obtain ⟨u, s', o', l', G', y, h1, h2, h3⟩ := load_cells ht h hs hv hm
        exact ⟨u, s', o', l', G', _, y, h1, rfl, by rw [e0]; exact h2, h3⟩
      · rename_i id hk
        obtain ⟨k1, k2⟩ := hs.own b _ hk
        obtain ⟨u, s', o', l', G', y, h1, h2, h3⟩ := ldOut_ok ht h hs k1
        exact ⟨u, s', o', l', G', _, y, h1, rfl, by rw [k2]; exact h2, h3⟩
      · cases h
  · rename_i id k
    cases hx with
    | po _ _ hb =>
      obtain ⟨u, s', o', l', G', y, h1, h2, h3⟩ := ldOut_ok ht h hs hb
      exact ⟨u, s', o', l', G', _, y, h1, rfl, h2, h3⟩
  · rename_i n k off
    cases hx with
    | le _ _ _ hb =>
      simp only [Prog.run] at h
      split at h
      · rename_i m xs hk
        obtain ⟨j, y, e, hy, h2⟩ := lNth_inv h
        have e : k = j := by omega
        subst e
        obtain ⟨vs, hm, hv⟩ := lst_mem hs (.inl ⟨m, hk⟩) hy
        obtain ⟨u, z, h3, h4, h5⟩ := ldCV_ok ht h2 hv hm
        exact ⟨.c u, s, o, _, G, _, z, h3, rfl, h4, hs, .refl hs, .c _ _ h5⟩
      · rename_i xs hk
        obtain ⟨j, y, e, hy, h2⟩ := lNth_inv h
        have e : k = j := by omega
        subst e
        obtain ⟨vs, hm, hv⟩ := lst_mem hs (.inr hk) hy
        obtain ⟨u, z, h3, h4, h5⟩ := ldCV_ok ht h2 hv hm
        exact ⟨.c u, s, o, _, G, _, z, h3, rfl, h4, hs, .refl hs, .c _ _ h5⟩
      · rename_i m xs out hk
        split at h
        · rename_i d' hagg
          -- the list whole, then the element by name
          have key : ∀ (ys : List CV) (s1 : S) (G1 : Gh) (l1 : Log), St w G1 (s1.blk n (.nst m ys none)) o a.tmps → To w G s o w G1 (s1.blk n (.nst m ys none)) o → G1.a n = G.a n →
              ((.look _ (lNth ys (k : Int)) fun x => .look _ (lLst x) fun zs => .setB n (.nst m ys (some (k, d'))) (newL (some d') (.lst m zs) K) : Prog α).run s1 o l1 F = some r) → ∃ u s' o' l' G' b y, (K u).run s' o' l' F = some r ∧ Value.pointer (some ⟨G.a n, k * G.m n + 0, none⟩) = .pointer (some b) ∧ (loadVar t b).run P w = .ok y w ∧ St w G' s' o' a.tmps ∧ To w G s o w G' s' o' ∧ AVR w G' (used w G' s' o') u y := by
            intro ys s1 G1 l1 hst hto ha hrun
            obtain ⟨j, y, e, hy, h2⟩ := lNth_inv hrun
            have e : k = j := by omega
            subst e
            obtain ⟨zs, h3, hz⟩ := lLst_inv h2
            simp only [Prog.run] at h3
            obtain ⟨d2, l2, hd2, hdn, _, h4⟩ := newL_inv h3
            injection hd2 with hd2; subst hd2
            have hn1 : (s1.blk n (.nst m ys none)).own n = some (.nst m ys none) := by rw [blk_own, if_pos rfl]
            have hdn' : (s1.blk n (.nst m ys none)).own d' = none := by
              rw [blk_own] at hdn ⊢
              split at hdn
              · cases hdn
              · rename_i e; rw [if_neg e]; exact hdn
            have hm1 : G.m n = 1 := (hs.own n _ hk).1
            have hel : ys[k]? = some (.im zs) := by
              have no : ∀ q, ys[k]? = some q → (∀ ws, q ≠ .im ws) → False := by
                intro q hy hq
                obtain ⟨_, _, _, hor⟩ := hst.own n _ hn1
                rcases hor with ⟨_, e⟩ | ⟨cap, c, ty, _, _, _, _, _, h9⟩
                · subst e; simp at hy
                · obtain ⟨v, _, _, ws, r, e, _⟩ := h9 k _ hy
                  exact hq _ e
              rcases hz with rfl | ⟨rfl, rfl⟩ | ⟨rfl, rfl⟩ | rfl
              · exact hy
              · exact (no _ hy (by simp)).elim
              · exact (no _ hy (by simp)).elim
              · exact (no _ hy (by simp)).elim
            obtain ⟨v, G2, hcell, s2, t2, hhd⟩ := hst.take hn1 hel hdn'
            rw [blk_blk] at s2 t2
            refine ⟨.sl d', _, _, _, G2, _, v, h4, rfl, ?_, s2, hto.trans t2, ?_⟩
            · rw [hm1, Nat.mul_one, Nat.add_zero, ← ha]; exact run_loadOne ht hagg hcell
            · rw [← hhd]
              exact .sl _ (by show S.own _ d' ≠ none; rw [blk_own, if_pos rfl]; simp)
          unfold nstBack at h
          split at h
          · have e : s = s.blk n (.nst m xs none) := by
              obtain ⟨e1, e2, e3⟩ := s
              have : e2 = upd e2 n (.nst m xs none) := funext fun u => by
                rw [upd_env]; split
                · rename_i hu; subst hu; exact hk
                · rfl
              show S.mk e1 e2 e3 = S.mk e1 (upd e2 n (.nst m xs none)) e3
              rw [← this]
            exact key xs s G _ (by rw [← e]; exact hs) (by rw [← e]; exact .refl hs) rfl h
          · rename_i j n' 
            simp only [Prog.run] at h
            split at h
            · rename_i m' ys hn'
              simp only [Prog.run] at h
              obtain ⟨I', s1, t1⟩ := hs.back hk hn'
              exact key _ (s.blk n' .dead) { G with I := I' } _ s1 t1 rfl h
            · cases h
        · cases h
      · cases h
  · rename_i id k off
    cases hx with
    | oe _ _ _ hid =>
      simp only [Prog.run] at h
      split at h
      · rename_i q xs hk
        split at h
        · rename_i hagg
          split at h
          · rename_i u hu
            obtain ⟨hm, hor⟩ := (hs.out id hid).is hk
            rcases hor with ⟨_, e0⟩ | ⟨cap, vs, c, ty, e1, e2, e3, e4, e5, e6, e7⟩
            · subst e0; simp at hu
            · obtain ⟨z, hz, hr⟩ := e3.get hu
              refine ⟨u, s, o, _, G, _, z, h, rfl, ?_, hs, .refl hs, hr.mono (outU_le w G s o) (.refl _ _)⟩
              have := ((memAt_of e5 e7) k z hz).1
              rw [hm, Nat.mul_one, Nat.add_zero]
              rw [Nat.zero_add] at this
              exact run_loadOne ht hagg this
          · cases h
        · cases h
      · obtain ⟨xs, l1, h1, hk⟩ := listOut_get h
        obtain ⟨j, y, e, hy, h2⟩ := lNth_inv h1
        have e : k = j := by omega
        subst e
        obtain ⟨vs, hm, hv⟩ := olst_mem hs hid hk hy
        obtain ⟨u, z, h3, h4, h5⟩ := ldCV_ok ht h2 hv hm
        exact ⟨.c u, s, o, _, G, _, z, h3, rfl, h4, hs, .refl hs, .c _ _ h5⟩
  · rename_i x0
    have hx := hx.c_inv
    split at h
    · rename_i g y k
      obtain ⟨u, b, z, h1, h2, h3, h4⟩ := load_ep ht hs h hx
      exact ⟨.c u, s, o, _, G, b, z, h1, h2, h3, hs, .refl hs, .c _ _ h4⟩
    · cases h
  · rename_i cs k
    cases hx with
    | ep _ _ _ r0 off vs hv hI hm =>
      obtain ⟨u, s', o', l', G', y, h1, h2, h3⟩ := load_cells ht h hs hv hm
      exact ⟨u, s', o', l', G', _, y, h1, rfl, h2, h3⟩
  · rename_i v0
    cases hx with
    | ep _ _ _ r0 off vs hv hI hm =>
      split at h
      · cases h
      · rename_i ha
        cases hv with
        | cons _ v1 _ _ hv hn =>
          cases hn
          exact ⟨v0, s, o, _, G, _, v1, h, rfl, run_loadOne ht ha (hm 0 v1 rfl).1, hs, .refl hs, hv⟩
  · cases h
end
end Go.Ev
/- What is written: cells. -/
namespace Go.Ev
open Go Go.RowKit
variable [Glob]
/-- some of the values are replaced -/
def setVs (vs : List Value) (o : Nat) : List Value → List Value
  | [] => vs
  | v :: r => setVs (vs.set o v) (o + 1) r
theorem setVs_len : ∀ (us vs : List Value) (o : Nat), (setVs vs o us).length = vs.length
  | [], _, _ => rfl
  | v :: r, vs, o => by rw [setVs, setVs_len r]; simp
theorem setVs_get : ∀ (us vs : List Value) (o k : Nat), (setVs vs o us)[k]? = if o ≤ k ∧ k < o + us.length ∧ k < vs.length then us[k - o]? else vs[k]?
  | [], vs, o, k => by rw [setVs, if_neg]; simp; omega
  | v :: r, vs, o, k => by
    rw [setVs, setVs_get r]
    simp only [List.length_set, List.length_cons, List.getElem?_set]
    by_cases h1 : o + 1 ≤ k ∧ k < o + 1 + r.length ∧ k < vs.length
    · rw [if_pos h1, if_pos (by omega)]
      have : k - o = (k - (o + 1)) + 1 := by omega
      rw [this, List.getElem?_cons_succ]
    · rw [if_neg h1]
      by_cases h2 : o = k
      · subst h2
        simp only [if_true]
        by_cases h3 : o < vs.length
        · rw [if_pos h3, if_pos (by omega)]; simp
        · rw [if_neg h3, if_neg (by omega)]; rw [List.getElem?_eq_none (by omega)]
      · rw [if_neg h2, if_neg (by omega)]
theorem setVs_flat {vs us : List Value} {o : Nat} (h : Flat vs) (h' : Flat us) : Flat (setVs vs o us) := fun k v hk => by
  rw [setVs_get] at hk
  split at hk
  · exact h' _ v hk
  · exact h k v hk
theorem setAll_get : ∀ (us cs : List AV) (o k : Nat), (setAll cs o us)[k]? = if o ≤ k ∧ k < o + us.length ∧ k < cs.length then us[k - o]? else cs[k]?
  | [], vs, o, k => by rw [setAll, if_neg]; simp; omega
  | v :: r, vs, o, k => by
    rw [setAll, setAll_get r]
    simp only [List.length_set, List.length_cons, List.getElem?_set]
    by_cases h1 : o + 1 ≤ k ∧ k < o + 1 + r.length ∧ k < vs.length
    · rw [if_pos h1, if_pos (by omega)]
      have : k - o = (k - (o + 1)) + 1 := by omega
      rw [this, List.getElem?_cons_succ]
    · rw [if_neg h1]
      by_cases h2 : o = k
      · subst h2
        simp only [if_true]
        by_cases h3 : o < vs.length
        · rw [if_pos h3, if_pos (by omega)]; simp
        · rw [if_neg h3, if_neg (by omega)]; rw [List.getElem?_eq_none (by omega)]
      · rw [if_neg h2, if_neg (by omega)]
theorem setAll_len : ∀ (us cs : List AV) (o : Nat), (setAll cs o us).length = cs.length
  | [], _, _ => rfl
  | v :: r, vs, o => by rw [setAll, setAll_len r]; simp
section
variable {w : World}
theorem setCell_at {b o : Nat} {c : Array Value} {ty : TypeId} {f : Nat × Nat} (v : Value) (h : w.heap[b]? = some (.cells c ty f)) : (w.setCell ⟨b, o, none⟩ v).heap[b]? = some (.cells (c.setIfInBounds o v) ty f) := by
  simp [World.setCell, Array.getElem?_modify, h]
theorem setCell_else {b o r : Nat} (v : Value) (h : r ≠ b) : (w.setCell ⟨b, o, none⟩ v).heap[r]? = w.heap[r]? := by
  simp [World.setCell, Array.getElem?_modify, Ne.symm h]
theorem setCells_at : ∀ (us : List Value) (b o : Nat) (w : World) (c : Array Value) (ty : TypeId) (f : Nat × Nat), w.heap[b]? = some (.cells c ty f) → (w.setCells b o us).heap[b]? = some (.cells (setVs c.toList o us).toArray ty f)
  | [], b, o, w, c, ty, f, h => by simpa [World.setCells, setVs] using h
  | v :: r, b, o, w, c, ty, f, h => by
    rw [World.setCells, setCells_at r b (o + 1) _ _ ty f (setCell_at v h), setVs]
    simp
theorem setCells_else {b r : Nat} (h : r ≠ b) : ∀ (us : List Value) (o : Nat) (w : World), (w.setCells b o us).heap[r]? = w.heap[r]?
  | [], _, _ => rfl
  | v :: us, o, w => by rw [World.setCells, setCells_else h us, setCell_else v h]
theorem setCells_size (b : Nat) : ∀ (us : List Value) (o : Nat) (w : World), (w.setCells b o us).heap.size = w.heap.size ∧ (w.setCells b o us).os = w.os ∧ (w.setCells b o us).tape = w.tape ∧ (w.setCells b o us).output = w.output
  | [], _, _ => ⟨rfl, rfl, rfl, rfl⟩
  | v :: us, o, w => by
    obtain ⟨h1, h2, h3, h4⟩ := setCells_size b us (o + 1) (w.setCell ⟨b, o, none⟩ v)
    exact ⟨h1.trans (by simp [World.setCell]), h2, h3, h4⟩
theorem setCells_ext {I J : Nat → Role} {b : Nat} {k : Key} (hb : I b = .key k) (hJ : ∀ r, (∀ k, I r ≠ .key k) → J r = I r) (us : List Value) (o : Nat) : Ext I J w (w.setCells b o us) := by
  obtain ⟨h1, h2, h3, h4⟩ := setCells_size b us o w
  refine .mk' h2 h3 h4 (Nat.le_of_eq h1.symm) fun r _ hn => ⟨setCells_else ?_ us o w, hJ r hn⟩
  rintro rfl; exact hn k hb
variable {P : Program}
theorem run_storeVar {t : Nat} {i : TI} (ht : TyIs P t i) {v : Value} (hz : v.cells.size = i.size) {b off : Nat} {c : Array Value} {ty : TypeId} (hh : w.heap[b]? = some (.cells c ty (0, 0))) (hl : off + i.size ≤ c.size) (hf : Flat v.cells.toList) :
    (storeVar t ⟨b, off, none⟩ v).run P w = .ok () (w.setCells b off v.cells.toList) := by
  have hst := run_storeCells_cells (P := P) b off v.cells.toList 0 w (fun j hj => by
      have hj : j < v.cells.size := by simpa using hj
      simp only [World.cell?, hh, Option.isSome_none, Bool.false_eq_true, if_false, Nat.add_zero]
      rw [Array.getElem?_eq_getElem (by omega)]; rfl) (fun j hj => by
      simp [World.frozen?, hh]) hf.mem
  simp only [storeVar, Sem.run_bind, run_size ht, Result.andThen, hz, ne_eq, not_true_eq_false, if_false]
  simpa using hst
end
section
variable {α R : Type} {F : α → S → O → Log → Option R} {r : R} {w : World} {P : Program} {C : Cfg} {Q : Orc} {p : Oper} {a : Act} {G : Gh} {s : S} {o : O} {I : Nat → Role}
theorem OpR.skip {v : AV} {s' : S} {o' : O} {w1 : World} {G' : Gh} (h : (execOp a.eval p).run P w = .ok .skip w1) (hs : St w1 G' s' o' a.tmps) (ht : To w G s o w1 G' s' o')
    (hv : AVR w1 G' (used w1 G' s' o') v undef) : OpR P p a w G s o v s' o' := fun next Q' hn => by
  unfold Oper.wp
  rw [h]
  exact hn undef w1 G' hs ht hv
theorem flat_one {x : CV} {v : Value} (h : x.flat = true) (hv : VR w I x v) : v.oneCell' = true := by
  cases hv <;> first | rfl | cases h
theorem flatA_one {U : Used} {x : AV} {v : Value} (h : x.flat = true) (hv : AVR w G U x v) : v.oneCell' = true := by
  cases hv with
  | c y _ hy => exact flat_one h hy
  | sl n hn => exact G.hf n
  | ol n hn => exact G.ohf n
  | ov n k hn => exact viewOf_one (G.ohf n)
  | _ => first | rfl | cases h
theorem cells_flat {v : Value} (h : v.oneCell' = true) : v.cells = #[v] := by cases v <;> first | rfl | cases h
theorem g_get {cs : List CV} {j : Nat} {x : CV} (h : cs[j]? = some x) : g cs j = x := by simp [g, h]
/-- a value's cells -/
theorem cellsOf_ok {U : Used} {v : AV} {i : TI} {K : List AV → Prog α} {l : Log} {x : Value} (h : (v.cellsOf i K).run s o l F = some r) (hv : AVR w G U v x) :
    ∃ xs us, (K xs).run s o l F = some r ∧ x.cells = List.toArray us ∧ AVRs w G U xs us ∧ Flat us ∧ us.length = i.size ∧ (i.agg = false → xs = [v] ∧ us = [x]) := by
  unfold AV.cellsOf at h
  split at h
  · rename_i ha
    unfold AV.cellsN at h
    split at h
    · rename_i y
      obtain ⟨cs, rfl, hl, h1⟩ := lOpen_inv h
      obtain ⟨us, rfl, hus, hf⟩ := hv.c_inv.ag_inv
      have hlen := hus.length
      refine ⟨_, us, h1, rfl, ?_, hf, by omega, fun e => by rw [ha] at e; cases e⟩
      refine AVRs.of_get (by simp; omega) fun k y v hk hk' => ?_
      rw [List.getElem?_map] at hk
      cases hr : (List.range i.size)[k]? with
      | none => rw [hr] at hk; cases hk
      | some k' =>
        rw [hr] at hk
        have hlt := (List.getElem?_eq_some_iff.mp hr).1
        have : k' = k := by
          rw [List.getElem?_range (by simpa using hlt)] at hr; injection hr with hr; exact hr.symm
        subst this
        injection hk with hk; subst hk
        have hk2 : k' < cs.length := by simp at hlt; omega
        obtain ⟨v', hv', hr'⟩ := hus.get (List.getElem?_eq_getElem hk2)
        rw [hk'] at hv'; injection hv' with hv'; subst hv'
        show AVR w G U (.c (g cs k')) v
        rw [g_get (List.getElem?_eq_getElem hk2)]
        exact .c _ _ hr'
    · rename_i y
      obtain ⟨hl, h1⟩ := pchk_inv h
      have hl := Nat.eq_of_beq_eq_true hl
      obtain ⟨us, rfl, hus, hf⟩ := hv.ag_inv
      have hlen := hus.length
      exact ⟨_, us, h1, rfl, hus, hf, by omega, fun e => by rw [ha] at e; cases e⟩
    · cases h
  · obtain ⟨hc, h1⟩ := pchk_inv h
    rw [Bool.and_eq_true] at hc
    have hz := Nat.eq_of_beq_eq_true hc.2
    have h1c := flatA_one hc.1 hv
    exact ⟨[v], [x], h1, by rw [cells_flat h1c], .cons _ _ _ _ hv .nil, Flat.nil.cons h1c, by simp [hz], fun _ => ⟨rfl, rfl⟩⟩
end
end Go.Ev
/- Stores. -/
namespace Go.Ev
open Go Go.RowKit
variable [Glob]
section
variable {α R : Type} {F : α → S → O → Log → Option R} {r : R} {w : World} {P : Program} {C : Cfg} {Q : Orc} {p : Oper} {a : Act} {G : Gh} {s : S} {o : O} {I : Nat → Role} {tmps : Array Value}

theorem AVRs.setAll {U : Used} {cs xs : List AV} {vs us : List Value} {off : Nat} (h : AVRs w G U cs vs) (h' : AVRs w G U xs us) : AVRs w G U (setAll cs off xs) (setVs vs off us) := by
  have hl := h.length
  have hl' := h'.length
  refine AVRs.of_get (by rw [setAll_len, setVs_len]; exact hl) fun k x v hx hv => ?_
  rw [setAll_get] at hx
  rw [setVs_get] at hv
  rw [hl, hl'] at hx
  split at hx
  · rename_i hc
    rw [if_pos hc] at hv
    obtain ⟨u, hu, hr⟩ := h'.get hx
    rw [hv] at hu; injection hu with hu; subst hu; exact hr
  · rename_i hc
    rw [if_neg hc] at hv
    obtain ⟨u, hu, hr⟩ := h.get hx
    rw [hv] at hu; injection hu with hu; subst hu; exact hr
/-- a store into an own variable -/
theorem st_box (hs : St w G s o tmps) {b : Nat} {g : Bool} {cs : List AV} (hb : s.own b = some (.box g cs)) {off : Nat} {xs : List AV} {us : List Value} (hv : AVRs w G (used w G s o) xs us) (hf : Flat us) :
    St (w.setCells (G.a b) off us) G (s.blk b (.box g (setAll cs off xs))) o tmps ∧ To w G s o (w.setCells (G.a b) off us) G (s.blk b (.box g (setAll cs off xs))) o := by
  obtain ⟨hI, vs, ty, hh, hvs, hl, hfl⟩ := hs.own b _ hb
  have hne : ∀ r, G.I r ≠ .key (.own b) → r ≠ G.a b := by rintro r hr rfl; exact hr hI
  refine hs.own1 (w' := w.setCells (G.a b) off us) (I' := G.I) (by rw [hb]; simp) (setCells_ext hI (fun _ _ => rfl) us off) (fun r _ h1 _ => ⟨setCells_else (hne r h1) us off w, rfl⟩) (fun hn => by rw [hb] at hn; exact hn.elim) (fun to => ?_) (fun r hr => by
    rw [(setCells_size _ _ _ _).1]; exact hs.heap r hr)
  refine ⟨hI, setVs vs off us, ty, ?_, (hvs.mono to.keeps to.stays).setAll (hv.mono to.keeps to.stays), fun hg => by rw [setAll_len]; exact hl hg, setVs_flat hfl hf⟩
  have := setCells_at us (G.a b) off w _ ty _ hh
  simpa using this
/-- a store into an outer variable: cells -/
theorem st_out (hs : St w G s o tmps) {id : Nat} {g : Bool} {cs : List AV} (h1 : o.get id = some (.box g cs)) {off : Nat} {xs : List AV} {us : List Value} (hlen : xs.length = us.length)
    (hv : ∀ (k : Nat) (x : AV) (v : Value), xs[k]? = some x → us[k]? = some v → OutC w G (outU o) id (off + k) x v) (hf : Flat us) :
    ∃ c ty, w.heap[G.o id]? = some (.cells c ty (0, 0)) ∧ c.size = cs.length ∧
    St (w.setCells (G.o id) off us) G s.tick (o.put id (.box g (setAll cs off xs))) tmps ∧ To w G s o (w.setCells (G.o id) off us) G s.tick (o.put id (.box g (setAll cs off xs))) := by
  have hid := get_lt h1
  obtain ⟨vs, ty, k2, k3, k4, hfl, k5⟩ := (hs.out id hid).var h1
  refine ⟨vs.toArray, ty, k3, by simp [k4], ?_⟩
  have hne : ∀ r, G.I r ≠ .key (.out id) → r ≠ G.o id := by rintro r hr rfl; exact hr k2
  refine hs.outer (w' := w.setCells (G.o id) off us) (I' := G.I) hid (setCells_ext k2 (fun _ _ => rfl) us off) (fun r _ h2 _ => ⟨setCells_else (hne r h2) us off w, rfl⟩) (fun to => ?_) (fun r hr => by
    rw [(setCells_size _ _ _ _).1]; exact hs.heap r hr)
  have hk : G.Keeps G (outU o) (outU (o.put id (.box g (setAll cs off xs)))) := outU_keeps fun n hn => ⟨by rw [put_len]; exact hn, rfl⟩
  have hst : Stays G.I G.I w (w.setCells (G.o id) off us) := .mk fun r hr => ⟨setCells_else (hne r (by first | exact hr.no | exact hr.key _ | exact fun _ => hr.key _)) us off w, rfl⟩
  refine OutR.mk' (b := .box g (setAll cs off xs)) (by rw [put_get hid, if_pos rfl]) ⟨setVs vs off us, ty, k2, ?_, by rw [setVs_len, setAll_len]; exact k4, setVs_flat hfl hf, fun j x hx => ?_⟩
  · have := setCells_at us (G.o id) off w _ ty _ k3
    simpa using this
  · rw [setAll_get, hlen, ← k4] at hx
    rw [setVs_get]
    split at hx
    · rename_i hc
      rw [if_pos hc]
      have hlt : j - off < us.length := by omega
      refine ⟨us[j - off], List.getElem?_eq_getElem hlt, ?_⟩
      have := hv _ _ _ hx (List.getElem?_eq_getElem hlt)
      have e : off + (j - off) = j := by omega
      rw [e] at this
      exact this.frame hk hst (fun r hr => ⟨setCells_else (hne r (by rw [hr]; simp)) us off w, hr⟩)
    · rename_i hc
      rw [if_neg hc]
      obtain ⟨v, hv1, hv2⟩ := k5 j x hx
      exact ⟨v, hv1, hv2.frame hk hst (fun r hr => ⟨setCells_else (hne r (by rw [hr]; simp)) us off w, hr⟩)⟩
/-- The memory of a name that is gone is handed on. -/
theorem St.rerole (hs : St w G s o tmps) {n : Nat} (hn : s.own n = some .dead) {I' : Nat → Role} (hI : ∀ r, G.I r ≠ .key (.own n) → I' r = G.I r) : St w { G with I := I' } s o tmps ∧ To w G s o w { G with I := I' } s o := by
  have hext : Ext G.I I' w w := (.mk' rfl rfl rfl (Nat.le_refl _) fun r _ h => ⟨rfl, hI r (h _)⟩)
  have to : To w G s o w { G with I := I' } s o := ⟨hext, ⟨fun n hn => ⟨hn, rfl, rfl, rfl⟩, fun n hn => ⟨hn, rfl⟩, fun _ _ => rfl, fun _ _ _ _ h => h⟩, hs.imm⟩
  refine ⟨hs.step to rfl (fun _ => False) (fun _ => False) (fun _ _ => rfl) ?_ ?_ (fun _ _ h => h.elim) (fun _ h => h) (fun _ _ h => ⟨h, rfl⟩) ?_ (fun _ h => h.elim) ?_, to⟩
  · rintro r b _ h1 h2 (h3 | ⟨j, h3⟩)
    · exact ⟨rfl, hI r (by rw [h3]; intro e; have := own_key e; subst this; exact h2 hn)⟩
    · exact ⟨rfl, hI r (by rw [h3]; simp)⟩
  · intro n hn
    exact ⟨hn, rfl, fun a ys hy => ⟨ys, hy⟩, fun ys hy => .inr ⟨ys, hy⟩⟩
  · rintro r id _ _ (h3 | ⟨j, h3⟩ | ⟨j, h3⟩) <;> exact ⟨rfl, hI r (by rw [h3]; simp)⟩
  · intro r hr
    by_cases e : G.I r = .key (.own n)
    · exact hs.heap r (by rw [e]; simp)
    · exact hs.heap r (by rw [← hI r e]; exact hr)
theorem outC_of {id j : Nat} {x : AV} {v : Value} (h : AVR w G (outU o) x v) : OutC w G (outU o) id j x v := by
  cases h <;> first | trivial | (unfold OutC; constructor <;> assumption)
/-- What a store's program shows. -/
def StoreOk (P : Program) (t : TypeId) (f : Prog α → Prog α) (u v : AV) : Prop := ∀ {R : Type} (F : α → S → O → Log → Option R) (r : R) (K : Prog α) (w : World) (G : Gh) (s : S) (o : O) (l : Log) (tmps : Array Value) (x y : Value),
  (f K).run s o l F = some r → St w G s o tmps → AVR w G (used w G s o) u x → AVR w G (used w G s o) v y → ∃ s' o' l' G' w' b, K.run s' o' l' F = some r ∧ x = .pointer (some b) ∧ (storeVar t b y).run P w = .ok () w' ∧ St w' G' s' o' tmps ∧ To w G s o w' G' s' o'
theorem ok_store {ny : Bool} {t : Nat} {x y : Operand} {i : TI} (hp : p.op = .store t x y) (hi : C.ty t = some i) (h : ∀ u v, StoreOk (α := α) P t (evStore i u v) u v) :
    OpOk (α := α) P p fun K => tyP C t fun i => rd ny x fun u => rd ny y fun v => evStore i u v (K (.c (.tp []))) := by
  intro R F r K w G s o l a hr hs
  obtain ⟨i', hi', h1⟩ := tyP_inv hr
  rw [hi] at hi'; injection hi' with e; subst e
  obtain ⟨u, l', hu, h2⟩ := rd_inv h1
  obtain ⟨v, l', hv, h3⟩ := rd_inv h2
  obtain ⟨s', o', l', G', w', b, h4, hx, hl, hst, hto⟩ := h u v F r _ w G s o _ a.tmps _ _ h3 hs (opd_of hs hu) (opd_of hs hv)
  refine ⟨_, s', o', l', h4, OpR.skip ?_ hst hto (.c _ _ (.tp [] [] .nil))⟩
  simp only [execOp, hp, Instr.storeAt, hx, Instr.sureAddr, Sem.run_bind, Sem.run_pure, Result.andThen, hl]
end
end Go.Ev
/- Lists of lists: what is stored. -/
namespace Go.Ev
open Go Go.RowKit
variable [Glob]
section
variable {α R : Type} {F : α → S → O → Log → Option R} {r : R} {w w' : World} {G G' : Gh} {s : S} {o : O} {tmps : Array Value}
theorem setVs_one {l : List Value} {k : Nat} {v : Value} (h : k < l.length) (j : Nat) : (setVs l k [v])[j]? = if j = k then some v else l[j]? := by
  rw [setVs_get]
  simp only [List.length_cons, List.length_nil]
  by_cases e : j = k
  · subst e
    rw [if_pos (by omega), if_pos rfl]
    simp
  · rw [if_neg (by omega), if_neg e]
/-- an element's header is replaced -/
theorem St.elem (hs : St w G s o tmps) {n k m : Nat} {xs xs' : List CV} {out out' : Option (Nat × Nat)} {hv : Value} (hn : s.own n = some (.nst m xs out)) (hf : hv.oneCell' = true) (hk : k < xs.length) (hlen : xs'.length = xs.length) (hout : out = none ∨ ∃ e, out = some (k, e))
    (hl : ∀ j q, out' = some (j, q) → isL (s.own q))
    (hx : ∀ w' G', Stays G.I G'.I w w' → G'.hd = G.hd → ElR w' G' ((s.blk n (.nst m xs' out')).own) n m k ((xs'[k]?).getD (.im [])) out' hv) (hx' : ∀ j x, j ≠ k → xs'[j]? = some x → xs[j]? = some x) (ho : out' = none ∨ ∃ e, out' = some (k, e)) :
    (∃ c ty, w.heap[G.a n]? = some (.cells c ty (0, 0)) ∧ k < c.size) ∧ St (w.setCells (G.a n) k [hv]) G (s.blk n (.nst m xs' out')) o tmps ∧ To w G s o (w.setCells (G.a n) k [hv]) G (s.blk n (.nst m xs' out')) o := by
  obtain ⟨h1, h2, h3, h4⟩ := hs.own n _ hn
  rcases h4 with ⟨_, h5⟩ | ⟨cap, c, ty, h4, h5, h6, h7, h8, h9⟩
  · subst h5; simp at hk
  have hne : ∀ r, G.I r ≠ .key (.own n) → r ≠ G.a n := by rintro r hr rfl; exact hr h6
  refine ⟨⟨c, ty, h7, by omega⟩, ?_⟩
  have hst : Stays G.I G.I w (w.setCells (G.a n) k [hv]) := .mk fun r hr => ⟨setCells_else (hne r (by first | exact hr.no | exact hr.key _ | exact fun _ => hr.key _)) _ _ w, rfl⟩
  refine hs.own1 (w' := w.setCells (G.a n) k [hv]) (I' := G.I) (by rw [hn]; simp) (setCells_ext h6 (fun _ _ => rfl) _ _) (fun r _ h1 _ => ⟨setCells_else (hne r h1) _ _ w, rfl⟩)
    (fun e => by rw [hn] at e; exact e.elim) (fun to => ?_) (fun r hr => by rw [(setCells_size _ _ _ _).1]; exact hs.heap r hr)
  have hcl : c.toList.length = c.size := Array.length_toList
  have hget : ∀ j, (setVs c.toList k [hv]).toArray[j]? = if j = k then some hv else c[j]? := fun j => by
    rw [List.getElem?_toArray, setVs_one (by omega)]
    split
    · rfl
    · exact Array.getElem?_toList
  refine ⟨h1, h2, fun j q e => ?_, .inr ⟨cap, (setVs c.toList k [hv]).toArray, ty, by rw [hlen]; exact h4, by rw [hlen]; exact h5, h6, setCells_at _ _ _ w c ty _ h7, by simp only [List.size_toArray, setVs_len, Array.length_toList]; exact h8, fun j x hxj => ?_⟩⟩
  · have := hl j q e
    rw [blk_own]; split
    · rename_i eq; subst eq; rw [hn] at this; exact this.elim
    · exact this
  · rw [hget]
    by_cases e : j = k
    · subst e
      rw [if_pos rfl]
      refine ⟨hv, rfl, hf, ?_⟩
      have := hx (w.setCells (G.a n) j [hv]) { G with I := G.I } hst rfl
      rw [hxj] at this
      exact this
    · rw [if_neg e]
      obtain ⟨v, hv', hfv, hE⟩ := h9 j x (hx' j x e hxj)
      refine ⟨v, hv', hfv, ?_⟩
      have hE' : ∃ ys r, (x = .im ys ∧ LstR w G.I (.el n j) r m ys v) := by
        rcases hout with rfl | ⟨q, rfl⟩
        · exact hE
        · unfold ElR at hE
          simp only [if_neg (Ne.symm e)] at hE
          exact hE
      obtain ⟨ys, r, rfl, hlr⟩ := hE'
      have hlr' := hlr.frame (w' := w.setCells (G.a n) k [hv]) hst fun hr => ⟨setCells_else (hne r (by rw [hr]; simp)) _ _ w, hr⟩
      rcases ho with rfl | ⟨q, rfl⟩
      · exact ⟨ys, r, rfl, hlr'⟩
      · unfold ElR
        simp only [if_neg (Ne.symm e)]
        exact ⟨ys, r, rfl, hlr'⟩
/-- an own list becomes an element -/
theorem St.elemSl (hs : St w G s o tmps) {n e k m : Nat} {xs ys : List CV} {out : Option (Nat × Nat)} (hn : s.own n = some (.nst m xs out)) (he : s.own e = some (.lst m ys)) (hk : k < xs.length) (hout : out = none ∨ ∃ e, out = some (k, e)) :
    (∃ c ty, w.heap[G.a n]? = some (.cells c ty (0, 0)) ∧ k < c.size) ∧ St (w.setCells (G.a n) k [G.hd e]) G (s.blk n (.nst m xs (some (k, e)))) o tmps ∧ To w G s o (w.setCells (G.a n) k [G.hd e]) G (s.blk n (.nst m xs (some (k, e)))) o := by
  have hne : e ≠ n := by rintro rfl; rw [hn] at he; cases he
  refine hs.elem hn (G.hf e) hk rfl hout (fun j q h => ?_) (fun w' G' _ hh => ?_) (fun j x _ h => h) (.inr ⟨e, rfl⟩)
  · injection h with h; injection h with _ h; subst h; rw [he]; trivial
  · unfold ElR
    simp only [if_true]
    refine ⟨fun a zs h => ?_, fun zs h => ?_⟩
    · rw [blk_own, if_neg hne, he] at h
      injection h with h; injection h with h _
      exact ⟨h.symm, by rw [hh]⟩
    · rw [blk_own, if_neg hne, he] at h; cases h
/-- an element becomes nil -/
theorem St.elemNil (hs : St w G s o tmps) {n k m : Nat} {xs : List CV} (hn : s.own n = some (.nst m xs none)) (hk : k < xs.length) :
    (∃ c ty, w.heap[G.a n]? = some (.cells c ty (0, 0)) ∧ k < c.size) ∧ St (w.setCells (G.a n) k [.slice none 0 0]) G (s.blk n (.nst m (xs.set k (.im [])) none)) o tmps ∧ To w G s o (w.setCells (G.a n) k [.slice none 0 0]) G (s.blk n (.nst m (xs.set k (.im [])) none)) o := by
  refine hs.elem hn rfl hk (by simp) (.inl rfl) (fun j q h => by cases h) (fun w' G' _ hh => ?_) (fun j x hj h => by rwa [List.getElem?_set_ne (Ne.symm hj)] at h) (.inl rfl)
  rw [List.getElem?_set_self hk]
  exact ⟨[], 0, rfl, by simp, .inl ⟨rfl, rfl⟩⟩
end
end Go.Ev
/- Outer lists: an own list becomes one, one becomes an own list; elements are replaced. -/
namespace Go.Ev
open Go Go.RowKit
variable [Glob]
theorem get_cons (b : Blk) (o : O) (id : Nat) : O.get (b :: o) id = if id = o.length then some b else O.get o id := by
  unfold O.get
  by_cases e : id = o.length
  · subst e
    rw [if_pos rfl]
    have : Nat.blt o.length (b :: o).length = true := by simp [Nat.blt_eq]
    rw [this]
    simp
  · rw [if_neg e]
    by_cases h : id < o.length
    · have h1 : Nat.blt id (b :: o).length = true := by simp [Nat.blt_eq]; omega
      have h2 : Nat.blt id o.length = true := by simpa [Nat.blt_eq] using h
      rw [h1, h2]
      simp only [cond_true, List.length_cons]
      rw [show o.length + 1 - 1 - id = (o.length - 1 - id) + 1 by omega, List.getElem?_cons_succ]
    · have h1 : Nat.blt id (b :: o).length = false := by
        cases hb : Nat.blt id (b :: o).length with
        | false => rfl
        | true => rw [Nat.blt_eq] at hb; simp at hb; omega
      have h2 : Nat.blt id o.length = false := by
        cases hb : Nat.blt id o.length with
        | false => rfl
        | true => rw [Nat.blt_eq] at hb; omega
      rw [h1, h2]; rfl
theorem pushEls_len (m : Nat) : ∀ (xs : List CV) (o : O), (pushEls m xs o).length = o.length + xs.length
  | [], o => rfl
  | x :: xs, o => by
    show (pushEls m xs (.lst m (lstEl x) :: o)).length = _
    rw [pushEls_len m xs, List.length_cons, List.length_cons]; omega
theorem pushEls_get (m : Nat) : ∀ (xs : List CV) (o : O) (id : Nat), O.get (pushEls m xs o) id = if id < o.length then o.get id else (xs[id - o.length]?).map fun x => .lst m (lstEl x)
  | [], o, id => by
    show o.get id = _
    split
    · rfl
    · rename_i h
      unfold O.get
      have : Nat.blt id o.length = false := by
        cases hb : Nat.blt id o.length with
        | false => rfl
        | true => rw [Nat.blt_eq] at hb; omega
      rw [this]; rfl
  | x :: xs, o, id => by
    show O.get (pushEls m xs (.lst m (lstEl x) :: o)) id = _
    rw [pushEls_get m xs, get_cons, List.length_cons]
    by_cases h1 : id < o.length
    · rw [if_pos (by omega), if_neg (by omega), if_pos h1]
    · by_cases h2 : id = o.length
      · subst h2
        rw [if_pos (by omega), if_pos rfl, if_neg (by omega), Nat.sub_self]; rfl
      · rw [if_neg (by omega), if_neg h1, show id - o.length = (id - (o.length + 1)) + 1 by omega, List.getElem?_cons_succ]
theorem olsFrom_len : ∀ (xs : List CV) (n : Nat), (olsFrom n xs).length = xs.length
  | [], _ => rfl
  | _ :: xs, n => by
    show (olsFrom (n + 1) xs).length + 1 = _
    rw [olsFrom_len xs, List.length_cons]
theorem olsFrom_get : ∀ (xs : List CV) (n k : Nat) (u : AV), (olsFrom n xs)[k]? = some u → u = .ol (n + k) ∧ k < xs.length
  | [], n, k, u, h => by simp [olsFrom] at h
  | _ :: xs, n, 0, u, h => by
    simp [olsFrom] at h
    exact ⟨h.symm, by simp⟩
  | _ :: xs, n, k + 1, u, h => by
    obtain ⟨h1, h2⟩ := olsFrom_get xs (n + 1) k u (by simpa [olsFrom] using h)
    exact ⟨by rw [h1]; congr 1; omega, by simp; omega⟩
section
variable {α R : Type} {F : α → S → O → Log → Option R} {r : R} {w w' : World} {P : Program} {C : Cfg} {Q : Orc} {p : Oper} {a : Act} {G G' G'' : Gh} {s s' s'' : S} {o o' o'' : O} {I : Nat → Role} {tmps : Array Value}
/-- Steps of the ghost by which outer variables may become more. -/
structure Es (w : World) (G : Gh) (s : S) (o : O) (tmps : Array Value) (G' : Gh) (s' : S) (o' : O) : Prop where
  st : St w G' s' o' tmps
  to : To w G s o w G' s' o'
  len : o.length ≤ o'.length
theorem Es.refl (h : St w G s o tmps) : Es w G s o tmps G s o := ⟨h, .refl h, Nat.le_refl _⟩
theorem Es.trans (h : Es w G s o tmps G' s' o') (k : Es w G' s' o' tmps G'' s'' o'') : Es w G s o tmps G'' s'' o'' := ⟨k.st, h.to.trans k.to, Nat.le_trans h.len k.len⟩
theorem Gs.es (h : Gs w G s o tmps G' s' o') : Es w G s o tmps G' s' o' := ⟨h.st, h.to, Nat.le_of_eq h.len.symm⟩
theorem Es.keepsO (h : Es w G s o tmps G' s' o') : G.Keeps G' (outU o) (outU o') := outU_keeps (fun id hid => ⟨Nat.lt_of_lt_of_le hid h.len, (h.to.keeps.o id hid).2⟩) fun id hid => h.to.keeps.oh id hid
theorem Es.out (h : Es w G s o tmps G' s' o') {x : AV} {v : Value} (hv : AVR w G (outU o) x v) : AVR w G' (outU o') x v := hv.mono h.keepsO h.to.stays
theorem Es.outs (h : Es w G s o tmps G' s' o') {x : List AV} {v : List Value} (hv : AVRs w G (outU o) x v) : AVRs w G' (outU o') x v := hv.mono h.keepsO h.to.stays
theorem Es.val (h : Es w G s o tmps G' s' o') {x : AV} {v : Value} (hv : AVR w G (used w G s o) x v) : AVR w G' (used w G' s' o') x v := h.to.val hv
theorem Es.vals (h : Es w G s o tmps G' s' o') {x : List AV} {v : List Value} (hv : AVRs w G (used w G s o) x v) : AVRs w G' (used w G' s' o') x v := hv.mono h.to.keeps h.to.stays
/-- an own list becomes an outer one -/
theorem St.moveL (hs : St w G s o tmps) {e m : Nat} {xs : List CV} (he : s.own e = some (.lst m xs)) {kb : Blk} (hkb : kb = .dead ∨ kb = .movedL o.length) :
    ∃ G', Es w G s o tmps G' (s.blk e kb).tick (.lst m xs :: o) ∧ G'.oh o.length = (G.hd e, m) ∧ G'.a = G.a := by
  obtain ⟨hm, hpos, hl⟩ := hs.own e _ he
  obtain ⟨I', hI1, hI2⟩ : ∃ I' : Nat → Role, (G.I (G.a e) = .key (.own e) → I' (G.a e) = .key (.out o.length)) ∧ ∀ r, G.I r ≠ .key (.own e) → I' r = G.I r := ⟨toRole G.I (G.a e) (.own e) (.key (.out o.length)), toRole_is, fun r => toRole_else⟩
  let G' : Gh := ⟨G.a, G.hd, G.m, fun id => if id = o.length then G.a e else G.o id, fun id => if id = o.length then (G.hd e, m) else G.oh id, fun n => by
    show (if n = o.length then (G.hd e, m) else G.oh n).1.oneCell' = true
    split
    · exact G.hf e
    · exact G.ohf n, I', G.hf⟩
  have hst : Stays G.I I' w w := .mk fun r hr => ⟨rfl, (hI2 r (by first | exact hr.no | exact hr.key _ | exact fun _ => hr.key _))⟩
  have hno : ∀ id, id < o.length → G'.o id = G.o id := fun id hid => if_neg (by omega)
  have hnh : ∀ id, id < o.length → G'.oh id = G.oh id := fun id hid => if_neg (by omega)
  have to : To w G s o w G' (s.blk e kb).tick (.lst m xs :: o) := ⟨(.mk' rfl rfl rfl (Nat.le_refl _) fun r _ hn => ⟨rfl, hI2 r (hn _)⟩),
    ⟨fun n hn => ⟨by
      show (s.blk e kb).own n ≠ none
      rw [blk_own]; split
      · simp
      · exact hn, rfl, rfl, rfl⟩, fun n hn => ⟨by show n < o.length + 1; have : n < o.length := hn; omega, hno n hn⟩, hnh, fun id j e v hlo =>
      ⟨by show e ≤ s.gen + 1; have := hlo.1; omega, fun he => by have := hlo.1; have he : e = s.gen + 1 := he; omega⟩⟩, hs.imm⟩
  refine ⟨G', ⟨hs.step to rfl (fun n => n = e) (fun n => n = o.length) (fun n hn => ?_) ?_ ?_ ?_ (fun n hn => by show n < o.length + 1; omega) ?_ ?_ ?_ ?_, to, by show o.length ≤ o.length + 1; omega⟩, if_pos rfl, rfl⟩
  · show (s.blk e kb).own n = _
    rw [blk_own, if_neg hn]
  · rintro r n hn _ _ (h3 | ⟨j, h3⟩)
    · exact ⟨rfl, hI2 r (by rw [h3]; intro e; exact hn (own_key e))⟩
    · exact ⟨rfl, hI2 r (by rw [h3]; simp)⟩
  · intro n hn
    by_cases h : n = e
    · subst h
      have e2 : (s.blk n kb).tick.own n = some kb := by show (s.blk n kb).own n = _; rw [blk_own, if_pos rfl]
      rw [e2]
      rcases hkb with rfl | rfl <;> exact ⟨trivial, rfl, fun a ys hy => (by cases hy), fun ys hy => (by cases hy)⟩
    · have e2 : (s.blk e kb).tick.own n = s.own n := by
        show (s.blk e kb).own n = _
        rw [blk_own, if_neg h]
      rw [e2]
      exact ⟨hn, rfl, fun a ys hy => ⟨ys, hy⟩, fun ys hy => .inr ⟨ys, hy⟩⟩
  · rintro n k rfl hk
    have hk : (s.blk n kb).own n = some k := hk
    rw [blk_own, if_pos rfl] at hk
    injection hk with hk; subst hk
    rcases hkb with rfl | rfl
    · trivial
    · refine ⟨by show o.length < o.length + 1; omega, ?_⟩
      show G.hd n = (if o.length = o.length then (G.hd n, m) else G.oh o.length).1
      rw [if_pos rfl]
  · intro id hid hlt
    have hlt : id < o.length + 1 := hlt
    exact ⟨by omega, by rw [get_cons, if_neg hid]⟩
  · rintro r id hid _ (h3 | ⟨j, h3⟩ | ⟨j, h3⟩) <;> exact ⟨rfl, hI2 r (by rw [h3]; simp)⟩
  · rintro id rfl _
    refine OutR.mk' (b := .lst m xs) (by rw [get_cons, if_pos rfl]) ⟨?_, hpos, ?_⟩
    · show (if o.length = o.length then (G.hd e, m) else G.oh o.length).2 = _
      rw [if_pos rfl]
    · show LstR w I' (.out o.length) (if o.length = o.length then G.a e else G.o o.length) m xs (if o.length = o.length then (G.hd e, m) else G.oh o.length).1
      rw [if_pos rfl, if_pos rfl]
      refine ⟨hl.1, hl.2.imp (fun e => e) ?_⟩
      rintro ⟨cap, us, c, ty, q1, q2, q3, q4, q5, q6, q7⟩
      exact ⟨cap, us, c, ty, q1, q2, q3.mono hst, hI1 q4, q5, q6, q7⟩
  · intro r hr
    by_cases h : G.I r = .key (.own e)
    · exact hs.heap _ (by rw [h]; simp)
    · exact hs.heap r (by rw [← hI2 r h]; exact hr)
/-- the roles, when an own list of lists becomes an outer one, its elements outer lists -/
def nstRole (I : Nat → Role) (e n k : Nat) : Nat → Role := fun r => match I r with
  | .key (.el b j) => if b = e then .key (.out (n + j)) else I r
  | .key (.own b) => if b = e then .key (.out (n + k)) else I r
  | _ => I r
theorem nstRole_el {I : Nat → Role} {e n k r j : Nat} (h : I r = .key (.el e j)) : nstRole I e n k r = .key (.out (n + j)) := by simp [nstRole, h]
theorem nstRole_own {I : Nat → Role} {e n k r : Nat} (h : I r = .key (.own e)) : nstRole I e n k r = .key (.out (n + k)) := by simp [nstRole, h]
theorem nstRole_else {I : Nat → Role} {e n k r : Nat} (h1 : I r ≠ .key (.own e)) (h2 : ∀ j, I r ≠ .key (.el e j)) : nstRole I e n k r = I r := by
  unfold nstRole
  split
  · rename_i b j hr
    rw [if_neg]
    rintro rfl; exact h2 j hr
  · rename_i b hr
    rw [if_neg]
    rintro rfl; exact h1 hr
  · rfl
/-- an own list of lists becomes an outer one, its elements outer lists -/
theorem St.moveN (hs : St w G s o tmps) {e m : Nat} {xs : List CV} (he : s.own e = some (.nst m xs none)) :
    ∃ G', Es w G s o tmps G' (s.blk e .dead).tick (.rls (olsFrom o.length xs) :: pushEls m xs o) ∧ G'.oh (o.length + xs.length) = (G.hd e, 1) ∧ G'.a = G.a := by
  obtain ⟨hm1, hpos, _, hor⟩ := hs.own e _ he
  obtain ⟨f, hf1, hf2, hor⟩ : ∃ f : Nat → Nat × Value, (∀ k, (f k).2.oneCell' = true) ∧ (∀ k x, xs[k]? = some x → LstR w G.I (.el e k) (f k).1 m (lstEl x) (f k).2) ∧ ((G.hd e = .slice none 0 0 ∧ xs = []) ∨
       ∃ (cap : Nat) (c : Array Value) (ty : TypeId), G.hd e = .slice (some ⟨G.a e, 0, none⟩) xs.length cap ∧ xs.length ≤ cap ∧ G.I (G.a e) = .key (.own e) ∧ w.heap[G.a e]? = some (.cells c ty (0, 0)) ∧ cap ≤ c.size ∧
         ∀ k, k < xs.length → c[k]? = some (f k).2) := by
    rcases hor with ⟨h1, h2⟩ | ⟨cap, c, ty, h1, h2, h3, h4, h5, h6⟩
    · subst h2
      exact ⟨fun _ => (0, .slice none 0 0), fun _ => rfl, fun k x hx => by simp at hx, .inl ⟨h1, rfl⟩⟩
    · have : ∀ k, ∃ p : Nat × Value, p.2.oneCell' = true ∧ (∀ x, xs[k]? = some x → LstR w G.I (.el e k) p.1 m (lstEl x) p.2) ∧ (k < xs.length → c[k]? = some p.2) := by
        intro k
        cases hx : xs[k]? with
        | none => exact ⟨(0, .slice none 0 0), rfl, fun x hx => by simp at hx, fun hk => by rw [List.getElem?_eq_getElem hk] at hx; cases hx⟩
        | some x =>
          obtain ⟨v, hv, hfl, ys, r, rfl, hl⟩ := h6 k x hx
          exact ⟨(r, v), hfl, fun x hx => by injection hx with hx; subst hx; exact hl, fun _ => hv⟩
      obtain ⟨f, hf⟩ := Classical.skolem.mp this
      exact ⟨f, fun k => (hf k).1, fun k x hx => (hf k).2.1 x hx, .inr ⟨cap, c, ty, h1, h2, h3, h4, h5, fun k hk => (hf k).2.2 hk⟩⟩
  have hlen : (Blk.rls (olsFrom o.length xs) :: pushEls m xs o).length = o.length + xs.length + 1 := by rw [List.length_cons, pushEls_len]
  have hget : ∀ q, O.get (.rls (olsFrom o.length xs) :: pushEls m xs o) q = if q = o.length + xs.length then some (.rls (olsFrom o.length xs)) else if q < o.length then o.get q else (xs[q - o.length]?).map fun x => .lst m (lstEl x) := fun q => by
    rw [get_cons, pushEls_len, pushEls_get]
  let G' : Gh := ⟨G.a, G.hd, G.m, fun q => if q < o.length then G.o q else if q < o.length + xs.length then (f (q - o.length)).1 else G.a e,
    fun q => if q < o.length then G.oh q else if q < o.length + xs.length then ((f (q - o.length)).2, m) else (G.hd e, 1), fun n => by
    show (if n < o.length then G.oh n else if n < o.length + xs.length then ((f (n - o.length)).2, m) else (G.hd e, 1)).1.oneCell' = true
    split
    · exact G.ohf n
    · split
      · exact hf1 _
      · exact G.hf e, nstRole G.I e o.length xs.length, G.hf⟩
  have hI : ∀ r, G.I r ≠ .key (.own e) → (∀ j, G.I r ≠ .key (.el e j)) → G'.I r = G.I r := fun r h1 h2 => nstRole_else h1 h2
  have hst : Stays G.I G'.I w w := .mk fun r hr => ⟨rfl, hI r (hr.key _) fun _ => hr.key _⟩
  have hno : ∀ id, id < o.length → G'.o id = G.o id := fun id hid => if_pos hid
  have hnh : ∀ id, id < o.length → G'.oh id = G.oh id := fun id hid => if_pos hid
  have to : To w G s o w G' (s.blk e .dead).tick (.rls (olsFrom o.length xs) :: pushEls m xs o) := ⟨(.mk' rfl rfl rfl (Nat.le_refl _) fun r _ hn => ⟨rfl, hI r (hn _) fun _ => hn _⟩),
    ⟨fun n hn => ⟨by
      show (s.blk e .dead).own n ≠ none
      rw [blk_own]; split
      · simp
      · exact hn, rfl, rfl, rfl⟩, fun n hn => ⟨by show n < (Blk.rls _ :: pushEls m xs o).length; rw [hlen]; have : n < o.length := hn; omega, hno n hn⟩, hnh, fun id j e v hlo =>
      ⟨by show e ≤ s.gen + 1; have := hlo.1; omega, fun he => by have := hlo.1; have he : e = s.gen + 1 := he; omega⟩⟩, hs.imm⟩
  refine ⟨G', ⟨hs.step to rfl (fun n => n = e) (fun n => o.length ≤ n) (fun n hn => ?_) ?_ ?_ ?_ (fun n hn => by rw [hlen]; omega) ?_ ?_ ?_ ?_, to, by rw [hlen]; omega⟩, ?_, rfl⟩
  · show (s.blk e .dead).own n = _
    rw [blk_own, if_neg hn]
  · rintro r n hn _ _ (h3 | ⟨j, h3⟩)
    · exact ⟨rfl, hI r (by rw [h3]; intro e; exact hn (own_key e)) (by rw [h3]; simp)⟩
    · exact ⟨rfl, hI r (by rw [h3]; simp) (by rw [h3]; intro j' e; injection e with e; injection e with e; exact hn e)⟩
  · intro n hn
    by_cases h : n = e
    · subst h
      have e2 : (s.blk n .dead).tick.own n = some .dead := by show (s.blk n .dead).own n = _; rw [blk_own, if_pos rfl]
      rw [e2]
      exact ⟨trivial, rfl, fun a ys hy => (by cases hy), fun ys hy => (by cases hy)⟩
    · have e2 : (s.blk e .dead).tick.own n = s.own n := by
        show (s.blk e .dead).own n = _
        rw [blk_own, if_neg h]
      rw [e2]
      exact ⟨hn, rfl, fun a ys hy => ⟨ys, hy⟩, fun ys hy => .inr ⟨ys, hy⟩⟩
  · rintro n k rfl hk
    have hk : (s.blk n .dead).own n = some k := hk
    rw [blk_own, if_pos rfl] at hk
    injection hk with hk; subst hk
    trivial
  · intro id hid hlt
    rw [hlen] at hlt
    have hid : id < o.length := by omega
    exact ⟨hid, by rw [hget, if_neg (by omega), if_pos hid]⟩
  · rintro r id hid _ (h3 | ⟨j, h3⟩ | ⟨j, h3⟩) <;> exact ⟨rfl, hI r (by rw [h3]; simp) (by rw [h3]; simp)⟩
  · intro id hid hlt
    rw [hlen] at hlt
    have hid : ¬ id < o.length := by omega
    by_cases e1 : id = o.length + xs.length
    · subst e1
      refine OutR.mk' (b := .rls (olsFrom o.length xs)) (by rw [hget, if_pos rfl]) ?_
      have k1 : G'.o (o.length + xs.length) = G.a e := by
        show (if o.length + xs.length < o.length then _ else if o.length + xs.length < o.length + xs.length then _ else _) = _
        rw [if_neg (by omega), if_neg (by omega)]
      have k2 : G'.oh (o.length + xs.length) = (G.hd e, 1) := by
        show (if o.length + xs.length < o.length then _ else if o.length + xs.length < o.length + xs.length then _ else _) = _
        rw [if_neg (by omega), if_neg (by omega)]
      unfold OutB
      rw [k1, k2]
      refine ⟨rfl, hor.imp (fun ⟨q1, q2⟩ => ⟨q1, by subst q2; rfl⟩) ?_⟩
      rintro ⟨cap, c, ty, q1, q2, q3, q4, q5, q6⟩
      refine ⟨cap, (List.range xs.length).map fun k => (f k).2, c, ty, by rw [olsFrom_len]; exact q1, by rw [olsFrom_len]; exact q2, ?_, nstRole_own q3, q4, q5, fun k v hk => ?_⟩
      · refine AVRs.of_get (by simp [olsFrom_len]) fun k u v hu hv => ?_
        obtain ⟨rfl, hk⟩ := olsFrom_get _ _ _ _ hu
        rw [List.getElem?_map, List.getElem?_range hk] at hv
        injection hv with hv; subst hv
        have := AVR.ol (w := w) (G := G') (U := outU (.rls (olsFrom o.length xs) :: pushEls m xs o)) (o.length + k) (by show _ < (Blk.rls _ :: pushEls m xs o).length; rw [hlen]; omega)
        have k3 : G'.oh (o.length + k) = ((f k).2, m) := by
          show (if o.length + k < o.length then _ else if o.length + k < o.length + xs.length then _ else _) = _
          rw [if_neg (by omega), if_pos (by omega), Nat.add_sub_cancel_left]
        rw [k3] at this
        exact this
      · rw [List.getElem?_map] at hk
        cases hr : (List.range xs.length)[k]? with
        | none => rw [hr] at hk; cases hk
        | some j =>
          have hlt := (List.getElem?_eq_some_iff.mp hr).1
          rw [List.length_range] at hlt
          rw [List.getElem?_range hlt] at hr
          injection hr with hr; subst hr
          rw [List.getElem?_range hlt] at hk
          injection hk with hk; subst hk
          exact ⟨q6 k hlt, hf1 k⟩
    · have hk : id - o.length < xs.length := by omega
      refine OutR.mk' (b := .lst m (lstEl xs[id - o.length])) (by rw [hget, if_neg e1, if_neg hid, List.getElem?_eq_getElem hk]; rfl) ?_
      have k1 : G'.o id = (f (id - o.length)).1 := by
        show (if id < o.length then _ else if id < o.length + xs.length then _ else _) = _
        rw [if_neg (by omega), if_pos (by omega)]
      have k2 : G'.oh id = ((f (id - o.length)).2, m) := by
        show (if id < o.length then _ else if id < o.length + xs.length then _ else _) = _
        rw [if_neg (by omega), if_pos (by omega)]
      unfold OutB
      rw [k1, k2]
      have hl := hf2 _ _ (List.getElem?_eq_getElem hk)
      refine ⟨rfl, hpos, hl.1, hl.2.imp (fun e => e) ?_⟩
      rintro ⟨cap, us, c, ty, q1, q2, q3, q4, q5, q6, q7⟩
      refine ⟨cap, us, c, ty, q1, q2, q3.mono hst, ?_, q5, q6, q7⟩
      have := nstRole_el (n := o.length) (k := xs.length) q4
      rw [show o.length + (id - o.length) = id by omega] at this
      exact this
  · intro r hr
    by_cases h : G.I r = .no
    · exact absurd (show G'.I r = .no by show nstRole _ _ _ _ r = _; rw [nstRole_else (by rw [h]; simp) (by rw [h]; simp)]; exact h) hr
    · exact hs.heap r h
  · show (if o.length + xs.length < o.length then _ else if o.length + xs.length < o.length + xs.length then _ else _) = _
    rw [if_neg (by omega), if_neg (by omega)]
/-- an outer list becomes an own one -/
theorem take_ol (hs : St w G s o tmps) {id d m : Nat} {xs : List CV} (h1 : o.get id = some (.lst m xs)) (hd : s.own d = none) :
    ∃ G', St w G' (s.blk d (.lst m xs)) (o.put id .dead) tmps ∧ To w G s o w G' (s.blk d (.lst m xs)) (o.put id .dead) ∧ G'.hd d = (G.oh id).1 := by
  have hid := get_lt h1
  obtain ⟨hm, hpos, hl⟩ := (hs.out id hid).is h1
  obtain ⟨I', hI', hI⟩ : ∃ I', (G.I (G.o id) = .key (.out id) → I' (G.o id) = .key (.own d)) ∧ ∀ r, G.I r ≠ .key (.out id) → I' r = G.I r := ⟨toRole G.I (G.o id) (.out id) (.key (.own d)), toRole_is, fun r => toRole_else⟩
  have hst : Stays G.I I' w w := .mk fun r hr => ⟨rfl, (hI r (by first | exact hr.no | exact hr.key _ | exact fun _ => hr.key _))⟩
  obtain ⟨s1, t1⟩ := hs.outerB (I' := I') (k := .dead) hid (by rw [h1]; intro a cs e; cases e) (w' := w) (.mk' rfl rfl rfl (Nat.le_refl _) fun _ _ hn => ⟨rfl, hI _ (hn _)⟩) (fun r _ h2 _ => ⟨rfl, hI r h2⟩)
    (fun _ => OutR.mk' (b := .dead) (by rw [put_get hid, if_pos rfl]) trivial) (fun r hr => by
      by_cases e : G.I r = .key (.out id)
      · exact hs.heap r (by rw [e]; simp)
      · exact hs.heap r (by rw [← hI r e]; exact hr))
  let G' : Gh := ⟨fun n => if n = d then G.o id else G.a n, fun n => if n = d then (G.oh id).1 else G.hd n, fun n => if n = d then m else G.m n, G.o, G.oh, G.ohf, I', fun n => by
    show (if n = d then (G.oh id).1 else G.hd n).oneCell' = true
    split
    · exact G.ohf id
    · exact G.hf n⟩
  obtain ⟨s2, t2⟩ := s1.new (G' := G') (d := d) (k := .lst m xs) (w' := w) hd (.refl _ _) (fun _ _ _ => ⟨rfl, rfl⟩) (fun n hn => ⟨if_neg hn, if_neg hn, if_neg hn⟩) rfl
    (fun _ => ⟨if_pos rfl, hpos, by
      show LstR w I' (.own d) (if d = d then G.o id else G.a d) m xs (if d = d then (G.oh id).1 else G.hd d)
      rw [if_pos rfl, if_pos rfl]
      refine ⟨hl.1, hl.2.imp (fun e => e) ?_⟩
      rintro ⟨cap, us, c, ty, q1, q2, q3, q4, q5, q6, q7⟩
      exact ⟨cap, us, c, ty, q1, q2, q3.mono hst, hI' q4, q5, q6, q7⟩⟩) s1.heap
  exact ⟨G', s2, t1.trans t2, if_pos rfl⟩
theorem takeO_ok {id d : Nat} {K : AV → Prog α} {l : Log} {x : Value} (h : (takeO id d K).run s o l F = some r) (hs : St w G s o tmps) (hx : AVR w G (used w G s o) (.ol id) x) :
    ∃ s' o' l' G', (K (.sl d)).run s' o' l' F = some r ∧ St w G' s' o' tmps ∧ To w G s o w G' s' o' ∧ AVR w G' (used w G' s' o') (.sl d) x ∧ o'.length = o.length ∧ s'.env = s.env := by
  simp only [takeO, Prog.run] at h
  split at h
  · rename_i q1 q2 m xs hk hd
    simp only [Prog.run, hk] at h
    obtain ⟨G', s1, t1, hh⟩ := take_ol hs hk hd
    refine ⟨_, _, _, G', h, s1, t1, ?_, put_len _ _ _, rfl⟩
    cases hx with
    | ol _ hid =>
      rw [← hh]
      exact .sl _ (by show (s.blk d (.lst m xs)).own d ≠ none; rw [blk_own, if_pos rfl]; simp)
  · cases h
/-- what of the own blocks is let alone -/
structure Rest (s s' : S) : Prop where
  box : ∀ b g cs, s.own b = some (.box g cs) → s'.own b = some (.box g cs)
theorem giveO_ok {e : Nat} {K : AV → Prog α} {l : Log} (h : (giveO e K).run s o l F = some r) (hs : St w G s o tmps) :
    ∃ u s' o' l' G', (K u).run s' o' l' F = some r ∧ Es w G s o tmps G' s' o' ∧ AVR w G' (outU o') u (G.hd e) ∧ (∀ b g cs, s.own b = some (.box g cs) → s'.own b = some (.box g cs)) ∧ G'.a = G.a := by
  simp only [giveO, Prog.run] at h
  split at h
  · rename_i q m xs hk
    simp only [Prog.run] at h
    obtain ⟨G', g, hh, ha⟩ := hs.moveL hk (.inl rfl)
    refine ⟨_, _, _, _, G', h, g, ?_, fun b g cs hb => ?_, ha⟩
    · have : (G'.oh o.length).1 = G.hd e := by rw [hh]
      rw [← this]
      exact .ol _ (by show o.length < o.length + 1; omega)
    · show (s.blk e .dead).own b = _
      rw [blk_own, if_neg (by rintro rfl; rw [hk] at hb; cases hb)]
      exact hb
  · rename_i q xs hk
    exact ⟨_, _, _, _, G, h, .refl hs, .c _ _ (hs.own e _ hk).1, fun _ _ _ hb => hb, rfl⟩
  · rename_i q m xs hk
    simp only [Prog.run] at h
    obtain ⟨G', g, hh, ha⟩ := hs.moveN hk
    refine ⟨_, _, _, _, G', h, g, ?_, fun b g cs hb => ?_, ha⟩
    · have : (G'.oh (o.length + xs.length)).1 = G.hd e := by rw [hh]
      rw [← this]
      exact .ol _ (by show o.length + xs.length < (Blk.rls _ :: pushEls m xs o).length; rw [List.length_cons, pushEls_len]; omega)
    · show (s.blk e .dead).own b = _
      rw [blk_own, if_neg (by rintro rfl; rw [hk] at hb; cases hb)]
      exact hb
  · cases h
theorem giveM_ok {e : Nat} {K : AV → Prog α} {l : Log} (h : (giveM e K).run s o l F = some r) (hs : St w G s o tmps) :
    ∃ u s' o' l' G', (K u).run s' o' l' F = some r ∧ Es w G s o tmps G' s' o' ∧ AVR w G' (outU o') u (G.hd e) := by
  simp only [giveM, Prog.run] at h
  split at h
  · rename_i q m xs hk
    simp only [Prog.run] at h
    obtain ⟨G', g, hh, ha⟩ := hs.moveL hk (.inr rfl)
    refine ⟨_, _, _, _, G', h, g, ?_⟩
    have : (G'.oh o.length).1 = G.hd e := by rw [hh]
    rw [← this]
    exact .ol _ (by show o.length < o.length + 1; omega)
  · obtain ⟨u, s', o', l', G', h1, h2, h3, _⟩ := giveO_ok h hs
    exact ⟨u, s', o', l', G', h1, h2, h3⟩
end
end Go.Ev
/- Stores into lists; stores, whole. -/
namespace Go.Ev
open Go Go.RowKit
variable [Glob]
theorem setVs_mid (A B D us : List Value) (o : Nat) (h : o + us.length ≤ B.length) : setVs (A ++ B ++ D) (A.length + o) us = A ++ setVs B o us ++ D := by
  apply List.ext_getElem?
  intro k
  rw [setVs_get]
  simp only [List.length_append]
  by_cases h1 : k < A.length
  · rw [if_neg (by omega), List.append_assoc, List.append_assoc, List.getElem?_append_left h1, List.getElem?_append_left h1]
  · by_cases h2 : k < A.length + B.length
    · have e1 : (A ++ setVs B o us ++ D)[k]? = (setVs B o us)[k - A.length]? := by
        rw [List.getElem?_append_left (by rw [List.length_append, setVs_len]; omega), List.getElem?_append_right (by omega)]
      have e2 : (A ++ B ++ D)[k]? = B[k - A.length]? := by
        rw [List.getElem?_append_left (by rw [List.length_append]; omega), List.getElem?_append_right (by omega)]
      rw [e1, e2, setVs_get]
      by_cases h3 : o ≤ k - A.length ∧ k - A.length < o + us.length ∧ k - A.length < B.length
      · rw [if_pos h3, if_pos (by omega)]
        congr 1; omega
      · rw [if_neg h3, if_neg (by omega)]
    · rw [if_neg (by omega), List.getElem?_append_right (by rw [List.length_append]; omega), List.getElem?_append_right (by rw [List.length_append, setVs_len]; omega)]
      simp only [List.length_append, setVs_len]
theorem kindOf_inv {k : Option Blk} {m : Nat} (h : kindOf k = some m) : ∃ xs, k = some (.lst m xs) := by
  unfold kindOf at h
  split at h
  · injection h with h; subst h; exact ⟨_, rfl⟩
  · cases h
theorem split_at {xs : List CV} {k : Nat} {x : CV} (h : xs[k]? = some x) (y : CV) : xs.flatMap CV.cells = (xs.take k).flatMap CV.cells ++ x.cells ++ (xs.drop (k + 1)).flatMap CV.cells ∧
    (xs.set k y).flatMap CV.cells = (xs.take k).flatMap CV.cells ++ y.cells ++ (xs.drop (k + 1)).flatMap CV.cells := by
  induction xs generalizing k with
  | nil => simp at h
  | cons z xs ih => cases k with
    | zero => simp at h; subst h; simp
    | succ k =>
      obtain ⟨h1, h2⟩ := ih (by simpa using h)
      simp only [List.set_cons_succ, List.take_succ_cons, List.drop_succ_cons, List.flatMap_cons]
      rw [h1, h2]
      simp only [List.append_assoc, and_self]
section
variable {α R : Type} {F : α → S → O → Log → Option R} {r : R} {w : World} {P : Program} {C : Cfg} {Q : Orc} {p : Oper} {a : Act} {G : Gh} {s : S} {o : O} {I : Nat → Role} {tmps : Array Value}
/-- cells of an element are replaced -/
theorem st_lst (hs : St w G s o tmps) {n m k off : Nat} {xs : List CV} {x y : CV} (hn : s.own n = some (.lst m xs)) (hx : xs[k]? = some x) {us : List Value} (hf : Flat us) (hlen : off + us.length ≤ m) (hy : y.cells.length = m)
    (hv : ∀ vs, VRs w G.I x.cells vs → VRs w G.I y.cells (setVs vs off us)) :
    G.m n = m ∧ (∃ c ty, w.heap[G.a n]? = some (.cells c ty (0, 0)) ∧ (k + 1) * m ≤ c.size) ∧
    St (w.setCells (G.a n) (k * m + off) us) G (s.blk n (.lst m (xs.set k y))) o tmps ∧ To w G s o (w.setCells (G.a n) (k * m + off) us) G (s.blk n (.lst m (xs.set k y))) o := by
  obtain ⟨h1, h2, hm, h3⟩ := hs.own n _ hn
  have hkl := (List.getElem?_eq_some_iff.mp hx).1
  rcases h3 with ⟨_, e⟩ | ⟨cap, vs, c, ty, e1, e2, e3, e4, e5, e6, e7⟩
  · subst e; simp at hx
  · have hne : ∀ r, G.I r ≠ .key (.own n) → r ≠ G.a n := by rintro r hr rfl; exact hr e4
    have hsz : (k + 1) * m ≤ c.size := Nat.le_trans (Nat.mul_le_mul_right m (show k + 1 ≤ cap by omega)) e6
    refine ⟨h1, ⟨c, ty, e5, hsz⟩, ?_⟩
    have hst : Stays G.I G.I w (w.setCells (G.a n) (k * m + off) us) := .mk fun r hr => ⟨setCells_else (hne r (by first | exact hr.no | exact hr.key _ | exact fun _ => hr.key _)) us _ w, rfl⟩
    refine hs.own1 (w' := w.setCells (G.a n) (k * m + off) us) (I' := G.I) (by rw [hn]; simp) (setCells_ext e4 (fun _ _ => rfl) us _) (fun r _ h1 _ => ⟨setCells_else (hne r h1) us _ w, rfl⟩)
      (fun _ => ⟨trivial, fun a ys e => ⟨xs, by rw [hn]; injection e with e _; rw [e]⟩, fun ys e => by cases e⟩) (fun to => ?_) (fun r hr => by
      rw [(setCells_size _ _ _ _).1]; exact hs.heap r hr)
    obtain ⟨s1, s2⟩ := split_at hx y
    have hA : ((xs.take k).flatMap CV.cells).length = k * m := by
      rw [flat_len (fun z hz => hm z (List.mem_of_mem_take hz)), List.length_take]; congr 1; omega
    have hvl := e3.length
    rw [s1] at e3
    obtain ⟨AB, D, rfl, hAB, hD⟩ := e3.split
    obtain ⟨A, B, rfl, hA', hB⟩ := hAB.split
    have hlA : A.length = k * m := by rw [← hA'.length]; exact hA
    have hlB : B.length = m := by rw [← hB.length]; exact hm x (List.mem_of_getElem? hx)
    refine ⟨h1, h2, fun z hz => ?_, .inr ⟨cap, setVs (A ++ B ++ D) (k * m + off) us, (setVs c.toList (k * m + off) us).toArray, ty, ?_, by simpa using e2, ?_, e4, setCells_at us _ _ w c ty _ e5, ?_, fun q v hq => ?_⟩⟩
    · rcases List.mem_or_eq_of_mem_set hz with hz | rfl
      · exact hm z hz
      · exact hy
    · rw [List.length_set]; exact e1
    · have e := setVs_mid A B D us off (by omega)
      rw [hlA] at e
      rw [s2, e]
      exact ((hA'.append (hv B hB)).append hD).mono hst
    · simp only [List.size_toArray, setVs_len, Array.length_toList]; exact e6
    · rw [setVs_get] at hq
      have hcl : c.toList.length = c.size := Array.length_toList
      have hle : (A ++ B ++ D).length ≤ c.size := by
        rw [← hvl, flat_len hm]
        exact Nat.le_trans (Nat.mul_le_mul_right m e2) e6
      rw [List.getElem?_toArray, setVs_get]
      split at hq
      · rename_i hc
        rw [if_pos (by omega)]
        exact ⟨hq, hf _ v hq⟩
      · rename_i hc
        obtain ⟨q1, q2⟩ := e7 q v hq
        have hql := (List.getElem?_eq_some_iff.mp hq).1
        rw [if_neg (by omega)]
        exact ⟨by simpa using q1, q2⟩
theorem stOut_ok {t : Nat} {i : TI} (ht : TyIs P t i) {v : AV} {id k : Nat} {K : Prog α} {l : Log} {y : Value} (h : (stOut i v id k K).run s o l F = some r) (hs : St w G s o tmps) (hv : AVR w G (used w G s o) v y) (hid : id < o.length) :
    ∃ s' o' l' G' w', K.run s' o' l' F = some r ∧ (storeVar t ⟨G.o id, k, none⟩ y).run P w = .ok () w' ∧ St w' G' s' o' tmps ∧ To w G s o w' G' s' o' := by
  unfold stOut at h
  split at h
  · rename_i n
    cases hv with
    | sl _ hn =>
    split at h
    · cases h
    · obtain ⟨hz, h1⟩ := pchk_inv h
      have hz := Nat.eq_of_beq_eq_true hz
      obtain ⟨u, s1, o1, l1, G1, h1, g, hu, _, _⟩ := giveO_ok h1 hs
      simp only [Prog.run] at h1
      have hcf := cells_flat (G.hf n)
      split at h1
      · rename_i q1 q2 cs hget
        obtain ⟨hle, h2⟩ := pchk_inv h1
        have hle : k < cs.length := Nat.blt_eq.mp hle
        simp only [Prog.run] at h2
        obtain ⟨c, ty, hh, hsz, s3, t3⟩ := st_out g.st hget (off := k) (xs := [u]) (us := [G.hd n]) rfl (fun j x v hx hv => by
          cases j with
          | succ j => simp at hx
          | zero => simp at hx hv; subst hx; subst hv; exact outC_of hu) (Flat.nil.cons (G.hf n))
        have ho : G1.o id = G.o id := (g.to.keeps.o id hid).2
        refine ⟨_, _, _, _, _, h2, ?_, s3, g.to.trans t3⟩
        rw [← ho]
        have hrun := run_storeVar (P := P) (w := w) ht (v := G.hd n) (by rw [hcf]; simp [hz]) (off := k) hh (by omega) (by rw [hcf]; exact Flat.nil.cons (G.hf n))
        rw [hcf] at hrun
        exact hrun
      · cases h1
  · obtain ⟨u, s1, o1, l1, G1, h1, g, hu⟩ := keepO_ok (w := w) (tmps := tmps) v _ s o _ G y h hs hv
    simp only [Prog.run] at h1
    split at h1
    · rename_i q g' cs hget
      obtain ⟨xs, us, h2, e1, e2, e3, e4, _⟩ := cellsOf_ok h1 hu
      obtain ⟨hle, h3⟩ := pchk_inv h2
      have hle := Nat.le_of_ble_eq_true hle
      simp only [Prog.run] at h3
      have hxl := e2.length
      obtain ⟨c, ty, hh, hsz, s3, t3⟩ := st_out g.st hget (off := k) hxl (fun j x v hx hv => by
        obtain ⟨v', hv', hr⟩ := e2.get hx
        rw [hv] at hv'; injection hv' with hv'; subst hv'
        exact outC_of hr) e3
      have ho : G1.o id = G.o id := (g.to.keeps.o id hid).2
      refine ⟨_, _, _, _, _, h3, ?_, s3, g.to.trans t3⟩
      rw [← ho]
      have hrun := run_storeVar (P := P) (w := w) ht (v := y) (by rw [e1]; simp [e4]) (off := k) hh (by omega) (by rw [e1]; exact e3)
      rw [e1] at hrun
      simpa [e1] using hrun
    · cases h1
/-- cells of an element of an outer list are replaced -/
theorem st_olst (hs : St w G s o tmps) {id m k off : Nat} {xs : List CV} {x y : CV} (hn : o.get id = some (.lst m xs)) (hx : xs[k]? = some x) {us : List Value} (hf : Flat us) (hlen : off + us.length ≤ m) (hy : y.cells.length = m)
    (hv : ∀ vs, VRs w G.I x.cells vs → VRs w G.I y.cells (setVs vs off us)) :
    (G.oh id).2 = m ∧ (∃ c ty, w.heap[G.o id]? = some (.cells c ty (0, 0)) ∧ (k + 1) * m ≤ c.size) ∧
    St (w.setCells (G.o id) (k * m + off) us) G s.tick (o.put id (.lst m (xs.set k y))) tmps ∧ To w G s o (w.setCells (G.o id) (k * m + off) us) G s.tick (o.put id (.lst m (xs.set k y))) := by
  have hid := get_lt hn
  obtain ⟨h1, h2, hm, h3⟩ := (hs.out id hid).is hn
  have hkl := (List.getElem?_eq_some_iff.mp hx).1
  rcases h3 with ⟨_, e⟩ | ⟨cap, vs, c, ty, e1, e2, e3, e4, e5, e6, e7⟩
  · subst e; simp at hx
  · have hne : ∀ r, G.I r ≠ .key (.out id) → r ≠ G.o id := by rintro r hr rfl; exact hr e4
    have hsz : (k + 1) * m ≤ c.size := Nat.le_trans (Nat.mul_le_mul_right m (show k + 1 ≤ cap by omega)) e6
    refine ⟨h1, ⟨c, ty, e5, hsz⟩, ?_⟩
    have hst : Stays G.I G.I w (w.setCells (G.o id) (k * m + off) us) := .mk fun r hr => ⟨setCells_else (hne r (by first | exact hr.no | exact hr.key _ | exact fun _ => hr.key _)) us _ w, rfl⟩
    refine hs.outer (w' := w.setCells (G.o id) (k * m + off) us) (I' := G.I) hid (setCells_ext e4 (fun _ _ => rfl) us _) (fun r _ h2 _ => ⟨setCells_else (hne r h2) us _ w, rfl⟩) (fun to => ?_) (fun r hr => by
      rw [(setCells_size _ _ _ _).1]; exact hs.heap r hr)
    obtain ⟨s1, s2⟩ := split_at hx y
    have hA : ((xs.take k).flatMap CV.cells).length = k * m := by
      rw [flat_len (fun z hz => hm z (List.mem_of_mem_take hz)), List.length_take]; congr 1; omega
    have hvl := e3.length
    rw [s1] at e3
    obtain ⟨AB, D, rfl, hAB, hD⟩ := e3.split
    obtain ⟨A, B, rfl, hA', hB⟩ := hAB.split
    have hlA : A.length = k * m := by rw [← hA'.length]; exact hA
    have hlB : B.length = m := by rw [← hB.length]; exact hm x (List.mem_of_getElem? hx)
    refine OutR.mk' (b := .lst m (xs.set k y)) (by rw [put_get hid, if_pos rfl]) ⟨h1, h2, fun z hz => ?_, .inr ⟨cap, setVs (A ++ B ++ D) (k * m + off) us, (setVs c.toList (k * m + off) us).toArray, ty, ?_, by simpa using e2, ?_, e4, setCells_at us _ _ w c ty _ e5, ?_, fun q v hq => ?_⟩⟩
    · rcases List.mem_or_eq_of_mem_set hz with hz | rfl
      · exact hm z hz
      · exact hy
    · rw [List.length_set]; exact e1
    · have e := setVs_mid A B D us off (by omega)
      rw [hlA] at e
      rw [s2, e]
      exact ((hA'.append (hv B hB)).append hD).mono hst
    · simp only [List.size_toArray, setVs_len, Array.length_toList]; exact e6
    · rw [setVs_get] at hq
      have hcl : c.toList.length = c.size := Array.length_toList
      have hle : (A ++ B ++ D).length ≤ c.size := by
        rw [← hvl, flat_len hm]
        exact Nat.le_trans (Nat.mul_le_mul_right m e2) e6
      rw [List.getElem?_toArray, setVs_get]
      split at hq
      · rename_i hc
        rw [if_pos (by omega)]
        exact ⟨hq, hf _ v hq⟩
      · rename_i hc
        obtain ⟨q1, q2⟩ := e7 q v hq
        have hql := (List.getElem?_eq_some_iff.mp hq).1
        rw [if_neg (by omega)]
        exact ⟨by simpa using q1, q2⟩
theorem VRs.setOne {xs : List CV} {vs : List Value} {k : Nat} {y : CV} {v : Value} (h : VRs w I xs vs) (hy : VR w I y v) : VRs w I (xs.set k y) (vs.set k v) := by
  induction xs generalizing vs k with
  | nil => cases h; exact .nil
  | cons x xs ih => cases h with
    | cons _ u _ us h1 h2 => cases k with
      | zero => exact .cons _ _ _ _ hy h2
      | succ k => exact .cons _ _ _ _ h1 (ih h2)
theorem setC_len : ∀ (ys cs : List CV) (o : Nat), (setC cs o ys).length = cs.length
  | [], _, _ => rfl
  | v :: r, cs, o => by rw [setC, setC_len r]; simp
theorem VRs.setMany : ∀ {ys : List CV} {us : List Value} {cs : List CV} {vs : List Value} (k : Nat), VRs w I cs vs → VRs w I ys us → VRs w I (setC cs k ys) (setVs vs k us)
  | [], us, cs, vs, k, h, hy => by cases hy; exact h
  | y :: ys, us, cs, vs, k, h, hy => by
    cases hy with
    | cons _ u _ us h1 h2 => exact VRs.setMany (k + 1) (h.setOne h1) h2
theorem VR.cells {x : CV} {v : Value} (h : VR w I x v) (hx : ∀ cs, x ≠ .tp cs) : ∃ us, v.cells = List.toArray us ∧ VRs w I x.cells us ∧ Flat us := by
  cases h with
  | ag cs vs hv hf => exact ⟨vs, rfl, hv, hf⟩
  | tp cs vs hv => exact absurd rfl (hx _)
  | _ => exact ⟨[_], rfl, .cons _ _ _ _ (by constructor <;> assumption) .nil, Flat.nil.cons rfl⟩
theorem isN_tp {x : CV} {m : Nat} (h : x.isN m = true) : ∀ cs, x ≠ .tp cs := by rintro cs rfl; cases h
theorem stOl_ok {t : Nat} {i : TI} (ht : TyIs P t i) {v : AV} {id k off : Nat} {K : Prog α} {l : Log} {y : Value} (h : (stOl i v id k off K).run s o l F = some r) (hs : St w G s o tmps) (hv : AVR w G (used w G s o) v y) (hid : id < o.length) :
    ∃ s' o' l' G' w', K.run s' o' l' F = some r ∧ (storeVar t ⟨G.o id, k * (G.oh id).2 + off, none⟩ y).run P w = .ok () w' ∧ St w' G' s' o' tmps ∧ To w G s o w' G' s' o' := by
  unfold stOl frz at h
  obtain ⟨u, s1, o1, l1, G1, h1, g, hu⟩ := freeze_ok (w := w) (tmps := tmps) 8 v _ s o _ G y h hs hv
  obtain ⟨z, rfl, h2⟩ := cv_inv h1
  have hz := hu.c_inv
  simp only [Prog.run] at h2
  have ho : G1.o id = G.o id := (g.to.keeps.o id hid).2
  have hoh : G1.oh id = G.oh id := g.to.keeps.oh id hid
  split at h2
  · rename_i q' m xs hk
    obtain ⟨j, x, e, hx, h3⟩ := lNth_inv h2
    have e : k = j := by omega
    subst e
    split at h3
    · rename_i hagg
      split at h3
      · obtain ⟨hc, h4⟩ := pchk_inv h3
        rw [Bool.and_eq_true] at hc
        have hsz := Nat.eq_of_beq_eq_true hc.1
        have hzc := isN_cells hc.2
        obtain ⟨us, c1, c2, c3⟩ := hz.cells (isN_tp hc.2)
        have hul := c2.length
        simp only [Prog.run] at h4
        obtain ⟨d1, ⟨c, ty, d2, d3⟩, d4, d5⟩ := st_olst g.st hk hx (off := 0) (y := z) c3 (by omega) hzc (fun vs hvs => by
          have hvl := hvs.length
          obtain ⟨e1, e2, hmm⟩ := (g.st.out id (get_lt hk)).is hk
          have hxc := hmm.1 x (List.mem_of_getElem? hx)
          have : setVs vs 0 us = us := by
            apply List.ext_getElem?; intro q; rw [setVs_get]
            by_cases hq : q < us.length
            · rw [if_pos (by omega)]; rfl
            · rw [if_neg (by omega), List.getElem?_eq_none (by omega), List.getElem?_eq_none (by omega)]
          rw [this]; exact c2)
        refine ⟨_, _, _, _, _, h4, ?_, d4, g.to.trans d5⟩
        have hsm : k * m + i.size ≤ c.size := by rw [Nat.succ_mul] at d3; omega
        have hrun := run_storeVar (P := P) (w := w) ht (v := y) (by rw [c1]; simp; omega) (off := k * m + 0) d2 (by omega) (by rw [c1]; exact c3)
        rw [← ho, ← hoh, d1]
        simpa [c1] using hrun
      · cases h3
    · rename_i hagg
      obtain ⟨x0, hx0, h3⟩ := lLd_inv h3
      obtain ⟨hc, h4⟩ := pchk_inv h3
      rw [Bool.and_eq_true] at hc
      have hsz := Nat.eq_of_beq_eq_true hc.2
      have hz1 := flat_one hc.1 hz
      simp only [Prog.run] at h4
      have hoff := (List.getElem?_eq_some_iff.mp hx0).1
      obtain ⟨e1, e2, hmm⟩ := (g.st.out id (get_lt hk)).is hk
      have hxc := hmm.1 x (List.mem_of_getElem? hx)
      have hcells : (x.setCell off z).cells = x.cells.set off z := by
        unfold CV.setCell
        split
        · rfl
        · rename_i hna
          have hx1 : x.cells = [x] := by cases x <;> first | rfl | exact absurd rfl (hna _)
          have hz1 : z.cells = [z] := by
            have := hc.1
            cases z <;> first | rfl | cases this
          rw [hx1] at hoff ⊢
          have : off = 0 := by simp at hoff; omega
          subst this; rw [hz1]; rfl
      obtain ⟨d1, ⟨c, ty, d2, d3⟩, d4, d5⟩ := st_olst g.st hk hx (off := off) (y := x.setCell off z) (us := [y]) (Flat.nil.cons hz1) (by simp; omega) (by rw [hcells]; simp; omega) (fun vs hvs => by
          rw [hcells]; exact hvs.setOne hz)
      refine ⟨_, _, _, _, _, h4, ?_, d4, g.to.trans d5⟩
      have hcy := cells_flat hz1
      have hrun := run_storeVar (P := P) (w := w) ht (v := y) (by rw [hcy]; simp [hsz]) (off := k * m + off) d2 (by rw [Nat.succ_mul] at d3; omega) (by rw [hcy]; exact Flat.nil.cons hz1)
      rw [← ho, ← hoh, d1]
      simpa [hcy] using hrun
  · cases h2
/-- an element of an outer list of references is replaced -/
theorem st_rls (hs : St w G s o tmps) {id k : Nat} {xs : List AV} {u : AV} {x : Value} (hn : o.get id = some (.rls xs)) (hk : k < xs.length) (hu : AVR w G (outU o) u x) (hx : x.oneCell' = true) :
    (G.oh id).2 = 1 ∧ (∃ c ty, w.heap[G.o id]? = some (.cells c ty (0, 0)) ∧ k + 1 ≤ c.size) ∧
    St (w.setCells (G.o id) k [x]) G s (o.put id (.rls (xs.set k u))) tmps ∧ To w G s o (w.setCells (G.o id) k [x]) G s (o.put id (.rls (xs.set k u))) := by
  have hid := get_lt hn
  obtain ⟨h1, h3⟩ := (hs.out id hid).is hn
  rcases h3 with ⟨_, e⟩ | ⟨cap, vs, c, ty, e1, e2, e3, e4, e5, e6, e7⟩
  · subst e; simp at hk
  · have hne : ∀ r, G.I r ≠ .key (.out id) → r ≠ G.o id := by rintro r hr rfl; exact hr e4
    refine ⟨h1, ⟨c, ty, e5, by omega⟩, ?_⟩
    have hst : Stays G.I G.I w (w.setCells (G.o id) k [x]) := .mk fun r hr => ⟨setCells_else (hne r (hr.key _)) _ _ w, rfl⟩
    have hkp : G.Keeps G (outU o) (outU (o.put id (.rls (xs.set k u)))) := outU_keeps fun n hn => ⟨by rw [put_len]; exact hn, rfl⟩
    refine hs.outerB (w' := w.setCells (G.o id) k [x]) (I' := G.I) hid (by rw [hn]; intro a cs e; cases e) (setCells_ext e4 (fun _ _ => rfl) _ _) (fun r _ h2 _ => ⟨setCells_else (hne r h2) _ _ w, rfl⟩) (fun to => ?_) (fun r hr => by
      rw [(setCells_size _ _ _ _).1]; exact hs.heap r hr)
    refine OutR.mk' (b := .rls (xs.set k u)) (by rw [put_get hid, if_pos rfl]) ⟨h1, .inr ⟨cap, setVs vs k [x], (setVs c.toList k [x]).toArray, ty, by rw [List.length_set]; exact e1, by simpa using e2, ?_, e4, setCells_at [x] _ _ w c ty _ e5, ?_, fun q v hq => ?_⟩⟩
    · exact AVRs.setAll (xs := [u]) (e3.mono hkp hst) (.cons _ _ _ _ (hu.mono hkp hst) .nil)
    · simp only [List.size_toArray, setVs_len, Array.length_toList]; exact e6
    · rw [setVs_get] at hq
      have hcl : c.toList.length = c.size := Array.length_toList
      have hvl := e3.length
      simp only [List.length_singleton] at hq
      rw [List.getElem?_toArray, setVs_get]
      simp only [List.length_singleton]
      split at hq
      · rename_i hc
        rw [if_pos (by omega)]
        refine ⟨hq, ?_⟩
        rw [show q - k = 0 by omega] at hq
        simp at hq; subst hq; exact hx
      · rename_i hc
        obtain ⟨q1, q2⟩ := e7 q v hq
        have hql := (List.getElem?_eq_some_iff.mp hq).1
        rw [if_neg (by omega)]
        exact ⟨by simpa using q1, q2⟩
theorem stRl_ok {t : Nat} {i : TI} (ht : TyIs P t i) {v : AV} {id k off : Nat} {K : Prog α} {l : Log} {y : Value} (h : (stRl i v id k off K).run s o l F = some r) (hs : St w G s o tmps) (hv : AVR w G (used w G s o) v y) (hid : id < o.length) :
    ∃ s' o' l' G' w', K.run s' o' l' F = some r ∧ (storeVar t ⟨G.o id, k * (G.oh id).2 + off, none⟩ y).run P w = .ok () w' ∧ St w' G' s' o' tmps ∧ To w G s o w' G' s' o' := by
  unfold stRl at h
  split at h
  · rename_i n hagg
    obtain ⟨hz, h1⟩ := pchk_inv h
    have hz := Nat.eq_of_beq_eq_true hz
    cases hv with
    | sl _ hn =>
    obtain ⟨u, s1, o1, l1, G1, h2, g, hu⟩ := giveM_ok h1 hs
    simp only [Prog.run] at h2
    split at h2
    · rename_i q xs hget
      obtain ⟨hle, h3⟩ := pchk_inv h2
      have hle : k < xs.length := Nat.blt_eq.mp hle
      simp only [Prog.run, hget] at h3
      obtain ⟨c1, ⟨c, ty, c2, c3⟩, s3, t3⟩ := st_rls g.st hget hle hu (G.hf n)
      have ho : G1.o id = G.o id := (g.to.keeps.o id hid).2
      have hoh : G1.oh id = G.oh id := g.to.keeps.oh id hid
      have hcf := cells_flat (G.hf n)
      refine ⟨_, _, _, _, _, h3, ?_, s3, g.to.trans t3⟩
      rw [← ho, ← hoh, c1, Nat.mul_one, Nat.add_zero]
      have hrun := run_storeVar (P := P) (w := w) ht (v := G.hd n) (by rw [hcf]; simp [hz]) (off := k) c2 (by omega) (by rw [hcf]; exact Flat.nil.cons (G.hf n))
      rw [hcf] at hrun
      exact hrun
    · cases h2
  · cases h
theorem AVR.sl_inv' {U : Used} {n : Nat} {v : Value} (h : AVR w G U (.sl n) v) : U.own n ∧ v = G.hd n := by cases h; exact ⟨by assumption, rfl⟩
theorem store_ok {t : Nat} {i : TI} (ht : TyIs P t i) : ∀ u v, StoreOk (α := α) P t (evStore i u v) u v := by
  intro u v R F r K w G s o l tmps x y h hs hx hy
  unfold evStore at h
  split at h
  · rename_i b k
    cases hx with
    | pt _ _ hb =>
      simp only [Prog.run] at h
      split at h
      · rename_i q g cs hk
        obtain ⟨_, h1⟩ := pchk_inv h
        obtain ⟨xs, us, h2, e1, e2, e3, e4, _⟩ := cellsOf_ok h1 hy
        obtain ⟨hle, h3⟩ := pchk_inv h2
        have hle := Nat.le_of_ble_eq_true hle
        simp only [Prog.run] at h3
        obtain ⟨s1, t1⟩ := st_box hs hk (off := k) e2 e3
        obtain ⟨hI, vs, ty, hh, hvs, hl, hfl⟩ := hs.own b _ hk
        have hxl := e2.length
        have hvl := hvs.length
        refine ⟨_, _, _, _, _, _, h3, rfl, ?_, s1, t1⟩
        have hrun := run_storeVar (P := P) (w := w) ht (v := y) (by rw [e1]; simp [e4]) (off := k) hh (by simp; omega) (by rw [e1]; exact e3)
        simpa [e1] using hrun
      · rename_i q id hk
        obtain ⟨k1, k2⟩ := hs.own b _ hk
        obtain ⟨s', o', l', G', w', h1, h2, h3, h4⟩ := stOut_ok ht h hs hy k1
        exact ⟨s', o', l', G', w', _, h1, rfl, by rw [k2]; exact h2, h3, h4⟩
      · cases h
  · rename_i id k
    cases hx with
    | po _ _ hb =>
      obtain ⟨s', o', l', G', w', h1, h2, h3, h4⟩ := stOut_ok ht h hs hy hb
      exact ⟨s', o', l', G', w', _, h1, rfl, h2, h3, h4⟩
  · rename_i n k off
    cases hx with
    | le _ _ _ hb =>
      simp only [Prog.run] at h
      split at h
      · rename_i q m0 xs0 hk0
        obtain ⟨u, s1, o1, l1, G1, h1, g, hu⟩ := freeze_ok (w := w) (tmps := tmps) 8 v _ s o _ G y h hs hy
        obtain ⟨z, rfl, h2⟩ := cv_inv h1
        have hz := hu.c_inv
        simp only [Prog.run] at h2
        have ha := (g.to.keeps.a n hb).2
        split at h2
        · rename_i q' m xs hk
          obtain ⟨j, x, e, hx, h3⟩ := lNth_inv h2
          have e : k = j := by omega
          subst e
          split at h3
          · rename_i hagg
            split at h3
            · obtain ⟨hc, h4⟩ := pchk_inv h3
              rw [Bool.and_eq_true] at hc
              have hsz := Nat.eq_of_beq_eq_true hc.1
              have hzc := isN_cells hc.2
              obtain ⟨us, c1, c2, c3⟩ := hz.cells (isN_tp hc.2)
              have hul := c2.length
              simp only [Prog.run, hk, kindOf] at h4
              obtain ⟨d1, ⟨c, ty, d2, d3⟩, d4, d5⟩ := st_lst g.st hk hx (off := 0) (y := z) c3 (by omega) hzc (fun vs hvs => by
                have hvl := hvs.length
                obtain ⟨e1, e2, hmm⟩ := g.st.own n _ hk
                have hxc := hmm.1 x (List.mem_of_getElem? hx)
                have : setVs vs 0 us = us := by
                  apply List.ext_getElem?; intro q; rw [setVs_get]
                  by_cases hq : q < us.length
                  · rw [if_pos (by omega)]; rfl
                  · rw [if_neg (by omega), List.getElem?_eq_none (by omega), List.getElem?_eq_none (by omega)]
                rw [this]; exact c2)
              refine ⟨_, _, _, _, _, _, h4, rfl, ?_, d4, g.to.trans d5⟩
              have hsm : k * m + i.size ≤ c.size := by rw [Nat.succ_mul] at d3; omega
              have hrun := run_storeVar (P := P) (w := w) ht (v := y) (by rw [c1]; simp; omega) (off := k * m + 0) d2 (by omega) (by rw [c1]; exact c3)
              rw [← ha.1, ← ha.2.2, d1]
              simpa [c1] using hrun
            · rename_i off
              obtain ⟨cs, rfl, h3⟩ := lAg_inv h3
              obtain ⟨hc, h4⟩ := pchk_inv h3
              rw [Bool.and_eq_true] at hc
              have hle := Nat.ble_eq.mp hc.1
              have hzc := isN_cells hc.2
              obtain ⟨us, c1, c2, c3⟩ := hz.cells (isN_tp hc.2)
              have hul := c2.length
              obtain ⟨e1, e2, hmm⟩ := g.st.own n _ hk
              have hxc : cs.length = m := hmm.1 (.ag cs) (List.mem_of_getElem? hx)
              simp only [Prog.run, hk, kindOf] at h4
              obtain ⟨d1, ⟨c, ty, d2, d3⟩, d4, d5⟩ := st_lst g.st hk hx (off := off + 1) (y := .ag (setC cs (off + 1) z.cells)) c3 (by omega) (by show (setC cs (off + 1) z.cells).length = m; rw [setC_len]; exact hxc) (fun vs hvs => VRs.setMany (off + 1) hvs c2)
              refine ⟨_, _, _, _, _, _, h4, rfl, ?_, d4, g.to.trans d5⟩
              have hrun := run_storeVar (P := P) (w := w) ht (v := y) (by rw [c1]; simp; omega) (off := k * m + (off + 1)) d2 (by rw [Nat.succ_mul] at d3; omega) (by rw [c1]; exact c3)
              rw [← ha.1, ← ha.2.2, d1]
              simpa [c1] using hrun
          · rename_i hagg
            obtain ⟨x0, hx0, h3⟩ := lLd_inv h3
            obtain ⟨hc, h4⟩ := pchk_inv h3
            rw [Bool.and_eq_true] at hc
            have hsz := Nat.eq_of_beq_eq_true hc.2
            have hz1 := flat_one hc.1 hz
            simp only [Prog.run, hk, kindOf] at h4
            have hoff := (List.getElem?_eq_some_iff.mp hx0).1
            obtain ⟨e1, e2, hmm⟩ := g.st.own n _ hk
            have hxc := hmm.1 x (List.mem_of_getElem? hx)
            have hcells : (x.setCell off z).cells = x.cells.set off z := by
              unfold CV.setCell
              split
              · rfl
              · rename_i hna
                have hx1 : x.cells = [x] := by cases x <;> first | rfl | exact absurd rfl (hna _)
                have hz1 : z.cells = [z] := by
                  have := hc.1
                  cases z <;> first | rfl | cases this
                rw [hx1] at hoff ⊢
                have : off = 0 := by simp at hoff; omega
                subst this; rw [hz1]; rfl
            obtain ⟨d1, ⟨c, ty, d2, d3⟩, d4, d5⟩ := st_lst g.st hk hx (off := off) (y := x.setCell off z) (us := [y]) (Flat.nil.cons hz1) (by simp; omega) (by rw [hcells]; simp; omega) (fun vs hvs => by
                rw [hcells]; exact hvs.setOne hz)
            refine ⟨_, _, _, _, _, _, h4, rfl, ?_, d4, g.to.trans d5⟩
            have hcy := cells_flat hz1
            have hrun := run_storeVar (P := P) (w := w) ht (v := y) (by rw [hcy]; simp [hsz]) (off := k * m + off) d2 (by rw [Nat.succ_mul] at d3; omega) (by rw [hcy]; exact Flat.nil.cons hz1)
            rw [← ha.1, ← ha.2.2, d1]
            simpa [hcy] using hrun
        · cases h2
      · rename_i q m xs out hk
        have hm1 : G.m n = 1 := (hs.own n _ hk).1
        have hadr : (⟨G.a n, k * G.m n + 0, none⟩ : Addr) = ⟨G.a n, k, none⟩ := by rw [hm1, Nat.mul_one, Nat.add_zero]
        split at h
        · rename_i e hagg
          obtain ⟨_, rfl⟩ := hy.sl_inv'
          simp only [Prog.run] at h
          split at h
          · rename_i q' m' hke
            obtain ⟨ws, he⟩ := kindOf_inv hke
            obtain ⟨hc, h1⟩ := pchk_inv h
            rw [Bool.and_eq_true, Bool.and_eq_true] at hc
            have hmm := Nat.eq_of_beq_eq_true hc.1.1
            subst hmm
            have hlt : k < xs.length := Nat.blt_eq.mp hc.1.2
            have hsz := Nat.eq_of_beq_eq_true hc.2
            have hcf := cells_flat (G.hf e)
            have hrun : ∀ (G1 : Gh), G1.a n = G.a n → (∃ c ty, w.heap[G1.a n]? = some (.cells c ty (0, 0)) ∧ k < c.size) → (storeVar t ⟨G.a n, k * G.m n + 0, none⟩ (G.hd e)).run P w = .ok () (w.setCells (G.a n) k [G.hd e]) := by
              rintro G1 ha ⟨c, ty, hh, hkc⟩
              rw [ha] at hh
              have := run_storeVar (P := P) (w := w) ht (v := G.hd e) (by rw [hcf]; simp [hsz]) (off := k) hh (by omega) (by rw [hcf]; exact Flat.nil.cons (G.hf e))
              rw [hcf] at this
              rw [hadr]; exact this
            unfold stNst at h1
            split at h1
            · rename_i j e'
              split at h1
              · cases h1
              · rename_i hbe
                have hee : e ≠ e' := by rintro rfl; simp at hbe
                simp only [Prog.run] at h1
                split at h1
                · rename_i m2 ys hn'
                  simp only [Prog.run] at h1
                  obtain ⟨I', s1, t1⟩ := hs.back hk hn'
                  have hen : e ≠ n := by rintro rfl; rw [he] at hk; cases hk
                  obtain ⟨c1, s2, t2⟩ := s1.elemSl (n := n) (e := e) (k := k) (by rw [blk_own, if_pos rfl]) (by rw [blk_own, if_neg hen, blk_own, if_neg hee]; exact he) (by simpa using hlt) (.inl rfl)
                  rw [blk_blk] at s2 t2
                  exact ⟨_, _, _, _, _, _, h1, rfl, hrun _ rfl c1, s2, t1.trans t2⟩
                · cases h1
                · obtain ⟨hj, h2⟩ := pchk_inv h1
                  have hj := Nat.eq_of_beq_eq_true hj
                  subst hj
                  obtain ⟨c1, s2, t2⟩ := hs.elemSl hk he hlt (.inr ⟨_, rfl⟩)
                  exact ⟨_, _, _, _, _, _, h2, rfl, hrun _ rfl c1, s2, t2⟩
            · obtain ⟨c1, s2, t2⟩ := hs.elemSl hk he hlt (.inl rfl)
              exact ⟨_, _, _, _, _, _, h1, rfl, hrun _ rfl c1, s2, t2⟩
          · cases h
        · rename_i hagg
          obtain ⟨hc, h1⟩ := pchk_inv h
          rw [Bool.and_eq_true] at hc
          have hlt : k < xs.length := Nat.blt_eq.mp hc.1
          have hsz := Nat.eq_of_beq_eq_true hc.2
          cases hy
          have hrun : ∀ (G1 : Gh), G1.a n = G.a n → (∃ c ty, w.heap[G1.a n]? = some (.cells c ty (0, 0)) ∧ k < c.size) → (storeVar t ⟨G.a n, k * G.m n + 0, none⟩ (.slice none 0 0)).run P w = .ok () (w.setCells (G.a n) k [.slice none 0 0]) := by
            rintro G1 ha ⟨c, ty, hh, hkc⟩
            rw [ha] at hh
            have := run_storeVar (P := P) (w := w) ht (v := .slice none 0 0) (by simp [Value.cells, hsz]) (off := k) hh (by omega) (Flat.nil.cons rfl)
            rw [hadr]; exact this
          unfold nstBack at h1
          split at h1
          · simp only [Prog.run] at h1
            obtain ⟨c1, s2, t2⟩ := hs.elemNil hk hlt
            exact ⟨_, _, _, _, _, _, h1, rfl, hrun _ rfl c1, s2, t2⟩
          · rename_i j n'
            simp only [Prog.run] at h1
            split at h1
            · rename_i m2 ys hn'
              simp only [Prog.run] at h1
              obtain ⟨I', s1, t1⟩ := hs.back hk hn'
              obtain ⟨c1, s2, t2⟩ := s1.elemNil (n := n) (k := k) (by rw [blk_own, if_pos rfl]) (by simpa using hlt)
              rw [blk_blk] at s2 t2
              exact ⟨_, _, _, _, _, _, h1, rfl, hrun _ rfl c1, s2, t1.trans t2⟩
            · cases h1
        · cases h
      · cases h
  · rename_i id k off
    cases hx with
    | oe _ _ _ hid =>
      simp only [Prog.run] at h
      split at h
      · obtain ⟨s', o', l', G', w', h1, h2, h3, h4⟩ := stRl_ok ht h hs hy hid
        exact ⟨s', o', l', G', w', _, h1, rfl, h2, h3, h4⟩
      · obtain ⟨s', o', l', G', w', h1, h2, h3, h4⟩ := stOl_ok ht h hs hy hid
        exact ⟨s', o', l', G', w', _, h1, rfl, h2, h3, h4⟩
  · cases h
end
end Go.Ev
/- New memory. -/
namespace Go.Ev
open Go Go.RowKit
variable [Glob]
section
variable {α R : Type} {F : α → S → O → Log → Option R} {r : R} {w w' : World} {P : Program} {C : Cfg} {Q : Orc} {p : Oper} {a : Act} {G : Gh} {s : S} {o : O} {I : Nat → Role} {tmps : Array Value}
theorem run_new_alloc (ob : Obj) : (newObj ob).run P w = .ok w.heap.size (w.alloc ob) := rfl
/-- a block is new, and a name for it -/
theorem St.alloc (hs : St w G s o tmps) {d mm : Nat} {k : Blk} {v : Value} {obj : Obj} (fresh : s.own d = none) (hv : v.oneCell' = true) (hw : w'.heap = w.heap.push obj ∧ w'.os = w.os ∧ w'.tape = w.tape ∧ w'.output = w.output)
    (hk : ∀ G', Stays G.I G'.I w w' → G'.a d = w.heap.size → G'.hd d = v → G'.m d = mm → G'.I w.heap.size = .key (.own d) → w'.heap[w.heap.size]? = some obj → To w G s o w' G' (s.blk d k) o → OwnR w' G' (used w' G' (s.blk d k) o) (s.blk d k).own d k) :
    ∃ G', St w' G' (s.blk d k) o tmps ∧ To w G s o w' G' (s.blk d k) o ∧ G'.a d = w.heap.size ∧ G'.hd d = v ∧ G'.m d = mm := by
  obtain ⟨w1, w2, w3, w4⟩ := hw
  let G' : Gh := ⟨fun n => if n = d then w.heap.size else G.a n, fun n => if n = d then v else G.hd n, fun n => if n = d then mm else G.m n, G.o, G.oh, G.ohf, fun r => if r = w.heap.size then .key (.own d) else G.I r, fun n => by
    show (if n = d then v else G.hd n).oneCell' = true
    split
    · exact hv
    · exact G.hf n⟩
  have hne : ∀ r, G.I r ≠ .no → r ≠ w.heap.size := fun r hr e => absurd (hs.heap r hr) (by omega)
  have hI : ∀ r, r ≠ w.heap.size → G'.I r = G.I r := fun r hr => if_neg hr
  have hold : ∀ r, r < w.heap.size → w'.heap[r]? = w.heap[r]? := fun r hr => by
    rw [w1, Array.getElem?_push]; rw [if_neg (by omega)]
  have hnew : w'.heap[w.heap.size]? = some obj := by rw [w1]; simp
  have hext : Ext G.I G'.I w w' := .mk' w2 w3 w4 (by rw [w1]; simp) fun r hr _ => ⟨hold r hr, hI r (by omega)⟩
  have hst : Stays G.I G'.I w w' := .mk fun r hr => ⟨hold r (hs.heap r (by first | exact hr.no | exact hr.key _ | exact fun _ => hr.key _)), (hI r (hne r (by first | exact hr.no | exact hr.key _ | exact fun _ => hr.key _)))⟩
  obtain ⟨s1, t1⟩ := hs.new (G' := G') (k := k) fresh hext (fun r hr _ => ⟨hold r (hs.heap r hr), hI r (hne r hr)⟩) (fun n hn => ⟨if_neg hn, if_neg hn, if_neg hn⟩) rfl
    (fun to => hk G' hst (if_pos rfl) (if_pos rfl) (if_pos rfl) (if_pos rfl) hnew to) (fun r hr => by
      rw [w1, Array.size_push]
      by_cases e : r = w.heap.size
      · omega
      · have := hs.heap r (by rw [← hI r e]; exact hr); omega)
  exact ⟨G', s1, t1, if_pos rfl, if_pos rfl, if_pos rfl⟩
theorem St.newBox (hs : St w G s o tmps) {d : Nat} {g : Bool} {cs : List AV} {vs : List Value} {ty : TypeId} (fresh : s.own d = none) (hv : AVRs w G (used w G s o) cs vs) (hf : Flat vs) (hl : g = false → cs.length = 1)
    (hw : w'.heap = w.heap.push (.cells vs.toArray ty) ∧ w'.os = w.os ∧ w'.tape = w.tape ∧ w'.output = w.output) :
    ∃ G', St w' G' (s.blk d (.box g cs)) o tmps ∧ To w G s o w' G' (s.blk d (.box g cs)) o ∧ AVR w' G' (used w' G' (s.blk d (.box g cs)) o) (.pt d 0) (.pointer (some ⟨w.heap.size, 0, none⟩)) := by
  obtain ⟨G', s1, t1, h1, h2, h3⟩ := hs.alloc (k := .box g cs) (mm := 0) fresh (v := .nilFunc) rfl hw (fun G' hst ha _ _ hI hn to => ⟨by rw [ha]; exact hI, vs, ty, by rw [ha]; exact hn, hv.mono to.keeps to.stays, hl, hf⟩)
  refine ⟨G', s1, t1, ?_⟩
  rw [← h1]
  exact .pt _ _ (by show (s.blk d (.box g cs)).own d ≠ none; rw [blk_own, if_pos rfl]; simp)
theorem St.newLst (hs : St w G s o tmps) {d m cap : Nat} {xs : List CV} {c : Array Value} {vs : List Value} {ty : TypeId} (fresh : s.own d = none) (hm0 : 0 < m) (hm : ∀ x, x ∈ xs → x.cells.length = m) (hv : VRs w G.I (xs.flatMap CV.cells) vs) (hf : Flat vs)
    (hc : xs.length ≤ cap) (hsz : cap * m ≤ c.size) (hp : ∀ (k : Nat) (v : Value), vs[k]? = some v → c[k]? = some v)
    (hw : w'.heap = w.heap.push (.cells c ty) ∧ w'.os = w.os ∧ w'.tape = w.tape ∧ w'.output = w.output) :
    ∃ G', St w' G' (s.blk d (.lst m xs)) o tmps ∧ To w G s o w' G' (s.blk d (.lst m xs)) o ∧ AVR w' G' (used w' G' (s.blk d (.lst m xs)) o) (.sl d) (.slice (some ⟨w.heap.size, 0, none⟩) xs.length cap) := by
  obtain ⟨G', s1, t1, h1, h2, h3⟩ := hs.alloc (k := .lst m xs) (mm := m) fresh (v := .slice (some ⟨w.heap.size, 0, none⟩) xs.length cap) rfl hw (fun G' hst ha hh hmm hI hn to =>
    ⟨hmm, hm0, hm, .inr ⟨cap, vs, c, ty, by rw [hh, ha], hc, hv.mono hst, by rw [ha]; exact hI, by rw [ha]; exact hn, hsz, fun k v hk => ⟨hp k v hk, hf k v hk⟩⟩⟩)
  refine ⟨G', s1, t1, ?_⟩
  rw [← h2]
  exact .sl _ (by show (s.blk d (.lst m xs)).own d ≠ none; rw [blk_own, if_pos rfl]; simp)
/-! ### Zero values -/
theorem zCells_of {U : Used} {v : Value} {z : CV} {n : Nat} (h : zeroCV v = some z) (hz : z.isN n = true) : AVRs w G U (zCells z) v.cells.toList ∧ Flat v.cells.toList ∧ (zCells z).length = n ∧ VRs w I (zCV z).cells v.cells.toList ∧ (zCV z).isN n = true := by
  unfold zeroCV at h
  split at h
  · rename_i cs
    split at h
    · rename_i xs hx
      injection h with h; subst h
      have e : (xs.map fun x => match x with | .nils => CV.im [] | y => y).length = n := by simpa [CV.isN] using hz
      refine ⟨zAVs_of hx, cvsOf_flat hx, by simpa [zCells] using e, ?_, by simpa [zCV, CV.isN] using e⟩
      show VRs w I (xs.map _) cs.toList
      clear e hz
      generalize cs.toList = l at hx
      induction l generalizing xs with
      | nil => injection hx with hx; subst hx; exact .nil
      | cons v l ih =>
        unfold cvsOf at hx
        cases hv : cvOf v with
        | none => rw [hv] at hx; cases hx
        | some x =>
          rw [hv] at hx
          cases hl : cvsOf l with
          | none => simp only [hl] at hx; cases hx
          | some ys =>
            simp only [hl] at hx
            injection hx with hx; subst hx
            refine .cons _ _ _ _ ?_ (ih _ hl)
            rcases cvOf_nils hv with ⟨rfl, rfl⟩ | ⟨hn, hr⟩
            · exact .im0
            · cases x <;> first | exact hr _ _ | exact absurd rfl hn
    · cases h
  · exfalso
    split at h
    · split at h
      · injection h with h; subst h; cases hz
      · cases h
    · split at h
      · injection h with h; subst h; cases hz
      · cases h
    · cases h
  · rename_i h1 h2
    have hf := cvOf_flat h
    have hc := cells_flat hf
    rw [hc]
    have hzf : z.isN n = true → (∀ cs, z ≠ .ag cs) → n = 1 := by
      intro hz hn
      cases z <;> first | exact Nat.eq_of_beq_eq_true hz | exact absurd rfl (hn _) | cases hz
    rcases cvOf_nils h with ⟨rfl, rfl⟩ | ⟨hn, hr⟩
    · have e : n = 1 := Nat.eq_of_beq_eq_true hz
      subst e
      exact ⟨.cons _ _ _ _ .nl .nil, Flat.nil.cons rfl, rfl, .cons _ _ _ _ .im0 .nil, rfl⟩
    · have hag : ∀ cs, z ≠ .ag cs := by
        rintro cs rfl
        have := hr w I
        cases this; cases hf
      have hn1 := hzf hz hag
      subst hn1
      have e1 : zCells z = [.c z] := by cases z <;> first | rfl | exact absurd rfl hn | exact absurd rfl (hag _)
      have e2 : zCV z = z := by cases z <;> first | rfl | exact absurd rfl hn | exact absurd rfl (hag _)
      have e3 : z.cells = [z] := by cases z <;> first | rfl | exact absurd rfl (hag _)
      rw [e1, e2, e3]
      exact ⟨.cons _ _ _ _ (.c _ _ (hr _ _)) .nil, Flat.nil.cons hf, rfl, .cons _ _ _ _ (hr _ _) .nil, hz⟩
theorem ok_alloc (hC : TyOk P C) {e : Nat} (hp : p.op = .alloc e) : OpOk (α := α) P p fun K => tyP C e fun i => zeroOf i fun z => pchk (z.isN i.size && (i.agg || Nat.beq i.size 1)) (newB p.dst (.box i.agg (zCells z)) K) := by
  intro R F r K w G s o l a h hs
  obtain ⟨i, hi, h⟩ := tyP_inv h
  obtain ⟨z, hz, h⟩ := zeroOf_inv h
  have h1 := h
  obtain ⟨hc, h2⟩ := pchk_inv h1
  rw [Bool.and_eq_true, Bool.or_eq_true] at hc
  obtain ⟨d, l', hd, hn, h3⟩ := newB_inv h2
  obtain ⟨ti, q1, q2, q3, q4⟩ := (hC _ _ hi).info
  obtain ⟨v, hv, hzv⟩ := q4 z hz
  obtain ⟨z1, z2, z3, _⟩ := zCells_of (w := w) (G := G) (U := used w G s o) (I := G.I) hzv hc.1
  obtain ⟨G', s1, t1, hx⟩ := hs.newBox (d := d) (g := i.agg) (ty := e) hn z1 z2 (fun hg => by rw [z3]; rw [hg] at hc; simpa using hc.2) (w' := w.alloc (.cells v.cells.toList.toArray e)) ⟨rfl, rfl, rfl, rfl⟩
  refine ⟨_, _, _, _, h3, OpR.value ?_ s1 t1 hx⟩
  simp only [execOp, hp]
  refine run_v ?_
  simp only [Instr.alloc, Sem.run_bind, run_zero q1 hv, Result.andThen, newVar, newRow, run_new_alloc, Sem.run_pure, Array.toArray_toList]
theorem ok_box (hC : TyOk P C) {ny : Bool} {e : Nat} {x : Operand} (hp : p.op = .box e x) : OpOk (α := α) P p fun K => tyP C e fun i => rd ny x fun v => pchk (noLo v) (v.cellsOf i fun cs => newB p.dst (.box i.agg cs) K) := by
  intro R F r K w G s o l a h hs
  obtain ⟨i, hi, h⟩ := tyP_inv h
  have h1 := h
  obtain ⟨v, l', hv, h2⟩ := rd_inv h1
  obtain ⟨_, h3⟩ := pchk_inv h2
  obtain ⟨xs, us, h4, e1, e2, e3, e4, e5⟩ := cellsOf_ok h3 (opd_of hs hv)
  obtain ⟨d, l', hd, hn, h5⟩ := newB_inv h4
  obtain ⟨G', s1, t1, hx⟩ := hs.newBox (d := d) (g := i.agg) (ty := e) hn e2 e3 (fun hg => by rw [(e5 hg).1]; rfl) (w' := w.alloc (.cells us.toArray e)) ⟨rfl, rfl, rfl, rfl⟩
  refine ⟨_, _, _, _, h5, OpR.value ?_ s1 t1 hx⟩
  simp only [execOp, hp]
  refine run_v ?_
  simp only [Instr.box, newVar, newRow, Sem.run_bind, run_new_alloc, Result.andThen, Sem.run_pure, e1]
end
end Go.Ev
/- Literals, made lists. -/
namespace Go.Ev
open Go Go.RowKit
variable [Glob]
/-! ### The model's filling -/
theorem foldl_zip : ∀ (us : List Value) (o k : Nat) (c : Array Value), (us.zipIdx k).foldl (fun cs (p : Value × Nat) => cs.setIfInBounds (o + p.2) p.1) c = (setVs c.toList (o + k) us).toArray
  | [], o, k, c => by simp [setVs]
  | v :: us, o, k, c => by
    rw [List.zipIdx_cons, List.foldl_cons, foldl_zip us o (k + 1)]
    simp only [setVs, Array.toList_setIfInBounds, Nat.add_assoc]
theorem fill_step {place : Nat → Option (Nat × Nat)} {c : Array Value} {i off size : Nat} {v : Value} {us : List Value} {rest : List (Nat × Value)} (hp : place i = some (off, size)) (hv : v.cells = us.toArray) (hz : us.length = size) (hl : off + us.length ≤ c.size) :
    Instr.fill place c ((i, v) :: rest) = Instr.fill place (setVs c.toList off us).toArray rest := by
  rw [Instr.fill]
  simp only [hp, hv, List.size_toArray, hz]
  rw [if_neg (by simp; omega)]
  congr 1
  rw [← Array.foldl_toList]
  have := foldl_zip us off 0 c
  simpa using this
section
variable {α R : Type} {F : α → S → O → Log → Option R} {r : R} {w w' : World} {P : Program} {C : Cfg} {Q : Orc} {p : Oper} {a : Act} {G : Gh} {s : S} {o : O} {I : Nat → Role} {tmps : Array Value}
/-- parts: places with values -/
inductive PVs (w : World) (G : Gh) (U : Used) : List (Nat × AV) → List (Nat × Value) → Prop where
  | nil : PVs w G U [] []
  | cons (i : Nat) (x : AV) (v : Value) (xs : List (Nat × AV)) (vs : List (Nat × Value)) : AVR w G U x v → PVs w G U xs vs → PVs w G U ((i, x) :: xs) ((i, v) :: vs)
theorem PVs.mono {w w' : World} {G G' : Gh} {U U' : Used} (hg : G.Keeps G' U U') (hs : Stays G.I G'.I w w') {xs : List (Nat × AV)} {vs : List (Nat × Value)} (h : PVs w G U xs vs) : PVs w' G' U' xs vs := by
  induction h with
  | nil => exact .nil
  | cons i x v xs vs h _ ih => exact .cons _ _ _ _ _ (h.mono hg hs) ih
theorem rdParts_inv {ny : Bool} (hs : St w G s o a.tmps) : ∀ {ps : List (Nat × Operand)} {k : List (Nat × AV) → Prog α} {l : Log}, (rdParts ny ps k).run s o l F = some r →
    ∃ xs l', (k xs).run s o l' F = some r ∧ PVs w G (used w G s o) xs (ps.map fun q => (q.1, a.eval q.2))
  | [], k, l, h => ⟨[], l, h, .nil⟩
  | (i, x) :: ps, k, l, h => by
    obtain ⟨v, l1, hv, h1⟩ := rd_inv h
    obtain ⟨xs, l2, h2, h3⟩ := rdParts_inv hs h1
    exact ⟨_, _, h2, .cons _ _ _ _ _ (opd_of hs hv) h3⟩
theorem fillParts_ok {place : Nat → Option (Nat × TI)} {pl : Nat → Option (Nat × Nat)} (hpl : ∀ i o t, place i = some (o, t) → pl i = some (o, t.size)) {U : Used} : ∀ {ps : List (Nat × AV)} {us : List (Nat × Value)} {cs : List AV} {vs : List Value} {K : List AV → Prog α} {l : Log},
    (fillParts place cs ps K).run s o l F = some r → PVs w G U ps us → AVRs w G U cs vs → Flat vs → ∃ cs' vs' l', (K cs').run s o l' F = some r ∧ Instr.fill pl vs.toArray us = some vs'.toArray ∧ AVRs w G U cs' vs' ∧ Flat vs'
  | [], _, cs, vs, K, l, h, .nil, hc, hf => ⟨cs, vs, l, h, rfl, hc, hf⟩
  | (i, v) :: ps, _, cs, vs, K, l, h, .cons _ _ x _ us hx hps, hc, hf => by
    simp only [fillParts] at h
    split at h
    · rename_i off t hpt
      obtain ⟨_, h1⟩ := pchk_inv h
      obtain ⟨xs, ys, h2, e1, e2, e3, e4, _⟩ := cellsOf_ok h1 hx
      obtain ⟨hle, h3⟩ := pchk_inv h2
      have hle := Nat.le_of_ble_eq_true hle
      have hxl := e2.length
      have hcl := hc.length
      obtain ⟨cs', vs', l', h4, h5, h6, h7⟩ := fillParts_ok hpl h3 hps (hc.setAll e2) (setVs_flat hf e3)
      refine ⟨cs', vs', l', h4, ?_, h6, h7⟩
      rw [fill_step (hpl _ _ _ hpt) e1 e4 (by simp; omega)]
      simpa using h5
    · cases h
theorem run_mapM {β γ : Type} (f : β → Sem γ) (g : β → γ) : ∀ l : List β, (∀ x ∈ l, (f x).run P w = .ok (g x) w) → (l.mapM f).run P w = .ok (l.map g) w
  | [], _ => by simp
  | x :: l, h => by
    rw [List.mapM_cons]
    simp only [Sem.run_bind, h x (by simp), Result.andThen, run_mapM f g l (fun y hy => h y (by simp [hy])), Sem.run_pure, List.map_cons]
def sizeC (C : Cfg) (t : Nat) : Nat := match C.ty t with | some j => j.size | none => 0
theorem run_places (hC : TyOk P C) {fields : Array Field} (h : fieldsOk C (fields.toList.map fun f => (f.offset, f.type)) = true) :
    (fields.mapM fun (f : Field) => do pure (f.offset, ← sizeOf f.type)).run P w = .ok (fields.map fun f => (f.offset, sizeC C f.type)) w := by
  rw [Array.mapM_eq_mapM_toList, map_eq_pure_bind]
  rw [Sem.run_bind, run_mapM _ (fun f : Field => (f.offset, sizeC C f.type))]
  · show Result.ok _ w = _
    congr 1
    apply Array.ext'
    rw [Array.toList_map]
  · intro f hf
    unfold fieldsOk at h
    rw [List.all_eq_true] at h
    have := h (f.offset, f.type) (List.mem_map.mpr ⟨f, hf, rfl⟩)
    simp only at this
    unfold sizeC
    split at this
    · rename_i j hj
      rw [hj]
      simp only [Sem.run_bind, run_size (hC _ _ hj), Result.andThen, Sem.run_pure]
    · cases this
theorem ok_build (hC : TyOk P C) {ny : Bool} {t : Nat} {parts : Array (Nat × Operand)} (hp : p.op = .build t parts) : OpOk (α := α) P p fun K => tyP C t fun i => zeroOf i fun z => rdParts ny (parts.toList) fun ps =>
      (match i.td with
      | .struct fs => pchk (fieldsOk C fs && z.isN i.size) (fillParts (fieldPl C fs) (zCells z) ps fun cs => K (mkAg cs))
      | .array _ e => tyP C e fun j => pchk (z.isN i.size) (fillParts (fun k => some (k * j.size, j)) (zCells z) ps fun cs => K (mkAg cs))
      | _ => .fail) := by
  intro R F r K w G s o l a h hs
  obtain ⟨i, hi, h⟩ := tyP_inv h
  obtain ⟨z, hz, h⟩ := zeroOf_inv h
  obtain ⟨ps, l', h1, hps⟩ := rdParts_inv hs h
  obtain ⟨ti, q1, q2, q3, q4⟩ := (hC _ _ hi).info
  obtain ⟨v, hv, hzv⟩ := q4 z hz
  split at h1
  · rename_i fs htd
    obtain ⟨hc, h2⟩ := pchk_inv h1
    rw [Bool.and_eq_true] at hc
    obtain ⟨fields, hu1, hu2⟩ := (hC _ _ hi).struct htd
    subst hu2
    obtain ⟨z1, z2, z3, _⟩ := zCells_of (w := w) (G := G) (U := used w G s o) (I := G.I) hzv hc.2
    obtain ⟨cs', vs', l2, h3, h4, h5, h6⟩ := fillParts_ok (pl := fun k => (fields.map fun f => (f.offset, sizeC C f.type))[k]?) (fun k o t hk => by
      unfold fieldPl at hk
      rw [List.getElem?_map] at hk
      simp only [Array.getElem?_map]
      cases hq : fields.toList[k]? with
      | none => rw [hq] at hk; cases hk
      | some f =>
        rw [hq] at hk
        have : fields[k]? = some f := by simpa using hq
        rw [this]
        simp only [Option.map_some] at hk ⊢
        split at hk
        · rename_i j hj
          injection hk with hk; injection hk with e1 e2; subst e1; subst e2
          unfold sizeC; rw [hj]
        · cases hk) h2 hps z1 z2
    refine ⟨_, _, _, _, h3, OpR.pure hs ?_ (mkAg_of h5 h6)⟩
    simp only [execOp, hp]
    refine run_v ?_
    have hm : (parts.map fun x => match x with | (i, x) => (i, a.eval x)).toList = parts.toList.map fun q => (q.1, a.eval q.2) := by simp
    simp only [Instr.build, Sem.run_bind, run_zero q1 hv, Result.andThen, run_under hu1, run_places hC hc.1, hm]
    rw [Array.toArray_toList] at h4
    rw [h4]
    simp only [Sem.run_pure]
  · rename_i n e htd
    obtain ⟨j, hj, h1⟩ := tyP_inv h1
    obtain ⟨hc, h2⟩ := pchk_inv h1
    have hu1 := (hC _ _ hi).array htd
    obtain ⟨z1, z2, z3, _⟩ := zCells_of (w := w) (G := G) (U := used w G s o) (I := G.I) hzv hc
    obtain ⟨cs', vs', l2, h3, h4, h5, h6⟩ := fillParts_ok (pl := fun k => some (k * j.size, j.size)) (fun k o t hk => by
      injection hk with hk; injection hk with e1 e2; subst e1; subst e2; rfl) h2 hps z1 z2
    refine ⟨_, _, _, _, h3, OpR.pure hs ?_ (mkAg_of h5 h6)⟩
    simp only [execOp, hp]
    refine run_v ?_
    have hm : (parts.map fun x => match x with | (i, x) => (i, a.eval x)).toList = parts.toList.map fun q => (q.1, a.eval q.2) := by simp
    simp only [Instr.build, Sem.run_bind, run_zero q1 hv, Result.andThen, run_under hu1, run_size (hC _ _ hj), hm]
    rw [Array.toArray_toList] at h4
    rw [h4]
    simp only [Sem.run_pure]
  · cases h1
/-! ### Lists -/
theorem zeros_succ (zs : List Value) (m n : Nat) (hz : zs.length = m) : (List.range ((n + 1) * m)).map (fun i => zs.toArray[i % m]!) = zs ++ (List.range (n * m)).map (fun i => zs.toArray[i % m]!) := by
  have e : (n + 1) * m = m + n * m := by rw [Nat.succ_mul]; omega
  rw [e, List.range_add, List.map_append, List.map_map]
  congr 1
  · apply List.ext_getElem?
    intro k
    rw [List.getElem?_map]
    by_cases h : k < m
    · rw [List.getElem?_range h, Option.map_some, Nat.mod_eq_of_lt h]
      rw [List.getElem?_eq_getElem (by omega)]
      simp [getElem!_pos, hz, h]
    · rw [List.getElem?_eq_none (by simp; omega), List.getElem?_eq_none (by omega)]; rfl
  · apply List.map_congr_left
    intro i _
    simp
theorem zeros_of {x : CV} {zs : List Value} {m : Nat} (hv : VRs w I x.cells zs) (hz : zs.length = m) : ∀ n, VRs w I ((List.replicate n x).flatMap CV.cells) ((List.range (n * m)).map fun i => zs.toArray[i % m]!)
  | 0 => by simpa using VRs.nil
  | n + 1 => by
    rw [zeros_succ zs m n hz, List.replicate_succ, List.flatMap_cons]
    exact hv.append (zeros_of hv hz n)
theorem zeros_flat {zs : List Value} {m : Nat} (hf : Flat zs) (hz : zs.length = m) : ∀ n, Flat ((List.range (n * m)).map fun i => zs.toArray[i % m]!)
  | 0 => by simpa using Flat.nil
  | n + 1 => by rw [zeros_succ zs m n hz]; exact hf.append (zeros_flat hf hz n)
theorem VRs.setEl {xs : List CV} {k m : Nat} {y : CV} {vs us : List Value} (hm : ∀ x, x ∈ xs → x.cells.length = m) (hk : k < xs.length) (hv : VRs w I (xs.flatMap CV.cells) vs) (hy : VRs w I y.cells us) (hl : y.cells.length = m) :
    VRs w I ((xs.set k y).flatMap CV.cells) (setVs vs (k * m) us) := by
  have hx : xs[k]? = some xs[k] := List.getElem?_eq_getElem hk
  obtain ⟨s1, s2⟩ := split_at hx y
  have hA : ((xs.take k).flatMap CV.cells).length = k * m := by
    rw [flat_len (fun z hz => hm z (List.mem_of_mem_take hz)), List.length_take]; congr 1; omega
  rw [s1] at hv
  obtain ⟨AB, D, rfl, hAB, hD⟩ := hv.split
  obtain ⟨A, B, rfl, hA', hB⟩ := hAB.split
  have hlA : A.length = k * m := by rw [← hA'.length]; exact hA
  have hlB : B.length = m := by rw [← hB.length]; exact hm _ (List.mem_of_getElem? hx)
  have hul := hy.length
  have e := setVs_mid A B D us 0 (by omega)
  rw [Nat.add_zero, hlA] at e
  rw [s2, e]
  have : setVs B 0 us = us := by
    apply List.ext_getElem?; intro q; rw [setVs_get]
    by_cases hq : q < us.length
    · rw [if_pos (by omega)]; rfl
    · rw [if_neg (by omega), List.getElem?_eq_none (by omega), List.getElem?_eq_none (by omega)]
  rw [this]
  exact (hA'.append hy).append hD
theorem freezeC_ok : ∀ (ps : List (Nat × AV)) (K : List (Nat × CV) → Prog α) (s : S) (o : O) (lg : Log) (G : Gh) (xs : List (Nat × Value)),
    (freezeC ps K).run s o lg F = some r → St w G s o tmps → PVs w G (used w G s o) ps xs → ∃ us s' o' l' G', (K us).run s' o' l' F = some r ∧ Gs w G s o tmps G' s' o' ∧ PVs w G' (used w G' s' o') (us.map fun p => (p.1, .c p.2)) xs
  | [], K, s, o, lg, G, _, h, hst, .nil => ⟨[], s, o, lg, G, h, .refl hst, .nil⟩
  | (i, v) :: l, K, s, o, lg, G, _, h, hst, .cons _ _ x _ xs hv hvs => by
    unfold freezeC frz at h
    obtain ⟨u, s1, o1, l1, G1, h1, g1, hu⟩ := freeze_ok (w := w) (tmps := tmps) 8 v _ s o lg G x h hst hv
    obtain ⟨z, rfl, h2⟩ := cv_inv h1
    obtain ⟨us, s2, o2, l2, G2, h3, g2, hus⟩ := freezeC_ok l _ s1 o1 l1 G1 xs h2 g1.st (hvs.mono g1.to.keeps g1.to.stays)
    exact ⟨(i, z) :: us, s2, o2, l2, G2, h3, g1.trans g2, .cons _ _ _ _ _ (g2.val (out_used hu)) hus⟩
theorem fillList_ok {m len : Nat} {U : Used} : ∀ {ps : List (Nat × CV)} {us : List (Nat × Value)} {xs : List CV} {vs : List Value}, PVs w G U (ps.map fun p => (p.1, .c p.2)) us → (∀ p, p ∈ ps → p.2.isN m = true ∧ p.1 < len) → xs.length = len →
    (∀ x, x ∈ xs → x.cells.length = m) → VRs w G.I (xs.flatMap CV.cells) vs → Flat vs →
    ∃ vs', Instr.fill (fun i => some (i * m, m)) vs.toArray us = some vs'.toArray ∧ (setParts xs ps).length = len ∧ (∀ x, x ∈ setParts xs ps → x.cells.length = m) ∧ VRs w G.I ((setParts xs ps).flatMap CV.cells) vs' ∧ Flat vs' ∧ vs'.length = vs.length
  | [], _, xs, vs, .nil, _, hl, hm, hv, hf => ⟨vs, rfl, hl, hm, hv, hf, rfl⟩
  | (i, y) :: ps, _, xs, vs, .cons _ _ x _ us hx hps, hq, hl, hm, hv, hf => by
    obtain ⟨hy, hi⟩ := hq (i, y) (by simp)
    simp only at hy hi
    obtain ⟨ys, c1, c2, c3⟩ := hx.c_inv.cells (isN_tp hy)
    have hyl := isN_cells hy
    have hul : y.cells.length = ys.length := c2.length
    have hyl : y.cells.length = m := hyl
    have hvl := hv.length
    rw [flat_len hm] at hvl
    have hle : i * m + m ≤ xs.length * m := by rw [← Nat.succ_mul]; exact Nat.mul_le_mul_right m (by omega)
    obtain ⟨vs', e1, e2, e3, e4, e5, e6⟩ := fillList_ok (xs := xs.set i y) (vs := setVs vs (i * m) ys) hps (fun p hp => hq p (by simp [hp])) (by simp [hl]) (fun z hz => by
      rcases List.mem_or_eq_of_mem_set hz with hz | rfl
      · exact hm z hz
      · exact hyl) (hv.setEl hm (by omega) c2 hyl) (setVs_flat hf c3)
    refine ⟨vs', ?_, e2, e3, e4, e5, e6.trans (setVs_len _ _ _)⟩
    rw [fill_step (off := i * m) (size := m) rfl c1 (by omega) (by simp; omega)]
    exact e1
theorem zeroCV_nils {v : Value} (h : zeroCV v = some .nils) : v = .slice none 0 0 := by
  unfold zeroCV at h
  split at h
  · split at h
    · injection h with h; cases h
    · cases h
  · split at h
    · split at h
      · injection h with h; cases h
      · cases h
    · split at h
      · injection h with h; cases h
      · cases h
    · cases h
  · rcases cvOf_nils h with ⟨_, h⟩ | ⟨h, _⟩
    · exact h
    · exact absurd rfl h
theorem fill_nils {len : Nat} {U : Used} : ∀ {ps : List (Nat × AV)} {us : List (Nat × Value)}, PVs w G U ps us → allNl ps = true → (∀ q, q ∈ ps → q.1 < len) → Instr.fill (fun i => some (i * 1, 1)) (List.replicate len (Value.slice none 0 0)).toArray us = some (List.replicate len (Value.slice none 0 0)).toArray
  | [], _, .nil, _, _ => rfl
  | (i, v) :: ps, _, .cons _ _ x _ us hx hps, hn, hq => by
    cases v <;> try (cases hn)
    cases hx
    have hi : i < len := hq (i, .nl) (by simp)
    rw [fill_step (off := i * 1) (size := 1) (us := [.slice none 0 0]) rfl rfl rfl (by simp; omega)]
    have : setVs (List.replicate len (Value.slice none 0 0)) (i * 1) [.slice none 0 0] = List.replicate len (Value.slice none 0 0) := by
      apply List.ext_getElem?
      intro k
      rw [setVs_get]
      simp only [List.length_cons, List.length_nil, List.length_replicate]
      split
      · rename_i hk
        have : k = i * 1 := by omega
        subst this
        rw [List.getElem?_replicate, if_pos (by omega)]
        simp
      · rfl
    simp only [List.toList_toArray]
    rw [this]
    exact fill_nils hps hn (fun q hq' => hq q (by simp [hq']))
theorem St.newNst (hs : St w G s o tmps) {d m n cap : Nat} {c : Array Value} {ty : TypeId} (fresh : s.own d = none) (hm0 : 0 < m) (hc : n ≤ cap) (hsz : cap ≤ c.size) (hp : ∀ k, k < n → c[k]? = some (.slice none 0 0))
    (hw : w'.heap = w.heap.push (.cells c ty) ∧ w'.os = w.os ∧ w'.tape = w.tape ∧ w'.output = w.output) :
    ∃ G', St w' G' (s.blk d (.nst m (List.replicate n (.im [])) none)) o tmps ∧ To w G s o w' G' (s.blk d (.nst m (List.replicate n (.im [])) none)) o ∧ AVR w' G' (used w' G' (s.blk d (.nst m (List.replicate n (.im [])) none)) o) (.sl d) (.slice (some ⟨w.heap.size, 0, none⟩) n cap) := by
  obtain ⟨G', s1, t1, h1, h2, h3⟩ := hs.alloc (k := .nst m (List.replicate n (.im [])) none) (mm := 1) fresh (v := .slice (some ⟨w.heap.size, 0, none⟩) n cap) rfl hw (fun G' hst ha hh hmm hI hn to =>
    ⟨hmm, hm0, fun j q e => (by cases e), .inr ⟨cap, c, ty, by rw [hh, ha, List.length_replicate], by rw [List.length_replicate]; exact hc, by rw [ha]; exact hI, by rw [ha]; exact hn, hsz, fun k x hx => by
      have hk : k < n := by
        have := (List.getElem?_eq_some_iff.mp hx).1
        simpa using this
      rw [List.getElem?_replicate, if_pos hk] at hx
      injection hx with hx; subst hx
      exact ⟨.slice none 0 0, hp k hk, rfl, [], 0, rfl, by simp, .inl ⟨rfl, rfl⟩⟩⟩⟩)
  refine ⟨G', s1, t1, ?_⟩
  rw [← h2]
  exact .sl _ (by show (s.blk d (.nst m (List.replicate n (.im [])) none)).own d ≠ none; rw [blk_own, if_pos rfl]; simp)
theorem run_buildSlice (hC : TyOk P C) {t e len : Nat} {i j : TI} {parts : Array (Nat × Operand)} (hi : C.ty t = some i) (htd : i.td = .slice e) (hj : C.ty e = some j) (hp : p.op = .buildSlice t len parts) (ti : TypeInfo) (v : Value) (q1 : P.info? e = some ti) (hv : ti.zero = some v)
    (vs' : List Value) (hc3 : len * j.size ≤ 16777216) (hf : Instr.fill (fun i => some (i * j.size, j.size)) ((List.range (len * j.size)).map fun i => v.cells.toList.toArray[i % j.size]!).toArray (parts.map fun x => match x with | (i, x) => (i, a.eval x)).toList = some vs'.toArray) (hvl : v.cells.toList.length = j.size) :
    (execOp a.eval p).run P w = .ok (.value (.slice (some ⟨w.heap.size, 0, none⟩) len len)) (w.alloc (.cells vs'.toArray e)) := by
  have hu := (hC _ _ hi).slice htd
  simp only [execOp, hp]
  refine run_v ?_
  have harr : ∀ zz : Array Value, (len * j.size ≠ 0 → zz = v.cells) → (Array.range (len * j.size)).map (fun x => zz[x % zz.size]!) = ((List.range (len * j.size)).map fun i => v.cells.toList.toArray[i % j.size]!).toArray := by
    intro zz hzz
    by_cases h0 : len * j.size = 0
    · simp [h0]
    · rw [hzz h0]
      have : v.cells.size = j.size := by simpa using hvl
      rw [this]
      apply Array.ext'
      simp
  by_cases h0 : len * j.size = 0
  · simp only [Instr.buildSlice, Sem.run_bind, run_under hu, Result.andThen, run_size (hC _ _ hj), if_neg (show ¬ len * j.size > 2 ^ 24 by omega), if_pos h0, Sem.run_pure, harr #[] (fun e => absurd h0 e), hf, newRow, run_new_alloc]
  · simp only [Instr.buildSlice, Sem.run_bind, run_under hu, Result.andThen, run_size (hC _ _ hj), if_neg (show ¬ len * j.size > 2 ^ 24 by omega), if_neg h0, run_zero q1 hv, Sem.run_pure, harr v.cells (fun _ => rfl), hf, newRow, run_new_alloc]
theorem ok_buildSlice (hC : TyOk P C) {ny : Bool} {t len : Nat} {parts : Array (Nat × Operand)} (hp : p.op = .buildSlice t len parts) : OpOk (α := α) P p fun K => tyP C t fun i => (match i.td with
      | .slice e => tyP C e fun j => zeroOf j fun z => rdParts ny (parts.toList) fun ps => bslA C p.dst len j z ps K
      | _ => .fail) := by
  intro R F r K w G s o l a h hs
  obtain ⟨i, hi, h⟩ := tyP_inv h
  split at h
  · rename_i e htd
    obtain ⟨j, hj, h⟩ := tyP_inv h
    obtain ⟨z, hz, h⟩ := zeroOf_inv h
    obtain ⟨ps, l', h1, hps⟩ := rdParts_inv hs h
    have hm : (parts.map fun x => match x with | (i, x) => (i, a.eval x)).toList = parts.toList.map fun q => (q.1, a.eval q.2) := by simp
    have hmod := run_buildSlice (P := P) (C := C) (w := w) (p := p) (a := a) hC hi htd hj hp
    unfold bslA at h1
    split at h1
    · rename_i e' hjt hnl
      obtain ⟨j', hj', h2⟩ := tyP_inv h1
      obtain ⟨hc, h3⟩ := pchk_inv h2
      rw [Bool.and_eq_true, Bool.and_eq_true, Bool.and_eq_true] at hc
      obtain ⟨⟨⟨hc1, hc2⟩, hc3⟩, hc4⟩ := hc
      have hc2 := Nat.eq_of_beq_eq_true hc2
      have hc3 := Nat.le_of_ble_eq_true hc3
      obtain ⟨d, l', hd, hn, hpos, h4⟩ := newL_inv h3
      have hpos : 0 < j'.size := Nat.blt_eq.mp hpos
      obtain ⟨ti, q1, q2, q3, q4⟩ := (hC _ _ hj).info
      obtain ⟨v, hv, hzv⟩ := q4 z hz
      have hvn : v = .slice none 0 0 := by
        have : z = .nils := by cases z <;> first | rfl | cases hc1
        subst this
        exact zeroCV_nils hzv
      subst hvn
      have hfill := fill_nils (len := len) (G := G) (U := used w G s o) hps hnl (fun q hq => by rw [List.all_eq_true] at hc4; exact Nat.blt_eq.mp (hc4 q hq))
      obtain ⟨G', s2, t2, hx⟩ := hs.newNst (d := d) (m := j'.size) (n := len) (cap := len) (c := (List.replicate len (Value.slice none 0 0)).toArray) (ty := e) hn hpos (Nat.le_refl _) (by simp) (fun k hk => by simp [hk]) (w' := w.alloc (.cells (List.replicate len (Value.slice none 0 0)).toArray e)) ⟨rfl, rfl, rfl, rfl⟩
      refine ⟨_, _, _, _, h4, OpR.value (hmod ti (.slice none 0 0) q1 hv (List.replicate len (Value.slice none 0 0)) (by rw [hc2]; omega) ?_ (by rw [hc2]; rfl)) s2 t2 hx⟩
      rw [hc2, Nat.mul_one]
      have : (List.range len).map (fun i => (Value.slice none 0 0).cells.toList.toArray[i % 1]!) = List.replicate len (Value.slice none 0 0) := by
        apply List.ext_getElem?
        intro k
        rw [List.getElem?_map, List.getElem?_replicate]
        by_cases hk : k < len
        · rw [List.getElem?_range hk, if_pos hk]; simp [Nat.mod_one, Value.cells]
        · rw [List.getElem?_eq_none (by simp; omega), if_neg hk]; rfl
      rw [this, hm]
      exact hfill
    obtain ⟨xs, s1, o1, l1, G1, h2, g, hxs⟩ := freezeC_ok (w := w) (tmps := a.tmps) ps _ s o _ G _ h1 hs hps
    obtain ⟨hc, h3⟩ := pchk_inv h2
    rw [Bool.and_eq_true, Bool.and_eq_true, Bool.and_eq_true] at hc
    obtain ⟨⟨⟨hc1, hc2⟩, hc3⟩, hc4⟩ := hc
    have hc3 := Nat.le_of_ble_eq_true hc3
    obtain ⟨d, l', hd, hn, hpos, h4⟩ := newL_inv h3
    have hpos : 0 < j.size := Nat.blt_eq.mp hpos
    have hu := (hC _ _ hi).slice htd
    obtain ⟨ti, q1, q2, q3, q4⟩ := (hC _ _ hj).info
    obtain ⟨v, hv, hzv⟩ := q4 z hz
    obtain ⟨_, z2, _, z4, z5⟩ := zCells_of (w := w) (G := G1) (U := used w G1 s1 o1) (I := G1.I) hzv hc2
    have hzl := isN_cells z5
    have hvl : v.cells.toList.length = j.size := by rw [← z4.length]; exact hzl
    obtain ⟨vs', e1, e2, e3, e4, e5, e6⟩ := fillList_ok (m := j.size) (len := len) hxs (fun q hq => by
      refine ⟨?_, ?_⟩
      · unfold allN at hc1
        rw [List.all_eq_true] at hc1
        exact hc1 _ (List.mem_map.mpr ⟨q, hq, rfl⟩)
      · rw [List.all_eq_true] at hc4
        exact Nat.blt_eq.mp (hc4 q hq)) (xs := List.replicate len (zCV z)) (by simp) (fun x hx => by rw [(List.mem_replicate.mp hx).2]; exact hzl) (zeros_of z4 hvl len) (zeros_flat z2 hvl len)
    have hvl' : vs'.length = len * j.size := by rw [e6]; simp
    obtain ⟨G', s2, t2, hx⟩ := g.st.newLst (d := d) (m := j.size) (cap := len) (c := vs'.toArray) (ty := e) hn hpos e3 e4 e5 (by omega) (by simp [hvl']) (fun k v hk => by simpa using hk) (w' := w.alloc (.cells vs'.toArray e)) ⟨rfl, rfl, rfl, rfl⟩
    rw [e2] at hx
    refine ⟨_, _, _, _, h4, OpR.value (hmod ti v q1 hv vs' hc3 ?_ hvl) s2 (g.to.trans t2) hx⟩
    rw [hm]; exact e1
  · cases h
end
end Go.Ev
