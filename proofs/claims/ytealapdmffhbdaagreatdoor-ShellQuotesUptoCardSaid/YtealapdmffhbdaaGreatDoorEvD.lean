/- An interpreter of the model's code that the kernel can run, and the proof that what it answers the model answers, part 4 of 5. No condition. -/
import Derived.Test.YtealapdmffhbdaaGreatDoorEvC
import Derived.MapKept
import Derived.Laws.RangeString
import Derived.Orders
import Derived.Scope
import Derived.LoopN
set_option linter.unusedVariables false
set_option linter.unusedSectionVars false
set_option linter.unusedSimpArgs false
set_option linter.unnecessarySimpa false
/- Calls of functions that write through pointers. -/
namespace Go.Ev
open Go Go.RowKit
variable [Glob]
section
variable {α R : Type} {F : α → S → O → Log → Option R} {r : R} {w w' : World} {P : Program} {C : Cfg} {Q : Orc} {p : Oper} {a : Act} {G G' G'' : Gh} {s s' s'' : S} {o o' o'' : O} {I : Nat → Role} {tmps : Array Value}
theorem St.moveOut (hs : St w G s o tmps) {b : Nat} {g g' : Bool} {cs ys : List AV} {vs : List Value} {ty : TypeId} (hb : s.own b = some (.box g cs)) (hh : w.heap[G.a b]? = some (.cells vs.toArray ty (0, 0))) (hf : Flat vs) (hl : ys.length = vs.length)
    (hy : ∀ (k : Nat) (y : AV) (x : Value), ys[k]? = some y → vs[k]? = some x → OutC w G (outU o) o.length k y x) :
    ∃ G', Es w G s o tmps G' (s.blk b (.moved o.length)).tick (.box g' ys :: o) ∧ G'.o o.length = G.a b := by
  obtain ⟨hI, _⟩ := hs.own b _ hb
  obtain ⟨I', hI1, hI2⟩ : ∃ I' : Nat → Role, I' (G.a b) = .key (.out o.length) ∧ ∀ r, r ≠ G.a b → I' r = G.I r := ⟨fun r => if r = G.a b then .key (.out o.length) else G.I r, if_pos rfl, fun r h => if_neg h⟩
  let G' : Gh := ⟨G.a, G.hd, G.m, fun id => if id = o.length then G.a b else G.o id, G.oh, G.ohf, I', G.hf⟩
  have hne : ∀ r, G.I r ≠ .key (.own b) → r ≠ G.a b := by rintro r hr rfl; exact hr hI
  have hst : Stays G.I I' w w := .mk fun r hr => ⟨rfl, (hI2 r (hne r (by first | exact hr.no | exact hr.key _ | exact fun _ => hr.key _)))⟩
  have hno : ∀ id, id < o.length → G'.o id = G.o id := fun id hid => if_neg (by omega)
  have to : To w G s o w G' (s.blk b (.moved o.length)).tick (.box g' ys :: o) := ⟨(.mk' rfl rfl rfl (Nat.le_refl _) fun r _ hn => ⟨rfl, hI2 r (hne r (hn _))⟩),
    ⟨fun n hn => ⟨by
      show (s.blk b (.moved o.length)).own n ≠ none
      rw [blk_own]; split
      · simp
      · exact hn, rfl, rfl, rfl⟩, fun n hn => ⟨by show n < o.length + 1; have : n < o.length := hn; omega, hno n hn⟩, fun _ _ => rfl, fun id j e v hlo =>
      ⟨by show e ≤ s.gen + 1; have := hlo.1; omega, fun he => by have := hlo.1; have he : e = s.gen + 1 := he; omega⟩⟩, hs.imm⟩
  have hk : G.Keeps G' (outU o) (outU (.box g' ys :: o)) := outU_keeps fun n hn => ⟨by show n < o.length + 1; omega, hno n hn⟩
  refine ⟨G', ⟨hs.step to rfl (fun n => n = b) (fun n => n = o.length) (fun n hn => ?_) ?_ ?_ ?_ (fun n hn => by show n < o.length + 1; omega) ?_ ?_ ?_ ?_, to, by show o.length ≤ o.length + 1; omega⟩, if_pos rfl⟩
  · show (s.blk b (.moved o.length)).own n = _
    rw [blk_own, if_neg hn]
  · rintro r n hn _ _ (h3 | ⟨j, h3⟩)
    · exact ⟨rfl, hI2 r (hne r (by rw [h3]; intro e; exact hn (own_key e)))⟩
    · exact ⟨rfl, hI2 r (hne r (by rw [h3]; simp))⟩
  · intro n hn
    have e : n ≠ b := by rintro rfl; rw [hb] at hn; exact hn
    have e2 : (s.blk b (.moved o.length)).tick.own n = s.own n := by
      show (s.blk b (.moved o.length)).own n = _
      rw [blk_own, if_neg e]
    rw [e2]
    exact ⟨hn, rfl, fun a ys hy => ⟨ys, hy⟩, fun ys hy => .inr ⟨ys, hy⟩⟩
  · rintro n k rfl hk
    have hk : (s.blk n (.moved o.length)).own n = some k := hk
    rw [blk_own, if_pos rfl] at hk
    injection hk with hk; subst hk
    exact ⟨by show o.length < o.length + 1; omega, (if_pos rfl).symm⟩
  · intro id hid hlt
    have hlt : id < o.length + 1 := hlt
    exact ⟨by omega, by rw [get_cons, if_neg hid]⟩
  · rintro r id hid _ (h3 | ⟨j, h3⟩ | ⟨j, h3⟩) <;> exact ⟨rfl, hI2 r (hne r (by rw [h3]; simp))⟩
  · rintro id rfl _
    refine OutR.mk' (b := .box g' ys) (by rw [get_cons, if_pos rfl]) ⟨vs, ty, ?_, ?_, hl.symm, hf, fun j x hx => ?_⟩
    · show I' (if o.length = o.length then G.a b else G.o o.length) = _
      rw [if_pos rfl]; exact hI1
    · show w.heap[(if o.length = o.length then G.a b else G.o o.length)]? = _
      rw [if_pos rfl]; exact hh
    · have hlt : j < vs.length := by rw [← hl]; exact (List.getElem?_eq_some_iff.mp hx).1
      exact ⟨vs[j], List.getElem?_eq_getElem hlt, (hy j x _ hx (List.getElem?_eq_getElem hlt)).frame hk hst (fun r hr => ⟨rfl, (hI2 r (hne r (by rw [hr]; simp))).trans hr⟩)⟩
  · intro r hr
    by_cases e : r = G.a b
    · subst e; exact hs.heap _ (by rw [hI]; simp)
    · exact hs.heap r (by rw [← hI2 r e]; exact hr)
theorem escape_ok : ∀ (n : Nat) (live : Bool) (v : AV), EscP w tmps F r (escape C n live v) v
  | 0, live, v => by intro K s o l G x h; cases h
  | n + 1, live, v => by
    intro K s o l G x h hs hx
    unfold escape at h
    split at h
    · cases hx; exact ⟨_, _, _, _, _, h, .refl hs, .nl⟩
    · cases hx with | ol _ hid => exact ⟨_, _, _, _, _, h, .refl hs, .ol _ hid⟩
    · cases hx with | oe _ _ _ hid => exact ⟨_, _, _, _, _, h, .refl hs, .oe _ _ _ hid⟩
    · cases hx with | om _ hid => exact ⟨_, _, _, _, _, h, .refl hs, .om _ hid⟩
    · cases hx with
      | ifc _ _ v hv =>
        obtain ⟨u, s', o', l', G', h1, g, hu⟩ := escape_ok n live _ _ s o l G v h hs hv
        exact ⟨_, _, _, _, _, h1, g, mkIfc_of hu⟩
    · cases hx with
      | ag _ vs hv hf =>
        obtain ⟨us, s1, o1, l1, G1, h1, g1, hus⟩ := each_esc (escape_ok n false) _ _ s o l G vs h hs hv
        exact ⟨_, _, _, _, _, h1, g1, mkAg_of hus hf⟩
    · split at h
      · cases hx with
        | sl _ hn =>
          obtain ⟨u, s', o', l', G', h1, g, hu, _⟩ := giveO_ok h hs
          exact ⟨_, _, _, _, _, h1, g, hu⟩
      · exact freeze_esc 8 _ K s o _ G _ h hs hx
    · rename_i b k
      split at h
      · have hx' := hx
        cases hx with
        | pt _ _ hb =>
          simp only [Prog.run] at h
          split at h
          · rename_i q g cs hk
            obtain ⟨hI, vs, ty, hh, hvs, hl, hfl⟩ := hs.own b _ hk
            obtain ⟨us, s1, o1, l1, G1, h1, g1, hlen, hus⟩ := eachCell_ok (escape_ok n false) cs _ s o _ G vs h hs hvs
            simp only [Prog.run] at h1
            split at h1
            · rename_i q' g' cs' hk'
              obtain ⟨hI1, _⟩ := g1.st.own b _ hk'
              have ha := (g1.to.keeps.a b hb).2.1
              obtain ⟨ys, s2, o2, l2, G2, k1, g2, hys, k2, k3⟩ := takeLs_ok us _ s1 o1 _ G1 vs h1 g1.st hlen hus
              simp only [Prog.run] at k1
              have hk2 := k2 b g' cs' hk'
              obtain ⟨G3, g3, ho⟩ := g2.st.moveOut (g' := g) hk2 (vs := vs) (ty := ty) (by rw [k3, ha]; exact hh) hfl hys.length (fun k y x hy hx => by
                obtain ⟨x', hx', hr⟩ := hys.get hy
                rw [hx] at hx'; injection hx' with hx'; subst hx'
                exact outC_of hr)
              refine ⟨_, _, _, _, _, k1, (g1.trans g2).trans g3, ?_⟩
              have : G.a b = G3.o o2.length := by rw [ho, k3]; exact ha.symm
              rw [this]
              exact .po _ _ (by show o2.length < o2.length + 1; omega)
            · cases h1
          · rename_i q id hk
            obtain ⟨k1, k2⟩ := hs.own b _ hk
            refine ⟨_, _, _, _, _, h, .refl hs, ?_⟩
            rw [k2]
            exact .po _ _ k1
          · exact freeze_esc 8 _ K s o _ G _ h hs hx'
      · exact freeze_esc 8 _ K s o _ G _ h hs hx
    · rename_i f first capt
      split at h
      · rename_i flags hfl
        cases hx with
        | fn _ _ _ as_ bs ha hb =>
          obtain ⟨vs, s1, o1, l1, G1, h1, g1, hvs⟩ := eachF_esc (fun b v => escape_ok n b v) capt _ _ s o _ G bs h hs hb
          obtain ⟨us, s2, o2, l2, G2, h2, g2, hus⟩ := each_esc (escape_ok n true) first _ s1 o1 _ G1 as_ h1 g1.st (g1.vals ha)
          exact ⟨_, _, _, _, _, h2, g1.trans g2, .fn _ _ _ _ _ hus (g2.outs hvs)⟩
      · exact freeze_esc 8 _ K s o _ G _ h hs hx
    · exact freeze_esc 8 _ K s o _ G _ h hs hx
/-- the caller's memory, as a function finds it that may write outer variables -/
def opnI (I : Nat → Role) (n : Nat) : Nat → Role := fun r => match I r with
  | .imm => .imm
  | .key (.out id) => if id < n then .key (.out id) else .no
  | .key (.hl id j) => if id < n then .key (.hl id j) else .no
  | .keyp m (.out id) => if id < n then .keyp m (.out id) else .pre m
  | .keyp m _ => .pre m
  | .pre m => .pre m
  | _ => .no
theorem opnI_cases (I : Nat → Role) (n r : Nat) : opnI I n r = I r ∨ (opnI I n r = .no ∧ ∃ k, I r = .key k) ∨ ∃ m k, opnI I n r = .pre m ∧ I r = .keyp m k := by
  unfold opnI
  cases e : I r with
  | imm => exact .inl rfl
  | no => exact .inl rfl
  | pre m => exact .inl rfl
  | key k =>
    cases k with
    | out id =>
      by_cases h : id < n
      · exact .inl (if_pos h)
      · exact .inr (.inl ⟨if_neg h, _, rfl⟩)
    | hl id j =>
      by_cases h : id < n
      · exact .inl (if_pos h)
      · exact .inr (.inl ⟨if_neg h, _, rfl⟩)
    | own b => exact .inr (.inl ⟨rfl, _, rfl⟩)
    | el b k => exact .inr (.inl ⟨rfl, _, rfl⟩)
  | keyp m k =>
    cases k with
    | out id =>
      by_cases h : id < n
      · exact .inl (if_pos h)
      · exact .inr (.inr ⟨m, _, if_neg h, rfl⟩)
    | _ => exact .inr (.inr ⟨m, _, rfl, rfl⟩)
theorem opnI_own {I : Nat → Role} {n r : Nat} (h : (∃ b, I r = .key (.own b)) ∨ ∃ b j, I r = .key (.el b j)) : opnI I n r = .no := by
  unfold opnI; rcases h with ⟨b, h⟩ | ⟨b, j, h⟩ <;> rw [h]
theorem opnI_out {I : Nat → Role} {n r id : Nat} (h : I r = .key (.out id)) (hid : id < n) : opnI I n r = .key (.out id) := by unfold opnI; rw [h]; exact if_pos hid
theorem opnI_hl {I : Nat → Role} {n r id j : Nat} (h : I r = .key (.hl id j)) (hid : id < n) : opnI I n r = .key (.hl id j) := by unfold opnI; rw [h]; exact if_pos hid
theorem opnI_lsp {I : Nat → Role} {n r id j : Nat} (h : I r = .keyp j (.out id)) (hid : id < n) : opnI I n r = .keyp j (.out id) := by unfold opnI; rw [h]; exact if_pos hid
theorem self_stays (I : Nat → Role) (n : Nat) (w : World) : Stays I (opnI I n) w w := .up fun r hi hr => by
  rcases opnI_cases I n r with e | ⟨_, k, e⟩ | ⟨m, k, e1, e2⟩
  · rw [e]; exact ⟨hr, fun h => h⟩
  · rw [e] at hr; exact hr.elim
  · rw [e2] at hr ⊢; rw [e1]; exact ⟨hr, fun h => by cases h⟩
theorem self_keeps (G : Gh) (n : Nat) (o : O) : G.Keeps { G with I := opnI G.I n } (outU o) (outU o) := ⟨fun _ (h : False) => h.elim, fun n h => ⟨h, rfl⟩, fun _ _ => rfl, fun _ _ _ _ (h : False) => h.elim⟩
theorem outSt_role (I : Nat → Role) (n r : Nat) : (opnI I n r).free ∨ ∃ id, id < n ∧ (opnI I n r = .key (.out id) ∨ (∃ j, opnI I n r = .key (.hl id j)) ∨ ∃ j, opnI I n r = .keyp j (.out id)) := by
  unfold opnI
  split
  · exact .inl trivial
  · rename_i id e; split
    · exact .inr ⟨id, by assumption, .inl rfl⟩
    · exact .inl trivial
  · rename_i id j e; split
    · exact .inr ⟨id, by assumption, .inr (.inl ⟨j, rfl⟩)⟩
    · exact .inl trivial
  · rename_i m id e; split
    · exact .inr ⟨id, by assumption, .inr (.inr ⟨m, rfl⟩)⟩
    · exact .inl trivial
  · exact .inl trivial
  · exact .inl trivial
  · exact .inl trivial
theorem outSt_self (hs : St w G s o tmps) : OutSt w { G with I := opnI G.I o.length } o := by
  have hst0 := self_stays G.I o.length w
  have hk0 := self_keeps G o.length o
  refine ⟨fun id hid => ?_, fun r hr => ?_, outSt_role G.I o.length, hs.base.mono hst0⟩
  · refine (hs.out id hid).frame hid hk0 hst0 rfl fun r hr => ⟨rfl, ?_⟩
    rcases hr with hr | ⟨j, hr⟩ | ⟨j, hr⟩
    · exact (opnI_out hr hid).trans hr.symm
    · exact (opnI_hl hr hid).trans hr.symm
    · exact (opnI_lsp hr hid).trans hr.symm
  · have hr : opnI G.I o.length r ≠ .no := hr
    rcases opnI_cases G.I o.length r with e | ⟨e, _⟩ | ⟨m, k, _, e⟩
    · exact hs.heap r (by rw [← e]; exact hr)
    · exact absurd e hr
    · exact hs.heap r (by rw [e]; simp)
theorem call_opn (hs : St w G s o tmps) {f : Nat} {xs : List AV} {args : List Value} {r : AV} (hv : AVRs w G (outU o) xs args) (hc : CallC P f xs o r o') :
    Calls P f args.toArray w fun e w' => ∃ v G', e = .returned v ∧ St w' G' s.tick o' tmps ∧ To w G s o w' G' s.tick o' ∧ AVR w' G' (used w' G' s.tick o') r v := by
  have hst0 := self_stays G.I o.length w
  have hk0 := self_keeps G o.length o
  have h0 := outSt_self hs
  refine Calls.mono (hc w _ args h0 (hv.mono hk0 hst0)) ?_
  rintro e w' ⟨v, G', he, h1, h2, h3, h4, h5⟩
  -- what is the caller's own, stands still
  have hsame : ∀ r, r < w.heap.size → (∀ k, opnI G.I o.length r ≠ .key k) → (∀ n k, opnI G.I o.length r ≠ .keyp n k) → w'.heap[r]? = w.heap[r]? ∧ G'.I r = opnI G.I o.length r := fun r hr hn hm => h4.block r hr hn hm
  obtain ⟨I', hI1, hI2⟩ : ∃ I' : Nat → Role, (∀ r, ((∃ b, G.I r = .key (.own b)) ∨ ∃ b j, G.I r = .key (.el b j)) → I' r = G.I r) ∧ ∀ r, ¬ ((∃ b, G.I r = .key (.own b)) ∨ ∃ b j, G.I r = .key (.el b j)) → I' r = G'.I r := by
    classical
    exact ⟨fun r => if (∃ b, G.I r = .key (.own b)) ∨ ∃ b j, G.I r = .key (.el b j) then G.I r else G'.I r, fun r h => if_pos h, fun r h => if_neg h⟩
  have hown : ∀ r, ((∃ b, G.I r = .key (.own b)) ∨ ∃ b j, G.I r = .key (.el b j)) → r < w.heap.size ∧ w'.heap[r]? = w.heap[r]? ∧ G'.I r = .no ∧ I' r = G.I r := fun r h => by
    have hlt := hs.heap r (by rcases h with ⟨b, h⟩ | ⟨b, j, h⟩ <;> rw [h] <;> simp)
    have e := opnI_own (n := o.length) h
    obtain ⟨q1, q2⟩ := hsame r hlt (fun k => by rw [e]; simp) (fun n k => by rw [e]; simp)
    exact ⟨hlt, q1, q2.trans e, hI1 r h⟩
  have hnot : ∀ r, G'.I r ≠ .no → I' r = G'.I r := fun r hr => hI2 r fun h => hr (hown r h).2.2.1
  let G2 : Gh := ⟨G.a, G.hd, G.m, G'.o, G'.oh, G'.ohf, I', G.hf⟩
  have hno : ∀ r, (∀ k, G.I r ≠ .key k) → I' r = G'.I r := fun r hn => hI2 r (by
    rintro (⟨b, h⟩ | ⟨b, j, h⟩)
    · exact hn _ h
    · exact hn _ h)
  have hext : Ext G.I I' w w' := ⟨h4.os, h4.tape, h4.output, h4.size, fun r hr hn hm => by
    have e : opnI G.I o.length r = G.I r := by
      rcases opnI_cases G.I o.length r with e | ⟨_, k, e⟩ | ⟨m, k, _, e⟩
      · exact e
      · exact absurd e (hn k)
      · exact absurd e (hm m k)
    obtain ⟨q1, q2⟩ := hsame r hr (fun k => by rw [e]; exact hn k) (fun n k => by rw [e]; exact hm n k)
    exact ⟨q1, (hno r hn).trans (q2.trans e)⟩, fun r n k hr e => by
    rw [hno r (fun k' h => by rw [e] at h; cases h)]
    rcases opnI_cases G.I o.length r with e' | ⟨_, k', e'⟩ | ⟨m, k', e', e''⟩
    · exact h4.part r n k hr (e'.trans e)
    · rw [e] at e'; cases e'
    · rw [e] at e''; injection e'' with e'' _; subst e''
      obtain ⟨q1, q2⟩ := hsame r hr (fun k => by rw [e']; simp) (fun n k => by rw [e']; simp)
      rw [q2, e']
      exact ⟨Nat.le_refl _, fun c _ => World.cell?_of_block (w := w) (a := ⟨r, c, none⟩) q1⟩⟩
  have to : To w G s o w' G2 s.tick o' := ⟨hext, ⟨fun n hn => ⟨hn, rfl, rfl, rfl⟩, fun n hn => ⟨Nat.lt_of_lt_of_le hn h2, (h3 n hn).1⟩, fun n hn => (h3 n hn).2, fun id j e v hlo =>
      ⟨by show e ≤ s.gen + 1; have := hlo.1; omega, fun he => by have := hlo.1; have he : e = s.gen + 1 := he; omega⟩⟩, hs.imm⟩
  have hst2 : Stays G'.I I' w' w' := .mk fun r hr => ⟨rfl, hnot r hr.no⟩
  have hk2 : G'.Keeps G2 (outU o') (outU o') := ⟨fun _ (h : False) => h.elim, fun n h => ⟨h, rfl⟩, fun _ _ => rfl, fun _ _ _ _ (h : False) => h.elim⟩
  refine ⟨v, G2, he, hs.step to rfl (fun _ => False) (fun _ => True) (fun _ _ => rfl) ?_ ?_ (fun _ _ h => h.elim) (fun n hn => Nat.lt_of_lt_of_le hn h2) (fun _ h => absurd trivial h) (fun _ _ h => absurd trivial h) ?_ ?_, to, (h5.mono hk2 hst2).mono (outU_le _ _ _ _) (.refl _ _)⟩
  · rintro r b _ _ _ h
    obtain ⟨_, q1, _, q2⟩ := hown r (h.imp (fun h => ⟨b, h⟩) (fun ⟨j, h⟩ => ⟨b, j, h⟩))
    exact ⟨q1, q2⟩
  · intro n hn
    exact ⟨hn, rfl, fun a ys hy => ⟨ys, hy⟩, fun ys hy => .inr ⟨ys, hy⟩⟩
  · intro id _ hid
    refine (h1.out id hid).frame hid hk2 hst2 rfl fun r hr => ⟨rfl, hnot r ?_⟩
    rcases hr with hr | ⟨j, hr⟩ | ⟨j, hr⟩ <;> rw [hr] <;> simp
  · intro r hr
    by_cases e : (∃ b, G.I r = .key (.own b)) ∨ ∃ b j, G.I r = .key (.el b j)
    · exact Nat.lt_of_lt_of_le (hown r e).1 h4.size
    · exact h1.heap r (by rw [← hI2 r e]; exact hr)
/-! ### Calls, whole -/
structure OrcF (P : Program) (C : Cfg) (Q : Orc) : Prop where
  clo : ∀ f xs r, Q.clo f xs = some r → CloC P f xs r ∧ ∀ fn, C.fn f = some fn → resOk C fn (.c r) = true
  opn : ∀ f xs o r o', Q.opn f xs o = some (r, o') → CallC P f xs o r o'
theorem callF_ok (hQ : OrcF P C Q) {f : Nat} {xs : List AV} {args : List Value} {K : AV → Prog α} {l : Log} (h : (callF C Q f xs K).run s o l F = some r) (hs : St w G s o tmps) (hv : AVRs w G (used w G s o) xs args) :
    ∃ u s' o' l' fn, (K u).run s' o' l' F = some r ∧ C.fn f = some fn ∧ fn.body.isSome = true ∧ Calls P f args.toArray w fun e w' => ∃ v G', e = .returned v ∧ St w' G' s' o' tmps ∧ To w G s o w' G' s' o' ∧ AVR w' G' (used w' G' s' o') u v := by
  unfold callF at h
  split at h
  · rename_i fn hfn
    obtain ⟨hb, h1⟩ := pchk_inv h
    split at h1
    · split at h1
      · rename_i hpl
        obtain ⟨zs, l1, h2, hz⟩ := seess_ok xs _ _ args h1 hs hv
        obtain ⟨r', hr, h3⟩ := popt_inv h2
        have h3 := lShp_inv h3
        obtain ⟨c1, c2⟩ := hQ.clo _ _ _ hr
        have c3 := c2 fn hfn
        unfold resOk at c3
        rw [hpl] at c3
        exact ⟨_, _, _, _, fn, h3, hfn, hb, call_see hs hz c1 c3⟩
      · split at h1
        · obtain ⟨zs, l1, h2, hz⟩ := seess_ok xs _ _ args h1 hs hv
          obtain ⟨r', hr, h3⟩ := popt_inv h2
          obtain ⟨q, hq, h4⟩ := popt_inv h3
          obtain ⟨c1, c2⟩ := hQ.clo _ _ _ hr
          exact ⟨_, _, _, _, fn, h4, hfn, hb, call_seeB hs hz c1 hq⟩
        · obtain ⟨zs, s1, o1, l1, G1, h2, g, hz⟩ := freezes_ok xs _ s o _ G args h1 hs hv
          obtain ⟨r', hr, h3⟩ := popt_inv h2
          have h3 := lShp_inv h3
          obtain ⟨c1, c2⟩ := hQ.clo _ _ _ hr
          refine ⟨_, _, _, _, fn, h3, hfn, hb, Calls.mono (call_clo g.st hz c1) ?_⟩
          rintro e w' ⟨v, G', he, k1, k2, k3⟩
          exact ⟨v, G', he, k1, g.to.trans k2, k3⟩
    · rename_i fl hfl
      obtain ⟨us, s1, o1, l1, G1, h2, g, hus⟩ := eachF_esc (fun b v => escape_ok (C := C) 8 b v) xs fl _ s o _ G args h1 hs hv
      simp only [Prog.run] at h2
      obtain ⟨q, hq, h3⟩ := popt_inv h2
      have h3 := lShq_inv h3
      simp only [Prog.run] at h3
      refine ⟨_, _, _, _, fn, h3, hfn, hb, Calls.mono (call_opn g.st hus (hQ.opn _ _ _ _ _ hq)) ?_⟩
      rintro e w' ⟨v, G', he, k1, k2, k3⟩
      exact ⟨v, G', he, k1, g.to.trans k2, k3⟩
  · cases h
theorem extA_inv {k : ExtK} {xs : List AV} {K : AV → Prog α} {l : Log} {G : Gh} {args : List Value} (h : (extA k xs K).run s o l F = some r) (hv : AVRs w G (used w G s o) xs args) :
    ∃ t n l', args = [.string t, .int .u8 n] ∧ (K (.c (.int .i64 (extRun k t n)))).run s o l' F = some r := by
  unfold extA at h
  split at h
  · rename_i x y
    obtain ⟨x', rfl, h1⟩ := cv_inv h
    obtain ⟨y', rfl, h2⟩ := cv_inv h1
    obtain ⟨t, rfl, h3⟩ := lStr_inv h2
    obtain ⟨n, rfl, h4⟩ := lInt_inv h3
    cases hv with
    | cons _ u _ us k1 k2 =>
      cases k2 with
      | cons _ u' _ us' k3 k4 =>
        cases k4
        have k1 := k1.c_inv
        have k3 := k3.c_inv
        cases k1
        cases k3
        exact ⟨_, _, _, rfl, h4⟩
  · cases h
theorem ok_call (hQ : OrcF P C Q) (hF : FnOk P C) {ny : Bool} {c : Call} {f : Operand} (hp : p.op = .call c) (hc : c.callee = .value f) : OpOk (α := α) P p fun K => rd ny f fun f => rds ny c.args.toList fun args => callV C Q f args K := by
  intro R F r K w G s o l a h hs
  obtain ⟨v, l1, hv, h1⟩ := rd_inv h
  obtain ⟨xs, l2, hxs, h2⟩ := rds_inv h1
  have hf := opd_of hs hv
  have hargs := opds_of hs hxs
  have app : ∀ {x y : List AV} {u v : List Value}, AVRs w G (used w G s o) x u → AVRs w G (used w G s o) y v → AVRs w G (used w G s o) (x ++ y) (u ++ v) := by
    intro x y u v h1 h2
    induction x generalizing u with
    | nil => cases h1; simpa using h2
    | cons z x ih => cases h1 with | cons _ _ _ _ k1 k2 => exact .cons _ _ _ _ k1 (ih k2)
  have fin : ∀ (g : Nat) (as_ bs : List AV) (first capt : List Value), a.eval f = .func (.func g) first.toArray capt.toArray → AVRs w G (used w G s o) as_ first → AVRs w G (used w G s o) bs capt → (callF C Q g (as_ ++ xs ++ bs) K).run s o l2 F = some r →
      ∃ v s' o' l', (K v).run s' o' l' F = some r ∧ OpR P p a w G s o v s' o' := by
    intro g as_ bs first capt e ha hb hcall
    obtain ⟨u, s', o', l', fn, k1, k2, k3, k4⟩ := callF_ok hQ hcall hs (app (app ha hargs) hb)
    refine ⟨u, s', o', l', k1, OpR.call (f := g) ?_ k4⟩
    rw [exec_call hp hc e hF k2 k3]
    simp
  unfold callV at h2
  split at h2
  · rename_i g first capt
    have hf := hf.c_inv
    generalize hz : a.eval f = z at hf
    cases hf with
    | fn _ _ _ as_ bs ha hb =>
      split at h2
      · exact fin g _ _ as_ bs hz (map_c ha) (map_c hb) h2
      · rename_i k hk
        obtain ⟨t, n, l', e1, h3⟩ := extA_inv h2 (app (app (map_c ha) hargs) (map_c hb))
        refine ⟨_, s, o, l', h3, OpR.pure hs (exec_ext hp hc hz hF hk ?_) (.c _ _ (.int _ _))⟩
        apply Array.ext'
        simpa using e1
  · rename_i g first capt
    generalize hz : a.eval f = z at hf
    cases hf with
    | fn _ _ _ as_ bs ha hb => exact fin g _ _ as_ bs hz ha hb h2
  · cases h2
theorem wrap_ok (t : TypeId) (b : Addr) (x n : ByteArray) : Builtin.ssaWrapNilChk_ #[t] t #[.pointer (some b), .string x, .string n] = pure (.pointer (some b)) := rfl
theorem exec_invoke {c : Call} {rv : Operand} {name : String} (hp : p.op = .call c) (hc : c.callee = .invoke rv name) {t : Nat} {y z : Value} (hr : a.eval rv = .iface t y) {i : TI} (hi : TyIs P t i) {f e : Nat} {ptr : Bool} (hm : i.meth name = some (f, ptr)) (he : i.el = some e)
    (hz : (ptr = true ∧ z = y) ∨ (ptr = false ∧ ∃ b, y = .pointer (some b) ∧ (loadVar e b).run P w = .ok z w)) {fn : Func} (hF : FnOk P C) (hg : C.fn f = some fn) (hb : fn.body.isSome = true) :
    (execOp a.eval p).run P w = .ok (.enter f (#[z] ++ c.args.map a.eval)) w := by
  obtain ⟨h1, h2⟩ := hF _ _ hg
  have h3 : fn.body.isNone = false := by cases hq : fn.body <;> simp_all
  obtain ⟨ti, hti, hmt⟩ := hi.meth
  have hu := hi.el e he
  rw [hmt] at hm
  unfold methOf at hm
  split at hm
  · rename_i m hfind
    split at hm
    · rename_i hpath
      have hpath' : m.path = #[] := by simpa using hpath
      have hfuel : (Made.depth : Nat) = 99 + 1 := rfl
      have hti' : (typeInfo t).run P w = .ok ti w := by
        simp only [typeInfo, Sem.run_bind, run_program, Result.andThen, hti, Sem.run_pure]
      have hrecv : (method (P.types.size + Made.depth) t y name).run P w = .ok (f, z) w := by
        rw [hfuel, ← Nat.add_assoc]
        unfold method
        simp only [Sem.run_bind, hti', Result.andThen, hfind, hpath', List.toList_toArray, Array.toList_empty, follow, Sem.run_pure, hm, receiverAt, run_under hu, Place.get]
        rcases hz with ⟨rfl, rfl⟩ | ⟨rfl, b, rfl, hl⟩
        · rfl
        · simp only [Array.isEmpty_empty, if_true, Sem.run_bind, Sem.run_pure, Result.andThen, strVal, wrap_ok, asAddr, hl]
      have hx : (#[Value.iface t y] ++ c.args.map a.eval)[0]? = some (.iface t y) := by
        rw [Array.getElem?_append_left (by simp)]; rfl
      have hx2 : (#[Value.iface t y] ++ c.args.map a.eval).extract 1 (#[Value.iface t y] ++ c.args.map a.eval).size = c.args.map a.eval := by
        apply Array.ext'
        simp
        exact List.take_of_length_le (by simp)
      simp only [execOp, hp, resolve, hc, hr, invoke, Sem.run_bind, Sem.run_pure, Result.andThen, hx, hx2, callMethod, run_program, hrecv, callFunc, h1]
      simp only [h2, h3, Bool.false_eq_true, if_false, Sem.run_pure]
    · cases hm
  · cases hm
theorem ok_invoke (hC : TyOk P C) (hQ : OrcF P C Q) (hF : FnOk P C) {ny : Bool} {c : Call} {rv : Operand} {name : String} (hp : p.op = .call c) (hc : c.callee = .invoke rv name) : OpOk (α := α) P p fun K => rd ny rv fun v => rds ny c.args.toList fun args => (match v with
        | .c z => .look _ (lIfc z) fun (t, x) => invA C Q t (.c x) name args K
        | .ifc t x => invA C Q t x name args K
        | _ => .fail) := by
  intro R F r K w G s o l a h hs
  obtain ⟨v, l1, hv, h1⟩ := rd_inv h
  obtain ⟨xs, l2, hxs, h2⟩ := rds_inv h1
  have hx := opd_of hs hv
  have hargs := opds_of hs hxs
  have key : ∀ (t : Nat) (x : AV) (y : Value) (l3 : Log), a.eval rv = .iface t y → AVR w G (used w G s o) x y → (invA C Q t x name xs K).run s o l3 F = some r → ∃ v s' o' l', (K v).run s' o' l' F = some r ∧ OpR P p a w G s o v s' o' := by
    intro t x y l3 ev hy h
    unfold invA at h
    obtain ⟨i, hi, h⟩ := tyP_inv h
    split at h
    · rename_i q1 q2 e f he hm
      obtain ⟨u, s', o', l', fn, k1, k2, k3, k4⟩ := callF_ok hQ h hs (.cons _ _ _ _ hy hargs)
      refine ⟨u, s', o', l', k1, OpR.call (f := f) ?_ k4⟩
      rw [exec_invoke hp hc ev (hC _ _ hi) hm he (.inl ⟨rfl, rfl⟩) hF k2 k3]
      simp
    · rename_i q1 q2 e f he hm
      obtain ⟨j, hj, h⟩ := tyP_inv h
      obtain ⟨u0, s1, o1, l4, G1, b, z, h3, hb, hl, hst, hto, hz⟩ := load_ok (hC _ _ hj) x F r _ w G s o _ a.tmps y h hs hy
      obtain ⟨u, s', o', l', fn, k1, k2, k3, k4⟩ := callF_ok hQ h3 hst (.cons _ _ _ _ hz (hargs.mono hto.keeps hto.stays))
      refine ⟨u, s', o', l', k1, OpR.call (f := f) ?_ (Calls.mono k4 ?_)⟩
      · rw [exec_invoke hp hc ev (hC _ _ hi) hm he (.inr ⟨rfl, b, hb, hl⟩) hF k2 k3]
        simp
      · rintro e w' ⟨v, G', he, c1, c2, c3⟩
        exact ⟨v, G', he, c1, hto.trans c2, c3⟩
    · cases h
  split at h2
  · obtain ⟨t, x, rfl, h3⟩ := lIfc_inv h2
    have hx := hx.c_inv
    generalize hz : a.eval rv = z at hx
    cases hx with
    | ifc _ _ y hy => exact key t _ y _ hz (.c _ _ hy) h3
  · generalize hz : a.eval rv = z at hx
    cases hx with
    | ifc _ _ y hy => exact key _ _ y _ hz hy h2
  · cases h2
end
end Go.Ev
/- Maps: outer blocks, of keys and values. -/
namespace Go.Ev
open Go Go.RowKit
variable [Glob]
section
variable {α R : Type} {F : α → S → O → Log → Option R} {r : R} {w : World} {P : Program} {C : Cfg} {Q : Orc} {p : Oper} {a : Act} {G : Gh} {s : S} {o : O} {I : Nat → Role} {tmps : Array Value}
omit [Glob] in
theorem AVRs.push {U : Used} {xs : List AV} {vs : List Value} {y : AV} {v : Value} (h : AVRs w G U xs vs) (hy : AVR w G U y v) : AVRs w G U (xs ++ [y]) (vs ++ [v]) := by
  induction xs generalizing vs with
  | nil => cases h; exact .cons _ _ _ _ hy .nil
  | cons x xs ih => cases h with | cons _ v _ vs h1 h2 => exact .cons _ _ _ _ h1 (ih h2)
theorem St.newMap (hs : St w G s o tmps) : ∃ G', St (w.alloc (.map #[] 0)) G' s.tick (.map [] [] :: o) tmps ∧ To w G s o (w.alloc (.map #[] 0)) G' s.tick (.map [] [] :: o) ∧ G'.o o.length = w.heap.size := by
  obtain ⟨I', hI1, hI2⟩ : ∃ I' : Nat → Role, I' w.heap.size = .key (.out o.length) ∧ ∀ r, r ≠ w.heap.size → I' r = G.I r := ⟨fun r => if r = w.heap.size then .key (.out o.length) else G.I r, if_pos rfl, fun r h => if_neg h⟩
  let G' : Gh := ⟨G.a, G.hd, G.m, fun id => if id = o.length then w.heap.size else G.o id, G.oh, G.ohf, I', G.hf⟩
  have hne : ∀ r, G.I r ≠ .no → r ≠ w.heap.size := fun r hr e => absurd (hs.heap r hr) (by omega)
  have hold : ∀ r, r < w.heap.size → (w.alloc (.map #[] 0)).heap[r]? = w.heap[r]? := (MapKept.heap_alloc w _).2
  have hkeep : ∀ r, G.I r ≠ .no → (w.alloc (.map #[] 0)).heap[r]? = w.heap[r]? ∧ I' r = G.I r := fun r hr => ⟨hold r (hs.heap r hr), hI2 r (hne r hr)⟩
  have hst : Stays G.I I' w (w.alloc (.map #[] 0)) := .mk fun r hr => ⟨(hkeep r (by first | exact hr.no | exact hr.key _ | exact fun _ => hr.key _)).1, (hkeep r (by first | exact hr.no | exact hr.key _ | exact fun _ => hr.key _)).2⟩
  have hno : ∀ id, id < o.length → G'.o id = G.o id := fun id hid => if_neg (by omega)
  have hsz : (w.alloc (.map #[] 0)).heap.size = w.heap.size + 1 := by show (w.heap.push _).size = _; simp
  have to : To w G s o (w.alloc (.map #[] 0)) G' s.tick (.map [] [] :: o) := ⟨.mk' rfl rfl rfl (by rw [hsz]; omega) (fun r hr _ => ⟨hold r hr, hI2 r (by omega)⟩),
    ⟨fun n hn => ⟨hn, rfl, rfl, rfl⟩, fun n hn => ⟨by show n < o.length + 1; have : n < o.length := hn; omega, hno n hn⟩, fun _ _ => rfl, fun id j e v hlo =>
      ⟨by show e ≤ s.gen + 1; have := hlo.1; omega, fun he => by have := hlo.1; have he : e = s.gen + 1 := he; omega⟩⟩, hs.imm⟩
  refine ⟨G', hs.step to rfl (fun _ => False) (fun n => n = o.length) (fun _ _ => rfl) ?_ (fun n hn => ⟨hn, rfl, fun a ys hy => ⟨ys, hy⟩, fun ys hy => .inr ⟨ys, hy⟩⟩) (fun _ _ h => h.elim) (fun n hn => by show n < o.length + 1; omega) ?_ ?_ ?_ ?_, to, if_pos rfl⟩
  · rintro r n _ _ _ (h3 | ⟨j, h3⟩) <;> exact hkeep r (by rw [h3]; simp)
  · intro id hid hlt
    have hlt : id < o.length + 1 := hlt
    exact ⟨by omega, by rw [get_cons, if_neg hid]⟩
  · rintro r id hid _ (h3 | ⟨j, h3⟩ | ⟨j, h3⟩) <;> exact hkeep r (by rw [h3]; simp)
  · rintro id rfl _
    refine OutR.mk' (b := .map [] []) (by rw [get_cons, if_pos rfl]) ⟨#[], 0, ?_, ?_, .nil, .nil⟩
    · show I' (if o.length = o.length then w.heap.size else G.o o.length) = _
      rw [if_pos rfl]; exact hI1
    · show (w.alloc (.map #[] 0)).heap[(if o.length = o.length then w.heap.size else G.o o.length)]? = _
      rw [if_pos rfl]; exact (MapKept.heap_alloc w _).1
  · intro r hr
    rw [hsz]
    by_cases e : r = w.heap.size
    · omega
    · have := hs.heap r (by rw [← hI2 r e]; exact hr); omega
theorem St.newIter (hs : St w G s o tmps) (t : ByteArray) : ∃ G', St (w.alloc (.stringIter t 0)) G' s.tick (.iter t 0 :: o) tmps ∧ To w G s o (w.alloc (.stringIter t 0)) G' s.tick (.iter t 0 :: o) ∧ G'.o o.length = w.heap.size := by
  obtain ⟨I', hI1, hI2⟩ : ∃ I' : Nat → Role, I' w.heap.size = .key (.out o.length) ∧ ∀ r, r ≠ w.heap.size → I' r = G.I r := ⟨fun r => if r = w.heap.size then .key (.out o.length) else G.I r, if_pos rfl, fun r h => if_neg h⟩
  let G' : Gh := ⟨G.a, G.hd, G.m, fun id => if id = o.length then w.heap.size else G.o id, G.oh, G.ohf, I', G.hf⟩
  have hne : ∀ r, G.I r ≠ .no → r ≠ w.heap.size := fun r hr e => absurd (hs.heap r hr) (by omega)
  have hold : ∀ r, r < w.heap.size → (w.alloc (.stringIter t 0)).heap[r]? = w.heap[r]? := (MapKept.heap_alloc w _).2
  have hkeep : ∀ r, G.I r ≠ .no → (w.alloc (.stringIter t 0)).heap[r]? = w.heap[r]? ∧ I' r = G.I r := fun r hr => ⟨hold r (hs.heap r hr), hI2 r (hne r hr)⟩
  have hst : Stays G.I I' w (w.alloc (.stringIter t 0)) := .mk fun r hr => ⟨(hkeep r (by first | exact hr.no | exact hr.key _ | exact fun _ => hr.key _)).1, (hkeep r (by first | exact hr.no | exact hr.key _ | exact fun _ => hr.key _)).2⟩
  have hno : ∀ id, id < o.length → G'.o id = G.o id := fun id hid => if_neg (by omega)
  have hsz : (w.alloc (.stringIter t 0)).heap.size = w.heap.size + 1 := by show (w.heap.push _).size = _; simp
  have to : To w G s o (w.alloc (.stringIter t 0)) G' s.tick (.iter t 0 :: o) := ⟨.mk' rfl rfl rfl (by rw [hsz]; omega) (fun r hr _ => ⟨hold r hr, hI2 r (by omega)⟩),
    ⟨fun n hn => ⟨hn, rfl, rfl, rfl⟩, fun n hn => ⟨by show n < o.length + 1; have : n < o.length := hn; omega, hno n hn⟩, fun _ _ => rfl, fun id j e v hlo =>
      ⟨by show e ≤ s.gen + 1; have := hlo.1; omega, fun he => by have := hlo.1; have he : e = s.gen + 1 := he; omega⟩⟩, hs.imm⟩
  refine ⟨G', hs.step to rfl (fun _ => False) (fun n => n = o.length) (fun _ _ => rfl) ?_ (fun n hn => ⟨hn, rfl, fun a ys hy => ⟨ys, hy⟩, fun ys hy => .inr ⟨ys, hy⟩⟩) (fun _ _ h => h.elim) (fun n hn => by show n < o.length + 1; omega) ?_ ?_ ?_ ?_, to, if_pos rfl⟩
  · rintro r n _ _ _ (h3 | ⟨j, h3⟩) <;> exact hkeep r (by rw [h3]; simp)
  · intro id hid hlt
    have hlt : id < o.length + 1 := hlt
    exact ⟨by omega, by rw [get_cons, if_neg hid]⟩
  · rintro r id hid _ (h3 | ⟨j, h3⟩ | ⟨j, h3⟩) <;> exact hkeep r (by rw [h3]; simp)
  · rintro id rfl _
    refine OutR.mk' (b := .iter t 0) (by rw [get_cons, if_pos rfl]) ⟨?_, ?_⟩
    · show I' (if o.length = o.length then w.heap.size else G.o o.length) = _
      rw [if_pos rfl]; exact hI1
    · show (w.alloc (.stringIter t 0)).heap[(if o.length = o.length then w.heap.size else G.o o.length)]? = _
      rw [if_pos rfl]; exact (MapKept.heap_alloc w _).1
  · intro r hr
    rw [hsz]
    by_cases e : r = w.heap.size
    · omega
    · have := hs.heap r (by rw [← hI2 r e]; exact hr); omega
theorem ok_makeMap {t : Nat} {rv : Option Operand} (hp : p.op = .makeMap t rv) : OpOk (α := α) P p fun K => newM rv K := by
  intro R F r K w G s o l a h hs
  cases rv with
  | some _ => cases h
  | none =>
    simp only [Prog.run] at h
    obtain ⟨G', s1, t1, e⟩ := hs.newMap
    refine ⟨_, _, _, _, h, OpR.value (x := .map (some w.heap.size)) ?_ s1 t1 ?_⟩
    · simp only [execOp, hp, Option.map_none]
      refine run_v ?_
      simp only [Instr.makeMap, Sem.run_bind, run_new_alloc, Result.andThen, Sem.run_pure]
    · rw [← e]; exact .om _ (by show o.length < o.length + 1; omega)
omit [Glob] in
theorem kbeq_of {a b : IntKind} (h : kbeq a b = true) : a = b := by cases a <;> cases b <;> first | rfl | cases h
omit [Glob] in
theorem keyOk_is {d : TypeDesc} {k : CV} {v : Value} (h : keyOk (tdOf d) k = true) (hv : VR w I k v) : MapKept.IsKey d v := by
  cases d with
  | int kk =>
    cases k <;> first | cases h | skip
    cases hv
    exact kbeq_of h
  | string =>
    cases k <;> first | cases h | skip
    cases hv
    trivial
  | _ => cases k <;> cases h
omit [Glob] in
theorem bytes_list (x y : ByteArray) : (x.data.toList == y.data.toList) = (x == y) := by
  rw [Bool.eq_iff_iff, MapKept.bytes_beq, beq_iff_eq]
  constructor
  · intro h
    obtain ⟨x⟩ := x
    obtain ⟨y⟩ := y
    have h : x.toList = y.toList := h
    rw [Array.toList_inj] at h
    rw [h]
  · rintro rfl; rfl
omit [Glob] in
theorem sameK_is {d : TypeDesc} {x y : CV} {u v : Value} {b : Bool} (h : sameK (tdOf d) x y = some b) (hx : VR w I x u) (hy : VR w I y v) : Instr.sameNow d u v = some b := by
  cases d with
  | int kk =>
    cases x <;> first | cases h | skip
    cases y <;> first | cases h | skip
    cases hx; cases hy
    simp only [tdOf, sameK] at h
    split at h
    · rename_i e
      injection h with h
      simp only [Instr.sameNow, kbeq_of e, if_true, h]
    · cases h
  | string =>
    cases x <;> first | contradiction | skip
    cases y <;> first | contradiction | skip
    rename_i s1 s2
    have h := Option.some.inj (show some (s1.data.toList == s2.data.toList) = some b from h)
    cases hx; cases hy
    show some (s1 == s2) = some b
    rw [← h, bytes_list]
  | _ => cases x <;> cases h
theorem findK_is {U : Used} {d : TypeDesc} {k : CV} {kv : Value} (hk : VR w G.I k kv) : ∀ {ks : List CV} {vs : List AV} {es : List MapEntry} {q : Option AV} (i : Nat), findK (tdOf d) k ks vs = some q →
    VRs w G.I ks (es.map (·.key)) → AVRs w G U vs (es.map (·.val)) → ∃ x, Instr.findNow d kv es i = some x ∧ (q = none → x = none) ∧ ∀ v, q = some v → ∃ n y, x = some (n, y) ∧ AVR w G U v y
  | [], vs, es, q, i, h, h1, h2 => by
    simp only [findK] at h
    injection h with h; subst h
    cases es with
    | nil => exact ⟨none, rfl, fun _ => rfl, (fun v e => by cases e)⟩
    | cons e es => cases h1
  | x :: ks, [], es, q, i, h, h1, h2 => by cases h
  | x :: ks, v :: vs, [], q, i, h, h1, h2 => by cases h1
  | x :: ks, v :: vs, e :: es, q, i, h, h1, h2 => by
    cases h1 with
    | cons _ _ _ _ a1 a2 =>
    cases h2 with
    | cons _ _ _ _ b1 b2 =>
    simp only [findK] at h
    split at h
    · rename_i hh
      injection h with h; subst h
      refine ⟨some (i, e.val), ?_, (fun e => by cases e), fun u hu => ?_⟩
      · simp only [Instr.findNow, sameK_is hh hk a1]
      · injection hu with hu; subst hu; exact ⟨_, _, rfl, b1⟩
    · rename_i hh
      obtain ⟨y, c1, c2, c3⟩ := findK_is hk (i + 1) h a2 b2
      refine ⟨y, ?_, c2, c3⟩
      simp only [Instr.findNow, sameK_is hh hk a1]
      exact c1
    · cases h
theorem VRs.push {xs : List CV} {vs : List Value} {y : CV} {v : Value} (h : VRs w I xs vs) (hy : VR w I y v) : VRs w I (xs ++ [y]) (vs ++ [v]) := h.append (.cons _ _ _ _ hy .nil)
omit [Glob] in
theorem AVR.om_inv {U : Used} {id : Nat} {v : Value} (h : AVR w G U (.om id) v) : U.out id ∧ v = .map (some (G.o id)) := by
  cases h with | om _ hid => exact ⟨hid, rfl⟩
theorem ok_insert (hC : TyOk P C) {ny : Bool} {t : Nat} {x y z : Operand} (hp : p.op = .insert t x y z ∨ p.op = .mapUpdate t x y z) :
    OpOk (α := α) P p fun K => tyP C t fun i => rd ny x fun m => rdc ny y fun k => rd ny z fun v => insA C i m k v K := by
  intro R F r K w G s o l a h hs
  obtain ⟨i, hi, h⟩ := tyP_inv h
  have h0 := h
  obtain ⟨m, l1, hm, h1⟩ := rd_inv h0
  obtain ⟨k, l2, hk, h2⟩ := rdc_inv h1
  obtain ⟨v, l3, hv, h3⟩ := rd_inv h2
  have hmR := opd_of hs hm
  have hkR := (opd_of hs hk).c_inv
  have hvR := opd_of hs hv
  unfold insA at h3
  split at h3
  · rename_i kt et id htd
    obtain ⟨j, hj, h4⟩ := tyP_inv h3
    obtain ⟨hkey, h5⟩ := pchk_inv h4
    obtain ⟨u, s1, o1, l4, G1, h6, g, hu⟩ := escape_ok (w := w) (tmps := a.tmps) 8 false v _ s o _ G _ h5 hs hvR
    simp only [Prog.run] at h6
    split at h6
    · rename_i q0 ks vs hget
      obtain ⟨q, hq, h7⟩ := popt_inv h6
      split at h7
      · rename_i hnone
        simp only [Prog.run] at h7
        have hid1 := get_lt hget
        obtain ⟨es, clock, b1, b2, b3, b4⟩ := (g.st.out id hid1).is hget
        obtain ⟨d, d1, d2⟩ := (hC _ _ hi).under
        rw [htd] at d2
        have d2 := tdOf_map d2
        subst d2
        obtain ⟨kd, e1, e2⟩ := (hC _ _ hj).under
        rw [← e2] at hkey hq
        have hkR1 : VR w G1.I k (a.eval y) := hkR.mono g.to.stays
        have hik := keyOk_is (w := w) (I := G1.I) hkey hkR1
        obtain ⟨xx, f1, f2, _⟩ := findK_is hkR1 0 hq b3 b4
        have f3 := f2 rfl
        subst f3
        have ho : G1.o id = G.o id := by
          exact (g.to.keeps.o id hmR.om_inv.1).2
        have hmap : a.eval x = .map (some (G.o id)) := hmR.om_inv.2
        have hne : ∀ r, G1.I r ≠ .key (.out id) → r ≠ G1.o id := by rintro r hr rfl; exact hr b1
        let w1 : World := { w with heap := w.heap.setIfInBounds (G1.o id) (.map (es.push { key := a.eval y, val := a.eval z, born := clock }) (clock + 1)) }
        have hset := MapKept.heap_set (w := w) (o' := .map (es.push { key := a.eval y, val := a.eval z, born := clock }) (clock + 1)) b2
        have hst : Stays G1.I G1.I w w1 := .mk fun r hr => ⟨hset.2 r (hne r (by first | exact hr.no | exact hr.key _ | exact fun _ => hr.key _)), rfl⟩
        have hsz : w1.heap.size = w.heap.size := by show (w.heap.setIfInBounds _ _).size = _; simp
        obtain ⟨s2, t2⟩ := g.st.outer (w' := w1) (I' := G1.I) (k := .map (ks ++ [k]) (vs ++ [u])) hid1 (.mk' rfl rfl rfl (by rw [hsz]; omega) fun r _ hn => ⟨hset.2 r (hne r (hn _)), rfl⟩) (fun r _ h2 _ => ⟨hset.2 r (hne r h2), rfl⟩)
          (fun to => OutR.mk' (b := .map (ks ++ [k]) (vs ++ [u])) (by rw [put_get hid1, if_pos rfl]) ⟨_, _, b1, hset.1, by
              simp only [Array.toList_push, List.map_append, List.map_cons, List.map_nil]
              exact (b3.mono hst).push (hkR1.mono hst), by
              simp only [Array.toList_push, List.map_append, List.map_cons, List.map_nil]
              have hkk : G1.Keeps { G1 with I := G1.I } (outU o1) (outU (o1.put id (.map (ks ++ [k]) (vs ++ [u])))) := outU_keeps fun n hn => ⟨by rw [put_len]; exact hn, rfl⟩
              exact (b4.mono hkk hst).push (hu.mono hkk hst)⟩) (fun r hr => by rw [hsz]; exact g.st.heap r hr)
        refine ⟨_, _, _, _, h7, OpR.skip ?_ s2 (g.to.trans t2) (.c _ _ (.tp [] [] .nil))⟩
        have hrun : (Instr.mapUpdate t (a.eval x) (a.eval y) (a.eval z)).run P w = .ok () w1 := by
          rw [hmap, ← ho]
          simp only [Instr.mapUpdate, Sem.run_bind, run_under d1, Result.andThen, MapKept.run_getObj_map b2, MapKept.run_checkKey e1 hik, MapKept.run_findKey e1 f1, MapKept.run_setObj_map _ b2]
          rfl
        rcases hp with hp | hp <;> simp only [execOp, hp, Sem.run_bind, hrun, Result.andThen, Sem.run_pure]
      · cases h7
    · cases h6
  · cases h3
theorem zCV_of {v : Value} {z : CV} {n : Nat} (h : zeroCV v = some z) (hz : z.isN n = true) : VR w I (zCV z) v := by
  unfold zeroCV at h
  split at h
  · rename_i cs
    split at h
    · rename_i xs hx
      injection h with h; subst h
      have h1 := (zCells_of (w := w) (G := ⟨fun _ => 0, fun _ => .nilFunc, fun _ => 0, fun _ => 0, fun _ => (.nilFunc, 0), fun _ => rfl, I, fun _ => rfl⟩) (U := ⟨fun _ => False, fun _ => False, fun _ _ _ _ => False⟩) (I := I) (v := .agg cs) (z := .ag xs) (n := n) (by simp [zeroCV, hx]) hz).2.2.2.1
      have h2 : VR w I (zCV (.ag xs)) (.agg cs.toList.toArray) := .ag _ _ h1 (cvsOf_flat hx)
      rw [Array.toArray_toList] at h2
      exact h2
    · cases h
  · split at h
    · split at h
      · injection h with h; subst h; cases hz
      · cases h
    · split at h
      · injection h with h; subst h; cases hz
      · cases h
    · cases h
  · rename_i h1 h2
    rcases cvOf_nils h with ⟨rfl, rfl⟩ | ⟨hn, hh⟩
    · exact (zCells_of (w := w) (G := ⟨fun _ => 0, fun _ => .nilFunc, fun _ => 0, fun _ => 0, fun _ => (.nilFunc, 0), fun _ => rfl, I, fun _ => rfl⟩) (U := ⟨fun _ => False, fun _ => False, fun _ _ _ _ => False⟩) (I := I) (v := .slice none 0 0) (z := .nils) (n := n) rfl hz).2.2.2.1 |> fun h => by
        cases h with | cons _ _ _ _ h _ => exact h
    · have e2 : zCV z = z := by
        cases z <;> first | rfl | exact absurd rfl hn | skip
        rename_i cs
        unfold cvOf at h
        split at h <;> cases h
      rw [e2]; exact hh w I
theorem okR_of {U : Used} {ok t : Bool} {v : AV} {x : Value} (h : AVR w G U v x) : AVR w G U (okR ok v t) (if ok then .tuple #[x, .bool t] else x) := by
  cases ok with
  | true => exact mkTp_of (.cons _ _ _ _ h (.cons _ _ _ _ (.c _ _ (.bool _)) .nil))
  | false => exact h
theorem ok_lookup (hC : TyOk P C) {ny : Bool} {t : Nat} {x y : Operand} {ok : Bool} (hp : p.op = .lookup t x y ok) :
    OpOk (α := α) P p fun K => tyP C t fun i => rd ny x fun m => rdc ny y fun k => lookA C i m k ok K := by
  intro R F r K w G s o l a h hs
  obtain ⟨i, hi, h⟩ := tyP_inv h
  have h0 := h
  obtain ⟨m, l1, hm, h1⟩ := rd_inv h0
  obtain ⟨k, l2, hk, h2⟩ := rdc_inv h1
  have hmR := opd_of hs hm
  have hkR := (opd_of hs hk).c_inv
  unfold lookA at h2
  split at h2
  · rename_i kt et id htd
    obtain ⟨j, hj, h4⟩ := tyP_inv h2
    obtain ⟨hkey, h5⟩ := pchk_inv h4
    simp only [Prog.run] at h5
    split at h5
    · rename_i q0 ks vs hget
      obtain ⟨q, hq, h7⟩ := popt_inv h5
      obtain ⟨es, clock, b1, b2, b3, b4⟩ := (hs.out id (get_lt hget)).is hget
      obtain ⟨d, d1, d2⟩ := (hC _ _ hi).under
      rw [htd] at d2
      have d2 := tdOf_map d2
      subst d2
      obtain ⟨kd, e1, e2⟩ := (hC _ _ hj).under
      rw [← e2] at hkey hq
      have hik := keyOk_is hkey hkR
      obtain ⟨xx, f1, f2, f3⟩ := findK_is hkR 0 hq b3 (b4.mono (outU_le w G s o) (.refl _ _))
      have hmap : a.eval x = .map (some (G.o id)) := hmR.om_inv.2
      split at h7
      · have f2 := f2 rfl
        subst f2
        obtain ⟨j', hj', h8⟩ := tyP_inv h7
        obtain ⟨z, hz, h9⟩ := zeroOf_inv h8
        obtain ⟨hzn, h10⟩ := pchk_inv h9
        obtain ⟨ti, q1, q2, q3, q4⟩ := (hC _ _ hj').info
        obtain ⟨zv, hzv, hzc⟩ := q4 z hz
        refine ⟨_, _, _, _, h10, OpR.pure hs ?_ (okR_of (.c _ _ (zCV_of hzc hzn)))⟩
        simp only [execOp, hp]
        refine run_v ?_
        rw [hmap]
        simp only [Instr.lookup, Sem.run_bind, run_under d1, Result.andThen, MapKept.run_getObj_map b2, Sem.run_pure, MapKept.run_checkKey e1 hik, MapKept.run_findKey e1 f1, run_zero q1 hzv]
      · obtain ⟨n, yv, rfl, hy⟩ := f3 _ rfl
        refine ⟨_, _, _, _, h7, OpR.pure hs ?_ (okR_of hy)⟩
        simp only [execOp, hp]
        refine run_v ?_
        rw [hmap]
        simp only [Instr.lookup, Sem.run_bind, run_under d1, Result.andThen, MapKept.run_getObj_map b2, Sem.run_pure, MapKept.run_checkKey e1 hik, MapKept.run_findKey e1 f1]
    · cases h5
  · cases h2
theorem bytes_at {t : ByteArray} {pos : Nat} {b : UInt8} (h : t.data.toList[pos]? = some b) : ∃ h : pos < t.size, t[pos]'h = b := by
  obtain ⟨⟨l⟩⟩ := t
  have h : l[pos]? = some b := h
  obtain ⟨h1, h2⟩ := List.getElem?_eq_some_iff.mp h
  exact ⟨h1, h2⟩
theorem ok_range (hC : TyOk P C) {ny : Bool} {t : Nat} {x : Operand} (hp : p.op = .range t x) : OpOk (α := α) P p fun K => tyP C t fun i => rd ny x fun v => rangeA i v K := by
  intro R F r K w G s o l a h hs
  obtain ⟨i, hi, h⟩ := tyP_inv h
  obtain ⟨v, l', hv, h1⟩ := rd_inv h
  have hx := opd_of hs hv
  unfold rangeA at h1
  split at h1
  · rename_i htd
    obtain ⟨z, rfl, h2⟩ := cv_inv h1
    obtain ⟨u, rfl, h3⟩ := lStr_inv h2
    have hx := hx.c_inv
    generalize hev : a.eval x = y at hx
    cases hx
    simp only [Prog.run] at h3
    obtain ⟨G', s1, t1, e⟩ := hs.newIter u
    refine ⟨_, _, _, _, h3, OpR.value (x := .pointer (some ⟨w.heap.size, 0, none⟩)) ?_ s1 t1 ?_⟩
    · simp only [execOp, hp]
      refine run_v ?_
      rw [hev]
      simp only [Instr.range, Sem.run_bind, run_under ((hC _ _ hi).str htd), run_new_alloc, Result.andThen, Sem.run_pure]
    · rw [← e]; exact .po _ 0 (by show o.length < o.length + 1; omega)
  · cases h1
theorem ok_next {ny : Bool} {x : Operand} {isS : Bool} (hp : p.op = .next x isS) : OpOk (α := α) P p fun K => rd ny x fun v => nextA v isS K := by
  intro R F r K w G s o l a h hs
  obtain ⟨v, l', hv, h1⟩ := rd_inv h
  have hx := opd_of hs hv
  unfold nextA at h1
  split at h1
  · rename_i id
    simp only [Prog.run] at h1
    split at h1
    · rename_i q t pos hget
      have hid := get_lt hget
      obtain ⟨b1, b2⟩ := (hs.out id hid).is hget
      have hptr : a.eval x = .pointer (some ⟨G.o id, 0, none⟩) := by
        generalize a.eval x = y at hx
        cases hx; rfl
      change (match t.data.toList[pos]? with | none => _ | some b => chk (Nat.blt b.toNat 128) _) = some r at h1
      cases hbb : t.data.toList[pos]? with
      | none =>
        rw [hbb] at h1
        have hn := hbb
        have hsz : ¬ pos < t.size := fun hlt => by
          obtain ⟨⟨l⟩⟩ := t
          have hn : l[pos]? = none := hn
          have hlt : pos < l.length := hlt
          rw [List.getElem?_eq_getElem hlt] at hn
          cases hn
        have hg : (getObj (G.o id)).run P w = .ok (.stringIter t pos) w := by simp only [getObj, Sem.run, b2]
        refine ⟨_, _, _, _, h1, OpR.pure hs (x := .tuple #[.bool false]) ?_ (.c _ _ (.tp [.bool false] [.bool false] (.cons _ _ _ _ (.bool _) .nil)))⟩
        simp only [execOp, hp]
        refine run_v ?_
        rw [hptr]
        simp only [Instr.next, Sem.run_bind, hg, Result.andThen, if_neg hsz, Sem.run_pure]
      | some b =>
        rw [hbb] at h1
        have hb := hbb
        obtain ⟨hlt, h2⟩ := chk_inv h1
        obtain ⟨hps, hbe⟩ := bytes_at hb
        have hdec := decode_ascii t pos hps (by rw [hbe]; exact Nat.blt_eq.mp hlt)
        rw [hbe] at hdec
        simp only [Prog.run] at h2
        let w1 : World := { w with heap := w.heap.setIfInBounds (G.o id) (.stringIter t (pos + 1)) }
        have hset := MapKept.heap_set (w := w) (o' := .stringIter t (pos + 1)) b2
        have hne : ∀ r, G.I r ≠ .key (.out id) → r ≠ G.o id := by rintro r hr rfl; exact hr b1
        have hsz : w1.heap.size = w.heap.size := by show (w.heap.setIfInBounds _ _).size = _; simp
        obtain ⟨s2, t2⟩ := hs.outer (w' := w1) (I' := G.I) (k := .iter t (pos + 1)) hid (.mk' rfl rfl rfl (by rw [hsz]; omega) fun r _ hn => ⟨hset.2 r (hne r (hn _)), rfl⟩) (fun r _ h2 _ => ⟨hset.2 r (hne r h2), rfl⟩)
          (fun to => OutR.mk' (b := .iter t (pos + 1)) (by rw [put_get hid, if_pos rfl]) ⟨b1, hset.1⟩) (fun r hr => by rw [hsz]; exact hs.heap r hr)
        refine ⟨_, _, _, _, h2, OpR.value (x := .tuple #[.bool true, .int .i64 pos, .int .i32 b.toNat]) ?_ s2 t2 (.c _ _ (.tp [.bool true, .int .i64 pos, .int .i32 b.toNat] [.bool true, .int .i64 pos, .int .i32 b.toNat] (.cons _ _ _ _ (.bool _) (.cons _ _ _ _ (.int _ _) (.cons _ _ _ _ (.int _ _) .nil)))))⟩
        simp only [execOp, hp]
        refine run_v ?_
        rw [hptr]
        have hg : (getObj (G.o id)).run P w = .ok (.stringIter t pos) w := by simp only [getObj, Sem.run, b2]
        have hw : (setObj (G.o id) (.stringIter t (pos + 1))).run P w = .ok () w1 := by simp only [setObj, Sem.run, b2]; rfl
        simp only [Instr.next, Sem.run_bind, hg, Result.andThen, if_pos hps, hdec, hw, Sem.run_pure]
        rfl
    · cases h1
  · cases h1
end
end Go.Ev
/- Operations, whole. -/
namespace Go.Ev
open Go Go.RowKit
variable [Glob]
section
variable {α : Type} {P : Program} {C : Cfg} {Q : Orc} {p : Oper}
theorem evOp_ok (hC : TyOk P C) (hF : FnOk P C) (hQ : OrcF P C Q) (ny : Bool) (all : List Oper) : OpOk (α := α) P p (evOp C Q ny all p) := by
  intro R F r K w G s o l a h hs
  unfold evOp at h
  split at h
  · rename_i x hp; exact ok_move (.inl hp) F r K w G s o l a h hs
  · rename_i x hp; exact ok_move (.inr hp) F r K w G s o l a h hs
  · rename_i c x y hp; exact ok_pick hp F r K w G s o l a h hs
  · rename_i e hp; exact ok_alloc hC hp F r K w G s o l a h hs
  · rename_i e x hp; exact ok_box hC hp F r K w G s o l a h hs
  · rename_i t parts hp; exact ok_build hC hp F r K w G s o l a h hs
  · rename_i t len parts hp; exact ok_buildSlice hC hp F r K w G s o l a h hs
  · rename_i t x hp
    obtain ⟨i, hi, _⟩ := tyP_inv h
    exact ok_load hp hi (load_ok (hC _ _ hi)) F r K w G s o l a h hs
  · rename_i t x y hp
    obtain ⟨i, hi, _⟩ := tyP_inv h
    exact ok_store hp hi (store_ok (hC _ _ hi)) F r K w G s o l a h hs
  · rename_i x hp; exact ok_nilCheck hp F r K w G s o l a h hs
  · rename_i op t x y t' hp; exact ok_binOp hC hp F r K w G s o l a h hs
  · rename_i op t x hp; exact ok_unOp hp F r K w G s o l a h hs
  · rename_i t t' x hp; exact ok_convert hC hp F r K w G s o l a h hs
  · rename_i t x hp; exact ok_makeInterface hC hp F r K w G s o l a h hs
  · rename_i f x y hp; exact ok_makeFunc hp F r K w G s o l a h hs
  · rename_i t x y hp; exact ok_makeSlice hC hp F r K w G s o l a h hs
  · rename_i t x lo hi mx hp; exact ok_sliceB hC hp F r K w G s o l a h hs
  · rename_i t x f hp; exact ok_fieldAddr hC hp F r K w G s o l a h hs
  · rename_i t x f hp; exact ok_field hC hp F r K w G s o l a h hs
  · rename_i t x k hp; exact ok_indexAddr hC hp F r K w G s o l a h hs
  · rename_i t x k hp; exact ok_index hC hp F r K w G s o l a h hs
  · rename_i x q t ok hp; exact ok_typeAssert hC hp F r K w G s o l a h hs
  · rename_i t rv hp; exact ok_makeMap hp F r K w G s o l a h hs
  · rename_i t x hp; exact ok_range hC hp F r K w G s o l a h hs
  · rename_i x isS hp; exact ok_next hp F r K w G s o l a h hs
  · rename_i t x y z hp; exact ok_insert hC (.inl hp) F r K w G s o l a h hs
  · rename_i t x y z hp; exact ok_insert hC (.inr hp) F r K w G s o l a h hs
  · rename_i t x k ok hp; exact ok_lookup hC hp F r K w G s o l a h hs
  · rename_i x k hp; exact ok_extract hp F r K w G s o l a h hs
  · rename_i c hp
    split at h
    · rename_i hc; exact ok_len hC hp hc F r K w G s o l a h hs
    · rename_i hc; exact ok_append hC hp hc F r K w G s o l a h hs
    · rename_i hc; exact ok_max true hp hc F r K w G s o l a h hs
    · rename_i hc; exact ok_max false hp hc F r K w G s o l a h hs
    · rename_i hc; exact ok_clear hC hp hc F r K w G s o l a h hs
    · cases h
    · rename_i f hc; exact ok_call hQ hF hp hc F r K w G s o l a h hs
    · rename_i rv name hc; exact ok_invoke hC hQ hF hp hc F r K w G s o l a h hs
  · cases h
end
end Go.Ev
/- Programs of looks touch what they say, and no more. -/
namespace Go.Ev
open Go Go.RowKit
variable [Glob]
def Prog.ev {α : Type} (p : Prog α) (s : S) (o : O) (l : Log) : Option (α × S × O × Log) := p.run s o l fun x s o l => some (x, s, o, l)
section
variable {α R : Type}
theorem look_inv {β : Type} (f : Look β) {K : β → Option R} {r : R} (h : f.f K = some r) : ∃ b, f.f some = some b ∧ K b = some r := by
  rw [f.nat] at h
  cases hb : f.f some with
  | none => rw [hb] at h; cases h
  | some b => rw [hb] at h; exact ⟨b, rfl, h⟩
theorem look_eq {β : Type} (f : Look β) {K : β → Option R} {b : β} (h : f.f some = some b) : f.f K = K b := by
  rw [f.nat, h]; rfl
theorem run_ev : ∀ (p : Prog α) (s : S) (o : O) (l : Log) {F : α → S → O → Log → Option R} {r : R}, p.run s o l F = some r → ∃ x s' o' l', p.ev s o l = some (x, s', o', l') ∧ F x s' o' l' = some r
  | .ret x, s, o, l, F, r, h => ⟨x, s, o, l, rfl, h⟩
  | .fail, s, o, l, F, r, h => by cases h
  | .look β f k, s, o, l, F, r, h => by
    obtain ⟨b, hb, h1⟩ := look_inv f h
    obtain ⟨x, s', o', l', h2, h3⟩ := run_ev (k b) s o l h1
    exact ⟨x, s', o', l', (look_eq f hb).trans h2, h3⟩
  | .env t k, s, o, l, F, r, h => by
    simp only [Prog.run] at h
    split at h
    · rename_i v hv
      obtain ⟨x, s', o', l', h2, h3⟩ := run_ev (k v) s o _ h
      refine ⟨x, s', o', l', ?_, h3⟩
      simp only [Prog.ev, Prog.run, hv]; exact h2
    · cases h
  | .blk b k, s, o, l, F, r, h => run_ev (k (s.own b)) s o _ h
  | .out k, s, o, l, F, r, h => run_ev (k s.gen o) s o _ h
  | .setE t v k, s, o, l, F, r, h => run_ev k (s.put t v) o _ h
  | .setB b x k, s, o, l, F, r, h => run_ev k (s.blk b x) o _ h
  | .kind b k, s, o, l, F, r, h => run_ev (k (kindOf (s.own b))) s o _ h
  | .setL b xs k, s, o, l, F, r, h => by
    simp only [Prog.run] at h
    split at h
    · rename_i m hm
      obtain ⟨x, s', o', l', h2, h3⟩ := run_ev k _ o _ h
      refine ⟨x, s', o', l', ?_, h3⟩
      simp only [Prog.ev, Prog.run, hm]; exact h2
    · cases h
  | .setO o' k, s, o, l, F, r, h => run_ev k s.tick o' _ h
  | .outB id k, s, o, l, F, r, h => run_ev (k (o.get id)) s o _ h
  | .setOB id b k, s, o, l, F, r, h => by
    simp only [Prog.run] at h
    split at h
    · rename_i m hm
      obtain ⟨x, s', o', l', h2, h3⟩ := run_ev k _ _ _ h
      refine ⟨x, s', o', l', ?_, h3⟩
      simp only [Prog.ev, Prog.run, hm]; exact h2
    · cases h
/-- the same at a place -/
def EqAt (x : Loc) (s : S) (o : O) (t : S) (q : O) : Prop := match x with
  | .slot u => s.env u = t.env u
  | .blk b => s.own b = t.own b
  | .kind b => kindOf (s.own b) = kindOf (t.own b)
  | .out => s.gen = t.gen ∧ o.length = q.length
  | .outB id => O.get o id = O.get q id
theorem EqAt.refl (x : Loc) (s : S) (o : O) : EqAt x s o s o := by cases x <;> first | rfl | exact ⟨rfl, rfl⟩
theorem O.get_none {o : O} {id : Nat} (h : o.length ≤ id) : O.get o id = none := by
  unfold O.get
  have : Nat.blt id o.length = false := by
    cases hb : Nat.blt id o.length with
    | false => rfl
    | true => rw [Nat.blt_eq] at hb; omega
  rw [this]; rfl
theorem O.get_lt {o : O} {id : Nat} (h : id < o.length) : O.get o id = o[o.length - 1 - id]? := by
  unfold O.get
  rw [Nat.blt_eq.mpr h]; rfl
theorem O.ext' {o q : O} (h1 : o.length = q.length) (h2 : ∀ id, O.get o id = O.get q id) : o = q := by
  apply List.ext_getElem? 
  intro i
  by_cases hi : i < o.length
  · have := h2 (o.length - 1 - i)
    rw [O.get_lt (by omega), O.get_lt (by omega)] at this
    rw [show o.length - 1 - (o.length - 1 - i) = i by omega, show q.length - 1 - (o.length - 1 - i) = i by omega] at this
    exact this
  · rw [List.getElem?_eq_none (by omega), List.getElem?_eq_none (by omega)]
theorem outLs_mem {n : Nat} {y : Loc} : y ∈ outLs n ↔ ∃ id, id < n ∧ y = .outB id := by
  induction n with
  | zero => simp [outLs]
  | succ n ih =>
    unfold outLs
    rw [List.mem_cons, ih]
    constructor
    · rintro (h | ⟨id, h1, h2⟩)
      · exact ⟨n, by omega, h⟩
      · exact ⟨id, by omega, h2⟩
    · rintro ⟨id, h1, h2⟩
      by_cases e : id = n
      · subst e; exact .inl h2
      · exact .inr ⟨id, by omega, h2⟩
/-- all of the outer memory is the same -/
theorem eqAt_out {s t : S} {o q : O} (h1 : EqAt .out s o t q) (h2 : ∀ y, y ∈ outLs o.length → EqAt y s o t q) : o = q := O.ext' h1.2 fun id => by
  by_cases hi : id < o.length
  · exact h2 (.outB id) (outLs_mem.mpr ⟨id, hi, rfl⟩)
  · rw [O.get_none (by omega), O.get_none (by have := h1.2; omega)]
theorem EqAt.symm {x : Loc} {s t : S} {o q : O} (h : EqAt x s o t q) : EqAt x t q s o := by
  cases x with
  | slot => exact Eq.symm h
  | blk => exact Eq.symm h
  | kind => exact Eq.symm h
  | out => exact ⟨h.1.symm, h.2.symm⟩
  | outB => exact Eq.symm h
theorem EqAt.trans {x : Loc} {s t u : S} {o q v : O} (h : EqAt x s o t q) (k : EqAt x t q u v) : EqAt x s o u v := by
  cases x with
  | slot => exact Eq.trans h k
  | blk => exact Eq.trans h k
  | kind => exact Eq.trans h k
  | out => exact ⟨h.1.trans k.1, h.2.trans k.2⟩
  | outB => exact Eq.trans h k
theorem eqAt_all {s t : S} {o q : O} (h : ∀ x, EqAt x s o t q) : s = t ∧ o = q := by
  obtain ⟨e, w, g⟩ := s
  obtain ⟨e', w', g'⟩ := t
  have h1 : e = e' := funext fun u => h (.slot u)
  have h2 : w = w' := funext fun b => h (.blk b)
  obtain ⟨h3, h4⟩ := h .out
  have h3 : g = g' := h3
  subst h1; subst h2; subst h3
  exact ⟨rfl, O.ext' h4 fun id => h (.outB id)⟩
theorem beq_loc {a b : Loc} : a.beq b = true ↔ a = b := by
  cases a <;> cases b <;> simp [Loc.beq]
/-- what a program did, from any state that is the same where it looked and wrote -/
structure Did (p : Prog α) (s : S) (o : O) (x : α) (s' : S) (o' : O) (rd wr : List Loc) : Prop where
  same : ∀ y, y ∉ wr → EqAt y s' o' s o
  redo : ∀ (t : S) (q : O) (m : Log), (∀ y, y ∈ rd ∨ y ∈ wr → EqAt y s o t q) → ∃ t' q', p.ev t q m = some (x, t', q', ⟨rd ++ m.rd, wr ++ m.wr⟩) ∧ (∀ y, y ∈ wr → EqAt y t' q' s' o') ∧ ∀ y, y ∉ wr → EqAt y t' q' t q
theorem put_eqAt {x : Loc} {s t : S} {o q : O} {u : Nat} {v : AV} (h : x = .slot u ∨ EqAt x s o t q) : EqAt x (s.put u v) o (t.put u v) q := by
  cases x with
  | slot u' =>
    show upd s.env u v u' = upd t.env u v u'
    rw [upd_env, upd_env]
    by_cases e : u' = u
    · rw [if_pos e, if_pos e]
    · rw [if_neg e, if_neg e]
      rcases h with h | h
      · injection h with h; exact absurd h e
      · exact h
  | blk b => rcases h with h | h; cases h; exact h
  | kind b => rcases h with h | h; cases h; exact h
  | out => rcases h with h | h; cases h; exact h
  | outB => rcases h with h | h; cases h; exact h
theorem put_else {x : Loc} {s : S} {o : O} {u : Nat} {v : AV} (h : x ≠ .slot u) : EqAt x (s.put u v) o s o := by
  cases x with
  | slot u' =>
    show upd s.env u v u' = s.env u'
    rw [upd_env, if_neg]; rintro rfl; exact h rfl
  | blk b => rfl
  | kind b => rfl
  | out => exact ⟨rfl, rfl⟩
  | outB => rfl
theorem blk_eqAt {x : Loc} {s t : S} {o q : O} {b : Nat} {v : Blk} (h : (x = .blk b ∨ x = .kind b) ∨ EqAt x s o t q) : EqAt x (s.blk b v) o (t.blk b v) q := by
  cases x with
  | blk u' =>
    show (s.blk b v).own u' = (t.blk b v).own u'
    rw [blk_own, blk_own]
    by_cases e : u' = b
    · rw [if_pos e, if_pos e]
    · rw [if_neg e, if_neg e]
      rcases h with (h | h) | h
      · injection h with h; exact absurd h e
      · cases h
      · exact h
  | kind u' =>
    show kindOf ((s.blk b v).own u') = kindOf ((t.blk b v).own u')
    rw [blk_own, blk_own]
    by_cases e : u' = b
    · rw [if_pos e, if_pos e]
    · rw [if_neg e, if_neg e]
      rcases h with (h | h) | h
      · cases h
      · injection h with h; exact absurd h e
      · exact h
  | slot b => rcases h with (h | h) | h; cases h; cases h; exact h
  | out => rcases h with (h | h) | h; cases h; cases h; exact h
  | outB => rcases h with (h | h) | h; cases h; cases h; exact h
theorem blk_else {x : Loc} {s : S} {o : O} {b : Nat} {v : Blk} (h : x ≠ .blk b) (h' : x = .kind b → kindOf (some v) = kindOf (s.own b)) : EqAt x (s.blk b v) o s o := by
  cases x with
  | blk u' =>
    show (s.blk b v).own u' = s.own u'
    rw [blk_own, if_neg]; rintro rfl; exact h rfl
  | kind u' =>
    show kindOf ((s.blk b v).own u') = kindOf (s.own u')
    rw [blk_own]
    by_cases e : u' = b
    · subst e; rw [if_pos rfl]; exact h' rfl
    · rw [if_neg e]
  | slot b => rfl
  | out => exact ⟨rfl, rfl⟩
  | outB => rfl
theorem out_eqAt {x : Loc} {s t : S} {o q n : O} (h : EqAt x s o t q) : EqAt x s.tick n t.tick n := by
  cases x with
  | slot b => exact h
  | blk b => exact h
  | kind b => exact h
  | out => exact ⟨congrArg (· + 1) h.1, rfl⟩
  | outB => rfl
theorem out_else {x : Loc} {s : S} {o n : O} (h : x ≠ .out) (h' : x ∉ outLs (Nat.max o.length n.length)) : EqAt x s.tick n s o := by
  cases x with
  | slot b => rfl
  | blk b => rfl
  | kind b => rfl
  | out => exact absurd rfl h
  | outB id =>
    show O.get n id = O.get o id
    have : ¬ id < Nat.max o.length n.length := fun e => h' (outLs_mem.mpr ⟨id, e, rfl⟩)
    have h1 := Nat.le_max_left o.length n.length
    have h2 := Nat.le_max_right o.length n.length
    have this : Nat.max o.length n.length ≤ id := Nat.le_of_not_lt this
    rw [O.get_none (Nat.le_trans h2 this), O.get_none (Nat.le_trans h1 this)]
theorem ob_eqAt {x : Loc} {s t : S} {o q : O} {id : Nat} {b k k' : Blk} (ho : O.get o id = some k) (hq : O.get q id = some k') (h : x = .outB id ∨ EqAt x s o t q) : EqAt x s (o.put id b) t (q.put id b) := by
  cases x with
  | slot b => rcases h with h | h; cases h; exact h
  | blk b => rcases h with h | h; cases h; exact h
  | kind b => rcases h with h | h; cases h; exact h
  | out => rcases h with h | h; cases h; exact ⟨h.1, by rw [put_len, put_len]; exact h.2⟩
  | outB i =>
    show O.get (o.put id b) i = O.get (q.put id b) i
    rw [put_get (get_lt ho), put_get (get_lt hq)]
    by_cases e : i = id
    · rw [if_pos e, if_pos e]
    · rw [if_neg e, if_neg e]
      rcases h with h | h
      · injection h with h; exact absurd h e
      · exact h
theorem ob_else {x : Loc} {s : S} {o : O} {id : Nat} {b k : Blk} (ho : O.get o id = some k) (h : x ≠ .outB id) : EqAt x s (o.put id b) s o := by
  cases x with
  | slot b => rfl
  | blk b => rfl
  | kind b => rfl
  | out => exact ⟨rfl, put_len _ _ _⟩
  | outB i =>
    show O.get (o.put id b) i = O.get o i
    rw [put_get (get_lt ho), if_neg]
    rintro rfl; exact h rfl
theorem ev_local : ∀ (p : Prog α) (s : S) (o : O) (l : Log) (x : α) (s' : S) (o' : O) (l' : Log), p.ev s o l = some (x, s', o', l') → ∃ rd wr, l' = ⟨rd ++ l.rd, wr ++ l.wr⟩ ∧ Did p s o x s' o' rd wr
  | .ret x, s, o, l, y, s', o', l', h => by
    injection h with h; injection h with e1 h; injection h with e2 h; injection h with e3 e4
    subst e1; subst e2; subst e3; subst e4
    exact ⟨[], [], rfl, fun y _ => .refl _ _ _, fun t q m _ => ⟨t, q, rfl, fun y hy => by simp at hy, fun y _ => .refl _ _ _⟩⟩
  | .fail, s, o, l, x, s', o', l', h => by cases h
  | .look β f k, s, o, l, x, s', o', l', h => by
    obtain ⟨b, hb, h1⟩ := look_inv f h
    obtain ⟨rd, wr, h2, h3⟩ := ev_local (k b) s o l x s' o' l' h1
    refine ⟨rd, wr, h2, h3.same, fun t q m hm => ?_⟩
    obtain ⟨t', q', h4, h5⟩ := h3.redo t q m hm
    exact ⟨t', q', (look_eq f hb).trans h4, h5⟩
  | .env u k, s, o, l, x, s', o', l', h => by
    simp only [Prog.ev, Prog.run] at h
    split at h
    · rename_i v hv
      obtain ⟨rd, wr, h2, h3⟩ := ev_local (k v) s o _ x s' o' l' h
      refine ⟨rd ++ [.slot u], wr, by rw [h2]; simp [Log.r], h3.same, fun t q m hm => ?_⟩
      obtain ⟨t', q', h4, h5⟩ := h3.redo t q (m.r (.slot u)) (fun y hy => hm y (hy.imp (fun h => by simp [h]) id))
      refine ⟨t', q', ?_, h5⟩
      have e : t.env u = some v := by
        have := hm (.slot u) (.inl (by simp))
        exact (Eq.symm this).trans hv
      simp only [Prog.ev, Prog.run, e]
      rw [show (k v).run t q (m.r (.slot u)) (fun x s o l => some (x, s, o, l)) = (k v).ev t q (m.r (.slot u)) from rfl, h4]
      simp [Log.r]
    · cases h
  | .blk b k, s, o, l, x, s', o', l', h => by
    obtain ⟨rd, wr, h2, h3⟩ := ev_local (k (s.own b)) s o _ x s' o' l' h
    refine ⟨rd ++ [.blk b], wr, by rw [h2]; simp [Log.r], h3.same, fun t q m hm => ?_⟩
    obtain ⟨t', q', h4, h5⟩ := h3.redo t q (m.r (.blk b)) (fun y hy => hm y (hy.imp (fun h => by simp [h]) id))
    refine ⟨t', q', ?_, h5⟩
    have e : t.own b = s.own b := (hm (.blk b) (.inl (by simp))).symm
    show (k (t.own b)).ev t q (m.r (.blk b)) = _
    rw [e, h4]
    simp [Log.r]
  | .out k, s, o, l, x, s', o', l', h => by
    obtain ⟨rd, wr, h2, h3⟩ := ev_local (k s.gen o) s o _ x s' o' l' h
    refine ⟨rd ++ (outLs o.length ++ [.out]), wr, by rw [h2]; simp [Log.r, Log.rs], h3.same, fun t q m hm => ?_⟩
    have hout := hm .out (.inl (by simp))
    have e2 : o = q := eqAt_out hout fun y hy => hm y (.inl (by simp [hy]))
    obtain ⟨t', q', h4, h5⟩ := h3.redo t q ((m.r .out).rs (outLs q.length)) (fun y hy => hm y (hy.imp (fun h => by simp [h]) id))
    refine ⟨t', q', ?_, h5⟩
    show (k t.gen q).ev t q ((m.r .out).rs (outLs q.length)) = _
    rw [show k t.gen q = k s.gen o by rw [hout.1, e2], h4, e2]
    simp [Log.r, Log.rs]
  | .outB id k, s, o, l, x, s', o', l', h => by
    obtain ⟨rd, wr, h2, h3⟩ := ev_local (k (o.get id)) s o _ x s' o' l' h
    refine ⟨rd ++ [.outB id], wr, by rw [h2]; simp [Log.r], h3.same, fun t q m hm => ?_⟩
    obtain ⟨t', q', h4, h5⟩ := h3.redo t q (m.r (.outB id)) (fun y hy => hm y (hy.imp (fun h => by simp [h]) (fun h => h)))
    refine ⟨t', q', ?_, h5⟩
    have e : O.get q id = O.get o id := (hm (.outB id) (.inl (by simp))).symm
    show (k (O.get q id)).ev t q (m.r (.outB id)) = _
    rw [e, h4]
    simp [Log.r]
  | .setOB id b k, s, o, l, x, s', o', l', h => by
    simp only [Prog.ev, Prog.run] at h
    split at h
    · rename_i n hn
      obtain ⟨rd, wr, h2, h3⟩ := ev_local k s (o.put id b) _ x s' o' l' h
      refine ⟨rd ++ [.outB id], wr ++ [.outB id], by rw [h2]; simp [Log.w, Log.r], fun y hy => ?_, fun t q m hm => ?_⟩
      · exact (h3.same y (fun h => hy (by simp [h]))).trans (ob_else hn (fun e => hy (by simp [e])))
      · have hk : O.get o id = O.get q id := hm (.outB id) (.inl (by simp))
        have hn' : O.get q id = some n := hk.symm.trans hn
        obtain ⟨t', q', h4, h5, h6⟩ := h3.redo t (q.put id b) ((m.r (.outB id)).w (.outB id)) (fun y hy => ob_eqAt hn hn' (.inr (hm y (hy.imp (fun h => by simp [h]) fun h => by simp [h]))))
        refine ⟨t', q', ?_, fun y hy => ?_, fun y hy => ?_⟩
        · simp only [Prog.ev, Prog.run, hn']
          show k.ev t (q.put id b) ((m.r (.outB id)).w (.outB id)) = _
          rw [h4]; simp [Log.w, Log.r]
        · by_cases e : y ∈ wr
          · exact h5 y e
          · have : y = .outB id := by simpa [e] using hy
            subst this
            exact ((h6 _ e).trans (ob_eqAt hn' hn (.inl rfl) : EqAt (.outB id) t (q.put id b) s (o.put id b))).trans (h3.same _ e).symm
        · exact (h6 y (fun h => hy (by simp [h]))).trans (ob_else hn' (fun e => hy (by simp [e])))
    · cases h
  | .setE u v k, s, o, l, x, s', o', l', h => by
    obtain ⟨rd, wr, h2, h3⟩ := ev_local k (s.put u v) o _ x s' o' l' h
    refine ⟨rd, wr ++ [.slot u], by rw [h2]; simp [Log.w], fun y hy => ?_, fun t q m hm => ?_⟩
    · exact (h3.same y (fun h => hy (by simp [h]))).trans (put_else (fun e => hy (by simp [e])))
    · obtain ⟨t', q', h4, h5, h6⟩ := h3.redo (t.put u v) q (m.w (.slot u)) (fun y hy => put_eqAt (.inr (hm y (hy.imp id fun h => by simp [h]))))
      refine ⟨t', q', by show k.ev (t.put u v) q (m.w (.slot u)) = _; rw [h4]; simp [Log.w], fun y hy => ?_, fun y hy => ?_⟩
      · by_cases e : y ∈ wr
        · exact h5 y e
        · have : y = .slot u := by simpa [e] using hy
          subst this
          exact ((h6 _ e).trans (put_eqAt (.inl rfl) : EqAt (.slot u) (t.put u v) q (s.put u v) o)).trans (h3.same _ e).symm
      · exact (h6 y (fun h => hy (by simp [h]))).trans (put_else (fun e => hy (by simp [e])))
  | .setB b v k, s, o, l, x, s', o', l', h => by
    obtain ⟨rd, wr, h2, h3⟩ := ev_local k (s.blk b v) o _ x s' o' l' h
    refine ⟨rd, wr ++ [.kind b, .blk b], by rw [h2]; simp [Log.w], fun y hy => ?_, fun t q m hm => ?_⟩
    · exact (h3.same y (fun h => hy (by simp [h]))).trans (blk_else (fun e => hy (by simp [e])) fun e => absurd (by simp [e]) hy)
    · obtain ⟨t', q', h4, h5, h6⟩ := h3.redo (t.blk b v) q ((m.w (.blk b)).w (.kind b)) (fun y hy => blk_eqAt (.inr (hm y (hy.imp id fun h => by simp [h]))))
      refine ⟨t', q', by show k.ev (t.blk b v) q ((m.w (.blk b)).w (.kind b)) = _; rw [h4]; simp [Log.w], fun y hy => ?_, fun y hy => ?_⟩
      · by_cases e : y ∈ wr
        · exact h5 y e
        · have : y = .kind b ∨ y = .blk b := by simpa [e] using hy
          exact ((h6 _ e).trans (blk_eqAt (.inl this.symm) : EqAt y (t.blk b v) q (s.blk b v) o)).trans (h3.same _ e).symm
      · exact (h6 y (fun h => hy (by simp [h]))).trans (blk_else (fun e => hy (by simp [e])) fun e => absurd (by simp [e]) hy)
  | .kind b k, s, o, l, x, s', o', l', h => by
    obtain ⟨rd, wr, h2, h3⟩ := ev_local (k (kindOf (s.own b))) s o _ x s' o' l' h
    refine ⟨rd ++ [.kind b], wr, by rw [h2]; simp [Log.r], h3.same, fun t q m hm => ?_⟩
    obtain ⟨t', q', h4, h5⟩ := h3.redo t q (m.r (.kind b)) (fun y hy => hm y (hy.imp (fun h => by simp [h]) id))
    refine ⟨t', q', ?_, h5⟩
    have e : kindOf (t.own b) = kindOf (s.own b) := (hm (.kind b) (.inl (by simp))).symm
    show (k (kindOf (t.own b))).ev t q (m.r (.kind b)) = _
    rw [e, h4]
    simp [Log.r]
  | .setL b v k, s, o, l, x, s', o', l', h => by
    simp only [Prog.ev, Prog.run] at h
    split at h
    · rename_i n hn
      obtain ⟨rd, wr, h2, h3⟩ := ev_local k (s.blk b (.lst n v)) o _ x s' o' l' h
      refine ⟨rd ++ [.kind b], wr ++ [.blk b], by rw [h2]; simp [Log.w, Log.r], fun y hy => ?_, fun t q m hm => ?_⟩
      · exact (h3.same y (fun h => hy (by simp [h]))).trans (blk_else (fun e => hy (by simp [e])) fun _ => hn.symm)
      · have hk : kindOf (s.own b) = kindOf (t.own b) := hm (.kind b) (.inl (by simp))
        have hn' : kindOf (t.own b) = some n := hk.symm.trans hn
        obtain ⟨t', q', h4, h5, h6⟩ := h3.redo (t.blk b (.lst n v)) q ((m.r (.kind b)).w (.blk b)) (fun y hy => blk_eqAt (.inr (hm y (hy.imp (fun h => by simp [h]) fun h => by simp [h]))))
        refine ⟨t', q', ?_, fun y hy => ?_, fun y hy => ?_⟩
        · simp only [Prog.ev, Prog.run, hn']
          show k.ev (t.blk b (.lst n v)) q ((m.r (.kind b)).w (.blk b)) = _
          rw [h4]; simp [Log.w, Log.r]
        · by_cases e : y ∈ wr
          · exact h5 y e
          · have : y = .blk b := by simpa [e] using hy
            subst this
            exact ((h6 _ e).trans (blk_eqAt (.inl (.inl rfl)) : EqAt (.blk b) (t.blk b (.lst n v)) q (s.blk b (.lst n v)) o)).trans (h3.same _ e).symm
        · exact (h6 y (fun h => hy (by simp [h]))).trans (blk_else (fun e => hy (by simp [e])) fun _ => hn'.symm)
    · cases h
  | .setO n k, s, o, l, x, s', o', l', h => by
    obtain ⟨rd, wr, h2, h3⟩ := ev_local k s.tick n _ x s' o' l' h
    refine ⟨rd, wr ++ (outLs (Nat.max o.length n.length) ++ [.out]), by rw [h2]; simp [Log.w, Log.ws], fun y hy => ?_, fun t q m hm => ?_⟩
    · exact (h3.same y (fun h => hy (by simp [h]))).trans (out_else (fun e => hy (by simp [e])) (fun e => hy (by simp [e])))
    · have hout := hm .out (.inr (by simp))
      have hlen : q.length = o.length := hout.2.symm
      obtain ⟨t', q', h4, h5, h6⟩ := h3.redo t.tick n ((m.w .out).ws (outLs (Nat.max q.length n.length))) (fun y hy => out_eqAt (hm y (hy.imp id fun h => by simp [h])))
      refine ⟨t', q', by show k.ev t.tick n ((m.w .out).ws (outLs (Nat.max q.length n.length))) = _; rw [h4, hlen]; simp [Log.w, Log.ws], fun y hy => ?_, fun y hy => ?_⟩
      · by_cases e : y ∈ wr
        · exact h5 y e
        · have hy' : y ∈ outLs (Nat.max o.length n.length) ∨ y = .out := by simpa [e] using hy
          exact ((h6 _ e).trans (out_eqAt (hm y (.inr (by rcases hy' with h | h <;> simp [h]))).symm : EqAt y t.tick n s.tick n)).trans (h3.same _ e).symm
      · exact (h6 y (fun h => hy (by simp [h]))).trans (out_else (fun e => hy (by simp [e])) (fun e => hy (by rw [hlen] at e; simp [e])))
end
end Go.Ev
/- A region's operations: in the text's order, in any order that its edges let. -/
namespace Go.Ev
open Go Go.RowKit
variable [Glob]
theorem put_same {s : S} {t : Nat} {v : AV} (h : s.env t = some v) : s.put t v = s := by
  obtain ⟨e, w, g⟩ := s
  have : upd e t v = e := funext fun u => by
    rw [upd_env]; split
    · rename_i hu; subst hu; exact h.symm
    · rfl
  show S.mk (upd e t v) w g = _
  rw [this]
section
variable {R : Type} {C : Cfg} {Q : Orc} {ny : Bool} {all : List Oper}
theorem evOps_cons {o : Oper} {rest : List Oper} {s : S} {w : O} {logs : List Log} {K : S → O → List Log → Option R} {r : R} (h : evOps C Q ny all (o :: rest) s w logs K = some r) :
    ∃ s' w' l, (gP C Q ny all o).ev s w ⟨[], []⟩ = some ((), s', w', l) ∧ evOps C Q ny all rest s' w' (l :: logs) K = some r := by
  unfold evOps at h
  unfold gP
  split at h
  · rename_i hg
    try rw [hg]
    obtain ⟨_, s', w', l, h1, h2⟩ := run_ev _ _ _ _ h
    exact ⟨s', w', l, h1, h2⟩
  · rename_i j want hg
    try rw [hg]
    try dsimp only
    split at h
    · rename_i d hd
      try rw [hd]
      try dsimp only
      split at h
      · rename_i hv
        obtain ⟨_, s', w', l, h1, h2⟩ := run_ev _ _ _ _ h
        refine ⟨s', w', l, ?_, h2⟩
        simp only [Prog.ev, Prog.run, hv]
        exact h1
      · rename_i x hv
        obtain ⟨b, rfl, h1⟩ := asB_inv h
        rcases ifb_inv h1 with ⟨rfl, h2⟩ | ⟨rfl, h2⟩
        · rw [put_same hv] at h2
          cases want with
          | true =>
            obtain ⟨_, s', w', l, h3, h4⟩ := run_ev _ _ _ _ h2
            refine ⟨s', w', l, ?_, h4⟩
            simp only [Prog.ev, Prog.run, hv]
            exact h3
          | false =>
            obtain ⟨_, s', w', l, h3, h4⟩ := run_ev _ _ _ _ h2
            refine ⟨s', w', l, ?_, h4⟩
            simp only [Prog.ev, Prog.run, hv]
            exact h3
        · rw [put_same hv] at h2
          cases want with
          | true =>
            obtain ⟨_, s', w', l, h3, h4⟩ := run_ev _ _ _ _ h2
            refine ⟨s', w', l, ?_, h4⟩
            simp only [Prog.ev, Prog.run, hv]
            exact h3
          | false =>
            obtain ⟨_, s', w', l, h3, h4⟩ := run_ev _ _ _ _ h2
            refine ⟨s', w', l, ?_, h4⟩
            simp only [Prog.ev, Prog.run, hv]
            exact h3
      · cases h
    · cases h
/-- the states that the text's order goes through -/
structure Run (C : Cfg) (Q : Orc) (ny : Bool) (all ops : List Oper) (σ : Nat → S × O) (L : Nat → Log) : Prop where
  step : ∀ i o, ops[i]? = some o → (gP C Q ny all o).ev (σ i).1 (σ i).2 ⟨[], []⟩ = some ((), (σ (i + 1)).1, (σ (i + 1)).2, L i)
theorem evOps_run : ∀ (ops : List Oper) (s : S) (w : O) (logs : List Log) {K : S → O → List Log → Option R} {r : R}, evOps C Q ny all ops s w logs K = some r →
    ∃ σ L, σ 0 = (s, w) ∧ Run C Q ny all ops σ L ∧ K (σ ops.length).1 (σ ops.length).2 (((List.range ops.length).map L).reverse ++ logs) = some r
  | [], s, w, logs, K, r, h => ⟨fun _ => (s, w), fun _ => ⟨[], []⟩, rfl, ⟨fun i o h => by simp at h⟩, h⟩
  | o :: ops, s, w, logs, K, r, h => by
    obtain ⟨s1, w1, l, h1, h2⟩ := evOps_cons h
    obtain ⟨σ, L, h3, h4, h5⟩ := evOps_run ops s1 w1 (l :: logs) h2
    refine ⟨fun k => match k with | 0 => (s, w) | k + 1 => σ k, fun k => match k with | 0 => l | k + 1 => L k, rfl, ⟨fun i o' hi => ?_⟩, ?_⟩
    · cases i with
      | zero =>
        simp at hi; subst hi
        show _ = some ((), (σ 0).1, (σ 0).2, l)
        rw [h3]; exact h1
      | succ i => exact h4.step i o' (by simpa using hi)
    · show K (σ ops.length).1 (σ ops.length).2 _ = _
      rw [List.length_cons, List.range_succ_eq_map, List.map_cons, List.map_map, List.reverse_cons, List.append_assoc]
      exact h5
end
/-! ### What is ahead of what -/
/-- what an operation's edges set ahead of it -/
def befOf (acc : Array Nat) (o : Oper) : Nat := o.after.foldl (fun s e => if Region.binds .any e then s ||| 2 ^ e.on ||| acc.getD e.on 0 else s) 0
theorem befOf_bit {acc : Array Nat} {o : Oper} {i : Nat} (h : (befOf acc o).testBit i = true) : ∃ e, e ∈ o.after.toList ∧ Region.binds .any e = true ∧ (i = e.on ∨ (acc.getD e.on 0).testBit i = true) := by
  unfold befOf at h
  rw [← Array.foldl_toList] at h
  have key : ∀ (l : List Edge) (s : Nat), (l.foldl (fun s e => if Region.binds .any e then s ||| 2 ^ e.on ||| acc.getD e.on 0 else s) s).testBit i = true → s.testBit i = true ∨ ∃ e, e ∈ l ∧ Region.binds .any e = true ∧ (i = e.on ∨ (acc.getD e.on 0).testBit i = true) := by
    intro l
    induction l with
    | nil => intro s h; exact .inl h
    | cons e l ih =>
      intro s h
      rw [List.foldl_cons] at h
      rcases ih _ h with h | ⟨e', h1, h2⟩
      · split at h
        · rename_i hb
          rw [Nat.testBit_or, Nat.testBit_or, Bool.or_eq_true, Bool.or_eq_true] at h
          rcases h with (h | h) | h
          · exact .inl h
          · rw [Nat.testBit_two_pow] at h
            exact .inr ⟨e, by simp, hb, .inl (by have := of_decide_eq_true h; exact this.symm)⟩
          · exact .inr ⟨e, by simp, hb, .inr h⟩
        · exact .inl h
      · exact .inr ⟨e', by simp [h1], h2⟩
  rcases key _ _ h with h | h
  · simp at h
  · exact h
theorem bef_fold : ∀ (l : List Oper) (acc : Array Nat), let r := l.foldl (fun acc o => acc.push (befOf acc o)) acc
    (∀ k, k < acc.size → r.getD k 0 = acc.getD k 0) ∧ ∀ m o, l[m]? = some o → ∃ acc', (∀ k, acc'.getD k 0 = if k < acc.size + m then r.getD k 0 else 0) ∧ r.getD (acc.size + m) 0 = befOf acc' o
  | [], acc => ⟨fun _ _ => rfl, fun m o h => by simp at h⟩
  | o :: l, acc => by
    obtain ⟨h1, h2⟩ := bef_fold l (acc.push (befOf acc o))
    simp only [List.foldl_cons]
    have hpush : ∀ k, k < acc.size → (acc.push (befOf acc o)).getD k 0 = acc.getD k 0 := fun k hk => by
      simp only [Array.getD_eq_getD_getElem?, Array.getElem?_push]
      rw [if_neg (by omega)]
    refine ⟨fun k hk => by rw [h1 k (by simp; omega)]; exact hpush k hk, fun m o' hm => ?_⟩
    cases m with
    | zero =>
      simp at hm; subst hm
      refine ⟨acc, fun k => ?_, ?_⟩
      · split
        · rename_i hk
          rw [h1 k (by simp; omega), hpush k (by omega)]
        · rename_i hk
          simp only [Array.getD_eq_getD_getElem?]
          rw [Array.getElem?_eq_none (by omega)]; rfl
      · rw [h1 _ (by simp)]
        simp only [Array.getD_eq_getD_getElem?, Array.getElem?_push]
        simp
    | succ m =>
      obtain ⟨acc', h3, h4⟩ := h2 m o' (by simpa using hm)
      refine ⟨acc', fun k => ?_, ?_⟩
      · rw [h3 k, Array.size_push]
        congr 1
        simp only [eq_iff_iff]; omega
      · rw [← h4, Array.size_push]
        congr 1; omega
theorem before_eq (ops : Array Oper) : Region.before ops = ops.toList.foldl (fun acc o => acc.push (befOf acc o)) #[] := by
  unfold Region.before
  rw [← Array.foldl_toList]
  rfl
theorem before_bit {ops : Array Oper} {j i : Nat} {o : Oper} (ho : ops[j]? = some o) (h : ((Region.before ops).getD j 0).testBit i = true) :
    ∃ e, e ∈ o.after.toList ∧ Region.binds .any e = true ∧ (i = e.on ∨ (e.on < j ∧ ((Region.before ops).getD e.on 0).testBit i = true)) := by
  rw [before_eq] at h ⊢
  obtain ⟨_, h2⟩ := bef_fold ops.toList #[]
  obtain ⟨acc', h3, h4⟩ := h2 j o (by simpa using ho)
  have e0 : (#[] : Array Nat).size + j = j := by simp
  rw [e0] at h4
  rw [h4] at h
  obtain ⟨e, h5, h6, h7⟩ := befOf_bit h
  refine ⟨e, h5, h6, h7.imp id fun h8 => ?_⟩
  rw [h3] at h8
  split at h8
  · rename_i hk
    exact ⟨by simpa using hk, h8⟩
  · simp at h8
/-- what is ahead of something whose edges lead into a set that is closed lies in it -/
theorem before_in {ops : Array Oper} {D : Nat → Prop} (hD : ∀ j o, D j → ops[j]? = some o → ∀ e, e ∈ o.after.toList → Region.binds .any e = true → D e.on) :
    ∀ (j i : Nat) (o : Oper), ops[j]? = some o → (∀ e, e ∈ o.after.toList → Region.binds .any e = true → D e.on) → ((Region.before ops).getD j 0).testBit i = true → D i := by
  intro j
  induction j using Nat.strongRecOn with
  | _ j ih =>
    intro i o ho hd hb
    obtain ⟨e, h1, h2, h3⟩ := before_bit ho hb
    rcases h3 with rfl | ⟨h3, h4⟩
    · exact hd e h1 h2
    · have hsz : e.on < ops.size := by have := (Array.getElem?_eq_some_iff.mp ho).1; omega
      exact ih e.on h3 i _ (Array.getElem?_eq_getElem hsz) (hD e.on _ (hd e h1 h2) (Array.getElem?_eq_getElem hsz)) h4
end Go.Ev
/- Any order that the edges let comes to the same. -/
namespace Go.Ev
open Go Go.RowKit
variable [Glob]
theorem meets_false {a b : List Loc} (h : meets a b = false) : ∀ y, y ∈ a → y ∈ b → False := fun y ha hb => by
  unfold meets at h
  rw [List.any_eq_false] at h
  have := h y ha
  rw [Bool.not_eq_true, List.any_eq_false] at this
  exact this y hb (beq_loc.mpr rfl)
theorem clash_false {a b : Log} (h : clash a b = false) : ∀ y, ¬ (y ∈ a.wr ∧ y ∈ b.wr) ∧ ¬ (y ∈ a.wr ∧ y ∈ b.rd) ∧ ¬ (y ∈ a.rd ∧ y ∈ b.wr) := fun y => by
  unfold clash at h
  rw [Bool.or_eq_false_iff, Bool.or_eq_false_iff] at h
  exact ⟨fun ⟨h1, h2⟩ => meets_false h.1.1 y h1 h2, fun ⟨h1, h2⟩ => meets_false h.1.2 y h1 h2, fun ⟨h1, h2⟩ => meets_false h.2 y h1 h2⟩
theorem drawOk_of {bef : List Nat} {l : List Log} (h : drawOk bef l = true) {i j : Nat} {a b : Log} (hi : l[i]? = some a) (hj : l[j]? = some b) (hij : i < j) : (bef.getD j 0).testBit i = true ∨ clash a b = false := by
  unfold drawOk at h
  rw [List.all_eq_true] at h
  have h1 := h (b, j) (List.mem_zipIdx_iff_getElem?.mpr hj)
  rw [List.all_eq_true] at h1
  have h2 := h1 (a, i) (List.mem_zipIdx_iff_getElem?.mpr hi)
  simp only [Bool.or_eq_true, Bool.not_eq_true'] at h2
  rcases h2 with (h2 | h2) | h2
  · have : Nat.blt i j = true := Nat.blt_eq.mpr hij
    rw [this] at h2; cases h2
  · exact .inl h2
  · exact .inr h2
/-- Where no program in between writes, the states are the same. -/
theorem between {σ : Nat → S × O} {wr : Nat → List Loc} {n : Nat} (hs : ∀ i y, i < n → y ∉ wr i → EqAt y (σ (i + 1)).1 (σ (i + 1)).2 (σ i).1 (σ i).2) {y : Loc} {i : Nat} : ∀ {k : Nat}, i ≤ k → k ≤ n → (∀ j, i ≤ j → j < k → y ∉ wr j) → EqAt y (σ k).1 (σ k).2 (σ i).1 (σ i).2 := by
  intro k
  induction k with
  | zero => intro h _ _; have : i = 0 := by omega
            subst this; exact .refl _ _ _
  | succ k ih =>
    intro h1 h2 h3
    by_cases e : i = k + 1
    · subst e; exact .refl _ _ _
    · exact (hs k y (by omega) (h3 k (by omega) (by omega))).trans (ih (by omega) (by omega) fun j hj hk => h3 j hj (by omega))
/-- The state behind some of the programs. -/
def Inv (σ : Nat → S × O) (wr : Nat → List Loc) (n : Nat) (D : Nat → Prop) (t : S) (q : O) : Prop := ∀ (y : Loc) (k : Nat), k ≤ n → (∀ j, j < k → y ∈ wr j → D j) → (∀ j, k ≤ j → j < n → y ∈ wr j → ¬ D j) → EqAt y t q (σ k).1 (σ k).2
theorem Inv.start {σ : Nat → S × O} {wr : Nat → List Loc} {n : Nat} (hs : ∀ i y, i < n → y ∉ wr i → EqAt y (σ (i + 1)).1 (σ (i + 1)).2 (σ i).1 (σ i).2) : Inv σ wr n (fun _ => False) (σ 0).1 (σ 0).2 := fun y k hk h1 _ =>
  (between hs (Nat.zero_le k) hk fun j _ hj hy => h1 j hj hy).symm
theorem Inv.done {σ : Nat → S × O} {wr : Nat → List Loc} {n : Nat} {D : Nat → Prop} {t : S} {q : O} (h : Inv σ wr n D t q) (hD : ∀ j, j < n → D j) : t = (σ n).1 ∧ q = (σ n).2 :=
  eqAt_all fun y => h y n (Nat.le_refl _) (fun j hj _ => hD j hj) (fun j hj hlt _ => absurd hlt (by omega))
theorem Inv.next {σ : Nat → S × O} {rd wr : Nat → List Loc} {n : Nat} {D : Nat → Prop} {t t' : S} {q q' : O} {i : Nat} (h : Inv σ wr n D t q) (hi : i < n) (hni : ¬ D i)
    (hs : ∀ i y, i < n → y ∉ wr i → EqAt y (σ (i + 1)).1 (σ (i + 1)).2 (σ i).1 (σ i).2)
    (later : ∀ j y, i < j → j < n → y ∈ wr i → y ∈ wr j → ¬ D j)
    (h1 : ∀ y, y ∈ wr i → EqAt y t' q' (σ (i + 1)).1 (σ (i + 1)).2) (h2 : ∀ y, y ∉ wr i → EqAt y t' q' t q) : Inv σ wr n (fun j => D j ∨ j = i) t' q' := by
  intro y k hk c1 c2
  by_cases hy : y ∈ wr i
  · have hik : i < k := by
      rcases Nat.lt_or_ge i k with h | h
      · exact h
      · exact absurd (.inr rfl) (c2 i h hi hy)
    refine (h1 y hy).trans (between hs (show i + 1 ≤ k by omega) hk fun j hj hjk hyj => ?_).symm
    rcases c1 j hjk hyj with h' | h'
    · exact later j y (by omega) (by omega) hy hyj h'
    · omega
  · refine (h2 y hy).trans (h y k hk (fun j hj hyj => ?_) fun j hj hjn hyj hd => c2 j hj hjn hyj (.inl hd))
    rcases c1 j hj hyj with h' | h'
    · exact h'
    · subst h'; exact absurd hyj hy
theorem Inv.at {σ : Nat → S × O} {wr : Nat → List Loc} {n : Nat} {D : Nat → Prop} {t : S} {q : O} {i : Nat} (h : Inv σ wr n D t q) (hi : i < n) (hni : ¬ D i) {y : Loc}
    (early : ∀ j, j < i → y ∈ wr j → D j) (later : ∀ j, i < j → j < n → y ∈ wr j → ¬ D j) : EqAt y t q (σ i).1 (σ i).2 :=
  h y i (by omega) early fun j hj hjn hy => by
    by_cases e : j = i
    · subst e; exact hni
    · exact later j (by omega) hjn hy
theorem filter_lt {β : Type} {p q : β → Bool} : ∀ {l : List β} {x : β}, (∀ y, p y = true → q y = true) → x ∈ l → q x = true → p x = false → (l.filter p).length < (l.filter q).length
  | [], x, _, h, _, _ => by simp at h
  | y :: l, x, hpq, h, hq, hp => by
    have hle : ∀ l : List β, (l.filter p).length ≤ (l.filter q).length := by
      intro l
      induction l with
      | nil => simp
      | cons z l ih =>
        simp only [List.filter_cons]
        cases hz : p z with
        | true => simp [hpq z hz, ih]
        | false => cases q z <;> simp <;> omega
    simp only [List.filter_cons]
    rcases List.mem_cons.mp h with rfl | h
    · simp only [hp, hq, Bool.false_eq_true, if_false, if_true, List.length_cons]
      have := hle l; omega
    · have ih := filter_lt hpq h hq hp
      cases hz : p y with
      | true => simp [hpq y hz]; omega
      | false => cases q y <;> simp <;> omega
section
variable {R : Type} {P : Program} {C : Cfg} {Q : Orc} {ny : Bool}
/-- a stretch of a region -/
structure Rn (dst : Nat → Prop) (a0 : Act) (w0 : World) (G0 : Gh) (s0 : S) (o0 : O) (a : Act) (w : World) (G : Gh) (s : S) (o : O) : Prop where
  st : St w G s o a.tmps
  to : To w0 G0 s0 o0 w G s o
  size : a.tmps.size = a0.tmps.size
  defers : a.defers = a0.defers
  out : ∀ u, ¬ dst u → a.tmps.getD u undef = a0.tmps.getD u undef
variable {dst : Nat → Prop} {a0 a : Act} {w0 w w' : World} {G0 G : Gh} {s0 s t : S} {o0 o q : O}
theorem setIf_size (x : Array Value) (d : Nat) (v : Value) : (x.setIfInBounds d v).size = x.size := by simp
theorem setIf_ne (x : Array Value) {d u : Nat} (v : Value) (h : u ≠ d) : (x.setIfInBounds d v).getD u undef = x.getD u undef := by
  simp only [Array.getD_eq_getD_getElem?, Array.getElem?_setIfInBounds]
  rw [if_neg (Ne.symm h)]
theorem Rn.put (h : Rn dst a0 w0 G0 s0 o0 a w G s o) {d : Nat} {v : AV} {x : Value} (hd : d < a0.tmps.size) (hdd : dst d) (hv : AVR w G (used w G s o) v x) : Rn dst a0 w0 G0 s0 o0 (a.put (some d) x) w G (s.put d v) o :=
  ⟨h.st.put (by rw [h.size]; exact hd) hv, ⟨h.to.ext, h.to.keeps, h.to.imm⟩, (setIf_size _ _ _).trans h.size, h.defers, fun u hu => (setIf_ne _ _ (by rintro rfl; exact hu hdd)).trans (h.out u hu)⟩
theorem Rn.later (h : Rn dst a0 w0 G0 s0 o0 a w G s o) {G' : Gh} {s' : S} {o' : O} (hs : St w' G' s' o' a.tmps) (ht : To w G s o w' G' s' o') : Rn dst a0 w0 G0 s0 o0 a w' G' s' o' :=
  ⟨hs, h.to.trans ht, h.size, h.defers, h.out⟩
theorem opP_wp (hC : TyOk P C) (hF : FnOk P C) (hQ : OrcF P C Q) {all : List Oper} {p : Oper} {m l' : Log} {s' : S} {o' : O} (h : (opP C Q ny all p).ev s o m = some ((), s', o', l')) (hr : Rn dst a0 w0 G0 s0 o0 a w G s o) (hd : ∀ d, p.dst = some d → d < a0.tmps.size ∧ dst d)
    {K : Act → World → Prop} {Q' : Exit → Act → World → Prop} (hK : ∀ a' w' G', Rn dst a0 w0 G0 s0 o0 a' w' G' s' o' → K a' w') : p.wp P a w K Q' := by
  obtain ⟨v, s1, o1, l1, h1, h2⟩ := evOp_ok hC hF hQ ny all (p := p) _ _ _ w G s o m a h hr.st
  refine h2 K Q' fun x w1 G' hst hto hv => ?_
  have hr1 := hr.later hst hto
  cases hdst : p.dst with
  | none =>
    simp only [hdst, Prog.run] at h1
    injection h1 with h1; injection h1 with _ h1; injection h1 with e1 h1; injection h1 with e2 _
    subst e1; subst e2
    exact hK _ _ _ hr1
  | some d =>
    simp only [hdst, Prog.run] at h1
    injection h1 with h1; injection h1 with _ h1; injection h1 with e1 h1; injection h1 with e2 _
    subst e1; subst e2
    obtain ⟨k1, k2⟩ := hd d hdst
    exact hK _ _ _ (hr1.put k1 k2 hv)
theorem skipP_ok {p : Oper} {m l' : Log} {s' : S} {o' : O} (h : (skipP p).ev s o m = some ((), s', o', l')) (hr : Rn dst a0 w0 G0 s0 o0 a w G s o) (hd : ∀ d, p.dst = some d → d < a0.tmps.size ∧ dst d) : Rn dst a0 w0 G0 s0 o0 (a.put p.dst undef) w G s' o' := by
  unfold skipP at h
  split at h
  · rename_i d hdst
    injection h with h; injection h with _ h; injection h with e1 h; injection h with e2 _
    subst e1; subst e2
    obtain ⟨k1, k2⟩ := hd d hdst
    rw [hdst]
    exact hr.put k1 k2 .un
  · rename_i hdst
    injection h with h; injection h with _ h; injection h with e1 h; injection h with e2 _
    subst e1; subst e2
    rw [hdst]
    exact hr
theorem gP_wp (hC : TyOk P C) (hF : FnOk P C) (hQ : OrcF P C Q) {ops : Array Oper} {i : Nat} {p : Oper} {m l' : Log} {s' : S} {o' : O} (hi : ops[i]? = some p) (h : (gP C Q ny ops.toList p).ev s o m = some ((), s', o', l')) (hr : Rn dst a0 w0 G0 s0 o0 a w G s o) (hd : ∀ d, p.dst = some d → d < a0.tmps.size ∧ dst d)
    {K : Act → World → Prop} {Q' : Exit → Act → World → Prop} (hK : ∀ a' w' G', Rn dst a0 w0 G0 s0 o0 a' w' G' s' o' → K a' w') : wpOp P ops Q' i K a w := by
  unfold wpOp
  rw [hi]
  dsimp only
  unfold gP at h
  split at h
  · rename_i hg
    have : Region.wanted p (yielded ops a.tmps) = true := by unfold Region.wanted; rw [hg]
    rw [if_pos this]
    exact .inl (opP_wp hC hF hQ h hr hd hK)
  · rename_i j want hg
    split at h
    · rename_i d hgd
      have hgd' : (ops[j]?).bind (·.dst) = some d := by
        unfold guardDst at hgd
        rw [← Array.getElem?_toList]
        cases hq : ops.toList[j]? with
        | none => rw [hq] at hgd; cases hgd
        | some q => rw [hq] at hgd; exact hgd
      simp only [Prog.ev, Prog.run] at h
      split at h
      · rename_i v hv
        obtain ⟨hlt, hx⟩ := hr.st.env d v hv
        have hget : a.tmps[d]? = some (a.tmps.getD d undef) := by
          rw [Array.getD_eq_getD_getElem?, Array.getElem?_eq_getElem hlt]; rfl
        have hw : Region.wanted p (yielded ops a.tmps) = ((match a.tmps.getD d undef with | .bool b => some b | _ => none) == some want) := by
          unfold Region.wanted yielded
          rw [hg]
          simp only [hgd', Option.bind_some, hget]
          cases a.tmps.getD d undef <;> rfl
        split at h
        · have hu : a.tmps.getD d undef = undef := by
            generalize a.tmps.getD d undef = u at hx
            cases hx; rfl
          have : Region.wanted p (yielded ops a.tmps) = false := by rw [hw, hu]; rfl
          rw [if_neg (by rw [this]; simp)]
          exact hK _ _ _ (skipP_ok h hr hd)
        · rename_i x
          obtain ⟨b, rfl, h1⟩ := lB_inv h
          have hu : a.tmps.getD d undef = .bool b := by
            have hx := hx.c_inv
            generalize a.tmps.getD d undef = u at hx
            cases hx; rfl
          have hw2 : Region.wanted p (yielded ops a.tmps) = (b == want) := by rw [hw, hu]; cases b <;> cases want <;> rfl
          split at h1
          · rename_i e
            rw [if_pos (by rw [hw2]; exact e)]
            exact .inl (opP_wp hC hF hQ h1 hr hd hK)
          · rename_i e
            rw [if_neg (by rw [hw2, e]; simp)]
            exact hK _ _ _ (skipP_ok h1 hr hd)
        · cases h
      · cases h
    · cases h
end
end Go.Ev
/- Regions. -/
namespace Go.Ev
open Go Go.RowKit
variable [Glob]
def Lst (listed : Array Bool) (j : Nat) : Prop := listed.getD j false = true
theorem lst_set {listed : Array Bool} {i j : Nat} (hi : i < listed.size) : Lst (listed.setIfInBounds i true) j ↔ Lst listed j ∨ j = i := by
  unfold Lst
  simp only [Array.getD_eq_getD_getElem?, Array.getElem?_setIfInBounds]
  by_cases e : i = j
  · subst e; simp [hi]
  · rw [if_neg e]
    exact ⟨.inl, fun h => h.resolve_right (Ne.symm e)⟩
theorem ready_iff {ops : Array Oper} {listed : Array Bool} {i : Nat} (hs : listed.size = ops.size) : i ∈ Region.ready .any ops listed ↔ ∃ p, ops[i]? = some p ∧ ¬ Lst listed i ∧ ∀ e, e ∈ p.after.toList → Region.binds .any e = true → Lst listed e.on := by
  unfold Region.ready
  rw [List.mem_filter, List.mem_range]
  constructor
  · rintro ⟨h1, h2⟩
    rw [Bool.and_eq_true] at h2
    obtain ⟨h2, h3⟩ := h2
    refine ⟨ops[i], Array.getElem?_eq_getElem h1, ?_, fun e he hb => ?_⟩
    · unfold Lst
      have hlt : i < listed.size := by omega
      simp only [Array.getD_eq_getD_getElem?, Array.getElem?_eq_getElem hlt, Option.getD_some] at h2 ⊢
      simpa using h2
    · rw [Array.getElem?_eq_getElem h1] at h3
      simp only [Option.map_some, Option.getD_some] at h3
      rw [Array.all_eq_true_iff_forall_mem] at h3
      have := h3 e (by simpa using he)
      rw [hb] at this
      simpa [Lst] using this
  · rintro ⟨p, hp, h2, h3⟩
    have h1 := (Array.getElem?_eq_some_iff.mp hp).1
    refine ⟨h1, ?_⟩
    rw [Bool.and_eq_true]
    refine ⟨?_, ?_⟩
    · unfold Lst at h2
      have hlt : i < listed.size := by omega
      simp only [Array.getD_eq_getD_getElem?, Array.getElem?_eq_getElem hlt, Option.getD_some] at h2 ⊢
      simpa using h2
    · rw [hp]
      simp only [Option.map_some, Option.getD_some]
      rw [Array.all_eq_true_iff_forall_mem]
      intro e he
      have := h3 e (by simpa using he)
      cases hb : Region.binds .any e with
      | false => rfl
      | true => simpa [Lst] using this hb
section
variable {R : Type} {P : Program} {C : Cfg} {Q : Orc} {ny : Bool}
variable {dst : Nat → Prop} {a0 a : Act} {w0 w w' : World} {G0 G : Gh} {s0 s t : S} {o0 o q : O}
/-- what is known of a region's operations -/
structure Rg (P : Program) (C : Cfg) (Q : Orc) (ny : Bool) (dst : Nat → Prop) (ops : Array Oper) (size : Nat) (σ : Nat → S × O) (L : Nat → Log) : Prop where
  run : Run C Q ny ops.toList ops.toList σ L
  dst : ∀ p, p ∈ ops.toList → ∀ d, p.dst = some d → d < size ∧ dst d
theorem Rg.did {ops : Array Oper} {size : Nat} {σ : Nat → S × O} {L : Nat → Log} (h : Rg P C Q ny dst ops size σ L) {i : Nat} {p : Oper} (hi : ops[i]? = some p) : Did (gP C Q ny ops.toList p) (σ i).1 (σ i).2 () (σ (i + 1)).1 (σ (i + 1)).2 (L i).rd (L i).wr := by
  obtain ⟨rd, wr, h1, h2⟩ := ev_local _ _ _ _ _ _ _ _ (h.run.step i p (by simpa using hi))
  rw [h1]
  simpa using h2
theorem Rg.mem {ops : Array Oper} {i : Nat} {p : Oper} (hi : ops[i]? = some p) : p ∈ ops.toList := by
  have : ops.toList[i]? = some p := by simpa using hi
  exact List.mem_of_getElem? this
/-- in the text's order -/
theorem wp_text (hC : TyOk P C) (hF : FnOk P C) (hQ : OrcF P C Q) {ops : Array Oper} {σ : Nat → S × O} {L : Nat → Log} (hR : Rg P C Q ny dst ops a0.tmps.size σ L) {Q' : Exit → Act → World → Prop}
    (fin : ∀ a' w' G', Rn dst a0 w0 G0 s0 o0 a' w' G' (σ ops.size).1 (σ ops.size).2 → Q' .normal a' w') : ∀ (m i : Nat) (a : Act) (w : World) (G : Gh), i + m = ops.size → Rn dst a0 w0 G0 s0 o0 a w G (σ i).1 (σ i).2 → wpOps P ops Q' (List.range' i m) a w
  | 0, i, a, w, G, h, hr => by
    have : i = ops.size := by omega
    subst this
    exact fin _ _ _ hr
  | m + 1, i, a, w, G, h, hr => by
    rw [List.range'_succ, wpOps_cons]
    have hi : ops[i]? = some ops[i] := Array.getElem?_eq_getElem (by omega)
    exact gP_wp hC hF hQ hi (hR.run.step i _ (by simpa using hi)) hr (hR.dst _ (Rg.mem hi)) fun a' w' G' hr' => wp_text hC hF hQ hR fin m (i + 1) a' w' G' (by omega) hr'
/-- in any order -/
theorem wp_any (hC : TyOk P C) (hF : FnOk P C) (hQ : OrcF P C Q) {ops : Array Oper} {σ : Nat → S × O} {L : Nat → Log} (hR : Rg P C Q ny dst ops a0.tmps.size σ L) (hE : ∀ j p, ops[j]? = some p → ∀ e, e ∈ p.after.toList → Region.binds .any e = true → e.on < j)
    (hD : drawOk (Region.before ops).toList ((List.range ops.size).map L) = true) {Q' : Exit → Act → World → Prop}
    (fin : ∀ a' w' G', Rn dst a0 w0 G0 s0 o0 a' w' G' (σ ops.size).1 (σ ops.size).2 → Q' .normal a' w') :
    ∀ (fuel : Nat) (listed : Array Bool) (t : S) (q : O) (a : Act) (w : World) (G : Gh), listed.size = ops.size → ((List.range ops.size).filter fun i => !listed.getD i false).length ≤ fuel →
      Inv σ (fun i => (L i).wr) ops.size (Lst listed) t q → (∀ j p, Lst listed j → ops[j]? = some p → ∀ e, e ∈ p.after.toList → Region.binds .any e = true → Lst listed e.on) → Rn dst a0 w0 G0 s0 o0 a w G t q → wpAny P .any ops Q' fuel listed a w := by
  have hs : ∀ i y, i < ops.size → y ∉ (L i).wr → EqAt y (σ (i + 1)).1 (σ (i + 1)).2 (σ i).1 (σ i).2 := fun i y hi hy => (hR.did (Array.getElem?_eq_getElem hi)).same y hy
  have hcl : ∀ i j, i < j → j < ops.size → ((Region.before ops).getD j 0).testBit i = true ∨ clash (L i) (L j) = false := fun i j hij hj => by
    have h := drawOk_of hD (i := i) (j := j) (a := L i) (b := L j) (by rw [List.getElem?_map, List.getElem?_range (by omega)]; rfl) (by rw [List.getElem?_map, List.getElem?_range hj]; rfl) hij
    refine h.imp (fun h => ?_) id
    rw [Array.getD_eq_getD_getElem?]
    rw [List.getD_eq_getElem?_getD] at h
    simpa using h
  have all : ∀ (listed : Array Bool) (t : S) (q : O) (a : Act) (w : World) (G : Gh), Inv σ (fun i => (L i).wr) ops.size (Lst listed) t q → (∀ j, j < ops.size → Lst listed j) → Rn dst a0 w0 G0 s0 o0 a w G t q → Q' .normal a w := by
    intro listed t q a w G hI hall hr
    obtain ⟨rfl, rfl⟩ := hI.done hall
    exact fin _ _ _ hr
  intro fuel
  induction fuel with
  | zero =>
    intro listed t q a w G hsz hc hI hdc hr
    have hall : ∀ j, j < ops.size → Lst listed j := fun j hj => by
      have hnil : (List.range ops.size).filter (fun i => !listed.getD i false) = [] := List.eq_nil_of_length_eq_zero (by omega)
      rw [List.filter_eq_nil_iff] at hnil
      have := hnil j (List.mem_range.mpr hj)
      simpa [Lst] using this
    refine ⟨?_, all listed t q a w G hI hall hr⟩
    rw [List.eq_nil_iff_forall_not_mem]
    intro i hi
    obtain ⟨p, hp, h1, _⟩ := (ready_iff hsz).mp hi
    exact h1 (hall i (Array.getElem?_eq_some_iff.mp hp).1)
  | succ fuel ih =>
    intro listed t q a w G hsz hc hI hdc hr
    refine ⟨fun hnil => ?_, fun i hi => ?_⟩
    · have hall : ∀ j, j < ops.size → Lst listed j := by
        intro j
        induction j using Nat.strongRecOn with
        | _ j ihj =>
          intro hj
          by_cases e : Lst listed j
          · exact e
          · have hp : ops[j]? = some ops[j] := Array.getElem?_eq_getElem hj
            have : j ∈ Region.ready .any ops listed := (ready_iff hsz).mpr ⟨_, hp, e, fun e' he hb => by
              have := hE j _ hp e' he hb
              exact ihj e'.on this (by omega)⟩
            rw [hnil] at this; simp at this
      exact all listed t q a w G hI hall hr
    · obtain ⟨p, hp, h1, h2⟩ := (ready_iff hsz).mp hi
      have hin := (Array.getElem?_eq_some_iff.mp hp).1
      have hdid := hR.did hp
      have early : ∀ j y, j < i → (y ∈ (L i).rd ∨ y ∈ (L i).wr) → y ∈ (L j).wr → Lst listed j := by
        intro j y hj hy hyj
        rcases hcl j i hj hin with h | h
        · exact before_in hdc i j p hp h2 h
        · obtain ⟨c1, c2, _⟩ := clash_false h y
          exact (hy.elim (fun hy => c2 ⟨hyj, hy⟩) fun hy => c1 ⟨hyj, hy⟩).elim
      have later : ∀ j y, i < j → j < ops.size → (y ∈ (L i).rd ∨ y ∈ (L i).wr) → y ∈ (L j).wr → ¬ Lst listed j := by
        intro j y hj hjn hy hyj hl
        rcases hcl i j hj hjn with h | h
        · have hpj : ops[j]? = some ops[j] := Array.getElem?_eq_getElem hjn
          exact h1 (before_in hdc j i _ hpj (hdc j _ hl hpj) h)
        · obtain ⟨c1, _, c3⟩ := clash_false h y
          exact hy.elim (fun hy => c3 ⟨hy, hyj⟩) fun hy => c1 ⟨hy, hyj⟩
      obtain ⟨t', q', h3, h4, h5⟩ := hdid.redo t q ⟨[], []⟩ fun y hy => (hI.at hin h1 (fun j hj hyj => early j y hj hy hyj) fun j hj hjn hyj => later j y hj hjn hy hyj).symm
      have hset := fun j => lst_set (listed := listed) (i := i) (j := j) (by omega)
      refine gP_wp hC hF hQ hp h3 hr (hR.dst _ (Rg.mem hp)) fun a' w' G' hr' => ih _ t' q' a' w' G' (by simp [hsz]) ?_ ?_ ?_ hr'
      · have hlt := filter_lt (p := fun j => !(listed.setIfInBounds i true).getD j false) (q := fun j => !listed.getD j false) (l := List.range ops.size) (x := i) (fun j hj => by
          have := (hset j)
          unfold Lst at this
          cases e : listed.getD j false with
          | false => rfl
          | true => rw [this.mpr (.inl e)] at hj; cases hj) (List.mem_range.mpr hin) (by
          unfold Lst at h1
          cases e : listed.getD i false with
          | false => rfl
          | true => exact absurd e h1) (by
          have := (hset i).mpr (.inr rfl)
          unfold Lst at this
          rw [this]; rfl)
        omega
      · have hI' := hI.next (rd := fun i => (L i).rd) hin h1 hs (fun j y hj hjn hy hyj => later j y hj hjn (.inr hy) hyj) h4 h5
        intro y k hk c1 c2
        exact hI' y k hk (fun j hj hy => (hset j).mp (c1 j hj hy)) (fun j hj hjn hy hd => c2 j hj hjn hy ((hset j).mpr hd))
      · intro j p' hj hp' e he hb
        rcases (hset j).mp hj with hj | rfl
        · exact (hset _).mpr (.inl (hdc j p' hj hp' e he hb))
        · rw [hp] at hp'; injection hp' with hp'; subst hp'
          exact (hset _).mpr (.inl (h2 e he hb))
end
end Go.Ev
/- Regions, whole. -/
namespace Go.Ev
open Go Go.RowKit
variable [Glob]
def edgesOk (ops : Array Oper) : Bool := ops.toList.zipIdx.all fun (o, i) => o.after.toList.all fun e => !(Region.binds .any e) || Nat.blt e.on i
/-- edges lead back; what is filled is a temporary of the function -/
def regionOk (n : Nat) (ops : Array Oper) : Bool := edgesOk ops && ops.toList.all fun o => match o.dst with | some d => Nat.blt d n | none => true
def codeOk (n : Nat) : Code → Bool
  | .region _ ops _ => regionOk n ops
  | .seq a b => codeOk n a && codeOk n b
  | .cond _ a b => codeOk n a && codeOk n b
  | .block _ b => codeOk n b
  | .loop b => codeOk n b
  | .scope b => codeOk n b
  | _ => true
theorem edgesOk_of {ops : Array Oper} (h : edgesOk ops = true) : ∀ j p, ops[j]? = some p → ∀ e, e ∈ p.after.toList → Region.binds .any e = true → e.on < j := by
  intro j p hp e he hb
  unfold edgesOk at h
  rw [List.all_eq_true] at h
  have h1 := h (p, j) (List.mem_zipIdx_iff_getElem?.mpr (by simpa using hp))
  simp only at h1
  rw [List.all_eq_true] at h1
  have h2 := h1 e he
  rw [hb] at h2
  exact Nat.blt_eq.mp (by simpa using h2)
section
variable {R : Type} {P : Program} {C : Cfg} {Q : Orc} {ny : Bool}
variable {a : Act} {w w' : World} {G G' : Gh} {s s' t : S} {o o' q : O} {tmps : Array Value}
/-- A stretch of a function's run. -/
structure Po (a : Act) (w : World) (G : Gh) (s : S) (o : O) (a' : Act) (w' : World) (G' : Gh) (s' : S) (o' : O) : Prop where
  st : St w' G' s' o' a'.tmps
  to : To w G s o w' G' s' o'
  size : a'.tmps.size = a.tmps.size
  defers : a'.defers = a.defers
theorem Po.refl (h : St w G s o a.tmps) : Po a w G s o a w G s o := ⟨h, .refl h, rfl, rfl⟩
theorem Po.trans {a' a'' : Act} {w'' : World} {G'' : Gh} {s'' : S} {o'' : O} (h : Po a w G s o a' w' G' s' o') (k : Po a' w' G' s' o' a'' w'' G'' s'' o'') : Po a w G s o a'' w'' G'' s'' o'' :=
  ⟨k.st, h.to.trans k.to, k.size.trans h.size, k.defers.trans h.defers⟩
/-- the tape is read -/
theorem St.drew (hs : St w G s o tmps) (hw : w'.heap = w.heap ∧ w'.os = w.os ∧ w'.tape = w.tape ∧ w'.output = w.output) : ∃ I', St w' { G with I := I' } s o tmps ∧ To w G s o w' { G with I := I' } s o := by
  obtain ⟨I', _, h1, h2⟩ := after_clo (w' := w') hs (J := G.I) (fun r _ => by rw [hw.1]) ⟨hw.2.1, hw.2.2.1, hw.2.2.2, by rw [hw.1]; exact Nat.le_refl _⟩ (fun _ _ _ => rfl) (fun r hr => by rw [hw.1]; exact hs.heap r hr)
  exact ⟨I', h1, h2⟩
theorem St.reenv (hs : St w G s o tmps) {env' : Nat → Option AV} (h : ∀ u v, env' u = some v → u < tmps.size ∧ AVR w G (used w G s o) v (tmps.getD u undef)) : St w G ⟨env', s.own, s.gen⟩ o tmps := ⟨h, hs.own, hs.out, hs.heap, hs.base⟩
theorem del_env : ∀ {ops : List Oper} {u : Nat} {y : AV}, (s.del ops).env u = some y → s.env u = some y ∧ ∀ p, p ∈ ops → p.dst ≠ some u
  | [], u, y, h => ⟨h, fun p hp => by simp at hp⟩
  | o :: l, u, y, h => by
    unfold S.del at h
    split at h
    · rename_i d hd
      have h : (cond (Nat.beq u d) none ((s.del l).env u)) = some y := h
      cases hb : Nat.beq u d with
      | true => rw [hb] at h; cases h
      | false =>
        rw [hb] at h
        obtain ⟨h1, h2⟩ := del_env h
        refine ⟨h1, fun p hp => ?_⟩
        rcases List.mem_cons.mp hp with rfl | hp
        · rw [hd]; intro e; injection e with e; subst e; simp at hb
        · exact h2 p hp
    · rename_i hd
      obtain ⟨h1, h2⟩ := del_env h
      refine ⟨h1, fun p hp => ?_⟩
      rcases List.mem_cons.mp hp with rfl | hp
      · rw [hd]; simp
      · exact h2 p hp
theorem del_own : ∀ (ops : List Oper), (s.del ops).own = s.own ∧ (s.del ops).gen = s.gen
  | [] => ⟨rfl, rfl⟩
  | o :: l => by
    unfold S.del
    split
    · exact ⟨rfl, rfl⟩
    · exact del_own l
theorem putCs_env : ∀ {ts : List Nat} {xs : List CV} {s : S} {u : Nat} {y : AV}, (putCs s ts xs).env u = some y → (∃ k, ts[k]? = some u ∧ y = .c (g xs k)) ∨ s.env u = some y
  | [], xs, s, u, y, h => .inr h
  | t :: ts, xs, s, u, y, h => by
    rcases putCs_env (ts := ts) h with ⟨k, h1, h2⟩ | h1
    · refine .inl ⟨k + 1, by simpa using h1, ?_⟩
      rw [h2]
      cases xs <;> simp [Go.Ev.g]
    · have h2 : upd s.env t (.c (Go.Ev.g xs 0)) u = some y := h1
      clear h1
      rw [upd_env] at h2
      split at h2
      · rename_i e
        injection h2 with h2
        exact .inl ⟨0, by rw [e]; rfl, h2.symm⟩
      · exact .inr h2
theorem putCs_own : ∀ (ts : List Nat) (xs : List CV) (s : S), (putCs s ts xs).own = s.own ∧ (putCs s ts xs).gen = s.gen
  | [], xs, s => ⟨rfl, rfl⟩
  | t :: ts, xs, s => by
    obtain ⟨h1, h2⟩ := putCs_own ts xs.tail (s.put t (.c (Go.Ev.g xs 0)))
    exact ⟨h1, h2⟩
theorem cvs_get : ∀ {ts : List Nat} {xs : List CV}, cvs s ts = some xs → ∀ k u, ts[k]? = some u → ∃ v, s.env u = some v ∧ shut v = .c (g xs k)
  | [], xs, h, k, u, hk => by simp at hk
  | t :: ts, xs, h, k, u, hk => by
    unfold cvs at h
    split at h
    · rename_i v hv
      split at h
      · rename_i x ys hx hys
        injection h with h; subst h
        cases k with
        | zero => simp at hk; subst hk; exact ⟨v, hv, hx⟩
        | succ k =>
          obtain ⟨v', h1, h2⟩ := cvs_get hys k u (by simpa using hk)
          exact ⟨v', h1, h2⟩
      · cases h
    · cases h
theorem slots_of {l : List Log} (h : slotsOnly l = true) : ∀ (i : Nat) (b : Log), l[i]? = some b → ∀ y : Loc, y ∈ b.wr → ∃ u, y = Loc.slot u := by
  intro i b hi y hy
  unfold slotsOnly at h
  rw [List.all_eq_true] at h
  have h1 := h b (List.mem_of_getElem? hi)
  rw [List.all_eq_true] at h1
  have h2 := h1 y hy
  cases y with
  | slot u => exact ⟨u, rfl⟩
  | _ => cases h2
/-- a region, from its operations -/
theorem wp_ops (hC : TyOk P C) (hF : FnOk P C) (hQ : OrcF P C Q) (hm : P.follows .mixedOrders = true) {id : Nat} {ops : Array Oper} {draw : Bool} {σ : Nat → S × O} {L : Nat → Log} (hok : regionOk a.tmps.size ops = true) (hrun : Run C Q ny ops.toList ops.toList σ L) (h0 : σ 0 = (s, o))
    (hD : draw = true → drawOk (Region.before ops).toList ((List.range ops.size).map L) = true) (hs : St w G s o a.tmps) {Q' : Exit → Act → World → Prop}
    (fin : ∀ a' w' G', Po a w G s o a' w' G' (σ ops.size).1 (σ ops.size).2 → (∀ u, (¬ ∃ p, p ∈ ops.toList ∧ p.dst = some u) → a'.tmps.getD u undef = a.tmps.getD u undef) → Q' .normal a' w') : (Code.region id ops draw).wp P Q' a w := by
  unfold regionOk at hok
  rw [Bool.and_eq_true, List.all_eq_true] at hok
  have hR : Rg P C Q ny (fun u => ∃ p, p ∈ ops.toList ∧ p.dst = some u) ops a.tmps.size σ L := ⟨hrun, fun p hp d hd => ⟨by
    have := hok.2 p hp
    rw [hd] at this
    exact Nat.blt_eq.mp this, p, hp, hd⟩⟩
  cases draw with
  | false =>
    refine wp_region ?_
    rw [List.range_eq_range']
    refine wp_text hC hF hQ hR (w0 := w) (G0 := G) (s0 := s) (o0 := o) (fun a' w' G' hr => fin a' w' G' ⟨hr.st, hr.to, hr.size, hr.defers⟩ hr.out) ops.size 0 a w G (by omega) ?_
    rw [h0]
    exact ⟨hs, .refl hs, rfl, rfl, fun _ _ => rfl⟩
  | true =>
    refine wp_region_any hm ?_
    obtain ⟨I', s1, t1⟩ := hs.drew (w' := { w with drawn := w.drawn + 1 }) ⟨rfl, rfl, rfl, rfl⟩
    refine wp_any hC hF hQ hR (edgesOk_of hok.1) (hD rfl) (w0 := w) (G0 := G) (s0 := s) (o0 := o) (fun a' w' G' hr => fin a' w' G' ⟨hr.st, hr.to, hr.size, hr.defers⟩ hr.out) ops.size _ s o a _ { G with I := I' } (by simp) ?_ ?_ ?_ ?_
    · refine Nat.le_trans (List.length_filter_le _ _) (by simp)
    · have hst : ∀ i y, i < ops.size → y ∉ (L i).wr → EqAt y (σ (i + 1)).1 (σ (i + 1)).2 (σ i).1 (σ i).2 := fun i y hi hy => (hR.did (Array.getElem?_eq_getElem hi)).same y hy
      have := Inv.start (σ := σ) (wr := fun i => (L i).wr) hst
      rw [h0] at this
      intro y k hk c1 c2
      refine this y k hk (fun j hj hy => ?_) (fun j _ _ _ h => h)
      have := c1 j hj hy
      unfold Lst at this
      simp only [Array.getD_eq_getD_getElem?, Array.getElem?_replicate] at this
      split at this <;> simp at this
    · intro j p hj
      unfold Lst at hj
      simp only [Array.getD_eq_getD_getElem?, Array.getElem?_replicate] at hj
      split at hj <;> simp at hj
    · exact ⟨s1, t1, rfl, rfl, fun _ _ => rfl⟩
theorem logOk_inv {draw : Bool} {ops : Array Oper} {logs : List Log} {K : Option R} {r : R} (h : logOk draw ops logs K = some r) : K = some r ∧ (draw = true → drawOk (Region.before ops).toList logs.reverse = true) := by
  unfold logOk at h
  cases draw with
  | false => exact ⟨h, fun e => by cases e⟩
  | true =>
    obtain ⟨h1, h2⟩ := chk_inv h
    exact ⟨h2, fun _ => h1⟩
theorem region_ok (hC : TyOk P C) (hF : FnOk P C) (hQ : OrcF P C Q) (hm : P.follows .mixedOrders = true) {fid id : Nat} {ops : Array Oper} {draw : Bool} {K : S → O → Option R} {r : R} (h : evRegion C Q fid id ops draw s o K = some r) :
    ∃ s' o', K s' o' = some r ∧ ∀ (a : Act) (w : World) (G : Gh), regionOk a.tmps.size ops = true → St w G s o a.tmps → ∀ Q' : Exit → Act → World → Prop, (∀ a' w' G', Po a w G s o a' w' G' s' o' → Q' .normal a' w') → (Code.region id ops draw).wp P Q' a w := by
  have hsz : ops.toList.length = ops.size := Array.length_toList
  unfold evRegion at h
  split at h
  · rename_i ts hj
    split at h
    · rename_i xs hx
      obtain ⟨σ, L, h0, hrun, h1⟩ := evOps_run _ _ _ _ hx
      rw [hsz, List.append_nil] at h1
      obtain ⟨hso, h2⟩ := chk_inv h1
      obtain ⟨h3, hD⟩ := logOk_inv h2
      rw [List.reverse_reverse] at hD
      refine ⟨_, _, h, fun a w G hok hs Q' fin => wp_ops hC hF hQ hm hok hrun h0 hD hs fun a' w' G' hp hout => ?_⟩
      -- slots alone have been written
      have hR : ∀ i y, i < ops.size → y ∉ (L i).wr → EqAt y (σ (i + 1)).1 (σ (i + 1)).2 (σ i).1 (σ i).2 := fun i y hi hy => by
        have hi' : ops.toList[i]? = some ops[i] := by simp [hi]
        obtain ⟨rd, wr, e1, e2⟩ := ev_local _ _ _ _ _ _ _ _ (hrun.step i _ hi')
        rw [e1] at hy
        exact e2.same y (by simpa using hy)
      have hsl : ∀ y, (∀ u, y ≠ .slot u) → EqAt y (σ ops.size).1 (σ ops.size).2 s o := fun y hy => by
        have := between (i := 0) hR (Nat.zero_le _) (Nat.le_refl ops.size) (y := y) (fun j _ hj hyj => by
          obtain ⟨u, e⟩ := slots_of hso (ops.size - 1 - j) (L j) (by
            rw [List.getElem?_reverse (by simp; omega), List.getElem?_map, List.length_map, List.length_range, List.getElem?_range (by omega)]
            simp
            congr 1; omega) y hyj
          exact hy u e)
        rwa [h0] at this
      have hown : (σ ops.size).1.own = s.own := funext fun b => hsl (.blk b) (by simp)
      obtain ⟨hgen, ho⟩ := hsl .out (by simp)
      have hgen : (σ ops.size).1.gen = s.gen := hgen
      have ho : (σ ops.size).2 = o := O.ext' ho fun id => hsl (.outB id) (by simp)
      have heq : putCs (s.del ops.toList) ts xs = ⟨(putCs (s.del ops.toList) ts xs).env, (σ ops.size).1.own, (σ ops.size).1.gen⟩ := by
        obtain ⟨e1, e2⟩ := putCs_own ts xs (s.del ops.toList)
        obtain ⟨e3, e4⟩ := del_own (s := s) ops.toList
        rw [hown, hgen, ← e3, ← e4, ← e1, ← e2]
      have hto : To w G s o w' G' (putCs (s.del ops.toList) ts xs) o := by
        have := hp.to
        rw [heq]
        rw [ho] at this
        exact ⟨this.ext, this.keeps, this.imm⟩
      refine fin a' w' G' ⟨?_, hto, hp.size, hp.defers⟩
      have hst := hp.st
      rw [ho] at hst
      rw [heq]
      refine hst.reenv fun u v hu => ?_
      rcases putCs_env hu with ⟨k, hk, rfl⟩ | hu
      · obtain ⟨v', h5, h6⟩ := cvs_get h3 k u hk
        obtain ⟨h7, h8⟩ := hst.env u v' h5
        refine ⟨h7, ?_⟩
        rw [← h6]
        exact shut_of h8
      · obtain ⟨h5, h6⟩ := del_env hu
        obtain ⟨h7, h8⟩ := hs.env u v h5
        refine ⟨by rw [hp.size]; exact h7, ?_⟩
        rw [hout u (fun ⟨p, hp, hd⟩ => h6 p hp hd)]
        have := hp.to.val h8
        rwa [ho] at this
    · cases h
  · obtain ⟨σ, L, h0, hrun, h1⟩ := evOps_run _ _ _ _ h
    rw [hsz, List.append_nil] at h1
    obtain ⟨h3, hD⟩ := logOk_inv h1
    rw [List.reverse_reverse] at hD
    exact ⟨_, _, h3, fun a w G hok hs Q' fin => wp_ops hC hF hQ hm hok hrun h0 hD hs fun a' w' G' hp _ => fin a' w' G' hp⟩
end
end Go.Ev
/- The state at a loop's head, by its template. -/
namespace Go.Ev
open Go Go.RowKit
variable [Glob]
/-! ### Association lists -/
theorem lookN_mem : ∀ {m : List (Nat × Nat)} {k n : Nat}, lookN m k = some n → (k, n) ∈ m
  | [], k, n, h => by cases h
  | (a, b) :: l, k, n, h => by
    unfold lookN at h
    rcases cond_inv h with ⟨h1, h2⟩ | ⟨_, h2⟩
    · injection h2 with h2
      have := Nat.eq_of_beq_eq_true h1
      subst this; subst h2; simp
    · exact List.mem_cons_of_mem _ (lookN_mem h2)
theorem lookN_cons {m : List (Nat × Nat)} {k k' n n' : Nat} (h : lookN m k = some n) (hk : k' ≠ k) : lookN ((k', n') :: m) k = some n := by
  unfold lookN
  have : Nat.beq k' k = false := by
    cases hb : Nat.beq k' k with
    | false => rfl
    | true => exact absurd (Nat.eq_of_beq_eq_true hb) hk
  rw [this]; exact h
theorem lookN_head {m : List (Nat × Nat)} {k n : Nat} : lookN ((k, n) :: m) k = some n := by
  unfold lookN; simp
def lookV (l : List (Nat × Nat)) (n : Nat) : Option Nat := match l with
  | [] => none
  | (a, b) :: l => if b = n then some a else lookV l n
theorem lookV_mem : ∀ {m : List (Nat × Nat)} {k n : Nat}, lookV m n = some k → (k, n) ∈ m
  | [], k, n, h => by cases h
  | (a, b) :: l, k, n, h => by
    unfold lookV at h
    split at h
    · rename_i e; injection h with h; subst h; subst e; simp
    · exact List.mem_cons_of_mem _ (lookV_mem h)
theorem lookV_of : ∀ {m : List (Nat × Nat)} {k n : Nat}, apartN m = true → (k, n) ∈ m → lookV m n = some k
  | [], k, n, _, h => by simp at h
  | (a, b) :: l, k, n, ha, h => by
    unfold apartN at ha
    rw [Bool.and_eq_true, List.all_eq_true] at ha
    unfold lookV
    rcases List.mem_cons.mp h with h | h
    · injection h with e1 e2; subst e1; subst e2; rw [if_pos rfl]
    · rw [if_neg]
      · exact lookV_of ha.2 h
      · rintro rfl
        have := ha.1 _ h
        simp at this
/-! ### References -/
theorem sameBool_eq {p q : Bool} (h : sameBool p q = true) : p = q := by cases p <;> cases q <;> first | rfl | cases h
theorem sameFn_eq {f f' : Fn} (h : sameFn f f' = true) : f = f' := by
  unfold sameFn at h
  split at h
  · rw [Nat.eq_of_beq_eq_true h]
  · cases h
theorem sameCV_eq : ∀ (n : Nat) (u v : CV), sameCV n u v = true → u = v
  | 0, u, v, h => by cases h
  | n + 1, u, v, h => by
    have lists : ∀ {a b : List CV}, sameCVs (sameCV n) a b = true → a = b := by
      intro a
      induction a with
      | nil => intro b h; cases b; rfl; cases h
      | cons x a ih =>
        intro b h
        cases b with
        | nil => cases h
        | cons y b =>
          unfold sameCVs at h
          rw [Bool.and_eq_true] at h
          rw [sameCV_eq n x y h.1, ih h.2]
    unfold sameCV at h
    split at h
    · rw [Bool.and_eq_true] at h
      rw [kbeq_eq h.1, eq_of_beq h.2]
    · rw [sameBool_eq h]
    · rename_i a b
      obtain ⟨⟨a⟩⟩ := a; obtain ⟨⟨b⟩⟩ := b
      rw [show a = b from eq_of_beq h]
    all_goals first | rfl | skip
    · rw [Bool.and_eq_true, Bool.and_eq_true] at h
      rw [sameBool_eq h.1.1, sameCV_eq n _ _ h.1.2, Nat.eq_of_beq_eq_true h.2]
    · rw [lists h]
    · rw [lists h]
    · rw [Nat.eq_of_beq_eq_true h]
    · rw [Bool.and_eq_true, Bool.and_eq_true] at h
      rw [sameFn_eq h.1.1, lists h.1.2, lists h.2]
    · rw [Bool.and_eq_true] at h
      rw [Nat.eq_of_beq_eq_true h.1, sameCV_eq n _ _ h.2]
    · rw [lists h]
    · rw [lists h]
    · rw [Bool.and_eq_true] at h
      rw [lists h.1, lists h.2]
    · cases h
theorem sameRef_eq : ∀ (n : Nat) (u v : AV), sameRef n u v = true → u = v
  | 0, u, v, h => by cases h
  | n + 1, u, v, h => by
    have lists : ∀ {a b : List AV}, sameRefs (sameRef n) a b = true → a = b := by
      intro a
      induction a with
      | nil => intro b h; cases b; rfl; cases h
      | cons x a ih =>
        intro b h
        cases b with
        | nil => cases h
        | cons y b =>
          unfold sameRefs at h
          rw [Bool.and_eq_true] at h
          rw [sameRef_eq n x y h.1, ih h.2]
    unfold sameRef at h
    split at h
    · rw [Bool.and_eq_true] at h
      rw [Nat.eq_of_beq_eq_true h.1, Nat.eq_of_beq_eq_true h.2]
    · rw [Bool.and_eq_true] at h
      rw [Nat.eq_of_beq_eq_true h.1, Nat.eq_of_beq_eq_true h.2]
    · rw [Nat.eq_of_beq_eq_true h]
    · rw [Bool.and_eq_true] at h
      rw [Nat.eq_of_beq_eq_true h.1, Nat.eq_of_beq_eq_true h.2]
    · rw [Nat.eq_of_beq_eq_true h]
    · rw [Bool.and_eq_true] at h
      rw [Nat.eq_of_beq_eq_true h.1, sameRef_eq n _ _ h.2]
    · rename_i p a b q c d
      rw [Bool.and_eq_true, Bool.and_eq_true] at h
      have hp : p = q := by cases p <;> cases q <;> first | rfl | cases h.1.1
      rw [hp, sameRef_eq n a c h.1.2, Nat.eq_of_beq_eq_true h.2]
    · rename_i f a b f' c d
      rw [Bool.and_eq_true, Bool.and_eq_true] at h
      have hf : f = f' := by
        have := h.1.1
        unfold sameFn at this
        split at this
        · rw [Nat.eq_of_beq_eq_true this]
        · cases this
      rw [hf, lists h.1.2, lists h.2]
    · rw [sameCV_eq _ _ _ h]
    · cases h
section
variable {w : World} {G G' : Gh} {U U' : Used} {s : S} {o : O} {tmps : Array Value}
theorem sameRefs_eq {f : AV → AV → Bool} (hf : ∀ u v, f u v = true → u = v) : ∀ {a b : List AV}, sameRefs f a b = true → a = b
  | [], [], _ => rfl
  | [], _ :: _, h => by cases h
  | _ :: _, [], h => by cases h
  | x :: a, y :: b, h => by
    unfold sameRefs at h
    rw [Bool.and_eq_true] at h
    rw [hf x y h.1, sameRefs_eq hf h.2]
theorem sameCell_eq (u v : AV) (h : sameCell u v = true) : u = v := by
  unfold sameCell at h
  split at h
  · rfl
  · rfl
  · exact sameRef_eq 8 u v h
theorem ref_ok {f : Nat → Bool} (hf : ∀ b, f b = true → U'.own b ∧ G'.a b = G.a b) (ho : ∀ id, U.out id → U'.out id ∧ G'.o id = G.o id) (hoh : ∀ id, U.out id → G'.oh id = G.oh id) (hs : Stays G.I G'.I w w) : ∀ (n : Nat) (u : AV) (x : Value), refOk f n u = true → AVR w G U u x → AVR w G' U' u x
  | 0, u, x, h, _ => by cases h
  | n + 1, u, x, h, hx => by
    have lists : ∀ {a : List AV} {vs : List Value}, a.all (refOk f n) = true → AVRs w G U a vs → AVRs w G' U' a vs := by
      intro a
      induction a with
      | nil => intro vs _ h; cases h; exact .nil
      | cons y a ih =>
        intro vs h1 h2
        rw [List.all_cons, Bool.and_eq_true] at h1
        cases h2 with
        | cons _ v _ vs k1 k2 => exact .cons _ _ _ _ (ref_ok hf ho hoh hs n y v h1.1 k1) (ih h1.2 k2)
    unfold refOk at h
    split at h
    · cases hx with
      | pt b o hb => rw [← (hf _ h).2]; exact .pt _ _ (hf _ h).1
    · cases hx with
      | po id o hb => rw [← (ho _ hb).2]; exact .po _ _ (ho _ hb).1
    · cases hx with
      | ol id hb => rw [← hoh _ hb]; exact .ol _ (ho _ hb).1
    · cases hx with
      | ov id k hb => rw [← hoh _ hb]; exact .ov _ _ (ho _ hb).1
    · cases hx with
      | om id hb => rw [← (ho _ hb).2]; exact .om _ (ho _ hb).1
    · cases hx with
      | ifc _ _ v hv => exact .ifc _ _ _ (ref_ok hf ho hoh hs n _ v h hv)
    · rename_i a y k
      rw [Bool.and_eq_true] at h
      obtain ⟨hnc, h⟩ := h
      have key : ∀ a, AV.cellsA a y = [y] := by
        intro a
        cases n with
        | zero => cases h
        | succ n =>
          unfold refOk at h
          split at h
          all_goals first | (cases a <;> rfl) | (cases hnc; done) | cases h
      cases hx with
      | ep _ _ _ r off vs hc hI hm =>
        refine .ep _ _ _ _ _ vs ?_ (hs r _ hI).1 hm
        rw [key a] at hc ⊢
        cases hc with
        | cons _ v _ _ hv hn => cases hn; exact .cons _ _ _ _ (ref_ok hf ho hoh hs n y v h hv) .nil
    · rw [Bool.and_eq_true] at h
      cases hx with
      | fn _ _ _ as_ bs ha hb => exact .fn _ _ _ _ _ (lists h.1 ha) (lists h.2 hb)
    · exact .c _ _ (hx.c_inv.mono hs)
    · cases h
end
/-! ### Names and numbers -/
/-- what has been noted of names -/
structure Note (s : S) (len : Nat) (m : List (Nat × Nat)) : Prop where
  e : ∀ k n, (k, n) ∈ m → (k = 1000000 ∧ ∃ a ys, s.own n = some (.lst a ys)) ∨ (k < len ∧ lookN m k = some n)
structure Grow (len : Nat) (m m' : List (Nat × Nat)) : Prop where
  mem : ∀ p, p ∈ m → p ∈ m'
  look : ∀ k n, k < len → lookN m k = some n → lookN m' k = some n
theorem Grow.refl (len : Nat) (m : List (Nat × Nat)) : Grow len m m := ⟨fun _ h => h, fun _ _ _ h => h⟩
theorem Grow.trans {len : Nat} {a b c : List (Nat × Nat)} (h : Grow len a b) (k : Grow len b c) : Grow len a c := ⟨fun p hp => k.mem p (h.mem p hp), fun q n hq hl => k.look q n hq (h.look q n hq hl)⟩
theorem Note.add {s : S} {len : Nat} {m : List (Nat × Nat)} (h : Note s len m) (hl : len < 1000000) {k n : Nat} (hk : (k = 1000000 ∧ ∃ a ys, s.own n = some (.lst a ys)) ∨ (k < len ∧ lookN m k = none)) : Note s len ((k, n) :: m) ∧ Grow len m ((k, n) :: m) := by
  have hg : ∀ k' n', k' < len → lookN m k' = some n' → lookN ((k, n) :: m) k' = some n' := fun k' n' hk' hl' => lookN_cons hl' (by
    rintro rfl
    rcases hk with ⟨rfl, _⟩ | ⟨_, e⟩
    · omega
    · rw [e] at hl'; cases hl')
  refine ⟨⟨fun k' n' hm => ?_⟩, ⟨fun p hp => List.mem_cons_of_mem _ hp, hg⟩⟩
  rcases List.mem_cons.mp hm with e | hm
  · injection e with e1 e2; subst e1; subst e2
    rcases hk with hk | hk
    · exact .inl hk
    · exact .inr ⟨hk.1, lookN_head⟩
  · rcases h.e k' n' hm with h1 | h1
    · exact .inl h1
    · exact .inr ⟨h1.1, hg _ _ h1.1 h1.2⟩
theorem outOf_note {s : S} {T : Tmpl} (hl : T.lists.length < 1000000) {h : Sh} {v : AV} {m m' : List (Nat × Nat)} {xs : List CV} (hm : Note s T.lists.length m) (hh : T.shOk h = true) (ho : outOf h v m s = some (xs, m')) : Note s T.lists.length m' ∧ Grow T.lists.length m m' := by
  unfold outOf at ho
  split at ho
  · split at ho
    · injection ho with ho; injection ho with _ ho; subst ho; exact ⟨hm, .refl _ _⟩
    · injection ho with ho; injection ho with _ ho; subst ho; exact ⟨hm, .refl _ _⟩
    · split at ho
      · injection ho with ho; injection ho with _ ho; subst ho; exact ⟨hm, .refl _ _⟩
      · rename_i a ys hn
        injection ho with ho; injection ho with _ ho; subst ho
        exact hm.add hl (.inl ⟨rfl, a, ys, hn⟩)
      · cases ho
    · split at ho
      · injection ho with ho; injection ho with _ ho; subst ho; exact ⟨hm, .refl _ _⟩
      · cases ho
    · split at ho
      · split at ho
        · injection ho with ho; injection ho with _ ho; subst ho; exact ⟨hm, .refl _ _⟩
        · cases ho
      · cases ho
    · cases ho
  · rename_i k
    have hk : k < T.lists.length := Nat.blt_eq.mp hh
    split at ho
    · rename_i n
      rcases cond_inv ho with ⟨_, h2⟩ | ⟨_, h2⟩
      · split at h2
        · rcases cond_inv h2 with ⟨_, h3⟩ | ⟨_, h3⟩
          · injection h3 with h3; injection h3 with _ h3; subst h3; exact ⟨hm, .refl _ _⟩
          · cases h3
        · rename_i hn
          injection h2 with h2; injection h2 with _ h2; subst h2
          exact hm.add hl (.inr ⟨hk, hn⟩)
      · cases h2
    · split at ho
      · cases ho
      · rename_i hn
        injection ho with ho; injection ho with _ ho; subst ho
        exact hm.add hl (.inr ⟨hk, hn⟩)
    · cases ho
  · rcases cond_inv ho with ⟨_, h2⟩ | ⟨_, h2⟩
    · injection h2 with h2; injection h2 with _ h2; subst h2; exact ⟨hm, .refl _ _⟩
    · cases h2
end Go.Ev
/- The state at a loop's head stands for what it stood for. -/
namespace Go.Ev
open Go Go.RowKit
variable [Glob]
section
variable {w : World} {G : Gh} {s : S} {o : O} {tmps : Array Value}
/-- the lists' names: source, by number -/
def srcOf (M : List (Nat × Nat)) (n : Nat) : Nat := (lookN M (n - 1000000)).getD 0
/-- roles, by the new names -/
def newI (M : List (Nat × Nat)) (I : Nat → Role) : Nat → Role := fun r => match I r with
  | .key (.own n) => (match lookV M n with | some k => if k = 1000000 then .imm else .key (.own (lname k)) | none => .key (.own n))
  | .key (.el n i) => (match lookV M n with | some k => .key (.el (lname k) i) | none => .key (.el n i))
  | x => x
theorem newI_else {M : List (Nat × Nat)} {I : Nat → Role} {r : Nat} (h : ∀ n, I r ≠ .key (.own n)) (h' : ∀ n i, I r ≠ .key (.el n i)) : newI M I r = I r := by
  unfold newI; split
  · rename_i n e; exact absurd e (h n)
  · rename_i n i e; exact absurd e (h' n i)
  · rfl
theorem newI_el {M : List (Nat × Nat)} {I : Nat → Role} {r n i k : Nat} (h : I r = .key (.el n i)) (hn : lookV M n = some k) : newI M I r = .key (.el (lname k) i) := by
  unfold newI; rw [h]; simp [hn]
theorem newI_own {M : List (Nat × Nat)} {I : Nat → Role} {r n : Nat} (h : I r = .key (.own n)) (hn : lookV M n = none) : newI M I r = .key (.own n) := by
  unfold newI; rw [h]; simp [hn]
theorem newI_imm {M : List (Nat × Nat)} {I : Nat → Role} {r n : Nat} (h : I r = .key (.own n)) (hn : lookV M n = some 1000000) : newI M I r = .imm := by
  unfold newI; rw [h]; simp [hn]
theorem newI_l {M : List (Nat × Nat)} {I : Nat → Role} {r n k : Nat} (h : I r = .key (.own n)) (hn : lookV M n = some k) (hk : k ≠ 1000000) : newI M I r = .key (.own (lname k)) := by
  unfold newI; rw [h]; simp [hn, hk]
theorem newI_no {M : List (Nat × Nat)} {I : Nat → Role} {r : Nat} (h : newI M I r ≠ .no) : I r ≠ .no := by
  intro e; apply h; unfold newI; rw [e]
def inR (len n : Nat) : Bool := Nat.ble 1000000 n && Nat.blt n (1000000 + len)
theorem inR_l {len k : Nat} (h : k < len) : inR len (lname k) = true := by
  unfold inR lname
  rw [Bool.and_eq_true]
  exact ⟨Nat.ble_eq.mpr (by omega), Nat.blt_eq.mpr (by omega)⟩
theorem inR_small {len n : Nat} (h : n < 1000000) : inR len n = false := by
  unfold inR
  have : Nat.ble 1000000 n = false := by
    cases hb : Nat.ble 1000000 n with
    | false => rfl
    | true => have := Nat.le_of_ble_eq_true hb; omega
  rw [this]; rfl
/-- the cells of an element -/
def szOf (a : Nat × Bool) : Nat := match a.2 with | true => 1 | false => a.1
/-- the ghost at a loop's head -/
def newG (G : Gh) (M : List (Nat × Nat)) (ls : List (Nat × Bool)) : Gh where
  a n := cond (inR ls.length n) (G.a (srcOf M n)) (G.a n)
  hd n := cond (inR ls.length n) (if srcOf M n = noName (n - 1000000) then .slice none 0 0 else G.hd (srcOf M n)) (G.hd n)
  m n := cond (inR ls.length n) (szOf (ls.getD (n - 1000000) (0, false))) (G.m n)
  o := G.o
  oh := G.oh
  ohf := G.ohf
  I := newI M G.I
  hf n := by
    show (cond (inR ls.length n) (if srcOf M n = noName (n - 1000000) then Value.slice none 0 0 else G.hd (srcOf M n)) (G.hd n)).oneCell' = true
    cases inR ls.length n with
    | false => exact G.hf n
    | true =>
      show (if srcOf M n = noName (n - 1000000) then Value.slice none 0 0 else G.hd (srcOf M n)).oneCell' = true
      split
      · rfl
      · exact G.hf _
theorem newG_stays (w : World) (G : Gh) (M : List (Nat × Nat)) (ls : List (Nat × Bool)) : Stays G.I (newG G M ls).I w w := .mk fun r hr => ⟨rfl, newI_else (fun n => hr.key _) (fun n i => hr.key _)⟩
theorem newG_small {M : List (Nat × Nat)} {ls : List (Nat × Bool)} {n : Nat} (h : n < 1000000) : (newG G M ls).a n = G.a n ∧ (newG G M ls).hd n = G.hd n ∧ (newG G M ls).m n = G.m n := by
  have e := inR_small (len := ls.length) h
  unfold newG
  simp only [e, cond_false, and_self]
theorem newG_l {M : List (Nat × Nat)} {ls : List (Nat × Bool)} {k n : Nat} (hk : k < ls.length) (hn : lookN M k = some n) :
    (newG G M ls).a (lname k) = G.a n ∧ (newG G M ls).hd (lname k) = (if n = noName k then .slice none 0 0 else G.hd n) ∧ (newG G M ls).m (lname k) = szOf (ls.getD k (0, false)) := by
  have e := inR_l hk
  have e2 : lname k - 1000000 = k := by unfold lname; omega
  have e3 : srcOf M (lname k) = n := by unfold srcOf; rw [e2, hn]; rfl
  unfold newG
  simp only [e, cond_true, e2, e3, and_self]
/-- the new state's names -/
structure Ctx (w : World) (G : Gh) (s : S) (o : O) (T : Tmpl) (M : List (Nat × Nat)) (U' : Used) : Prop where
  apart : apartN M = true
  note : Note s T.lists.length M
  len : T.lists.length < 1000000
  own : ∀ k, k < T.lists.length → U'.own (lname k)
  has : ∀ b, T.has b = true → U'.own b ∧ b < 1000000
  out : ∀ id, id < o.length → U'.out id
theorem one_ok {T : Tmpl} {M : List (Nat × Nat)} {U' : Used} (c : Ctx w G s o T M U') (hs : St w G s o tmps) {h : Sh} {v : AV} {m m' : List (Nat × Nat)} {xs : List CV} {x : Value} (hh : T.shOk h = true) (ho : outOf h v m s = some (xs, m')) (hm : Grow T.lists.length m' M) (hm0 : Note s T.lists.length m')
    (hx : AVR w G (used w G s o) v x) (rest : List CV) : ∃ u, inOne h (xs ++ rest) = (u, rest) ∧ AVR w (newG G M T.lists) U' u x := by
  have hst := newG_stays w G M T.lists
  unfold outOf at ho
  split at ho
  · split at ho
    · injection ho with ho; injection ho with e _; subst e
      exact ⟨_, rfl, .c _ _ (hx.c_inv.mono hst)⟩
    · injection ho with ho; injection ho with e _; subst e
      cases hx
      exact ⟨_, rfl, .c _ _ .im0⟩
    · rename_i n
      obtain ⟨_, rfl⟩ := hx.sl_inv
      split at ho
      · rename_i ys hn
        injection ho with ho; injection ho with e _; subst e
        exact ⟨_, rfl, .c _ _ ((hs.own n _ hn).1.mono hst)⟩
      · rename_i a ys hn
        injection ho with ho; injection ho with e e2; subst e; subst e2
        have hv := lookV_of c.apart (hm.mem (1000000, n) (by simp))
        exact ⟨_, rfl, .c _ _ ((hs.own n _ hn).2.2.imm hst fun hr => newI_imm hr hv)⟩
      · cases ho
    · split at ho
      · rename_i l ys hl
        injection ho with ho; injection ho with e _; subst e
        obtain ⟨vs, rfl, hvs, hf⟩ := hx.ag_inv
        exact ⟨_, rfl, .c _ _ (.ag _ _ ((allC_of hl hvs).mono hst) hf)⟩
      · cases ho
    · rename_i b k
      split at ho
      · rename_i a cs hb
        split at ho
        · rename_i y hy
          injection ho with ho; injection ho with e _; subst e
          cases hx with
          | pt _ _ hbU =>
            obtain ⟨hI, vs, hmem, hvs, hl⟩ := hs.own b _ hb
            have := mkEp_of (outs_used (s := s) hvs) hl hI hmem k
            rw [hy] at this
            exact ⟨_, rfl, .c _ _ (this.c_inv.mono hst)⟩
        · cases ho
      · cases ho
    · cases ho
  · rename_i k
    have hk : k < T.lists.length := Nat.blt_eq.mp hh
    split at ho
    · rename_i n
      rcases cond_inv ho with ⟨h1, h2⟩ | ⟨_, h2⟩
      · have h1 : n < 2000000 := Nat.blt_eq.mp h1
        have hlook : xs = [] ∧ lookN m' k = some n := by
          split at h2
          · rename_i n' hn'
            rcases cond_inv h2 with ⟨h3, h4⟩ | ⟨_, h4⟩
            · injection h4 with h4; injection h4 with e1 e2; subst e1; subst e2
              have := Nat.eq_of_beq_eq_true h3
              subst this
              exact ⟨rfl, hn'⟩
            · cases h4
          · injection h2 with h2; injection h2 with e1 e2; subst e1; subst e2
            exact ⟨rfl, lookN_head⟩
        obtain ⟨rfl, hl⟩ := hlook
        have hM := hm.look k n hk hl
        obtain ⟨_, rfl⟩ := hx.sl_inv
        refine ⟨_, rfl, ?_⟩
        have e := (newG_l (G := G) hk hM).2.1
        rw [if_neg (by unfold noName; omega)] at e
        rw [← e]
        exact .sl _ (c.own k hk)
      · cases h2
    · split at ho
      · cases ho
      · injection ho with ho; injection ho with e1 e2; subst e1; subst e2
        have hM := hm.look k (noName k) hk lookN_head
        cases hx
        refine ⟨_, rfl, ?_⟩
        have e := (newG_l (G := G) hk hM).2.1
        rw [if_pos rfl] at e
        rw [← e]
        exact .sl _ (c.own k hk)
    · cases ho
  · rename_i u
    rcases cond_inv ho with ⟨h1, h2⟩ | ⟨_, h2⟩
    · injection h2 with h2; injection h2 with e _; subst e
      have := sameRef_eq 8 u v h1
      subst this
      exact ⟨u, rfl, ref_ok (f := T.has) (fun b hb => ⟨(c.has b hb).1, (newG_small (c.has b hb).2).1⟩) (fun id hid => ⟨c.out id hid, rfl⟩) (fun _ _ => rfl) hst 8 u x hh hx⟩
    · cases h2
theorem cells_ok {T : Tmpl} {M : List (Nat × Nat)} {U' : Used} (c : Ctx w G s o T M U') (hs : St w G s o tmps) : ∀ {hs' : List Sh} {cs : List AV} {m m' : List (Nat × Nat)} {xs : List CV} {vs : List Value}, hs'.all T.shOk = true → outCells s hs' cs m = some (xs, m') → Note s T.lists.length m → Grow T.lists.length m' M →
    AVRs w G (used w G s o) cs vs → ∀ rest, ∃ us, inCells hs' (xs ++ rest) = (us, rest) ∧ AVRs w (newG G M T.lists) U' us vs
  | [], [], m, m', xs, vs, _, h, _, _, hv, rest => by
    injection h with h; injection h with e _; subst e
    cases hv
    exact ⟨[], rfl, .nil⟩
  | h :: hs', v :: cs, m, m', xs, _, hh, ho, hm, hg, .cons _ x _ vs hx hxs, rest => by
    rw [List.all_cons, Bool.and_eq_true] at hh
    simp only [outCells] at ho
    split at ho
    · rename_i xs1 m1 h1
      split at ho
      · rename_i ys m2 h2
        injection ho with ho; injection ho with e1 e2; subst e1; subst e2
        obtain ⟨n1, g1⟩ := outOf_note c.len hm hh.1 h1
        have g2 : Grow T.lists.length m1 M := by
          have key : ∀ {hs' : List Sh} {cs : List AV} {m m' : List (Nat × Nat)} {xs : List CV}, hs'.all T.shOk = true → outCells s hs' cs m = some (xs, m') → Note s T.lists.length m → Grow T.lists.length m m' := by
            intro hs'
            induction hs' with
            | nil => intro cs m m' xs _ h _; cases cs with
              | nil => injection h with h; injection h with _ e; subst e; exact .refl _ _
              | cons => cases h
            | cons h hs' ih =>
              intro cs m m' xs hh ho hm
              rw [List.all_cons, Bool.and_eq_true] at hh
              cases cs with
              | nil => cases ho
              | cons v cs =>
                simp only [outCells] at ho
                split at ho
                · rename_i xs1 m1 h1
                  split at ho
                  · rename_i ys m2 h2
                    injection ho with ho; injection ho with e1 e2; subst e1; subst e2
                    obtain ⟨n1, g1⟩ := outOf_note c.len hm hh.1 h1
                    exact g1.trans (ih hh.2 h2 n1)
                  · cases ho
                · cases ho
          exact (key hh.2 h2 n1).trans hg
        obtain ⟨u, e1, r1⟩ := one_ok c hs hh.1 h1 g2 n1 hx (ys ++ rest)
        obtain ⟨us, e2, r2⟩ := cells_ok c hs hh.2 h2 n1 hg hxs rest
        refine ⟨u :: us, ?_, .cons _ _ _ _ r1 r2⟩
        rw [List.append_assoc]
        simp only [inCells, e1, e2]
      · cases ho
    · cases ho
  | [], _ :: _, _, _, _, _, _, h, _, _, _, _ => by cases h
  | _ :: _, [], _, _, _, _, _, h, _, _, _, _ => by cases h
theorem cells_note {T : Tmpl} (hl : T.lists.length < 1000000) : ∀ {hs' : List Sh} {cs : List AV} {m m' : List (Nat × Nat)} {xs : List CV}, hs'.all T.shOk = true → outCells s hs' cs m = some (xs, m') → Note s T.lists.length m → Note s T.lists.length m' ∧ Grow T.lists.length m m' ∧ hs'.length = cs.length
  | [], [], m, m', xs, _, h, hm => by injection h with h; injection h with _ e; subst e; exact ⟨hm, .refl _ _, rfl⟩
  | [], _ :: _, m, m', xs, _, h, hm => by cases h
  | _ :: _, [], m, m', xs, _, h, hm => by cases h
  | h :: hs', v :: cs, m, m', xs, hh, ho, hm => by
    rw [List.all_cons, Bool.and_eq_true] at hh
    simp only [outCells] at ho
    split at ho
    · rename_i xs1 m1 h1
      split at ho
      · rename_i ys m2 h2
        injection ho with ho; injection ho with e1 e2; subst e1; subst e2
        obtain ⟨n1, g1⟩ := outOf_note hl hm hh.1 h1
        obtain ⟨n2, g2, e⟩ := cells_note hl hh.2 h2 n1
        exact ⟨n2, g1.trans g2, by simp [e]⟩
      · cases ho
    · cases ho
theorem slots_note {T : Tmpl} (hl : T.lists.length < 1000000) : ∀ {ss : List (Nat × Sh)} {m m' : List (Nat × Nat)} {xs : List CV}, ss.all (fun p => T.shOk p.2) = true → outSlots s ss m = some (xs, m') → Note s T.lists.length m → Note s T.lists.length m' ∧ Grow T.lists.length m m'
  | [], m, m', xs, _, h, hm => by injection h with h; injection h with _ e; subst e; exact ⟨hm, .refl _ _⟩
  | (t, h) :: ss, m, m', xs, hh, ho, hm => by
    rw [List.all_cons, Bool.and_eq_true] at hh
    simp only [outSlots] at ho
    split at ho
    · split at ho
      · rename_i xs1 m1 h1
        split at ho
        · rename_i ys m2 h2
          injection ho with ho; injection ho with e1 e2; subst e1; subst e2
          obtain ⟨n1, g1⟩ := outOf_note hl hm hh.1 h1
          obtain ⟨n2, g2⟩ := slots_note hl hh.2 h2 n1
          exact ⟨n2, g1.trans g2⟩
        · cases ho
      · cases ho
    · cases ho
theorem slots_ok {T : Tmpl} {M : List (Nat × Nat)} {U' : Used} (c : Ctx w G s o T M U') (hs : St w G s o tmps) : ∀ {ss : List (Nat × Sh)} {m m' : List (Nat × Nat)} {xs : List CV}, ss.all (fun p => T.shOk p.2) = true → outSlots s ss m = some (xs, m') → Note s T.lists.length m → Grow T.lists.length m' M →
    ∀ rest, (inSlots ss (xs ++ rest)).2 = rest ∧ ∀ u v, (inSlots ss (xs ++ rest)).1 u = some v → u < tmps.size ∧ AVR w (newG G M T.lists) U' v (tmps.getD u undef)
  | [], m, m', xs, _, h, _, _, rest => by
    injection h with h; injection h with e _; subst e
    exact ⟨rfl, fun u v h => by cases h⟩
  | (t, h) :: ss, m, m', xs, hh, ho, hm, hg, rest => by
    rw [List.all_cons, Bool.and_eq_true] at hh
    simp only [outSlots] at ho
    split at ho
    · rename_i v hv
      split at ho
      · rename_i xs1 m1 h1
        split at ho
        · rename_i ys m2 h2
          injection ho with ho; injection ho with e1 e2; subst e1; subst e2
          obtain ⟨n1, g1⟩ := outOf_note c.len hm hh.1 h1
          obtain ⟨n2, g2⟩ := slots_note c.len hh.2 h2 n1
          obtain ⟨hlt, hx⟩ := hs.env t v hv
          obtain ⟨u, e1, r1⟩ := one_ok c hs hh.1 h1 (g2.trans hg) n1 hx (ys ++ rest)
          obtain ⟨e2, r2⟩ := slots_ok c hs hh.2 h2 n1 hg rest
          rw [List.append_assoc]
          simp only [inSlots, e1]
          refine ⟨e2, fun q y hq => ?_⟩
          rw [upd_env] at hq
          split at hq
          · rename_i e; subst e
            injection hq with hq; subst hq
            exact ⟨hlt, r1⟩
          · exact r2 q y hq
        · cases ho
      · cases ho
    · cases ho
end
end Go.Ev
/- The state at a loop's head, whole. -/
namespace Go.Ev
open Go Go.RowKit
variable [Glob]
/-- From a state to a later one, as far as others see it. -/
structure Tw (w : World) (G : Gh) (o : O) (w' : World) (G' : Gh) (o' : O) : Prop where
  ext : Ext G.I G'.I w w'
  out : ∀ id, id < o.length → id < o'.length ∧ G'.o id = G.o id ∧ G'.oh id = G.oh id
theorem Tw.refl (w : World) (G : Gh) (o : O) : Tw w G o w G o := ⟨.refl _ _, fun _ h => ⟨h, rfl, rfl⟩⟩
theorem Tw.trans {w w' w'' : World} {G G' G'' : Gh} {o o' o'' : O} (h : Tw w G o w' G' o') (k : Tw w' G' o' w'' G'' o'') : Tw w G o w'' G'' o'' :=
  ⟨h.ext.trans k.ext, fun id hid => by
    obtain ⟨h1, h2, h3⟩ := h.out id hid
    obtain ⟨k1, k2, k3⟩ := k.out id h1
    exact ⟨k1, k2.trans h2, k3.trans h3⟩⟩
theorem To.tw {w w' : World} {G G' : Gh} {s s' : S} {o o' : O} (h : To w G s o w' G' s' o') : Tw w G o w' G' o' := ⟨h.ext, fun id hid => ⟨(h.keeps.o id hid).1, (h.keeps.o id hid).2, h.keeps.oh id hid⟩⟩
theorem inLists_get : ∀ {ls : List (Nat × Bool)} {k : Nat} {xs : List CV} {f : Nat → Option Blk} {n : Nat} {b : Blk}, inLists k ls xs f n = some b → (∃ i, i < ls.length ∧ n = lname (k + i) ∧ b = inList (ls.getD i (0, false)).1 (ls.getD i (0, false)).2 (lstOf (g xs i))) ∨ f n = some b
  | [], k, xs, f, n, b, h => .inr h
  | m :: ls, k, xs, f, n, b, h => by
    simp only [inLists] at h
    rw [upd_env] at h
    split at h
    · rename_i e
      injection h with h
      exact .inl ⟨0, by simp, by rw [Nat.add_zero]; exact e, by rw [← h]; rfl⟩
    · rcases inLists_get h with ⟨i, h1, h2, h3⟩ | h1
      · refine .inl ⟨i + 1, by simpa using h1, by rw [h2]; congr 1; omega, ?_⟩
        have e : g xs.tail i = g xs (i + 1) := by cases xs <;> simp [g]
        rw [h3, e]
        rfl
      · exact .inr h1
theorem inLists_has : ∀ {ls : List (Nat × Bool)} {k : Nat} {xs : List CV} {f : Nat → Option Blk}, (∀ i, i < ls.length → inLists k ls xs f (lname (k + i)) ≠ none) ∧ ∀ n, f n ≠ none → inLists k ls xs f n ≠ none
  | [], k, xs, f => ⟨fun i h => by simp at h, fun n h => h⟩
  | m :: ls, k, xs, f => by
    obtain ⟨h1, h2⟩ := inLists_has (ls := ls) (k := k + 1) (xs := xs.tail) (f := f)
    refine ⟨fun i hi => ?_, fun n hn => ?_⟩
    · simp only [inLists]
      rw [upd_env]
      split
      · simp
      · rename_i e
        cases i with
        | zero => exact absurd rfl e
        | succ i =>
          have := h1 i (by simpa using hi)
          rwa [show k + 1 + i = k + (i + 1) by omega] at this
    · simp only [inLists]
      rw [upd_env]
      split
      · simp
      · exact h2 n hn
theorem inStay_get : ∀ {st : List (Nat × Nat)} {n : Nat} {b : Blk}, inStay st n = some b → ∃ id, (n, id) ∈ st ∧ b = .moved id
  | [], n, b, h => by cases h
  | (c, id) :: l, n, b, h => by
    simp only [inStay] at h
    rw [upd_env] at h
    split at h
    · rename_i e; subst e; injection h with h; exact ⟨id, by simp, h.symm⟩
    · obtain ⟨id', h1, h2⟩ := inStay_get h
      exact ⟨id', by simp [h1], h2⟩
theorem inStay_has : ∀ {st : List (Nat × Nat)} {n id : Nat}, (n, id) ∈ st → inStay st n ≠ none
  | [], n, id, h => by simp at h
  | (c, id') :: l, n, id, h => by
    simp only [inStay]
    rw [upd_env]
    split
    · simp
    · rename_i e
      rcases List.mem_cons.mp h with h | h
      · injection h with h _; exact absurd h e
      · exact inStay_has h
theorem inBoxes_has {st : List (Nat × Nat)} {ls : List (Nat × Bool)} : ∀ {bs : List (Nat × Bool × List Sh)} {xs : List CV}, (∀ p, p ∈ bs → inBoxes st ls bs xs p.1 ≠ none) ∧ ∀ n, (∀ zs, inLists 0 ls zs (inStay st) n ≠ none) → inBoxes st ls bs xs n ≠ none
  | [], xs => ⟨fun p h => by simp at h, fun n h => h xs⟩
  | (b, a, h) :: l, xs => by
    obtain ⟨h1, h2⟩ := inBoxes_has (st := st) (ls := ls) (bs := l) (xs := (inCells h xs).2)
    refine ⟨fun p hp => ?_, fun n hn => ?_⟩
    · simp only [inBoxes]
      rw [upd_env]
      split
      · simp
      · rename_i e
        rcases List.mem_cons.mp hp with rfl | hp
        · exact absurd rfl e
        · exact h1 p hp
    · simp only [inBoxes]
      rw [upd_env]
      split
      · simp
      · exact h2 n hn
theorem outLists_get {s : S} {m : List (Nat × Nat)} : ∀ {ls : List (Nat × Bool)} {k : Nat} {zs : List CV}, outLists s m k ls = some zs → ∀ i, i < ls.length → ∃ n, lookN m (k + i) = some n ∧ ((n = noName (k + i) ∧ (ls.getD i (0, false)).2 = false ∧ zs[i]? = some (.im [])) ∨ (n ≠ noName (k + i) ∧ ∃ ys, s.own n = some (inList (ls.getD i (0, false)).1 (ls.getD i (0, false)).2 ys) ∧ zs[i]? = some (.im ys)))
  | [], k, zs, h, i, hi => by simp at hi
  | a :: l, k, zs, h, i, hi => by
    simp only [outLists] at h
    split at h
    · rename_i n hn
      split at h
      · rename_i e
        have e := Nat.eq_of_beq_eq_true e
        split at h
        · rename_i r hb hr
          injection h with h; subst h
          cases i with
          | zero => exact ⟨n, hn, .inl ⟨e, hb, rfl⟩⟩
          | succ i =>
            obtain ⟨n', h1, h2⟩ := outLists_get hr i (by simpa using hi)
            rw [show k + 1 + i = k + (i + 1) by omega] at h1 h2
            exact ⟨n', h1, by simpa using h2⟩
        · cases h
      · rename_i e
        have key : ∀ (b : Nat) (ys r : List CV), s.own n = some (inList a.1 a.2 ys) → outLists s m (k + 1) l = some r → zs = .im ys :: r → ∃ n, lookN m (k + i) = some n ∧ ((n = noName (k + i) ∧ ((a :: l).getD i (0, false)).2 = false ∧ zs[i]? = some (.im [])) ∨ (n ≠ noName (k + i) ∧ ∃ ys, s.own n = some (inList ((a :: l).getD i (0, false)).1 ((a :: l).getD i (0, false)).2 ys) ∧ zs[i]? = some (.im ys))) := by
          intro b ys r hb hr hz
          subst hz
          cases i with
          | zero => exact ⟨n, hn, .inr ⟨fun e' => by rw [e'] at e; simp at e, ys, hb, rfl⟩⟩
          | succ i =>
            obtain ⟨n', h1, h2⟩ := outLists_get hr i (by simpa using hi)
            rw [show k + 1 + i = k + (i + 1) by omega] at h1 h2
            exact ⟨n', h1, by simpa using h2⟩
        split at h
        · rename_i b ys r ha hb hr
          rcases cond_inv h with ⟨h3, h4⟩ | ⟨_, h4⟩
          · injection h4 with h4
            have h3 := Nat.eq_of_beq_eq_true h3
            exact key b ys r (by rw [ha, h3]; exact hb) hr h4.symm
          · cases h4
        · rename_i b ys r ha hb hr
          rcases cond_inv h with ⟨h3, h4⟩ | ⟨_, h4⟩
          · injection h4 with h4
            have h3 := Nat.eq_of_beq_eq_true h3
            exact key b ys r (by rw [ha, h3]; exact hb) hr h4.symm
          · cases h4
        · cases h
    · cases h
theorem outStay_get {s : S} : ∀ {st : List (Nat × Nat)}, outStay s st = true → ∀ b id, (b, id) ∈ st → s.own b = some (.moved id)
  | [], _, b, id, h => by simp at h
  | (c, id') :: l, h, b, id, hm => by
    unfold outStay at h
    rw [Bool.and_eq_true] at h
    rcases List.mem_cons.mp hm with e | hm
    · injection e with e1 e2; subst e1; subst e2
      have := h.1
      split at this
      · rename_i q hq
        rw [hq, Nat.eq_of_beq_eq_true this]
      · cases this
    · exact outStay_get h.2 b id hm
section
variable {w : World} {G : Gh} {s : S} {o : O} {tmps : Array Value}
theorem boxes_note {T : Tmpl} (hl : T.lists.length < 1000000) : ∀ {bs : List (Nat × Bool × List Sh)} {m m' : List (Nat × Nat)} {xs : List CV}, bs.all (fun p => Nat.blt p.1 1000000 && p.2.2.all T.shOk) = true → outBoxes s bs m = some (xs, m') → Note s T.lists.length m → Note s T.lists.length m' ∧ Grow T.lists.length m m'
  | [], m, m', xs, _, h, hm => by injection h with h; injection h with _ e; subst e; exact ⟨hm, .refl _ _⟩
  | (b, a, h) :: bs, m, m', xs, hh, ho, hm => by
    rw [List.all_cons, Bool.and_eq_true, Bool.and_eq_true] at hh
    simp only [outBoxes] at ho
    split at ho
    · rcases cond_inv ho with ⟨_, ho⟩ | ⟨_, ho⟩
      · split at ho
        · rename_i xs1 m1 h1
          split at ho
          · rename_i ys m2 h2
            injection ho with ho; injection ho with e1 e2; subst e1; subst e2
            obtain ⟨n1, g1, _⟩ := cells_note hl hh.1.2 h1 hm
            obtain ⟨n2, g2⟩ := boxes_note hl hh.2 h2 n1
            exact ⟨n2, g1.trans g2⟩
          · cases ho
        · cases ho
      · cases ho
    · cases ho
theorem boxes_ok {T : Tmpl} {M : List (Nat × Nat)} {U' : Used} (c : Ctx w G s o T M U') (hs : St w G s o tmps) {st : List (Nat × Nat)} {ls : List (Nat × Bool)} : ∀ {bs : List (Nat × Bool × List Sh)} {m m' : List (Nat × Nat)} {xs : List CV}, bs.all (fun p => Nat.blt p.1 1000000 && p.2.2.all T.shOk) = true → outBoxes s bs m = some (xs, m') → Note s T.lists.length m → Grow T.lists.length m' M →
    ∀ rest n k, inBoxes st ls bs (xs ++ rest) n = some k → (n < 1000000 ∧ ∃ g cs cs' vs ty, s.own n = some (.box g cs) ∧ k = .box g cs' ∧ w.heap[G.a n]? = some (.cells (List.toArray vs) ty (0, 0)) ∧ AVRs w (newG G M T.lists) U' cs' vs ∧ cs'.length = cs.length ∧ Flat vs ∧ (g = false → cs.length = 1) ∧ G.I (G.a n) = .key (.own n)) ∨ inLists 0 ls rest (inStay st) n = some k
  | [], m, m', xs, _, h, _, _, rest, n, k, hk => by
    injection h with h; injection h with e _; subst e
    exact .inr hk
  | (b, a, h) :: bs, m, m', xs, hh, ho, hm, hg, rest, n, k, hk => by
    rw [List.all_cons, Bool.and_eq_true, Bool.and_eq_true] at hh
    simp only [outBoxes] at ho
    split at ho
    · rename_i a' cs hb
      rcases cond_inv ho with ⟨hab, ho⟩ | ⟨_, ho⟩
      · split at ho
        · rename_i xs1 m1 h1
          split at ho
          · rename_i ys m2 h2
            injection ho with ho; injection ho with e1 e2; subst e1; subst e2
            obtain ⟨n1, g1, hlen⟩ := cells_note c.len hh.1.2 h1 hm
            obtain ⟨n2, g2⟩ := boxes_note c.len hh.2 h2 n1
            obtain ⟨hI, vs, ty, hmem, hvs, hl, hf⟩ := hs.own b _ hb
            obtain ⟨us, e1, r1⟩ := cells_ok c hs hh.1.2 h1 hm (g2.trans hg) hvs (ys ++ rest)
            rw [List.append_assoc] at hk
            simp only [inBoxes, e1] at hk
            rw [upd_env] at hk
            split at hk
            · rename_i e; subst e
              injection hk with hk; subst hk
              have : a = a' := by cases a <;> cases a' <;> first | rfl | cases hab
              subst this
              exact .inl ⟨Nat.blt_eq.mp hh.1.1, a, cs, us, vs, ty, hb, rfl, hmem, r1, by rw [r1.length, ← hvs.length], hf, hl, hI⟩
            · exact boxes_ok c hs hh.2 h2 n1 hg rest n k hk
          · cases ho
        · cases ho
      · cases ho
    · cases ho
theorem tmpl_ok {T : Tmpl} {xs : List CV} (hs : St w G s o tmps) (hok : T.ok = true) (ho : T.out s = some xs) (gen : Nat) : ∃ G', St w G' (T.st gen xs) o tmps ∧ Tw w G o w G' o := by
  unfold Tmpl.ok at hok
  simp only [Bool.and_eq_true] at hok
  obtain ⟨⟨⟨⟨⟨k1, k2⟩, k3⟩, k4⟩, k5⟩, k6⟩ := hok
  have hlen : T.lists.length < 1000000 := Nat.blt_eq.mp k6
  have k5' : ∀ i, i < T.lists.length → 0 < (T.lists.getD i (0, false)).1 := fun i hi => by
    rw [List.all_eq_true] at k5
    have := k5 T.lists[i] (List.getElem_mem hi)
    rw [List.getD_eq_getElem?_getD, List.getElem?_eq_getElem hi]
    exact Nat.blt_eq.mp this
  unfold Tmpl.out at ho
  split at ho
  · rename_i xs1 m1 h1
    split at ho
    · rename_i ys M h2
      rcases cond_inv ho with ⟨hc, ho⟩ | ⟨_, ho⟩
      · rw [Bool.and_eq_true] at hc
        split at ho
        · rename_i zs h3
          injection ho with ho; subst ho
          have n0 : Note s T.lists.length [] := ⟨fun k n h => by simp at h⟩
          obtain ⟨n1, g1⟩ := slots_note hlen k1 h1 n0
          obtain ⟨n2, g2⟩ := boxes_note hlen k2 h2 n1
          have hlist := fun i hi => outLists_get (k := 0) h3 i hi
          have hstay := outStay_get hc.2
          let G' := newG G M T.lists
          let s' := T.st gen (xs1 ++ (ys ++ zs))
          have hown' : s'.own = inBoxes T.stay T.lists T.boxes (inSlots T.slots (xs1 ++ (ys ++ zs))).2 := rfl
          have k2' : ∀ p, p ∈ T.boxes → p.1 < 1000000 := fun p hp => by
            rw [List.all_eq_true] at k2
            have := k2 p hp
            rw [Bool.and_eq_true] at this
            exact Nat.blt_eq.mp this.1
          have k3' : ∀ p, p ∈ T.stay → p.1 < 1000000 := fun p hp => by
            rw [List.all_eq_true] at k3
            exact Nat.blt_eq.mp (k3 p hp)
          have c : Ctx w G s o T M (used w G' s' o) := by
            refine ⟨hc.1, n2, hlen, fun k hk => ?_, fun b hb => ?_, fun id hid => hid⟩
            · show s'.own (lname k) ≠ none
              rw [hown']
              refine inBoxes_has.2 _ fun zs => ?_
              have := (inLists_has (ls := T.lists) (k := 0) (xs := zs) (f := inStay T.stay)).1 k hk
              rwa [Nat.zero_add] at this
            · unfold Tmpl.has at hb
              rw [Bool.or_eq_true, List.any_eq_true, List.any_eq_true] at hb
              rcases hb with ⟨p, hp, e⟩ | ⟨p, hp, e⟩
              · have e := Nat.eq_of_beq_eq_true e
                subst e
                exact ⟨by show s'.own p.1 ≠ none; rw [hown']; exact inBoxes_has.1 p hp, k2' p hp⟩
              · have e := Nat.eq_of_beq_eq_true e
                subst e
                refine ⟨?_, k3' p hp⟩
                show s'.own p.1 ≠ none
                rw [hown']
                exact inBoxes_has.2 _ fun zs => inLists_has.2 _ (inStay_has (id := p.2) hp)
          obtain ⟨e1, r1⟩ := slots_ok c hs k1 h1 n0 g2 (ys ++ zs)
          have hst := newG_stays w G M T.lists
          have hkO : G.Keeps G' (outU o) (outU o) := ⟨fun _ (h : False) => h.elim, fun n h => ⟨h, rfl⟩, fun _ _ => rfl, fun _ _ _ _ (h : False) => h.elim⟩
          refine ⟨G', ⟨r1, fun n k hk => ?_, fun id hid => ?_, fun r hr => hs.heap r (newI_no hr), hs.base.mono hst⟩, (.mk' rfl rfl rfl (Nat.le_refl _) fun r _ hn => ⟨rfl, newI_else (fun n => hn _) (fun n i => hn _)⟩), fun id hid => ⟨hid, rfl, rfl⟩⟩
          · rw [hown', e1] at hk
            rcases boxes_ok c hs k2 h2 n1 (.refl _ _) zs n k hk with ⟨hlt, gg, cs, cs', vs, ty, q1, q2, q3, q4, q5, q6, q7, q8⟩ | hk
            · subst q2
              have hV : lookV M n = none := by
                cases hv : lookV M n with
                | none => rfl
                | some k =>
                  exfalso
                  rcases n2.e k n (lookV_mem hv) with ⟨_, a, ys, h⟩ | ⟨hk, hl⟩
                  · rw [q1] at h; cases h
                  · obtain ⟨n', e2, h⟩ := hlist k hk
                    rw [Nat.zero_add, hl] at e2
                    injection e2 with e2; subst e2
                    rcases h with ⟨e3, _⟩ | ⟨_, ys, e3, _⟩
                    · unfold noName at e3; omega
                    · rw [q1] at e3
                      cases hb2 : (T.lists.getD k (0, false)).2 with
                      | true => rw [hb2] at e3; cases e3
                      | false => rw [hb2] at e3; cases e3
              have ha := (newG_small (G := G) (M := M) (ls := T.lists) hlt).1
              refine ⟨?_, vs, ty, ?_, q4, fun hg => by rw [q5]; exact q7 hg, q6⟩
              · show newI M G.I (G'.a n) = _
                rw [ha]; exact newI_own q8 hV
              · rw [ha]; exact q3
            · rcases inLists_get hk with ⟨i, hi, rfl, rfl⟩ | hk
              · rw [Nat.zero_add]
                obtain ⟨n', e2, h⟩ := hlist i hi
                rw [Nat.zero_add] at e2 h
                obtain ⟨f1, f2, f3⟩ := newG_l (G := G) hi e2
                rcases h with ⟨e3, hb2, e4⟩ | ⟨e3, ws, e4, e5⟩
                · rw [hb2]
                  have eg : g zs i = .im [] := g_get e4
                  rw [eg]
                  refine ⟨f3.trans (by unfold szOf; rw [hb2]), k5' i hi, ?_⟩
                  rw [f1, f2, if_pos e3]
                  exact ⟨by simp [lstOf], .inl ⟨rfl, rfl⟩⟩
                · have eg : g zs i = .im ws := g_get e5
                  rw [eg]
                  have hV : lookV M n' = some i := lookV_of hc.1 (lookN_mem e2)
                  cases hb2 : (T.lists.getD i (0, false)).2 with
                  | false =>
                    rw [hb2] at e4
                    refine ⟨f3.trans (by unfold szOf; rw [hb2]), k5' i hi, ?_⟩
                    rw [f1, f2, if_neg e3]
                    obtain ⟨m1, m2, hl⟩ := hs.own n' _ e4
                    refine ⟨hl.1, hl.2.imp (fun h => h) ?_⟩
                    rintro ⟨cap, us, cc, ty, q1, q2, q3, q4, q5, q6, q7⟩
                    exact ⟨cap, us, cc, ty, q1, q2, q3.mono hst, newI_l q4 hV (by omega), q5, q6, q7⟩
                  | true =>
                    rw [hb2] at e4
                    obtain ⟨m1, m2, _, hl⟩ := hs.own n' _ e4
                    refine ⟨f3.trans (by unfold szOf; rw [hb2]), k5' i hi, fun j q e => (by cases e), ?_⟩
                    rw [f1, f2, if_neg e3]
                    refine hl.imp (fun h => h) ?_
                    rintro ⟨cap, cc, ty, q1, q2, q3, q4, q5, q6⟩
                    refine ⟨cap, cc, ty, q1, q2, newI_l q3 hV (by omega), q4, q5, fun k x hx => ?_⟩
                    obtain ⟨v, hv, hfv, zs', r, rfl, hl'⟩ := q6 k x hx
                    refine ⟨v, hv, hfv, zs', r, rfl, hl'.1, hl'.2.imp (fun h => h) ?_⟩
                    rintro ⟨cp, us, c2, tt, p1, p2, p3, p4, p5, p6, p7⟩
                    exact ⟨cp, us, c2, tt, p1, p2, p3.mono hst, newI_el p4 hV, p5, p6, p7⟩
              · obtain ⟨id, hm, rfl⟩ := inStay_get hk
                obtain ⟨q1, q2⟩ := hs.own n _ (hstay n id hm)
                refine ⟨q1, ?_⟩
                have ha := (newG_small (G := G) (M := M) (ls := T.lists) (k3' _ hm)).1
                show (newG G M T.lists).a n = G.o id
                rw [ha]; exact q2
          · refine (hs.out id hid).frame hid hkO hst rfl fun r hr => ⟨rfl, newI_else (fun n => ?_) (fun n i => ?_)⟩ <;> rcases hr with hr | ⟨j, hr⟩ | ⟨j, hr⟩ <;> rw [hr] <;> simp
        · cases ho
      · cases ho
    · cases ho
  · cases ho
end
end Go.Ev
/- A region with a free choice: both ways. -/
namespace Go.Ev
open Go Go.RowKit
variable [Glob]
section
variable {R : Type} {P : Program} {C : Cfg} {Q : Orc} {ny : Bool}
variable {dst : Nat → Prop} {a0 a : Act} {w0 w w' : World} {G0 G : Gh} {s0 s t : S} {o0 o q : O}
theorem run_of_ev {α : Type} : ∀ {p : Prog α} {s : S} {o : O} {l : Log} {x : α} {s' : S} {o' : O} {l' : Log} {F : α → S → O → Log → Option R} {r : R}, p.ev s o l = some (x, s', o', l') → F x s' o' l' = some r → p.run s o l F = some r
  | .ret x, s, o, l, y, s', o', l', F, r, h, hf => by
    injection h with h; injection h with e1 h; injection h with e2 h; injection h with e3 e4
    subst e1; subst e2; subst e3; subst e4
    exact hf
  | .fail, s, o, l, y, s', o', l', F, r, h, hf => by cases h
  | .look β f k, s, o, l, y, s', o', l', F, r, h, hf => by
    obtain ⟨b, hb, h1⟩ := look_inv f h
    exact (look_eq f hb).trans (run_of_ev (p := k b) h1 hf)
  | .env t k, s, o, l, y, s', o', l', F, r, h, hf => by
    simp only [Prog.ev, Prog.run] at h
    split at h
    · rename_i v hv
      simp only [Prog.run, hv]
      exact run_of_ev (p := k v) h hf
    · cases h
  | .blk b k, s, o, l, y, s', o', l', F, r, h, hf => run_of_ev (p := k (s.own b)) h hf
  | .out k, s, o, l, y, s', o', l', F, r, h, hf => run_of_ev (p := k s.gen o) h hf
  | .outB id k, s, o, l, y, s', o', l', F, r, h, hf => run_of_ev (p := k (o.get id)) h hf
  | .setE t v k, s, o, l, y, s', o', l', F, r, h, hf => run_of_ev (p := k) h hf
  | .setB b x k, s, o, l, y, s', o', l', F, r, h, hf => run_of_ev (p := k) h hf
  | .kind b k, s, o, l, y, s', o', l', F, r, h, hf => run_of_ev (p := k (kindOf (s.own b))) h hf
  | .setL b xs k, s, o, l, y, s', o', l', F, r, h, hf => by
    simp only [Prog.ev, Prog.run] at h
    split at h
    · rename_i m hm
      simp only [Prog.run, hm]
      exact run_of_ev (p := k) h hf
    · cases h
  | .setO o1 k, s, o, l, y, s', o', l', F, r, h, hf => run_of_ev (p := k) h hf
  | .setOB id b k, s, o, l, y, s', o', l', F, r, h, hf => by
    simp only [Prog.ev, Prog.run] at h
    split at h
    · rename_i m hm
      simp only [Prog.run, hm]
      exact run_of_ev (p := k) h hf
    · cases h
theorem runIx_cons {ops : Array Oper} {i : Nat} {l : List Nat} {K : S → O → Option R} {r : R} (h : runIx C Q ny ops (i :: l) s o K = some r) :
    ∃ p s' o' l', ops[i]? = some p ∧ (gP C Q ny ops.toList p).ev s o ⟨[], []⟩ = some ((), s', o', l') ∧ runIx C Q ny ops l s' o' K = some r := by
  unfold runIx at h
  split at h
  · rename_i p hp
    obtain ⟨_, s', o', l', h1, h2⟩ := run_ev _ _ _ _ h
    exact ⟨p, s', o', l', hp, h1, h2⟩
  · cases h
theorem runIx_end {ops : Array Oper} : ∀ {l : List Nat} {s : S} {o : O} {K : S → O → Option R} {r : R}, runIx C Q ny ops l s o K = some r → ∃ s' o', K s' o' = some r ∧ runIx C Q ny ops l s o (fun s o => some (s, o)) = some (s', o')
  | [], s, o, K, r, h => ⟨s, o, h, rfl⟩
  | i :: l, s, o, K, r, h => by
    obtain ⟨p, s1, o1, l1, hp, h1, h2⟩ := runIx_cons h
    obtain ⟨s2, o2, h3, h4⟩ := runIx_end h2
    refine ⟨s2, o2, h3, ?_⟩
    unfold runIx
    rw [hp]
    have h1 : (gP C Q ny ops.toList p).run s o ⟨[], []⟩ (fun x s o l => some (x, s, o, l)) = some ((), s1, o1, l1) := h1
    obtain ⟨_, s3, o3, l3, h5, h6⟩ := run_ev _ _ _ _ h1
    injection h6 with h6; injection h6 with _ h6; injection h6 with x1 h6; injection h6 with x2 _
    subst x1; subst x2
    exact run_of_ev h5 h4
structure ChIs (ops : Array Oper) : Prop where
  n : ops.size = 4
  r0 : Region.ready .any ops #[false, false, false, false] = [0]
  r1 : Region.ready .any ops #[true, false, false, false] = [1, 2]
  r2 : Region.ready .any ops #[true, true, false, false] = [2]
  r3 : Region.ready .any ops #[true, false, true, false] = [1]
  r4 : Region.ready .any ops #[true, true, true, false] = [3]
  r5 : Region.ready .any ops #[true, true, true, true] = []
theorem chOk_is {ops : Array Oper} (h : chOk ops = true) : ChIs ops := by
  unfold chOk at h
  simp only [Bool.and_eq_true] at h
  obtain ⟨⟨⟨⟨⟨⟨h1, h2⟩, h3⟩, h4⟩, h5⟩, h6⟩, h7⟩ := h
  exact ⟨Nat.eq_of_beq_eq_true h1, eq_of_beq h2, eq_of_beq h3, eq_of_beq h4, eq_of_beq h5, eq_of_beq h6, eq_of_beq h7⟩
theorem wp_two (hC : TyOk P C) (hF : FnOk P C) (hQ : OrcF P C Q) {ops : Array Oper} (hch : ChIs ops) {p0 p1 p2 p3 : Oper} (e0 : ops[0]? = some p0) (e1 : ops[1]? = some p1) (e2 : ops[2]? = some p2) (e3 : ops[3]? = some p3)
    {s1 s2 s3 s4 t2 t3 t4 : S} {o1 o2 o3 o4 q2 q3 q4 : O} {l0 l1 l2 l3 m2 m1 m3 : Log} (g0 : (gP C Q ny ops.toList p0).ev s o ⟨[], []⟩ = some ((), s1, o1, l0))
    (g1 : (gP C Q ny ops.toList p1).ev s1 o1 ⟨[], []⟩ = some ((), s2, o2, l1)) (g2 : (gP C Q ny ops.toList p2).ev s2 o2 ⟨[], []⟩ = some ((), s3, o3, l2)) (g3 : (gP C Q ny ops.toList p3).ev s3 o3 ⟨[], []⟩ = some ((), s4, o4, l3))
    (k2 : (gP C Q ny ops.toList p2).ev s1 o1 ⟨[], []⟩ = some ((), t2, q2, m2)) (k1 : (gP C Q ny ops.toList p1).ev t2 q2 ⟨[], []⟩ = some ((), t3, q3, m1)) (k3 : (gP C Q ny ops.toList p3).ev t3 q3 ⟨[], []⟩ = some ((), t4, q4, m3))
    (hd : ∀ p, p ∈ ops.toList → ∀ d, p.dst = some d → d < a0.tmps.size ∧ dst d) {Q' : Exit → Act → World → Prop}
    (finA : ∀ a' w' G', Rn dst a0 w0 G0 s0 o0 a' w' G' s4 o4 → Q' .normal a' w') (finB : ∀ a' w' G', Rn dst a0 w0 G0 s0 o0 a' w' G' t4 q4 → Q' .normal a' w')
    (hr : Rn dst a0 w0 G0 s0 o0 a w G s o) : wpAny P .any ops Q' 4 #[false, false, false, false] a w := by
  refine ⟨(fun h => by rw [hch.r0] at h; cases h), fun i hi => ?_⟩
  rw [hch.r0] at hi
  obtain rfl : i = 0 := by simpa using hi
  refine gP_wp hC hF hQ e0 g0 hr (hd _ (Rg.mem e0)) fun a1 w1 G1 hr1 => ?_
  show wpAny P .any ops Q' 3 #[true, false, false, false] a1 w1
  refine ⟨(fun h => by rw [hch.r1] at h; cases h), fun i hi => ?_⟩
  rw [hch.r1] at hi
  have hi : i = 1 ∨ i = 2 := by simpa using hi
  rcases hi with rfl | rfl
  · refine gP_wp hC hF hQ e1 g1 hr1 (hd _ (Rg.mem e1)) fun a2 w2 G2 hr2 => ?_
    show wpAny P .any ops Q' 2 #[true, true, false, false] a2 w2
    refine ⟨(fun h => by rw [hch.r2] at h; cases h), fun i hi => ?_⟩
    rw [hch.r2] at hi
    obtain rfl : i = 2 := by simpa using hi
    refine gP_wp hC hF hQ e2 g2 hr2 (hd _ (Rg.mem e2)) fun a3 w3 G3 hr3 => ?_
    show wpAny P .any ops Q' 1 #[true, true, true, false] a3 w3
    refine ⟨(fun h => by rw [hch.r4] at h; cases h), fun i hi => ?_⟩
    rw [hch.r4] at hi
    obtain rfl : i = 3 := by simpa using hi
    refine gP_wp hC hF hQ e3 g3 hr3 (hd _ (Rg.mem e3)) fun a4 w4 G4 hr4 => ?_
    show wpAny P .any ops Q' 0 #[true, true, true, true] a4 w4
    exact ⟨hch.r5, finA _ _ _ hr4⟩
  · refine gP_wp hC hF hQ e2 k2 hr1 (hd _ (Rg.mem e2)) fun a2 w2 G2 hr2 => ?_
    show wpAny P .any ops Q' 2 #[true, false, true, false] a2 w2
    refine ⟨(fun h => by rw [hch.r3] at h; cases h), fun i hi => ?_⟩
    rw [hch.r3] at hi
    obtain rfl : i = 1 := by simpa using hi
    refine gP_wp hC hF hQ e1 k1 hr2 (hd _ (Rg.mem e1)) fun a3 w3 G3 hr3 => ?_
    show wpAny P .any ops Q' 1 #[true, true, true, false] a3 w3
    refine ⟨(fun h => by rw [hch.r4] at h; cases h), fun i hi => ?_⟩
    rw [hch.r4] at hi
    obtain rfl : i = 3 := by simpa using hi
    refine gP_wp hC hF hQ e3 k3 hr3 (hd _ (Rg.mem e3)) fun a4 w4 G4 hr4 => ?_
    show wpAny P .any ops Q' 0 #[true, true, true, true] a4 w4
    exact ⟨hch.r5, finB _ _ _ hr4⟩
/-- both ways through the region -/
theorem two_region (hC : TyOk P C) (hF : FnOk P C) (hQ : OrcF P C Q) (hm : P.follows .mixedOrders = true) {id : Nat} {ops : Array Oper} (hch : chOk ops = true) {KA KB : S → O → Option R} {rA rB : R}
    (hA : runIx C Q ny ops [0, 1, 2, 3] s o KA = some rA) (hB : runIx C Q ny ops [0, 2, 1, 3] s o KB = some rB) :
    ∃ sA oA sB oB, KA sA oA = some rA ∧ KB sB oB = some rB ∧ ∀ (a : Act) (w : World) (G : Gh), regionOk a.tmps.size ops = true → St w G s o a.tmps → ∀ Q' : Exit → Act → World → Prop,
      (∀ a' w' G', Po a w G s o a' w' G' sA oA → Q' .normal a' w') → (∀ a' w' G', Po a w G s o a' w' G' sB oB → Q' .normal a' w') → (Code.region id ops true).wp P Q' a w := by
  obtain ⟨p0, s1, o1, l0, e0, g0, hA⟩ := runIx_cons hA
  obtain ⟨p1, s2, o2, l1, e1, g1, hA⟩ := runIx_cons hA
  obtain ⟨p2, s3, o3, l2, e2, g2, hA⟩ := runIx_cons hA
  obtain ⟨p3, s4, o4, l3, e3, g3, hA⟩ := runIx_cons hA
  obtain ⟨p0', s1', o1', l0', e0', g0', hB⟩ := runIx_cons hB
  obtain rfl := Option.some.inj (e0.symm.trans e0')
  rw [g0] at g0'
  injection g0' with g0'; injection g0' with _ g0'; injection g0' with x1 g0'; injection g0' with x2 _
  subst x1; subst x2
  obtain ⟨p2', t2, q2, m2, e2', k2, hB⟩ := runIx_cons hB
  obtain rfl := Option.some.inj (e2.symm.trans e2')
  obtain ⟨p1', t3, q3, m1, e1', k1, hB⟩ := runIx_cons hB
  obtain rfl := Option.some.inj (e1.symm.trans e1')
  obtain ⟨p3', t4, q4, m3, e3', k3, hB⟩ := runIx_cons hB
  obtain rfl := Option.some.inj (e3.symm.trans e3')
  refine ⟨s4, o4, t4, q4, hA, hB, fun a w G hok hs Q' finA finB => ?_⟩
  unfold regionOk at hok
  rw [Bool.and_eq_true, List.all_eq_true] at hok
  refine wp_region_any hm ?_
  have hn := (chOk_is hch).n
  obtain ⟨I', s1', t1'⟩ := hs.drew (w' := { w with drawn := w.drawn + 1 }) ⟨rfl, rfl, rfl, rfl⟩
  rw [hn]
  exact wp_two hC hF hQ (chOk_is hch) (a0 := a) (w0 := w) (G0 := G) (s0 := s) (o0 := o) (dst := fun u => ∃ p, p ∈ ops.toList ∧ p.dst = some u) e0 e1 e2 e3 g0 g1 g2 g3 k2 k1 k3 (fun p hp d hd => ⟨by
    have := hok.2 p hp
    rw [hd] at this
    exact Nat.blt_eq.mp this, p, hp, hd⟩) (fun a' w' G' hr => finA a' w' G' ⟨hr.st, hr.to, hr.size, hr.defers⟩) (fun a' w' G' hr => finB a' w' G' ⟨hr.st, hr.to, hr.size, hr.defers⟩) ⟨s1', t1', rfl, rfl, fun _ _ => rfl⟩
theorem chOf_inv {fid : Nat} {c : Code} {ops : Array Oper} {h : List (Nat × Nat) × List (Nat × List Nat) × List Nat} (hc : chOf C fid c = some (ops, h)) : chOk ops = true ∧ ∃ id, c = .region id ops true := by
  unfold chOf at hc
  split at hc
  · split at hc
    · rename_i id ops' _ h' _
      rcases cond_inv hc with ⟨h1, hc⟩ | ⟨_, hc⟩
      · injection hc with hc; injection hc with e1 _
        subst e1
        exact ⟨h1, id, rfl⟩
      · cases hc
    · cases hc
  · cases hc
theorem sameCVs_eq : ∀ {a b : List CV}, sameCVs (sameCV 64) a b = true → a = b
  | [], [], _ => rfl
  | [], _ :: _, h => by cases h
  | _ :: _, [], h => by cases h
  | x :: a, y :: b, h => by
    unfold sameCVs at h
    rw [Bool.and_eq_true] at h
    rw [sameCV_eq 64 x y h.1, sameCVs_eq h.2]
theorem sameBlk_eq {a b : Blk} (h : sameBlk a b = true) : a = b := by
  unfold sameBlk at h
  split at h
  · rename_i a cs b ds
    rw [Bool.and_eq_true] at h
    have : a = b := by cases a <;> cases b <;> first | rfl | cases h.1
    rw [this, sameRefs_eq sameCell_eq h.2]
  · rw [Bool.and_eq_true] at h
    rw [Nat.eq_of_beq_eq_true h.1, sameCVs_eq h.2]
  · rw [sameCVs_eq h]
  · rw [Bool.and_eq_true] at h
    rw [Nat.eq_of_beq_eq_true h.1, sameCVs_eq h.2]
  · rw [sameRefs_eq sameCell_eq h]
  · rfl
  · cases h
theorem sameO_eq : ∀ {a b : O}, sameO a b = true → a = b
  | [], [], _ => rfl
  | [], _ :: _, h => by cases h
  | _ :: _, [], h => by cases h
  | x :: a, y :: b, h => by
    unfold sameO at h
    rw [Bool.and_eq_true] at h
    rw [sameBlk_eq h.1, sameO_eq h.2]
end
end Go.Ev
/- Code. -/
namespace Go.Ev
open Go Go.RowKit
variable [Glob]
section
variable {R : Type} {P : Program} {C : Cfg} {Q : Orc}
variable {a a' : Act} {w w' : World} {G G' : Gh} {s s' t : S} {o o' q : O} {tmps : Array Value}
/-- A stretch of a function's run, as code sees it. -/
structure Pc (a : Act) (w : World) (G : Gh) (o : O) (a' : Act) (w' : World) (G' : Gh) (s' : S) (o' : O) : Prop where
  st : St w' G' s' o' a'.tmps
  tw : Tw w G o w' G' o'
  size : a'.tmps.size = a.tmps.size
  defers : a'.defers = a.defers
theorem Po.pc (h : Po a w G s o a' w' G' s' o') : Pc a w G o a' w' G' s' o' := ⟨h.st, h.to.tw, h.size, h.defers⟩
theorem Pc.trans {a'' : Act} {w'' : World} {G'' : Gh} {s'' : S} {o'' : O} (h : Pc a w G o a' w' G' s' o') (k : Pc a' w' G' o' a'' w'' G'' s'' o'') : Pc a w G o a'' w'' G'' s'' o'' :=
  ⟨k.st, h.tw.trans k.tw, k.size.trans h.size, k.defers.trans h.defers⟩
/-- a function's results are there -/
def ResX (P : Program) (fn : Func) (a : Act) (w : World) (G : Gh) (o : O) (rs : List AV) (o' : O) (a' : Act) (w' : World) : Prop :=
  ∃ G' s'' v, Pc a w G o a' w' G' s'' o' ∧ (results fn a'.tmps).run P w' = .ok v w' ∧ AVR w' G' (outU o') (packRes rs) v
theorem ResX.trans {fn : Func} {a'' : Act} {w'' : World} {o'' : O} {rs : List AV} (h : Pc a w G o a' w' G' s' o') (k : ResX P fn a' w' G' o' rs o'' a'' w'') : ResX P fn a w G o rs o'' a'' w'' := by
  obtain ⟨G2, s2, v, k1, k2, k3⟩ := k
  exact ⟨G2, s2, v, h.trans k1, k2, k3⟩
/-- Behind code. -/
def PostX (P : Program) (fn : Func) (a : Act) (w : World) (G : Gh) (o : O) (e : Ex) (s' : S) (o' : O) (e' : Exit) (a' : Act) (w' : World) : Prop := match e with
  | .normal => e' = .normal ∧ ∃ G', Pc a w G o a' w' G' s' o'
  | .exit id => e' = .exit id ∧ ∃ G', Pc a w G o a' w' G' s' o'
  | .ret => e' = .ret ∧ ∃ G', Pc a w G o a' w' G' s' o'
  | .retv rs => e' = .ret ∧ ResX P fn a w G o rs o' a' w'
theorem PostX.trans {fn : Func} {e : Ex} {e' : Exit} {a'' : Act} {w'' : World} {s'' : S} {o'' : O} (h : Pc a w G o a' w' G' s' o') (k : PostX P fn a' w' G' o' e s'' o'' e' a'' w'') : PostX P fn a w G o e s'' o'' e' a'' w'' := by
  cases e with
  | normal => exact ⟨k.1, k.2.imp fun G2 k2 => h.trans k2⟩
  | exit id => exact ⟨k.1, k.2.imp fun G2 k2 => h.trans k2⟩
  | ret => exact ⟨k.1, k.2.imp fun G2 k2 => h.trans k2⟩
  | retv rs => exact ⟨k.1, ResX.trans h k.2⟩
def CodeE (P : Program) (fn : Func) (c : Code) (s : S) (o : O) (e : Ex) (s' : S) (o' : O) : Prop := ∀ (a : Act) (w : World) (G : Gh), codeOk a.tmps.size c = true → St w G s o a.tmps → ∀ Q' : Exit → Act → World → Prop,
  (∀ e' a' w', PostX P fn a w G o e s' o' e' a' w' → Q' e' a' w') → c.wp P Q' a w
/-- Behind a loop. -/
def LPost (P : Program) (fn : Func) (id : Nat) (T : Tmpl) (a : Act) (w : World) (G : Gh) (o : O) (r : LR) (e' : Exit) (a' : Act) (w' : World) : Prop := match r with
  | .brk ys o' => e' = .exit id ∧ ∀ gen, ∃ G', Pc a w G o a' w' G' (T.st gen ys) o'
  | .exi j ys o' => (e' = .exit j ∧ j ≠ id) ∧ ∀ gen, ∃ G', Pc a w G o a' w' G' (T.st gen ys) o'
  | .ret rs o' => e' = .ret ∧ ResX P fn a w G o rs o' a' w'
theorem LPost.trans {fn : Func} {id : Nat} {T : Tmpl} {r : LR} {e' : Exit} {a'' : Act} {w'' : World} (h : Pc a w G o a' w' G' s' o') (k : LPost P fn id T a' w' G' o' r e' a'' w'') : LPost P fn id T a w G o r e' a'' w'' := by
  cases r with
  | brk ys o2 => exact ⟨k.1, fun gen => (k.2 gen).imp fun G2 k2 => h.trans k2⟩
  | exi j ys o2 => exact ⟨k.1, fun gen => (k.2 gen).imp fun G2 k2 => h.trans k2⟩
  | ret rs o2 => exact ⟨k.1, ResX.trans h k.2⟩
/-- Some rounds of a loop. -/
def LoopC (P : Program) (n : Nat) (fn : Func) (b : Code) (id : Nat) (T : Tmpl) (xs : List CV) (o : O) (r : LR) : Prop := ∀ (a : Act) (w : World) (G : Gh), T.ok = true → codeOk a.tmps.size b = true → St w G (T.st 0 xs) o a.tmps → ∀ Q' : Exit → Act → World → Prop,
  (∀ e' a' w', LPost P fn id T a w G o r e' a' w' → Q' e' a' w') → Code.rounds P b Q' n a w
structure OrcOk (P : Program) (C : Cfg) (n : Nat) (Q : Orc) : Prop where
  f : OrcF P C Q
  loop : ∀ fid b id T xs o r fn, Q.loop fid b id T xs o = some r → C.fn fid = some fn → LoopC P n fn b id T xs o r
/-- What is known of the program. -/
structure Ok (P : Program) (C : Cfg) : Prop where
  ty : TyOk P C
  fn : FnOk P C
  mixed : P.follows .mixedOrders = true
theorem St.put_same (hs : St w G s o tmps) {t : Nat} {u v : AV} (hv : s.env t = some v) (hu : AVR w G (used w G s o) u (tmps.getD t undef)) : St w G (s.put t u) o tmps := by
  have ht := (hs.env t v hv).1
  have h := hs.put (t := t) ht hu
  have e : tmps.setIfInBounds t (tmps.getD t undef) = tmps := by
    apply Array.ext
    · simp
    · intro i h1 h2
      simp only [Array.getElem_setIfInBounds h2]
      split
      · rename_i e; subst e; simp
      · rfl
  rw [e] at h
  exact h
theorem frzAll_ok {C : Cfg} : ∀ (l : List Nat) (s : S) (o : O) (lg : Log) (G : Gh) {s' : S} {o' : O} {l' : Log}, (frzAll C l).run s o lg (fun x s o l => some (x, s, o, l)) = some ((), s', o', l') → St w G s o tmps → ∃ G', St w G' s' o' tmps ∧ To w G s o w G' s' o'
  | [], s, o, lg, G, s', o', l', h, hs => by
    injection h with h; injection h with _ h; injection h with e1 h; injection h with e2 _
    subst e1; subst e2
    exact ⟨G, hs, .refl hs⟩
  | b :: l, s, o, lg, G, s', o', l', h, hs => by
    simp only [frzAll] at h
    split at h
    · exact frzAll_ok l s o lg G h hs
    split at h
    · have hb : s.own b ≠ none := by
        intro e
        unfold freeze at h
        simp only [Prog.run, e] at h
        cases h
      obtain ⟨u, s1, o1, l1, G1, h1, g, _⟩ := freeze_ok (w := w) (tmps := tmps) 8 (.pt b 0) _ s o lg G _ h hs (.pt b 0 hb)
      obtain ⟨G2, g2, g3⟩ := frzAll_ok l s1 o1 l1 G1 h1 g.st
      exact ⟨G2, g2, g.to.trans g3⟩
    · simp only [Prog.run] at h
      split at h
      · rename_i v hv
        obtain ⟨u, s1, o1, l1, G1, h1, g, hu⟩ := freeze_ok (w := w) (tmps := tmps) 8 v _ s o _ G _ h hs (hs.env _ v hv).2
        simp only [Prog.run] at h1
        have st1 := g.st.put_same (t := b - 1000000) (u := u) (v := v) (by rw [g.env]; exact hv) (out_used hu)
        obtain ⟨G2, g2, g3⟩ := frzAll_ok l _ o1 _ G1 h1 st1
        have t1 : To w G1 s1 o1 w G1 (s1.put (b - 1000000) u) o1 := ⟨.refl _ _, .refl _ _, fun r hr => g.st.heap r hr.no⟩
        exact ⟨G2, g2, (g.to.trans t1).trans g3⟩
      · cases h
    · split at h
      · simp only [Prog.run] at h
        split at h
        · cases h
        · rename_i k hk
          obtain ⟨u, s1, o1, l1, G1, h1, g, _⟩ := escape_ok (w := w) (tmps := tmps) 8 true (.pt (b - 2000000) 0) _ s o _ G _ h hs (.pt _ 0 (by
            show s.own _ ≠ none
            rw [hk]; simp))
          obtain ⟨G2, g2, g3⟩ := frzAll_ok l s1 o1 l1 G1 h1 g.st
          exact ⟨G2, g2, g.to.trans g3⟩
      · split at h
        · simp only [Prog.run] at h
          split at h
          · rename_i v hv
            split at h
            · rename_i id
              obtain ⟨s1, o1, l1, G1, h1, st1, t1, hx1, _, he1⟩ := takeO_ok h hs (hs.env _ _ hv).2
              simp only [Prog.run] at h1
              have st2 := st1.put_same (t := b - 5000000) (u := .sl (b - 5000000)) (by rw [he1]; exact hv) hx1
              obtain ⟨G2, g2, g3⟩ := frzAll_ok l _ o1 _ G1 h1 st2
              have t2 : To w G1 s1 o1 w G1 (s1.put (b - 5000000) (.sl (b - 5000000))) o1 := ⟨.refl _ _, .refl _ _, fun r hr => st1.heap r hr.no⟩
              exact ⟨G2, g2, (t1.trans t2).trans g3⟩
            · exact frzAll_ok l _ o _ G h hs
          · cases h
        · simp only [Prog.run] at h
          split at h
          · rename_i v hv
            split at h
            · simp only [Prog.run] at h
              split at h
              · split at h
                · split at h
                  · exact frzAll_ok l _ o _ G h hs
                  · simp only [Prog.run] at h
                    have hx := (hs.env _ _ hv).2
                    have st1 := hs.put_same (t := b % 1000) (u := .nl) hv (by
                      generalize tmps.getD (b % 1000) undef = z at hx
                      cases hx.c_inv
                      exact .nl)
                    obtain ⟨G2, g2, g3⟩ := frzAll_ok l _ o _ G h st1
                    have t1 : To w G s o w G (s.put (b % 1000) .nl) o := ⟨.refl _ _, .refl _ _, fun r hr => hs.heap r hr.no⟩
                    exact ⟨G2, g2, t1.trans g3⟩
                · exact frzAll_ok l _ o _ G h hs
              · cases h
            · exact frzAll_ok l _ o _ G h hs
          · cases h
theorem frzEnd_ok : ∀ (l : List Nat) (s : S) (o : O) (lg : Log) (G : Gh) {s' : S} {o' : O} {l' : Log}, (frzEnd l).run s o lg (fun x s o l => some (x, s, o, l)) = some ((), s', o', l') → St w G s o tmps → ∃ G', St w G' s' o' tmps ∧ To w G s o w G' s' o'
  | [], s, o, lg, G, s', o', l', h, hs => by
    injection h with h; injection h with _ h; injection h with e1 h; injection h with e2 _
    subst e1; subst e2
    exact ⟨G, hs, .refl hs⟩
  | b :: l, s, o, lg, G, s', o', l', h, hs => by
    simp only [frzEnd] at h
    split at h
    · simp only [Prog.run] at h
      split at h
      · rename_i v hv
        split at h
        · obtain ⟨u, s1, o1, l1, G1, h1, g, hu⟩ := freeze_ok (w := w) (tmps := tmps) 8 _ _ s o _ G _ h hs (hs.env _ _ hv).2
          simp only [Prog.run] at h1
          have st1 := g.st.put_same (t := b - 100000000) (u := u) (by rw [g.env]; exact hv) (out_used hu)
          obtain ⟨G2, g2, g3⟩ := frzEnd_ok l _ o1 _ G1 h1 st1
          have t1 : To w G1 s1 o1 w G1 (s1.put (b - 100000000) u) o1 := ⟨.refl _ _, .refl _ _, fun r hr => g.st.heap r hr.no⟩
          exact ⟨G2, g2, (g.to.trans t1).trans g3⟩
        · exact frzEnd_ok l s o _ G h hs
      · cases h
    · exact frzEnd_ok l s o lg G h hs
theorem blk_same {s : S} {n : Nat} {k : Blk} (h : s.own n = some k) : s.blk n k = s := by
  obtain ⟨e1, e2, e3⟩ := s
  have : upd e2 n k = e2 := funext fun u => by
    rw [upd_env]; split
    · rename_i hu; subst hu; exact h.symm
    · rfl
  show S.mk e1 (upd e2 n k) e3 = _
  rw [this]
def BackP (w : World) (tmps : Array Value) (p : Prog Unit) : Prop := ∀ (s : S) (o : O) (lg : Log) (G : Gh) {s' : S} {o' : O} {l' : Log}, p.run s o lg (fun x s o l => some (x, s, o, l)) = some ((), s', o', l') → St w G s o tmps → ∃ G', Gs w G s o tmps G' s' o'
theorem backOne_ok {v : AV} {p : Prog Unit} (hp : BackP w tmps p) : BackP w tmps (backOne v p) := by
  intro s o lg G s' o' l' h hs
  unfold backOne at h
  split at h
  · rename_i n
    simp only [Prog.run] at h
    split at h
    · rename_i q m xs out hn
      unfold nstBack at h
      split at h
      · simp only [Prog.run] at h
        rw [blk_same hn] at h
        exact hp _ _ _ _ h hs
      · rename_i j n'
        simp only [Prog.run] at h
        split at h
        · rename_i m' ys hn'
          simp only [Prog.run] at h
          obtain ⟨I', s1, t1⟩ := hs.back hn hn'
          obtain ⟨G2, g2⟩ := hp _ _ _ _ h s1
          exact ⟨G2, Gs.trans ⟨s1, t1, rfl, rfl⟩ g2⟩
        · cases h
    · exact hp _ _ _ _ h hs
  · exact hp _ _ _ _ h hs
theorem backCs_ok {p : Prog Unit} (hp : BackP w tmps p) : ∀ l, BackP w tmps (backCs l p)
  | [] => hp
  | v :: l => backOne_ok (backCs_ok hp l)
theorem backSl_ok {p : Prog Unit} (hp : BackP w tmps p) : ∀ l, BackP w tmps (backSl l p)
  | [] => hp
  | (t, h) :: l => by
    intro s o lg G s' o' l' hr hs
    simp only [backSl] at hr
    split at hr
    · obtain ⟨v, _, h1⟩ := env_inv hr
      exact backOne_ok (backSl_ok hp l) _ _ _ _ h1 hs
    · exact backSl_ok hp l _ _ _ _ hr hs
theorem backBx_ok {p : Prog Unit} (hp : BackP w tmps p) : ∀ l, BackP w tmps (backBx l p)
  | [] => hp
  | (b, h) :: l => by
    intro s o lg G s' o' l' hr hs
    simp only [backBx, Prog.run] at hr
    split at hr
    · exact backCs_ok (backBx_ok hp l) _ _ _ _ _ hr hs
    · exact backBx_ok hp l _ _ _ _ hr hs
theorem back_run (T : Tmpl) : BackP w tmps T.back := by
  have h0 : BackP w tmps (.ret ()) := by
    intro s o lg G s' o' l' h hs
    injection h with h; injection h with _ h; injection h with e1 h; injection h with e2 _
    subst e1; subst e2
    exact ⟨G, .refl hs⟩
  unfold Tmpl.back
  split
  · exact backSl_ok (backBx_ok h0 _) _
  · exact h0
theorem Gs.pc (h : Gs w G s o a.tmps G' s' o') : Pc a w G o a w G' s' o' := ⟨h.st, h.to.tw, rfl, rfl⟩
theorem noO_eq {w : O} (h : noO w = true) : w = [] := by cases w <;> first | rfl | cases h
theorem conR_inv {R : Type} {h : Option (List Sp × List Sp × List Bsp)} {lr : LR} {K : LR → Option R} {r : R} (hr : conR h lr K = some r) : K lr = some r := by
  unfold conR at hr
  split at hr
  · exact hr
  · split at hr <;> (
      obtain ⟨h1, h2⟩ := chkS hr
      rw [Bool.and_eq_true] at h1
      first | rw [canonL_eq h1.1] at h2 | rw [canonA_eq h1.1] at h2
      rw [canonO_eq h1.2] at h2
      exact h2)
theorem loop_ok {n : Nat} (hQ : OrcOk P C n Q) {fid : Nat} {fn : Func} (hfn : C.fn fid = some fn) {b : Code} {id : Nat} {s : S} {o : O} {K : Ex → S → O → Option R} {r : R} (h : evCode C Q fid (.block id (.loop b)) s o K = some r) : ∃ e s' o', K e s' o' = some r ∧ CodeE P fn (.block id (.loop b)) s o e s' o' := by
  simp only [evCode] at h
  split at h
  · rename_i hh hloop
    obtain ⟨_, s1, o1, l1, h1, h2⟩ := run_ev _ _ _ _ h
    split at h2
    · rename_i T hT
      obtain ⟨hTok, h2b⟩ := chk_inv h2
      obtain ⟨_, s2, o2', l2, hback, h3⟩ := run_ev _ _ _ _ h2b
      split at h3
      · rename_i xs hxs
        split at h3
        · rename_i lr hlr
          have hL := hQ.loop _ _ _ _ _ _ _ fn hlr hfn
          have enter : ∀ (a : Act) (w : World) (G : Gh), St w G s o a.tmps → ∃ G', Pc a w G o a w G' (T.st 0 xs) o2' := fun a w G hs => by
            obtain ⟨G1, gst, gto⟩ := frzAll_ok _ _ _ _ _ h1 hs
            obtain ⟨G3, g3⟩ := back_run T _ _ _ _ hback gst
            obtain ⟨G2, k1, k2⟩ := tmpl_ok g3.st hTok hxs 0
            exact ⟨G2, ⟨k1, (gto.tw.trans g3.pc.tw).trans k2, rfl, rfl⟩⟩
          have go : ∀ (a : Act) (w : World) (G : Gh), codeOk a.tmps.size (.block id (.loop b)) = true → St w G s o a.tmps → ∀ Q' : Exit → Act → World → Prop, (∀ e' a' w', LPost P fn id T a w G o lr e' a' w' → Exit.inBlock id Q' e' a' w') → (Code.block id (.loop b)).wp P Q' a w := by
            intro a w G hok hs Q' fin
            obtain ⟨G1, p1⟩ := enter a w G hs
            exact wp_block (wp_loop_rounds n (hL a w G1 hTok hok p1.st _ fun e' a' w' hp => fin _ _ _ (LPost.trans p1 hp)))
          replace h3 := conR_inv h3
          split at h3
          · rename_i ys o2
            refine ⟨.normal, _, _, h3, fun a w G hok hs Q' fin => go a w G hok hs Q' fun e' a' w' hp => ?_⟩
            obtain ⟨rfl, hp⟩ := hp
            obtain ⟨G', hp⟩ := hp s2.gen
            simp only [Exit.inBlock, if_true]
            exact fin _ _ _ ⟨rfl, G', hp⟩
          · rename_i j ys o2
            split at h3
            · rename_i hj
              refine ⟨.exit j, _, _, h3, fun a w G hok hs Q' fin => go a w G hok hs Q' fun e' a' w' hp => ?_⟩
              obtain ⟨⟨rfl, hne⟩, hp⟩ := hp
              obtain ⟨G', hp⟩ := hp s2.gen
              simp only [Exit.inBlock, hne, if_false]
              exact fin _ _ _ ⟨rfl, G', hp⟩
            · cases h3
          · rename_i rs o2
            split at h3
            · refine ⟨.retv rs, _, _, h3, fun a w G hok hs Q' fin => go a w G hok hs Q' fun e' a' w' hp => ?_⟩
              obtain ⟨rfl, hp⟩ := hp
              exact fin _ _ _ ⟨rfl, hp⟩
            · cases h3
        · cases h3
      · cases h3
    · cases h2
  · cases h
theorem evCode_block {fid id : Nat} {b : Code} {s : S} {o : O} {K : Ex → S → O → Option R} (hb : ∀ b', b ≠ .loop b') : evCode C Q fid (.block id b) s o K = evCode C Q fid b s o fun e s w => match e with
    | .normal => K .normal s w
    | .exit j => cond (Nat.beq j id) (K .normal s w) (K (.exit j) s w)
    | .ret => K .ret s w
    | .retv rs => K (.retv rs) s w := by
  cases b <;> first | exact absurd rfl (hb _) | rfl
theorem code_ok (hP : Ok P C) {n : Nat} (hQ : OrcOk P C n Q) {fid : Nat} {fn : Func} (hfn : C.fn fid = some fn) : ∀ (c : Code) {s : S} {o : O} {K : Ex → S → O → Option R} {r : R}, evCode C Q fid c s o K = some r → ∃ e s' o', K e s' o' = some r ∧ CodeE P fn c s o e s' o'
  | .skip, s, o, K, r, h => ⟨.normal, s, o, h, fun a w G _ hs Q' fin => wp_skip (fin _ _ _ ⟨rfl, G, (Po.refl hs).pc⟩)⟩
  | .region id ops draw, s, o, K, r, h => by
    obtain ⟨s', o', h1, h2⟩ := region_ok hP.ty hP.fn hQ.f hP.mixed h
    exact ⟨.normal, s', o', h1, fun a w G hok hs Q' fin => h2 a w G hok hs Q' fun a' w' G' hp => fin _ _ _ ⟨rfl, G', hp.pc⟩⟩
  | .seq x y, s, o, K, r, h => by
    simp only [evCode] at h
    split at h
    · rename_i ops hh hc
      obtain ⟨hch, id, rfl⟩ := chOf_inv hc
      obtain ⟨sA, oA, h1, rA⟩ := runIx_end h
      obtain ⟨e1, sA', oA', h2, cA⟩ := code_ok hP hQ hfn y h1
      cases e1 <;> first | (cases h2; done) | skip
      obtain ⟨sB, oB, h3, rB⟩ := runIx_end h2
      obtain ⟨e2, sB', oB', h4, cB⟩ := code_ok hP hQ hfn y h3
      cases e2 <;> first | (cases h4; done) | skip
      obtain ⟨sA2, oA2, sB2, oB2, x1, x2, hreg⟩ := two_region hP.ty hP.fn hQ.f hP.mixed (id := id) hch rA rB
      injection x1 with x1; injection x1 with y1 y2; subst y1; subst y2
      injection x2 with x2; injection x2 with y1 y2; subst y1; subst y2
      have h4 : meetT hh s.gen sA' oA' sB' oB' (K .normal) = some r := h4
      unfold meetT at h4
      split at h4
      · rename_i T hT
        obtain ⟨hTok, h5⟩ := chk_inv h4
        obtain ⟨_, sA3, oA3, l1, b1, h6⟩ := run_ev _ _ _ _ h5
        obtain ⟨_, sB3, oB3, l2, b2, h7⟩ := run_ev _ _ _ _ h6
        split at h7
        · rename_i xs hxs
          split at h7
          · rename_i ys hys
            obtain ⟨hxy, h8⟩ := chk_inv h7
            rw [Bool.and_eq_true] at hxy
            have hoo := sameO_eq hxy.2
            have hxy := sameCVs_eq hxy.1
            subst hxy; subst hoo
            have key : ∀ (a : Act) (w : World) (G : Gh) (s1 s2 : S) (o1 o2 : O) (l : Log), T.back.ev s1 o1 ⟨[], []⟩ = some ((), s2, o2, l) → T.out s2 = some xs → St w G s1 o1 a.tmps → ∃ G', Pc a w G o1 a w G' (T.st s.gen xs) o2 := fun a w G s1 s2 o1 o2 l hbk hout hs1 => by
              obtain ⟨G3, g3⟩ := back_run T _ _ _ _ hbk hs1
              obtain ⟨G2, k1, k2⟩ := tmpl_ok g3.st hTok hout s.gen
              exact ⟨G2, ⟨k1, g3.pc.tw.trans k2, rfl, rfl⟩⟩
            refine ⟨.normal, T.st s.gen xs, oA3, h8, fun a w G hok hs Q' fin => ?_⟩
            rw [codeOk, Bool.and_eq_true] at hok
            refine wp_seq (hreg a w G hok.1 hs _ (fun a' w' G' hp => ?_) (fun a' w' G' hp => ?_))
            · refine cA a' w' G' (by rw [hp.size]; exact hok.2) hp.st Q' fun e' a'' w'' hq => ?_
              obtain ⟨rfl, G2, hq⟩ := hq
              obtain ⟨G3, hk⟩ := key a'' w'' G2 _ _ _ _ _ b1 hxs hq.st
              exact fin _ _ _ ⟨rfl, G3, (hp.pc.trans hq).trans hk⟩
            · refine cB a' w' G' (by rw [hp.size]; exact hok.2) hp.st Q' fun e' a'' w'' hq => ?_
              obtain ⟨rfl, G2, hq⟩ := hq
              obtain ⟨G3, hk⟩ := key a'' w'' G2 _ _ _ _ _ b2 hys hq.st
              exact fin _ _ _ ⟨rfl, G3, (hp.pc.trans hq).trans hk⟩
          · cases h7
        · cases h7
      · cases h4
    · obtain ⟨e, s1, o1, h1, h2⟩ := code_ok hP hQ hfn x h
      cases e with
      | normal =>
        obtain ⟨e2, s2, o2, h3, h4⟩ := code_ok hP hQ hfn y h1
        refine ⟨e2, s2, o2, h3, fun a w G hok hs Q' fin => ?_⟩
        rw [codeOk, Bool.and_eq_true] at hok
        refine wp_seq (h2 a w G hok.1 hs _ fun e' a' w' hp => ?_)
        obtain ⟨rfl, G', hp⟩ := hp
        exact h4 a' w' G' (by rw [hp.size]; exact hok.2) hp.st Q' fun e' a'' w'' hq => fin _ _ _ (PostX.trans hp hq)
      | exit id =>
        refine ⟨.exit id, s1, o1, h1, fun a w G hok hs Q' fin => ?_⟩
        rw [codeOk, Bool.and_eq_true] at hok
        refine wp_seq (h2 a w G hok.1 hs _ fun e' a' w' hp => ?_)
        have := hp.1
        subst this
        exact fin _ _ _ hp
      | ret =>
        refine ⟨.ret, s1, o1, h1, fun a w G hok hs Q' fin => ?_⟩
        rw [codeOk, Bool.and_eq_true] at hok
        refine wp_seq (h2 a w G hok.1 hs _ fun e' a' w' hp => ?_)
        have := hp.1
        subst this
        exact fin _ _ _ hp
      | retv rs =>
        refine ⟨.retv rs, s1, o1, h1, fun a w G hok hs Q' fin => ?_⟩
        rw [codeOk, Bool.and_eq_true] at hok
        refine wp_seq (h2 a w G hok.1 hs _ fun e' a' w' hp => ?_)
        have := hp.1
        subst this
        exact fin _ _ _ hp
  | .cond c x y, s, o, K, r, h => by
    simp only [evCode] at h
    have fin1 : ∀ t : Bool, (∀ (a : Act) (w : World) (G : Gh), St w G s o a.tmps → a.eval c = .bool t) → evCode C Q fid (if t then x else y) s o K = some r → (∃ e s' o', K e s' o' = some r ∧ CodeE P fn (if t then x else y) s o e s' o') → ∃ e s' o', K e s' o' = some r ∧ CodeE P fn (.cond c x y) s o e s' o' := by
      rintro t hc _ ⟨e, s', o', h1, h2⟩
      refine ⟨e, s', o', h1, fun a w G hok hs Q' fin => ?_⟩
      rw [codeOk, Bool.and_eq_true] at hok
      exact wp_cond (hc a w G hs) (h2 a w G (by cases t; exact hok.2; exact hok.1) hs Q' fin)
    split at h
    · rename_i t
      split at h
      · rename_i z hz
        rcases ifB_inv h with ⟨rfl, h1⟩ | ⟨rfl, h1⟩
        · refine fin1 true (fun a w G hs => ?_) h1 (code_ok hP hQ hfn x h1)
          have := (hs.env t _ hz).2.c_inv
          show a.tmps.getD t undef = _
          generalize a.tmps.getD t undef = u at this
          cases this; rfl
        · refine fin1 false (fun a w G hs => ?_) h1 (code_ok hP hQ hfn y h1)
          have := (hs.env t _ hz).2.c_inv
          show a.tmps.getD t undef = _
          generalize a.tmps.getD t undef = u at this
          cases this; rfl
      · cases h
    · rename_i t
      rcases ifb_inv h with ⟨rfl, h1⟩ | ⟨rfl, h1⟩
      · exact fin1 true (fun _ _ _ _ => rfl) h1 (code_ok hP hQ hfn x h1)
      · exact fin1 false (fun _ _ _ _ => rfl) h1 (code_ok hP hQ hfn y h1)
    · cases h
  | .block id b, s, o, K, r, h => by
    by_cases hb : ∃ b', b = .loop b'
    · obtain ⟨b', rfl⟩ := hb
      exact loop_ok hQ hfn h
    · rw [evCode_block (fun b' e => hb ⟨b', e⟩)] at h
      obtain ⟨e, s1, o1, h1, h2⟩ := code_ok hP hQ hfn b h
      cases e with
      | normal =>
        refine ⟨.normal, s1, o1, h1, fun a w G hok hs Q' fin => wp_block (h2 a w G hok hs _ fun e' a' w' hp => ?_)⟩
        have := hp.1
        subst this
        exact fin _ _ _ hp
      | exit j =>
        rcases cond_inv h1 with ⟨hj, h1⟩ | ⟨hj, h1⟩
        · have hj := Nat.eq_of_beq_eq_true hj
          refine ⟨.normal, s1, o1, h1, fun a w G hok hs Q' fin => wp_block (h2 a w G hok hs _ fun e' a' w' hp => ?_)⟩
          obtain ⟨rfl, hp⟩ := hp
          simp only [Exit.inBlock, hj, if_true]
          exact fin _ _ _ ⟨rfl, hp⟩
        · have hj : j ≠ id := by rintro rfl; simp at hj
          refine ⟨.exit j, s1, o1, h1, fun a w G hok hs Q' fin => wp_block (h2 a w G hok hs _ fun e' a' w' hp => ?_)⟩
          obtain ⟨rfl, hp⟩ := hp
          simp only [Exit.inBlock, hj, if_false]
          exact fin _ _ _ ⟨rfl, hp⟩
      | ret =>
        refine ⟨.ret, s1, o1, h1, fun a w G hok hs Q' fin => wp_block (h2 a w G hok hs _ fun e' a' w' hp => ?_)⟩
        have := hp.1
        subst this
        exact fin _ _ _ hp
      | retv rs =>
        refine ⟨.retv rs, s1, o1, h1, fun a w G hok hs Q' fin => wp_block (h2 a w G hok hs _ fun e' a' w' hp => ?_)⟩
        have := hp.1
        subst this
        exact fin _ _ _ hp
  | .exit j, s, o, K, r, h => ⟨.exit j, s, o, h, fun a w G _ hs Q' fin => wp_exit (fin _ _ _ ⟨rfl, G, (Po.refl hs).pc⟩)⟩
  | .ret, s, o, K, r, h => ⟨.ret, s, o, h, fun a w G _ hs Q' fin => wp_ret (fin _ _ _ ⟨rfl, G, (Po.refl hs).pc⟩)⟩
  | .loop _, _, _, _, _, h => by cases h
  | .rangeFunc .., _, _, _, _, h => by cases h
  | .scope b, s, o, K, r, h => by
    have h : evCode C Q fid b s o K = some r := h
    obtain ⟨e, s1, o1, h1, h2⟩ := code_ok hP hQ hfn b h
    refine ⟨e, s1, o1, h1, fun a w G hok hs Q' fin => wp_scope_straight (h2 a w G hok hs _ fun e' a' w' hp => ?_)⟩
    cases e <;> (have := hp.1; subst this; exact fin _ _ _ hp)
  | .label _, s, o, K, r, h => ⟨.normal, s, o, h, fun a w G _ hs Q' fin => wp_label (fin _ _ _ ⟨rfl, G, (Po.refl hs).pc⟩)⟩
  | .goto _, _, _, _, _, h => by cases h
  | .refuse _, _, _, _, _, h => by cases h
end
end Go.Ev
/- Functions. -/
namespace Go.Ev
open Go Go.RowKit
variable [Glob]
section
variable {R : Type} {P : Program} {C : Cfg} {Q : Orc}
variable {a a' : Act} {w w' : World} {G G' : Gh} {s s' t : S} {o o' q : O} {tmps : Array Value}
/-! ### Results -/
def resOne (tmps : Array Value) : ResultVar → Sem Value
  | .tmp t => pure (tmps.getD t undef)
  | .cell a t => do loadVar t (← asAddr (tmps.getD a undef))
theorem giveC_ok {α : Type} {F : α → S → O → Log → Option R} {r : R} (live : Bool) (v : AV) : EscP w tmps F r (giveC C live v) v := by
  cases live with
  | true => exact escape_ok 8 true v
  | false => exact freeze_esc 8 v
theorem giveR_ok {α : Type} {F : α → S → O → Log → Option R} {r : R} (fl : List Bool) (v : AV) : EscP w tmps F r (giveR C fl v) v := by
  intro K s o l G x h hs hx
  unfold giveR at h
  split at h
  · cases hx with
    | ag _ vs hv hf =>
      obtain ⟨us, s1, o1, l1, G1, h1, g1, hus⟩ := eachF_esc (fun b v => giveC_ok (C := C) b v) _ fl _ s o l G vs h hs hv
      exact ⟨_, _, _, _, _, h1, g1, mkAg_of hus hf⟩
  · exact giveC_ok (C := C) _ _ K s o l G x h hs hx
theorem resP_ok (hC : TyOk P C) {α : Type} {F : α → S → O → Log → Option R} {r : R} : ∀ (l : List ResultVar) (fl : List (List Bool)) {K : List AV → Prog α} {s : S} {o : O} {lg : Log} {G : Gh}, (resP C fl l K).run s o lg F = some r → St w G s o tmps →
    ∃ rs s' o' l' G' vs, (K rs).run s' o' l' F = some r ∧ Es w G s o tmps G' s' o' ∧ (l.mapM (resOne tmps)).run P w = .ok vs w ∧ AVRs w G' (outU o') rs vs
  | [], fl, K, s, o, lg, G, h, hs => ⟨[], s, o, lg, G, [], h, .refl hs, rfl, .nil⟩
  | .tmp t :: l, fl, K, s, o, lg, G, h, hs => by
    unfold resP at h
    obtain ⟨v, hv, h1⟩ := env_inv h
    obtain ⟨u, s1, o1, l1, G1, h2, g, hu⟩ := giveR_ok (w := w) (tmps := tmps) _ v _ s o _ G _ h1 hs (hs.env t v hv).2
    obtain ⟨rs, s2, o2, l2, G2, vs, h4, h6, h7, h8⟩ := resP_ok hC l _ h2 g.st
    refine ⟨_, s2, o2, l2, G2, _, h4, g.trans h6, ?_, .cons _ _ _ _ (h6.out hu) h8⟩
    rw [List.mapM_cons]
    simp only [resOne, Sem.run_bind, Sem.run_pure, Result.andThen, h7]
  | .cell c t :: l, fl, K, s, o, lg, G, h, hs => by
    unfold resP at h
    obtain ⟨p, hp, h1⟩ := env_inv h
    obtain ⟨i, hi, h2⟩ := tyP_inv h1
    obtain ⟨v, s0, o0, l0, G0, b, y, h3, hx, hl, hst, hto, hy⟩ := load_ok (hC _ _ hi) p _ _ _ w G s o _ tmps _ h2 hs (hs.env c p hp).2
    obtain ⟨u, s1, o1, l1, G1, h4, g, hu⟩ := giveR_ok (w := w) (tmps := tmps) _ v _ s0 o0 _ G0 _ h3 hst hy
    obtain ⟨rs, s2, o2, l2, G2, vs, h6, h8, h9, h10⟩ := resP_ok hC l _ h4 g.st
    have hle : o.length ≤ o0.length := by
      rcases Nat.lt_or_ge o0.length o.length with hlt | hge
      · exact absurd (hto.keeps.o _ hlt).1 (Nat.lt_irrefl _)
      · exact hge
    refine ⟨_, s2, o2, l2, G2, _, h6, (Es.mk hst hto hle).trans (g.trans h8), ?_, .cons _ _ _ _ (h8.out hu) h10⟩
    rw [List.mapM_cons]
    simp only [resOne, hx, asAddr, Sem.run_bind, Sem.run_pure, Result.andThen, hl, h9]
def packV : List Value → Value
  | [v] => v
  | vs => .tuple vs.toArray
theorem results_eq (fn : Func) (tmps : Array Value) : results fn tmps = (fn.results.mapM (resOne tmps)).bind fun vs => pure (if h : vs.size = 1 then vs[0] else .tuple vs) := by
  have e : (resOne tmps) = (fun x => match x with
    | .tmp t => pure (tmps.getD t undef)
    | .cell a t => do loadVar t (← asAddr (tmps.getD a undef))) := by
    funext x
    cases x <;> rfl
  rw [e]
  rfl
theorem run_results {fn : Func} {vs : List Value} (h : (fn.results.toList.mapM (resOne tmps)).run P w = .ok vs w) : (results fn tmps).run P w = .ok (packV vs) w := by
  have h1 : (fn.results.mapM (resOne tmps)).run P w = .ok vs.toArray w := by
    rw [Array.mapM_eq_mapM_toList, map_eq_pure_bind, Sem.run_bind, h]
    rfl
  rw [results_eq]
  show ((fn.results.mapM (resOne tmps)) >>= fun vs => pure (if h : vs.size = 1 then vs[0] else .tuple vs) : Sem Value).run P w = _
  rw [Sem.run_bind, h1]
  show (pure _ : Sem Value).run P w = _
  rw [Sem.run_pure]
  match vs with
  | [] => rfl
  | [v] => rfl
  | v :: u :: vs =>
    rw [dif_neg (by simp)]
    rfl
theorem packRes_of {U : Used} {rs : List AV} {vs : List Value} (h : AVRs w G U rs vs) : AVR w G U (packRes rs) (packV vs) := by
  match rs, vs, h with
  | [], _, .nil => exact mkTp_of .nil
  | [x], _, .cons _ v _ _ hv .nil => exact hv
  | x :: y :: xs, _, .cons _ v _ _ hv (.cons _ u _ us hu hus) => exact mkTp_of (.cons _ _ _ _ hv (.cons _ _ _ _ hu hus))
theorem evRes_ok (hC : TyOk P C) {fid : Nat} {fn : Func} {K : List AV → O → Option R} {r : R} (h : evRes C fid fn.results.toList s o K = some r) : ∃ rs o', K rs o' = some r ∧ ∀ (a : Act) (w : World) (G : Gh), St w G s o a.tmps → ResX P fn a w G o rs o' a w := by
  unfold evRes at h
  obtain ⟨rs, s1, o1, l1, h1, h2⟩ := run_ev _ _ _ _ h
  refine ⟨rs, o1, h2, fun a w G hs => ?_⟩
  obtain ⟨rs', s2, o2, l2, G2, vs, h3, g, h6, h7⟩ := resP_ok (P := P) hC _ _ h1 hs
  injection h3 with h3; injection h3 with e1 h3; injection h3 with e2 h3; injection h3 with e3 _
  subst e1; subst e2; subst e3
  exact ⟨G2, s2, _, ⟨g.st, g.to.tw, rfl, rfl⟩, run_results h6, packRes_of h7⟩
/-! ### Loops -/
theorem evLoop_ok (hP : Ok P C) {n : Nat} (hQ : OrcOk P C n Q) {fid : Nat} {fn : Func} (hfn : C.fn fid = some fn) {b : Code} {id : Nat} {T : Tmpl} {xs : List CV} {r : LR} (h : evLoop C Q fid b id T xs o = some r) : LoopC P (n + 1) fn b id T xs o r := by
  unfold evLoop at h
  obtain ⟨e, s1, o1, h1, h2⟩ := code_ok hP hQ hfn b h
  intro a w G hT hok hs Q' fin
  rw [rounds_succ]
  refine h2 a w G hok hs _ fun e' a' w' hp => ?_
  cases e with
  | normal =>
    obtain ⟨rfl, G1, hp⟩ := hp
    dsimp only at h1
    obtain ⟨_, s2, o2, l2, hback, h1⟩ := run_ev _ _ _ _ h1
    obtain ⟨G3, g3⟩ := back_run T _ _ _ _ hback hp.st
    have hp := hp.trans g3.pc
    obtain ⟨_, s4, o4, l4, hend, h1⟩ := run_ev _ _ _ _ h1
    obtain ⟨G4, e1, e2⟩ := frzEnd_ok _ _ _ _ _ hend hp.st
    have hp := hp.trans ⟨e1, e2.tw, rfl, rfl⟩
    split at h1
    · rename_i ys hys
      obtain ⟨G2, k1, k2⟩ := tmpl_ok hp.st hT hys 0
      have p2 : Pc a w G o a' w' G2 (T.st 0 ys) o4 := hp.trans ⟨k1, k2, rfl, rfl⟩
      exact hQ.loop _ _ _ _ _ _ _ fn h1 hfn a' w' G2 hT (by rw [hp.size]; exact hok) k1 Q' fun e' a'' w'' hq => fin _ _ _ (LPost.trans p2 hq)
    · cases h1
  | exit j =>
    obtain ⟨rfl, G1, hp⟩ := hp
    dsimp only at h1
    obtain ⟨_, s2, o2, l2, hback, h1⟩ := run_ev _ _ _ _ h1
    obtain ⟨G3, g3⟩ := back_run T _ _ _ _ hback hp.st
    have hp := hp.trans g3.pc
    obtain ⟨_, s4, o4, l4, hend, h1⟩ := run_ev _ _ _ _ h1
    obtain ⟨G4, e1, e2⟩ := frzEnd_ok _ _ _ _ _ hend hp.st
    have hp := hp.trans ⟨e1, e2.tw, rfl, rfl⟩
    split at h1
    · rename_i ys hys
      have key : ∀ gen, ∃ G', Pc a w G o a' w' G' (T.st gen ys) o4 := fun gen => by
        obtain ⟨G2, k1, k2⟩ := tmpl_ok hp.st hT hys gen
        exact ⟨G2, hp.trans ⟨k1, k2, rfl, rfl⟩⟩
      rcases cond_inv h1 with ⟨hj, h1⟩ | ⟨hj, h1⟩
      · injection h1 with h1; subst h1
        have hj := Nat.eq_of_beq_eq_true hj
        subst hj
        exact fin _ _ _ ⟨rfl, key⟩
      · injection h1 with h1; subst h1
        exact fin _ _ _ ⟨⟨rfl, by rintro rfl; simp at hj⟩, key⟩
    · cases h1
  | ret =>
    obtain ⟨rfl, G1, hp⟩ := hp
    dsimp only at h1
    rw [hfn] at h1
    dsimp only at h1
    obtain ⟨rs, o2, h3, h4⟩ := evRes_ok hP.ty h1
    injection h3 with h3; subst h3
    exact fin _ _ _ ⟨rfl, ResX.trans hp (h4 a' w' G1 hp.st)⟩
  | retv rs =>
    obtain ⟨rfl, hp⟩ := hp
    dsimp only at h1
    injection h1 with h1; subst h1
    exact fin _ _ _ ⟨rfl, hp⟩
/-! ### What goes back to the caller -/
theorem inO_ok {n : Nat} {o'' : O} (hn : o''.length = n) {G'' : Gh} (hs : Stays G.I G''.I w w) (ho : ∀ id, G''.o id = G.o id) (hoh : ∀ id, G''.oh id = G.oh id) : ∀ (k : Nat) (v : AV) (x : Value), AV.inO n k v = true → AVR w G (outU o) v x → AVR w G'' (outU o'') v x
  | 0, v, x, h, _ => by cases h
  | k + 1, v, x, h, hx => by
    have lists : ∀ {l : List AV} {vs : List Value}, l.all (AV.inO n k) = true → AVRs w G (outU o) l vs → AVRs w G'' (outU o'') l vs := by
      intro l
      induction l with
      | nil => intro vs _ h; cases h; exact .nil
      | cons y l ih =>
        intro vs h1 h2
        rw [List.all_cons, Bool.and_eq_true] at h1
        cases h2 with
        | cons _ v _ vs k1 k2 => exact .cons _ _ _ _ (inO_ok hn hs ho hoh k y v h1.1 k1) (ih h1.2 k2)
    cases hx with
    | c y _ hy => exact .c _ _ (hy.mono hs)
    | nl => exact .nl
    | un => exact .un
    | sl _ hn => exact hn.elim
    | le _ _ _ hn => exact hn.elim
    | pt _ _ hn => exact hn.elim
    | po id j hid =>
      rw [← ho id]
      exact .po _ _ (by show id < o''.length; rw [hn]; exact Nat.blt_eq.mp h)
    | lo _ _ _ _ hl => exact hl.elim
    | ol id hid =>
      rw [← hoh id]
      exact .ol _ (by show id < o''.length; rw [hn]; exact Nat.blt_eq.mp h)
    | ov id k hid =>
      rw [← hoh id]
      exact .ov _ _ (by show id < o''.length; rw [hn]; exact Nat.blt_eq.mp h)
    | oe id i j hid =>
      rw [← ho id, ← hoh id]
      exact .oe _ _ _ (by show id < o''.length; rw [hn]; exact Nat.blt_eq.mp h)
    | om id hid =>
      rw [← ho id]
      exact .om _ (by show id < o''.length; rw [hn]; exact Nat.blt_eq.mp h)
    | ag l vs hv hf => exact .ag _ _ (lists h hv) hf
    | fn f a b as_ bs ha hb =>
      unfold AV.inO at h
      rw [Bool.and_eq_true] at h
      exact .fn _ _ _ _ _ (lists h.1 ha) (lists h.2 hb)
    | ifc t y v hv => exact .ifc _ _ _ (inO_ok hn hs ho hoh k y v h hv)
    | tp l vs hv => exact .tp _ _ (lists h hv)
    | ep g y j r off vs hc hI hm =>
      refine .ep _ _ _ _ _ vs ?_ (hs r _ hI).1 (by first | exact hm.stays hs hI | exact hm)
      have h' : AV.inO n k y = true := h
      clear h
      unfold AV.cellsA at hc ⊢
      split
      · rename_i cs
        cases k with
        | zero => cases h'
        | succ k =>
          have h2 : cs.all (AV.inO n k) = true := h'
          have lists' : ∀ {l : List AV} {vs : List Value}, l.all (AV.inO n k) = true → AVRs w G (outU o) l vs → AVRs w G'' (outU o'') l vs := by
            intro l
            induction l with
            | nil => intro vs _ h; cases h; exact .nil
            | cons y l ih =>
              intro vs h1 h2
              rw [List.all_cons, Bool.and_eq_true] at h1
              cases h2 with
              | cons _ v _ vs k1 k2 => exact .cons _ _ _ _ (inO_ok hn hs ho hoh k y v h1.1 k1) (ih h1.2 k2)
          exact lists' h2 hc
      · rename_i hne
        have hc' : AVRs w G (outU o) [y] vs := by
          split at hc
          · rename_i cs; exact absurd rfl (hne cs rfl)
          · exact hc
        cases hc' with
        | cons _ v _ _ hv hnil => cases hnil; exact .cons _ _ _ _ (inO_ok hn hs ho hoh k y v h' hv) .nil
theorem cut_len {n : Nat} (h : n ≤ o.length) : (o.cut n).length = n := by unfold O.cut; rw [List.length_drop]; omega
theorem cut_get {n id : Nat} (h : n ≤ o.length) (hid : id < n) : O.get (o.cut n) id = O.get o id := by
  unfold O.get
  rw [cut_len h]
  have h1 : Nat.blt id n = true := Nat.blt_eq.mpr hid
  have h2 : Nat.blt id o.length = true := Nat.blt_eq.mpr (by omega)
  rw [h1, h2]
  simp only [cond_true]
  unfold O.cut
  rw [List.getElem?_drop]
  congr 1; omega
end
end Go.Ev
