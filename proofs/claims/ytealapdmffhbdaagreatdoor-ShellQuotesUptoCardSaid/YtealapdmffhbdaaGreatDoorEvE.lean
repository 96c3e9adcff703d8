/- An interpreter of the model's code that the kernel can run, and the proof that what it answers the model answers, part 5 of 5. No condition. -/
import Derived.Test.YtealapdmffhbdaaGreatDoorEvD
import Derived.Below
import Derived.Lib.LaidTab
import Derived.Deep.Slices
import Derived.Carry
import Derived.Lib.Join
set_option linter.unusedVariables false
set_option linter.unusedSectionVars false
set_option linter.unusedSimpArgs false
set_option linter.unnecessarySimpa false
/- What the interpreter answers, the model answers. -/
namespace Go.Ev
open Go Go.RowKit
variable [Glob]
theorem codeOk_le {n m : Nat} (h : n ≤ m) : ∀ c : Code, codeOk n c = true → codeOk m c = true
  | .region id ops draw, hc => by
    simp only [codeOk, regionOk, Bool.and_eq_true, List.all_eq_true] at hc ⊢
    refine ⟨hc.1, fun o ho => ?_⟩
    have := hc.2 o ho
    split at this
    · exact Nat.blt_eq.mpr (Nat.lt_of_lt_of_le (Nat.blt_eq.mp this) h)
    · rfl
  | .seq a b, hc => by
    simp only [codeOk, Bool.and_eq_true] at hc ⊢
    exact ⟨codeOk_le h a hc.1, codeOk_le h b hc.2⟩
  | .cond _ a b, hc => by
    simp only [codeOk, Bool.and_eq_true] at hc ⊢
    exact ⟨codeOk_le h a hc.1, codeOk_le h b hc.2⟩
  | .block _ b, hc => codeOk_le h b hc
  | .loop b, hc => codeOk_le h b hc
  | .scope b, hc => codeOk_le h b hc
  | .skip, _ => rfl
  | .rangeFunc .., _ => rfl
  | .exit _, _ => rfl
  | .label _, _ => rfl
  | .goto _, _ => rfl
  | .ret, _ => rfl
  | .refuse _, _ => rfl
section
variable {P : Program} {C : Cfg} {Q : Orc}
variable {a a' : Act} {w w' : World} {G G' : Gh} {s s' t : S} {o o' o'' q : O} {tmps : Array Value}
def CodesOk (C : Cfg) : Prop := ∀ f fn c, C.fn f = some fn → fn.body = some c → codeOk fn.ntmps c = true
theorem inArgs_get : ∀ {xs : List AV} {vs : List Value} {k : Nat} {U : Used}, AVRs w G U xs vs → ∀ u v, inArgs k xs u = some v → k ≤ u ∧ u - k < vs.length ∧ AVR w G U v (vs.getD (u - k) undef)
  | [], _, k, U, .nil, u, v, h => by cases h
  | x :: xs, _, k, U, .cons _ y _ ys hx hxs, u, v, h => by
    simp only [inArgs] at h
    rw [upd_env] at h
    split at h
    · rename_i e; subst e
      injection h with h; subst h
      refine ⟨Nat.le_refl _, by simp, ?_⟩
      rw [Nat.sub_self]
      exact hx
    · obtain ⟨h1, h2, h3⟩ := inArgs_get hxs u v h
      have e : u - k = (u - (k + 1)) + 1 := by omega
      refine ⟨by omega, by rw [e]; simpa using h2, ?_⟩
      rw [e]
      exact h3
theorem start_st {xs : List AV} {args : List Value} (h0 : OutSt w G o) (hv : AVRs w G (outU o) xs args) (n : Nat) : St w G ⟨inArgs 0 xs, fun _ => none, 0⟩ o (args.toArray ++ Array.replicate n undef) := by
  refine ⟨fun u v hu => ?_, fun b k hk => (by cases hk), h0.out, h0.heap, h0.base⟩
  obtain ⟨_, h2, h3⟩ := inArgs_get hv u v hu
  rw [Nat.sub_zero] at h2 h3
  refine ⟨by simp; omega, ?_⟩
  have e : (args.toArray ++ Array.replicate n undef).getD u undef = args.getD u undef := by
    simp only [Array.getD_eq_getD_getElem?, List.getD_eq_getElem?_getD]
    rw [Array.getElem?_append_left (by simpa using h2)]
    simp
  rw [e]
  exact h3.mono (outU_le w G _ o) (.refl _ _)
/-- what the function leaves to its caller: all -/
theorem keep_ok (hs : St w G s o tmps) {rv : AV} {x : Value} (hr : AVR w G (outU o) rv x) : OutSt w { G with I := opnI G.I o.length } o ∧ AVR w { G with I := opnI G.I o.length } (outU o) rv x :=
  ⟨outSt_self hs, hr.mono (self_keeps G o.length o) (self_stays G.I o.length w)⟩
/-- what the function leaves to its caller: what it was handed -/
theorem cut_ok {n : Nat} (hs : St w G s o tmps) (hn : n ≤ o.length) {rv : AV} {x : Value} (hr : AVR w G (outU o) rv x) (h1 : AV.inO n 8 rv = true) (hall : (o.cut n).all (Blk.inO n) = true) :
    OutSt w { G with I := opnI G.I n } (o.cut n) ∧ AVR w { G with I := opnI G.I n } (outU (o.cut n)) rv x := by
  have hlen := cut_len hn
  have hst := self_stays G.I n w
  rw [List.all_eq_true] at hall
  refine ⟨⟨fun id hid => ?_, fun r hr => ?_, fun r => ?_, hs.base.mono hst⟩, inO_ok (G'' := { G with I := opnI G.I n }) hlen hst (fun _ => rfl) (fun _ => rfl) 8 rv x h1 hr⟩
  · have hid' : id < n := by omega
    obtain ⟨b, k1, k2⟩ := hs.out id (by omega)
    have hg' : O.get (o.cut n) id = some b := by rw [cut_get hn hid']; exact k1
    have hmem : b ∈ o.cut n := by
      unfold O.get at hg'
      cases hlt : Nat.blt id (o.cut n).length with
      | false => rw [hlt] at hg'; cases hg'
      | true => rw [hlt] at hg'; exact List.mem_of_getElem? hg'
    have hb := hall _ hmem
    refine OutR.mk' hg' ?_
    cases b with
    | box g cs =>
      obtain ⟨vs, ty, k2, k3, k4, k5, k6⟩ := k2
      have hb : cs.all (AV.inO n 8) = true := hb
      rw [List.all_eq_true] at hb
      refine ⟨vs, ty, opnI_out k2 hid', k3, k4, k5, fun j x hx => ?_⟩
      obtain ⟨v, hv, hc⟩ := k6 j x hx
      refine ⟨v, hv, ?_⟩
      unfold OutC at hc ⊢
      split at hc
      · obtain ⟨c1, r, c2⟩ := hc
        exact ⟨c1, r, c2.frame hst fun hr => ⟨rfl, opnI_hl hr hid'⟩⟩
      · trivial
      · exact inO_ok (G'' := { G with I := opnI G.I n }) hlen hst (fun _ => rfl) (fun _ => rfl) 8 _ v (hb _ (List.mem_of_getElem? hx)) hc
    | lst m xs =>
      obtain ⟨c1, c2, c3⟩ := k2
      exact ⟨c1, c2, c3.frame hst fun hr => ⟨rfl, opnI_out hr hid'⟩⟩
    | fls xs =>
      obtain ⟨c1, c2, c3⟩ := k2
      exact ⟨c1.mono hst, c2, c3⟩
    | lsp m xs =>
      obtain ⟨c1, c2, c3⟩ := k2
      exact ⟨c1, c2, c3.frame hst fun n hr => ⟨rfl, opnI_lsp hr hid'⟩⟩
    | dead => trivial
    | frz => cases hb
    | nst => cases hb
    | moved => cases hb
    | movedL => cases hb
    | rls xs =>
      obtain ⟨c1, c2⟩ := k2
      have hb : xs.all (AV.inO n 8) = true := hb
      rw [List.all_eq_true] at hb
      refine ⟨c1, c2.imp (fun e => e) ?_⟩
      rintro ⟨cap, vs, c, ty, h1, h2, h3, h4, h5, h6, h7⟩
      refine ⟨cap, vs, c, ty, h1, h2, AVRs.of_get h3.length fun k x v hx hv => ?_, opnI_out h4 hid', h5, h6, h7⟩
      obtain ⟨v', hv', hc⟩ := h3.get hx
      rw [hv] at hv'; injection hv' with hv'; subst hv'
      exact inO_ok (G'' := { G with I := opnI G.I n }) hlen hst (fun _ => rfl) (fun _ => rfl) 8 _ v (hb _ (List.mem_of_getElem? hx)) hc
    | map => cases hb
    | iter t pos =>
      obtain ⟨c1, c2⟩ := k2
      exact ⟨opnI_out c1 hid', c2⟩
  · have hr : opnI G.I n r ≠ .no := hr
    rcases opnI_cases G.I n r with e | ⟨e, _⟩ | ⟨m, k, _, e⟩
    · exact hs.heap r (by rw [← e]; exact hr)
    · exact absurd e hr
    · exact hs.heap r (by rw [e]; simp)
  · show (opnI G.I n r).free ∨ ∃ id, id < (o.cut n).length ∧ (opnI G.I n r = .key (.out id) ∨ (∃ j, opnI G.I n r = .key (.hl id j)) ∨ ∃ j, opnI G.I n r = .keyp j (.out id))
    rw [hlen]
    exact outSt_role G.I n r
theorem opnI_ext (I : Nat → Role) (n : Nat) (w : World) : Ext I (opnI I n) w w := ⟨rfl, rfl, rfl, Nat.le_refl _, fun r _ h1 h2 => ⟨rfl, by
    rcases opnI_cases I n r with e | ⟨_, k, e⟩ | ⟨m, k, _, e⟩
    · exact e
    · exact absurd e (h1 k)
    · exact absurd e (h2 m k)⟩, fun r m k _ e => ⟨(self_stays I n w r m (by rw [e]; exact Nat.le_refl _)).1, fun _ _ => rfl⟩⟩
theorem back_ok {n : Nat} (hs : St w G s o tmps) (hn : n ≤ o.length) {rv : AV} {x : Value} (hr : AVR w G (outU o) rv x) :
    ∃ k, n ≤ k ∧ (o.back n rv).length = k ∧ OutSt w { G with I := opnI G.I k } (o.back n rv) ∧ AVR w { G with I := opnI G.I k } (outU (o.back n rv)) rv x := by
  unfold O.back
  split
  · exact ⟨o.length, hn, rfl, keep_ok hs hr⟩
  · split
    · rename_i hb
      rw [Bool.and_eq_true] at hb
      exact ⟨n, Nat.le_refl _, cut_len hn, cut_ok hs hn hr hb.1 hb.2⟩
    · exact ⟨o.length, hn, rfl, keep_ok hs hr⟩
theorem evBody_ok (hP : Ok P C) (hcodes : CodesOk C) {n : Nat} (hQ : OrcOk P C n Q) {f : Nat} {xs : List AV} {r : AV} (h : evBody C Q f xs o = some (r, o')) : CallC P f xs o r o' ∧ (∀ fn, C.fn f = some fn → resOk C fn r = true) := by
  unfold evBody at h
  split at h
  · rename_i fn hfn
    split at h
    · rename_i c hbody
      obtain ⟨e, s1, o1, h1, h2⟩ := code_ok hP hQ hfn c h
      have finE : ∀ rs o2, evEnd C fn o.length rs o2 (fun r w' => some (r, w')) = some (r, o') → r = packRes rs ∧ resOk C fn r = true ∧ o2.back o.length r = o' := by
        intro rs o2 he
        unfold evEnd at he
        obtain ⟨k1, k2⟩ := chk_inv he
        injection k2 with k2; injection k2 with e1 e2; subst e1
        exact ⟨rfl, k1, e2⟩
      -- the results, whichever way they come
      have key : ∃ rs o2, evEnd C fn o.length rs o2 (fun r w' => some (r, w')) = some (r, o') ∧ ∀ (a : Act) (w : World) (G : Gh), codeOk a.tmps.size c = true → St w G ⟨inArgs 0 xs, fun _ => none, 0⟩ o a.tmps → ∀ Q' : Exit → Act → World → Prop,
          (∀ e' a' w', (e' = .normal ∨ e' = .ret) → ResX P fn a w G o rs o2 a' w' → Q' e' a' w') → c.wp P Q' a w := by
        cases e with
        | exit j => cases h1
        | retv rs => exact ⟨rs, o1, h1, fun a w G hok hs Q' fin => h2 a w G hok hs Q' fun e' a' w' hp => fin e' a' w' (.inr hp.1) hp.2⟩
        | normal =>
          obtain ⟨rs, o2, h3, h4⟩ := evRes_ok hP.ty h1
          exact ⟨rs, o2, h3, fun a w G hok hs Q' fin => h2 a w G hok hs Q' fun e' a' w' ⟨he, G1, hp⟩ => fin e' a' w' (.inl he) (ResX.trans hp (h4 a' w' G1 hp.st))⟩
        | ret =>
          obtain ⟨rs, o2, h3, h4⟩ := evRes_ok hP.ty h1
          exact ⟨rs, o2, h3, fun a w G hok hs Q' fin => h2 a w G hok hs Q' fun e' a' w' ⟨he, G1, hp⟩ => fin e' a' w' (.inr he) (ResX.trans hp (h4 a' w' G1 hp.st))⟩
      obtain ⟨rs, o2, h3, h4⟩ := key
      obtain ⟨rfl, k2, k3⟩ := finE rs o2 h3
      refine ⟨fun w G args h0 hv => ?_, fun fn' hfn' => by rw [hfn] at hfn'; injection hfn' with hfn'; subst hfn'; exact k2⟩
      refine calls_of_wp (hP.fn _ _ hfn).1 hbody (h4 _ w G ?_ (start_st h0 hv _) _ fun e' a' w' he hr => ?_)
      · exact codeOk_le (by simp; omega) c (hcodes _ _ _ hfn hbody)
      · obtain ⟨G1, s2, v, hp, hres, hvr⟩ := hr
        have hle : o.length ≤ o2.length := by
          rcases Nat.lt_or_ge o2.length o.length with hlt | hge
          · exact absurd (hp.tw.out _ hlt).1 (Nat.lt_irrefl _)
          · exact hge
        obtain ⟨k, k4, k5, k6, k7⟩ := back_ok hp.st hle hvr
        rw [k3] at k5 k6 k7
        have hdef : a'.defers = [] := hp.defers
        have hR : ∃ v2 G', Ending.returned v = Ending.returned v2 ∧ OutSt w' G' o' ∧ o.length ≤ o'.length ∧ (∀ id, id < o.length → G'.o id = G.o id ∧ G'.oh id = G.oh id) ∧ Ext G.I G'.I w w' ∧ AVR w' G' (outU o') (packRes rs) v2 := by
          exact ⟨v, _, rfl, k6, by omega, fun id hid => (hp.tw.out id hid).2, hp.tw.ext.trans (opnI_ext _ _ _), k7⟩
        rcases he with rfl | rfl
        · exact ⟨hdef, v, hres, hR⟩
        · exact ⟨hdef, v, hres, hR⟩
    · cases h
  · cases h
/-- functions that are taken by a contract of their own -/
def PrmOk (P : Program) (C : Cfg) : Prop := ∀ f p xs r, C.prm f = some p → p xs = some r → CloC P f xs r ∧ ∀ fn, C.fn f = some fn → resOk C fn (.c r) = true
theorem closed_some {x : Option (AV × O)} {r : CV} (h : closed x = some r) : ∃ o', x = some (.c r, o') := by
  unfold closed at h
  split at h
  · split at h
    · injection h with h; subst h; exact ⟨_, rfl⟩
    · cases h
  · cases h
theorem VR.im_nil {w : World} {I : Nat → Role} {v : Value} (h : VR w I (.im []) v) : VR w I .nils v ∨ VR w I .em v := by
  generalize hx : CV.im [] = x at h
  cases h with
  | im0 => exact .inl .nils
  | imz a => exact .inr (.emz a)
  | im xs r off cap m vs h1 h2 h3 h4 h5 => injection hx with hx; subst hx; exact .inr (.em r off cap (h3.le (by omega)))
  | _ => cases hx
theorem VR.empty {w : World} {I : Nat → Role} {x : CV} {v : Value} (h : VR w I x v) (he : emptyL x = true) : VR w I (.im []) v := by
  unfold emptyL at he
  split at he
  · cases h; exact .im0
  · exact h.em_im
  · exact h
  · cases he
theorem twoArgs_or {w : World} {I : Nat → Role} : ∀ {xs a b : List CV} {vs : List Value}, twoArgs xs = some (a, b) → VRs w I xs vs → VRs w I a vs ∨ VRs w I b vs
  | [], a, b, vs, h, _ => by cases h
  | x :: l, a, b, _, h, .cons _ v _ vs hv hvs => by
    unfold twoArgs at h
    split at h
    · injection h with h; injection h with h1 h2; subst h1; subst h2
      rcases hv.im_nil with h | h
      · exact .inl (.cons _ _ _ _ h hvs)
      · exact .inr (.cons _ _ _ _ h hvs)
    · split at h
      · rename_i a' b' h'
        injection h with h; injection h with h1 h2; subst h1; subst h2
        rcases twoArgs_or h' hvs with h | h
        · exact .inl (.cons _ _ _ _ hv h)
        · exact .inr (.cons _ _ _ _ hv h)
      · cases h
theorem runTwo_ok {f : Nat} {run : List CV → Option CV} (hrun : ∀ xs r, run xs = some r → CloC P f xs r ∧ ∀ fn, C.fn f = some fn → resOk C fn (.c r) = true) {xs : List CV} {r : CV} (h : runTwo run xs = some r) : CloC P f xs r ∧ ∀ fn, C.fn f = some fn → resOk C fn (.c r) = true := by
  unfold runTwo at h
  split at h
  · rename_i a b hab
    split at h
    · rename_i x y hx hy
      rcases cond_inv h with ⟨he, h⟩ | ⟨_, h⟩
      · rw [Bool.and_eq_true] at he
        injection h with h; subst h
        obtain ⟨c1, d1⟩ := hrun _ _ hx
        obtain ⟨c2, _⟩ := hrun _ _ hy
        refine ⟨fun w I args h1 h2 h3 hv => ?_, fun fn hfn => ?_⟩
        · have fin : ∀ (z : CV) (zs : List CV), CloC P f zs z → emptyL z = true → VRs w I zs args → Calls P f args.toArray w fun e w' => ∃ v J, e = .returned v ∧ (∀ r, J r ≠ .no → r < w'.heap.size) ∧ (∀ r, (J r).free) ∧ Base w' J ∧ Ext I J w w' ∧ VR w' J (.im []) v := fun z zs hc hz hv => by
            refine Calls.mono (hc w I args h1 h2 h3 hv) ?_
            rintro e w' ⟨v, J, q1, q2, q3, q4, q5, q6⟩
            exact ⟨v, J, q1, q2, q3, q4, q5, q6.empty hz⟩
          rcases twoArgs_or hab hv with hv | hv
          · exact fin x a c1 he.1 hv
          · exact fin y b c2 he.2 hv
        · have := d1 fn hfn
          unfold resOk at this ⊢
          split
          · rename_i hpl
            rw [hpl] at this
            dsimp only at this
            exfalso
            cases x <;> first | (cases this; done) | (cases he.1; done)
          · rfl
      · cases h
    · cases h
  · exact hrun _ _ h
/-- a list of no elements, nil or new, is handed back live -/
theorem two_back {G : Gh} {o : O} {v : Value} {m r0 : Nat} {I'' : Nat → Role} (h0 : OutSt w G o) (hold : ∀ r, r < w.heap.size → w'.heap[r]? = w.heap[r]?) (hw : w'.os = w.os ∧ w'.tape = w.tape ∧ w'.output = w.output ∧ w.heap.size ≤ w'.heap.size)
    (k1 : ∀ r, r < w.heap.size → I'' r = G.I r) (k2 : ∀ r, w.heap.size ≤ r → (I'' r).free ∨ I'' r = .key (.out o.length)) (k3 : ∀ r, I'' r ≠ .no → r < w'.heap.size) (hm : 0 < m) (hvf : v.oneCell' = true) (hl : LstR w' I'' (.out o.length) r0 m [] v) :
    ∃ G'', OutSt w' G'' (.lst m [] :: o) ∧ o.length ≤ (Blk.lst m [] :: o).length ∧ (∀ id, id < o.length → G''.o id = G.o id ∧ G''.oh id = G.oh id) ∧ Ext G.I G''.I w w' ∧ AVR w' G'' (outU (.lst m [] :: o)) (.ol o.length) v := by
  let G'' : Gh := ⟨G.a, G.hd, G.m, fun id => if id = o.length then r0 else G.o id, fun id => if id = o.length then (v, m) else G.oh id, fun n => by
    show (if n = o.length then (v, m) else G.oh n).1.oneCell' = true
    split
    · exact hvf
    · exact G.ohf n, I'', G.hf⟩
  have hst : Stays G.I I'' w w' := .mk fun r hr => by
    have hlt := h0.heap r hr.no
    exact ⟨hold r hlt, k1 r hlt⟩
  have hk : G.Keeps G'' (outU o) (outU (.lst m [] :: o)) := outU_keeps (fun id hid => ⟨by show id < o.length + 1; omega, if_neg (by omega)⟩) (fun id hid => if_neg (by omega))
  refine ⟨G'', ⟨fun id hid => ?_, k3, fun r => ?_, h0.base.mono hst⟩, by simp, fun id hid => ⟨if_neg (by omega), if_neg (by omega)⟩, .mk' hw.1 hw.2.1 hw.2.2.1 hw.2.2.2 (fun r hr _ => ⟨hold r hr, k1 r hr⟩), ?_⟩
  · by_cases e : id = o.length
    · subst e
      refine OutR.mk' (b := .lst m []) (by rw [get_cons, if_pos rfl]) ?_
      show (if o.length = o.length then (v, m) else G.oh o.length).2 = m ∧ 0 < m ∧ LstR w' I'' (.out o.length) (if o.length = o.length then r0 else G.o o.length) m [] (if o.length = o.length then (v, m) else G.oh o.length).1
      rw [if_pos rfl, if_pos rfl]
      exact ⟨rfl, hm, hl⟩
    · have hid' : id < o.length := by have : id < o.length + 1 := hid; omega
      exact (h0.out id hid').frame hid' hk hst (by rw [get_cons, if_neg e]) fun r hr => by
        have hlt : r < w.heap.size := h0.heap r (by rcases hr with hr | ⟨j, hr⟩ | ⟨j, hr⟩ <;> rw [hr] <;> simp)
        exact ⟨hold r hlt, k1 r hlt⟩
  · show (I'' r).free ∨ _
    by_cases hlt : r < w.heap.size
    · rcases h0.role r with h | ⟨id, hid, h⟩
      · exact .inl (by rw [k1 r hlt]; exact h)
      · refine .inr ⟨id, by show id < o.length + 1; omega, ?_⟩
        show I'' r = _ ∨ (∃ j, I'' r = _) ∨ ∃ j, I'' r = _
        rw [k1 r hlt]; exact h
    · rcases k2 r (by omega) with h | h
      · exact .inl h
      · exact .inr ⟨o.length, by show o.length < o.length + 1; omega, .inl h⟩
  · have := AVR.ol (w := w') (G := G'') (U := outU (.lst m [] :: o)) o.length (by show o.length < o.length + 1; omega)
    have e : G''.oh o.length = (v, m) := if_pos rfl
    rw [e] at this
    exact this
theorem runTwoA_ok {f : Nat} {run : List AV → O → Option (AV × O)} (hrun : ∀ xs o r o', run xs o = some (r, o') → CallC P f xs o r o') {xs : List AV} {r : AV} (h : runTwoA run xs o = some (r, o')) : CallC P f xs o r o' := by
  unfold runTwoA at h
  split at h
  · rename_i zs hzs
    split at h
    · rename_i a b hab
      split at h
      · rename_i x o1 m hx hy
        rcases cond_inv h with ⟨he, h⟩ | ⟨_, h⟩
        · rw [Bool.and_eq_true] at he
          injection h with h; injection h with h1 h2; subst h1; subst h2
          have hm : 0 < m := Nat.blt_eq.mp he.2
          have c1 := hrun _ _ _ _ hx
          have c2 := hrun _ _ _ _ hy
          intro w G args h0 hv
          have hv : VRs w G.I zs args := allCC_of hzs hv
          have hst := cloI_stays w G.I
          have h00 : OutSt w { G with I := cloI G.I } [] := outSt_nil rfl (fun r hr => h0.heap r (cloI_no hr)) (cloI_free _) (h0.base.mono hst)
          let I0 : Nat → Role := fun r => if r < w.heap.size then G.I r else .no
          have nilCase : ∀ w' : World, Ext (cloI G.I) (cloI G.I) w w' ∨ (∃ J, Ext (cloI G.I) J w w') → ∃ v G', Ending.returned (.slice none 0 0) = Ending.returned v ∧ OutSt w' G' (.lst m [] :: o) ∧ o.length ≤ (Blk.lst m [] :: o).length ∧ (∀ id, id < o.length → G'.o id = G.o id ∧ G'.oh id = G.oh id) ∧ Ext G.I G'.I w w' ∧ AVR w' G' (outU (.lst m [] :: o)) (.ol o.length) v := by
            intro w' hx
            obtain ⟨J, hx⟩ : ∃ J, Ext (cloI G.I) J w w' := hx.elim (fun h => ⟨_, h⟩) id
            obtain ⟨G', g1, g2, g3, g4, g5⟩ := two_back (w := w) (w' := w') (m := m) (r0 := 0) (v := .slice none 0 0) (I'' := I0) h0 (fun r hr => (hx.old (cloI_free _) hr).1) ⟨hx.os, hx.tape, hx.output, hx.size⟩ (fun r hr => if_pos hr)
              (fun r hr => .inl (by show (I0 r).free; have : I0 r = .no := if_neg (by omega); rw [this]; trivial)) (fun r hr => by
                by_cases e : r < w.heap.size
                · exact Nat.lt_of_lt_of_le e hx.size
                · exact absurd (if_neg e) hr) hm rfl ⟨by simp, .inl ⟨rfl, rfl⟩⟩
            exact ⟨_, G', rfl, g1, g2, g3, g4, g5⟩
          rcases twoArgs_or hab hv with hv | hv
          · refine Calls.mono (c1 w _ args h00 (map_c (hv.mono hst))) ?_
            rintro e w' ⟨v, G', rfl, _, _, _, hx, hxv⟩
            have hv : v = .slice none 0 0 := by
              have := he.1
              unfold nilA at this
              split at this
              · cases hxv; rfl
              · cases hxv.c_inv; rfl
              · cases this
            subst hv
            exact nilCase w' (.inr ⟨_, hx⟩)
          · refine Calls.mono (c2 w _ args h00 (map_c (hv.mono hst))) ?_
            rintro e w' ⟨v, G', rfl, h1, _, _, hx, hxv⟩
            obtain ⟨_, _, hl⟩ := (h1.out 0 (by simp)).is (b := .lst m []) rfl
            have hve : v = (G'.oh 0).1 := by cases hxv; rfl
            rcases hl.2 with ⟨e1, _⟩ | ⟨cap, vs, c, ty, e1, e2, e3, e4, e5, e6, e7⟩
            · rw [hve, e1]
              exact nilCase w' (.inr ⟨_, hx⟩)
            · have hge : ¬ G'.o 0 < w.heap.size := fun hlt => by
                have := (hx.old (cloI_free _) hlt).2
                have hf := cloI_free G.I (G'.o 0)
                have this : G'.I (G'.o 0) = cloI G.I (G'.o 0) := this
                rw [← this, e4] at hf
                exact hf
              have hlt' := lt_of_heap e5
              let I1 : Nat → Role := fun r => if r < w.heap.size then G.I r else if r = G'.o 0 then .key (.out o.length) else .no
              have i1 : I1 (G'.o 0) = .key (.out o.length) := by show (if _ then _ else _) = _; rw [if_neg hge, if_pos rfl]
              have i2 : ∀ r, w.heap.size ≤ r → r ≠ G'.o 0 → I1 r = .no := fun r h1 h2 => by show (if _ then _ else _) = _; rw [if_neg (by omega), if_neg h2]
              obtain ⟨G2, g1, g2, g3, g4, g5⟩ := two_back (w := w) (w' := w') (m := m) (r0 := G'.o 0) (v := v) (I'' := I1) h0 (fun r hr => (hx.old (cloI_free _) hr).1) ⟨hx.os, hx.tape, hx.output, hx.size⟩ (fun r hr => if_pos hr)
                (fun r hr => by
                  by_cases e : r = G'.o 0
                  · rw [e]; exact .inr i1
                  · exact .inl (by rw [i2 r hr e]; trivial)) (fun r hr => by
                  by_cases e : r < w.heap.size
                  · exact Nat.lt_of_lt_of_le e hx.size
                  · by_cases e' : r = G'.o 0
                    · rw [e']; exact hlt'
                    · exact absurd (i2 r (by omega) e') hr) hm (by rw [hve]; exact G'.ohf 0) ⟨by simp, .inr ⟨cap, [], c, ty, hve.trans e1, by simp, .nil, i1, e5, e6, fun k v hk => by simp at hk⟩⟩
              exact ⟨_, G2, rfl, g1, g2, g3, g4, g5⟩
        · cases h
      · cases h
    · exact hrun _ _ _ _ h
  · exact hrun _ _ _ _ h
theorem orc_ok (hP : Ok P C) (hcodes : CodesOk C) (hprm : PrmOk P C) : ∀ n, OrcOk P C n (orc C n)
  | 0 => by
    refine ⟨⟨fun f xs r h => ?_, fun f xs o r o' h => ?_⟩, fun fid b id T xs o r fn h => ?_⟩
    · cases h
    · cases h
    · cases h
  | n + 1 => by
    have ih := orc_ok hP hcodes hprm n
    refine ⟨⟨fun f xs r h => ?_, fun f xs o r o' h => ?_⟩, fun fid b id T xs o r fn h hfn => evLoop_ok hP ih hfn h⟩
    rotate_left
    · rcases cond_inv h with ⟨_, h⟩ | ⟨_, h⟩
      · exact runTwoA_ok (fun xs o r o' h => (evBody_ok hP hcodes ih h).1) h
      · exact (evBody_ok hP hcodes ih h).1
    have run : ∀ xs r, closed (evBody C (orc C n) f (xs.map AV.c) []) = some r → CloC P f xs r ∧ ∀ fn, C.fn f = some fn → resOk C fn (.c r) = true := fun xs r h => by
      obtain ⟨o', he⟩ := closed_some h
      obtain ⟨h1, h2⟩ := evBody_ok hP hcodes ih he
      exact ⟨h1.clo, h2⟩
    have h : (match prmOf C f xs with | some r => some r | none => cond (C.two f) (runTwo (fun xs => closed (evBody C (orc C n) f (xs.map AV.c) [])) xs) (closed (evBody C (orc C n) f (xs.map AV.c) []))) = some r := h
    split at h
    · rename_i r' hp
      injection h with h
      subst h
      unfold prmOf at hp
      split at hp
      · rename_i p hp'; exact hprm f p xs _ hp' hp
      · cases hp
    · rcases cond_inv h with ⟨_, h⟩ | ⟨_, h⟩
      · exact runTwo_ok run h
      · exact run _ _ h
/-- THE LAW: what the interpreter answers for closed arguments the model answers, on every tape. -/
theorem ev_sound (hP : Ok P C) (hcodes : CodesOk C) (hprm : PrmOk P C) {n f : Nat} {xs : List CV} {r : CV} (h : (orc C n).clo f xs = some r) : CloC P f xs r :=
  ((orc_ok hP hcodes hprm n).f.clo f xs r h).1
end
end Go.Ev
/- The interpreter once more, in a form that the kernel runs faster (few and small terms), with the proof that it is the same. -/
namespace Go.Ev
open Go
noncomputable section
variable [Glob]
/-! ### Slots -/
def updA (f : Nat → Option AV) (t : Nat) (x : AV) : Nat → Option AV := fun u => Bool.rec (motive := fun _ => Option AV) (f u) (some x) (Nat.beq u t)
def updB (f : Nat → Option Blk) (t : Nat) (x : Blk) : Nat → Option Blk := fun u => Bool.rec (motive := fun _ => Option Blk) (f u) (some x) (Nat.beq u t)
theorem updA_eq (f : Nat → Option AV) (t : Nat) (x : AV) : updA f t x = upd f t x := funext fun u => by unfold updA upd; cases Nat.beq u t <;> rfl
theorem updB_eq (f : Nat → Option Blk) (t : Nat) (x : Blk) : updB f t x = upd f t x := funext fun u => by unfold updB upd; cases Nat.beq u t <;> rfl
def putF (s : S) (t : Nat) (v : AV) : S := ⟨updA s.env t v, s.own, s.gen⟩
def blkF (s : S) (b : Nat) (x : Blk) : S := ⟨s.env, updB s.own b x, s.gen⟩
theorem putF_eq (s : S) (t : Nat) (v : AV) : putF s t v = s.put t v := by unfold putF S.put; rw [updA_eq]
theorem blkF_eq (s : S) (t : Nat) (v : Blk) : blkF s t v = s.blk t v := by unfold blkF S.blk; rw [updB_eq]
/-! ### States of templates -/
abbrev SlT := List CV → (Nat → Option AV) × List CV
def slNil : SlT := fun xs => (fun _ => none, xs)
def slTwo (t : Nat) (ih : SlT) (c : AV × List CV) : (Nat → Option AV) × List CV := (updA (ih c.2).1 t c.1, (ih c.2).2)
def slCons (p : Nat × Sh) (_ : List (Nat × Sh)) (ih : SlT) : SlT := fun xs => slTwo p.1 ih (inOne p.2 xs)
def inSlotsF (l : List (Nat × Sh)) : SlT := List.rec (motive := fun _ => SlT) slNil slCons l
theorem inSlotsF_eq : ∀ (l : List (Nat × Sh)) (xs : List CV), inSlotsF l xs = inSlots l xs
  | [], xs => rfl
  | (t, h) :: l, xs => by
    show (updA (inSlotsF l (inOne h xs).2).1 t (inOne h xs).1, (inSlotsF l (inOne h xs).2).2) = _
    rw [inSlotsF_eq l, updA_eq]; rfl
abbrev LsT := Nat → List CV → (Nat → Option Blk) → (Nat → Option Blk)
def lsNil : LsT := fun _ _ f => f
def lsCons (m : Nat × Bool) (_ : List (Nat × Bool)) (ih : LsT) : LsT := fun k xs f => updB (ih (k + 1) xs.tail f) (lname k) (inList m.1 m.2 (lstOf (g xs 0)))
def inListsF (k : Nat) (l : List (Nat × Bool)) : List CV → (Nat → Option Blk) → (Nat → Option Blk) := List.rec (motive := fun _ => LsT) lsNil lsCons l k
theorem inListsF_eq : ∀ (l : List (Nat × Bool)) (k : Nat) (xs : List CV) (f : Nat → Option Blk), inListsF k l xs f = inLists k l xs f
  | [], k, xs, f => rfl
  | m :: l, k, xs, f => by
    show updB (inListsF (k + 1) l xs.tail f) _ _ = _
    rw [inListsF_eq l, updB_eq]; rfl
abbrev BxT := List (Nat × Nat) → List (Nat × Bool) → List CV → (Nat → Option Blk)
def bxNil : BxT := fun st ls xs => inListsF 0 ls xs (inStay st)
def bxTwo (b : Nat) (a : Bool) (ih : BxT) (st : List (Nat × Nat)) (ls : List (Nat × Bool)) (c : List AV × List CV) : Nat → Option Blk := updB (ih st ls c.2) b (.box a c.1)
def bxCons (p : Nat × Bool × List Sh) (_ : List (Nat × Bool × List Sh)) (ih : BxT) : BxT := fun st ls xs => bxTwo p.1 p.2.1 ih st ls (inCells p.2.2 xs)
def inBoxesF (st : List (Nat × Nat)) (ls : List (Nat × Bool)) (l : List (Nat × Bool × List Sh)) : List CV → (Nat → Option Blk) := List.rec (motive := fun _ => BxT) bxNil bxCons l st ls
theorem inBoxesF_eq (st : List (Nat × Nat)) (ls : List (Nat × Bool)) : ∀ (l : List (Nat × Bool × List Sh)) (xs : List CV), inBoxesF st ls l xs = inBoxes st ls l xs
  | [], xs => inListsF_eq _ _ _ _
  | (b, a, h) :: l, xs => by
    show updB (inBoxesF st ls l (inCells h xs).2) b (.box a (inCells h xs).1) = _
    rw [inBoxesF_eq st ls l, updB_eq]; rfl
def stTwo (T : Tmpl) (gen : Nat) (a : (Nat → Option AV) × List CV) : S := ⟨a.1, inBoxesF T.stay T.lists T.boxes a.2, gen⟩
def stF (T : Tmpl) (gen : Nat) (xs : List CV) : S := stTwo T gen (inSlotsF T.slots xs)
theorem stF_eq (T : Tmpl) (gen : Nat) (xs : List CV) : stF T gen xs = T.st gen xs := by
  unfold stF stTwo Tmpl.st
  rw [inSlotsF_eq, inBoxesF_eq]
abbrev ArT := Nat → (Nat → Option AV)
def arNil : ArT := fun _ _ => none
def arCons (v : AV) (_ : List AV) (ih : ArT) : ArT := fun t => updA (ih (t + 1)) t v
def inArgsF (t : Nat) (l : List AV) : Nat → Option AV := List.rec (motive := fun _ => ArT) arNil arCons l t
theorem inArgsF_eq : ∀ (l : List AV) (t : Nat), inArgsF t l = inArgs t l
  | [], t => rfl
  | v :: l, t => by
    show updA (inArgsF (t + 1) l) t v = _
    rw [inArgsF_eq l, updA_eq]; rfl
/-! ### Runs -/
abbrev RunT (α R : Type) := S → O → Log → (α → S → O → Log → Option R) → Option R
def rRet {α R : Type} (x : α) : RunT α R := fun s w l K => K x s w l
def rFail {α R : Type} : RunT α R := fun _ _ _ _ => none
def rLook {α R : Type} (β : Type) (f : Look β) (_ : β → Prog α) (ih : β → RunT α R) : RunT α R := fun s w l K => f.f fun b => ih b s w l K
def rEnv {α R : Type} (t : Nat) (_ : AV → Prog α) (ih : AV → RunT α R) : RunT α R := fun s w l K => Option.rec (motive := fun _ => Option R) none (fun v => ih v s w (l.r (.slot t)) K) (s.env t)
def rBlk {α R : Type} (b : Nat) (_ : Option Blk → Prog α) (ih : Option Blk → RunT α R) : RunT α R := fun s w l K => ih (s.own b) s w (l.r (.blk b)) K
def rOut {α R : Type} (_ : Nat → O → Prog α) (ih : Nat → O → RunT α R) : RunT α R := fun s w l K => ih s.gen w s w ((l.r .out).rs (outLs w.length)) K
def rSetE {α R : Type} (t : Nat) (v : AV) (_ : Prog α) (ih : RunT α R) : RunT α R := fun s w l K => ih (putF s t v) w (l.w (.slot t)) K
def rSetB {α R : Type} (b : Nat) (x : Blk) (_ : Prog α) (ih : RunT α R) : RunT α R := fun s w l K => ih (blkF s b x) w ((l.w (.blk b)).w (.kind b)) K
def rKind {α R : Type} (b : Nat) (_ : Option Nat → Prog α) (ih : Option Nat → RunT α R) : RunT α R := fun s w l K => ih (kindOf (s.own b)) s w (l.r (.kind b)) K
def rSetL {α R : Type} (b : Nat) (xs : List CV) (_ : Prog α) (ih : RunT α R) : RunT α R := fun s w l K => Option.rec (motive := fun _ => Option R) none (fun m => ih (blkF s b (.lst m xs)) w ((l.r (.kind b)).w (.blk b)) K) (kindOf (s.own b))
def rSetO {α R : Type} (o : O) (_ : Prog α) (ih : RunT α R) : RunT α R := fun s w l K => ih s.tick o ((l.w .out).ws (outLs (Nat.max w.length o.length))) K
def rOutB {α R : Type} (id : Nat) (_ : Option Blk → Prog α) (ih : Option Blk → RunT α R) : RunT α R := fun s w l K => ih (w.get id) s w (l.r (.outB id)) K
def rSetOB {α R : Type} (id : Nat) (b : Blk) (_ : Prog α) (ih : RunT α R) : RunT α R := fun s w l K => Option.rec (motive := fun _ => Option R) none (fun _ => ih s (w.put id b) ((l.r (.outB id)).w (.outB id)) K) (w.get id)
def runF {α R : Type} (p : Prog α) : RunT α R := Prog.rec (motive := fun _ => RunT α R) rRet rFail rLook rEnv rBlk rOut rSetE rSetB rKind rSetL rSetO rOutB rSetOB p
theorem runF_eq {α R : Type} (p : Prog α) : ∀ (s : S) (w : O) (l : Log) (K : α → S → O → Log → Option R), runF p s w l K = p.run s w l K := by
  induction p with
  | ret x => intro s w l K; rfl
  | fail => intro s w l K; rfl
  | look β f k ih => intro s w l K; simp only [Prog.run]; exact congrArg f.f (funext fun b => ih b s w l K)
  | env t k ih =>
    intro s w l K
    simp only [Prog.run]
    show Option.rec (motive := fun _ => Option R) none (fun v => runF (k v) s w (l.r (.slot t)) K) (s.env t) = _
    cases s.env t with
    | none => rfl
    | some v => exact ih v s w _ K
  | blk b k ih => intro s w l K; simp only [Prog.run]; exact ih _ s w _ K
  | out k ih => intro s w l K; simp only [Prog.run]; exact ih _ _ s w _ K
  | setE t v k ih => intro s w l K; simp only [Prog.run]; show runF k (putF s t v) w _ K = k.run (s.put t v) w _ K; rw [putF_eq]; exact ih _ _ _ _
  | setB b x k ih => intro s w l K; simp only [Prog.run]; show runF k (blkF s b x) w _ K = k.run (s.blk b x) w _ K; rw [blkF_eq]; exact ih _ _ _ _
  | kind b k ih => intro s w l K; simp only [Prog.run]; exact ih _ s w _ K
  | setL b xs k ih =>
    intro s w l K
    simp only [Prog.run]
    show Option.rec (motive := fun _ => Option R) none (fun m => runF k (blkF s b (.lst m xs)) w _ K) (kindOf (s.own b)) = _
    cases kindOf (s.own b) with
    | none => rfl
    | some m => show runF k (blkF s b (.lst m xs)) w _ K = _; rw [blkF_eq]; exact ih _ _ _ _
  | setO o k ih => intro s w l K; simp only [Prog.run]; exact ih _ _ _ _
  | outB id k ih => intro s w l K; simp only [Prog.run]; exact ih _ s w _ K
  | setOB id b k ih =>
    intro s w l K
    simp only [Prog.run]
    show Option.rec (motive := fun _ => Option R) none (fun _ => runF k s (w.put id b) _ K) (w.get id) = _
    cases w.get id with
    | none => rfl
    | some m => exact ih _ _ _ _
/-! ### Operations -/
def rdTmp (t : Nat) (_ : Bool) (K : AV → Prog Unit) : Prog Unit := .env t K
def rdConst (v : Value) (ny : Bool) (K : AV → Prog Unit) : Prog Unit := Option.rec (motive := fun _ => Prog Unit) .fail K (constAV ny v)
def rdGlob (g : Nat) (_ : Bool) (K : AV → Prog Unit) : Prog Unit := (match Glob.glob g with | some p => K (.c (.ep p.1 p.2 0)) | none => .fail)
def rdFunc (f : Nat) (_ : Bool) (K : AV → Prog Unit) : Prog Unit := K (.c (.fn (.func f) [] []))
def rdF (ny : Bool) (x : Operand) (K : AV → Prog Unit) : Prog Unit := Operand.rec (motive := fun _ => Bool → (AV → Prog Unit) → Prog Unit) rdTmp rdConst rdGlob rdFunc x ny K
theorem rdF_eq (ny : Bool) (x : Operand) (K : AV → Prog Unit) : rdF ny x K = rd ny x K := by
  cases x with
  | const v =>
    show Option.rec (motive := fun _ => Prog Unit) .fail K (constAV ny v) = match constAV ny v with | some v => K v | none => .fail
    cases constAV ny v <;> rfl
  | _ => rfl
def rdcF (ny : Bool) (x : Operand) (K : CV → Prog Unit) : Prog Unit := rdF ny x fun v => v.cv K
theorem rdcF_eq (ny : Bool) (x : Operand) (K : CV → Prog Unit) : rdcF ny x K = rdc ny x K := rdF_eq ny x _
def evoMove (x : Operand) (C : Cfg) (Q : Orc) (ny : Bool) (all : List Oper) (o : Oper) (K : AV → Prog Unit) : Prog Unit := rdF ny x K
def evoAssign (x : Operand) (C : Cfg) (Q : Orc) (ny : Bool) (all : List Oper) (o : Oper) (K : AV → Prog Unit) : Prog Unit := rdF ny x K
def evoPick (c : Operand) (a : Operand) (b : Operand) (C : Cfg) (Q : Orc) (ny : Bool) (all : List Oper) (o : Oper) (K : AV → Prog Unit) : Prog Unit := rdcF ny c fun t => .look _ (lB t) fun t => .look _ (lIfb t) fun t => (match t with | true => rdF ny a K | false => rdF ny b K)
def evoAlloc (e : Nat) (C : Cfg) (Q : Orc) (ny : Bool) (all : List Oper) (o : Oper) (K : AV → Prog Unit) : Prog Unit := tyP C e fun i => zeroOf i fun z => pchk (z.isN i.size && (i.agg || Nat.beq i.size 1)) (newB o.dst (.box i.agg (zCells z)) K)
def evoBox (e : Nat) (x : Operand) (C : Cfg) (Q : Orc) (ny : Bool) (all : List Oper) (o : Oper) (K : AV → Prog Unit) : Prog Unit := tyP C e fun i => rdF ny x fun v => pchk (noLo v) (v.cellsOf i fun cs => newB o.dst (.box i.agg cs) K)
def evoBuild (t : Nat) (parts : Array (Nat × Operand)) (C : Cfg) (Q : Orc) (ny : Bool) (all : List Oper) (o : Oper) (K : AV → Prog Unit) : Prog Unit := tyP C t fun i => zeroOf i fun z => rdParts ny (parts.toList) fun ps =>
      (match i.td with
      | .struct fs => pchk (fieldsOk C fs && z.isN i.size) (fillParts (fieldPl C fs) (zCells z) ps fun cs => K (mkAg cs))
      | .array _ e => tyP C e fun j => pchk (z.isN i.size) (fillParts (fun k => some (k * j.size, j)) (zCells z) ps fun cs => K (mkAg cs))
      | _ => .fail)
def evoBuildSlice (t : Nat) (len : Nat) (parts : Array (Nat × Operand)) (C : Cfg) (Q : Orc) (ny : Bool) (all : List Oper) (o : Oper) (K : AV → Prog Unit) : Prog Unit := tyP C t fun i => (match i.td with
      | .slice e => tyP C e fun j => zeroOf j fun z => rdParts ny (parts.toList) fun ps => bslA C o.dst len j z ps K
      | _ => .fail)
def evoInsert (t : Nat) (m : Operand) (k : Operand) (v : Operand) (C : Cfg) (Q : Orc) (ny : Bool) (all : List Oper) (o : Oper) (K : AV → Prog Unit) : Prog Unit := tyP C t fun i => rdF ny m fun m => rdcF ny k fun k => rdF ny v fun v => insA C i m k v K
def evoLoad (t : Nat) (a : Operand) (C : Cfg) (Q : Orc) (ny : Bool) (all : List Oper) (o : Oper) (K : AV → Prog Unit) : Prog Unit := tyP C t fun i => rdF ny a fun v => evLoad i (isTaken all o.dst) o.dst v K
def evoStore (t : Nat) (a : Operand) (x : Operand) (C : Cfg) (Q : Orc) (ny : Bool) (all : List Oper) (o : Oper) (K : AV → Prog Unit) : Prog Unit := tyP C t fun i => rdF ny a fun u => rdF ny x fun v => evStore i u v (K (.c (.tp [])))
def evoReady (_ : Nat) (C : Cfg) (Q : Orc) (ny : Bool) (all : List Oper) (o : Oper) (K : AV → Prog Unit) : Prog Unit := .fail
def evoWaits (_ : Nat) (C : Cfg) (Q : Orc) (ny : Bool) (all : List Oper) (o : Oper) (K : AV → Prog Unit) : Prog Unit := .fail
def evoNilCheck (x : Operand) (C : Cfg) (Q : Orc) (ny : Bool) (all : List Oper) (o : Oper) (K : AV → Prog Unit) : Prog Unit := rdF ny x fun v => okP v K
def evoBinOp (op : BinOp) (t : Nat) (x : Operand) (y : Operand) (_ : Nat) (C : Cfg) (Q : Orc) (ny : Bool) (all : List Oper) (o : Oper) (K : AV → Prog Unit) : Prog Unit := tyP C t fun i => rdF ny x fun a => rdF ny y fun b => binA op i x y a b fun z => K (.c z)
def evoUnOp (op : UnOp) (_ : Nat) (x : Operand) (C : Cfg) (Q : Orc) (ny : Bool) (all : List Oper) (o : Oper) (K : AV → Prog Unit) : Prog Unit := rdcF ny x fun x => unA op x fun z => K (.c z)
def evoConvert (a : Nat) (b : Nat) (x : Operand) (C : Cfg) (Q : Orc) (ny : Bool) (all : List Oper) (o : Oper) (K : AV → Prog Unit) : Prog Unit := tyP C a fun i => tyP C b fun j => rdF ny x fun v =>
      convA i j (match i.td, j.td with
        | .slice e, _ => isByte C e
        | _, .slice e => isByte C e
        | _, _ => false) v K
def evoSliceToArrayPointer (_ : Nat) (_ : Operand) (C : Cfg) (Q : Orc) (ny : Bool) (all : List Oper) (o : Oper) (K : AV → Prog Unit) : Prog Unit := .fail
def evoMakeInterface (t : Nat) (x : Operand) (C : Cfg) (Q : Orc) (ny : Bool) (all : List Oper) (o : Oper) (K : AV → Prog Unit) : Prog Unit := tyP C t fun i => rdF ny x fun v => (match i.td with | .ifc => .fail | _ => pchk (noLo v) (K (mkIfc t v)))
def evoMakeFunc (f : Fn) (first : Array Operand) (capt : Array Operand) (C : Cfg) (Q : Orc) (ny : Bool) (all : List Oper) (o : Oper) (K : AV → Prog Unit) : Prog Unit := rds ny first.toList fun a => rds ny capt.toList fun b => pchk ((a ++ b).all noLo) (K (mkFn f a b))
def evoMakeMap (_ : Nat) (r : Option Operand) (C : Cfg) (Q : Orc) (ny : Bool) (all : List Oper) (o : Oper) (K : AV → Prog Unit) : Prog Unit := newM r K
def evoMakeChan (_ : Nat) (_ : Operand) (C : Cfg) (Q : Orc) (ny : Bool) (all : List Oper) (o : Oper) (K : AV → Prog Unit) : Prog Unit := .fail
def evoMakeSlice (t : Nat) (l : Operand) (cap : Operand) (C : Cfg) (Q : Orc) (ny : Bool) (all : List Oper) (o : Oper) (K : AV → Prog Unit) : Prog Unit := tyP C t fun i => (match i.td with
      | .slice e => tyP C e fun j => pchk (Nat.ble j.bytes 65536) (zeroOf j fun z => rdcF ny l fun l' => .look _ (lAny l') fun (_, n) => (match isZ l with
        | true => rdcF ny cap fun c' => .look _ (lAny c') fun (_, c) => .look _ (lUpto c maxLst) fun _ => pchk (z.isN j.size) (newL o.dst (.lst j.size []) K)
        | false => pchk (sameOpd (some l) (some cap) && z.isN j.size) (.look _ (lUpto n maxLst) fun n => mslA C o.dst n j z K)))
      | _ => .fail)
def evoSlice (t : Nat) (x : Operand) (lo : Option Operand) (hi : Option Operand) (mx : Option Operand) (C : Cfg) (Q : Orc) (ny : Bool) (all : List Oper) (o : Oper) (K : AV → Prog Unit) : Prog Unit := tyP C t fun i => rdF ny x fun v => sliceB C ny i (isCut all o) o.dst v lo hi mx K
def evoFieldAddr (t : Nat) (x : Operand) (f : Nat) (C : Cfg) (Q : Orc) (ny : Bool) (all : List Oper) (o : Oper) (K : AV → Prog Unit) : Prog Unit := tyP C t fun i => rdF ny x fun v => offOf i f fun n ft => tyP C ft fun j => pchk (Nat.blt 0 j.size) (v.plus n K)
def evoField (t : Nat) (x : Operand) (f : Nat) (C : Cfg) (Q : Orc) (ny : Bool) (all : List Oper) (o : Oper) (K : AV → Prog Unit) : Prog Unit := tyP C t fun i => rdF ny x fun v => offOf i f fun n ft => tyP C ft fun j => (match v with
      | .c x => fldCV j x n K
      | .ag l => ldCells j l n K
      | _ => .fail)
def evoIndexAddr (t : Nat) (x : Operand) (k : Operand) (C : Cfg) (Q : Orc) (ny : Bool) (all : List Oper) (o : Oper) (K : AV → Prog Unit) : Prog Unit := tyP C t fun i => rdF ny x fun v => rdcF ny k fun k => .look _ (lAny k) fun (_, k) => (match i.td, v with
      | .slice e, .sl n => tyP C e fun j => .blk n fun b => (match b with
        | some (.lst m xs) => pchk (Nat.beq m j.size) (.look _ (lIx k xs.length) fun k => K (.le n k 0))
        | some (.nst _ xs _) => pchk (Nat.beq j.size 1) (.look _ (lIx k xs.length) fun k => K (.le n k 0))
        | some (.fls xs) => imAddr j xs k K
        | some (.movedL id) => .outB id fun q => (match q with
          | some (.lst m xs) => pchk (Nat.beq m j.size) (.look _ (lIx k xs.length) fun k => K (.oe id k 0))
          | _ => .fail)
        | _ => .fail)
      | .slice e, .ol id => tyP C e fun j => .outB id fun q => (match q with
        | some (.lst m xs) => pchk (Nat.beq m j.size) (.look _ (lIx k xs.length) fun k => K (.oe id k 0))
        | some (.fls xs) => imAddr j xs k K
        | some (.lsp _ xs) => imAddr j xs k K
        | some (.rls xs) => pchk (Nat.beq j.size 1) (.look _ (lIx k xs.length) fun k => K (.oe id k 0))
        | _ => .fail)
      | .slice e, .ov id q => tyP C e fun j => .out fun _ w => (match w.get id with
        | some (.lst m xs) => pchk (Nat.beq m j.size) (.look _ (lIx k (xs.length - q)) fun k => K (.oe id (q + k) 0))
        | _ => .fail)
      | .slice e, .c x => tyP C e fun j => .look _ (lLst x) fun xs => imAddr j xs k K
      | .array len e, .pt n o => tyP C e fun j => .look _ (lIx k len) fun k => K (.pt n (o + k * j.size))
      | .array len e, .po id o => tyP C e fun j => .look _ (lIx k len) fun k => K (.po id (o + k * j.size))
      | .array n e, .c (.ep a x o) => tyP C e fun j => .look _ (lIx k n) fun k => K (.c (.ep a x (o + k * j.size)))
      | _, _ => .fail)
def evoIndex (t : Nat) (x : Operand) (k : Operand) (C : Cfg) (Q : Orc) (ny : Bool) (all : List Oper) (o : Oper) (K : AV → Prog Unit) : Prog Unit := tyP C t fun i => rdcF ny x fun x => rdcF ny k fun k => .look _ (lAny k) fun (_, k) => (match i.td with
      | .str => .look _ (lStr x) fun t => .look _ (lIx k t.size) fun k => popt t.data.toList[k]? fun b => K (.c (.int .u8 (Int.ofNat b.toNat)))
      | .array n e => tyP C e fun j => .look _ (lIx k n) fun k => fldCV j x (k * j.size) K
      | _ => .fail)
def evoLookup (t : Nat) (x : Operand) (k : Operand) (ok : Bool) (C : Cfg) (Q : Orc) (ny : Bool) (all : List Oper) (o : Oper) (K : AV → Prog Unit) : Prog Unit := tyP C t fun i => rdF ny x fun m => rdcF ny k fun k => lookA C i m k ok K
def evoMapUpdate (t : Nat) (m : Operand) (k : Operand) (v : Operand) (C : Cfg) (Q : Orc) (ny : Bool) (all : List Oper) (o : Oper) (K : AV → Prog Unit) : Prog Unit := tyP C t fun i => rdF ny m fun m => rdcF ny k fun k => rdF ny v fun v => insA C i m k v K
def evoMapEntry (_ : Nat) (_ : Operand) (_ : Operand) (C : Cfg) (Q : Orc) (ny : Bool) (all : List Oper) (o : Oper) (K : AV → Prog Unit) : Prog Unit := .fail
def evoEntryStore (_ : Nat) (_ : Operand) (_ : Operand) (_ : Operand) (C : Cfg) (Q : Orc) (ny : Bool) (all : List Oper) (o : Oper) (K : AV → Prog Unit) : Prog Unit := .fail
def evoRange (t : Nat) (x : Operand) (C : Cfg) (Q : Orc) (ny : Bool) (all : List Oper) (o : Oper) (K : AV → Prog Unit) : Prog Unit := tyP C t fun i => rdF ny x fun v => rangeA i v K
def evoNext (x : Operand) (isS : Bool) (C : Cfg) (Q : Orc) (ny : Bool) (all : List Oper) (o : Oper) (K : AV → Prog Unit) : Prog Unit := rdF ny x fun v => nextA v isS K
def evoEntry (_ : Operand) (C : Cfg) (Q : Orc) (ny : Bool) (all : List Oper) (o : Oper) (K : AV → Prog Unit) : Prog Unit := .fail
def evoTypeAssert (x : Operand) (_ : Nat) (a : Nat) (ok : Bool) (C : Cfg) (Q : Orc) (ny : Bool) (all : List Oper) (o : Oper) (K : AV → Prog Unit) : Prog Unit := tyP C a fun i => rdF ny x fun v => taA i a v ok K
def evoExtract (x : Operand) (k : Nat) (C : Cfg) (Q : Orc) (ny : Bool) (all : List Oper) (o : Oper) (K : AV → Prog Unit) : Prog Unit := rdF ny x fun v => (match v with
      | .c x => .look _ (lTp x) fun xs => popt xs[k]? fun y => K (.c y)
      | .tp l => (match l[k]? with | some v => K v | none => .fail)
      | _ => .fail)
def evoCall (c : Call) (C : Cfg) (Q : Orc) (ny : Bool) (all : List Oper) (o : Oper) (K : AV → Prog Unit) : Prog Unit := (match c.callee with
      | .builtin .len => (match c.args.toList, c.argTypes.toList with
        | [x], t :: _ => tyP C t fun i => rdF ny x fun v => (match i.td with
          | .array n _ => K (.c (.int .i64 n))
          | .str => v.cv fun x => .look _ (lStr x) fun t => K (.c (.int .i64 t.size))
          | .slice _ => lenA v fun k => K (.c (.int .i64 k))
          | _ => .fail)
        | _, _ => .fail)
      | .builtin .append => (match c.args.toList, c.argTypes.toList with
        | [x, y], [t, t'] => tyP C t fun i => tyP C t' fun i' => (match i.td with
          | .slice e => tyP C e fun j => zeroOf j fun z => pchk (Nat.ble j.bytes 65536 && noInt i'.td && z.isN j.size) (rdF ny x fun v => rdF ny y fun u => appendA o.dst j v u K)
          | _ => .fail)
        | _, _ => .fail)
      | .builtin .max => (match c.args.toList with
        | [x, y] => rdcF ny x fun x => rdcF ny y fun y => .look _ (lAny x) fun (k, a) => .look _ (lInt y k) fun b => K (.c (.int k (cond (decide (a < b)) b a)))
        | _ => .fail)
      | .builtin .min => (match c.args.toList with
        | [x, y] => rdcF ny x fun x => rdcF ny y fun y => .look _ (lAny x) fun (k, a) => .look _ (lInt y k) fun b => K (.c (.int k (cond (decide (b < a)) b a)))
        | _ => .fail)
      | .builtin .clear => (match c.args.toList, c.argTypes.toList with
        | [x], t :: _ => tyP C t fun i => rdF ny x fun v => clearA C i v K
        | _, _ => .fail)
      | .builtin _ => .fail
      | .value f => rdF ny f fun f => rds ny c.args.toList fun args => callV C Q f args K
      | .invoke rv name => rdF ny rv fun v => rds ny c.args.toList fun args => (match v with
        | .c z => .look _ (lIfc z) fun (t, x) => invA C Q t (.c x) name args K
        | .ifc t x => invA C Q t x name args K
        | _ => .fail))
def evoGo (_ : Call) (C : Cfg) (Q : Orc) (ny : Bool) (all : List Oper) (o : Oper) (K : AV → Prog Unit) : Prog Unit := .fail
def evoDefer (_ : Call) (C : Cfg) (Q : Orc) (ny : Bool) (all : List Oper) (o : Oper) (K : AV → Prog Unit) : Prog Unit := .fail
def evoPanic (_ : Operand) (C : Cfg) (Q : Orc) (ny : Bool) (all : List Oper) (o : Oper) (K : AV → Prog Unit) : Prog Unit := .fail
def evoSend (_ : Operand) (_ : Operand) (C : Cfg) (Q : Orc) (ny : Bool) (all : List Oper) (o : Oper) (K : AV → Prog Unit) : Prog Unit := .fail
def evoRecv (_ : Nat) (_ : Operand) (_ : Bool) (C : Cfg) (Q : Orc) (ny : Bool) (all : List Oper) (o : Oper) (K : AV → Prog Unit) : Prog Unit := .fail
def evoSelect (_ : Array SelectCase) (_ : Bool) (C : Cfg) (Q : Orc) (ny : Bool) (all : List Oper) (o : Oper) (K : AV → Prog Unit) : Prog Unit := .fail
abbrev OpT := Cfg → Orc → Bool → List Oper → Oper → (AV → Prog Unit) → Prog Unit
def evOpF (C : Cfg) (Q : Orc) (ny : Bool) (all : List Oper) (o : Oper) (K : AV → Prog Unit) : Prog Unit := Op.rec (motive := fun _ => OpT) evoMove evoAssign evoPick evoAlloc evoBox evoBuild evoBuildSlice evoInsert evoLoad evoStore evoReady evoWaits evoNilCheck evoBinOp evoUnOp evoConvert evoSliceToArrayPointer evoMakeInterface evoMakeFunc evoMakeMap evoMakeChan evoMakeSlice evoSlice evoFieldAddr evoField evoIndexAddr evoIndex evoLookup evoMapUpdate evoMapEntry evoEntryStore evoRange evoNext evoEntry evoTypeAssert evoExtract evoCall evoGo evoDefer evoPanic evoSend evoRecv evoSelect o.op C Q ny all o K
theorem evOpF_eq (C : Cfg) (Q : Orc) (ny : Bool) (all : List Oper) (o : Oper) (K : AV → Prog Unit) : evOpF C Q ny all o K = evOp C Q ny all o K := by
  have h1 : rdF = rd (α := Unit) := by funext a b c; exact rdF_eq a b c
  have h2 : rdcF = rdc (α := Unit) := by funext a b c; exact rdcF_eq a b c
  unfold evOp evOpF
  cases o.op <;> first | rfl | (dsimp only; simp only [evoMove, evoAssign, evoPick, evoAlloc, evoBox, evoBuild, evoBuildSlice, evoInsert, evoLoad, evoStore, evoReady, evoWaits, evoNilCheck, evoBinOp, evoUnOp, evoConvert, evoSliceToArrayPointer, evoMakeInterface, evoMakeFunc, evoMakeMap, evoMakeChan, evoMakeSlice, evoSlice, evoFieldAddr, evoField, evoIndexAddr, evoIndex, evoLookup, evoMapUpdate, evoMapEntry, evoEntryStore, evoRange, evoNext, evoEntry, evoTypeAssert, evoExtract, evoCall, evoGo, evoDefer, evoPanic, evoSend, evoRecv, evoSelect, h1, h2]; done) | (dsimp only; simp only [evoMove, evoAssign, evoPick, evoAlloc, evoBox, evoBuild, evoBuildSlice, evoInsert, evoLoad, evoStore, evoReady, evoWaits, evoNilCheck, evoBinOp, evoUnOp, evoConvert, evoSliceToArrayPointer, evoMakeInterface, evoMakeFunc, evoMakeMap, evoMakeChan, evoMakeSlice, evoSlice, evoFieldAddr, evoField, evoIndexAddr, evoIndex, evoLookup, evoMapUpdate, evoMapEntry, evoEntryStore, evoRange, evoNext, evoEntry, evoTypeAssert, evoExtract, evoCall, evoGo, evoDefer, evoPanic, evoSend, evoRecv, evoSelect, h1, h2]; rfl)

def dstK (d : Option Nat) (v : AV) : Prog Unit := Option.rec (motive := fun _ => Prog Unit) (.ret ()) (fun d => .setE d v (.ret ())) d
def opPF (C : Cfg) (Q : Orc) (ny : Bool) (all : List Oper) (o : Oper) : Prog Unit := evOpF C Q ny all o (dstK o.dst)
theorem opPF_eq (C : Cfg) (Q : Orc) (ny : Bool) (all : List Oper) (o : Oper) : opPF C Q ny all o = opP C Q ny all o := by
  unfold opPF opP
  rw [evOpF_eq]
  congr 1
  funext v
  unfold dstK
  cases o.dst <;> rfl
section
variable {R : Type}
abbrev OpsT (R : Type) := Cfg → Orc → Bool → List Oper → S → O → List Log → (S → O → List Log → Option R) → Option R
def opsNil : OpsT R := fun _ _ _ _ s w logs K => K s w logs
/-- an operation that stands under a guard -/
def opsG (o : Oper) (ih : OpsT R) (g : Nat × Bool) : OpsT R := fun C Q ny all s w logs K => match guardDst all g.1 with
      | some d => (match s.env d with
        | some .un => runF (skipP o) s w ⟨[.slot d], []⟩ fun _ s w l => ih C Q ny all s w (l :: logs) K
        | some (.c x) => x.asB fun b => ifb b
          (let s := putF s d (.c (.bool true)); match g.2 with
            | true => runF (opPF C Q ny all o) s w ⟨[.slot d], []⟩ fun _ s w l => ih C Q ny all s w (l :: logs) K
            | false => runF (skipP o) s w ⟨[.slot d], []⟩ fun _ s w l => ih C Q ny all s w (l :: logs) K)
          (let s := putF s d (.c (.bool false)); match g.2 with
            | false => runF (opPF C Q ny all o) s w ⟨[.slot d], []⟩ fun _ s w l => ih C Q ny all s w (l :: logs) K
            | true => runF (skipP o) s w ⟨[.slot d], []⟩ fun _ s w l => ih C Q ny all s w (l :: logs) K)
        | _ => none)
      | none => none
def opsN (o : Oper) (ih : OpsT R) : OpsT R := fun C Q ny all s w logs K => runF (opPF C Q ny all o) s w ⟨[], []⟩ fun _ s w l => ih C Q ny all s w (l :: logs) K
def opsCons (o : Oper) (_ : List Oper) (ih : OpsT R) : OpsT R := Option.rec (motive := fun _ => OpsT R) (opsN o ih) (opsG o ih) o.guard
def evOpsF (C : Cfg) (Q : Orc) (ny : Bool) (all : List Oper) (l : List Oper) : S → O → List Log → (S → O → List Log → Option R) → Option R := List.rec (motive := fun _ => OpsT R) opsNil opsCons l C Q ny all
theorem evOpsF_eq (C : Cfg) (Q : Orc) (ny : Bool) (all : List Oper) : ∀ (l : List Oper) (s : S) (w : O) (logs : List Log) (K : S → O → List Log → Option R), evOpsF C Q ny all l s w logs K = evOps C Q ny all l s w logs K
  | [], s, w, logs, K => rfl
  | o :: r, s, w, logs, K => by
    have ih := evOpsF_eq C Q ny all r
    have hk : (fun (_ : Unit) (s : S) (w : O) (l : Log) => evOpsF C Q ny all r s w (l :: logs) K) = fun _ s w l => evOps C Q ny all r s w (l :: logs) K := by funext _ s w l; exact ih _ _ _ _
    unfold evOps
    show Option.rec (motive := fun _ => OpsT R) (opsN o (fun C Q ny all => evOpsF C Q ny all r)) (opsG o (fun C Q ny all => evOpsF C Q ny all r)) o.guard C Q ny all s w logs K = _
    cases o.guard with
    | none => show runF _ _ _ _ _ = _; rw [runF_eq, opPF_eq, hk]
    | some g =>
      obtain ⟨j, want⟩ := g
      simp only [opsG, runF_eq, opPF_eq, hk, putF_eq]
      rcases guardDst all j with _ | d
      · rfl
      · dsimp only
        rcases s.env d with _ | v
        · rfl
        · cases v <;> first | rfl | (cases want <;> rfl)
def evRegionF (C : Cfg) (Q : Orc) (fid : Nat) (id : Nat) (ops : Array Oper) (draw : Bool) (s : S) (w : O) (K : S → O → Option R) : Option R :=
  match C.join fid id with
  | some ts => (match evOpsF C Q (C.nily fid) ops.toList ops.toList s w [] fun s' _ logs => chk (slotsOnly logs) (logOk draw ops logs (cvs s' ts)) with
      | some xs => K (putCs (s.del ops.toList) ts xs) w
      | none => none)
  | none => evOpsF C Q (C.nily fid) ops.toList ops.toList s w [] fun s w logs => logOk draw ops logs (K s w)
theorem evRegionF_eq (C : Cfg) (Q : Orc) (fid id : Nat) (ops : Array Oper) (draw : Bool) (s : S) (w : O) (K : S → O → Option R) : evRegionF C Q fid id ops draw s w K = evRegion C Q fid id ops draw s w K := by
  unfold evRegionF evRegion
  simp only [evOpsF_eq]
  rfl
/-! ### Code -/
abbrev CodeT (R : Type) := Cfg → Orc → Nat → S → O → (Ex → S → O → Option R) → Option R
def cSkip : CodeT R := fun _ _ _ s w K => K .normal s w
def cRegion (id : Nat) (ops : Array Oper) (draw : Bool) : CodeT R := fun C Q fid s w K => evRegionF C Q fid id ops draw s w fun s w => K .normal s w
def kSeq (ih : CodeT R) (C : Cfg) (Q : Orc) (fid : Nat) (K : Ex → S → O → Option R) (e : Ex) (s : S) (w : O) : Option R :=
  Ex.rec (motive := fun _ => Option R) (ih C Q fid s w K) (fun j => K (.exit j) s w) (K .ret s w) (fun rs => K (.retv rs) s w) e
def kTwo (C : Cfg) (fid : Nat) (h : List (Nat × Nat) × List (Nat × List Nat) × List Nat) (gen : Nat) (K : Ex → S → O → Option R) (sA : S) (wA : O) (e : Ex) (sB : S) (wB : O) : Option R := match e with
  | .normal => meetT h gen sA wA sB wB (K .normal)
  | _ => none
def kOne (b : CodeT R) (C : Cfg) (Q : Orc) (fid : Nat) (p : Array Oper × List (Nat × Nat) × List (Nat × List Nat) × List Nat) (s : S) (w : O) (K : Ex → S → O → Option R) (e : Ex) (sA : S) (wA : O) : Option R := match e with
  | .normal => runIx C Q (C.nily fid) p.1 [0, 2, 1, 3] s w fun sB wB => b C Q fid sB wB (kTwo C fid p.2 s.gen K sA wA)
  | _ => none
def cTwo (b : CodeT R) (C : Cfg) (Q : Orc) (fid : Nat) (s : S) (w : O) (K : Ex → S → O → Option R) (p : Array Oper × List (Nat × Nat) × List (Nat × List Nat) × List Nat) : Option R := runIx C Q (C.nily fid) p.1 [0, 1, 2, 3] s w fun sA wA => b C Q fid sA wA (kOne b C Q fid p s w K)
def cSeq (x _ : Code) (a b : CodeT R) : CodeT R := fun C Q fid s w K => Option.rec (motive := fun _ => Option R) (a C Q fid s w (kSeq b C Q fid K)) (cTwo b C Q fid s w K) (chOf C fid x)
def cCond (c : Operand) (_ _ : Code) (a b : CodeT R) : CodeT R := fun C Q fid s w K => (match c with
    | .tmp t => (match s.env t with
      | some (.c x) => x.ifB (a C Q fid s w K) (b C Q fid s w K)
      | _ => none)
    | .const (.bool t) => ifb t (a C Q fid s w K) (b C Q fid s w K)
    | _ => none)
def cLoop (id : Nat) (b : Code) : CodeT R := fun C Q fid s w K => (match C.loop fid id with
    | some h => runF (frzAll C h.2.2) s w ⟨[], []⟩ fun _ s w _ => (match mkT s h with
      | some T => chk T.ok (runF T.back s w ⟨[], []⟩ fun _ s w _ => match T.out s with
        | some xs => (match Q.loop fid b id T xs w with
          | some r => conR (C.shl fid id) r fun r => (match r with
            | .brk ys w => K .normal (stF T s.gen ys) w
            | .exi j ys w => (match hasOut id b with | true => K (.exit j) (stF T s.gen ys) w | false => none)
            | .ret rs w => (match hasRet b with | true => K (.retv rs) (stF T s.gen []) w | false => none))
          | none => none)
        | none => none)
      | none => none)
    | none => none)
def kBlock (id : Nat) (K : Ex → S → O → Option R) (e : Ex) (s : S) (w : O) : Option R :=
  Ex.rec (motive := fun _ => Option R) (K .normal s w) (fun j => cond (Nat.beq j id) (K .normal s w) (K (.exit j) s w)) (K .ret s w) (fun rs => K (.retv rs) s w) e
def cBlk (id : Nat) (ih : CodeT R) : CodeT R := fun C Q fid s w K => ih C Q fid s w (kBlock id K)
def loopOf (b : Code) : Option Code := Code.rec (motive := fun _ => Option Code) none (fun _ _ _ => none) (fun _ _ _ _ => none) (fun _ _ _ _ _ => none) (fun _ _ _ => none) (fun b _ => some b) (fun _ _ _ _ _ _ => none) (fun _ => none) (fun _ _ => none) (fun _ => none) (fun _ => none) none (fun _ => none) b
def cBlock (id : Nat) (b : Code) (ih : CodeT R) : CodeT R := Option.rec (motive := fun _ => CodeT R) (cBlk id ih) (cLoop id) (loopOf b)
def cExit (j : Nat) : CodeT R := fun _ _ _ s w K => K (.exit j) s w
def cRet : CodeT R := fun _ _ _ s w K => K .ret s w
def cNo : CodeT R := fun _ _ _ _ _ _ => none
def evCodeF (C : Cfg) (Q : Orc) (fid : Nat) (c : Code) : S → O → (Ex → S → O → Option R) → Option R :=
  Code.rec (motive := fun _ => CodeT R) cSkip cRegion cSeq cCond cBlock (fun _ _ => cNo) (fun _ _ _ _ _ _ => cNo) cExit (fun _ ih => ih) (fun _ => cSkip) (fun _ => cNo) cRet (fun _ => cNo) c C Q fid
theorem kSeq_eq {ih : CodeT R} {C : Cfg} {Q : Orc} {fid : Nat} {b : Code} (h : ∀ s w K, ih C Q fid s w K = evCode C Q fid b s w K) (K : Ex → S → O → Option R) : kSeq ih C Q fid K = fun e s w => match e with
    | .normal => evCode C Q fid b s w K
    | .exit j => K (.exit j) s w
    | .ret => K .ret s w
    | .retv rs => K (.retv rs) s w := by
  funext e s w
  cases e <;> first | rfl | exact h s w K
theorem kBlock_eq (id : Nat) (K : Ex → S → O → Option R) : kBlock id K = fun e s w => match e with
    | .normal => K .normal s w
    | .exit j => cond (Nat.beq j id) (K .normal s w) (K (.exit j) s w)
    | .ret => K .ret s w
    | .retv rs => K (.retv rs) s w := by
  funext e s w
  cases e <;> rfl
theorem blkF_ok {C : Cfg} {Q : Orc} {fid : Nat} {b : Code} (id : Nat) (hb : loopOf b = none) (hb' : ∀ b', b ≠ .loop b') (h : ∀ (s : S) (w : O) (K : Ex → S → O → Option R), evCodeF C Q fid b s w K = evCode C Q fid b s w K) (s : S) (w : O) (K : Ex → S → O → Option R) :
    evCodeF C Q fid (.block id b) s w K = evCode C Q fid (.block id b) s w K := by
  show Option.rec (motive := fun _ => CodeT R) (cBlk id (fun C Q fid => evCodeF C Q fid b)) (cLoop id) (loopOf b) C Q fid s w K = _
  rw [hb, evCode_block hb']
  show evCodeF C Q fid b s w (kBlock id K) = _
  rw [h, kBlock_eq]
  all_goals rfl
theorem evCodeF_eq (C : Cfg) (Q : Orc) (fid : Nat) : ∀ (c : Code) (s : S) (w : O) (K : Ex → S → O → Option R), evCodeF C Q fid c s w K = evCode C Q fid c s w K
  | .skip, s, w, K => rfl
  | .region id ops draw, s, w, K => evRegionF_eq C Q fid id ops draw s w _
  | .seq a b, s, w, K => by
    show Option.rec (motive := fun _ => Option R) (evCodeF C Q fid a s w (kSeq (fun C Q fid => evCodeF C Q fid b) C Q fid K)) (cTwo (fun C Q fid => evCodeF C Q fid b) C Q fid s w K) (chOf C fid a) = _
    rw [evCodeF_eq C Q fid a, kSeq_eq (ih := fun C Q fid => evCodeF C Q fid b) (b := b) (fun s w K => evCodeF_eq C Q fid b s w K)]
    simp only [evCode]
    cases chOf C fid a with
    | none => rfl
    | some p =>
      obtain ⟨ops, h⟩ := p
      show runIx C Q (C.nily fid) ops [0, 1, 2, 3] s w (fun sA wA => evCodeF C Q fid b sA wA (kOne (fun C Q fid => evCodeF C Q fid b) C Q fid (ops, h) s w K)) = _
      congr 1
      funext sA wA
      rw [evCodeF_eq C Q fid b]
      congr 1
      funext e sA' wA'
      cases e <;> first | rfl | skip
      show runIx C Q (C.nily fid) ops [0, 2, 1, 3] s w (fun sB wB => evCodeF C Q fid b sB wB (kTwo C fid h s.gen K sA' wA')) = _
      congr 1
      funext sB wB
      rw [evCodeF_eq C Q fid b]
      first
        | done
        | rfl
        | (congr 1; funext e sB' wB'; cases e <;> rfl)
  | .cond c a b, s, w, K => by
    show (match c with
      | .tmp t => (match s.env t with
        | some (.c x) => x.ifB (evCodeF C Q fid a s w K) (evCodeF C Q fid b s w K)
        | _ => none)
      | .const (.bool t) => ifb t (evCodeF C Q fid a s w K) (evCodeF C Q fid b s w K)
      | _ => none) = _
    rw [evCodeF_eq C Q fid a, evCodeF_eq C Q fid b]
    rfl
  | .block id (.loop b), s, w, K => by
    show cLoop id b C Q fid s w K = _
    simp only [cLoop, evCode, runF_eq, stF_eq]
    rfl
  | .block id .skip, s, w, K => rfl
  | .block id (.region i ops draw), s, w, K => blkF_ok id rfl (fun _ h => by cases h) (evCodeF_eq C Q fid _) s w K
  | .block id (.seq a b), s, w, K => blkF_ok id rfl (fun _ h => by cases h) (evCodeF_eq C Q fid _) s w K
  | .block id (.cond c a b), s, w, K => blkF_ok id rfl (fun _ h => by cases h) (evCodeF_eq C Q fid _) s w K
  | .block id (.block i b), s, w, K => blkF_ok id rfl (fun _ h => by cases h) (evCodeF_eq C Q fid _) s w K
  | .block id (.rangeFunc f ts a b), s, w, K => rfl
  | .block id (.exit j), s, w, K => rfl
  | .block id (.scope b), s, w, K => blkF_ok id rfl (fun _ h => by cases h) (evCodeF_eq C Q fid _) s w K
  | .block id (.label l), s, w, K => blkF_ok id rfl (fun _ h => by cases h) (evCodeF_eq C Q fid _) s w K
  | .block id (.goto l), s, w, K => rfl
  | .block id .ret, s, w, K => rfl
  | .block id (.refuse _), s, w, K => rfl
  | .loop b, s, w, K => rfl
  | .rangeFunc f ts a b, s, w, K => rfl
  | .exit j, s, w, K => rfl
  | .scope b, s, w, K => by
    show evCodeF C Q fid b s w K = _
    rw [evCodeF_eq C Q fid b]
    rfl
  | .label l, s, w, K => rfl
  | .goto l, s, w, K => rfl
  | .ret, s, w, K => rfl
  | .refuse _, s, w, K => rfl
end
/-! ### Loops, functions -/
def evResF {R : Type} (C : Cfg) (fid : Nat) (l : List ResultVar) (s : S) (w : O) (K : List AV → O → Option R) : Option R := runF (resP C (C.res fid) l .ret) s w ⟨[], []⟩ fun xs _ w _ => K xs w
theorem evResF_eq {R : Type} (C : Cfg) (fid : Nat) (l : List ResultVar) (s : S) (w : O) (K : List AV → O → Option R) : evResF C fid l s w K = evRes C fid l s w K := by unfold evResF evRes; rw [runF_eq]
def kLoop (C : Cfg) (Q : Orc) (fid : Nat) (b : Code) (id : Nat) (T : Tmpl) (e : Ex) (s : S) (w : O) : Option LR := match e with
    | .ret => (match C.fn fid with | some fn => evResF C fid fn.results.toList s w fun rs w => some (.ret rs w) | none => none)
    | .retv rs => some (.ret rs w)
    | .normal => runF T.back s w ⟨[], []⟩ fun _ s w _ => runF (frzEnd (endsOf C fid id)) s w ⟨[], []⟩ fun _ s w _ => (match T.out s with | some ys => Q.loop fid b id T ys w | none => none)
    | .exit j => runF T.back s w ⟨[], []⟩ fun _ s w _ => runF (frzEnd (endsOf C fid id)) s w ⟨[], []⟩ fun _ s w _ => (match T.out s with | some ys => cond (Nat.beq j id) (some (.brk ys w)) (some (.exi j ys w)) | none => none)
def evLoopF (C : Cfg) (Q : Orc) (fid : Nat) (b : Code) (id : Nat) (T : Tmpl) (xs : List CV) (w : O) : Option LR := evCodeF C Q fid b (stF T 0 xs) w (kLoop C Q fid b id T)
theorem evLoopF_eq (C : Cfg) (Q : Orc) (fid : Nat) (b : Code) (id : Nat) (T : Tmpl) (xs : List CV) (w : O) : evLoopF C Q fid b id T xs w = evLoop C Q fid b id T xs w := by
  unfold evLoopF evLoop
  rw [evCodeF_eq, stF_eq]
  congr 1
  funext e s w
  cases e <;> simp only [kLoop, runF_eq, evResF_eq] <;> rfl
def kBody (C : Cfg) (f : Nat) (n : Nat) (fn : Func) (e : Ex) (s : S) (w' : O) : Option (AV × O) := match e with
      | .exit _ => none
      | .retv rs => evEnd C fn n rs w' fun r w' => some (r, w')
      | _ => evResF C f fn.results.toList s w' fun rs w' => evEnd C fn n rs w' fun r w' => some (r, w')
def evBodyF (C : Cfg) (Q : Orc) (f : Nat) (args : List AV) (w : O) : Option (AV × O) := match C.fn f with
  | some fn => (match fn.body with
    | some c => evCodeF C Q f c ⟨inArgsF 0 args, fun _ => none, 0⟩ w (kBody C f w.length fn)
    | none => none)
  | none => none
theorem evBodyF_eq (C : Cfg) (Q : Orc) (f : Nat) (args : List AV) (w : O) : evBodyF C Q f args w = evBody C Q f args w := by
  unfold evBodyF evBody
  cases C.fn f with
  | none => rfl
  | some fn =>
    dsimp only
    cases fn.body with
    | none => rfl
    | some c =>
      dsimp only
      rw [evCodeF_eq, inArgsF_eq]
      congr 1
      funext e s w
      cases e <;> simp only [kBody, evResF_eq]
def orcF (C : Cfg) : Nat → Orc
  | 0 => ⟨fun _ _ => none, fun _ _ _ => none, fun _ _ _ _ _ _ => none⟩
  | n + 1 => ⟨fun f xs => match prmOf C f xs with | some r => some r | none => cond (C.two f) (runTwo (fun xs => closed (evBodyF C (orcF C n) f (xs.map AV.c) [])) xs) (closed (evBodyF C (orcF C n) f (xs.map AV.c) [])),
      fun f as_ w => cond (C.two f) (runTwoA (fun xs w => evBodyF C (orcF C n) f xs w) as_ w) (evBodyF C (orcF C n) f as_ w),
      fun f b id T xs w => evLoopF C (orcF C n) f b id T xs w⟩
theorem orcF_eq (C : Cfg) : ∀ n, orcF C n = orc C n
  | 0 => rfl
  | n + 1 => by
    unfold orcF orc
    rw [orcF_eq C n]
    simp only [evBodyF_eq, evLoopF_eq]
    rfl
end
end Go.Ev
/- Tables of sixteen: what a kernel's run over the numbers says of every number. -/
namespace Go.Ev
open Go
theorem tab_lt {α : Type} {rows : List (List α)} {n : Nat} {x : α} (h : tab rows n = some x) : n < 16 * rows.length := by
  unfold tab at h
  split at h
  · rename_i r hr
    have := (List.getElem?_eq_some_iff.mp hr).1
    omega
  · cases h
theorem tab_mem {α : Type} {rows : List (List α)} {n : Nat} {x : α} (h : tab rows n = some x) : x ∈ rows.flatten := by
  unfold tab at h
  split at h
  · rename_i r hr
    exact List.mem_flatten.mpr ⟨r, List.mem_of_getElem? hr, List.mem_of_getElem? h⟩
  · cases h
theorem range_same {β : Type} {f g : Nat → β} {n : Nat} (h : (List.range n).map f = (List.range n).map g) {k : Nat} (hk : k < n) : f k = g k := by
  have := congrArg (fun l => l[k]?) h
  simp only [List.getElem?_map, List.getElem?_range hk, Option.map_some] at this
  injection this
theorem clo_of [Glob] {C : Cfg} {n f : Nat} {xs : List CV} {r : CV} (hp : prmOf C f xs = none) (h2 : C.two f = false) (h : closed (evBodyF C (orcF C n) f (xs.map AV.c) []) = some r) : (orcF C (n + 1)).clo f xs = some r := by
  show (match prmOf C f xs with | some r => some r | none => cond (C.two f) (runTwo (fun xs => closed (evBodyF C (orcF C n) f (xs.map AV.c) [])) xs) (closed (evBodyF C (orcF C n) f (xs.map AV.c) []))) = some r
  rw [hp, h2]
  exact h
def goOk (fn : Func) : Bool := !(fn.name == "runtime.NumGoroutine") && match fn.body with | some c => codeOk fn.ntmps c | none => true
/-- What is known of the program, by the kernel's runs over its tables. -/
theorem ok_of [Glob] {P : Program} {C : Cfg} {types : List (List TypeInfo)} {funcs : List (List Func)} {n m : Nat} (h1 : C.ty = mkTI (tab types)) (h2 : C.fn = tab funcs) (hn : n = 16 * types.length) (hm : m = 16 * funcs.length)
    (hty : (List.range n).map (tab types) = (List.range n).map (fun t => P.info? t)) (hfn : (List.range m).map (tab funcs) = (List.range m).map (fun t => P.funcs[t]?))
    (hok : funcs.flatten.all goOk = true) (hmix : P.follows .mixedOrders = true) : Ok P C ∧ CodesOk C := by
  have key : ∀ f fn, tab funcs f = some fn → goOk fn = true := fun f fn h => List.all_eq_true.mp hok fn (tab_mem h)
  refine ⟨⟨?_, ?_, hmix⟩, ?_⟩
  · intro t i h
    rw [h1] at h
    exact mkTI_is (fun t i h => (range_same hty (by rw [hn]; exact tab_lt h)).symm.trans h) t i h
  · intro f fn h
    rw [h2] at h
    have k := key f fn h
    unfold goOk at k
    rw [Bool.and_eq_true] at k
    exact ⟨(range_same hfn (by rw [hm]; exact tab_lt h)).symm.trans h, by simpa using k.1⟩
  · intro f fn c h hc
    rw [h2] at h
    have k := key f fn h
    unfold goOk at k
    rw [Bool.and_eq_true, hc] at k
    exact k.2
end Go.Ev
/- From the interpreter's contract to what a row asks of a call: it returns true, and nothing that was there is turned. -/
namespace Go.Ev
open Go Go.RowKit
variable [Glob]
def immI (w : World) : Nat → Role := fun r => if r < w.heap.size then .imm else .no
theorem CloC.law {P : Program} {f : Nat} {xs : List CV} (h : CloC P f xs (.bool true)) (w : World) (args : List Value) (hb : Base w (immI w)) (hv : VRs w (immI w) xs args) :
    Calls P f args.toArray w fun e w' => e = .returned (.bool true) ∧ Below w.heap.size w w' := by
  refine Calls.mono (h w (immI w) args (fun r hr => ?_) (fun r => ?_) hb hv) ?_
  · unfold immI at hr; split at hr
    · assumption
    · exact absurd rfl hr
  · unfold immI; split <;> trivial
  · rintro e w' ⟨v, J, he, _, _, _, hx, hv⟩
    cases hv
    exact ⟨he, hx.os, hx.tape, hx.output, hx.size, fun k hk => (hx.block k hk (fun j e => by unfold immI at e; rw [if_pos hk] at e; cases e) (fun n j e => by unfold immI at e; rw [if_pos hk] at e; cases e)).1⟩
theorem immI_lt {w : World} {r : Nat} (h : r < w.heap.size) : immI w r = .imm := if_pos h
/-- A table of numbers holds them. -/
theorem memAt_tab {w : World} {g : Nat} {k : IntKind} {zs : List Int} (h : ∀ i, i < zs.length → w.cell? ⟨g, i, none⟩ = some (.int k (zs.getD i 0))) : MemAt w g 0 (zs.map fun z => Value.int k z) := fun i v hv => by
  rw [List.getElem?_map, Option.map_eq_some_iff] at hv
  obtain ⟨z, hz, rfl⟩ := hv
  obtain ⟨hi, hz'⟩ := List.getElem?_eq_some_iff.mp hz
  rw [Nat.zero_add]
  refine ⟨?_, rfl⟩
  rw [h i hi, List.getD_eq_getElem?_getD, hz]; rfl
theorem vrs_tab {w : World} {I : Nat → Role} {k : IntKind} : ∀ (zs : List Int), VRs w I (zs.map fun z => CV.int k z) (zs.map fun z => Value.int k z)
  | [] => .nil
  | z :: zs => .cons _ _ _ _ (.int k z) (vrs_tab zs)
theorem block_lt {w : World} {g i : Nat} {v : Value} (h : w.cell? ⟨g, i, none⟩ = some v) : g < w.heap.size := by
  apply Classical.byContradiction
  intro hn
  have : w.heap[g]? = none := Array.getElem?_eq_none (by omega)
  unfold World.cell? at h
  simp [this] at h
end Go.Ev
/- A function's first pieces of code apart: what they ask of other functions is put in their place. -/
namespace Go.Ev
open Go
noncomputable section
variable [Glob] {R : Type}
/-- n pieces of a row of code; then N takes the rest -/
def evPre (C : Cfg) (Q : Orc) (fid : Nat) : Nat → Code → S → O → (Code → S → O → Option R) → (Ex → S → O → Option R) → Option R
  | n + 1, .seq a b, s, w, N, K => match chOf C fid a with
    | some _ => N (.seq a b) s w
    | none => evCode C Q fid a s w fun e s w => match e with
      | .normal => evPre C Q fid n b s w N K
      | .exit j => K (.exit j) s w
      | .ret => K .ret s w
      | .retv rs => K (.retv rs) s w
  | _, c, s, w, N, _ => N c s w
theorem evPre_eq (C : Cfg) (Q : Orc) (fid : Nat) (K : Ex → S → O → Option R) : ∀ (n : Nat) (c : Code) (s : S) (w : O), evPre C Q fid n c s w (fun c s w => evCode C Q fid c s w K) K = evCode C Q fid c s w K
  | 0, c, s, w => by unfold evPre; cases c <;> rfl
  | n + 1, .seq a b, s, w => by
    unfold evPre
    cases hc : chOf C fid a with
    | some p => rfl
    | none =>
      simp only [evCode, hc]
      congr 1
      funext e s' w'
      cases e with
      | normal => exact evPre_eq C Q fid K n b s' w'
      | _ => rfl
  | n + 1, .skip, s, w => rfl
  | n + 1, .region _ _ _, s, w => rfl
  | n + 1, .cond _ _ _, s, w => rfl
  | n + 1, .block _ _, s, w => rfl
  | n + 1, .loop _, s, w => rfl
  | n + 1, .rangeFunc _ _ _ _, s, w => rfl
  | n + 1, .exit _, s, w => rfl
  | n + 1, .scope _, s, w => rfl
  | n + 1, .label _, s, w => rfl
  | n + 1, .goto _, s, w => rfl
  | n + 1, .ret, s, w => rfl
  | n + 1, .refuse _, s, w => rfl
theorem body_pre {C : Cfg} {Q : Orc} {f : Nat} {fn : Func} {c : Code} (hf : C.fn f = some fn) (hb : fn.body = some c) (j : Nat) (args : List AV) (w : O) :
    evBodyF C Q f args w = evPre C Q f j c ⟨inArgsF 0 args, fun _ => none, 0⟩ w (fun c s w' => evCodeF C Q f c s w' (kBody C f w.length fn)) (kBody C f w.length fn) := by
  unfold evBodyF
  rw [hf]
  dsimp only
  rw [hb]
  dsimp only
  rw [evCodeF_eq]
  have e : (fun c s w' => evCodeF C Q f c s w' (kBody C f w.length fn)) = fun c s w' => evCode C Q f c s w' (kBody C f w.length fn) := by
    funext c s w'; exact evCodeF_eq C Q f c s w' _
  rw [e]
  exact (evPre_eq C Q f _ j c _ w).symm
/-- operations in two parts -/
theorem evOps_app (C : Cfg) (Q : Orc) (ny : Bool) (all : List Oper) (b : List Oper) (K : S → O → List Log → Option R) : ∀ (a : List Oper) (s : S) (w : O) (logs : List Log),
    evOps C Q ny all (a ++ b) s w logs K = evOps C Q ny all a s w logs fun s w logs => evOps C Q ny all b s w logs K
  | [], s, w, logs => rfl
  | o :: r, s, w, logs => by
    have ih : ∀ l, (fun (_ : Unit) (s : S) (w : O) (l' : Log) => evOps C Q ny all (r ++ b) s w (l' :: l) K) = fun _ s w l' => evOps C Q ny all r s w (l' :: l) fun s w logs => evOps C Q ny all b s w logs K := by
      intro l; funext _ s w l'; exact evOps_app C Q ny all b K r s w _
    simp only [List.cons_append, evOps, ih]
theorem evOps_cut (C : Cfg) (Q : Orc) (ny : Bool) (all l : List Oper) (i : Nat) (K : S → O → List Log → Option R) (s : S) (w : O) (logs : List Log) :
    evOps C Q ny all l s w logs K = evOps C Q ny all (l.take i) s w logs fun s w logs => evOps C Q ny all (l.drop i) s w logs K := by
  rw [← evOps_app, List.take_append_drop]
theorem evCode_region {C : Cfg} {Q : Orc} {fid id : Nat} {ops : Array Oper} {d : Bool} {b : Code} (h : chOf C fid (.region id ops d) = none) (s : S) (w : O) (K : Ex → S → O → Option R) :
    evCode C Q fid (.seq (.region id ops d) b) s w K = evRegion C Q fid id ops d s w fun s w => evCode C Q fid b s w K := by
  simp only [evCode, h]
end
end Go.Ev
/- Memos: calls of closed values whose answers are known. -/
namespace Go.Ev
open Go
variable [Glob]
/-- the same arguments? the last ones first -/
def sameArgs : List CV → List CV → Bool
  | [], [] => true
  | a :: l, b :: k => sameArgs l k && sameCV 64 a b
  | _, _ => false
def lookT : List (List CV × CV) → List CV → Option CV
  | [], _ => none
  | e :: l, xs => match sameArgs e.1 xs with | true => some e.2 | false => lookT l xs
/-- by functions: arguments, answers -/
abbrev MT := List (Nat × List (List CV × CV))
def prmsOf (t : MT) : List (Nat × (List CV → Option CV)) := t.map fun p => (p.1, lookT p.2)
def AllE (Q : List CV → CV → Prop) : List (List CV × CV) → Prop
  | [] => True
  | e :: l => Q e.1 e.2 ∧ AllE Q l
def AllT (Q : Nat → List CV → CV → Prop) : MT → Prop
  | [] => True
  | p :: l => AllE (Q p.1) p.2 ∧ AllT Q l
/-- a call's answer -/
def Fact (P : Program) (C : Cfg) (f : Nat) (xs : List CV) (r : CV) : Prop := CloC P f xs r ∧ ∀ fn, C.fn f = some fn → resOk C fn (.c r) = true
theorem sameArgs_eq : ∀ {a b : List CV}, sameArgs a b = true → a = b
  | [], [], _ => rfl
  | [], _ :: _, h => by cases h
  | _ :: _, [], h => by cases h
  | a :: l, b :: k, h => by
    have h : (sameArgs l k && sameCV 64 a b) = true := h
    rw [Bool.and_eq_true] at h
    rw [sameArgs_eq h.1, sameCV_eq 64 a b h.2]
theorem lookT_ok {Q : List CV → CV → Prop} : ∀ {l : List (List CV × CV)} {xs : List CV} {r : CV}, AllE Q l → lookT l xs = some r → Q xs r
  | [], _, _, _, h => by cases h
  | e :: l, xs, r, hq, h => by
    unfold lookT at h
    split at h
    · rename_i he
      injection h with h
      subst h
      rw [← sameArgs_eq he]
      exact hq.1
    · exact lookT_ok hq.2 h
theorem lookP_ok {Q : Nat → List CV → CV → Prop} : ∀ {t : MT} {f : Nat} {p : List CV → Option CV} {xs : List CV} {r : CV}, AllT Q t → List.lookup f (prmsOf t) = some p → p xs = some r → Q f xs r
  | [], _, _, _, _, _, h, _ => by cases h
  | q :: t, f, p, xs, r, hq, h, hx => by
    have h1 : List.lookup f ((q.1, lookT q.2) :: prmsOf t) = some p := h
    unfold List.lookup at h1
    split at h1
    · rename_i he
      obtain rfl : f = q.1 := eq_of_beq he
      injection h1 with h1
      subst h1
      exact lookT_ok hq.1 hx
    · exact lookP_ok hq.2 h1 hx
omit [Glob] in
theorem resOk_eq {C D : Cfg} (ht : C.ty = D.ty) (fn : Func) (r : AV) : resOk C fn r = resOk D fn r := by
  unfold resOk plainRes
  rw [ht]
theorem memo_ok {P : Program} {C D : Cfg} {t : MT} (hp : ∀ f, C.prm f = List.lookup f (prmsOf t)) (hf : C.fn = D.fn) (ht : C.ty = D.ty) (h : AllT (Fact P D) t) : PrmOk P C := fun f p xs r h1 h2 => by
  rw [hp] at h1
  obtain ⟨k1, k2⟩ := lookP_ok h h1 h2
  exact ⟨k1, fun fn hfn => by rw [resOk_eq ht]; exact k2 fn (by rw [← hf]; exact hfn)⟩
theorem memo_fact {P : Program} {C D : Cfg} (hP : Ok P C) (hc : CodesOk C) (hprm : PrmOk P C) (hf : C.fn = D.fn) (ht : C.ty = D.ty) {n f : Nat} {xs : List CV} {r : CV} (h : (orcF C n).clo f xs = some r) : Fact P D f xs r := by
  rw [orcF_eq] at h
  obtain ⟨k1, k2⟩ := (orc_ok hP hc hprm n).f.clo f xs r h
  exact ⟨k1, fun fn hfn => by rw [← resOk_eq ht]; exact k2 fn (by rw [hf]; exact hfn)⟩
end Go.Ev
/- Arguments: what is read of them as data, as closed values. -/
namespace Go.Ev
open Go Go.RowKit Go.ChangeShapes Go.WideShapes Go.Deep
variable [Glob]
/-- cells of a type of plain data -/
inductive WT (P : Program) : Nat → List CV → Prop where
  | bool (t : Nat) (b : Bool) : P.underlying t = some .bool → WT P t [.bool b]
  | int (t : Nat) (k : IntKind) (n : Int) : P.underlying t = some (.int k) → (Lit.int k n).wf = true → WT P t [.int k n]
  | str (t : Nat) (s : ByteArray) : P.underlying t = some .string → s.size ≤ maxLen → WT P t [.str s]
  | nil (t e : Nat) : P.underlying t = some (.slice e) → WT P t [.nils]
  | em (t e : Nat) : P.underlying t = some (.slice e) → WT P t [.em]
  | sl (t e : Nat) (xs : List CV) : P.underlying t = some (.slice e) → (∀ x, x ∈ xs → WT P e x.cells) → xs.length ≤ maxLen → WT P t [.im xs]
  | st (t : Nat) (fs : Array Field) (cs : List CV) : P.underlying t = some (.struct fs) → cs.length = P.cellsOf t → (∀ f, f ∈ fs.toList → WT P f.type ((cs.drop f.offset).take (P.cellsOf f.type))) → WT P t cs
/-- an argument that is a number, a bool, a string -/
theorem vr_int {w : World} {k : IntKind} (n : Int) : VR w (immI w) (.int k n) (.int k n) := .int k n
variable {H : Type} {enc : TypeId × Value → H} {P : Program} {w : World} {spare : Nat → Bool} {held : Bool}
/-- where a slice that is handed in lies -/
theorem slice_at {t e base : Nat} {r : Reach} {v : Value} (ht : P.underlying t = some (.slice e)) (hval : Value.okWide P w r base t v) : ∀ a len cap, v = .slice (some a) len cap → a.spot = none ∧ a.block < w.heap.size := by
  rintro a len cap rfl
  unfold Value.okWide at hval
  rw [ht] at hval
  have hval : Cell.okWide P w r base t (.slice (some a) len cap) := hval
  unfold Cell.okWide at hval
  rw [ht] at hval
  have hval : Cell.ok P w r base t (.slice (some a) len cap) := hval
  unfold Cell.ok at hval
  rw [ht] at hval
  obtain ⟨_, _, _, h2, row, cells, h3, _⟩ := hval
  refine ⟨h2, ?_⟩
  apply Classical.byContradiction
  intro hn
  have : w.heap[a.block]? = none := Array.getElem?_eq_none (by omega)
  unfold World.shape? at h3
  rw [this] at h3
  cases h3
/-- a slice of numbers that is handed in, its address without a map's entry -/
theorem vr_ints {t e : Nat} {k : IntKind} {fuel : Nat} {v : Value} {x : DataW H × List MemPlace} (ht : P.underlying t = some (.slice e)) (he : P.underlying e = some (.int k)) (hc : P.cellsOf e = 1)
    (hsp : ∀ a len cap, v = .slice (some a) len cap → a.spot = none ∧ a.block < w.heap.size) (h : DataW.trod enc P w 0 spare held fuel t [v] = some x) : ∃ l : List Int, VR w (immI w) (.im (l.map (CV.int k))) v ∧ WT P t [.im (l.map (CV.int k))] := by
  rcases open_slice1 ht hc h with ⟨h1, _⟩ | ⟨a, len, cap, m, n, V, D, Pl, h1, _, h3, h4, h5, _, h7⟩
  · injection h1 with h1
    subst h1
    exact ⟨[], .im0, .sl t e [] ht (fun x hx => by simp at hx) (Nat.zero_le _)⟩
  · injection h1 with h1
    subst h1
    obtain ⟨hs, hb⟩ := hsp a len cap rfl
    have hm : len ≤ m := by rw [h5]; split <;> omega
    have hint : ∀ i, i < len → ∃ z : Int, V i = .int k z ∧ (Lit.int k z).wf = true := fun i hi => by
      obtain ⟨_, h8⟩ := h7 i (by omega)
      cases n with
      | zero => simp [DataW.trod] at h8
      | succ n =>
        unfold DataW.trod at h8
        rw [he] at h8
        generalize V i = u at h8
        cases u <;> simp_all
    obtain ⟨Z, hZ⟩ := Classical.skolem.mp (fun i : Nat => (by
      by_cases hi : i < len
      · obtain ⟨z, hz⟩ := hint i hi
        exact ⟨z, fun _ => hz⟩
      · exact ⟨0, fun h => absurd h hi⟩ : ∃ z : Int, i < len → V i = .int k z ∧ (Lit.int k z).wf = true))
    suffices h0 : VR w (immI w) (.im ((List.range len).map fun i => .int k (Z i))) (.slice (some a) len cap) ∧ WT P t [.im ((List.range len).map fun i => .int k (Z i))] from ⟨(List.range len).map Z, by rw [List.map_map]; exact h0⟩
    refine ⟨?_, .sl t e _ ht (fun x hx => ?_) (by simp; omega)⟩
    · obtain ⟨ab, ao, as_⟩ := a
      have hs : as_ = none := hs
      subst hs
      have hfl : ((List.range len).map fun i => CV.int k (Z i)).flatMap CV.cells = (List.range len).map fun i => CV.int k (Z i) := flats_cells (by simp [CV.flat])
      have := VR.im (w := w) (I := immI w) ((List.range len).map fun i => .int k (Z i)) ab ao cap 1 ((List.range len).map fun i => .int k (Z i)) (by
        rw [hfl]
        refine VRs.of_get (by simp) fun i x v hx hv => ?_
        rw [List.getElem?_map] at hx hv
        cases hr : (List.range len)[i]? with
        | none => rw [hr] at hx; cases hx
        | some j =>
          rw [hr] at hx hv
          injection hx with hx; injection hv with hv
          subst hx; subst hv
          exact .int _ _) (fun x hx => by
          obtain ⟨i, _, rfl⟩ := List.mem_map.mp hx
          rfl) (by rw [immI_lt hb]; trivial) (fun i v hv => by
          rw [List.getElem?_map] at hv
          cases hr : (List.range len)[i]? with
          | none => rw [hr] at hv; cases hv
          | some j =>
            have hlt := (List.getElem?_eq_some_iff.mp hr).1
            rw [List.length_range] at hlt
            rw [List.getElem?_range hlt] at hr
            injection hr with hr; subst hr
            rw [List.getElem?_range hlt] at hv
            injection hv with hv; subst hv
            obtain ⟨h8, _⟩ := h7 i (by omega)
            rw [(hZ i hlt).1, add_at] at h8
            exact ⟨h8, rfl⟩) (by simpa using h3)
      simpa using this
    · obtain ⟨i, hi, rfl⟩ := List.mem_map.mp hx
      exact .int e k (Z i) he (hZ i (by simpa using hi)).2
/-- the same, of an argument -/
theorem vr_intl {t e : Nat} {k : IntKind} {v : Value} {d : DataW H} {ps : List MemPlace} (ht : P.underlying t = some (.slice e)) (he : P.underlying e = some (.int k)) (hc : P.cellsOf e = 1)
    {base : Nat} {r : Reach} (hval : Value.okWide P w r base t v) (h : DataW.Trod enc P w 0 spare held t v d ps) : ∃ l : List Int, VR w (immI w) (.im (l.map (CV.int k))) v := by
  obtain ⟨a, len, cap, rfl⟩ := okWide_slice ht hval
  obtain ⟨fuel, hf⟩ := h
  have hf : DataW.trod enc P w 0 spare held fuel t [.slice a len cap] = some (d, ps) := hf
  obtain ⟨l, h1, _⟩ := vr_ints ht he hc (slice_at ht hval) hf
  exact ⟨l, h1⟩
end Go.Ev
/- Arguments of plain data, whatever their type. -/
namespace Go.Ev
open Go Go.RowKit Go.ChangeShapes Go.Deep
variable [Glob]
/-- fields one behind the other, from o to n -/
def coverB (P : Program) : Nat → List Field → Nat → Bool
  | o, [], n => Nat.beq o n
  | o, f :: l, n => Nat.beq f.offset o && coverB P (o + P.cellsOf f.type) l n
/-- numbers, bools, strings, slices and structs of them -/
def plainB (P : Program) : Nat → Nat → Bool
  | 0, _ => false
  | m + 1, t => match P.underlying t with
    | some .bool => Nat.beq (P.cellsOf t) 1
    | some (.int _) => Nat.beq (P.cellsOf t) 1
    | some .string => Nat.beq (P.cellsOf t) 1
    | some (.slice e) => Nat.beq (P.cellsOf t) 1 && Nat.blt 0 (P.cellsOf e) && plainB P m e
    | some (.struct fs) => coverB P 0 fs.toList (P.cellsOf t) && fs.toList.all fun f => plainB P m f.type
    | _ => false
variable {H : Type} {enc : TypeId × Value → H} {P : Program} {w : World} {spare : Nat → Bool} {held : Bool}
/-- parts of a row of cells -/
theorem parts_vrs {I : Nat → Role} {cs : List Value} {n : Nat} (hn : cs.length = n) : ∀ (fs : List Field) (o : Nat), coverB P o fs n = true →
    (∀ f, f ∈ fs → ∃ ys, VRs w I ys ((cs.drop f.offset).take (P.cellsOf f.type)) ∧ WT P f.type ys ∧ Flat ((cs.drop f.offset).take (P.cellsOf f.type))) →
    ∃ zs, VRs w I zs (cs.drop o) ∧ Flat (cs.drop o) ∧ ∀ f, f ∈ fs → o ≤ f.offset ∧ WT P f.type ((zs.drop (f.offset - o)).take (P.cellsOf f.type))
  | [], o, h, _ => by
    have : o = n := Nat.eq_of_beq_eq_true h
    rw [List.drop_eq_nil_of_le (by omega)]
    exact ⟨[], .nil, Flat.nil, fun f hf => by simp at hf⟩
  | f :: l, o, h, hp => by
    have h : (Nat.beq f.offset o && coverB P (o + P.cellsOf f.type) l n) = true := h
    rw [Bool.and_eq_true] at h
    have ho : f.offset = o := Nat.eq_of_beq_eq_true h.1
    obtain ⟨ys, h1, h2, h7⟩ := hp f (by simp)
    obtain ⟨zs, h3, h8, h4⟩ := parts_vrs hn l _ h.2 fun g hg => hp g (by simp [hg])
    have hyl : ys.length = P.cellsOf f.type ∨ zs = [] := by
      have := h1.length
      by_cases hz : o + P.cellsOf f.type ≤ cs.length
      · left; rw [this, List.length_take, List.length_drop]; omega
      · right
        have := h3.length
        rw [List.drop_eq_nil_of_le (by omega)] at this
        exact List.eq_nil_of_length_eq_zero (by simpa using this)
    refine ⟨ys ++ zs, ?_, ?_, fun g hg => ?_⟩
    · have e : cs.drop o = (cs.drop f.offset).take (P.cellsOf f.type) ++ cs.drop (o + P.cellsOf f.type) := by
        rw [ho, ← List.drop_drop, List.take_append_drop]
      rw [e]
      exact h1.append h3
    · have e : cs.drop o = (cs.drop f.offset).take (P.cellsOf f.type) ++ cs.drop (o + P.cellsOf f.type) := by
        rw [ho, ← List.drop_drop, List.take_append_drop]
      rw [e]
      exact h7.append h8
    · rcases List.mem_cons.mp hg with rfl | hg
      · refine ⟨by omega, ?_⟩
        rw [ho, Nat.sub_self, List.drop_zero]
        have : (ys ++ zs).take (P.cellsOf g.type) = ys := by
          rcases hyl with hyl | hyl
          · rw [← hyl]; simp
          · subst hyl
            rw [List.append_nil, List.take_of_length_le]
            rw [h1.length, List.length_take]; omega
        rw [this]; exact h2
      · obtain ⟨h5, h6⟩ := h4 g hg
        refine ⟨by omega, ?_⟩
        rcases hyl with hyl | hyl
        · rw [show g.offset - o = ys.length + (g.offset - (o + P.cellsOf f.type)) by omega, ← List.drop_drop]
          simpa using h6
        · subst hyl
          have hy : ys.length ≤ P.cellsOf f.type := by rw [h1.length, List.length_take]; omega
          rw [List.append_nil, List.drop_eq_nil_of_le (by omega)]
          simpa using h6
theorem cells_many {a : Addr} {c : Nat} {cs : List Value} (h : w.cells? 0 a c = some cs) : cs.length = c ∧ ∀ i v, cs[i]? = some v → w.cell? (a.add i) = some v := by
  obtain ⟨_, hl, hc⟩ := World.cells?_some h
  refine ⟨hl, fun i v hv => ?_⟩
  have hi : i < c := by rw [← hl]; exact (List.getElem?_eq_some_iff.mp hv).1
  have := hc i hi
  rw [hv] at this
  exact this
/-- an element, of its cells -/
theorem el_of {t : Nat} {ys : List CV} (h : WT P t ys) : ∃ x : CV, x.cells = ys := by
  cases h with
  | st fs cs _ _ _ => exact ⟨.ag ys, rfl⟩
  | bool _ b _ => exact ⟨.bool b, rfl⟩
  | int _ k n _ _ => exact ⟨.int k n, rfl⟩
  | str _ s _ _ => exact ⟨.str s, rfl⟩
  | nil _ _ _ => exact ⟨.nils, rfl⟩
  | em _ _ _ => exact ⟨.em, rfl⟩
  | sl _ _ xs _ _ _ => exact ⟨.im xs, rfl⟩
theorem flat_at {f : Nat → List Value} {c : Nat} (hc : 0 < c) : ∀ (len : Nat), (∀ i, i < len → (f i).length = c) → ((List.range len).flatMap f).length = len * c ∧ ∀ q, q < len * c → ((List.range len).flatMap f)[q]? = (f (q / c))[q % c]?
  | 0, _ => ⟨by simp, fun q hq => by omega⟩
  | len + 1, h => by
    obtain ⟨h1, h2⟩ := flat_at hc len fun i hi => h i (by omega)
    have e : (List.range (len + 1)).flatMap f = (List.range len).flatMap f ++ f len := by rw [List.range_succ, List.flatMap_append]; simp
    rw [e]
    refine ⟨by rw [List.length_append, h1, h len (by omega), Nat.succ_mul], fun q hq => ?_⟩
    rw [Nat.succ_mul] at hq
    by_cases hql : q < len * c
    · rw [List.getElem?_append_left (by omega)]
      exact h2 q hql
    · rw [List.getElem?_append_right (by omega), h1]
      have hd : q / c = len := by
        rw [Nat.div_eq_iff hc]
        have : (len + 1) * c = len * c + c := Nat.succ_mul _ _
        omega
      have hm : q % c = q - len * c := by
        have := Nat.div_add_mod q c
        rw [hd, Nat.mul_comm] at this
        omega
      rw [hd, hm]
/-- cells that are read as plain data are closed values; an inner slice without room may lie anywhere: hZ -/
theorem trod_vrs : ∀ (m n t : Nat) (cs : List Value) (x : DataW H × List MemPlace), DataW.trod enc P w 0 (fun _ => true) held n t cs = some x → plainB P m t = true →
    ∃ ys, VRs w (immI w) ys cs ∧ WT P t ys ∧ Flat cs
  | _, 0, _, _, _, h, _ => by simp [DataW.trod] at h
  | 0, _ + 1, _, _, _, _, h => by cases h
  | m + 1, n + 1, t, cs, x, h, hp => by
    unfold plainB at hp
    split at hp
    · rename_i ht
      unfold DataW.trod at h
      rw [ht] at h
      split at h <;> try (simp_all; done)
      rename_i b _
      exact ⟨[.bool b], .cons _ _ _ _ (.bool b) .nil, .bool t b ht, Flat.nil.cons rfl⟩
    · rename_i k ht
      unfold DataW.trod at h
      rw [ht] at h
      split at h <;> try (simp_all; done)
      rename_i k0 k' z e1
      injection e1 with e1; injection e1 with e1; subst e1
      split at h
      · rename_i hk
        obtain ⟨rfl, hw⟩ := hk
        exact ⟨[.int _ z], .cons _ _ _ _ (.int _ z) .nil, .int t _ z ht hw, Flat.nil.cons rfl⟩
      · cases h
    · rename_i ht
      unfold DataW.trod at h
      rw [ht] at h
      split at h <;> try (simp_all; done)
      rename_i s _
      split at h
      · rename_i hs
        exact ⟨[.str s], .cons _ _ _ _ (.str s) .nil, .str t s ht hs, Flat.nil.cons rfl⟩
      · cases h
    · rename_i e ht
      rw [Bool.and_eq_true, Bool.and_eq_true] at hp
      obtain ⟨⟨_, hc0⟩, hpe⟩ := hp
      have hc0 : 0 < P.cellsOf e := Nat.blt_eq.mp hc0
      rcases open_slice ht h with ⟨rfl, _⟩ | ⟨a, len, cap, M, n1, D, Pl, rfl, _, hlc, hcm, hM, _, hx⟩
      · exact ⟨[.im []], .cons _ _ _ _ .im0 .nil, .sl t e [] ht (fun x hx => by simp at hx) (Nat.zero_le _), Flat.nil.cons rfl⟩
      · have hM : M = cap := by simpa using hM
        subst hM
        by_cases hcap : M = 0
        · subst hcap
          obtain rfl : len = 0 := by omega
          exact ⟨[.im []], .cons _ _ _ _ (.imz a) .nil, .sl t e [] ht (fun x hx => by simp at hx) (Nat.zero_le _), Flat.nil.cons rfl⟩
        · have hel : ∀ i, i < M → ∃ p : CV × List Value, w.cells? 0 (a.add (i * P.cellsOf e)) (P.cellsOf e) = some p.2 ∧ VRs w (immI w) p.1.cells p.2 ∧ WT P e p.1.cells ∧ Flat p.2 := fun i hi => by
            obtain ⟨cs', h1, h2⟩ := hx i hi
            obtain ⟨ys, h3, h4, h5⟩ := trod_vrs m n1 e cs' _ h2 hpe
            obtain ⟨y, rfl⟩ := el_of h4
            exact ⟨(y, cs'), h1, h3, h4, h5⟩
          obtain ⟨f, hf⟩ := choose_lt hel
          have hspot : a.spot = none ∧ a.block < w.heap.size := by
            obtain ⟨h1, _, _, _⟩ := hf 0 (by omega)
            obtain ⟨hl, hc⟩ := cells_many h1
            have := hc 0 ((f 0).2[0]'(by omega)) (List.getElem?_eq_getElem (by omega))
            rw [Nat.zero_mul] at this
            unfold World.cell? at this
            split at this
            · rename_i c _ _ hh
              split at this
              · cases this
              · rename_i hs
                have e0 : ((a.add 0).add 0).spot = a.spot := by simp [Addr.add]
                have e1 : ((a.add 0).add 0).block = a.block := by simp [Addr.add]
                rw [e0] at hs
                rw [e1] at hh
                exact ⟨by simpa using hs, (Array.getElem?_eq_some_iff.mp hh).1⟩
            · cases this
          obtain ⟨ab, ao, as_⟩ := a
          obtain ⟨hs, hb⟩ := hspot
          have hs : as_ = none := hs
          subst hs
          refine ⟨[.im ((List.range len).map fun i => (f i).1)], .cons _ _ _ _ ?_ .nil, .sl t e _ ht (fun x hx => ?_) (by simp; omega), Flat.nil.cons rfl⟩
          · have := VR.im (w := w) (I := immI w) ((List.range len).map fun i => (f i).1) ab ao M (P.cellsOf e) ((List.range len).flatMap fun i => (f i).2) (by
              rw [List.flatMap_map]
              have : ∀ l : List Nat, (∀ i, i ∈ l → i < M) → VRs w (immI w) (l.flatMap fun i => (f i).1.cells) (l.flatMap fun i => (f i).2) := fun l => by
                induction l with
                | nil => intro _; exact .nil
                | cons i l ih =>
                  intro hl
                  rw [List.flatMap_cons, List.flatMap_cons]
                  exact (hf i (hl i (by simp))).2.1.append (ih fun j hj => hl j (by simp [hj]))
              exact this _ fun i hi => by have := List.mem_range.mp hi; omega) (fun x hx => by
              obtain ⟨i, hi, rfl⟩ := List.mem_map.mp hx
              have hi := List.mem_range.mp hi
              rw [(hf i (by omega)).2.1.length]
              exact (cells_many (hf i (by omega)).1).1) (by rw [immI_lt hb]; trivial) (fun q v hv => ?_) (by simpa using hlc)
            · simpa using this
            · have hlen : ∀ i, i ∈ List.range len → ((f i).2).length = P.cellsOf e := fun i hi => (cells_many (hf i (by have := List.mem_range.mp hi; omega)).1).1
              obtain ⟨hfl, hfa⟩ := flat_at (f := fun i => (f i).2) hc0 len fun i hi => hlen i (List.mem_range.mpr hi)
              have hq : q < len * P.cellsOf e := by
                have := (List.getElem?_eq_some_iff.mp hv).1
                omega
              have hi : q / P.cellsOf e < len := (Nat.div_lt_iff_lt_mul hc0).mpr hq
              have hv2 : ((f (q / P.cellsOf e)).2)[q % P.cellsOf e]? = some v := by
                rw [← hfa q hq]; exact hv
              obtain ⟨hl, hc⟩ := cells_many (hf (q / P.cellsOf e) (by omega)).1
              have := hc _ v hv2
              rw [add_at, add_at] at this
              refine ⟨?_, (hf (q / P.cellsOf e) (by omega)).2.2.2 _ v hv2⟩
              have e2 : ao + q / P.cellsOf e * P.cellsOf e + q % P.cellsOf e = ao + q := by
                have := Nat.div_add_mod q (P.cellsOf e)
                rw [Nat.mul_comm] at this
                omega
              rw [e2] at this
              exact this
          · obtain ⟨i, hi, rfl⟩ := List.mem_map.mp hx
            have hi := List.mem_range.mp hi
            exact (hf i (by omega)).2.2.1
    · rename_i fs ht
      rw [Bool.and_eq_true] at hp
      obtain ⟨xs, n', e1, _, hl, hxl, hf⟩ := DataW.trod_struct ht h
      obtain rfl : n = n' := by omega
      obtain ⟨zs, h1, h2, h3⟩ := parts_vrs (w := w) (P := P) (I := immI w) hl fs.toList 0 hp.1 (fun f hf' => by
        obtain ⟨i, hi, rfl⟩ := List.getElem_of_mem hf'
        have hi' : i < fs.size := by simpa using hi
        have h4 := hf i (fs[i]) (Array.getElem?_eq_getElem hi')
        rw [List.getElem?_eq_getElem (by omega)] at h4
        have hpl : plainB P m (fs[i]).type = true := (List.all_eq_true.mp hp.2) _ (by simp)
        obtain ⟨ys, k1, k2, k3⟩ := trod_vrs m n _ _ _ h4 hpl
        exact ⟨ys, by simpa using k1, by simpa using k2, by simpa using k3⟩)
      refine ⟨zs, by simpa using h1, .st t fs zs ht ?_ (fun f hf' => by simpa using (h3 f hf').2), by simpa using h2⟩
      have := h1.length
      rw [this, List.drop_zero, hl]
    · cases hp
end Go.Ev
/- Arguments that are rows of bytes, rows of such rows. -/
namespace Go.Ev
open Go Go.RowKit Go.ChangeShapes Go.Deep
variable [Glob]
variable {H : Type} {enc : TypeId × Value → H} {P : Program} {w : World} {held : Bool}
/-- a slice whose elements are of one cell -/
theorem vr_slice1 {α : Type} [Inhabited α] (f : α → CV) (R : α → DataW H → Prop) {t e : Nat} {fuel : Nat} {v : Value} {d : DataW H} {ps : List MemPlace} (ht : P.underlying t = some (.slice e)) (hc : P.cellsOf e = 1)
    (hel : ∀ (n : Nat) (u : Value) (dd : DataW H) (pp : List MemPlace), DataW.trod enc P w 0 (fun _ => true) held n e [u] = some (dd, pp) → ∃ a, VR w (immI w) (f a) u ∧ R a dd ∧ (f a).cells = [f a] ∧ u.oneCell' = true)
    (h : DataW.trod enc P w 0 (fun _ => true) held fuel t [v] = some (d, ps)) :
    ∃ l : List α, VR w (immI w) (.im (l.map f)) v ∧ ((d = .nil ∧ l = []) ∨ ∃ (el sp : List (DataW H)), d = .slice el sp ∧ el.length = l.length ∧ ∀ (i : Nat) (a : α) (dd : DataW H), l[i]? = some a → el[i]? = some dd → R a dd) := by
  rcases open_slice1 ht hc h with ⟨h1, h2⟩ | ⟨a, len, cap, m, n, V, D, Pl, h1, _, h3, h4, h5, h6, h7⟩
  · injection h1 with h1
    subst h1
    injection h2 with h2 _
    exact ⟨[], .im0, .inl ⟨h2, rfl⟩⟩
  · injection h1 with h1
    subst h1
    injection h6 with h6 _
    have hm : m = cap := by simpa using h5
    subst hm
    by_cases hcap : m = 0
    · subst hcap
      obtain rfl : len = 0 := by omega
      exact ⟨[], .imz a, .inr ⟨_, _, h6, by simp, fun i a dd h => by simp at h⟩⟩
    · have hall : ∀ i, i < m → ∃ x : α, VR w (immI w) (f x) (V i) ∧ R x (D i) ∧ (f x).cells = [f x] ∧ (V i).oneCell' = true := fun i hi => hel _ _ _ _ (h7 i hi).2
      obtain ⟨Z, hZ⟩ := choose_lt hall
      have hspot : a.spot = none ∧ a.block < w.heap.size := by
        have h1 := (h7 0 (by omega)).1
        refine ⟨?_, by simpa [Addr.add] using World.block_lt_of_cell? w _ h1⟩
        unfold World.cell? at h1
        split at h1
        · split at h1
          · cases h1
          · rename_i hs
            have e0 : (a.add 0).spot = a.spot := by simp [Addr.add]
            rw [e0] at hs
            simpa using hs
        · cases h1
      obtain ⟨ab, ao, as_⟩ := a
      obtain ⟨hs, hb⟩ := hspot
      have hs : as_ = none := hs
      subst hs
      refine ⟨(List.range len).map Z, ?_, .inr ⟨_, _, h6, by simp, fun i x dd hx hd => ?_⟩⟩
      · have hfl : (((List.range len).map Z).map f).flatMap CV.cells = ((List.range len).map Z).map f := by
          have : ∀ l : List Nat, (∀ i, i ∈ l → i < m) → ((l.map Z).map f).flatMap CV.cells = (l.map Z).map f := fun l => by
            induction l with
            | nil => intro _; rfl
            | cons i l ih =>
              intro hl
              simp only [List.map_cons, List.flatMap_cons, (hZ i (hl i (by simp))).2.2.1]
              rw [ih fun j hj => hl j (by simp [hj])]
              rfl
          exact this _ fun i hi => by have := List.mem_range.mp hi; omega
        have := VR.im (w := w) (I := immI w) (((List.range len).map Z).map f) ab ao m 1 ((List.range len).map V) (by
          rw [hfl]
          refine VRs.of_get (by simp) fun i x v hx hv => ?_
          rw [List.map_map, List.getElem?_map] at hx
          rw [List.getElem?_map] at hv
          cases hr : (List.range len)[i]? with
          | none => rw [hr] at hx; cases hx
          | some j =>
            rw [hr] at hx hv
            injection hx with hx; injection hv with hv
            subst hx; subst hv
            have := List.mem_range.mp (List.mem_of_getElem? hr)
            exact (hZ j (by omega)).1) (fun x hx => by
          rw [List.map_map] at hx
          obtain ⟨i, hi, rfl⟩ := List.mem_map.mp hx
          have := List.mem_range.mp hi
          show (f (Z i)).cells.length = 1
          rw [(hZ i (by omega)).2.2.1]; rfl) (by rw [immI_lt hb]; trivial) (fun i v hv => by
          rw [List.getElem?_map] at hv
          cases hr : (List.range len)[i]? with
          | none => rw [hr] at hv; cases hv
          | some j =>
            have hlt := (List.getElem?_eq_some_iff.mp hr).1
            rw [List.length_range] at hlt
            rw [List.getElem?_range hlt] at hr
            injection hr with hr; subst hr
            rw [List.getElem?_range hlt] at hv
            injection hv with hv; subst hv
            obtain ⟨h8, _⟩ := h7 i (by omega)
            rw [add_at] at h8
            exact ⟨h8, (hZ i (by omega)).2.2.2⟩) (by simpa using h3)
        simpa using this
      · rw [List.getElem?_map] at hx hd
        cases hr : (List.range len)[i]? with
        | none => rw [hr] at hx; cases hx
        | some j =>
          rw [hr] at hx hd
          injection hx with hx; injection hd with hd
          subst hx; subst hd
          have := List.mem_range.mp (List.mem_of_getElem? hr)
          exact (hZ j (by omega)).2.1
/-- a reading of so many bytes -/
def BytesD (n : Nat) (d : DataW H) : Prop := (d = .nil ∧ n = 0) ∨ ∃ (el sp : List (DataW H)), d = .slice el sp ∧ el.length = n
omit [Glob] in
theorem u8_wf {z : Int} (h : (Lit.int .u8 z).wf = true) : 0 ≤ z ∧ z < 256 := by
  have h : (decide (IntKind.u8.min ≤ z) && decide (z ≤ IntKind.u8.max)) = true := h
  have e1 : IntKind.u8.min = 0 := rfl
  have e2 : IntKind.u8.max = 255 := rfl
  rw [Bool.and_eq_true, decide_eq_true_eq, decide_eq_true_eq, e1, e2] at h
  omega
/-- a row of bytes -/
theorem vr_bytes0 {t e : Nat} {fuel : Nat} {v : Value} {d : DataW H} {ps : List MemPlace} (ht : P.underlying t = some (.slice e)) (he : P.underlying e = some (.int .u8)) (hc : P.cellsOf e = 1)
    (h : DataW.trod enc P w 0 (fun _ => true) held fuel t [v] = some (d, ps)) : ∃ s : ByteArray, VR w (immI w) (.im (ofBytes s)) v ∧ BytesD s.size d := by
  obtain ⟨l, h1, h2⟩ := vr_slice1 (α := UInt8) (fun b => .int .u8 (b.toNat : Int)) (fun _ _ => True) ht hc (fun n u dd pp hu => by
    cases n with
    | zero => simp [DataW.trod] at hu
    | succ n =>
      unfold DataW.trod at hu
      rw [he] at hu
      cases u with
      | int k' z =>
        have hu : (if k' = .u8 ∧ (Lit.int .u8 z).wf = true then some (DataW.lit (.int .u8 z), []) else none) = some (dd, pp) := hu
        split at hu
        · rename_i hk
          obtain ⟨rfl, hw⟩ := hk
          have := u8_wf hw
          refine ⟨UInt8.ofNat z.toNat, ?_, trivial, rfl, rfl⟩
          have e2 : (((UInt8.ofNat z.toNat).toNat : Nat) : Int) = z := by rw [UInt8.toNat_ofNat']; omega
          rw [e2]
          exact .int _ _
        · cases hu
      | _ => cases hu) h
  refine ⟨⟨l.toArray⟩, by simpa [ofBytes] using h1, ?_⟩
  rcases h2 with ⟨h2, rfl⟩ | ⟨el, sp, h2, h3, _⟩
  · exact .inl ⟨h2, rfl⟩
  · exact .inr ⟨el, sp, h2, by simpa [ByteArray.size] using h3⟩
/-- rows of bytes -/
theorem vr_bytess0 {t e q : Nat} {fuel : Nat} {v : Value} {d : DataW H} {ps : List MemPlace} (ht : P.underlying t = some (.slice e)) (he : P.underlying e = some (.slice q)) (hq : P.underlying q = some (.int .u8)) (ce : P.cellsOf e = 1) (cq : P.cellsOf q = 1)
    (h : DataW.trod enc P w 0 (fun _ => true) held fuel t [v] = some (d, ps)) : ∃ l : List ByteArray, VR w (immI w) (.im (l.map fun s => .im (ofBytes s))) v ∧ ((d = .nil ∧ l = []) ∨ ∃ (el sp : List (DataW H)), d = .slice el sp ∧ el.length = l.length ∧ ∀ (i : Nat) (s : ByteArray) (dd : DataW H), l[i]? = some s → el[i]? = some dd → BytesD s.size dd) :=
  vr_slice1 (α := ByteArray) (fun s => .im (ofBytes s)) (fun s dd => BytesD s.size dd) ht ce (fun n u dd pp hu => by
    obtain ⟨s, h1, h2⟩ := vr_bytes0 he hq cq hu
    refine ⟨s, h1, h2, rfl, ?_⟩
    cases n with
    | zero => simp [DataW.trod] at hu
    | succ n =>
      unfold DataW.trod at hu
      rw [he] at hu
      cases u <;> first | rfl | (cases hu; done)) h
end Go.Ev
/- What is looked up of a function's code. -/
namespace Go.Ev
open Go
def findLoop (id : Nat) : Code → Option Code
  | .block j (.loop b) => cond (Nat.beq j id) (some b) (findLoop id b)
  | .block _ b => findLoop id b
  | .loop b => findLoop id b
  | .scope b => findLoop id b
  | .seq a b => match findLoop id a with | some c => some c | none => findLoop id b
  | .cond _ a b => match findLoop id a with | some c => some c | none => findLoop id b
  | _ => none
def loopB (fn : Func) (id : Nat) : Code := match fn.body with | some c => (findLoop id c).getD .skip | none => .skip
end Go.Ev
/- Contracts of Go's library, proved elsewhere, as the interpreter's: strings.Join. -/
namespace Go.Ev
open Go Go.RowKit
variable [Glob]
section
variable {P : Program} {f : Nat} {w : World} {I : Nat → Role}
theorem stays_below {w' : World} (h0 : ∀ r, I r ≠ .no → r < w.heap.size) (hb : Below w.heap.size w w') : Stays I I w w' := .mk fun r hr => ⟨hb.block r (h0 r hr.no), rfl⟩
/-- a contract that says what is returned, below the heap's end all stands -/
theorem clo_below {args : Array Value} {v : Value} {r : CV} (h0 : ∀ r, I r ≠ .no → r < w.heap.size) (h1 : ∀ r, (I r).free) (hb : Base w I) (hv : ∀ w' : World, VR w' I r v)
    (hc : Calls P f args w fun e w' => e = .returned v ∧ Below w.heap.size w w') :
    Calls P f args w fun e w' => ∃ v J, e = .returned v ∧ (∀ r, J r ≠ .no → r < w'.heap.size) ∧ (∀ r, (J r).free) ∧ Base w' J ∧ Ext I J w w' ∧ VR w' J r v := by
  refine Calls.mono hc ?_
  rintro e w' ⟨he, hw⟩
  exact ⟨v, I, he, fun r hr => Nat.lt_of_lt_of_le (h0 r hr) hw.size, h1, hb.mono (stays_below h0 hw), .mk' hw.os hw.tape hw.output hw.size (fun r hr _ => ⟨hw.block r hr, rfl⟩), hv w'⟩
theorem joinB_eq (sep : List UInt8) : ∀ l : List (List UInt8), joinB sep l = Lib.join l sep
  | [] => rfl
  | [x] => (Lib.join_one x sep).symm
  | x :: y :: l => by
    have ih := joinB_eq sep (y :: l)
    show x ++ (sep ++ joinB sep (y :: l)) = _
    rw [ih]
    simp [Lib.join, List.intercalate]
theorem strsOf_strs : ∀ {ys : List CV} {rs : List (List UInt8)}, strsOf ys = some rs → ∃ bs : List ByteArray, ys = bs.map CV.str ∧ rs = bs.map (·.data.toList)
  | [], rs, h => by injection h with h; subst h; exact ⟨[], rfl, rfl⟩
  | x :: l, rs, h => by
    cases x <;> first | (cases h; done) | skip
    rename_i s
    unfold strsOf at h
    cases hl : strsOf l with
    | none => simp only [hl] at h; cases h
    | some q =>
      simp only [hl] at h
      injection h with h; subst h
      obtain ⟨bs, h1, h2⟩ := strsOf_strs hl
      exact ⟨s :: bs, by rw [h1]; rfl, by rw [h2]; rfl⟩
theorem vrs_strs {bs : List ByteArray} : ∀ {vs : List Value}, VRs w I ((bs.map CV.str).flatMap CV.cells) vs → ∀ (j : Nat) x, bs[j]? = some x → vs[j]? = some (.string x) := by
  induction bs with
  | nil => intro vs _ j x h; simp at h
  | cons b bs ih =>
    intro vs h j x hj
    have h : VRs w I (.str b :: (bs.map CV.str).flatMap CV.cells) vs := h
    cases h with
    | cons _ v _ vs h1 h2 =>
      cases h1
      cases j with
      | zero => simp at hj; subst hj; rfl
      | succ j => simpa using ih h2 j x (by simpa using hj)
theorem join_clo (hN : ∀ (a : Option Addr) (c : Nat) (sep : ByteArray) (w : World), Calls P f #[.slice a 0 c, .string sep] w fun e w' => e = .returned (.string ⟨#[]⟩) ∧ w' = w)
    (hJ : ∀ (bk o c : Nat) (xs : List ByteArray) (sep : ByteArray) (w : World), (∀ (j : Nat) x, xs[j]? = some x → w.cell? ⟨bk, o + j, none⟩ = some (.string x)) → bk < w.heap.size → xs.length ≤ 140737488355328 → xs.length ≤ c →
      (Lib.join (xs.map (·.data.toList)) sep.data.toList).length ≤ 140737488355328 →
      Calls P f #[.slice (some ⟨bk, o, none⟩) xs.length c, .string sep] w fun e w' => e = .returned (.string ⟨(Lib.join (xs.map (·.data.toList)) sep.data.toList).toArray⟩) ∧ Below w.heap.size w w')
    {xs : List CV} {r : CV} (h : pJoin xs = some r) : CloC P f xs r := by
  unfold pJoin at h
  split at h
  · rename_i x sep
    obtain ⟨ys, hy, hx⟩ := lst_inv h
    split at hy
    · rename_i rs hrs
      obtain ⟨bs, rfl, rfl⟩ := strsOf_strs hrs
      rcases cond_inv hy with ⟨hc, hr⟩ | ⟨_, hr⟩
      · injection hr with hr
        rw [Bool.and_eq_true] at hc
        have hc1 := Nat.ble_eq.mp hc.1
        have hc2 := Nat.ble_eq.mp hc.2
        rw [joinB_eq] at hc2 hr
        intro w I args h0 h1 hb hv
        have zero : ∀ {a : Option Addr} {c : Nat}, bs = [] → Calls P f #[.slice a 0 c, .string sep] w fun e w' => ∃ v J, e = .returned v ∧ (∀ r, J r ≠ .no → r < w'.heap.size) ∧ (∀ r, (J r).free) ∧ Base w' J ∧ Ext I J w w' ∧ VR w' J r v := by
          intro a c e
          subst e
          subst hr
          exact clo_below h0 h1 hb (fun w' => .str _) ((hN a c sep w).mono fun e w' ⟨k1, k2⟩ => ⟨k1, k2 ▸ Below.refl _ _⟩)
        cases hv with
        | cons _ v _ vs a1 a2 =>
          cases a2 with
          | cons _ v2 _ vs2 a3 a4 =>
            cases a4
            cases a3
            have im : VR w I (.im (bs.map CV.str)) v → Calls P f #[v, .string sep] w fun e w' => ∃ v J, e = .returned v ∧ (∀ r, J r ≠ .no → r < w'.heap.size) ∧ (∀ r, (J r).free) ∧ Base w' J ∧ Ext I J w w' ∧ VR w' J r v := by
              intro a1
              generalize hq : bs.map CV.str = q at a1
              cases a1 with
              | im0 => exact zero (by simpa using hq)
              | imz a => exact zero (by simpa using hq)
              | im _ bk off cap m vs b1 b2 b3 b4 b5 =>
                subst hq
                rw [List.length_map] at b5 ⊢
                subst hr
                refine clo_below h0 h1 hb (fun w' => ?_) (hJ bk off cap bs sep w (fun j x hx => (b4 j _ (vrs_strs b1 j x hx)).1) (h0 bk (fun e => by rw [e] at b3; exact b3)) (by simpa using hc1) b5 hc2)
                have : VR w' I (.str ⟨(Lib.join (bs.map (·.data.toList)) sep.data.toList).toArray⟩) (.string ⟨(Lib.join (bs.map (·.data.toList)) sep.data.toList).toArray⟩) := .str _
                simpa using this
            rcases hx with rfl | ⟨rfl, e⟩ | ⟨rfl, e⟩ | rfl
            · exact im a1
            · cases a1; exact zero (by simpa using e)
            · have hb0 : bs = [] := by simpa using e
              cases a1 with
              | emz a => exact zero hb0
              | em r off cap => exact zero hb0
            · exact im (VR.ic_im a1).1
      · cases hr
    · cases hy
  · cases h
end
end Go.Ev
