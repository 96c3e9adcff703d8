/-
  ShellQuotes: the law returns true for every input of the second form, and its arguments read behind the call as before: proved by an interpreter of the program's own code (shown sound in the Ev texts), whose symbolic runs are held against one another. Condition: the listed package-level variables hold what the row lists (the card ties that to the text); the arguments' bulk is at most 1048576.
-/
import Derived.JoinedCond
import Derived.Deep.DeepHandedRow
import Derived.Test.YtealapdmffhbdaaGreatDoorEvE
import Derived.Test.YtealapdmffhbdaaGreatDoorLB
import Derived.Test.YtealapdmffhbdaaGreatDoorSWB
import Derived.Test.YtealapdmffhbdaaGreatDoorSQF
import Derived.Test.YtealapdmffhbdaaGreatDoorSQFa
import Derived.Test.YtealapdmffhbdaaGreatDoorSQFb
import Derived.Test.YtealapdmffhbdaaGreatDoorSQFc
import Derived.Test.YtealapdmffhbdaaGreatDoorSQFd
set_option linter.unusedVariables false
set_option linter.unusedSectionVars false
set_option linter.unusedSimpArgs false
set_option linter.unnecessarySimpa false
namespace Go.Proofs.YtealapdmffhbdaaGreatDoor.fnShellQuotesUpto
open Go Go.ChangeShapes Go.WideShapes Go.ChangeAt Go.RowKit Go.Ev
open Go.ChangeMaps (open_string)
attribute [-instance] Go.Proofs.YtealapdmffhbdaaGreatDoor.S.glob2
theorem law (a0 : List ByteArray) (v0 : Value) (a1 : ByteArray) (W : World) (hL : laidMetH Tryz.prog laid2 W) (hv0 : VR W (immI W) (.im (a0.map fun s => .im (ofBytes s))) v0) (hb0 : ∀ s, s ∈ a0 → s.size ≤ 1048576) (hb1 : a1.size ≤ 1048576) : Calls Tryz.prog 4 #[v0, .string a1] W fun e w' => e = .returned (.bool true) ∧ Below W.heap.size W w' :=
  CloC.law (S.quotesC a0 a1 hb0 hb1) W [v0, .string a1] (base hL) (.cons _ _ _ _ hv0 (.cons _ _ _ _ (.str a1) .nil))
theorem one_le {H : Type} (d : DataW H) : 1 ≤ Rows.uptoBulk d := by
  cases d with
  | lit l => cases l <;> simp [Rows.uptoBulk]
  | nil => simp [Rows.uptoBulk]
  | ptr d => simp [Rows.uptoBulk]
  | slice e s => simp [Rows.uptoBulk]
  | agg p => simp [Rows.uptoBulk]
  | iface t d => simp [Rows.uptoBulk]
  | map e => simp [Rows.uptoBulk]
  | held h => simp [Rows.uptoBulk]
theorem part_le {H : Type} {d : DataW H} : ∀ {l : List (DataW H)}, d ∈ l → Rows.uptoBulk d ≤ Rows.uptoBulkAll l
  | x :: r, h => by
    simp only [Rows.uptoBulkAll]
    rcases List.mem_cons.1 h with rfl | e
    · omega
    · have := part_le e; omega
theorem length_le {H : Type} : ∀ l : List (DataW H), l.length ≤ Rows.uptoBulkAll l
  | [] => by simp [Rows.uptoBulkAll]
  | x :: r => by
    have := one_le x
    have := length_le r
    simp only [Rows.uptoBulkAll, List.length_cons]
    omega
theorem str_le {H : Type} (s : ByteArray) : s.size + 1 = Rows.uptoBulk (DataW.lit (H := H) (.string s.data.toList)) := by
  simp only [Rows.uptoBulk]
  rfl
theorem bytes_le {H : Type} {n : Nat} {d : DataW H} (h : BytesD n d) : n ≤ Rows.uptoBulk d := by
  rcases h with ⟨rfl, rfl⟩ | ⟨el, sp, rfl, rfl⟩
  · omega
  · have := length_le el
    simp only [Rows.uptoBulk]
    omega
theorem bytess_le {H : Type} {l : List ByteArray} {d : DataW H} (h : (d = .nil ∧ l = []) ∨ ∃ (el sp : List (DataW H)), d = .slice el sp ∧ el.length = l.length ∧ ∀ (i : Nat) (s : ByteArray) (dd : DataW H), l[i]? = some s → el[i]? = some dd → BytesD s.size dd) : ∀ s, s ∈ l → s.size ≤ Rows.uptoBulk d := by
  intro s hs
  rcases h with ⟨rfl, rfl⟩ | ⟨el, sp, rfl, h1, h2⟩
  · simp at hs
  · obtain ⟨i, hi, rfl⟩ := List.getElem_of_mem hs
    have hi2 : i < el.length := by omega
    have h3 := bytes_le (h2 i _ _ (List.getElem?_eq_getElem hi) (List.getElem?_eq_getElem hi2))
    have h4 : Rows.uptoBulk el[i] ≤ Rows.uptoBulkAll el := part_le (List.getElem_mem hi2)
    simp only [Rows.uptoBulk]
    omega
theorem reads (os : Os) {H : Type} (enc : TypeId × Value → H) : ∃ ds places, DataW.whole enc Tryz.prog (((World.laidAll Tryz.prog os laid2).forCall (fun _ _ => 0) ⟨#[], #[.slice none 0 0, .string ⟨#[]⟩], []⟩).memory) Tryz.f4.params.toList Rows.shellQuotesSpec.vars false (#[.slice none 0 0, .string ⟨#[]⟩] : Array Value).toList 8 = some (ds, [], places) ∧ Rows.uptoSmall H ds = true :=
  ⟨[.nil, .lit (.string [])], [], by kernel_rfl, by kernel_rfl⟩
set_option maxRecDepth 100000 in
theorem lifted (os : Os) (started : os.Started) (H : Type) (enc : TypeId × Value → H) (F : Stop.Interp) :
    ReturnsInHanded {} Tryz.checked os 4 .any ((Rows.OpenSpec.upto Rows.shellQuotesSpec).preRow enc Tryz.prog Tryz.f4 Rows.shellQuotesUptoRow.domain false Rows.shellQuotesUptoRow.laid) (((Rows.OpenSpec.upto Rows.shellQuotesSpec).at F).post enc Tryz.prog Tryz.f4 false true false false) := by
  obtain ⟨ds, places, hx, hsm⟩ := reads os enc
  refine returnsInHanded_of_row (C := Tryz.checked) (s := Rows.OpenSpec.upto Rows.shellQuotesSpec) own started (by kernel_rfl) Tryz.func4
    ⟨World.laidAll Tryz.prog os laid2, fun _ _ => 0, ⟨#[], #[.slice none 0 0, .string ⟨#[]⟩], []⟩, World.laidAll_os _ _ _, World.shaped_of_ZipB (by kernel_rfl) (by kernel_rfl), rfl, (Input.okWide_of_okWideB (f := 4) (by kernel_rfl)).2,
      OpenSpec.preRow_of_cond 8 hx (by kernel_rfl) (fun k hk => by cases hk; exact (by rw [List.append_nil]; exact hsm)) (by kernel_rfl) (by show laidMetH Tryz.prog laid2 _; rw [MakeChecks.laidMetH_plain _ _ _ laidPlain]; exact laidMet_laidAll _ (by kernel_rfl) (by kernel_rfl)), by
        simp only [Assume.holds]
        exact ⟨by simp, by simp, fun h => (by first | exact Modest.zero | (cases h)), by simp, by simp⟩⟩ ?_
  intro W base args ds gs before hval0 hW _ hcond _ hL _ _
  have hval : ∀ (j : Nat) t v, Tryz.f4.params[j]? = some t → args[j]? = some v → Value.okWide Tryz.prog W .any base t v := hval0
  have hW' := hW
  obtain ⟨p, q, hA0, hV, rfl, _, _⟩ := hW
  have hA : DataW.TrodAll enc Tryz.prog W 0 (fun _ => true) true Tryz.f4.params.toList args.toList ds p := hA0
  rw [Tryz.params4] at hA hval
  obtain ⟨v0, vs0, d0, ds0, p0, q0, hargs, rfl, rfl, h0, r0⟩ := trodAll_cons hA
  obtain ⟨v1, vs1, d1, ds1, p1, q1, rfl, rfl, rfl, h1, r1⟩ := trodAll_cons r0
  obtain ⟨rfl, rfl, rfl⟩ := trodAll_nil r1
  obtain rfl : args = #[v0, v1] := by cases args; simp_all
  obtain ⟨rfl, rfl⟩ := trodVars_none hV
  have hbulk : Rows.uptoBulkAll ([d0, d1] ++ []) ≤ 1048576 := of_decide_eq_true (hcond _ rfl)
  rw [List.append_nil] at hbulk
  obtain ⟨_, _, _, rfl⟩ := okWide_slice Tryz.underlying32 (hval 0 32 v0 rfl rfl)
  obtain ⟨fu0, hf0⟩ := h0
  have h0 : DataW.Trod enc Tryz.prog W 0 (fun _ => true) true 32 _ d0 p0 := ⟨fu0, hf0⟩
  obtain ⟨a0, hv0, hd0⟩ := vr_bytess0 Tryz.underlying32 Tryz.underlying22 Tryz.underlying5 (by kernel_rfl) (by kernel_rfl) hf0
  have hlt0 : ∀ x ∈ p0, x.block < W.heap.size := fun x hx => hW'.lt x (by simp [hx])
  have h10 := h1
  obtain ⟨a1, rfl, rfl, rfl, w1⟩ := open_string Tryz.underlying9 (hval 1 9 v1 rfl rfl) h1
  clear hA0 hval0
  simp only [List.append_nil] at hW'
  have hb0 : ∀ s, s ∈ a0 → s.size ≤ 1048576 := fun s hs => by have h1 := part_le (by simp : (d0 : DataW H) ∈ [d0, .lit (.string a1.data.toList)]); have h2 := bytess_le hd0 s hs; omega
  have hb1 : a1.size ≤ 1048576 := by have h1 := part_le (by simp : (DataW.lit (.string a1.data.toList) : DataW H) ∈ [d0, .lit (.string a1.data.toList)]); have h2 := str_le (H := H) a1; omega
  refine (law a0 _ a1 W hL hv0 hb0 hb1).mono fun e W' ⟨he, hb⟩ => ?_
  subst he
  exact ⟨_, rfl, _, _, _, [], _, [], hW', trodAll_cons_mk (shut_bool Tryz.underlying4 _) trodAll_mk0, (trodAll_cons_mk (Below.trod (by kernel_rfl) (by kernel_rfl) (of_decide_eq_true (by kernel_rfl)) h0 hb hlt0) (trodAll_cons_mk (Below.trod (by kernel_rfl) (by kernel_rfl) (of_decide_eq_true (by kernel_rfl)) h10 hb (by simp)) trodAll_mk0)), rfl, hb.frame _, fun h => by cases h⟩
theorem closed : joinedFacts Tryz.prog 4 Tryz.f4 (Rows.OpenSpec.upto Rows.shellQuotesSpec).bare Rows.shellQuotesUptoRow = true := joined_of fact1 fact2 fact3 fact4 fact5 fact6 fact7 fact8 fact9 fact10 fact11 fact12 fact13 fact14 fact15 fact16 fact17 fact18 fact19 fact20 fact21 fact22 fact23 fact24 fact25 fact26 fact27 fact28 fact29 fact30 fact31 fact32
theorem holds : Rows.ShellQuotesUptoSaid :=
  OpenClaim.holds_of_cond 4 Tryz.f4 rfl rfl rfl rfl rfl rfl rfl ⟨rfl, rfl, rfl, rfl, rfl⟩ rfl rfl rfl rfl rfl factN Tryz.func4 closed
    (of_decide_eq_true (by kernel_rfl)) (by unfold Func.isWrapper; first | (rw [if_pos (by decide +kernel)]; kernel_rfl) | (rw [if_neg (by decide +kernel)]; exact ⟨rfl, rfl⟩))
    (fun os started H enc _ F => by rw [OpenClaim.pre_eq_preRow]; exact lifted os started H enc F)
/-- The tied card. -/
theorem card_holds : Rows.ShellQuotesUptoCardSaid :=
  Claim7.holds_tied_plain_at .later [] _ _ _ _ holds (fun _ h => by cases h) factW (fun _ h => by cases h) shellQuotesUpto_row_tie rfl ⟨rfl, rfl⟩ factM rfl
    (fun f fn hf hfn => by
      obtain rfl : f = 4 := Option.some.inj (factN.symm.trans hf) |>.symm
      obtain rfl : fn = Tryz.f4 := (Option.some.inj (Tryz.func4.symm.trans hfn)).symm
      exact ⟨factL, fun j t ht => by
        rw [Tryz.params4] at ht
        have hm : t ∈ [32, 9] := by simpa using Array.mem_of_getElem? ht
        have hall : ([32, 9].all fun u => !Tryz.prog.wantsStandIn u) = true := by kernel_rfl
        exact (show Tryz.prog.wantsStandIn t = false by simpa using List.all_eq_true.1 hall t hm)⟩)
    factG
end Go.Proofs.YtealapdmffhbdaaGreatDoor.fnShellQuotesUpto
