/- DriveTypes: the function, for every number and every row of numbers. -/
import Derived.Test.YthndchidnkbgiaaGreatDoorDTL0
import Derived.Test.YthndchidnkbgiaaGreatDoorDTL1
import Derived.Test.YthndchidnkbgiaaGreatDoorDTL3
import Derived.Test.YthndchidnkbgiaaGreatDoorDTL4
import Derived.Test.YthndchidnkbgiaaGreatDoorDTL5
import Derived.Test.YthndchidnkbgiaaGreatDoorDTB
import Derived.Test.YthndchidnkbgiaaGreatDoorEvE
set_option linter.unusedVariables false
set_option linter.unusedSectionVars false
set_option linter.unusedSimpArgs false
set_option linter.unnecessarySimpa false
namespace Go.Proofs.YthndchidnkbgiaaGreatDoor.W
open Go Go.Ev Go.Proofs.YthndchidnkbgiaaGreatDoor
theorem every1 (w : Int → Int) (hw : ∀ m, 0 ≤ w m ∧ w m < 1000) (n : Int) : ∀ l : List Int, last w n (l.map (CV.int .i64)) 1 = some (.bool true)
  | [] => caseL1_0 w n hw
  | z0 :: l => caseL1_1 w n z0 (l.map (CV.int .i64)) hw
theorem every2 (w : Int → Int) (hw : ∀ m, 0 ≤ w m ∧ w m < 1000) (n : Int) : ∀ l : List Int, last w n (l.map (CV.int .i64)) 2 = some (.bool true)
  | [] => caseL2_0 w n hw
  | [z0] => caseL2_1 w n z0 hw
  | z0 :: z1 :: l => caseL2_2 w n z0 z1 (l.map (CV.int .i64)) hw
theorem every3 (w : Int → Int) (hw : ∀ m, 0 ≤ w m ∧ w m < 1000) (n : Int) : ∀ l : List Int, last w n (l.map (CV.int .i64)) 3 = some (.bool true)
  | [] => caseL3_0 w n hw
  | [z0] => caseL3_1 w n z0 hw
  | [z0, z1] => caseL3_2 w n z0 z1 hw
  | z0 :: z1 :: z2 :: l => caseL3_3 w n z0 z1 z2 (l.map (CV.int .i64)) hw
theorem every4 (w : Int → Int) (hw : ∀ m, 0 ≤ w m ∧ w m < 1000) (n : Int) : ∀ l : List Int, last w n (l.map (CV.int .i64)) 4 = some (.bool true)
  | [] => caseL4_0 w n hw
  | [z0] => caseL4_1 w n z0 hw
  | [z0, z1] => caseL4_2 w n z0 z1 hw
  | [z0, z1, z2] => caseL4_3 w n z0 z1 z2 hw
  | z0 :: z1 :: z2 :: z3 :: l => caseL4_4 w n z0 z1 z2 z3 (l.map (CV.int .i64)) hw
theorem every5 (w : Int → Int) (hw : ∀ m, 0 ≤ w m ∧ w m < 1000) (n : Int) : ∀ l : List Int, last w n (l.map (CV.int .i64)) 5 = some (.bool true)
  | [] => caseL5_0 w n hw
  | [z0] => caseL5_1 w n z0 hw
  | [z0, z1] => caseL5_2 w n z0 z1 hw
  | [z0, z1, z2] => caseL5_3 w n z0 z1 z2 hw
  | [z0, z1, z2, z3] => caseL5_4 w n z0 z1 z2 z3 hw
  | z0 :: z1 :: z2 :: z3 :: z4 :: l => caseL5_5 w n z0 z1 z2 z3 z4 (l.map (CV.int .i64)) hw
theorem every (w : Int → Int) (hw : ∀ m, 0 ≤ w m ∧ w m < 1000) (n : Int) (l : List Int) : ∀ k : Fin 6, last w n (l.map (CV.int .i64)) (k.val : Int) = some (.bool true) := fun k => match k with
  | ⟨0, _⟩ => case0 w n _
  | ⟨1, _⟩ => every1 w hw n l
  | ⟨2, _⟩ => every2 w hw n l
  | ⟨3, _⟩ => every3 w hw n l
  | ⟨4, _⟩ => every4 w hw n l
  | ⟨5, _⟩ => every5 w hw n l
  | ⟨k + 6, h⟩ => absurd h (by omega)
theorem within6 (w : Int → Int) (n : Int) : ∃ k : Fin 6, (orcF (cfg w) 399).clo 5 [.int .i64 n, .int .i64 6] = some (.int .i64 (k.val : Int)) := by
  obtain ⟨k, hk⟩ := Go.Proofs.YthndchidnkbgiaaGreatDoor.within5_is (orcF (cfg w) 398) n 6 (by omega) (by omega)
  exact ⟨k, clo_of (n := 398) (xs := [.int .i64 n, .int .i64 6]) (by kernel_rfl) (by kernel_rfl) hk⟩
theorem clo3 (n : Int) (l : List Int) : CloC Tryz.prog 3 [.int .i64 n, .im (l.map (CV.int .i64))] (.bool true) := by
  obtain ⟨v, hv⟩ := Classical.skolem.mp fun m : Int => Go.Proofs.YthndchidnkbgiaaGreatDoor.within5 m 1000 (by omega) (by omega) (by kernel_rfl) (by kernel_rfl)
  let w : Int → Int := fun m => ((v m).val : Int)
  have hw : ∀ m, 0 ≤ w m ∧ w m < 1000 := fun m => by
    show (0 : Int) ≤ ((v m).val : Int) ∧ ((v m).val : Int) < 1000
    have := (v m).isLt
    omega
  obtain ⟨k, hk⟩ := within6 w n
  refine cloW (w := w) (fun m => clo1 (hv m)) (n := 400) (clo_of (by kernel_rfl) (by kernel_rfl) ?_)
  rw [body_pre (fn3 w) b3 0]
  exact from3 w n (l.map (CV.int .i64)) hk (every w hw n l k)
end Go.Proofs.YthndchidnkbgiaaGreatDoor.W
/-
  DriveTypes: the law returns true for every input, and its arguments read behind the call as before: proved by an interpreter of the program's own code (shown sound in the Ev texts) that the kernel runs. Condition: the listed package-level variables hold what the row lists (the card ties that to the text).
-/
namespace Go.Proofs.YthndchidnkbgiaaGreatDoor.fnDriveTypes
open Go.ChangeShapes Go.WideShapes Go.ChangeAt Go.RowKit Go.Ev
theorem law (a0 : Int) (a1 : List Int) (v1 : Value) (W : World) (hL : laidMetH Tryz.prog laid2 W) (hv1 : VR W (immI W) (.im (a1.map (CV.int .i64))) v1) : Calls Tryz.prog 3 #[.int .i64 a0, v1] W fun e w' => e = .returned (.bool true) ∧ Below W.heap.size W w' :=
  CloC.law (Go.Proofs.YthndchidnkbgiaaGreatDoor.W.clo3 a0 a1) W [.int .i64 a0, v1] (base hL) (.cons _ _ _ _ (.int _ a0) (.cons _ _ _ _ hv1 .nil))
set_option maxRecDepth 100000 in
theorem lifted (os : Os) (started : os.Started) (H : Type) (enc : TypeId × Value → H) :
    ReturnsInHanded {} Tryz.checked os 3 .any (fun w args => (Rows.driveTypesSpec.pre enc Tryz.prog Tryz.f3 [] false w args ∧ laidMetH Tryz.prog Rows.driveTypesRow.laid w) ∧ sizedMet enc Tryz.prog Tryz.f3 (OpenSpec.ofChange Rows.driveTypesSpec) false w args)
      (Rows.driveTypesSpec.post enc Tryz.prog Tryz.f3 false true false false) := by
  refine returnsInHanded_of_change_and (C := Tryz.checked) (X := fun w _ => laidMetH Tryz.prog laid2 w) (fun _ _ _ hh h => h.of_heap hh) own started (by kernel_rfl) Tryz.func3
    (ChangeSpec.witness_shaped (enc := enc) (C := Tryz.checked) (os := os) (X := fun w _ => laidMetH Tryz.prog laid2 w) false (World.laidAll Tryz.prog os laid2) #[.int .i64 0, .slice none 0 0] 8 (World.laidAll_os _ _ _)
      (World.shaped_of_ZipB (by kernel_rfl) (by kernel_rfl)) (by kernel_rfl) (by kernel_rfl) (by kernel_rfl)
      (by rw [MakeChecks.laidMetH_plain _ _ _ laidPlain]; exact laidMet_laidAll _ (by kernel_rfl) (by kernel_rfl))) ?_
  intro W base args ds gs before hval0 hW _ _ hL _
  have hval : ∀ (j : Nat) t v, Tryz.f3.params[j]? = some t → args[j]? = some v → Value.okWide Tryz.prog W .any base t v := hval0
  have hW' := hW
  obtain ⟨p, q, hA0, hV, rfl, _, _⟩ := hW
  have hA : DataW.TrodAll enc Tryz.prog W 0 (fun _ => true) true Tryz.f3.params.toList args.toList ds p := hA0
  rw [Tryz.params3] at hA hval
  obtain ⟨v0, vs0, d0, ds0, p0, q0, hargs, rfl, rfl, h0, r0⟩ := trodAll_cons hA
  obtain ⟨v1, vs1, d1, ds1, p1, q1, rfl, rfl, rfl, h1, r1⟩ := trodAll_cons r0
  obtain ⟨rfl, rfl, rfl⟩ := trodAll_nil r1
  obtain rfl : args = #[v0, v1] := by cases args; simp_all
  obtain ⟨rfl, rfl⟩ := trodVars_none hV
  obtain ⟨a0, rfl, rfl, rfl, w0⟩ := open_int Tryz.underlying3 (hval 0 3 v0 rfl rfl) h0
  obtain ⟨a1, hv1⟩ := vr_intl Tryz.underlying22 Tryz.underlying3 (by kernel_rfl) (hval 1 22 v1 rfl rfl) h1
  have hlt1 : ∀ x ∈ p1, x.block < W.heap.size := fun x hx => hW'.lt x (by simp [hx])
  clear hA0 hval0
  simp only [List.append_nil] at hW'
  refine (law a0 a1 v1 W hL hv1).mono fun e W' ⟨he, hb⟩ => ?_
  subst he
  exact ⟨_, rfl, _, _, _, [], _, [], hW', trodAll_cons_mk (shut_bool Tryz.underlying4 _) trodAll_mk0, (trodAll_cons_mk (shut_int Tryz.underlying3 w0) (trodAll_cons_mk (Below.trod (by kernel_rfl) (by kernel_rfl) (of_decide_eq_true (by kernel_rfl)) h1 hb hlt1) trodAll_mk0)), rfl, hb.frame _, fun h => by cases h⟩
theorem holds : Rows.DriveTypesSaid :=
  OpenClaim.holds_of_wide 3 Tryz.f3 rfl rfl rfl rfl rfl rfl rfl ⟨rfl, rfl, rfl, rfl, rfl⟩ rfl rfl rfl rfl rfl (by kernel_rfl) Tryz.func3 (by kernel_rfl)
    (of_decide_eq_true (by kernel_rfl)) (by unfold Func.isWrapper; first | (rw [if_pos (by decide +kernel)]; kernel_rfl) | (rw [if_neg (by decide +kernel)]; exact ⟨rfl, rfl⟩))
    (fun os started H enc _ => lifted os started H enc)
/-- The tied card. -/
theorem card_holds : Rows.DriveTypesCardSaid :=
  Claim7.holds_tied_plain_at .later [] _ _ _ _ holds (fun _ h => by cases h) (by kernel_rfl) (fun _ h => by cases h) driveTypes_row_tie rfl ⟨rfl, rfl⟩ (by kernel_rfl) rfl
    (fun f fn hf hfn => by
      obtain rfl : f = 3 := Option.some.inj ((show Tryz.prog.funcNamed "thyrsus/thyrsuslaw15.DriveTypes" = some 3 by kernel_rfl).symm.trans hf) |>.symm
      obtain rfl : fn = Tryz.f3 := (Option.some.inj (Tryz.func3.symm.trans hfn)).symm
      exact ⟨by kernel_rfl, fun j t ht => by
        rw [Tryz.params3] at ht
        have hm : t ∈ [3, 22] := by simpa using Array.mem_of_getElem? ht
        have hall : ([3, 22].all fun u => !Tryz.prog.wantsStandIn u) = true := by kernel_rfl
        exact (show Tryz.prog.wantsStandIn t = false by simpa using List.all_eq_true.1 hall t hm)⟩)
    (by kernel_rfl)
end Go.Proofs.YthndchidnkbgiaaGreatDoor.fnDriveTypes
