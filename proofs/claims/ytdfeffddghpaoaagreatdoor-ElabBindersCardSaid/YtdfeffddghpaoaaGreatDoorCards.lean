/-
  DERIVED. GIVEN WITH THE SEED: THE CARDS: each row of YtdfeffddghpaoaaGreatDoorRows.lean that lists a variable, with what it lists TIED to the program's text (the seventh form; the later family's looks); each row that meets fmt, with fmt's text TOLD by the authors' own Lean function (tested against real Go, not proved from fmt's source: count such statements apart). THE CARD IS WHAT COUNTS. Prove the row's statement (the work); the ties are given (YtdfeffddghpaoaaGreatDoorTie.lean); close each card by the builder's one call (the guide's Derived/Test/ToyasCard.lean, 'card_holds'). Laid BY PROGRAM, IN A SANDBOX (cutbox-door.mjs). By AI agents, Wed Nov 11 2026. No macro, syntax, notation, axiom, sorry.
-/
import Derived.Test.YtdfeffddghpaoaaGreatDoorRows
import GoSem.ClaimSeven
namespace Go.Proofs.YtdfeffddghpaoaaGreatDoor
namespace Rows

/-- THE TIED CARD OF 'thyrsuslaw8.ElabKnown'. -/
def elabKnownCard : Claim7 := { stood := { row := elabKnownRow, standIns := [], harness := (true, "8b92321c8b04adc73b9afc08e016bdc5bcdd739667689657045ba984ec0204d1"), looks := false }, kinds := [], alts := [], laidByText := true, laidKinds := [.listed, .data], laidTests := true, laidLooks := .later }
def ElabKnownCardSaid : Prop := Claim7.holds Tryz.pinned (.plain (OpenSpec.ofChange elabKnownSpec)) elabKnownCard

/-- THE TIED CARD OF 'thyrsuslaw8.ElabForms'. -/
def elabFormsCard : Claim7 := { stood := { row := elabFormsRow, standIns := [], harness := (true, "8b92321c8b04adc73b9afc08e016bdc5bcdd739667689657045ba984ec0204d1"), looks := false }, kinds := [], alts := [], laidByText := true, laidKinds := [.listed, .data], laidTests := true, laidLooks := .later }
def ElabFormsCardSaid : Prop := Claim7.holds Tryz.pinned (.plain (OpenSpec.ofChange elabFormsSpec)) elabFormsCard

/-- THE TIED CARD OF 'thyrsuslaw8.ElabBinders'. -/
def elabBindersCard : Claim7 := { stood := { row := elabBindersRow, standIns := [], harness := (true, "8b92321c8b04adc73b9afc08e016bdc5bcdd739667689657045ba984ec0204d1"), looks := false }, kinds := [], alts := [], laidByText := true, laidKinds := [.listed, .data], laidTests := true, laidLooks := .later }
def ElabBindersCardSaid : Prop := Claim7.holds Tryz.pinned (.plain (OpenSpec.ofChange elabBindersSpec)) elabBindersCard

/-- THE TIED CARD OF 'thyrsuslaw8.ElabShapes'. -/
def elabShapesCard : Claim7 := { stood := { row := elabShapesRow, standIns := [], harness := (true, "8b92321c8b04adc73b9afc08e016bdc5bcdd739667689657045ba984ec0204d1"), looks := false }, kinds := [], alts := [], laidByText := true, laidKinds := [.listed, .data], laidTests := true, laidLooks := .later }
def ElabShapesCardSaid : Prop := Claim7.holds Tryz.pinned (.plain (OpenSpec.ofChange elabShapesSpec)) elabShapesCard

/-- THE SECOND FORM's CARD OF 'thyrsuslaw8.ElabKnown'. -/
def elabKnownUptoCard : Claim7 := { stood := { row := elabKnownUptoRow, standIns := [], harness := (true, "8b92321c8b04adc73b9afc08e016bdc5bcdd739667689657045ba984ec0204d1"), looks := false }, kinds := [], alts := [], laidByText := true, laidKinds := [.listed, .data], laidTests := true, laidLooks := .later }
def ElabKnownUptoCardSaid : Prop := Claim7.holds Tryz.pinned (.plain (OpenSpec.upto elabKnownSpec)) elabKnownUptoCard

/-- THE SECOND FORM's CARD OF 'thyrsuslaw8.ElabForms'. -/
def elabFormsUptoCard : Claim7 := { stood := { row := elabFormsUptoRow, standIns := [], harness := (true, "8b92321c8b04adc73b9afc08e016bdc5bcdd739667689657045ba984ec0204d1"), looks := false }, kinds := [], alts := [], laidByText := true, laidKinds := [.listed, .data], laidTests := true, laidLooks := .later }
def ElabFormsUptoCardSaid : Prop := Claim7.holds Tryz.pinned (.plain (OpenSpec.upto elabFormsSpec)) elabFormsUptoCard

/-- THE SECOND FORM's CARD OF 'thyrsuslaw8.ElabBinders'. -/
def elabBindersUptoCard : Claim7 := { stood := { row := elabBindersUptoRow, standIns := [], harness := (true, "8b92321c8b04adc73b9afc08e016bdc5bcdd739667689657045ba984ec0204d1"), looks := false }, kinds := [], alts := [], laidByText := true, laidKinds := [.listed, .data], laidTests := true, laidLooks := .later }
def ElabBindersUptoCardSaid : Prop := Claim7.holds Tryz.pinned (.plain (OpenSpec.upto elabBindersSpec)) elabBindersUptoCard

/-- THE SECOND FORM's CARD OF 'thyrsuslaw8.ElabShapes'. -/
def elabShapesUptoCard : Claim7 := { stood := { row := elabShapesUptoRow, standIns := [], harness := (true, "8b92321c8b04adc73b9afc08e016bdc5bcdd739667689657045ba984ec0204d1"), looks := false }, kinds := [], alts := [], laidByText := true, laidKinds := [.listed, .data], laidTests := true, laidLooks := .later }
def ElabShapesUptoCardSaid : Prop := Claim7.holds Tryz.pinned (.plain (OpenSpec.upto elabShapesSpec)) elabShapesUptoCard
end Rows
end Go.Proofs.YtdfeffddghpaoaaGreatDoor
