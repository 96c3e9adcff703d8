/-
  DERIVED. GIVEN WITH THE SEED: THE CARDS: each row of YtgmgdijphklogaaGreatDoorRows.lean that lists a variable, with what it lists TIED to the program's text (the seventh form; the later family's looks); each row that meets fmt, with fmt's text TOLD by the authors' own Lean function (tested against real Go, not proved from fmt's source: count such statements apart). THE CARD IS WHAT COUNTS. Prove the row's statement (the work); the ties are given (YtgmgdijphklogaaGreatDoorTie.lean); close each card by the builder's one call (the guide's Derived/Test/ToyasCard.lean, 'card_holds'). Laid BY PROGRAM, IN A SANDBOX (cutbox-door.mjs). By AI agents, Wed Nov 11 2026. No macro, syntax, notation, axiom, sorry.
-/
import Derived.Test.YtgmgdijphklogaaGreatDoorRows
import GoSem.ClaimSeven
namespace Go.Proofs.YtgmgdijphklogaaGreatDoor
namespace Rows

/-- THE TIED CARD OF 'thyrsuslaw14.UnitAny'. -/
def unitAnyCard : Claim7 := { stood := { row := unitAnyRow, standIns := [], harness := (true, "61834842133ea4e393d064348186a3baf7e4eaa91190344205f2e8367787017c"), looks := true }, kinds := [], alts := [], laidByText := true, laidKinds := [.listed, .data], laidTests := true, laidLooks := .later }
def UnitAnyCardSaid : Prop := Claim7.holds Tryz.pinned (.plain (OpenSpec.ofChange unitAnySpec)) unitAnyCard

/-- THE TIED CARD OF 'thyrsuslaw14.UnitMany'. -/
def unitManyCard : Claim7 := { stood := { row := unitManyRow, standIns := [], harness := (true, "61834842133ea4e393d064348186a3baf7e4eaa91190344205f2e8367787017c"), looks := true }, kinds := [], alts := [], laidByText := true, laidKinds := [.listed, .data], laidTests := true, laidLooks := .later }
def UnitManyCardSaid : Prop := Claim7.holds Tryz.pinned (.plain (OpenSpec.ofChange unitManySpec)) unitManyCard

/-- THE TIED CARD OF 'thyrsuslaw14.UnitKnown'. -/
def unitKnownCard : Claim7 := { stood := { row := unitKnownRow, standIns := [], harness := (true, "61834842133ea4e393d064348186a3baf7e4eaa91190344205f2e8367787017c"), looks := true }, kinds := [], alts := [], laidByText := true, laidKinds := [.listed, .data], laidTests := true, laidLooks := .later }
def UnitKnownCardSaid : Prop := Claim7.holds Tryz.pinned (.plain (OpenSpec.ofChange unitKnownSpec)) unitKnownCard

/-- THE TIED CARD OF 'thyrsuslaw8.ElabNames'. -/
def elabNamesCard : Claim7 := { stood := { row := elabNamesRow, standIns := [], harness := (true, "61834842133ea4e393d064348186a3baf7e4eaa91190344205f2e8367787017c"), looks := true }, kinds := [], alts := [], laidByText := true, laidKinds := [.listed, .data], laidTests := true, laidLooks := .later }
def ElabNamesCardSaid : Prop := Claim7.holds Tryz.pinned (.plain (OpenSpec.ofChange elabNamesSpec)) elabNamesCard

/-- THE SECOND FORM's CARD OF 'thyrsuslaw14.UnitAny'. -/
def unitAnyUptoCard : Claim7 := { stood := { row := unitAnyUptoRow, standIns := [], harness := (true, "61834842133ea4e393d064348186a3baf7e4eaa91190344205f2e8367787017c"), looks := true }, kinds := [], alts := [], laidByText := true, laidKinds := [.listed, .data], laidTests := true, laidLooks := .later }
def UnitAnyUptoCardSaid : Prop := Claim7.holds Tryz.pinned (.plain (OpenSpec.upto unitAnySpec)) unitAnyUptoCard

/-- THE SECOND FORM's CARD OF 'thyrsuslaw14.UnitMany'. -/
def unitManyUptoCard : Claim7 := { stood := { row := unitManyUptoRow, standIns := [], harness := (true, "61834842133ea4e393d064348186a3baf7e4eaa91190344205f2e8367787017c"), looks := true }, kinds := [], alts := [], laidByText := true, laidKinds := [.listed, .data], laidTests := true, laidLooks := .later }
def UnitManyUptoCardSaid : Prop := Claim7.holds Tryz.pinned (.plain (OpenSpec.upto unitManySpec)) unitManyUptoCard

/-- THE SECOND FORM's CARD OF 'thyrsuslaw14.UnitKnown'. -/
def unitKnownUptoCard : Claim7 := { stood := { row := unitKnownUptoRow, standIns := [], harness := (true, "61834842133ea4e393d064348186a3baf7e4eaa91190344205f2e8367787017c"), looks := true }, kinds := [], alts := [], laidByText := true, laidKinds := [.listed, .data], laidTests := true, laidLooks := .later }
def UnitKnownUptoCardSaid : Prop := Claim7.holds Tryz.pinned (.plain (OpenSpec.upto unitKnownSpec)) unitKnownUptoCard

/-- THE SECOND FORM's CARD OF 'thyrsuslaw8.ElabNames'. -/
def elabNamesUptoCard : Claim7 := { stood := { row := elabNamesUptoRow, standIns := [], harness := (true, "61834842133ea4e393d064348186a3baf7e4eaa91190344205f2e8367787017c"), looks := true }, kinds := [], alts := [], laidByText := true, laidKinds := [.listed, .data], laidTests := true, laidLooks := .later }
def ElabNamesUptoCardSaid : Prop := Claim7.holds Tryz.pinned (.plain (OpenSpec.upto elabNamesSpec)) elabNamesUptoCard
end Rows
end Go.Proofs.YtgmgdijphklogaaGreatDoor
