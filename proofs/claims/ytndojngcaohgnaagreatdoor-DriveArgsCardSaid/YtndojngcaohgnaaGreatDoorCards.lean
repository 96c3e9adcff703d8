/-
  DERIVED. GIVEN WITH THE SEED: THE CARDS: each row of YtndojngcaohgnaaGreatDoorRows.lean that lists a variable, with what it lists TIED to the program's text (the seventh form; the later family's looks); each row that meets fmt, with fmt's text TOLD by the authors' own Lean function (tested against real Go, not proved from fmt's source: count such statements apart). THE CARD IS WHAT COUNTS. Prove the row's statement (the work); the ties are given (YtndojngcaohgnaaGreatDoorTie.lean); close each card by the builder's one call (the guide's Derived/Test/ToyasCard.lean, 'card_holds'). Laid BY PROGRAM, IN A SANDBOX (cutbox-door.mjs). By AI agents, Wed Nov 11 2026. No macro, syntax, notation, axiom, sorry.
-/
import Derived.Test.YtndojngcaohgnaaGreatDoorRows
import GoSem.ClaimSeven
namespace Go.Proofs.YtndojngcaohgnaaGreatDoor
namespace Rows

/-- THE TIED CARD OF 'thyrsuslaw15.DrivePower'. -/
def drivePowerCard : Claim7 := { stood := { row := drivePowerRow, standIns := [], harness := (true, "8e37ce38e998c87d46b905e8bda3510a2f493ed249ea9c0c773d3266c0d32980"), looks := true }, kinds := [], alts := [], laidByText := true, laidKinds := [.listed, .data], laidTests := true, laidLooks := .later }
def DrivePowerCardSaid : Prop := Claim7.holds Tryz.pinned (.plain (OpenSpec.ofChange drivePowerSpec)) drivePowerCard

/-- THE TIED CARD OF 'thyrsuslaw15.DriveFar'. -/
def driveFarCard : Claim7 := { stood := { row := driveFarRow, standIns := [], harness := (true, "8e37ce38e998c87d46b905e8bda3510a2f493ed249ea9c0c773d3266c0d32980"), looks := true }, kinds := [], alts := [], laidByText := true, laidKinds := [.listed, .data], laidTests := true, laidLooks := .later }
def DriveFarCardSaid : Prop := Claim7.holds Tryz.pinned (.plain (OpenSpec.ofChange driveFarSpec)) driveFarCard

/-- THE TIED CARD OF 'thyrsuslaw15.DriveKnown'. -/
def driveKnownCard : Claim7 := { stood := { row := driveKnownRow, standIns := [], harness := (true, "8e37ce38e998c87d46b905e8bda3510a2f493ed249ea9c0c773d3266c0d32980"), looks := true }, kinds := [], alts := [], laidByText := true, laidKinds := [.listed, .data], laidTests := true, laidLooks := .later }
def DriveKnownCardSaid : Prop := Claim7.holds Tryz.pinned (.plain (OpenSpec.ofChange driveKnownSpec)) driveKnownCard

/-- THE TIED CARD OF 'thyrsuslaw15.DriveArgs'. -/
def driveArgsCard : Claim7 := { stood := { row := driveArgsRow, standIns := [], harness := (true, "8e37ce38e998c87d46b905e8bda3510a2f493ed249ea9c0c773d3266c0d32980"), looks := true }, kinds := [], alts := [], laidByText := true, laidKinds := [.listed, .data], laidTests := true, laidLooks := .later }
def DriveArgsCardSaid : Prop := Claim7.holds Tryz.pinned (.plain (OpenSpec.ofChange driveArgsSpec)) driveArgsCard

/-- THE TIED CARD OF 'thyrsuslaw15.DriveTypes'. -/
def driveTypesCard : Claim7 := { stood := { row := driveTypesRow, standIns := [], harness := (true, "8e37ce38e998c87d46b905e8bda3510a2f493ed249ea9c0c773d3266c0d32980"), looks := true }, kinds := [], alts := [], laidByText := true, laidKinds := [.listed, .data], laidTests := true, laidLooks := .later }
def DriveTypesCardSaid : Prop := Claim7.holds Tryz.pinned (.plain (OpenSpec.ofChange driveTypesSpec)) driveTypesCard

/-- THE SECOND FORM's CARD OF 'thyrsuslaw15.DrivePower'. -/
def drivePowerUptoCard : Claim7 := { stood := { row := drivePowerUptoRow, standIns := [], harness := (true, "8e37ce38e998c87d46b905e8bda3510a2f493ed249ea9c0c773d3266c0d32980"), looks := true }, kinds := [], alts := [], laidByText := true, laidKinds := [.listed, .data], laidTests := true, laidLooks := .later }
def DrivePowerUptoCardSaid : Prop := Claim7.holds Tryz.pinned (.plain (OpenSpec.upto drivePowerSpec)) drivePowerUptoCard

/-- THE SECOND FORM's CARD OF 'thyrsuslaw15.DriveFar'. -/
def driveFarUptoCard : Claim7 := { stood := { row := driveFarUptoRow, standIns := [], harness := (true, "8e37ce38e998c87d46b905e8bda3510a2f493ed249ea9c0c773d3266c0d32980"), looks := true }, kinds := [], alts := [], laidByText := true, laidKinds := [.listed, .data], laidTests := true, laidLooks := .later }
def DriveFarUptoCardSaid : Prop := Claim7.holds Tryz.pinned (.plain (OpenSpec.upto driveFarSpec)) driveFarUptoCard

/-- THE SECOND FORM's CARD OF 'thyrsuslaw15.DriveKnown'. -/
def driveKnownUptoCard : Claim7 := { stood := { row := driveKnownUptoRow, standIns := [], harness := (true, "8e37ce38e998c87d46b905e8bda3510a2f493ed249ea9c0c773d3266c0d32980"), looks := true }, kinds := [], alts := [], laidByText := true, laidKinds := [.listed, .data], laidTests := true, laidLooks := .later }
def DriveKnownUptoCardSaid : Prop := Claim7.holds Tryz.pinned (.plain (OpenSpec.upto driveKnownSpec)) driveKnownUptoCard

/-- THE SECOND FORM's CARD OF 'thyrsuslaw15.DriveArgs'. -/
def driveArgsUptoCard : Claim7 := { stood := { row := driveArgsUptoRow, standIns := [], harness := (true, "8e37ce38e998c87d46b905e8bda3510a2f493ed249ea9c0c773d3266c0d32980"), looks := true }, kinds := [], alts := [], laidByText := true, laidKinds := [.listed, .data], laidTests := true, laidLooks := .later }
def DriveArgsUptoCardSaid : Prop := Claim7.holds Tryz.pinned (.plain (OpenSpec.upto driveArgsSpec)) driveArgsUptoCard

/-- THE SECOND FORM's CARD OF 'thyrsuslaw15.DriveTypes'. -/
def driveTypesUptoCard : Claim7 := { stood := { row := driveTypesUptoRow, standIns := [], harness := (true, "8e37ce38e998c87d46b905e8bda3510a2f493ed249ea9c0c773d3266c0d32980"), looks := true }, kinds := [], alts := [], laidByText := true, laidKinds := [.listed, .data], laidTests := true, laidLooks := .later }
def DriveTypesUptoCardSaid : Prop := Claim7.holds Tryz.pinned (.plain (OpenSpec.upto driveTypesSpec)) driveTypesUptoCard
end Rows
end Go.Proofs.YtndojngcaohgnaaGreatDoor
