/-
  DERIVED. GIVEN WITH THE SEED: THE CARDS: each row of YthndchidnkbgiaaGreatDoorRows.lean that lists a variable, with what it lists TIED to the program's text (the seventh form; the later family's looks); each row that meets fmt, with fmt's text TOLD by the authors' own Lean function (tested against real Go, not proved from fmt's source: count such statements apart). THE CARD IS WHAT COUNTS. Prove the row's statement (the work); the ties are given (YthndchidnkbgiaaGreatDoorTie.lean); close each card by the builder's one call (the guide's Derived/Test/ToyasCard.lean, 'card_holds'). Laid BY PROGRAM, IN A SANDBOX (cutbox-door.mjs). By AI agents, Wed Nov 11 2026. No macro, syntax, notation, axiom, sorry.
-/
import Derived.Test.YthndchidnkbgiaaGreatDoorRows
import GoSem.ClaimSeven
namespace Go.Proofs.YthndchidnkbgiaaGreatDoor
namespace Rows

/-- THE TIED CARD OF 'thyrsuslaw15.DriveTypes'. -/
def driveTypesCard : Claim7 := { stood := { row := driveTypesRow, standIns := [], harness := (true, "fc236a460c21ccb78c438a836131c4e06dbc3799f0552fa12b72855daf6e94ae"), looks := true }, kinds := [], alts := [], laidByText := true, laidKinds := [.listed, .data], laidTests := true, laidLooks := .later }
def DriveTypesCardSaid : Prop := Claim7.holds Tryz.pinned (.plain (OpenSpec.ofChange driveTypesSpec)) driveTypesCard

/-- THE SECOND FORM's CARD OF 'thyrsuslaw15.DriveTypes'. -/
def driveTypesUptoCard : Claim7 := { stood := { row := driveTypesUptoRow, standIns := [], harness := (true, "fc236a460c21ccb78c438a836131c4e06dbc3799f0552fa12b72855daf6e94ae"), looks := true }, kinds := [], alts := [], laidByText := true, laidKinds := [.listed, .data], laidTests := true, laidLooks := .later }
def DriveTypesUptoCardSaid : Prop := Claim7.holds Tryz.pinned (.plain (OpenSpec.upto driveTypesSpec)) driveTypesUptoCard
end Rows
end Go.Proofs.YthndchidnkbgiaaGreatDoor
