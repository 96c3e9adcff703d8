/-
  DERIVED. GIVEN WITH THE SEED: THE CARDS: each row of YtglpigiakbfcaaaGreatDoorRows.lean that lists a variable, with what it lists TIED to the program's text (the seventh form; the later family's looks); each row that meets fmt, with fmt's text TOLD by the authors' own Lean function (tested against real Go, not proved from fmt's source: count such statements apart). THE CARD IS WHAT COUNTS. Prove the row's statement (the work); the ties are given (YtglpigiakbfcaaaGreatDoorTie.lean); close each card by the builder's one call (the guide's Derived/Test/ToyasCard.lean, 'card_holds'). Laid BY PROGRAM, IN A SANDBOX (cutbox-door.mjs). By AI agents, Wed Nov 11 2026. No macro, syntax, notation, axiom, sorry.
-/
import Derived.Test.YtglpigiakbfcaaaGreatDoorRows
import GoSem.ClaimSeven
namespace Go.Proofs.YtglpigiakbfcaaaGreatDoor
namespace Rows

/-- THE TIED CARD OF 'thyrsuslaw16.ShellKnown'. -/
def shellKnownCard : Claim7 := { stood := { row := shellKnownRow, standIns := [], harness := (true, "9dd302cec25004f619a6e938a7a365d943f2beb3ac632a1bc66f5315bd6ffb12"), looks := true }, kinds := [], alts := [], laidByText := true, laidKinds := [.data, .data, .data, .data, .sentinel, .sentinel, .listed, .data, .pinned], laidTests := true, laidLooks := .later }
def ShellKnownCardSaid : Prop := Claim7.holds Tryz.pinned (.plain (OpenSpec.ofChange shellKnownSpec)) shellKnownCard

/-- THE SECOND FORM's CARD OF 'thyrsuslaw16.ShellKnown'. -/
def shellKnownUptoCard : Claim7 := { stood := { row := shellKnownUptoRow, standIns := [], harness := (true, "9dd302cec25004f619a6e938a7a365d943f2beb3ac632a1bc66f5315bd6ffb12"), looks := true }, kinds := [], alts := [], laidByText := true, laidKinds := [.data, .data, .data, .data, .sentinel, .sentinel, .listed, .data, .pinned], laidTests := true, laidLooks := .later }
def ShellKnownUptoCardSaid : Prop := Claim7.holds Tryz.pinned (.plain (OpenSpec.upto shellKnownSpec)) shellKnownUptoCard
end Rows
end Go.Proofs.YtglpigiakbfcaaaGreatDoor
