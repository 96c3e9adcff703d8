/-
  DERIVED. GIVEN WITH THE SEED: THE CARDS: each row of YtmhemnlcgjebkaaGreatDoorRows.lean that lists a variable, with what it lists TIED to the program's text (the seventh form; the later family's looks); each row that meets fmt, with fmt's text TOLD by the authors' own Lean function (tested against real Go, not proved from fmt's source: count such statements apart). THE CARD IS WHAT COUNTS. Prove the row's statement (the work); the ties are given (YtmhemnlcgjebkaaGreatDoorTie.lean); close each card by the builder's one call (the guide's Derived/Test/ToyasCard.lean, 'card_holds'). Laid BY PROGRAM, IN A SANDBOX (cutbox-door.mjs). By AI agents, Wed Nov 11 2026. No macro, syntax, notation, axiom, sorry.
-/
import Derived.Test.YtmhemnlcgjebkaaGreatDoorRows
import GoSem.ClaimSeven
namespace Go.Proofs.YtmhemnlcgjebkaaGreatDoor
namespace Rows

/-- THE TIED CARD OF 'thyrsuslaw14.UnitMany'. -/
def unitManyCard : Claim7 := { stood := { row := unitManyRow, standIns := [], harness := (true, "ba714b1670a719b74b9f09e760fb83df8d8711622670ab5de1f45a152222e988"), looks := true }, kinds := [], alts := [], laidByText := true, laidKinds := [.listed, .data], laidTests := true, laidLooks := .later }
def UnitManyCardSaid : Prop := Claim7.holds Tryz.pinned (.plain (OpenSpec.ofChange unitManySpec)) unitManyCard

/-- THE SECOND FORM's CARD OF 'thyrsuslaw14.UnitMany'. -/
def unitManyUptoCard : Claim7 := { stood := { row := unitManyUptoRow, standIns := [], harness := (true, "ba714b1670a719b74b9f09e760fb83df8d8711622670ab5de1f45a152222e988"), looks := true }, kinds := [], alts := [], laidByText := true, laidKinds := [.listed, .data], laidTests := true, laidLooks := .later }
def UnitManyUptoCardSaid : Prop := Claim7.holds Tryz.pinned (.plain (OpenSpec.upto unitManySpec)) unitManyUptoCard
end Rows
end Go.Proofs.YtmhemnlcgjebkaaGreatDoor
