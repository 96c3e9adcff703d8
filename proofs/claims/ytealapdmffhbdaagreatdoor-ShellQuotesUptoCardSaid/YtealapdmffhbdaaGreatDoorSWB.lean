/- What the rows' listed variable says: strings.asciiSpace holds its numbers; the interpreter's base. -/
import Derived.Test.YtealapdmffhbdaaGreatDoorSW1
import Derived.Test.YtealapdmffhbdaaGreatDoorEvE
import Derived.Test.YtealapdmffhbdaaGreatDoorCards
import Derived.Test.YtealapdmffhbdaaGreatDoorTie
import Derived.WalkKit
import Derived.ProofKit
import Derived.Handy
import Derived.Lay
import Derived.SevenTiedAt
import Derived.LaidSub
set_option linter.unusedVariables false
set_option linter.unusedSectionVars false
set_option linter.unusedSimpArgs false
set_option linter.unnecessarySimpa false
namespace Go.Proofs.YtealapdmffhbdaaGreatDoor
open Go Go.Ev Go.RowKit
def asciiZ : List Int := [0, 0, 0, 0, 0, 0, 0, 0, 0, 1, 1, 1, 1, 1, 0, 0, 0, 0, 0, 0, 0, 0, 0, 0, 0, 0, 0, 0, 0, 0, 0, 0, 1, 0, 0, 0, 0, 0, 0, 0, 0, 0, 0, 0, 0, 0, 0, 0, 0, 0, 0, 0, 0, 0, 0, 0, 0, 0, 0, 0, 0, 0, 0, 0, 0, 0, 0, 0, 0, 0, 0, 0, 0, 0, 0, 0, 0, 0, 0, 0, 0, 0, 0, 0, 0, 0, 0, 0, 0, 0, 0, 0, 0, 0, 0, 0, 0, 0, 0, 0, 0, 0, 0, 0, 0, 0, 0, 0, 0, 0, 0, 0, 0, 0, 0, 0, 0, 0, 0, 0, 0, 0, 0, 0, 0, 0, 0, 0, 0, 0, 0, 0, 0, 0, 0, 0, 0, 0, 0, 0, 0, 0, 0, 0, 0, 0, 0, 0, 0, 0, 0, 0, 0, 0, 0, 0, 0, 0, 0, 0, 0, 0, 0, 0, 0, 0, 0, 0, 0, 0, 0, 0, 0, 0, 0, 0, 0, 0, 0, 0, 0, 0, 0, 0, 0, 0, 0, 0, 0, 0, 0, 0, 0, 0, 0, 0, 0, 0, 0, 0, 0, 0, 0, 0, 0, 0, 0, 0, 0, 0, 0, 0, 0, 0, 0, 0, 0, 0, 0, 0, 0, 0, 0, 0, 0, 0, 0, 0, 0, 0, 0, 0, 0, 0, 0, 0, 0, 0, 0, 0, 0, 0, 0, 0, 0, 0, 0, 0, 0, 0, 0, 0, 0, 0, 0, 0]
theorem ascii_is : ascii = asciiZ.map fun z => CV.int .u8 z := by kernel_rfl
def laid2 : List (String × DataW Unit) := [("math/bits.deBruijn32tab", Rows.laid_math_bits_deBruijn32tab), ("math/bits.deBruijn64tab", Rows.laid_math_bits_deBruijn64tab), ("internal/strconv.uint64pow10", Rows.laid_internal_strconv_uint64pow10), ("unicode/utf8.acceptRanges", Rows.laid_unicode_utf8_acceptRanges), ("strconv.ErrRange", Rows.laid_strconv_ErrRange), ("strconv.ErrSyntax", Rows.laid_strconv_ErrSyntax), ("unicode.White_Space", Rows.laid_unicode_White_Space), ("strings.asciiSpace", Rows.laid_strings_asciiSpace), ("unicode/utf8.first", Rows.laid_unicode_utf8_first)]
def onlyTab (x : String × DataW Unit) : Bool := x.1 == "strings.asciiSpace"
theorem laid2_tab : laid2.filter onlyTab = [("strings.asciiSpace", Lib.tabData .u8 asciiZ)] := by kernel_rfl
theorem asciiZ_len : asciiZ.length = 256 := by kernel_rfl
theorem gTab : Tryz.prog.globalNamed "strings.asciiSpace" = some 5 := by kernel_rfl
theorem gTabType : (Tryz.prog.globals[5]?).map (·.type) = some 151 := by kernel_rfl
theorem cells84 : Tryz.prog.cellsOf 151 = 256 := by kernel_rfl
theorem cells5 : Tryz.prog.cellsOf 5 = 1 := by kernel_rfl
theorem under84 : Tryz.prog.underlying 151 = some (.array 256 5) := by kernel_rfl
theorem under5 : Tryz.prog.underlying 5 = some (.int .u8) := by kernel_rfl
theorem table {W : World} (h : laidMetH Tryz.prog laid2 W) : Lib.TabIs Tryz.prog W "strings.asciiSpace" .u8 asciiZ := by
  have h1 := laidMetH.filter onlyTab h
  rw [laid2_tab] at h1
  exact Lib.tabIs_of_head (rest := []) gTab gTabType under84 under5 cells5 cells84 h1
theorem base {W : World} (h : laidMetH Tryz.prog laid2 W) : Base W (immI W) := by
  intro g p hg
  have hc : ∀ i, i < asciiZ.length → W.cell? ⟨5, i, none⟩ = some (.int .u8 (asciiZ.getD i 0)) := fun i hi => (table h).cell gTab i hi
  have h0 : W.cell? ⟨5, 0, none⟩ = some (.int .u8 (asciiZ.getD 0 0)) := hc 0 (by rw [asciiZ_len]; omega)
  unfold Glob.glob glob at hg
  dsimp only at hg
  split at hg
  · injection hg with hg
    subst hg
    refine ⟨immI_lt (block_lt h0), _, memAt_tab hc, ?_⟩
    show VRs W (immI W) ascii _
    rw [ascii_is]
    exact vrs_tab asciiZ
  · cases hg
theorem own : ownKnob Tryz.prog.godebug = none := by kernel_rfl
theorem laidPlain : (laid2.all fun x => x.2.handleName?.isNone) = true := by kernel_rfl
end Go.Proofs.YtealapdmffhbdaaGreatDoor
