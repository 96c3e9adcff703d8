/- strings.Join by its contract (the library's, laid at this program's numbers). -/
import Derived.Test.YtealapdmffhbdaaGreatDoorSW2
import Derived.Test.YtealapdmffhbdaaGreatDoorEvE
import Derived.Ground.NamesProg
import Derived.Shelf.Strings.OnBuilder
set_option linter.unusedVariables false
set_option linter.unusedSectionVars false
set_option linter.unusedSimpArgs false
set_option linter.unnecessarySimpa false
namespace Go.Proofs.YtealapdmffhbdaaGreatDoor
open Go Go.Ev Go.Shelf Go.RowKit
def laysJoin_ren : Go.Shelf.Ren := ⟨fun | 156 => 85 | 165 => 25 | 166 => 26 | 169 => 28 | 240 => 47 | 241 => 48 | 276 => 69 | 277 => 70 | n => n, fun | 31 => 24 | 9 => 9 | 3 => 3 | 4 => 4 | 0 => 0 | 20 => 20 | 72 => 65 | 76 => 69 | 70 => 63 | 37 => 22 | 75 => 68 | 127 => 84 | 164 => 118 | 5 => 5 | 80 => 52 | n => n, fun | n => n⟩
theorem laysJoin : Go.Proofs.Lays.n156 Tryz.prog laysJoin_ren := {
  mixed := by kernel_rfl
  f156 := Tryz.func85.trans (congrArg some (by kernel_rfl))
  f165 := Tryz.func25.trans (congrArg some (by kernel_rfl))
  f166 := Tryz.func26.trans (congrArg some (by kernel_rfl))
  f169 := Tryz.func28.trans (congrArg some (by kernel_rfl))
  f240 := Tryz.func47.trans (congrArg some (by kernel_rfl))
  f241 := Tryz.func48.trans (congrArg some (by kernel_rfl))
  f276 := Tryz.func69.trans (congrArg some (by kernel_rfl))
  f277 := Tryz.func70.trans (congrArg some (by kernel_rfl))
  t0 := Tryz.underlying0
  a0 := Tryz.isAgg0
  z0 := Tryz.sizeOf0
  v0 := Tryz.zeroValue0
  t3 := Tryz.underlying3
  a3 := Tryz.isAgg3
  z3 := Tryz.sizeOf3
  v3 := Tryz.zeroValue3
  t4 := Tryz.underlying4
  a4 := Tryz.isAgg4
  z4 := Tryz.sizeOf4
  v4 := Tryz.zeroValue4
  t9 := Tryz.underlying9
  a9 := Tryz.isAgg9
  z9 := Tryz.sizeOf9
  v9 := Tryz.zeroValue9
  t20 := Tryz.underlying20
  a20 := Tryz.isAgg20
  z20 := Tryz.sizeOf20
  v20 := Tryz.zeroValue20
  t31 := Tryz.underlying24
  a31 := Tryz.isAgg24
  z31 := Tryz.sizeOf24
  v31 := Tryz.zeroValue24
  t37 := Tryz.underlying22
  a37 := Tryz.isAgg22
  z37 := Tryz.sizeOf22
  v37 := Tryz.zeroValue22
  t70 := Tryz.underlying63
  a70 := Tryz.isAgg63
  z70 := Tryz.sizeOf63
  v70 := Tryz.zeroValue63
  t72 := Tryz.underlying65
  a72 := Tryz.isAgg65
  z72 := Tryz.sizeOf65
  v72 := Tryz.zeroValue65
  t75 := Tryz.underlying68
  a75 := Tryz.isAgg68
  z75 := Tryz.sizeOf68
  v75 := Tryz.zeroValue68
  t76 := Tryz.underlying69
  a76 := Tryz.isAgg69
  z76 := Tryz.sizeOf69
  v76 := Tryz.zeroValue69
  t127 := Tryz.underlying84
  a127 := Tryz.isAgg84
  z127 := Tryz.sizeOf84
  v127 := Tryz.zeroValue84
  t164 := Tryz.underlying118
  a164 := Tryz.isAgg118
  z164 := Tryz.sizeOf118
  v164 := Tryz.zeroValue118 }
theorem extraJ : Go.Proofs.Builder.Extra Tryz.prog laysJoin_ren := {
  sizeBuilder := by kernel_rfl
  liesBuilder := by kernel_rfl
  t5 := Tryz.underlying5
  a5 := Tryz.isAgg5
  z5 := Tryz.sizeOf5
  v5 := Tryz.zeroValue5
  infoByte := by kernel_rfl
  cellsByte := by kernel_rfl
  sizeByte := by kernel_rfl
  neB5 := by decide }
theorem cloJ {xs : List CV} {r : CV} (h : pJoin xs = some r) : CloC Tryz.prog 85 xs r :=
  join_clo (fun a c sep w => Go.Proofs.Any.strings_Join_none laysJoin extraJ a c sep w) (fun bk o c xs sep w h1 h2 h3 h4 h5 => Go.Proofs.Any.strings_Join laysJoin extraJ bk o c xs sep w h1 h2 h3 h4 h5) h
theorem strJ {xs : List CV} {r : CV} (h : pJoin xs = some r) : ∃ t, r = .str t := by
  unfold pJoin at h
  split at h
  · rename_i x sep
    obtain ⟨ys, hy, _⟩ := lst_inv h
    split at hy
    · rcases cond_inv hy with ⟨_, e⟩ | ⟨_, e⟩
      · injection e with e; exact ⟨_, e.symm⟩
      · cases e
    · cases hy
  · cases h
theorem joinK {xs : List CV} {r : CV} (h : pJoin xs = some r) : Known 85 xs r := ⟨cloJ h, fun fn _ => by
  obtain ⟨t, rfl⟩ := strJ h
  unfold resOk
  cases plainRes cfg0 fn <;> rfl⟩
end Go.Proofs.YtealapdmffhbdaaGreatDoor
