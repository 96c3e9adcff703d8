/- Arguments and answers of calls. -/
import Derived.Test.YtealapdmffhbdaaGreatDoorSWJ
set_option linter.unusedVariables false
set_option linter.unusedSectionVars false
set_option linter.unusedSimpArgs false
set_option linter.unnecessarySimpa false
namespace Go.Proofs.YtealapdmffhbdaaGreatDoor
open Go Go.Ev
noncomputable def v35 : CV := .ag [.int .i64 15, .int .i64 0, .im []]
noncomputable def v47 : CV := .im [.ag [.int .i64 25, .int .i64 1, .im []], .ag [.int .i64 25, .int .i64 2, .im []]]
noncomputable def x140 : List CV := [.str ⟨#[85, 48, 32, 85, 49, 32, 85, 50, 32, 78, 97, 116, 32, 122, 101, 114, 111, 32, 84, 121, 32, 73, 110, 116, 32, 102, 110, 32, 112, 105, 32, 115, 105, 103, 32, 45, 62, 32, 42, 32, 112, 97, 105, 114, 32, 102, 115, 116, 32, 115, 110, 100, 32, 115, 117, 99, 32, 114, 101, 99, 32, 108, 105, 102, 116, 32, 113, 117, 111, 116, 101, 32, 115, 112, 108, 105, 99, 101, 32, 97, 100, 100, 32, 115, 117, 98, 32, 109, 117, 108, 32, 100, 105, 118, 32, 108, 101, 115, 115, 32, 105, 102, 32, 108, 101, 116, 32, 102, 105, 120, 32, 116, 104, 101, 32, 100, 101, 102]⟩]
noncomputable def y140 : CV := .im [.str ⟨#[85, 48]⟩, .str ⟨#[85, 49]⟩, .str ⟨#[85, 50]⟩, .str ⟨#[78, 97, 116]⟩, .str ⟨#[122, 101, 114, 111]⟩, .str ⟨#[84, 121]⟩, .str ⟨#[73, 110, 116]⟩, .str ⟨#[102, 110]⟩, .str ⟨#[112, 105]⟩, .str ⟨#[115, 105, 103]⟩, .str ⟨#[45, 62]⟩, .str ⟨#[42]⟩, .str ⟨#[112, 97, 105, 114]⟩, .str ⟨#[102, 115, 116]⟩, .str ⟨#[115, 110, 100]⟩, .str ⟨#[115, 117, 99]⟩, .str ⟨#[114, 101, 99]⟩, .str ⟨#[108, 105, 102, 116]⟩, .str ⟨#[113, 117, 111, 116, 101]⟩, .str ⟨#[115, 112, 108, 105, 99, 101]⟩, .str ⟨#[97, 100, 100]⟩, .str ⟨#[115, 117, 98]⟩, .str ⟨#[109, 117, 108]⟩, .str ⟨#[100, 105, 118]⟩, .str ⟨#[108, 101, 115, 115]⟩, .str ⟨#[105, 102]⟩, .str ⟨#[108, 101, 116]⟩, .str ⟨#[102, 105, 120]⟩, .str ⟨#[116, 104, 101]⟩, .str ⟨#[100, 101, 102]⟩]
noncomputable def x207 : List CV := [v35, v35]
noncomputable def y207 : CV := .tp [.bool true, .int .i64 0]
noncomputable def x288 : List CV := [.str ⟨#[40, 100, 101, 102, 32, 109, 97, 105, 110, 32, 40, 97, 100, 100, 32, 49, 32, 50, 41, 41, 10]⟩, .im [], .int .i64 9]
noncomputable def y288 : CV := .tp [.ag [.int .i64 8, .int .i64 26, .int .i64 0, v47, .int .i64 15, .int .i64 0, .im [], .int .i64 26, .int .i64 0, v47, .int .i64 1, .int .i64 3, .im []], .int .i64 0]
noncomputable def x296 : List CV := [.im [.str ⟨#[111, 107]⟩, .str ⟨#[34, 51, 34]⟩], .str ⟨#[32]⟩]
noncomputable def y296 : CV := .str ⟨#[111, 107, 32, 34, 51, 34]⟩
end Go.Proofs.YtealapdmffhbdaaGreatDoor
