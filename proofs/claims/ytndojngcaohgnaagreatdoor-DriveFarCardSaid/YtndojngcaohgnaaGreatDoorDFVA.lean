/- Arguments and answers of calls. -/
import Derived.Test.YtndojngcaohgnaaGreatDoorDF2
set_option linter.unusedVariables false
set_option linter.unusedSectionVars false
set_option linter.unusedSimpArgs false
set_option linter.unnecessarySimpa false
namespace Go.Proofs.YtndojngcaohgnaaGreatDoor
open Go Go.Ev
noncomputable def v8 : CV := .str ⟨#[102, 110]⟩
noncomputable def v9 : CV := .str ⟨#[112, 105]⟩
noncomputable def v10 : CV := .str ⟨#[115, 105, 103]⟩
noncomputable def v21 : CV := .str ⟨#[97, 100, 100]⟩
noncomputable def v22 : CV := .str ⟨#[115, 117, 98]⟩
noncomputable def v23 : CV := .str ⟨#[109, 117, 108]⟩
noncomputable def v24 : CV := .str ⟨#[100, 105, 118]⟩
noncomputable def v25 : CV := .str ⟨#[108, 101, 115, 115]⟩
noncomputable def v27 : CV := .str ⟨#[108, 101, 116]⟩
noncomputable def v28 : CV := .str ⟨#[102, 105, 120]⟩
noncomputable def v60 : CV := .ag [.int .i64 15, .int .i64 0, .im []]
noncomputable def v64 : CV := .ag [.int .i64 25, .int .i64 1, .im []]
noncomputable def v69 : CV := .im [v64, .ag [.int .i64 26, .int .i64 3, .im [v64, .ag [.int .i64 25, .int .i64 0, .im []]]]]
noncomputable def x65 : List CV := [.str ⟨#[85, 48, 32, 85, 49, 32, 85, 50, 32, 78, 97, 116, 32, 122, 101, 114, 111, 32, 84, 121, 32, 73, 110, 116, 32, 102, 110, 32, 112, 105, 32, 115, 105, 103, 32, 45, 62, 32, 42, 32, 112, 97, 105, 114, 32, 102, 115, 116, 32, 115, 110, 100, 32, 115, 117, 99, 32, 114, 101, 99, 32, 108, 105, 102, 116, 32, 113, 117, 111, 116, 101, 32, 115, 112, 108, 105, 99, 101, 32, 97, 100, 100, 32, 115, 117, 98, 32, 109, 117, 108, 32, 100, 105, 118, 32, 108, 101, 115, 115, 32, 105, 102, 32, 108, 101, 116, 32, 102, 105, 120, 32, 116, 104, 101, 32, 100, 101, 102]⟩]
noncomputable def y65 : CV := .im [.str ⟨#[85, 48]⟩, .str ⟨#[85, 49]⟩, .str ⟨#[85, 50]⟩, .str ⟨#[78, 97, 116]⟩, .str ⟨#[122, 101, 114, 111]⟩, .str ⟨#[84, 121]⟩, .str ⟨#[73, 110, 116]⟩, v8, v9, v10, .str ⟨#[45, 62]⟩, .str ⟨#[42]⟩, .str ⟨#[112, 97, 105, 114]⟩, .str ⟨#[102, 115, 116]⟩, .str ⟨#[115, 110, 100]⟩, .str ⟨#[115, 117, 99]⟩, .str ⟨#[114, 101, 99]⟩, .str ⟨#[108, 105, 102, 116]⟩, .str ⟨#[113, 117, 111, 116, 101]⟩, .str ⟨#[115, 112, 108, 105, 99, 101]⟩, v21, v22, v23, v24, v25, .str ⟨#[105, 102]⟩, v27, v28, .str ⟨#[116, 104, 101]⟩, .str ⟨#[100, 101, 102]⟩]
noncomputable def x80 : List CV := [.im [v8, v9, v10, v27, v28], .str ⟨#[]⟩]
noncomputable def y80 : CV := .bool false
noncomputable def x140 : List CV := [.str ⟨#[40, 100, 101, 102, 32, 109, 97, 105, 110, 32, 49, 41]⟩, .im [], .int .i64 5]
noncomputable def y140 : CV := .tp [.ag [.int .i64 8, .int .i64 25, .int .i64 1, .im [], .int .i64 15, .int .i64 0, .im [], .int .i64 25, .int .i64 1, .im [], .int .i64 1, .int .i64 1, .im []], .int .i64 0]
noncomputable def x141 : List CV := []
noncomputable def y141 : CV := .bool true
noncomputable def x149 : List CV := [.str ⟨#[40]⟩, .im [], .int .i64 5]
noncomputable def y149 : CV := .tp [.ag [.int .i64 0, .int .i64 0, .int .i64 0, .im [], .int .i64 0, .int .i64 0, .im [], .int .i64 0, .int .i64 0, .im [], .int .i64 0, .int .i64 0, .im []], .int .i64 7]
noncomputable def x182 : List CV := [.str ⟨#[40, 100, 101, 102, 32, 120, 32, 49, 41]⟩, .im [], .int .i64 5]
noncomputable def y182 : CV := .tp [.ag [.int .i64 1, .int .i64 0, .int .i64 0, .im [], .int .i64 0, .int .i64 0, .im [], .int .i64 0, .int .i64 0, .im [], .int .i64 0, .int .i64 0, .im []], .int .i64 8]
noncomputable def x262 : List CV := [.str ⟨#[40, 100, 101, 102, 32, 109, 97, 105, 110, 32, 122, 101, 114, 111, 41]⟩, .im [], .int .i64 5]
noncomputable def y262 : CV := .tp [.ag [.int .i64 2, .int .i64 0, .int .i64 0, .im [], .int .i64 0, .int .i64 0, .im [], .int .i64 0, .int .i64 0, .im [], .int .i64 0, .int .i64 0, .im []], .int .i64 10]
noncomputable def x400 : List CV := [.str ⟨#[97, 100, 100, 32, 115, 117, 98, 32, 109, 117, 108, 32, 100, 105, 118, 32, 108, 101, 115, 115]⟩]
noncomputable def y400 : CV := .im [v21, v22, v23, v24, v25]
noncomputable def x407 : List CV := [v60, v60]
noncomputable def y407 : CV := .tp [.bool true, .int .i64 0]
noncomputable def x485 : List CV := [.str ⟨#[40, 100, 101, 102, 32, 109, 97, 105, 110, 32, 40, 97, 100, 100, 32, 49, 32, 40, 100, 105, 118, 32, 49, 32, 48, 41, 41, 41]⟩, .im [], .int .i64 5]
noncomputable def y485 : CV := .tp [.ag [.int .i64 7, .int .i64 26, .int .i64 0, v69, .int .i64 15, .int .i64 0, .im [], .int .i64 26, .int .i64 0, v69, .int .i64 0, .int .i64 0, .im []], .int .i64 18]
end Go.Proofs.YtndojngcaohgnaaGreatDoor
