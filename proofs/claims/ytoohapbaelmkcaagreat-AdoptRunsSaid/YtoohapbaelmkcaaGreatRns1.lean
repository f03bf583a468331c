/- What the row of this folder leans on, part 1: the walks of the functions and the laws of what they compute; no condition. -/
import Derived.Test.YtoohapbaelmkcaaGreatRns0
set_option linter.unusedVariables false
set_option linter.unusedSimpArgs false
section
set_option linter.unusedVariables false
namespace Go.Proofs.YtoohapbaelmkcaaGreat
open Go Go.Hb
instance : Und Tryz.prog 3 (.int .i64) := ⟨Tryz.underlying3⟩
instance : Lay Tryz.prog 3 false 1 := ⟨Tryz.isAgg3, Tryz.sizeOf3⟩
instance : Zer Tryz.prog 3 (.int .i64 0) := ⟨Tryz.zeroValue3⟩
instance : Elt Tryz.prog 3 1 8 (.int .i64 0) := Elt.mk' Tryz.typeInfo3 rfl rfl rfl rfl
instance : Und Tryz.prog 4 (.bool) := ⟨Tryz.underlying4⟩
instance : Lay Tryz.prog 4 false 1 := ⟨Tryz.isAgg4, Tryz.sizeOf4⟩
instance : Und Tryz.prog 9 (.string) := ⟨Tryz.underlying9⟩
instance : Lay Tryz.prog 9 false 1 := ⟨Tryz.isAgg9, Tryz.sizeOf9⟩
instance : Elt Tryz.prog 9 1 16 (.string ⟨#[]⟩) := Elt.mk' Tryz.typeInfo9 rfl rfl rfl rfl
instance : Und Tryz.prog 22 (.pointer 103) := ⟨Tryz.underlying22⟩
instance : Lay Tryz.prog 22 false 1 := ⟨Tryz.isAgg22, Tryz.sizeOf22⟩
instance : Und Tryz.prog 23 (.pointer 107) := ⟨Tryz.underlying23⟩
instance : Lay Tryz.prog 23 false 1 := ⟨Tryz.isAgg23, Tryz.sizeOf23⟩
instance : Und Tryz.prog 24 (.pointer 113) := ⟨Tryz.underlying24⟩
instance : Lay Tryz.prog 24 false 1 := ⟨Tryz.isAgg24, Tryz.sizeOf24⟩
instance : Lay Tryz.prog 26 true 3 := ⟨Tryz.isAgg26, Tryz.sizeOf26⟩
instance : Zer Tryz.prog 26 (.agg #[.pointer none, .pointer none, .pointer none]) := ⟨Tryz.zeroValue26⟩
instance : Lay Tryz.prog 27 false 1 := ⟨Tryz.isAgg27, Tryz.sizeOf27⟩
instance : Lay Tryz.prog 28 false 1 := ⟨Tryz.isAgg28, Tryz.sizeOf28⟩
instance : Lay Tryz.prog 29 false 1 := ⟨Tryz.isAgg29, Tryz.sizeOf29⟩
instance : Lay Tryz.prog 31 true 3 := ⟨Tryz.isAgg31, Tryz.sizeOf31⟩
instance : Zer Tryz.prog 31 (.agg #[.pointer none, .pointer none, .pointer none]) := ⟨Tryz.zeroValue31⟩
instance : Und Tryz.prog 38 (.slice 74) := ⟨Tryz.underlying38⟩
instance : Und Tryz.prog 39 (.slice 9) := ⟨Tryz.underlying39⟩
instance : Und Tryz.prog 46 (.slice 115) := ⟨Tryz.underlying46⟩
instance : Lay Tryz.prog 46 false 1 := ⟨Tryz.isAgg46, Tryz.sizeOf46⟩
instance : Lay Tryz.prog 48 true 12 := ⟨Tryz.isAgg48, Tryz.sizeOf48⟩
instance : Zer Tryz.prog 48 (.agg #[.int .i64 0, .int .i64 0, .string ⟨#[]⟩, .slice none 0 0, .string ⟨#[]⟩, .string ⟨#[]⟩, .int .i64 0, .int .i64 0, .int .i64 0, .int .i64 0, .int .i64 0, .int .i64 0]) := ⟨Tryz.zeroValue48⟩
instance : Lay Tryz.prog 53 true 9 := ⟨Tryz.isAgg53, Tryz.sizeOf53⟩
instance : Zer Tryz.prog 53 (.agg #[.int .i64 0, .string ⟨#[]⟩, .string ⟨#[]⟩, .string ⟨#[]⟩, .int .i64 0, .bool false, .int .i32 0, .bool false, .slice none 0 0]) := ⟨Tryz.zeroValue53⟩
instance : Lay Tryz.prog 55 true 10 := ⟨Tryz.isAgg55, Tryz.sizeOf55⟩
instance : Zer Tryz.prog 55 (.agg #[.int .i64 0, .int .i64 0, .string ⟨#[]⟩, .string ⟨#[]⟩, .string ⟨#[]⟩, .int .i64 0, .bool false, .int .i32 0, .bool false, .slice none 0 0]) := ⟨Tryz.zeroValue55⟩
instance : Elt Tryz.prog 55 10 112 (.agg #[.int .i64 0, .int .i64 0, .string ⟨#[]⟩, .string ⟨#[]⟩, .string ⟨#[]⟩, .int .i64 0, .bool false, .int .i32 0, .bool false, .slice none 0 0]) := Elt.mk' Tryz.typeInfo55 rfl rfl rfl rfl
instance : Lay Tryz.prog 74 true 5 := ⟨Tryz.isAgg74, Tryz.sizeOf74⟩
instance : Elt Tryz.prog 74 5 32 (.agg #[.string ⟨#[]⟩, .int .i64 0, .bool false, .bool false, .bool false]) := Elt.mk' Tryz.typeInfo74 rfl rfl rfl rfl
instance : Lay Tryz.prog 80 false 1 := ⟨Tryz.isAgg80, Tryz.sizeOf80⟩
instance : Und Tryz.prog 85 (.slice 127) := ⟨Tryz.underlying85⟩
instance : Lay Tryz.prog 85 false 1 := ⟨Tryz.isAgg85, Tryz.sizeOf85⟩
instance : Und Tryz.prog 95 (.slice 3) := ⟨Tryz.underlying95⟩
instance : Lay Tryz.prog 95 false 1 := ⟨Tryz.isAgg95, Tryz.sizeOf95⟩
instance : Zer Tryz.prog 95 (.slice none 0 0) := ⟨Tryz.zeroValue95⟩
instance : Und Tryz.prog 98 (.slice 55) := ⟨Tryz.underlying98⟩
instance : Lay Tryz.prog 98 false 1 := ⟨Tryz.isAgg98, Tryz.sizeOf98⟩
instance : Und Tryz.prog 101 (.slice 110) := ⟨Tryz.underlying101⟩
instance : Lay Tryz.prog 101 false 1 := ⟨Tryz.isAgg101, Tryz.sizeOf101⟩
instance : Lay Tryz.prog 105 true 1 := ⟨Tryz.isAgg105, Tryz.sizeOf105⟩
instance : Lay Tryz.prog 110 true 13 := ⟨Tryz.isAgg110, Tryz.sizeOf110⟩
instance : Zer Tryz.prog 110 (.agg #[.int .i64 0, .int .i64 0, .string ⟨#[]⟩, .slice none 0 0, .string ⟨#[]⟩, .string ⟨#[]⟩, .int .i64 0, .int .i64 0, .int .i64 0, .int .i64 0, .int .i64 0, .int .i64 0, .int .i64 0]) := ⟨Tryz.zeroValue110⟩
instance : Elt Tryz.prog 110 13 144 (.agg #[.int .i64 0, .int .i64 0, .string ⟨#[]⟩, .slice none 0 0, .string ⟨#[]⟩, .string ⟨#[]⟩, .int .i64 0, .int .i64 0, .int .i64 0, .int .i64 0, .int .i64 0, .int .i64 0, .int .i64 0]) := Elt.mk' Tryz.typeInfo110 rfl rfl rfl rfl
instance : Lay Tryz.prog 115 true 4 := ⟨Tryz.isAgg115, Tryz.sizeOf115⟩
instance : Zer Tryz.prog 115 (.agg #[.int .i64 0, .string ⟨#[]⟩, .string ⟨#[]⟩, .string ⟨#[]⟩]) := ⟨Tryz.zeroValue115⟩
instance : Elt Tryz.prog 115 4 56 (.agg #[.int .i64 0, .string ⟨#[]⟩, .string ⟨#[]⟩, .string ⟨#[]⟩]) := Elt.mk' Tryz.typeInfo115 rfl rfl rfl rfl
instance : Lay Tryz.prog 127 true 10 := ⟨Tryz.isAgg127, Tryz.sizeOf127⟩
instance : Zer Tryz.prog 127 (.agg #[.int .i64 0, .int .i64 0, .string ⟨#[]⟩, .slice none 0 0, .string ⟨#[]⟩, .string ⟨#[]⟩, .int .i64 0, .int .i64 0, .int .i64 0, .slice none 0 0]) := ⟨Tryz.zeroValue127⟩
instance : Elt Tryz.prog 127 10 136 (.agg #[.int .i64 0, .int .i64 0, .string ⟨#[]⟩, .slice none 0 0, .string ⟨#[]⟩, .string ⟨#[]⟩, .int .i64 0, .int .i64 0, .int .i64 0, .slice none 0 0]) := Elt.mk' Tryz.typeInfo127 rfl rfl rfl rfl
instance : Lay Tryz.prog 135 true 2 := ⟨Tryz.isAgg135, Tryz.sizeOf135⟩
instance : Zer Tryz.prog 135 (.agg #[.int .i64 0, .int .i64 0]) := ⟨Tryz.zeroValue135⟩
instance : Und Tryz.prog 162 (.array 83 9) := ⟨Tryz.underlying162⟩
instance : Lay Tryz.prog 162 true 83 := ⟨Tryz.isAgg162, Tryz.sizeOf162⟩
instance : Zer Tryz.prog 162 (.agg #[.string ⟨#[]⟩, .string ⟨#[]⟩, .string ⟨#[]⟩, .string ⟨#[]⟩, .string ⟨#[]⟩, .string ⟨#[]⟩, .string ⟨#[]⟩, .string ⟨#[]⟩, .string ⟨#[]⟩, .string ⟨#[]⟩, .string ⟨#[]⟩, .string ⟨#[]⟩, .string ⟨#[]⟩, .string ⟨#[]⟩, .string ⟨#[]⟩, .string ⟨#[]⟩, .string ⟨#[]⟩, .string ⟨#[]⟩, .string ⟨#[]⟩, .string ⟨#[]⟩, .string ⟨#[]⟩, .string ⟨#[]⟩, .string ⟨#[]⟩, .string ⟨#[]⟩, .string ⟨#[]⟩, .string ⟨#[]⟩, .string ⟨#[]⟩, .string ⟨#[]⟩, .string ⟨#[]⟩, .string ⟨#[]⟩, .string ⟨#[]⟩, .string ⟨#[]⟩, .string ⟨#[]⟩, .string ⟨#[]⟩, .string ⟨#[]⟩, .string ⟨#[]⟩, .string ⟨#[]⟩, .string ⟨#[]⟩, .string ⟨#[]⟩, .string ⟨#[]⟩, .string ⟨#[]⟩, .string ⟨#[]⟩, .string ⟨#[]⟩, .string ⟨#[]⟩, .string ⟨#[]⟩, .string ⟨#[]⟩, .string ⟨#[]⟩, .string ⟨#[]⟩, .string ⟨#[]⟩, .string ⟨#[]⟩, .string ⟨#[]⟩, .string ⟨#[]⟩, .string ⟨#[]⟩, .string ⟨#[]⟩, .string ⟨#[]⟩, .string ⟨#[]⟩, .string ⟨#[]⟩, .string ⟨#[]⟩, .string ⟨#[]⟩, .string ⟨#[]⟩, .string ⟨#[]⟩, .string ⟨#[]⟩, .string ⟨#[]⟩, .string ⟨#[]⟩, .string ⟨#[]⟩, .string ⟨#[]⟩, .string ⟨#[]⟩, .string ⟨#[]⟩, .string ⟨#[]⟩, .string ⟨#[]⟩, .string ⟨#[]⟩, .string ⟨#[]⟩, .string ⟨#[]⟩, .string ⟨#[]⟩, .string ⟨#[]⟩, .string ⟨#[]⟩, .string ⟨#[]⟩, .string ⟨#[]⟩, .string ⟨#[]⟩, .string ⟨#[]⟩, .string ⟨#[]⟩, .string ⟨#[]⟩, .string ⟨#[]⟩]) := ⟨fun w => by kernel_rfl⟩
instance : Und Tryz.prog 164 (.array 6 9) := ⟨Tryz.underlying164⟩
instance : Lay Tryz.prog 164 true 6 := ⟨Tryz.isAgg164, Tryz.sizeOf164⟩
instance : Zer Tryz.prog 164 (.agg #[.string ⟨#[]⟩, .string ⟨#[]⟩, .string ⟨#[]⟩, .string ⟨#[]⟩, .string ⟨#[]⟩, .string ⟨#[]⟩]) := ⟨Tryz.zeroValue164⟩
instance : Und Tryz.prog 166 (.array 3 9) := ⟨Tryz.underlying166⟩
instance : Lay Tryz.prog 166 true 3 := ⟨Tryz.isAgg166, Tryz.sizeOf166⟩
instance : Zer Tryz.prog 166 (.agg #[.string ⟨#[]⟩, .string ⟨#[]⟩, .string ⟨#[]⟩]) := ⟨Tryz.zeroValue166⟩
instance : Und Tryz.prog 179 (.array 9 9) := ⟨Tryz.underlying179⟩
instance : Lay Tryz.prog 179 true 9 := ⟨Tryz.isAgg179, Tryz.sizeOf179⟩
instance : Zer Tryz.prog 179 (.agg #[.string ⟨#[]⟩, .string ⟨#[]⟩, .string ⟨#[]⟩, .string ⟨#[]⟩, .string ⟨#[]⟩, .string ⟨#[]⟩, .string ⟨#[]⟩, .string ⟨#[]⟩, .string ⟨#[]⟩]) := ⟨Tryz.zeroValue179⟩
instance : Fld Tryz.prog 26 0 0 := Fld.mk' Tryz.underlying26 rfl rfl (inferInstance : Lay Tryz.prog 22 false 1)
instance : Fld Tryz.prog 26 1 1 := Fld.mk' Tryz.underlying26 rfl rfl (inferInstance : Lay Tryz.prog 23 false 1)
instance : Fld Tryz.prog 26 2 2 := Fld.mk' Tryz.underlying26 rfl rfl (inferInstance : Lay Tryz.prog 24 false 1)
instance : Fld Tryz.prog 31 0 0 := Fld.mk' Tryz.underlying31 rfl rfl (inferInstance : Lay Tryz.prog 27 false 1)
instance : Fld Tryz.prog 31 1 1 := Fld.mk' Tryz.underlying31 rfl rfl (inferInstance : Lay Tryz.prog 28 false 1)
instance : Fld Tryz.prog 31 2 2 := Fld.mk' Tryz.underlying31 rfl rfl (inferInstance : Lay Tryz.prog 29 false 1)
instance : Fld Tryz.prog 48 0 0 := Fld.mk' Tryz.underlying48 rfl rfl (inferInstance : Lay Tryz.prog 3 false 1)
instance : Fld Tryz.prog 48 1 1 := Fld.mk' Tryz.underlying48 rfl rfl (inferInstance : Lay Tryz.prog 3 false 1)
instance : Fld Tryz.prog 48 2 2 := Fld.mk' Tryz.underlying48 rfl rfl (inferInstance : Lay Tryz.prog 9 false 1)
instance : Fld Tryz.prog 48 3 3 := Fld.mk' Tryz.underlying48 rfl rfl (inferInstance : Lay Tryz.prog 46 false 1)
instance : Fld Tryz.prog 48 6 6 := Fld.mk' Tryz.underlying48 rfl rfl (inferInstance : Lay Tryz.prog 3 false 1)
instance : Fld Tryz.prog 48 7 7 := Fld.mk' Tryz.underlying48 rfl rfl (inferInstance : Lay Tryz.prog 3 false 1)
instance : Fld Tryz.prog 48 8 8 := Fld.mk' Tryz.underlying48 rfl rfl (inferInstance : Lay Tryz.prog 3 false 1)
instance : Fld Tryz.prog 48 9 9 := Fld.mk' Tryz.underlying48 rfl rfl (inferInstance : Lay Tryz.prog 3 false 1)
instance : Fld Tryz.prog 48 10 10 := Fld.mk' Tryz.underlying48 rfl rfl (inferInstance : Lay Tryz.prog 3 false 1)
instance : Fld Tryz.prog 48 11 11 := Fld.mk' Tryz.underlying48 rfl rfl (inferInstance : Lay Tryz.prog 3 false 1)
instance : Fld Tryz.prog 53 1 1 := Fld.mk' Tryz.underlying53 rfl rfl (inferInstance : Lay Tryz.prog 9 false 1)
instance : Fld Tryz.prog 53 8 8 := Fld.mk' Tryz.underlying53 rfl rfl (inferInstance : Lay Tryz.prog 46 false 1)
instance : Fld Tryz.prog 55 0 0 := Fld.mk' Tryz.underlying55 rfl rfl (inferInstance : Lay Tryz.prog 3 false 1)
instance : Fld Tryz.prog 55 1 1 := Fld.mk' Tryz.underlying55 rfl rfl (inferInstance : Lay Tryz.prog 53 true 9)
instance : Fld Tryz.prog 74 0 0 := Fld.mk' Tryz.underlying74 rfl rfl (inferInstance : Lay Tryz.prog 9 false 1)
instance : Fld Tryz.prog 74 1 1 := Fld.mk' Tryz.underlying74 rfl rfl (inferInstance : Lay Tryz.prog 3 false 1)
instance : Fld Tryz.prog 74 2 2 := Fld.mk' Tryz.underlying74 rfl rfl (inferInstance : Lay Tryz.prog 4 false 1)
instance : Fld Tryz.prog 74 3 3 := Fld.mk' Tryz.underlying74 rfl rfl (inferInstance : Lay Tryz.prog 4 false 1)
instance : Fld Tryz.prog 74 4 4 := Fld.mk' Tryz.underlying74 rfl rfl (inferInstance : Lay Tryz.prog 4 false 1)
instance : Fld Tryz.prog 82 0 0 := Fld.mk' Tryz.underlying82 rfl rfl (inferInstance : Lay Tryz.prog 22 false 1)
instance : Fld Tryz.prog 82 1 1 := Fld.mk' Tryz.underlying82 rfl rfl (inferInstance : Lay Tryz.prog 23 false 1)
instance : Fld Tryz.prog 82 2 2 := Fld.mk' Tryz.underlying82 rfl rfl (inferInstance : Lay Tryz.prog 24 false 1)
instance : Fld Tryz.prog 82 3 3 := Fld.mk' Tryz.underlying82 rfl rfl (inferInstance : Lay Tryz.prog 9 false 1)
instance : Fld Tryz.prog 82 4 4 := Fld.mk' Tryz.underlying82 rfl rfl (inferInstance : Lay Tryz.prog 4 false 1)
instance : Fld Tryz.prog 82 5 5 := Fld.mk' Tryz.underlying82 rfl rfl (inferInstance : Lay Tryz.prog 3 false 1)
instance : Fld Tryz.prog 82 6 6 := Fld.mk' Tryz.underlying82 rfl rfl (inferInstance : Lay Tryz.prog 3 false 1)
instance : Fld Tryz.prog 87 0 0 := Fld.mk' Tryz.underlying87 rfl rfl (inferInstance : Lay Tryz.prog 85 false 1)
instance : Fld Tryz.prog 91 0 0 := Fld.mk' Tryz.underlying91 rfl rfl (inferInstance : Lay Tryz.prog 27 false 1)
instance : Fld Tryz.prog 91 1 1 := Fld.mk' Tryz.underlying91 rfl rfl (inferInstance : Lay Tryz.prog 28 false 1)
instance : Fld Tryz.prog 91 2 2 := Fld.mk' Tryz.underlying91 rfl rfl (inferInstance : Lay Tryz.prog 29 false 1)
instance : Fld Tryz.prog 91 3 3 := Fld.mk' Tryz.underlying91 rfl rfl (inferInstance : Lay Tryz.prog 4 false 1)
instance : Fld Tryz.prog 91 4 4 := Fld.mk' Tryz.underlying91 rfl rfl (inferInstance : Lay Tryz.prog 3 false 1)
instance : Fld Tryz.prog 97 0 0 := Fld.mk' Tryz.underlying97 rfl rfl (inferInstance : Lay Tryz.prog 27 false 1)
instance : Fld Tryz.prog 97 1 1 := Fld.mk' Tryz.underlying97 rfl rfl (inferInstance : Lay Tryz.prog 95 false 1)
instance : Fld Tryz.prog 100 0 0 := Fld.mk' Tryz.underlying100 rfl rfl (inferInstance : Lay Tryz.prog 27 false 1)
instance : Fld Tryz.prog 100 1 1 := Fld.mk' Tryz.underlying100 rfl rfl (inferInstance : Lay Tryz.prog 98 false 1)
instance : Fld Tryz.prog 103 0 0 := Fld.mk' Tryz.underlying103 rfl rfl (inferInstance : Lay Tryz.prog 101 false 1)
instance : Fld Tryz.prog 105 0 0 := Fld.mk' Tryz.underlying105 rfl rfl (inferInstance : Lay Tryz.prog 95 false 1)
instance : Fld Tryz.prog 107 0 0 := Fld.mk' Tryz.underlying107 rfl rfl (inferInstance : Lay Tryz.prog 22 false 1)
instance : Fld Tryz.prog 107 1 1 := Fld.mk' Tryz.underlying107 rfl rfl (inferInstance : Lay Tryz.prog 105 true 1)
instance : Fld Tryz.prog 110 0 0 := Fld.mk' Tryz.underlying110 rfl rfl (inferInstance : Lay Tryz.prog 48 true 12)
instance : Fld Tryz.prog 110 1 12 := Fld.mk' Tryz.underlying110 rfl rfl (inferInstance : Lay Tryz.prog 3 false 1)
instance : Fld Tryz.prog 113 0 0 := Fld.mk' Tryz.underlying113 rfl rfl (inferInstance : Lay Tryz.prog 22 false 1)
instance : Fld Tryz.prog 113 1 1 := Fld.mk' Tryz.underlying113 rfl rfl (inferInstance : Lay Tryz.prog 98 false 1)
instance : Fld Tryz.prog 115 1 1 := Fld.mk' Tryz.underlying115 rfl rfl (inferInstance : Lay Tryz.prog 9 false 1)
instance : Fld Tryz.prog 115 2 2 := Fld.mk' Tryz.underlying115 rfl rfl (inferInstance : Lay Tryz.prog 9 false 1)
instance : Fld Tryz.prog 115 3 3 := Fld.mk' Tryz.underlying115 rfl rfl (inferInstance : Lay Tryz.prog 9 false 1)
instance : Fld Tryz.prog 127 0 0 := Fld.mk' Tryz.underlying127 rfl rfl (inferInstance : Lay Tryz.prog 3 false 1)
instance : Fld Tryz.prog 127 1 1 := Fld.mk' Tryz.underlying127 rfl rfl (inferInstance : Lay Tryz.prog 3 false 1)
instance : Fld Tryz.prog 127 2 2 := Fld.mk' Tryz.underlying127 rfl rfl (inferInstance : Lay Tryz.prog 9 false 1)
instance : Fld Tryz.prog 127 3 3 := Fld.mk' Tryz.underlying127 rfl rfl (inferInstance : Lay Tryz.prog 46 false 1)
instance : Fld Tryz.prog 127 4 4 := Fld.mk' Tryz.underlying127 rfl rfl (inferInstance : Lay Tryz.prog 9 false 1)
instance : Fld Tryz.prog 127 5 5 := Fld.mk' Tryz.underlying127 rfl rfl (inferInstance : Lay Tryz.prog 9 false 1)
instance : Fld Tryz.prog 127 6 6 := Fld.mk' Tryz.underlying127 rfl rfl (inferInstance : Lay Tryz.prog 3 false 1)
instance : Fld Tryz.prog 127 7 7 := Fld.mk' Tryz.underlying127 rfl rfl (inferInstance : Lay Tryz.prog 3 false 1)
instance : Fld Tryz.prog 127 8 8 := Fld.mk' Tryz.underlying127 rfl rfl (inferInstance : Lay Tryz.prog 3 false 1)
instance : Fld Tryz.prog 127 9 9 := Fld.mk' Tryz.underlying127 rfl rfl (inferInstance : Lay Tryz.prog 95 false 1)
instance : Fld Tryz.prog 135 0 0 := Fld.mk' Tryz.underlying135 rfl rfl (inferInstance : Lay Tryz.prog 3 false 1)
instance : Fld Tryz.prog 135 1 1 := Fld.mk' Tryz.underlying135 rfl rfl (inferInstance : Lay Tryz.prog 3 false 1)
instance : Fun Tryz.prog 7 := ⟨Tryz.call7⟩
instance : Fun Tryz.prog 8 := ⟨Tryz.call8⟩
instance : Fun Tryz.prog 9 := ⟨Tryz.call9⟩
instance : Fun Tryz.prog 10 := ⟨Tryz.call10⟩
instance : Fun Tryz.prog 11 := ⟨Tryz.call11⟩
instance : Fun Tryz.prog 12 := ⟨Tryz.call12⟩
instance : Fun Tryz.prog 13 := ⟨Tryz.call13⟩
instance : Fun Tryz.prog 14 := ⟨Tryz.call14⟩
instance : Fun Tryz.prog 15 := ⟨Tryz.call15⟩
instance : Fun Tryz.prog 16 := ⟨Tryz.call16⟩
instance : Fun Tryz.prog 17 := ⟨Tryz.call17⟩
instance : Fun Tryz.prog 18 := ⟨Tryz.call18⟩
instance : Fun Tryz.prog 19 := ⟨Tryz.call19⟩
instance : Fun Tryz.prog 20 := ⟨Tryz.call20⟩
instance : Fun Tryz.prog 21 := ⟨Tryz.call21⟩
instance : Fun Tryz.prog 22 := ⟨Tryz.call22⟩
instance : Fun Tryz.prog 23 := ⟨Tryz.call23⟩
instance : Fun Tryz.prog 24 := ⟨Tryz.call24⟩
instance : Fun Tryz.prog 25 := ⟨Tryz.call25⟩
instance : Fun Tryz.prog 26 := ⟨Tryz.call26⟩
instance : Fun Tryz.prog 27 := ⟨Tryz.call27⟩
instance : Fun Tryz.prog 28 := ⟨Tryz.call28⟩
instance : Fun Tryz.prog 29 := ⟨Tryz.call29⟩
instance : Fun Tryz.prog 30 := ⟨Tryz.call30⟩
instance : Fun Tryz.prog 31 := ⟨Tryz.call31⟩
instance : Fun Tryz.prog 32 := ⟨Tryz.call32⟩
instance : Fun Tryz.prog 33 := ⟨Tryz.call33⟩
instance : Fun Tryz.prog 34 := ⟨Tryz.call34⟩
instance : Fun Tryz.prog 35 := ⟨Tryz.call35⟩
instance : Fun Tryz.prog 36 := ⟨Tryz.call36⟩
instance : Fun Tryz.prog 37 := ⟨Tryz.call37⟩
instance : Fun Tryz.prog 38 := ⟨Tryz.call38⟩
instance : Fun Tryz.prog 39 := ⟨Tryz.call39⟩
instance : Fun Tryz.prog 40 := ⟨Tryz.call40⟩
instance : Fun Tryz.prog 41 := ⟨Tryz.call41⟩
instance : Fun Tryz.prog 42 := ⟨Tryz.call42⟩
instance : Fun Tryz.prog 43 := ⟨Tryz.call43⟩
instance : Fun Tryz.prog 44 := ⟨Tryz.call44⟩
instance : Fun Tryz.prog 45 := ⟨Tryz.call45⟩
instance : Fun Tryz.prog 46 := ⟨Tryz.call46⟩
instance : Fun Tryz.prog 47 := ⟨Tryz.call47⟩
instance : Fun Tryz.prog 48 := ⟨Tryz.call48⟩
instance : Fun Tryz.prog 49 := ⟨Tryz.call49⟩
instance : Fun Tryz.prog 50 := ⟨Tryz.call50⟩
instance : Fun Tryz.prog 51 := ⟨Tryz.call51⟩
instance : Fun Tryz.prog 52 := ⟨Tryz.call52⟩
instance : Fun Tryz.prog 53 := ⟨Tryz.call53⟩
instance : Fun Tryz.prog 54 := ⟨Tryz.call54⟩
instance : Fun Tryz.prog 55 := ⟨Tryz.call55⟩
instance : Fun Tryz.prog 56 := ⟨Tryz.call56⟩
instance : Fun Tryz.prog 57 := ⟨Tryz.call57⟩
instance : Fun Tryz.prog 58 := ⟨Tryz.call58⟩
instance : Fun Tryz.prog 59 := ⟨Tryz.call59⟩
instance : Fun Tryz.prog 60 := ⟨Tryz.call60⟩
instance : Fun Tryz.prog 61 := ⟨Tryz.call61⟩
instance : Fun Tryz.prog 62 := ⟨Tryz.call62⟩
instance : Fun Tryz.prog 63 := ⟨Tryz.call63⟩
instance : Fun Tryz.prog 64 := ⟨Tryz.call64⟩
instance : Fun Tryz.prog 65 := ⟨Tryz.call65⟩
instance : Fun Tryz.prog 66 := ⟨Tryz.call66⟩
instance : Fun Tryz.prog 67 := ⟨Tryz.call67⟩
instance : Fun Tryz.prog 68 := ⟨Tryz.call68⟩
instance : Fun Tryz.prog 69 := ⟨Tryz.call69⟩
instance : Fun Tryz.prog 70 := ⟨Tryz.call70⟩
instance : Fun Tryz.prog 71 := ⟨Tryz.call71⟩
instance : Fun Tryz.prog 72 := ⟨Tryz.call72⟩
instance : Fun Tryz.prog 73 := ⟨Tryz.call73⟩
instance : Fun Tryz.prog 74 := ⟨Tryz.call74⟩
instance : Fun Tryz.prog 75 := ⟨Tryz.call75⟩
instance : Fun Tryz.prog 76 := ⟨Tryz.call76⟩
instance : Fun Tryz.prog 77 := ⟨Tryz.call77⟩
instance : Fun Tryz.prog 78 := ⟨Tryz.call78⟩
instance : Fun Tryz.prog 79 := ⟨Tryz.call79⟩
instance : Fun Tryz.prog 80 := ⟨Tryz.call80⟩
instance : Fun Tryz.prog 81 := ⟨Tryz.call81⟩
instance : Fun Tryz.prog 82 := ⟨Tryz.call82⟩
instance : Fun Tryz.prog 83 := ⟨Tryz.call83⟩
instance : Fun Tryz.prog 84 := ⟨Tryz.call84⟩
instance : Fun Tryz.prog 85 := ⟨Tryz.call85⟩
instance : Fun Tryz.prog 86 := ⟨Tryz.call86⟩
instance : Fun Tryz.prog 87 := ⟨Tryz.call87⟩
instance : Fun Tryz.prog 88 := ⟨Tryz.call88⟩
instance : Fun Tryz.prog 89 := ⟨Tryz.call89⟩
instance : Fun Tryz.prog 90 := ⟨Tryz.call90⟩
instance : Fun Tryz.prog 91 := ⟨Tryz.call91⟩
instance : Fun Tryz.prog 92 := ⟨Tryz.call92⟩
instance : Fun Tryz.prog 93 := ⟨Tryz.call93⟩
instance : Fun Tryz.prog 94 := ⟨Tryz.call94⟩
instance : Fun Tryz.prog 95 := ⟨Tryz.call95⟩
instance : Fun Tryz.prog 96 := ⟨Tryz.call96⟩
instance : Fun Tryz.prog 97 := ⟨Tryz.call97⟩
instance : Fun Tryz.prog 98 := ⟨Tryz.call98⟩
instance : Fun Tryz.prog 99 := ⟨Tryz.call99⟩
instance : Fun Tryz.prog 100 := ⟨Tryz.call100⟩
instance : Fun Tryz.prog 101 := ⟨Tryz.call101⟩
instance : Fun Tryz.prog 102 := ⟨Tryz.call102⟩
instance : Fun Tryz.prog 103 := ⟨Tryz.call103⟩
instance : Fun Tryz.prog 104 := ⟨Tryz.call104⟩
instance : Fun Tryz.prog 105 := ⟨Tryz.call105⟩
instance : Fun Tryz.prog 106 := ⟨Tryz.call106⟩
instance : Fun Tryz.prog 107 := ⟨Tryz.call107⟩
instance : Fun Tryz.prog 108 := ⟨Tryz.call108⟩
instance : Fun Tryz.prog 109 := ⟨Tryz.call109⟩
instance : Fun Tryz.prog 110 := ⟨Tryz.call110⟩
instance : Fun Tryz.prog 111 := ⟨Tryz.call111⟩
instance : Fun Tryz.prog 112 := ⟨Tryz.call112⟩
instance : Fun Tryz.prog 113 := ⟨Tryz.call113⟩
instance : Fun Tryz.prog 114 := ⟨Tryz.call114⟩
instance : Fun Tryz.prog 115 := ⟨Tryz.call115⟩
instance : Fun Tryz.prog 116 := ⟨Tryz.call116⟩
instance : Fun Tryz.prog 117 := ⟨Tryz.call117⟩
instance : Fun Tryz.prog 118 := ⟨Tryz.call118⟩
instance : Fun Tryz.prog 119 := ⟨Tryz.call119⟩
instance : Fun Tryz.prog 120 := ⟨Tryz.call120⟩
instance : Fun Tryz.prog 121 := ⟨Tryz.call121⟩
instance : Fun Tryz.prog 122 := ⟨Tryz.call122⟩
instance : Fun Tryz.prog 123 := ⟨Tryz.call123⟩
instance : Fun Tryz.prog 124 := ⟨Tryz.call124⟩
instance : Fun Tryz.prog 125 := ⟨Tryz.call125⟩
instance : Fun Tryz.prog 126 := ⟨Tryz.call126⟩
instance : Fun Tryz.prog 127 := ⟨Tryz.call127⟩
instance : Fun Tryz.prog 128 := ⟨Tryz.call128⟩
instance : Fun Tryz.prog 129 := ⟨Tryz.call129⟩
instance : Fun Tryz.prog 130 := ⟨Tryz.call130⟩
instance : Fun Tryz.prog 131 := ⟨Tryz.call131⟩
instance : Fun Tryz.prog 132 := ⟨Tryz.call132⟩
instance : Fun Tryz.prog 133 := ⟨Tryz.call133⟩
instance : Fun Tryz.prog 134 := ⟨Tryz.call134⟩
instance : Fun Tryz.prog 135 := ⟨Tryz.call135⟩
instance : Fun Tryz.prog 136 := ⟨Tryz.call136⟩
instance : Fun Tryz.prog 137 := ⟨Tryz.call137⟩
instance : Fun Tryz.prog 138 := ⟨Tryz.call138⟩
instance : Fun Tryz.prog 139 := ⟨Tryz.call139⟩
instance : Fun Tryz.prog 140 := ⟨Tryz.call140⟩
instance : Fun Tryz.prog 141 := ⟨Tryz.call141⟩
instance : Mixed Tryz.prog := ⟨by kernel_rfl⟩
end Go.Proofs.YtoohapbaelmkcaaGreat
end
section
set_option linter.unusedVariables false
namespace Go.Proofs.YtoohapbaelmkcaaGreat
open Go Go.Hb
@[ext] structure Law15_world where
  a : Option Addr
  s : Option Addr
  l : Option Addr
def Law15_world.cells (a : Law15_world) : List Go.Value := [.pointer a.a, .pointer a.s, .pointer a.l]
@[ext] structure Law15_mirror where
  a : Option Addr
  s : Option Addr
  l : Option Addr
def Law15_mirror.cells (a : Law15_mirror) : List Go.Value := [.pointer a.a, .pointer a.s, .pointer a.l]
@[ext] structure Api_attr where
  Space : Int
  Prefix : ByteArray
  Name : ByteArray
  Value : ByteArray
instance : Inhabited Api_attr := ⟨⟨0, ⟨#[]⟩, ⟨#[]⟩, ⟨#[]⟩⟩⟩
def Api_attr.cells (a : Api_attr) : List Go.Value := [.int .i64 a.Space, .string a.Prefix, .string a.Name, .string a.Value]
instance : OneC Api_attr.cells 4 := ⟨fun _ => rfl, fun a v hv => by
  have h : (Api_attr.cells a).all (·.oneCell') = true := rfl
  exact List.all_eq_true.1 h v hv⟩
@[ext] structure Api_node where
  Kind : Int
  Space : Int
  Name : ByteArray
  AttrsP : Option Addr
  Attrs : List Api_attr
  AttrsC : Nat
  Data : ByteArray
  System : ByteArray
  Parent : Int
  First : Int
  Last : Int
  Prev : Int
  Next : Int
  Inner : Int
instance : Inhabited Api_node := ⟨⟨0, 0, ⟨#[]⟩, none, [], 0, ⟨#[]⟩, ⟨#[]⟩, 0, 0, 0, 0, 0, 0⟩⟩
def Api_node.cells (a : Api_node) : List Go.Value := [.int .i64 a.Kind, .int .i64 a.Space, .string a.Name, .slice a.AttrsP a.Attrs.length a.AttrsC, .string a.Data, .string a.System, .int .i64 a.Parent, .int .i64 a.First, .int .i64 a.Last, .int .i64 a.Prev, .int .i64 a.Next, .int .i64 a.Inner]
@[ext] structure Api_token where
  Kind : Int
  Name : ByteArray
  Data : ByteArray
  System : ByteArray
  Has : Int
  Quirks : Bool
  Char : Int
  Self : Bool
  AttrsP : Option Addr
  Attrs : List Api_attr
  AttrsC : Nat
instance : Inhabited Api_token := ⟨⟨0, ⟨#[]⟩, ⟨#[]⟩, ⟨#[]⟩, 0, false, 0, false, none, [], 0⟩⟩
def Api_token.cells (a : Api_token) : List Go.Value := [.int .i64 a.Kind, .string a.Name, .string a.Data, .string a.System, .int .i64 a.Has, .bool a.Quirks, .int .i32 a.Char, .bool a.Self, .slice a.AttrsP a.Attrs.length a.AttrsC]
@[ext] structure Api_entry where
  Node : Int
  Token : Api_token
instance : Inhabited Api_entry := ⟨⟨0, default⟩⟩
def Api_entry.cells (a : Api_entry) : List Go.Value := [.int .i64 a.Node] ++ Api_token.cells a.Token
instance : OneC Api_entry.cells 10 := ⟨fun _ => rfl, fun a v hv => by
  have h : (Api_entry.cells a).all (·.oneCell') = true := rfl
  exact List.all_eq_true.1 h v hv⟩
instance (n : Int) : FUpd Api_entry.cells 0 (.int .i64 n) (fun a => { a with Node := n }) := ⟨fun _ => rfl, fun _ => by show _ < 10; decide⟩
@[ext] structure Law15_act where
  Text : ByteArray
  Up : Int
  Open : Bool
  Active : Bool
  Mark : Bool
instance : Inhabited Law15_act := ⟨⟨⟨#[]⟩, 0, false, false, false⟩⟩
def Law15_act.cells (a : Law15_act) : List Go.Value := [.string a.Text, .int .i64 a.Up, .bool a.Open, .bool a.Active, .bool a.Mark]
instance : OneC Law15_act.cells 5 := ⟨fun _ => rfl, fun a v hv => by
  have h : (Law15_act.cells a).all (·.oneCell') = true := rfl
  exact List.all_eq_true.1 h v hv⟩
@[ext] structure Ref01_one where
  Kind : Int
  Space : Int
  Name : ByteArray
  AttrsP : Option Addr
  Attrs : List Api_attr
  AttrsC : Nat
  Data : ByteArray
  System : ByteArray
  Inner : Int
  Host : Int
  Up : Int
  KidsP : Option Addr
  Kids : List Int
  KidsC : Nat
instance : Inhabited Ref01_one := ⟨⟨0, 0, ⟨#[]⟩, none, [], 0, ⟨#[]⟩, ⟨#[]⟩, 0, 0, 0, none, [], 0⟩⟩
def Ref01_one.cells (a : Ref01_one) : List Go.Value := [.int .i64 a.Kind, .int .i64 a.Space, .string a.Name, .slice a.AttrsP a.Attrs.length a.AttrsC, .string a.Data, .string a.System, .int .i64 a.Inner, .int .i64 a.Host, .int .i64 a.Up, .slice a.KidsP a.Kids.length a.KidsC]
instance : OneC Ref01_one.cells 10 := ⟨fun _ => rfl, fun a v hv => by
  have h : (Ref01_one.cells a).all (·.oneCell') = true := rfl
  exact List.all_eq_true.1 h v hv⟩
instance (n : Int) : FUpd Ref01_one.cells 6 (.int .i64 n) (fun a => { a with Inner := n }) := ⟨fun _ => rfl, fun _ => by show _ < 10; decide⟩
instance (n : Int) : FUpd Ref01_one.cells 7 (.int .i64 n) (fun a => { a with Host := n }) := ⟨fun _ => rfl, fun _ => by show _ < 10; decide⟩
instance (n : Int) : FUpd Ref01_one.cells 8 (.int .i64 n) (fun a => { a with Up := n }) := ⟨fun _ => rfl, fun _ => by show _ < 10; decide⟩
instance (p : Option Addr) (l : List Int) (c : Nat) : FUpd Ref01_one.cells 9 (.slice p l.length c) (fun a => { a with KidsP := p, Kids := l, KidsC := c }) := ⟨fun _ => rfl, fun _ => by show _ < 10; decide⟩
@[ext] structure Node_one where
  Node : Api_node
  host : Int
instance : Inhabited Node_one := ⟨⟨default, 0⟩⟩
def Node_one.cells (a : Node_one) : List Go.Value := Api_node.cells a.Node ++ [.int .i64 a.host]
instance : OneC Node_one.cells 13 := ⟨fun _ => rfl, fun a v hv => by
  have h : (Node_one.cells a).all (·.oneCell') = true := rfl
  exact List.all_eq_true.1 h v hv⟩
instance (n : Int) : FUpd Node_one.cells 6 (.int .i64 n) (fun a => { a with Node := { a.Node with Parent := n } }) := ⟨fun _ => rfl, fun _ => by show _ < 13; decide⟩
instance (n : Int) : FUpd Node_one.cells 7 (.int .i64 n) (fun a => { a with Node := { a.Node with First := n } }) := ⟨fun _ => rfl, fun _ => by show _ < 13; decide⟩
instance (n : Int) : FUpd Node_one.cells 8 (.int .i64 n) (fun a => { a with Node := { a.Node with Last := n } }) := ⟨fun _ => rfl, fun _ => by show _ < 13; decide⟩
instance (n : Int) : FUpd Node_one.cells 9 (.int .i64 n) (fun a => { a with Node := { a.Node with Prev := n } }) := ⟨fun _ => rfl, fun _ => by show _ < 13; decide⟩
instance (n : Int) : FUpd Node_one.cells 10 (.int .i64 n) (fun a => { a with Node := { a.Node with Next := n } }) := ⟨fun _ => rfl, fun _ => by show _ < 13; decide⟩
instance (n : Int) : FUpd Node_one.cells 11 (.int .i64 n) (fun a => { a with Node := { a.Node with Inner := n } }) := ⟨fun _ => rfl, fun _ => by show _ < 13; decide⟩
instance (n : Int) : FUpd Node_one.cells 12 (.int .i64 n) (fun a => { a with host := n }) := ⟨fun _ => rfl, fun _ => by show _ < 13; decide⟩
@[ext] structure Api_spot where
  Parent : Int
  Before : Int
def Api_spot.cells (a : Api_spot) : List Go.Value := [.int .i64 a.Parent, .int .i64 a.Before]
end Go.Proofs.YtoohapbaelmkcaaGreat
end
section
set_option maxRecDepth 100000
namespace Go.Proofs.YtoohapbaelmkcaaGreat
open Go Go.Hb Go.RowKit
/-- a node's attributes -/
def attrsP (o : Node_one) : HP := sls o.Node.AttrsP o.Node.AttrsC 115 4 Api_attr.cells o.Node.Attrs
abbrev atS (o : Node_one) : HP := sls o.Node.AttrsP o.Node.AttrsC 115 4 Api_attr.cells o.Node.Attrs
theorem arena_pick {k : Ctx} {w : World} {l : List HP} {A : List Node_one} {i : Nat} (hi : i < A.length) (hO : Own k w (sep (A.map attrsP) :: l)) : Own k w (atS (at_ A i) :: sep ((A.eraseIdx i).map attrsP) :: l) := sep_pick hi hO
theorem arena_put {k : Ctx} {w : World} {l : List HP} {A : List Node_one} {i : Nat} {y : Node_one} (hi : i < A.length) (hO : Own k w (atS y :: sep ((A.eraseIdx i).map attrsP) :: l)) : Own k w (sep ((A.set i y).map attrsP) :: l) := sep_put hi hO
instance (priority := high) AtK.ha (o : Node_one) (l : List HP) : AtK (attrsP o :: l) (.p o.Node.AttrsP) (attrsP o) l := ⟨.hd _ l⟩
def arenaL (a : Nat) (A : List Node_one) : HP := fun h => ∃ x : Option Addr × Nat, sep [blk a 103 [.slice x.1 A.length x.2], sls x.1 x.2 110 13 Node_one.cells A, sep (A.map attrsP)] h
theorem arenaL_open {k : Ctx} {w : World} {l : List HP} {a : Nat} {A : List Node_one} (hO : Own k w (arenaL a A :: l)) : ∃ p c, Gs p A.length ∧ Own k w (blk a 103 [.slice p A.length c] :: sls p c 110 13 Node_one.cells A :: sep (A.map attrsP) :: l) := by
 obtain ⟨⟨p, c⟩, hO⟩ := Own.ex (A := fun (x : Option Addr × Nat) => sep [blk a 103 [.slice x.1 A.length x.2], sls x.1 x.2 110 13 Node_one.cells A, sep (A.map attrsP)]) hO
 have hO := Own.open hO
 simp only [List.cons_append, List.nil_append] at hO
 exact ⟨p, c, (sls_fct (p := p) hO).2, hO⟩
theorem arenaL_shut {k : Ctx} {w : World} {l S : List HP} {a n : Nat} {A : List Node_one} {p : Option Addr} {c : Nat} (hO : Own k w (sep S :: blk a 103 [.slice p n c] :: sls p c 110 13 Node_one.cells A :: l)) (hS : S = A.map attrsP := by rfl) (hn : n = A.length := by first | rfl | simp) : Own k w (arenaL a A :: l) := by
 subst hn hS
 have hO := (hO.swap.perm (.cons _ (.swap _ _ _)))
 exact (Own.shut (l := [blk a 103 [.slice p A.length c], sls p c 110 13 Node_one.cells A, sep (A.map attrsP)]) hO).tell fun h hA => ⟨(p, c), hA⟩
def hasB (A : List Node_one) (id : Int) : Bool := decide (0 ≤ id ∧ id < A.length)
abbrev arB (a : Nat) (p : Option Addr) (n c : Nat) : HP := blk a 103 [.slice p n c]
abbrev arS (p : Option Addr) (c : Nat) (A : List Node_one) : HP := sls p c 110 13 Node_one.cells A
theorem none_spec {k : Ctx} {w : World} {a : Nat} {A : List Node_one} {p : Option Addr} {c : Nat} (hn : 0 < A.length := by assumption) (hO : Own k w [arB a p A.length c, arS p c A]) :
  Tri Tryz.prog 46 #[.pointer (some ⟨a, 0, none⟩)] k w fun v m => v = .bool false ∧ m = [arB a p A.length c, arS p c A] := by
 refine enter (args := [.pointer (some ⟨a, 0, none⟩)]) Tryz.func46 rfl rfl (K0 (K1 (V2 rfl rfl rfl (K2 (K3 (K0 (K1 (V1 rfl rfl rfl (l_y rfl rfl (y_eqPnil rfl rfl rfl) (V1 rfl rfl rfl (V1 rfl rfl rfl (V3 rfl rfl rfl rfl (l_y rfl rfl (y_fldb (o' := 0) rfl) (l_y rfl rfl (D5 hO rfl) ?_))))))))))))))
 refine l_y rfl rfl (y_lenL rfl) (N3 (l_y rfl rfl (y_pick_f rfl rfl) (V2 rfl rfl rfl (K2 (K3 (K6 ?_))))))
 exact fin1 rfl rfl ⟨_, ⟨rfl, rfl⟩, hO⟩
theorem has_spec {k : Ctx} {w : World} {a : Nat} {A : List Node_one} {id : Int} {p : Option Addr} {c : Nat} (hO : Own k w [arB a p A.length c, arS p c A]) :
  Tri Tryz.prog 48 #[.pointer (some ⟨a, 0, none⟩), .int .i64 id] k w fun v m => v = .bool (hasB A id) ∧ m = [arB a p A.length c, arS p c A] := by
 refine enter (args := [.pointer (some ⟨a, 0, none⟩), .int .i64 id]) Tryz.func48 rfl rfl (K0 (K1 (V2 rfl rfl rfl (K2 (K3 (K0 (K1 (V1 rfl rfl rfl ?_))))))))
 refine Z0 (fun h1_1 => ?_) (fun h1_1 => ?_)
 ·refine V1 rfl rfl rfl (V1 rfl rfl rfl (V1 rfl rfl rfl (V3 rfl rfl rfl rfl (l_y rfl rfl (y_fldb (o' := 0) rfl) (l_y rfl rfl (D5 hO rfl) ?_)))))
  refine l_y rfl rfl (y_lenL rfl) ?_
  refine Z0 (fun h1_9 => ?_) (fun h1_9 => ?_)
  ·refine l_y rfl rfl (y_pick_t rfl rfl) (V2 rfl rfl rfl (K2 (K3 (K6 ?_))))
   exact fin1 rfl rfl ⟨_, ⟨by simp [hasB]; omega, rfl⟩, hO⟩
  ·refine l_y rfl rfl (y_pick_t rfl rfl) (V2 rfl rfl rfl (K2 (K3 (K6 ?_))))
   exact fin1 rfl rfl ⟨_, ⟨by simp [hasB]; omega, rfl⟩, hO⟩
 ·refine V1 rfl rfl rfl ?_
  repeat refine M2 ?_
  refine l_y rfl rfl (y_pick_f rfl rfl) (V2 rfl rfl rfl (K2 (K3 (K6 ?_))))
  exact fin1 rfl rfl ⟨_, ⟨by simp [hasB]; omega, rfl⟩, hO⟩
theorem hasB_true {A : List Node_one} {id : Int} (h : hasB A id = true) : 0 ≤ id ∧ id < A.length := by simpa [hasB] using h
def parentB (kd : Int) : Bool := decide (kd = 0 ∨ kd = 1 ∨ kd = 5)
theorem parent_spec {k : Ctx} {w : World} {kd : Int} (hO : Own k w []) : Tri Tryz.prog 53 #[.int .i64 kd] k w fun v m => v = .bool (parentB kd) ∧ m = [] := by
 refine enter (args := [.int .i64 kd]) Tryz.func53 rfl rfl (K0 (K1 (V2 rfl rfl rfl (K2 (K3 (K0 (K1 (V1 rfl rfl rfl ?_))))))))
 refine Z0 (fun h1_1 => ?_) (fun h1_1 => ?_)
 ·refine V1 rfl rfl rfl ?_
  repeat refine M2 ?_
  refine l_y rfl rfl (y_pick_t rfl rfl) (V1 rfl rfl rfl ?_)
  repeat refine M2 ?_
  refine l_y rfl rfl (y_pick_t rfl rfl) (V2 rfl rfl rfl (K2 (K3 (K6 ?_))))
  exact fin1 rfl rfl ⟨_, ⟨by simp [parentB]; omega, rfl⟩, hO⟩
 ·refine V1 rfl rfl rfl (V1 rfl rfl rfl ?_)
  refine Z0 (fun h1_4 => ?_) (fun h1_4 => ?_)
  ·refine l_y rfl rfl (y_pick_f rfl rfl) (V1 rfl rfl rfl ?_)
   repeat refine M2 ?_
   refine l_y rfl rfl (y_pick_t rfl rfl) (V2 rfl rfl rfl (K2 (K3 (K6 ?_))))
   exact fin1 rfl rfl ⟨_, ⟨by simp [parentB]; omega, rfl⟩, hO⟩
  ·refine l_y rfl rfl (y_pick_f rfl rfl) (V1 rfl rfl rfl (V1 rfl rfl rfl ?_))
   refine Z0 (fun h1_8 => ?_) (fun h1_8 => ?_)
   ·refine l_y rfl rfl (y_pick_f rfl rfl) (V2 rfl rfl rfl (K2 (K3 (K6 ?_))))
    exact fin1 rfl rfl ⟨_, ⟨by simp [parentB]; omega, rfl⟩, hO⟩
   ·refine l_y rfl rfl (y_pick_f rfl rfl) (V2 rfl rfl rfl (K2 (K3 (K6 ?_))))
    exact fin1 rfl rfl ⟨_, ⟨by simp [parentB]; omega, rfl⟩, hO⟩
def blankN (n : Api_node) : Node_one := ⟨{ n with Parent := -1, First := -1, Last := -1, Prev := -1, Next := -1, Inner := -1 }, -1⟩
theorem blank_spec {k : Ctx} {w : World} {n : Api_node} (hO : Own k w []) : Tri Tryz.prog 61 #[.agg (Api_node.cells n).toArray] k w fun v m => v = .agg (Node_one.cells (blankN n)).toArray ∧ m = [] := by
 refine enter (args := [.agg (Api_node.cells n).toArray]) Tryz.func61 rfl rfl (K0 (K1 (s_box (vs := [.int .i64 n.Kind, .int .i64 n.Space, .string n.Name, .slice n.AttrsP n.Attrs.length n.AttrsC, .string n.Data, .string n.System, .int .i64 n.Parent, .int .i64 n.First, .int .i64 n.Last, .int .i64 n.Prev, .int .i64 n.Next, .int .i64 n.Inner]) hO rfl rfl rfl (by rfl) fun b1 w hO => ?_)))
 refine s_alloc (vs := [.int .i64 0, .int .i64 0, .string ⟨#[]⟩, .slice none 0 0, .string ⟨#[]⟩, .string ⟨#[]⟩, .int .i64 0, .int .i64 0, .int .i64 0, .int .i64 0, .int .i64 0, .int .i64 0, .int .i64 0]) hO rfl rfl rfl fun b2 w hO => ?_
 refine K2 (K3 (K0 (K1 (l_y rfl rfl (y_fldb (o' := 6) rfl) (Y1 hO rfl rfl (fun w hO => ?_))))))
 simp only [List.set_cons_zero, List.set_cons_succ] at hO
 refine l_y rfl rfl (y_fldb (o' := 7) rfl) (Y1 hO rfl rfl (fun w hO => ?_))
 simp only [List.set_cons_zero, List.set_cons_succ] at hO
 refine l_y rfl rfl (y_fldb (o' := 8) rfl) (Y1 hO rfl rfl (fun w hO => ?_))
 simp only [List.set_cons_zero, List.set_cons_succ] at hO
 refine l_y rfl rfl (y_fldb (o' := 9) rfl) (Y1 hO rfl rfl (fun w hO => ?_))
 simp only [List.set_cons_zero, List.set_cons_succ] at hO
 refine l_y rfl rfl (y_fldb (o' := 10) rfl) (Y1 hO rfl rfl (fun w hO => ?_))
 simp only [List.set_cons_zero, List.set_cons_succ] at hO
 refine l_y rfl rfl (y_fldb (o' := 11) rfl) (Y1 hO rfl rfl (fun w hO => ?_))
 simp only [List.set_cons_zero, List.set_cons_succ] at hO
 refine K2 (K3 (K0 (K1 (l_y rfl rfl (D8 (cs := [.int .i64 n.Kind, .int .i64 n.Space, .string n.Name, .slice n.AttrsP n.Attrs.length n.AttrsC, .string n.Data, .string n.System, .int .i64 (-1), .int .i64 (-1), .int .i64 (-1), .int .i64 (-1), .int .i64 (-1), .int .i64 (-1)]) hO rfl) ?_))))
 refine s_build (parts := [(0, .tmp 9), (1, .const (.int .i64 (-1)))]) (cs := [.int .i64 n.Kind, .int .i64 n.Space, .string n.Name, .slice n.AttrsP n.Attrs.length n.AttrsC, .string n.Data, .string n.System, .int .i64 (-1), .int .i64 (-1), .int .i64 (-1), .int .i64 (-1), .int .i64 (-1), .int .i64 (-1), .int .i64 (-1)]) rfl rfl (fun a ha => partsOf_sound ha _ _ rfl) (by kernel_rfl) (Y3 hO rfl rfl (fun w hO => ?_))
 refine K2 (K3 (K6 ?_))
 exact finC hO rfl rfl ⟨_, ⟨rfl, rfl⟩, hO.none⟩
theorem own_spec {k : Ctx} {w : World} {xs : List Api_attr} {p : Option Addr} {c : Nat} (hs : Sli (Ro k) (.slice p xs.length c) (xs.map Api_attr.cells)) (hl : xs.length ≤ 1000000000000) (hO : Own k w []) :
  Tri Tryz.prog 49 #[.slice p xs.length c] k w fun v m => ∃ b, v = .slice (some ⟨b, 0, none⟩) xs.length xs.length ∧ m = [sls (some ⟨b, 0, none⟩) xs.length 115 4 Api_attr.cells xs] := by
 refine enter (args := [.slice p xs.length c]) Tryz.func49 rfl rfl (K0 (K1 (V2 rfl rfl rfl (K2 (K3 (K0 (K1 (V1 rfl rfl rfl (l_y rfl rfl (y_lenL rfl) (s_mk (enc := Api_attr.cells) default hO rfl rfl rfl rfl (Nat.le_refl _) (by omega) (by simp only [maxLen]; omega) fun b w hO => ?_))))))))))
 refine V2 rfl rfl rfl (K2 (K3 (K0 (K1 (V1 rfl rfl rfl (V1 rfl rfl rfl (s_cp hO rfl rfl (src_ro hO hs) fun w hO => ?_)))))))
 rw [List.drop_of_length_le (by simp), List.append_nil] at hO
 refine K2 (K3 (K0 (K1 (V1 rfl rfl rfl (V2 rfl rfl rfl (K2 (K3 (K6 ?_))))))))
 exact fin1 rfl rfl ⟨_, ⟨b, rfl, rfl⟩, hO⟩
def longB (l : List ByteArray) : Bool := l.any fun s => decide (1048576 < s.size)
def addL (A : List Node_one) (n : Api_node) (ts : List ByteArray) : Int × Int × List Node_one := if longB ts = true then (0, 2, A) else if 32768 ≤ A.length then (0, 9, A) else (A.length, 0, A ++ [blankN n])
set_option maxHeartbeats 1000000 in
theorem add_spec {k : Ctx} {w : World} {a : Nat} {A : List Node_one} {n : Api_node} {ts : List ByteArray} {tp : Option Addr} {tc : Nat} (hn : 0 < A.length) (hc : A.length ≤ 32768) (ht : Sli (Ro k) (.slice tp ts.length tc) (ts.map eS)) (htl : ts.length ≤ 1000000) (hO : Own k w [arenaL a A, attrsP (blankN n)]) :
    Tri Tryz.prog 51 #[.pointer (some ⟨a, 0, none⟩), .agg (Api_node.cells n).toArray, .slice tp ts.length tc] k w fun v m => v = .tuple #[.int .i64 (addL A n ts).1, .int .i64 (addL A n ts).2.1] ∧ m = [arenaL a (addL A n ts).2.2] := by
  refine enter (args := [.pointer (some ⟨a, 0, none⟩), .agg (Api_node.cells n).toArray, .slice tp ts.length tc]) Tryz.func51 rfl rfl ?_
  have htg := sli_gs ht
  obtain ⟨p, c, hg, hO⟩ := arenaL_open hO
  refine K0 (K1 (s_box (vs := [.int .i64 n.Kind, .int .i64 n.Space, .string n.Name, .slice n.AttrsP n.Attrs.length n.AttrsC, .string n.Data, .string n.System, .int .i64 n.Parent, .int .i64 n.First, .int .i64 n.Last, .int .i64 n.Prev, .int .i64 n.Next, .int .i64 n.Inner]) hO rfl rfl rfl (by rfl) fun b4 w hO => ?_))
  refine V2 rfl rfl rfl (V2 rfl rfl rfl (K2 (K3 (K0 (K0 (K1 (V1 rfl rfl rfl (CK [.b a, .p p] hO rfl (fun k' hx hr hO' => none_spec (hO := hO')) ?_))))))))
  rintro _ _ w ⟨rfl, rfl⟩ hO
  simp only [List.cons_append, List.nil_append] at hO
  refine K2 (K3 (L9 (K5 (K3 (K0 (K0 (K1 (V1 rfl rfl rfl (l_y rfl rfl (y_lenL rfl) (V1 rfl rfl rfl (K2 (K3 (K4 (c_rounds (X := Nat) (fun i => [(0, .pointer (some ⟨a, 0, none⟩)), (4, .pointer (some ⟨b4, 0, none⟩)), (6, .int .i64 0), (7, .int .i64 0), (12, .slice tp ts.length tc), (13, .int .i64 ((ts.length : Nat) : Int)), (14, .int .i64 (i : Int))]) (fun i w => Own k w [arB a p A.length c, arS p c A, sep (A.map attrsP), blk b4 48 (Api_node.cells n), attrsP (blankN n)] ∧ (i ≤ ts.length) ∧ (longB (ts.take i) = false)) (fun i => ts.length - i) (0) ⟨rfl, rfl, rfl, rfl, rfl, rfl, rfl, trivial⟩ ⟨hO.only [.b a, .p p, .s, .b b4, .p (blankN n).Node.AttrsP], Nat.zero_le _, rfl⟩ ?_))))))))))))))
  rintro i w m hm ⟨hO, hi, hj⟩
  refine K0 (K1 ?_)
  refine Z0 (fun h4_0 => ?_) (fun h4_0 => ?_)
  · refine K2 (K3 (K0 (L8 (K5 (K3 (K0 (K4 (K0 (K1 (l_y rfl rfl (y_idx rfl rfl) ?_))))))))))
    refine l_y rfl rfl (y_r1 (x0 := 0) (enc := eS) (xs := ts) hO rfl) ?_
    refine V2 rfl rfl rfl (K2 (K3 (K0 (K1 (V1 rfl rfl rfl (l_y rfl rfl (y_lenS rfl) ?_))))))
    refine Z0 (fun h6_2 => ?_) (fun h6_2 => ?_)
    · refine K2 (K3 (L8 (K0 (K1 (V2 rfl rfl rfl (V2 rfl rfl rfl (K2 (K3 (K6 (L0 (K9 (K9 (L0 (K9 ?_))))))))))))))
      have hlong : longB ts = true := by
        simp only [longB, List.any_eq_true, decide_eq_true_eq]
        exact ⟨at_ ts i, at_mem (by omega), by simp only [Int.toNat_natCast] at h6_2; omega⟩
      exact fin2 rfl rfl rfl ⟨_, ⟨by simp [addL, hlong], rfl⟩, by rw [addL, if_pos hlong]; exact (arenaL_shut (hO.ks [.s, .b a, .p p])).one⟩
    · refine K2 (K3 (L9 (K5 (K8 (K3 (K1 (l_y rfl rfl (D4) ?_)))))))
      refine V1 rfl rfl rfl (K2 ?_)
      exact q_next (i + 1) ⟨rfl, rfl, rfl, rfl, rfl, rfl, rfl, trivial⟩ ⟨hO.only [.b a, .p p, .s, .b b4, .p (blankN n).Node.AttrsP], by omega, by rw [take_succ_at (by omega)]; simp [longB] at hj ⊢; simp only [Int.toNat_natCast] at h6_2; exact ⟨hj, by omega⟩⟩ (by omega)
  · refine K2 (K3 (K0 (L9 (K7 (L1 (L1 (L2 (K3 (K0 (K0 ?_))))))))))
    have hlf : longB ts = false := by rw [← hj, List.take_of_length_le (by omega)]
    refine K1 (V1 rfl rfl rfl (V3 rfl rfl rfl rfl (l_y rfl rfl (y_fldb (o' := 0) rfl) (l_y rfl rfl (D5 hO rfl) ?_))))
    refine l_y rfl rfl (y_lenL rfl) ?_
    refine Z0 (fun h9_5 => ?_) (fun h9_5 => ?_)
    · refine K2 (K3 (L8 (K0 (K1 (V2 rfl rfl rfl (V2 rfl rfl rfl (K2 (K3 (K6 (K9 ?_))))))))))
      exact fin2 rfl rfl rfl ⟨_, ⟨by rw [addL, hlf, if_neg (by simp), if_pos (by omega)], rfl⟩, by rw [addL, hlf, if_neg (by simp), if_pos (by omega)]; exact (arenaL_shut (hO.ks [.s, .b a, .p p])).one⟩
    · refine K2 (K3 (L9 (K5 (K3 (K0 (da_region (by intro c a d v w h; cases d <;> exact h) ?_))))))
      have hO := hO.drew
      refine da_phase _ [8] (SO.ks [.b a, .b b4] hO) ?_
      refine dx_u 0 (by kernel_rfl) rfl rfl rfl (fun w => y_move rfl) ?_
      refine dx_u 1 (by kernel_rfl) rfl rfl rfl (fun w => y_move rfl) ?_
      refine dx_u 2 (by kernel_rfl) rfl rfl rfl (fun w => y_nilCheck rfl rfl) ?_
      refine dx_u 3 (by kernel_rfl) rfl rfl rfl (fun w => y_fldb (o' := 0) rfl) ?_
      refine dx_y 4 (by kernel_rfl) rfl rfl rfl (fun w ⟨m, hw⟩ => D5 hw rfl) ?_
      refine dx_y 5 (by kernel_rfl) rfl rfl rfl (fun w ⟨m, hw⟩ => D8 (cs := [.int .i64 n.Kind, .int .i64 n.Space, .string n.Name, .slice n.AttrsP n.Attrs.length n.AttrsC, .string n.Data, .string n.System, .int .i64 n.Parent, .int .i64 n.First, .int .i64 n.Last, .int .i64 n.Prev, .int .i64 n.Next, .int .i64 n.Inner]) hw rfl) ?_
      refine dx_only 6 (by kernel_rfl) rfl rfl ?_
      refine C0 hO rfl (fun k' hx hr hO' => blank_spec (n := n) (hO := hO')) ?_
      rintro _ _ w ⟨rfl, rfl⟩ hO
      simp only [List.cons_append, List.nil_append] at hO
      refine o_done (⟨SO.ks [.b a, .b b4] hO, ?_⟩)
      refine dx_only 7 (by kernel_rfl) rfl rfl ?_
      refine s_lit (parts := [(0, .tmp 34)]) (enc := Node_one.cells) [(blankN n)] [.agg [.int .i64 (blankN n).Node.Kind, .int .i64 (blankN n).Node.Space, .string (blankN n).Node.Name, .slice (blankN n).Node.AttrsP (blankN n).Node.Attrs.length (blankN n).Node.AttrsC, .string (blankN n).Node.Data, .string (blankN n).Node.System, .int .i64 (blankN n).Node.Parent, .int .i64 (blankN n).Node.First, .int .i64 (blankN n).Node.Last, .int .i64 (blankN n).Node.Prev, .int .i64 (blankN n).Node.Next, .int .i64 (blankN n).Node.Inner, .int .i64 (blankN n).host].toArray] hO rfl (fun b35 w hO => ?_)
      refine o_done (⟨SO.ks [.b a, .b b4] hO, ?_⟩)
      refine dx_close 8 (by kernel_rfl) rfl rfl ?_
      refine s_app hO rfl rfl (src_own hO) (fun p36 c36 w hO gs36 => ?_)
      refine o_done (da_phase _ [11] (SO.ks [] hO) ?_)
      refine dx_u 9 (by kernel_rfl) rfl rfl rfl (fun w => y_nilCheck rfl rfl) ?_
      refine dx_u 10 (by kernel_rfl) rfl rfl rfl (fun w => y_fldb (o' := 0) rfl) ?_
      refine dx_close 11 (by kernel_rfl) rfl rfl ?_
      refine Y1 hO rfl rfl (fun w hO => ?_)
      simp only [List.set_cons_zero, List.set_cons_succ] at hO
      refine o_done (da_end (by kernel_rfl) ?_)
      refine K3 (K0 ?_)
      have hal : (A ++ [blankN n]).length = A.length + 1 := by simp
      refine K1 (V1 rfl rfl rfl (V3 rfl rfl rfl rfl (l_y rfl rfl (y_fldb (o' := 0) rfl) (l_y rfl rfl (D5 hO rfl) ?_))))
      refine l_y rfl rfl (y_lenL rfl) (l_y rfl rfl (D4) ?_)
      refine V2 rfl rfl rfl (V2 rfl rfl rfl (K2 (K3 (K6 ?_))))
      have e : addL A n ts = ((A.length : Int), 0, A ++ [blankN n]) := by rw [addL, hlf, if_neg (by simp), if_neg (by omega)]
      have hO := (hO.ks [.s, .p (blankN n).Node.AttrsP]).snoc.ks [.s, .b a, .p p36]
      rw [e]
      refine fin2 rfl rfl rfl ⟨_, ⟨?_, rfl⟩, (arenaL_shut hO (by simp)).one⟩
      simp
end Go.Proofs.YtoohapbaelmkcaaGreat
end
section
set_option maxRecDepth 100000
namespace Go.Proofs.YtoohapbaelmkcaaGreat
open Go Go.Hb Go.RowKit
theorem attrs_set {A : List Node_one} {i : Nat} {u : Node_one} (h : attrsP u = attrsP (at_ A i)) : (A.set i u).map attrsP = A.map attrsP := map_set_same' h
def setFirst (A : List Node_one) (i v : Int) : List Node_one := A.set i.toNat { at_ A i.toNat with Node := { (at_ A i.toNat).Node with First := v } }
def setLast (A : List Node_one) (i v : Int) : List Node_one := A.set i.toNat { at_ A i.toNat with Node := { (at_ A i.toNat).Node with Last := v } }
def setNext (A : List Node_one) (i v : Int) : List Node_one := A.set i.toNat { at_ A i.toNat with Node := { (at_ A i.toNat).Node with Next := v } }
def setPrev (A : List Node_one) (i v : Int) : List Node_one := A.set i.toNat { at_ A i.toNat with Node := { (at_ A i.toNat).Node with Prev := v } }
def joinA (A : List Node_one) (up left right : Int) : List Node_one := if left = -1 then setFirst A up right else setNext A left right
def joinB (A : List Node_one) (up left right : Int) : List Node_one := if right = -1 then setLast A up left else setPrev A right left
def joinL (A : List Node_one) (up left right : Int) : List Node_one := joinB (joinA A up left right) up left right
theorem joinA_len {A : List Node_one} {up left right : Int} : (joinA A up left right).length = A.length := by unfold joinA; split <;> simp [setFirst, setNext]
theorem joinB_len {A : List Node_one} {up left right : Int} : (joinB A up left right).length = A.length := by unfold joinB; split <;> simp [setLast, setPrev]
theorem joinL_len {A : List Node_one} {up left right : Int} : (joinL A up left right).length = A.length := by rw [joinL, joinB_len, joinA_len]
theorem joinA_attrs {A : List Node_one} {up left right : Int} : (joinA A up left right).map attrsP = A.map attrsP := by unfold joinA; split <;> exact attrs_set rfl
theorem joinB_attrs {A : List Node_one} {up left right : Int} : (joinB A up left right).map attrsP = A.map attrsP := by unfold joinB; split <;> exact attrs_set rfl
theorem joinL_attrs {A : List Node_one} {up left right : Int} : (joinL A up left right).map attrsP = A.map attrsP := by rw [joinL, joinB_attrs, joinA_attrs]
theorem join_spec {k : Ctx} {w : World} {a : Nat} {A : List Node_one} {p : Option Addr} {c n : Nat} {up left right : Int} (hg : Gs p n) (hn : n = A.length) (hup : 0 ≤ up ∧ up < n) (hl : left = -1 ∨ 0 ≤ left ∧ left < n) (hr : right = -1 ∨ 0 ≤ right ∧ right < n) (hO : Own k w [arB a p n c, arS p c A]) :
  Tri Tryz.prog 55 #[.pointer (some ⟨a, 0, none⟩), .int .i64 up, .int .i64 left, .int .i64 right] k w fun v m => v = .tuple #[] ∧ m = [arB a p n c, arS p c (joinL A up left right)] := by
 refine enter (args := [.pointer (some ⟨a, 0, none⟩), .int .i64 up, .int .i64 left, .int .i64 right]) Tryz.func55 rfl rfl ?_
 have hgA : Gs p A.length := hn ▸ hg
 have hj := joinA_len (A := A) (up := up) (left := left) (right := right)
 have hgJ : Gs p (joinA A up left right).length := by rw [hj]; exact hgA
 refine K0 (K0 (K1 (V1 rfl rfl rfl ?_)))
 refine Z0 (fun h0_1 => ?_) (fun h0_1 => ?_)
 ·refine K2 (K3 (L8 (K1 (V1 rfl rfl rfl (V3 rfl rfl rfl rfl (l_y rfl rfl (y_fldb (o' := 0) rfl) (l_y rfl rfl (D5 hO rfl) ?_)))))))
  refine V1 rfl rfl rfl (V1 rfl rfl rfl (l_y rfl rfl (y_idx rfl rfl) ?_))
  refine l_y rfl rfl (y_fld (j' := 0) rfl) ?_
  refine l_y rfl rfl (y_fld (j' := 7) rfl) ?_
  refine s_e1 (x0 := 7) hO rfl rfl (fun w hO => ?_)
  refine K2 (K3 (K0 ?_))
  have hO : Own k w [arB a p n c, arS p c (joinA A up left right)] := by simp only [joinA]; first | rw [if_pos h0_1]; exact hO | rw [if_neg h0_1]; exact hO
  refine K1 (V1 rfl rfl rfl ?_)
  refine Z0 (fun h3_1 => ?_) (fun h3_1 => ?_)
  ·refine K2 (K3 (L8 (K1 (V1 rfl rfl rfl (V3 rfl rfl rfl rfl (l_y rfl rfl (y_fldb (o' := 0) rfl) (l_y rfl rfl (D5 hO rfl) ?_)))))))
   refine V1 rfl rfl rfl (V1 rfl rfl rfl (l_y rfl rfl (y_idx rfl rfl) ?_))
   refine l_y rfl rfl (y_fld (j' := 0) rfl) ?_
   refine l_y rfl rfl (y_fld (j' := 8) rfl) ?_
   refine s_e1 (x0 := 8) hO rfl rfl (fun w hO => ?_)
   refine K2 ?_
   have hO : Own k w [arB a p n c, arS p c (joinL A up left right)] := by simp only [joinL, joinB]; first | rw [if_pos h3_1]; exact hO | rw [if_neg h3_1]; exact hO
   exact fin0 rfl ⟨_, ⟨rfl, rfl⟩, hO⟩
  ·refine K2 (K3 (L9 (K1 (V1 rfl rfl rfl (V3 rfl rfl rfl rfl (l_y rfl rfl (y_fldb (o' := 0) rfl) (l_y rfl rfl (D5 hO rfl) ?_)))))))
   refine V1 rfl rfl rfl (V1 rfl rfl rfl (l_y rfl rfl (y_idx rfl rfl) ?_))
   refine l_y rfl rfl (y_fld (j' := 0) rfl) ?_
   refine l_y rfl rfl (y_fld (j' := 9) rfl) ?_
   refine s_e1 (x0 := 9) hO rfl rfl (fun w hO => ?_)
   refine K2 ?_
   have hO : Own k w [arB a p n c, arS p c (joinL A up left right)] := by simp only [joinL, joinB]; first | rw [if_pos h3_1]; exact hO | rw [if_neg h3_1]; exact hO
   exact fin0 rfl ⟨_, ⟨rfl, rfl⟩, hO⟩
 ·refine K2 (K3 (L9 (K1 (V1 rfl rfl rfl (V3 rfl rfl rfl rfl (l_y rfl rfl (y_fldb (o' := 0) rfl) (l_y rfl rfl (D5 hO rfl) ?_)))))))
  refine V1 rfl rfl rfl (V1 rfl rfl rfl (l_y rfl rfl (y_idx rfl rfl) ?_))
  refine l_y rfl rfl (y_fld (j' := 0) rfl) ?_
  refine l_y rfl rfl (y_fld (j' := 10) rfl) ?_
  refine s_e1 (x0 := 10) hO rfl rfl (fun w hO => ?_)
  refine K2 (K3 (K0 ?_))
  have hO : Own k w [arB a p n c, arS p c (joinA A up left right)] := by simp only [joinA]; first | rw [if_pos h0_1]; exact hO | rw [if_neg h0_1]; exact hO
  refine K1 (V1 rfl rfl rfl ?_)
  refine Z0 (fun h3_1 => ?_) (fun h3_1 => ?_)
  ·refine K2 (K3 (L8 (K1 (V1 rfl rfl rfl (V3 rfl rfl rfl rfl (l_y rfl rfl (y_fldb (o' := 0) rfl) (l_y rfl rfl (D5 hO rfl) ?_)))))))
   refine V1 rfl rfl rfl (V1 rfl rfl rfl (l_y rfl rfl (y_idx rfl rfl) ?_))
   refine l_y rfl rfl (y_fld (j' := 0) rfl) ?_
   refine l_y rfl rfl (y_fld (j' := 8) rfl) ?_
   refine s_e1 (x0 := 8) hO rfl rfl (fun w hO => ?_)
   refine K2 ?_
   have hO : Own k w [arB a p n c, arS p c (joinL A up left right)] := by simp only [joinL, joinB]; first | rw [if_pos h3_1]; exact hO | rw [if_neg h3_1]; exact hO
   exact fin0 rfl ⟨_, ⟨rfl, rfl⟩, hO⟩
  ·refine K2 (K3 (L9 (K1 (V1 rfl rfl rfl (V3 rfl rfl rfl rfl (l_y rfl rfl (y_fldb (o' := 0) rfl) (l_y rfl rfl (D5 hO rfl) ?_)))))))
   refine V1 rfl rfl rfl (V1 rfl rfl rfl (l_y rfl rfl (y_idx rfl rfl) ?_))
   refine l_y rfl rfl (y_fld (j' := 0) rfl) ?_
   refine l_y rfl rfl (y_fld (j' := 9) rfl) ?_
   refine s_e1 (x0 := 9) hO rfl rfl (fun w hO => ?_)
   refine K2 ?_
   have hO : Own k w [arB a p n c, arS p c (joinL A up left right)] := by simp only [joinL, joinB]; first | rw [if_pos h3_1]; exact hO | rw [if_neg h3_1]; exact hO
   exact fin0 rfl ⟨_, ⟨rfl, rfl⟩, hO⟩
def nextUp (A : List Node_one) (x : Int) : Int := if (at_ A x.toNat).Node.Parent = -1 then (at_ A x.toNat).host else (at_ A x.toNat).Node.Parent
inductive Anc (A : List Node_one) : Int → Int → Prop
 | refl (x : Int) : Anc A x x
 | step {x y : Int} (h : x ≠ -1) (hs : Anc A (nextUp A x) y) : Anc A x y
def Ranked (A : List Node_one) : Prop := ∃ rk : Int → Nat, ∀ x, hasB A x = true → nextUp A x = -1 ∨ hasB A (nextUp A x) = true ∧ rk (nextUp A x) < rk x
noncomputable def ancB (A : List Node_one) (x y : Int) : Bool := @decide (Anc A x y) (Classical.propDecidable _)
noncomputable def aboveB (A : List Node_one) (x y : Int) : Bool := hasB A x && hasB A y && ancB A x y
theorem anc_none {A : List Node_one} {y : Int} (h : Anc A (-1) y) : y = -1 := by
 cases h with
 | refl => rfl
 | step h _ => exact absurd rfl h
theorem anc_ne {A : List Node_one} {x y : Int} (h : x ≠ y) (h1 : x ≠ -1) : Anc A x y ↔ Anc A (nextUp A x) y := ⟨fun k => by
  cases k with
  | refl => exact absurd rfl h
  | step _ hs => exact hs, fun k => .step h1 k⟩
theorem ancB_iff {A : List Node_one} {x y : Int} : ancB A x y = true ↔ Anc A x y := by simp [ancB]
theorem ancB_of {A : List Node_one} {x y : Int} (h : Anc A x y) : ancB A x y = true := ancB_iff.2 h
theorem ancB_not {A : List Node_one} {x y : Int} (h : ¬ Anc A x y) : ancB A x y = false := by
 cases e : ancB A x y with
 | false => rfl
 | true => exact absurd (ancB_iff.1 e) h
theorem Above_spec {k : Ctx} {w : World} {a : Nat} {A : List Node_one} {p : Option Addr} {c : Nat} {id other : Int} (hn : 0 < A.length) (hg : Gs p A.length) (hrk : Ranked A) (hO : Own k w [arB a p A.length c, arS p c A]) :
    Tri Tryz.prog 54 #[.pointer (some ⟨a, 0, none⟩), .int .i64 id, .int .i64 other] k w fun v m => v = .bool (aboveB A id other) ∧ m = [arB a p A.length c, arS p c A] := by
  refine enter (args := [.pointer (some ⟨a, 0, none⟩), .int .i64 id, .int .i64 other]) Tryz.func54 rfl rfl ?_
  obtain ⟨rk, hrk⟩ := hrk
  refine K0 (K1 (V2 rfl rfl rfl (K2 (K3 (K0 (K0 (K1 (V1 rfl rfl rfl (CK [.b a, .p p] hO rfl (fun k' hx hr hO' => none_spec (hO := hO')) ?_)))))))))
  rintro _ _ w ⟨rfl, rfl⟩ hO
  simp only [List.cons_append, List.nil_append] at hO
  refine V1 rfl rfl rfl (V1 rfl rfl rfl (V1 rfl rfl rfl (CK [.b a, .p p] hO rfl (fun k' hx hr hO' => has_spec (hO := hO')) ?_)))
  rintro _ _ w ⟨rfl, rfl⟩ hO
  simp only [List.cons_append, List.nil_append] at hO
  refine l_y rfl rfl (y_not rfl rfl) (l_y rfl rfl (y_pick_f rfl rfl) (V1 rfl rfl rfl ?_))
  refine l_split 16 rfl (fun hg16 => ?_) (fun hg16 => ?_)
  · simp only [Bool.not_eq_true', Bool.not_eq_false'] at hg16
    repeat refine M2 ?_
    refine l_y rfl rfl (y_pick_t rfl rfl) (K2 (K3 (L8 (K0 (K1 (V2 rfl rfl rfl (K2 (K3 (K6 (K9 ?_))))))))))
    first
    | exact fin1 rfl rfl ⟨_, ⟨by rw [aboveB, hg16]; rfl, rfl⟩, hO⟩
    | exact fin1 rfl rfl ⟨_, ⟨by rw [aboveB, hc21, Bool.and_false]; rfl, rfl⟩, hO⟩
  · simp only [Bool.not_eq_true', Bool.not_eq_false'] at hg16
    refine V1 rfl rfl rfl (V1 rfl rfl rfl (CK [.b a, .p p] hO rfl (fun k' hx hr hO' => has_spec (hO := hO')) ?_))
    rintro _ _ w ⟨rfl, rfl⟩ hO
    simp only [List.cons_append, List.nil_append] at hO
    refine l_y rfl rfl (y_not rfl rfl) (l_y rfl rfl (y_pick_f rfl rfl) (K2 (K3 ?_)))
    refine c_split rfl (fun hc21 => ?_) (fun hc21 => ?_)
    · simp only [Bool.not_eq_true', Bool.not_eq_false'] at hc21
      refine K0 (K1 (V2 rfl rfl rfl (K2 (K3 (K6 (K9 ?_))))))
      first
      | exact fin1 rfl rfl ⟨_, ⟨by rw [aboveB, hg16]; rfl, rfl⟩, hO⟩
      | exact fin1 rfl rfl ⟨_, ⟨by rw [aboveB, hc21, Bool.and_false]; rfl, rfl⟩, hO⟩
    · simp only [Bool.not_eq_true', Bool.not_eq_false'] at hc21
      refine K5 (K3 (K0 (K4 (c_rounds (X := Int) (fun x => [(0, .pointer (some ⟨a, 0, none⟩)), (1, .int .i64 x), (2, .int .i64 other), (6, .bool false)]) (fun x w => Own k w [arB a p A.length c, arS p c A] ∧ ((x = -1 ∨ hasB A x = true)) ∧ ((Anc A id other ↔ Anc A x other))) (fun x => if x = -1 then 0 else rk x + 1) (id) ⟨rfl, rfl, rfl, rfl, trivial⟩ ⟨hO.only [.b a, .p p], .inr hg16, Iff.rfl⟩ ?_))))
      rintro x w m hm ⟨hO, hx, he⟩
      refine K0 (K0 (K1 (V1 rfl rfl rfl (V1 rfl rfl rfl ?_))))
      refine Z1 (fun h3_2 => ?_) (fun h3_2 => ?_)
      · refine V1 rfl rfl rfl (V1 rfl rfl rfl ?_)
        refine Z1 (fun h3_5 => ?_) (fun h3_5 => ?_)
        · refine l_y rfl rfl (y_pick_t rfl rfl) (K2 (K3 (L8 (K5 (K3 (K4 (K0 ?_)))))))
          have hb := hx.resolve_left h3_5
          have hb2 := hasB_true hb
          refine K1 (V1 rfl rfl rfl (V3 rfl rfl rfl rfl (l_y rfl rfl (y_fldb (o' := 0) rfl) (l_y rfl rfl (D5 hO rfl) ?_))))
          refine V1 rfl rfl rfl (l_y rfl rfl (y_idx rfl rfl) ?_)
          refine l_y rfl rfl (y_eA (x0 := 0) (cs := [.int .i64 (at_ A (x : Int).toNat).Node.Kind, .int .i64 (at_ A (x : Int).toNat).Node.Space, .string (at_ A (x : Int).toNat).Node.Name, .slice (at_ A (x : Int).toNat).Node.AttrsP (at_ A (x : Int).toNat).Node.Attrs.length (at_ A (x : Int).toNat).Node.AttrsC, .string (at_ A (x : Int).toNat).Node.Data, .string (at_ A (x : Int).toNat).Node.System, .int .i64 (at_ A (x : Int).toNat).Node.Parent, .int .i64 (at_ A (x : Int).toNat).Node.First, .int .i64 (at_ A (x : Int).toNat).Node.Last, .int .i64 (at_ A (x : Int).toNat).Node.Prev, .int .i64 (at_ A (x : Int).toNat).Node.Next, .int .i64 (at_ A (x : Int).toNat).Node.Inner, .int .i64 (at_ A (x : Int).toNat).host]) hO rfl) ?_
          refine s_alloc (vs := [.int .i64 0, .int .i64 0, .string ⟨#[]⟩, .slice none 0 0, .string ⟨#[]⟩, .string ⟨#[]⟩, .int .i64 0, .int .i64 0, .int .i64 0, .int .i64 0, .int .i64 0, .int .i64 0, .int .i64 0]) hO rfl rfl rfl fun b7 w hO => ?_
          refine Y3 hO rfl rfl (fun w hO => ?_)
          refine K2 (K3 (K0 (K1 (l_y rfl rfl (y_fldb (o' := 0) rfl) (l_y rfl rfl (y_fldb (o' := 6) rfl) (l_y rfl rfl (D5 hO rfl) ?_))))))
          refine V2 rfl rfl rfl (K2 (K3 (K0 (K1 (V1 rfl rfl rfl ?_)))))
          refine Z0 (fun h6_1 => ?_) (fun h6_1 => ?_)
          · refine K2 (K3 (L8 (K1 (l_y rfl rfl (y_fldb (o' := 12) rfl) (l_y rfl rfl (D5 hO rfl) ?_)))))
            refine V2 rfl rfl rfl (K2 (K8 ?_))
            have hnx : nextUp A x = (at_ A (x : Int).toNat).host := by simp only [nextUp]; first | rw [if_pos h6_1] | rw [if_neg h6_1]
            have hrx := hrk x (hx.resolve_left h3_5)
            have hlt : (if nextUp A x = -1 then 0 else rk (nextUp A x) + 1) < rk x + 1 := by
              split
              · omega
              · rename_i h; have := (hrx.resolve_left h).2; omega
            exact q_next ((at_ A (x : Int).toNat).host) ⟨rfl, rfl, rfl, rfl, trivial⟩ ⟨hO.only [.b a, .p p], by rw [← hnx]; exact hrx.imp (fun h => h) And.left, by rw [he, anc_ne h3_2 h3_5, hnx]⟩ (by rw [← hm, if_neg h3_5, ← hnx]; exact hlt)
          · refine K2 (K3 (L9 (K5 (K8 ?_))))
            have hnx : nextUp A x = (at_ A (x : Int).toNat).Node.Parent := by simp only [nextUp]; first | rw [if_pos h6_1] | rw [if_neg h6_1]
            have hrx := hrk x (hx.resolve_left h3_5)
            have hlt : (if nextUp A x = -1 then 0 else rk (nextUp A x) + 1) < rk x + 1 := by
              split
              · omega
              · rename_i h; have := (hrx.resolve_left h).2; omega
            exact q_next ((at_ A (x : Int).toNat).Node.Parent) ⟨rfl, rfl, rfl, rfl, trivial⟩ ⟨hO.only [.b a, .p p], by rw [← hnx]; exact hrx.imp (fun h => h) And.left, by rw [he, anc_ne h3_2 h3_5, hnx]⟩ (by rw [← hm, if_neg h3_5, ← hnx]; exact hlt)
        · refine l_y rfl rfl (y_pick_t rfl rfl) (K2 (K3 (L9 (K7 (L1 (L1 (L2 (K3 (K0 (K1 (V1 rfl rfl rfl (V1 rfl rfl rfl ?_))))))))))))
          refine Z0 (fun h8_2 => ?_) (fun h8_2 => ?_)
          · refine V2 rfl rfl rfl (K2 (K3 (K6 ?_)))
            have hid : hasB A id = true := hg16
            have hot : hasB A other = true := hc21
            have hot2 := hasB_true hot
            first
            | (exfalso; omega)
            | (have e : x = other := by omega
               subst e
               exact fin1 rfl rfl ⟨_, ⟨by simp [aboveB, hid, hot, ancB_of (he.2 (.refl _))], rfl⟩, hO⟩)
            | (have e : x = -1 := by omega
               subst e
               exact fin1 rfl rfl ⟨_, ⟨by simp [aboveB, ancB_not (fun h => h8_2 (anc_none (he.1 h)).symm)], rfl⟩, hO⟩)
          · refine V2 rfl rfl rfl (K2 (K3 (K6 ?_)))
            have hid : hasB A id = true := hg16
            have hot : hasB A other = true := hc21
            have hot2 := hasB_true hot
            first
            | (exfalso; omega)
            | (have e : x = other := by omega
               subst e
               exact fin1 rfl rfl ⟨_, ⟨by simp [aboveB, hid, hot, ancB_of (he.2 (.refl _))], rfl⟩, hO⟩)
            | (have e : x = -1 := by omega
               subst e
               exact fin1 rfl rfl ⟨_, ⟨by simp [aboveB, ancB_not (fun h => h8_2 (anc_none (he.1 h)).symm)], rfl⟩, hO⟩)
      · refine V1 rfl rfl rfl ?_
        repeat refine M2 ?_
        refine l_y rfl rfl (y_pick_f rfl rfl) (K2 (K3 (L9 (K7 (L1 (L1 (L2 (K3 (K0 (K1 (V1 rfl rfl rfl (V1 rfl rfl rfl ?_))))))))))))
        refine Z0 (fun h8_2 => ?_) (fun h8_2 => ?_)
        · refine V2 rfl rfl rfl (K2 (K3 (K6 ?_)))
          have hid : hasB A id = true := hg16
          have hot : hasB A other = true := hc21
          have hot2 := hasB_true hot
          first
          | (exfalso; omega)
          | (have e : x = other := by omega
             subst e
             exact fin1 rfl rfl ⟨_, ⟨by simp [aboveB, hid, hot, ancB_of (he.2 (.refl _))], rfl⟩, hO⟩)
          | (have e : x = -1 := by omega
             subst e
             exact fin1 rfl rfl ⟨_, ⟨by simp [aboveB, ancB_not (fun h => h8_2 (anc_none (he.1 h)).symm)], rfl⟩, hO⟩)
        · refine V2 rfl rfl rfl (K2 (K3 (K6 ?_)))
          have hid : hasB A id = true := hg16
          have hot : hasB A other = true := hc21
          have hot2 := hasB_true hot
          first
          | (exfalso; omega)
          | (have e : x = other := by omega
             subst e
             exact fin1 rfl rfl ⟨_, ⟨by simp [aboveB, hid, hot, ancB_of (he.2 (.refl _))], rfl⟩, hO⟩)
          | (have e : x = -1 := by omega
             subst e
             exact fin1 rfl rfl ⟨_, ⟨by simp [aboveB, ancB_not (fun h => h8_2 (anc_none (he.1 h)).symm)], rfl⟩, hO⟩)
def InR (A : List Node_one) (v : Int) : Prop := v = -1 ∨ 0 ≤ v ∧ v < A.length
structure LinksOk (A : List Node_one) : Prop where
 first : ∀ x, hasB A x = true → InR A (at_ A x.toNat).Node.First
 last : ∀ x, hasB A x = true → InR A (at_ A x.toNat).Node.Last
 prev : ∀ x, hasB A x = true → InR A (at_ A x.toNat).Node.Prev
 next : ∀ x, hasB A x = true → InR A (at_ A x.toNat).Node.Next
 parent : ∀ x, hasB A x = true → InR A (at_ A x.toNat).Node.Parent
def setLinks (A : List Node_one) (id up prev next : Int) : List Node_one := A.set id.toNat { at_ A id.toNat with Node := { (at_ A id.toNat).Node with Parent := up, Prev := prev, Next := next } }
def prevL (A : List Node_one) (up before : Int) : Int := if before = -1 then (at_ A up.toNat).Node.Last else (at_ A before.toNat).Node.Prev
noncomputable def linkL (A : List Node_one) (up id before : Int) : Int × List Node_one :=
 if hasB A up = false ∨ hasB A id = false ∨ (before ≠ -1 ∧ hasB A before = false) then (6, A)
 else if parentB (at_ A up.toNat).Node.Kind = false ∨ (at_ A id.toNat).Node.Kind = 0 ∨ (at_ A id.toNat).Node.Kind = 5 then (10, A)
 else if (at_ A id.toNat).Node.Parent ≠ -1 ∨ aboveB A up id = true then (11, A)
 else if before ≠ -1 ∧ (at_ A before.toNat).Node.Parent ≠ up then (1, A)
 else (0, joinL (joinL (setLinks A id up (prevL A up before) before) up (prevL A up before) id) up id before)
set_option maxHeartbeats 2000000 in
theorem Link_spec {k : Ctx} {w : World} {a : Nat} {A : List Node_one} {p : Option Addr} {c : Nat} {up id before : Int} (hn : 0 < A.length) (hg : Gs p A.length) (hrk : Ranked A) (hL : LinksOk A) (hO : Own k w [arB a p A.length c, arS p c A]) :
    Tri Tryz.prog 19 #[.pointer (some ⟨a, 0, none⟩), .int .i64 up, .int .i64 id, .int .i64 before] k w fun v m => v = .int .i64 (linkL A up id before).1 ∧ m = [arB a p A.length c, arS p c (linkL A up id before).2] := by
  refine enter (args := [.pointer (some ⟨a, 0, none⟩), .int .i64 up, .int .i64 id, .int .i64 before]) Tryz.func19 rfl rfl (K0 (K1 (V2 rfl rfl rfl (K2 (K3 (K0 (K4 (K0 (K1 (V1 rfl rfl rfl (CK [.b a, .p p] hO rfl (fun k' hx hr hO' => none_spec (hO := hO')) ?_)))))))))))
  rintro _ _ w ⟨rfl, rfl⟩ hO
  simp only [List.cons_append, List.nil_append] at hO
  refine V2 rfl rfl rfl (K2 (K3 (L9 (K0 (K1 (V1 rfl rfl rfl (V1 rfl rfl rfl (CK [.b a, .p p] hO rfl (fun k' hx hr hO' => has_spec (hO := hO')) ?_))))))))
  rintro _ _ w ⟨rfl, rfl⟩ hO
  simp only [List.cons_append, List.nil_append] at hO
  refine l_y rfl rfl (y_not rfl rfl) (V1 rfl rfl rfl ?_)
  refine l_split 19 rfl (fun hg19 => ?_) (fun hg19 => ?_)
  · simp only [Bool.not_eq_true', Bool.not_eq_false'] at hg19
    repeat refine M2 ?_
    refine l_y rfl rfl (y_pick_t rfl rfl) (V1 rfl rfl rfl ?_)
    repeat refine M2 ?_
    refine l_y rfl rfl (y_pick_t rfl rfl) (V2 rfl rfl rfl (K2 (K3 (L8 (K0 (K1 (V2 rfl rfl rfl (K2 (K3 (K6 (L0 (K9 ?_))))))))))))
    exact fin1 rfl rfl ⟨_, ⟨by simp [linkL, *], by simp [linkL, *]⟩, hO⟩
  · simp only [Bool.not_eq_true', Bool.not_eq_false'] at hg19
    refine V1 rfl rfl rfl (V1 rfl rfl rfl (CK [.b a, .p p] hO rfl (fun k' hx hr hO' => has_spec (hO := hO')) ?_))
    rintro _ _ w ⟨rfl, rfl⟩ hO
    simp only [List.cons_append, List.nil_append] at hO
    refine l_y rfl rfl (y_not rfl rfl) (l_y rfl rfl (y_pick_f rfl rfl) (V1 rfl rfl rfl ?_))
    refine l_split 25 rfl (fun hg25 => ?_) (fun hg25 => ?_)
    · simp only [Bool.not_eq_true', Bool.not_eq_false'] at hg25
      repeat refine M2 ?_
      refine l_y rfl rfl (y_pick_t rfl rfl) (V2 rfl rfl rfl (K2 (K3 (L8 (K0 (K1 (V2 rfl rfl rfl (K2 (K3 (K6 (L0 (K9 ?_))))))))))))
      exact fin1 rfl rfl ⟨_, ⟨by simp [linkL, *], by simp [linkL, *]⟩, hO⟩
    · simp only [Bool.not_eq_true', Bool.not_eq_false'] at hg25
      refine V1 rfl rfl rfl ?_
      refine Z1 (fun h3_12 => ?_) (fun h3_12 => ?_)
      · refine V1 rfl rfl rfl (V1 rfl rfl rfl (V1 rfl rfl rfl (CK [.b a, .p p] hO rfl (fun k' hx hr hO' => has_spec (hO := hO')) ?_)))
        rintro _ _ w ⟨rfl, rfl⟩ hO
        simp only [List.cons_append, List.nil_append] at hO
        refine l_y rfl rfl (y_not rfl rfl) (l_y rfl rfl (y_pick_t rfl rfl) (l_y rfl rfl (y_pick_f rfl rfl) (V2 rfl rfl rfl (K2 (K3 ?_)))))
        refine c_split rfl (fun hc14 => ?_) (fun hc14 => ?_)
        · simp only [Bool.not_eq_true', Bool.not_eq_false'] at hc14
          refine K0 (K1 (V2 rfl rfl rfl (K2 (K3 (K6 (L0 (K9 ?_)))))))
          exact fin1 rfl rfl ⟨_, ⟨by simp [linkL, *], by simp [linkL, *]⟩, hO⟩
        · simp only [Bool.not_eq_true', Bool.not_eq_false'] at hc14
          refine K0 ?_
          have hup := hasB_true hg19
          have hid := hasB_true hg25
          try have hbe := hasB_true hc14
          have hq1 : _ ∨ _ := hL.last up hg19
          try have hq2 : _ ∨ _ := hL.prev before hc14
          refine K1 (V1 rfl rfl rfl (V3 rfl rfl rfl rfl (l_y rfl rfl (y_fldb (o' := 0) rfl) (l_y rfl rfl (D5 hO rfl) ?_))))
          refine V1 rfl rfl rfl (l_y rfl rfl (y_idx rfl rfl) ?_)
          refine l_y rfl rfl (y_fld (j' := 0) rfl) ?_
          refine l_y rfl rfl (y_fld (j' := 0) rfl) ?_
          refine l_y rfl rfl (y_e1 (x0 := 0) hO rfl) ?_
          refine CK [] hO rfl (fun k' hx hr hO' => parent_spec (hO := hO')) ?_
          rintro _ _ w ⟨rfl, rfl⟩ hO
          simp only [List.cons_append, List.nil_append] at hO
          refine l_y rfl rfl (y_not rfl rfl) (V1 rfl rfl rfl ?_)
          refine l_split 47 rfl (fun hg47 => ?_) (fun hg47 => ?_)
          · simp only [Bool.not_eq_true', Bool.not_eq_false'] at hg47
            repeat refine M2 ?_
            refine l_y rfl rfl (y_pick_t rfl rfl) (V1 rfl rfl rfl ?_)
            repeat refine M2 ?_
            refine l_y rfl rfl (y_pick_t rfl rfl) (V2 rfl rfl rfl (K2 (K3 (L8 (K0 (K1 (V2 rfl rfl rfl (K2 (K3 (K6 (L0 (K9 ?_))))))))))))
            exact fin1 rfl rfl ⟨_, ⟨by simp [linkL, *], by simp [linkL, *]⟩, hO⟩
          · simp only [Bool.not_eq_true', Bool.not_eq_false'] at hg47
            refine V1 rfl rfl rfl (V3 rfl rfl rfl rfl (l_y rfl rfl (y_fldb (o' := 0) rfl) (l_y rfl rfl (D5 hO rfl) ?_)))
            refine V1 rfl rfl rfl (l_y rfl rfl (y_idx rfl rfl) ?_)
            refine l_y rfl rfl (y_fld (j' := 0) rfl) ?_
            refine l_y rfl rfl (y_fld (j' := 0) rfl) ?_
            refine l_y rfl rfl (y_e1 (x0 := 0) hO rfl) ?_
            refine Z0 (fun h5_21 => ?_) (fun h5_21 => ?_)
            · refine l_y rfl rfl (y_pick_f rfl rfl) (V1 rfl rfl rfl ?_)
              repeat refine M2 ?_
              refine l_y rfl rfl (y_pick_t rfl rfl) (V2 rfl rfl rfl (K2 (K3 (L8 (K0 (K1 (V2 rfl rfl rfl (K2 (K3 (K6 (L0 (K9 ?_))))))))))))
              exact fin1 rfl rfl ⟨_, ⟨by simp [linkL, *], by simp [linkL, *]⟩, hO⟩
            · refine l_y rfl rfl (y_pick_f rfl rfl) (V1 rfl rfl rfl (V1 rfl rfl rfl (V3 rfl rfl rfl rfl (l_y rfl rfl (y_fldb (o' := 0) rfl) (l_y rfl rfl (D5 hO rfl) ?_)))))
              refine V1 rfl rfl rfl (l_y rfl rfl (y_idx rfl rfl) ?_)
              refine l_y rfl rfl (y_fld (j' := 0) rfl) ?_
              refine l_y rfl rfl (y_fld (j' := 0) rfl) ?_
              refine l_y rfl rfl (y_e1 (x0 := 0) hO rfl) ?_
              refine Z0 (fun h5_33 => ?_) (fun h5_33 => ?_)
              · refine l_y rfl rfl (y_pick_f rfl rfl) (V2 rfl rfl rfl (K2 (K3 (L8 (K0 (K1 (V2 rfl rfl rfl (K2 (K3 (K6 (L0 (K9 ?_))))))))))))
                exact fin1 rfl rfl ⟨_, ⟨by simp [linkL, *], by simp [linkL, *]⟩, hO⟩
              · refine l_y rfl rfl (y_pick_f rfl rfl) (V2 rfl rfl rfl (K2 (K3 (L9 (K0 (K1 (V1 rfl rfl rfl (V3 rfl rfl rfl rfl (l_y rfl rfl (y_fldb (o' := 0) rfl) (l_y rfl rfl (D5 hO rfl) ?_))))))))))
                refine V1 rfl rfl rfl (l_y rfl rfl (y_idx rfl rfl) ?_)
                refine l_y rfl rfl (y_fld (j' := 0) rfl) ?_
                refine l_y rfl rfl (y_fld (j' := 6) rfl) ?_
                refine l_y rfl rfl (y_e1 (x0 := 6) hO rfl) ?_
                refine Z1 (fun h7_9 => ?_) (fun h7_9 => ?_)
                · refine V1 rfl rfl rfl ?_
                  repeat refine M2 ?_
                  refine l_y rfl rfl (y_pick_t rfl rfl) (V2 rfl rfl rfl (K2 (K3 (L8 (K0 (K1 (V2 rfl rfl rfl (K2 (K3 (K6 (L0 (K9 ?_))))))))))))
                  exact fin1 rfl rfl ⟨_, ⟨by simp [linkL, *], by simp [linkL, *]⟩, hO⟩
                · refine V1 rfl rfl rfl (V1 rfl rfl rfl (V1 rfl rfl rfl (V1 rfl rfl rfl (CK [.b a, .p p] hO rfl (fun k' hx hr hO' => Above_spec hn hg hrk (hO := hO')) ?_))))
                  rintro _ _ w ⟨rfl, rfl⟩ hO
                  simp only [List.cons_append, List.nil_append] at hO
                  refine l_y rfl rfl (y_pick_f rfl rfl) (V2 rfl rfl rfl (K2 (K3 ?_)))
                  refine c_split rfl (fun hc71 => ?_) (fun hc71 => ?_)
                  · refine K0 (K1 (V2 rfl rfl rfl (K2 (K3 (K6 (L0 (K9 ?_)))))))
                    exact fin1 rfl rfl ⟨_, ⟨by simp [linkL, *], by simp [linkL, *]⟩, hO⟩
                  · refine K0 (K1 (V1 rfl rfl rfl ?_))
                    refine Z1 (fun h9_1 => ?_) (fun h9_1 => ?_)
                    · first
                      | (exfalso; omega)
                      | skip
                        refine V1 rfl rfl rfl (V1 rfl rfl rfl (V3 rfl rfl rfl rfl (l_y rfl rfl (y_fldb (o' := 0) rfl) (l_y rfl rfl (D5 hO rfl) ?_))))
                        refine V1 rfl rfl rfl (l_y rfl rfl (y_idx rfl rfl) ?_)
                        refine l_y rfl rfl (y_fld (j' := 0) rfl) ?_
                        refine l_y rfl rfl (y_fld (j' := 6) rfl) ?_
                        refine l_y rfl rfl (y_e1 (x0 := 6) hO rfl) ?_
                        refine V1 rfl rfl rfl ?_
                        refine Z1 (fun h9_13 => ?_) (fun h9_13 => ?_)
                        · refine l_y rfl rfl (y_pick_t rfl rfl) (V2 rfl rfl rfl (K2 (K3 (L8 (K0 (K1 (V2 rfl rfl rfl (K2 (K3 (K6 (L0 (K9 ?_))))))))))))
                          exact fin1 rfl rfl ⟨_, ⟨by simp [linkL, *], by simp [linkL, *]⟩, hO⟩
                        · refine l_y rfl rfl (y_pick_t rfl rfl) (V2 rfl rfl rfl (K2 (K3 (L9 (K5 (K8 (K3 (K0 (K1 (V1 rfl rfl rfl (V3 rfl rfl rfl rfl (l_y rfl rfl (y_fldb (o' := 0) rfl) (l_y rfl rfl (D5 hO rfl) ?_)))))))))))))
                          refine V1 rfl rfl rfl (l_y rfl rfl (y_idx rfl rfl) ?_)
                          refine l_y rfl rfl (y_fld (j' := 0) rfl) ?_
                          refine l_y rfl rfl (y_fld (j' := 8) rfl) ?_
                          refine l_y rfl rfl (y_e1 (x0 := 8) hO rfl) ?_
                          refine V2 rfl rfl rfl (K2 (K3 (K0 (K0 (K1 (V1 rfl rfl rfl ?_))))))
                          refine Z1 (fun h12_1 => ?_) (fun h12_1 => ?_)
                          · first
                            | (exfalso; omega)
                            | skip
                              refine K2 (K3 (L8 (K1 (V1 rfl rfl rfl (V3 rfl rfl rfl rfl (l_y rfl rfl (y_fldb (o' := 0) rfl) (l_y rfl rfl (D5 hO rfl) ?_)))))))
                              refine V1 rfl rfl rfl (l_y rfl rfl (y_idx rfl rfl) ?_)
                              refine l_y rfl rfl (y_fld (j' := 0) rfl) ?_
                              refine l_y rfl rfl (y_fld (j' := 9) rfl) ?_
                              refine l_y rfl rfl (y_e1 (x0 := 9) hO rfl) ?_
                              refine V2 rfl rfl rfl (K2 (K3 (K0 (K1 (V1 rfl rfl rfl (V3 rfl rfl rfl rfl (l_y rfl rfl (y_fldb (o' := 0) rfl) (l_y rfl rfl (D5 hO rfl) ?_))))))))
                              refine V1 rfl rfl rfl (l_y rfl rfl (y_idx rfl rfl) ?_)
                              refine V2 rfl rfl rfl (K2 (K3 (K0 (K1 (V1 rfl rfl rfl (V1 rfl rfl rfl (V1 rfl rfl rfl (V1 rfl rfl rfl (V1 rfl rfl rfl (V1 rfl rfl rfl (V3 rfl rfl rfl rfl (l_y rfl rfl (y_fld (j' := 0) rfl) ?_))))))))))))
                              refine l_y rfl rfl (y_fld (j' := 6) rfl) ?_
                              refine s_e1 (x0 := 6) hO rfl rfl (fun w hO => ?_)
                              refine V3 rfl rfl rfl rfl (l_y rfl rfl (y_fld (j' := 0) rfl) ?_)
                              refine l_y rfl rfl (y_fld (j' := 9) rfl) ?_
                              refine s_e1 (x0 := 9) hO rfl rfl (fun w hO => ?_)
                              simp only [at_set_eq (show id.toNat < A.length by omega), List.set_set] at hO
                              refine V3 rfl rfl rfl rfl (l_y rfl rfl (y_fld (j' := 0) rfl) ?_)
                              refine l_y rfl rfl (y_fld (j' := 10) rfl) ?_
                              refine s_e1 (x0 := 10) hO rfl rfl (fun w hO => ?_)
                              simp only [at_set_eq (show id.toNat < A.length by omega), List.set_set] at hO
                              refine K2 (K3 (K0 ?_))
                              have hO : Own k w [arB a p A.length c, arS p c (setLinks A id up (at_ A (before : Int).toNat).Node.Prev before)] := hO
                              refine K1 (V1 rfl rfl rfl (V1 rfl rfl rfl (V1 rfl rfl rfl (V1 rfl rfl rfl (CK [.b a, .p p] hO rfl (fun k' hx hr hO' => join_spec hg (by simp only [setLinks, List.length_set, joinL_len]) (by omega) (by omega) (by omega) (hO := hO')) ?_)))))
                              rintro _ _ w ⟨rfl, rfl⟩ hO
                              simp only [List.cons_append, List.nil_append] at hO
                              refine K2 (K3 (K0 (K1 (V1 rfl rfl rfl (V1 rfl rfl rfl (V1 rfl rfl rfl (V1 rfl rfl rfl (CK [.b a, .p p] hO rfl (fun k' hx hr hO' => join_spec hg (by simp only [setLinks, List.length_set, joinL_len]) (by omega) (by omega) (by omega) (hO := hO')) ?_))))))))
                              rintro _ _ w ⟨rfl, rfl⟩ hO
                              simp only [List.cons_append, List.nil_append] at hO
                              refine K2 (K3 (K0 (K1 (V2 rfl rfl rfl (K2 (K3 (K6 ?_)))))))
                              have e : prevL A up before = (at_ A (before : Int).toNat).Node.Prev := by simp only [prevL]; first | rw [if_pos h12_1] | rw [if_neg h12_1]
                              have e2 : linkL A up id before = (0, joinL (joinL (setLinks A id up (prevL A up before) before) up (prevL A up before) id) up id before) := by
                                unfold linkL; rw [if_neg (by simp [*]), if_neg (by simp [*]), if_neg (by simp [*]), if_neg (by simp [*])]
                              exact fin1 rfl rfl ⟨_, ⟨by rw [e2], by rw [e2, e]⟩, hO⟩
                          · first
                            | (exfalso; omega)
                            | skip
                              refine K2 (K3 (L9 (K5 (K3 (K0 (K1 (V1 rfl rfl rfl (V3 rfl rfl rfl rfl (l_y rfl rfl (y_fldb (o' := 0) rfl) (l_y rfl rfl (D5 hO rfl) ?_))))))))))
                              refine V1 rfl rfl rfl (l_y rfl rfl (y_idx rfl rfl) ?_)
                              refine V2 rfl rfl rfl (K2 (K3 (K0 (K1 (V1 rfl rfl rfl (V1 rfl rfl rfl (V1 rfl rfl rfl (V1 rfl rfl rfl (V1 rfl rfl rfl (V1 rfl rfl rfl (V3 rfl rfl rfl rfl (l_y rfl rfl (y_fld (j' := 0) rfl) ?_))))))))))))
                              refine l_y rfl rfl (y_fld (j' := 6) rfl) ?_
                              refine s_e1 (x0 := 6) hO rfl rfl (fun w hO => ?_)
                              refine V3 rfl rfl rfl rfl (l_y rfl rfl (y_fld (j' := 0) rfl) ?_)
                              refine l_y rfl rfl (y_fld (j' := 9) rfl) ?_
                              refine s_e1 (x0 := 9) hO rfl rfl (fun w hO => ?_)
                              simp only [at_set_eq (show id.toNat < A.length by omega), List.set_set] at hO
                              refine V3 rfl rfl rfl rfl (l_y rfl rfl (y_fld (j' := 0) rfl) ?_)
                              refine l_y rfl rfl (y_fld (j' := 10) rfl) ?_
                              refine s_e1 (x0 := 10) hO rfl rfl (fun w hO => ?_)
                              simp only [at_set_eq (show id.toNat < A.length by omega), List.set_set] at hO
                              refine K2 (K3 (K0 ?_))
                              have hO : Own k w [arB a p A.length c, arS p c (setLinks A id up (at_ A (up : Int).toNat).Node.Last before)] := hO
                              refine K1 (V1 rfl rfl rfl (V1 rfl rfl rfl (V1 rfl rfl rfl (V1 rfl rfl rfl (CK [.b a, .p p] hO rfl (fun k' hx hr hO' => join_spec hg (by simp only [setLinks, List.length_set, joinL_len]) (by omega) (by omega) (by omega) (hO := hO')) ?_)))))
                              rintro _ _ w ⟨rfl, rfl⟩ hO
                              simp only [List.cons_append, List.nil_append] at hO
                              refine K2 (K3 (K0 (K1 (V1 rfl rfl rfl (V1 rfl rfl rfl (V1 rfl rfl rfl (V1 rfl rfl rfl (CK [.b a, .p p] hO rfl (fun k' hx hr hO' => join_spec hg (by simp only [setLinks, List.length_set, joinL_len]) (by omega) (by omega) (by omega) (hO := hO')) ?_))))))))
                              rintro _ _ w ⟨rfl, rfl⟩ hO
                              simp only [List.cons_append, List.nil_append] at hO
                              refine K2 (K3 (K0 (K1 (V2 rfl rfl rfl (K2 (K3 (K6 ?_)))))))
                              have e : prevL A up before = (at_ A (up : Int).toNat).Node.Last := by simp only [prevL]; first | rw [if_pos h12_1] | rw [if_neg h12_1]
                              have e2 : linkL A up id before = (0, joinL (joinL (setLinks A id up (prevL A up before) before) up (prevL A up before) id) up id before) := by
                                unfold linkL; rw [if_neg (by simp [*]), if_neg (by simp [*]), if_neg (by simp [*]), if_neg (by simp [*])]
                              exact fin1 rfl rfl ⟨_, ⟨by rw [e2], by rw [e2, e]⟩, hO⟩
                    · first
                      | (exfalso; omega)
                      | skip
                        refine V1 rfl rfl rfl ?_
                        repeat refine M2 ?_
                        refine l_y rfl rfl (y_pick_f rfl rfl) (V2 rfl rfl rfl (K2 (K3 (L9 (K5 (K8 (K3 (K0 (K1 (V1 rfl rfl rfl (V3 rfl rfl rfl rfl (l_y rfl rfl (y_fldb (o' := 0) rfl) (l_y rfl rfl (D5 hO rfl) ?_)))))))))))))
                        refine V1 rfl rfl rfl (l_y rfl rfl (y_idx rfl rfl) ?_)
                        refine l_y rfl rfl (y_fld (j' := 0) rfl) ?_
                        refine l_y rfl rfl (y_fld (j' := 8) rfl) ?_
                        refine l_y rfl rfl (y_e1 (x0 := 8) hO rfl) ?_
                        refine V2 rfl rfl rfl (K2 (K3 (K0 (K0 (K1 (V1 rfl rfl rfl ?_))))))
                        refine Z1 (fun h12_1 => ?_) (fun h12_1 => ?_)
                        · first
                          | (exfalso; omega)
                          | skip
                            refine K2 (K3 (L8 (K1 (V1 rfl rfl rfl (V3 rfl rfl rfl rfl (l_y rfl rfl (y_fldb (o' := 0) rfl) (l_y rfl rfl (D5 hO rfl) ?_)))))))
                            refine V1 rfl rfl rfl (l_y rfl rfl (y_idx rfl rfl) ?_)
                            refine l_y rfl rfl (y_fld (j' := 0) rfl) ?_
                            refine l_y rfl rfl (y_fld (j' := 9) rfl) ?_
                            refine l_y rfl rfl (y_e1 (x0 := 9) hO rfl) ?_
                            refine V2 rfl rfl rfl (K2 (K3 (K0 (K1 (V1 rfl rfl rfl (V3 rfl rfl rfl rfl (l_y rfl rfl (y_fldb (o' := 0) rfl) (l_y rfl rfl (D5 hO rfl) ?_))))))))
                            refine V1 rfl rfl rfl (l_y rfl rfl (y_idx rfl rfl) ?_)
                            refine V2 rfl rfl rfl (K2 (K3 (K0 (K1 (V1 rfl rfl rfl (V1 rfl rfl rfl (V1 rfl rfl rfl (V1 rfl rfl rfl (V1 rfl rfl rfl (V1 rfl rfl rfl (V3 rfl rfl rfl rfl (l_y rfl rfl (y_fld (j' := 0) rfl) ?_))))))))))))
                            refine l_y rfl rfl (y_fld (j' := 6) rfl) ?_
                            refine s_e1 (x0 := 6) hO rfl rfl (fun w hO => ?_)
                            refine V3 rfl rfl rfl rfl (l_y rfl rfl (y_fld (j' := 0) rfl) ?_)
                            refine l_y rfl rfl (y_fld (j' := 9) rfl) ?_
                            refine s_e1 (x0 := 9) hO rfl rfl (fun w hO => ?_)
                            simp only [at_set_eq (show id.toNat < A.length by omega), List.set_set] at hO
                            refine V3 rfl rfl rfl rfl (l_y rfl rfl (y_fld (j' := 0) rfl) ?_)
                            refine l_y rfl rfl (y_fld (j' := 10) rfl) ?_
                            refine s_e1 (x0 := 10) hO rfl rfl (fun w hO => ?_)
                            simp only [at_set_eq (show id.toNat < A.length by omega), List.set_set] at hO
                            refine K2 (K3 (K0 ?_))
                            have hO : Own k w [arB a p A.length c, arS p c (setLinks A id up (at_ A (before : Int).toNat).Node.Prev before)] := hO
                            refine K1 (V1 rfl rfl rfl (V1 rfl rfl rfl (V1 rfl rfl rfl (V1 rfl rfl rfl (CK [.b a, .p p] hO rfl (fun k' hx hr hO' => join_spec hg (by simp only [setLinks, List.length_set, joinL_len]) (by omega) (by omega) (by omega) (hO := hO')) ?_)))))
                            rintro _ _ w ⟨rfl, rfl⟩ hO
                            simp only [List.cons_append, List.nil_append] at hO
                            refine K2 (K3 (K0 (K1 (V1 rfl rfl rfl (V1 rfl rfl rfl (V1 rfl rfl rfl (V1 rfl rfl rfl (CK [.b a, .p p] hO rfl (fun k' hx hr hO' => join_spec hg (by simp only [setLinks, List.length_set, joinL_len]) (by omega) (by omega) (by omega) (hO := hO')) ?_))))))))
                            rintro _ _ w ⟨rfl, rfl⟩ hO
                            simp only [List.cons_append, List.nil_append] at hO
                            refine K2 (K3 (K0 (K1 (V2 rfl rfl rfl (K2 (K3 (K6 ?_)))))))
                            have e : prevL A up before = (at_ A (before : Int).toNat).Node.Prev := by simp only [prevL]; first | rw [if_pos h12_1] | rw [if_neg h12_1]
                            have e2 : linkL A up id before = (0, joinL (joinL (setLinks A id up (prevL A up before) before) up (prevL A up before) id) up id before) := by
                              unfold linkL; rw [if_neg (by simp [*]), if_neg (by simp [*]), if_neg (by simp [*]), if_neg (by simp [*])]
                            exact fin1 rfl rfl ⟨_, ⟨by rw [e2], by rw [e2, e]⟩, hO⟩
                        · first
                          | (exfalso; omega)
                          | skip
                            refine K2 (K3 (L9 (K5 (K3 (K0 (K1 (V1 rfl rfl rfl (V3 rfl rfl rfl rfl (l_y rfl rfl (y_fldb (o' := 0) rfl) (l_y rfl rfl (D5 hO rfl) ?_))))))))))
                            refine V1 rfl rfl rfl (l_y rfl rfl (y_idx rfl rfl) ?_)
                            refine V2 rfl rfl rfl (K2 (K3 (K0 (K1 (V1 rfl rfl rfl (V1 rfl rfl rfl (V1 rfl rfl rfl (V1 rfl rfl rfl (V1 rfl rfl rfl (V1 rfl rfl rfl (V3 rfl rfl rfl rfl (l_y rfl rfl (y_fld (j' := 0) rfl) ?_))))))))))))
                            refine l_y rfl rfl (y_fld (j' := 6) rfl) ?_
                            refine s_e1 (x0 := 6) hO rfl rfl (fun w hO => ?_)
                            refine V3 rfl rfl rfl rfl (l_y rfl rfl (y_fld (j' := 0) rfl) ?_)
                            refine l_y rfl rfl (y_fld (j' := 9) rfl) ?_
                            refine s_e1 (x0 := 9) hO rfl rfl (fun w hO => ?_)
                            simp only [at_set_eq (show id.toNat < A.length by omega), List.set_set] at hO
                            refine V3 rfl rfl rfl rfl (l_y rfl rfl (y_fld (j' := 0) rfl) ?_)
                            refine l_y rfl rfl (y_fld (j' := 10) rfl) ?_
                            refine s_e1 (x0 := 10) hO rfl rfl (fun w hO => ?_)
                            simp only [at_set_eq (show id.toNat < A.length by omega), List.set_set] at hO
                            refine K2 (K3 (K0 ?_))
                            have hO : Own k w [arB a p A.length c, arS p c (setLinks A id up (at_ A (up : Int).toNat).Node.Last before)] := hO
                            refine K1 (V1 rfl rfl rfl (V1 rfl rfl rfl (V1 rfl rfl rfl (V1 rfl rfl rfl (CK [.b a, .p p] hO rfl (fun k' hx hr hO' => join_spec hg (by simp only [setLinks, List.length_set, joinL_len]) (by omega) (by omega) (by omega) (hO := hO')) ?_)))))
                            rintro _ _ w ⟨rfl, rfl⟩ hO
                            simp only [List.cons_append, List.nil_append] at hO
                            refine K2 (K3 (K0 (K1 (V1 rfl rfl rfl (V1 rfl rfl rfl (V1 rfl rfl rfl (V1 rfl rfl rfl (CK [.b a, .p p] hO rfl (fun k' hx hr hO' => join_spec hg (by simp only [setLinks, List.length_set, joinL_len]) (by omega) (by omega) (by omega) (hO := hO')) ?_))))))))
                            rintro _ _ w ⟨rfl, rfl⟩ hO
                            simp only [List.cons_append, List.nil_append] at hO
                            refine K2 (K3 (K0 (K1 (V2 rfl rfl rfl (K2 (K3 (K6 ?_)))))))
                            have e : prevL A up before = (at_ A (up : Int).toNat).Node.Last := by simp only [prevL]; first | rw [if_pos h12_1] | rw [if_neg h12_1]
                            have e2 : linkL A up id before = (0, joinL (joinL (setLinks A id up (prevL A up before) before) up (prevL A up before) id) up id before) := by
                              unfold linkL; rw [if_neg (by simp [*]), if_neg (by simp [*]), if_neg (by simp [*]), if_neg (by simp [*])]
                            exact fin1 rfl rfl ⟨_, ⟨by rw [e2], by rw [e2, e]⟩, hO⟩
      · refine V1 rfl rfl rfl ?_
        repeat refine M2 ?_
        refine l_y rfl rfl (y_pick_f rfl rfl) (l_y rfl rfl (y_pick_f rfl rfl) (V2 rfl rfl rfl (K2 (K3 (L9 (K0 ?_))))))
        have hup := hasB_true hg19
        have hid := hasB_true hg25
        try have hbe := hasB_true hc14
        have hq1 : _ ∨ _ := hL.last up hg19
        try have hq2 : _ ∨ _ := hL.prev before hc14
        refine K1 (V1 rfl rfl rfl (V3 rfl rfl rfl rfl (l_y rfl rfl (y_fldb (o' := 0) rfl) (l_y rfl rfl (D5 hO rfl) ?_))))
        refine V1 rfl rfl rfl (l_y rfl rfl (y_idx rfl rfl) ?_)
        refine l_y rfl rfl (y_fld (j' := 0) rfl) ?_
        refine l_y rfl rfl (y_fld (j' := 0) rfl) ?_
        refine l_y rfl rfl (y_e1 (x0 := 0) hO rfl) ?_
        refine CK [] hO rfl (fun k' hx hr hO' => parent_spec (hO := hO')) ?_
        rintro _ _ w ⟨rfl, rfl⟩ hO
        simp only [List.cons_append, List.nil_append] at hO
        refine l_y rfl rfl (y_not rfl rfl) (V1 rfl rfl rfl ?_)
        refine l_split 47 rfl (fun hg47 => ?_) (fun hg47 => ?_)
        · simp only [Bool.not_eq_true', Bool.not_eq_false'] at hg47
          repeat refine M2 ?_
          refine l_y rfl rfl (y_pick_t rfl rfl) (V1 rfl rfl rfl ?_)
          repeat refine M2 ?_
          refine l_y rfl rfl (y_pick_t rfl rfl) (V2 rfl rfl rfl (K2 (K3 (L8 (K0 (K1 (V2 rfl rfl rfl (K2 (K3 (K6 (L0 (K9 ?_))))))))))))
          exact fin1 rfl rfl ⟨_, ⟨by simp [linkL, *], by simp [linkL, *]⟩, hO⟩
        · simp only [Bool.not_eq_true', Bool.not_eq_false'] at hg47
          refine V1 rfl rfl rfl (V3 rfl rfl rfl rfl (l_y rfl rfl (y_fldb (o' := 0) rfl) (l_y rfl rfl (D5 hO rfl) ?_)))
          refine V1 rfl rfl rfl (l_y rfl rfl (y_idx rfl rfl) ?_)
          refine l_y rfl rfl (y_fld (j' := 0) rfl) ?_
          refine l_y rfl rfl (y_fld (j' := 0) rfl) ?_
          refine l_y rfl rfl (y_e1 (x0 := 0) hO rfl) ?_
          refine Z0 (fun h5_21 => ?_) (fun h5_21 => ?_)
          · refine l_y rfl rfl (y_pick_f rfl rfl) (V1 rfl rfl rfl ?_)
            repeat refine M2 ?_
            refine l_y rfl rfl (y_pick_t rfl rfl) (V2 rfl rfl rfl (K2 (K3 (L8 (K0 (K1 (V2 rfl rfl rfl (K2 (K3 (K6 (L0 (K9 ?_))))))))))))
            exact fin1 rfl rfl ⟨_, ⟨by simp [linkL, *], by simp [linkL, *]⟩, hO⟩
          · refine l_y rfl rfl (y_pick_f rfl rfl) (V1 rfl rfl rfl (V1 rfl rfl rfl (V3 rfl rfl rfl rfl (l_y rfl rfl (y_fldb (o' := 0) rfl) (l_y rfl rfl (D5 hO rfl) ?_)))))
            refine V1 rfl rfl rfl (l_y rfl rfl (y_idx rfl rfl) ?_)
            refine l_y rfl rfl (y_fld (j' := 0) rfl) ?_
            refine l_y rfl rfl (y_fld (j' := 0) rfl) ?_
            refine l_y rfl rfl (y_e1 (x0 := 0) hO rfl) ?_
            refine Z0 (fun h5_33 => ?_) (fun h5_33 => ?_)
            · refine l_y rfl rfl (y_pick_f rfl rfl) (V2 rfl rfl rfl (K2 (K3 (L8 (K0 (K1 (V2 rfl rfl rfl (K2 (K3 (K6 (L0 (K9 ?_))))))))))))
              exact fin1 rfl rfl ⟨_, ⟨by simp [linkL, *], by simp [linkL, *]⟩, hO⟩
            · refine l_y rfl rfl (y_pick_f rfl rfl) (V2 rfl rfl rfl (K2 (K3 (L9 (K0 (K1 (V1 rfl rfl rfl (V3 rfl rfl rfl rfl (l_y rfl rfl (y_fldb (o' := 0) rfl) (l_y rfl rfl (D5 hO rfl) ?_))))))))))
              refine V1 rfl rfl rfl (l_y rfl rfl (y_idx rfl rfl) ?_)
              refine l_y rfl rfl (y_fld (j' := 0) rfl) ?_
              refine l_y rfl rfl (y_fld (j' := 6) rfl) ?_
              refine l_y rfl rfl (y_e1 (x0 := 6) hO rfl) ?_
              refine Z1 (fun h7_9 => ?_) (fun h7_9 => ?_)
              · refine V1 rfl rfl rfl ?_
                repeat refine M2 ?_
                refine l_y rfl rfl (y_pick_t rfl rfl) (V2 rfl rfl rfl (K2 (K3 (L8 (K0 (K1 (V2 rfl rfl rfl (K2 (K3 (K6 (L0 (K9 ?_))))))))))))
                exact fin1 rfl rfl ⟨_, ⟨by simp [linkL, *], by simp [linkL, *]⟩, hO⟩
              · refine V1 rfl rfl rfl (V1 rfl rfl rfl (V1 rfl rfl rfl (V1 rfl rfl rfl (CK [.b a, .p p] hO rfl (fun k' hx hr hO' => Above_spec hn hg hrk (hO := hO')) ?_))))
                rintro _ _ w ⟨rfl, rfl⟩ hO
                simp only [List.cons_append, List.nil_append] at hO
                refine l_y rfl rfl (y_pick_f rfl rfl) (V2 rfl rfl rfl (K2 (K3 ?_)))
                refine c_split rfl (fun hc71 => ?_) (fun hc71 => ?_)
                · refine K0 (K1 (V2 rfl rfl rfl (K2 (K3 (K6 (L0 (K9 ?_)))))))
                  exact fin1 rfl rfl ⟨_, ⟨by simp [linkL, *], by simp [linkL, *]⟩, hO⟩
                · refine K0 (K1 (V1 rfl rfl rfl ?_))
                  refine Z1 (fun h9_1 => ?_) (fun h9_1 => ?_)
                  · first
                    | (exfalso; omega)
                    | skip
                      refine V1 rfl rfl rfl (V1 rfl rfl rfl (V3 rfl rfl rfl rfl (l_y rfl rfl (y_fldb (o' := 0) rfl) (l_y rfl rfl (D5 hO rfl) ?_))))
                      refine V1 rfl rfl rfl (l_y rfl rfl (y_idx rfl rfl) ?_)
                      refine l_y rfl rfl (y_fld (j' := 0) rfl) ?_
                      refine l_y rfl rfl (y_fld (j' := 6) rfl) ?_
                      refine l_y rfl rfl (y_e1 (x0 := 6) hO rfl) ?_
                      refine V1 rfl rfl rfl ?_
                      refine Z1 (fun h9_13 => ?_) (fun h9_13 => ?_)
                      · refine l_y rfl rfl (y_pick_t rfl rfl) (V2 rfl rfl rfl (K2 (K3 (L8 (K0 (K1 (V2 rfl rfl rfl (K2 (K3 (K6 (L0 (K9 ?_))))))))))))
                        exact fin1 rfl rfl ⟨_, ⟨by simp [linkL, *], by simp [linkL, *]⟩, hO⟩
                      · refine l_y rfl rfl (y_pick_t rfl rfl) (V2 rfl rfl rfl (K2 (K3 (L9 (K5 (K8 (K3 (K0 (K1 (V1 rfl rfl rfl (V3 rfl rfl rfl rfl (l_y rfl rfl (y_fldb (o' := 0) rfl) (l_y rfl rfl (D5 hO rfl) ?_)))))))))))))
                        refine V1 rfl rfl rfl (l_y rfl rfl (y_idx rfl rfl) ?_)
                        refine l_y rfl rfl (y_fld (j' := 0) rfl) ?_
                        refine l_y rfl rfl (y_fld (j' := 8) rfl) ?_
                        refine l_y rfl rfl (y_e1 (x0 := 8) hO rfl) ?_
                        refine V2 rfl rfl rfl (K2 (K3 (K0 (K0 (K1 (V1 rfl rfl rfl ?_))))))
                        refine Z1 (fun h12_1 => ?_) (fun h12_1 => ?_)
                        · first
                          | (exfalso; omega)
                          | skip
                            refine K2 (K3 (L8 (K1 (V1 rfl rfl rfl (V3 rfl rfl rfl rfl (l_y rfl rfl (y_fldb (o' := 0) rfl) (l_y rfl rfl (D5 hO rfl) ?_)))))))
                            refine V1 rfl rfl rfl (l_y rfl rfl (y_idx rfl rfl) ?_)
                            refine l_y rfl rfl (y_fld (j' := 0) rfl) ?_
                            refine l_y rfl rfl (y_fld (j' := 9) rfl) ?_
                            refine l_y rfl rfl (y_e1 (x0 := 9) hO rfl) ?_
                            refine V2 rfl rfl rfl (K2 (K3 (K0 (K1 (V1 rfl rfl rfl (V3 rfl rfl rfl rfl (l_y rfl rfl (y_fldb (o' := 0) rfl) (l_y rfl rfl (D5 hO rfl) ?_))))))))
                            refine V1 rfl rfl rfl (l_y rfl rfl (y_idx rfl rfl) ?_)
                            refine V2 rfl rfl rfl (K2 (K3 (K0 (K1 (V1 rfl rfl rfl (V1 rfl rfl rfl (V1 rfl rfl rfl (V1 rfl rfl rfl (V1 rfl rfl rfl (V1 rfl rfl rfl (V3 rfl rfl rfl rfl (l_y rfl rfl (y_fld (j' := 0) rfl) ?_))))))))))))
                            refine l_y rfl rfl (y_fld (j' := 6) rfl) ?_
                            refine s_e1 (x0 := 6) hO rfl rfl (fun w hO => ?_)
                            refine V3 rfl rfl rfl rfl (l_y rfl rfl (y_fld (j' := 0) rfl) ?_)
                            refine l_y rfl rfl (y_fld (j' := 9) rfl) ?_
                            refine s_e1 (x0 := 9) hO rfl rfl (fun w hO => ?_)
                            simp only [at_set_eq (show id.toNat < A.length by omega), List.set_set] at hO
                            refine V3 rfl rfl rfl rfl (l_y rfl rfl (y_fld (j' := 0) rfl) ?_)
                            refine l_y rfl rfl (y_fld (j' := 10) rfl) ?_
                            refine s_e1 (x0 := 10) hO rfl rfl (fun w hO => ?_)
                            simp only [at_set_eq (show id.toNat < A.length by omega), List.set_set] at hO
                            refine K2 (K3 (K0 ?_))
                            have hO : Own k w [arB a p A.length c, arS p c (setLinks A id up (at_ A (before : Int).toNat).Node.Prev before)] := hO
                            refine K1 (V1 rfl rfl rfl (V1 rfl rfl rfl (V1 rfl rfl rfl (V1 rfl rfl rfl (CK [.b a, .p p] hO rfl (fun k' hx hr hO' => join_spec hg (by simp only [setLinks, List.length_set, joinL_len]) (by omega) (by omega) (by omega) (hO := hO')) ?_)))))
                            rintro _ _ w ⟨rfl, rfl⟩ hO
                            simp only [List.cons_append, List.nil_append] at hO
                            refine K2 (K3 (K0 (K1 (V1 rfl rfl rfl (V1 rfl rfl rfl (V1 rfl rfl rfl (V1 rfl rfl rfl (CK [.b a, .p p] hO rfl (fun k' hx hr hO' => join_spec hg (by simp only [setLinks, List.length_set, joinL_len]) (by omega) (by omega) (by omega) (hO := hO')) ?_))))))))
                            rintro _ _ w ⟨rfl, rfl⟩ hO
                            simp only [List.cons_append, List.nil_append] at hO
                            refine K2 (K3 (K0 (K1 (V2 rfl rfl rfl (K2 (K3 (K6 ?_)))))))
                            have e : prevL A up before = (at_ A (before : Int).toNat).Node.Prev := by simp only [prevL]; first | rw [if_pos h12_1] | rw [if_neg h12_1]
                            have e2 : linkL A up id before = (0, joinL (joinL (setLinks A id up (prevL A up before) before) up (prevL A up before) id) up id before) := by
                              unfold linkL; rw [if_neg (by simp [*]), if_neg (by simp [*]), if_neg (by simp [*]), if_neg (by simp [*])]
                            exact fin1 rfl rfl ⟨_, ⟨by rw [e2], by rw [e2, e]⟩, hO⟩
                        · first
                          | (exfalso; omega)
                          | skip
                            refine K2 (K3 (L9 (K5 (K3 (K0 (K1 (V1 rfl rfl rfl (V3 rfl rfl rfl rfl (l_y rfl rfl (y_fldb (o' := 0) rfl) (l_y rfl rfl (D5 hO rfl) ?_))))))))))
                            refine V1 rfl rfl rfl (l_y rfl rfl (y_idx rfl rfl) ?_)
                            refine V2 rfl rfl rfl (K2 (K3 (K0 (K1 (V1 rfl rfl rfl (V1 rfl rfl rfl (V1 rfl rfl rfl (V1 rfl rfl rfl (V1 rfl rfl rfl (V1 rfl rfl rfl (V3 rfl rfl rfl rfl (l_y rfl rfl (y_fld (j' := 0) rfl) ?_))))))))))))
                            refine l_y rfl rfl (y_fld (j' := 6) rfl) ?_
                            refine s_e1 (x0 := 6) hO rfl rfl (fun w hO => ?_)
                            refine V3 rfl rfl rfl rfl (l_y rfl rfl (y_fld (j' := 0) rfl) ?_)
                            refine l_y rfl rfl (y_fld (j' := 9) rfl) ?_
                            refine s_e1 (x0 := 9) hO rfl rfl (fun w hO => ?_)
                            simp only [at_set_eq (show id.toNat < A.length by omega), List.set_set] at hO
                            refine V3 rfl rfl rfl rfl (l_y rfl rfl (y_fld (j' := 0) rfl) ?_)
                            refine l_y rfl rfl (y_fld (j' := 10) rfl) ?_
                            refine s_e1 (x0 := 10) hO rfl rfl (fun w hO => ?_)
                            simp only [at_set_eq (show id.toNat < A.length by omega), List.set_set] at hO
                            refine K2 (K3 (K0 ?_))
                            have hO : Own k w [arB a p A.length c, arS p c (setLinks A id up (at_ A (up : Int).toNat).Node.Last before)] := hO
                            refine K1 (V1 rfl rfl rfl (V1 rfl rfl rfl (V1 rfl rfl rfl (V1 rfl rfl rfl (CK [.b a, .p p] hO rfl (fun k' hx hr hO' => join_spec hg (by simp only [setLinks, List.length_set, joinL_len]) (by omega) (by omega) (by omega) (hO := hO')) ?_)))))
                            rintro _ _ w ⟨rfl, rfl⟩ hO
                            simp only [List.cons_append, List.nil_append] at hO
                            refine K2 (K3 (K0 (K1 (V1 rfl rfl rfl (V1 rfl rfl rfl (V1 rfl rfl rfl (V1 rfl rfl rfl (CK [.b a, .p p] hO rfl (fun k' hx hr hO' => join_spec hg (by simp only [setLinks, List.length_set, joinL_len]) (by omega) (by omega) (by omega) (hO := hO')) ?_))))))))
                            rintro _ _ w ⟨rfl, rfl⟩ hO
                            simp only [List.cons_append, List.nil_append] at hO
                            refine K2 (K3 (K0 (K1 (V2 rfl rfl rfl (K2 (K3 (K6 ?_)))))))
                            have e : prevL A up before = (at_ A (up : Int).toNat).Node.Last := by simp only [prevL]; first | rw [if_pos h12_1] | rw [if_neg h12_1]
                            have e2 : linkL A up id before = (0, joinL (joinL (setLinks A id up (prevL A up before) before) up (prevL A up before) id) up id before) := by
                              unfold linkL; rw [if_neg (by simp [*]), if_neg (by simp [*]), if_neg (by simp [*]), if_neg (by simp [*])]
                            exact fin1 rfl rfl ⟨_, ⟨by rw [e2], by rw [e2, e]⟩, hO⟩
                  · first
                    | (exfalso; omega)
                    | skip
                      refine V1 rfl rfl rfl ?_
                      repeat refine M2 ?_
                      refine l_y rfl rfl (y_pick_f rfl rfl) (V2 rfl rfl rfl (K2 (K3 (L9 (K5 (K8 (K3 (K0 (K1 (V1 rfl rfl rfl (V3 rfl rfl rfl rfl (l_y rfl rfl (y_fldb (o' := 0) rfl) (l_y rfl rfl (D5 hO rfl) ?_)))))))))))))
                      refine V1 rfl rfl rfl (l_y rfl rfl (y_idx rfl rfl) ?_)
                      refine l_y rfl rfl (y_fld (j' := 0) rfl) ?_
                      refine l_y rfl rfl (y_fld (j' := 8) rfl) ?_
                      refine l_y rfl rfl (y_e1 (x0 := 8) hO rfl) ?_
                      refine V2 rfl rfl rfl (K2 (K3 (K0 (K0 (K1 (V1 rfl rfl rfl ?_))))))
                      refine Z1 (fun h12_1 => ?_) (fun h12_1 => ?_)
                      · first
                        | (exfalso; omega)
                        | skip
                          refine K2 (K3 (L8 (K1 (V1 rfl rfl rfl (V3 rfl rfl rfl rfl (l_y rfl rfl (y_fldb (o' := 0) rfl) (l_y rfl rfl (D5 hO rfl) ?_)))))))
                          refine V1 rfl rfl rfl (l_y rfl rfl (y_idx rfl rfl) ?_)
                          refine l_y rfl rfl (y_fld (j' := 0) rfl) ?_
                          refine l_y rfl rfl (y_fld (j' := 9) rfl) ?_
                          refine l_y rfl rfl (y_e1 (x0 := 9) hO rfl) ?_
                          refine V2 rfl rfl rfl (K2 (K3 (K0 (K1 (V1 rfl rfl rfl (V3 rfl rfl rfl rfl (l_y rfl rfl (y_fldb (o' := 0) rfl) (l_y rfl rfl (D5 hO rfl) ?_))))))))
                          refine V1 rfl rfl rfl (l_y rfl rfl (y_idx rfl rfl) ?_)
                          refine V2 rfl rfl rfl (K2 (K3 (K0 (K1 (V1 rfl rfl rfl (V1 rfl rfl rfl (V1 rfl rfl rfl (V1 rfl rfl rfl (V1 rfl rfl rfl (V1 rfl rfl rfl (V3 rfl rfl rfl rfl (l_y rfl rfl (y_fld (j' := 0) rfl) ?_))))))))))))
                          refine l_y rfl rfl (y_fld (j' := 6) rfl) ?_
                          refine s_e1 (x0 := 6) hO rfl rfl (fun w hO => ?_)
                          refine V3 rfl rfl rfl rfl (l_y rfl rfl (y_fld (j' := 0) rfl) ?_)
                          refine l_y rfl rfl (y_fld (j' := 9) rfl) ?_
                          refine s_e1 (x0 := 9) hO rfl rfl (fun w hO => ?_)
                          simp only [at_set_eq (show id.toNat < A.length by omega), List.set_set] at hO
                          refine V3 rfl rfl rfl rfl (l_y rfl rfl (y_fld (j' := 0) rfl) ?_)
                          refine l_y rfl rfl (y_fld (j' := 10) rfl) ?_
                          refine s_e1 (x0 := 10) hO rfl rfl (fun w hO => ?_)
                          simp only [at_set_eq (show id.toNat < A.length by omega), List.set_set] at hO
                          refine K2 (K3 (K0 ?_))
                          have hO : Own k w [arB a p A.length c, arS p c (setLinks A id up (at_ A (before : Int).toNat).Node.Prev before)] := hO
                          refine K1 (V1 rfl rfl rfl (V1 rfl rfl rfl (V1 rfl rfl rfl (V1 rfl rfl rfl (CK [.b a, .p p] hO rfl (fun k' hx hr hO' => join_spec hg (by simp only [setLinks, List.length_set, joinL_len]) (by omega) (by omega) (by omega) (hO := hO')) ?_)))))
                          rintro _ _ w ⟨rfl, rfl⟩ hO
                          simp only [List.cons_append, List.nil_append] at hO
                          refine K2 (K3 (K0 (K1 (V1 rfl rfl rfl (V1 rfl rfl rfl (V1 rfl rfl rfl (V1 rfl rfl rfl (CK [.b a, .p p] hO rfl (fun k' hx hr hO' => join_spec hg (by simp only [setLinks, List.length_set, joinL_len]) (by omega) (by omega) (by omega) (hO := hO')) ?_))))))))
                          rintro _ _ w ⟨rfl, rfl⟩ hO
                          simp only [List.cons_append, List.nil_append] at hO
                          refine K2 (K3 (K0 (K1 (V2 rfl rfl rfl (K2 (K3 (K6 ?_)))))))
                          have e : prevL A up before = (at_ A (before : Int).toNat).Node.Prev := by simp only [prevL]; first | rw [if_pos h12_1] | rw [if_neg h12_1]
                          have e2 : linkL A up id before = (0, joinL (joinL (setLinks A id up (prevL A up before) before) up (prevL A up before) id) up id before) := by
                            unfold linkL; rw [if_neg (by simp [*]), if_neg (by simp [*]), if_neg (by simp [*]), if_neg (by simp [*])]
                          exact fin1 rfl rfl ⟨_, ⟨by rw [e2], by rw [e2, e]⟩, hO⟩
                      · first
                        | (exfalso; omega)
                        | skip
                          refine K2 (K3 (L9 (K5 (K3 (K0 (K1 (V1 rfl rfl rfl (V3 rfl rfl rfl rfl (l_y rfl rfl (y_fldb (o' := 0) rfl) (l_y rfl rfl (D5 hO rfl) ?_))))))))))
                          refine V1 rfl rfl rfl (l_y rfl rfl (y_idx rfl rfl) ?_)
                          refine V2 rfl rfl rfl (K2 (K3 (K0 (K1 (V1 rfl rfl rfl (V1 rfl rfl rfl (V1 rfl rfl rfl (V1 rfl rfl rfl (V1 rfl rfl rfl (V1 rfl rfl rfl (V3 rfl rfl rfl rfl (l_y rfl rfl (y_fld (j' := 0) rfl) ?_))))))))))))
                          refine l_y rfl rfl (y_fld (j' := 6) rfl) ?_
                          refine s_e1 (x0 := 6) hO rfl rfl (fun w hO => ?_)
                          refine V3 rfl rfl rfl rfl (l_y rfl rfl (y_fld (j' := 0) rfl) ?_)
                          refine l_y rfl rfl (y_fld (j' := 9) rfl) ?_
                          refine s_e1 (x0 := 9) hO rfl rfl (fun w hO => ?_)
                          simp only [at_set_eq (show id.toNat < A.length by omega), List.set_set] at hO
                          refine V3 rfl rfl rfl rfl (l_y rfl rfl (y_fld (j' := 0) rfl) ?_)
                          refine l_y rfl rfl (y_fld (j' := 10) rfl) ?_
                          refine s_e1 (x0 := 10) hO rfl rfl (fun w hO => ?_)
                          simp only [at_set_eq (show id.toNat < A.length by omega), List.set_set] at hO
                          refine K2 (K3 (K0 ?_))
                          have hO : Own k w [arB a p A.length c, arS p c (setLinks A id up (at_ A (up : Int).toNat).Node.Last before)] := hO
                          refine K1 (V1 rfl rfl rfl (V1 rfl rfl rfl (V1 rfl rfl rfl (V1 rfl rfl rfl (CK [.b a, .p p] hO rfl (fun k' hx hr hO' => join_spec hg (by simp only [setLinks, List.length_set, joinL_len]) (by omega) (by omega) (by omega) (hO := hO')) ?_)))))
                          rintro _ _ w ⟨rfl, rfl⟩ hO
                          simp only [List.cons_append, List.nil_append] at hO
                          refine K2 (K3 (K0 (K1 (V1 rfl rfl rfl (V1 rfl rfl rfl (V1 rfl rfl rfl (V1 rfl rfl rfl (CK [.b a, .p p] hO rfl (fun k' hx hr hO' => join_spec hg (by simp only [setLinks, List.length_set, joinL_len]) (by omega) (by omega) (by omega) (hO := hO')) ?_))))))))
                          rintro _ _ w ⟨rfl, rfl⟩ hO
                          simp only [List.cons_append, List.nil_append] at hO
                          refine K2 (K3 (K0 (K1 (V2 rfl rfl rfl (K2 (K3 (K6 ?_)))))))
                          have e : prevL A up before = (at_ A (up : Int).toNat).Node.Last := by simp only [prevL]; first | rw [if_pos h12_1] | rw [if_neg h12_1]
                          have e2 : linkL A up id before = (0, joinL (joinL (setLinks A id up (prevL A up before) before) up (prevL A up before) id) up id before) := by
                            unfold linkL; rw [if_neg (by simp [*]), if_neg (by simp [*]), if_neg (by simp [*]), if_neg (by simp [*])]
                          exact fin1 rfl rfl ⟨_, ⟨by rw [e2], by rw [e2, e]⟩, hO⟩
def unlinkL (A : List Node_one) (id : Int) : Int × List Node_one :=
 if hasB A id = false then (6, A)
 else if (at_ A id.toNat).Node.Parent = -1 then (5, A)
 else (0, setLinks (joinL A (at_ A id.toNat).Node.Parent (at_ A id.toNat).Node.Prev (at_ A id.toNat).Node.Next) id (-1) (-1) (-1))
set_option maxHeartbeats 2000000 in
theorem Unlink_spec {k : Ctx} {w : World} {a : Nat} {A : List Node_one} {p : Option Addr} {c : Nat} {id : Int} (hn : 0 < A.length) (hg : Gs p A.length) (hL : LinksOk A) (hO : Own k w [arB a p A.length c, arS p c A]) :
    Tri Tryz.prog 130 #[.pointer (some ⟨a, 0, none⟩), .int .i64 id] k w fun v m => v = .int .i64 (unlinkL A id).1 ∧ m = [arB a p A.length c, arS p c (unlinkL A id).2] := by
  refine enter (args := [.pointer (some ⟨a, 0, none⟩), .int .i64 id]) Tryz.func130 rfl rfl (K0 (K1 (V2 rfl rfl rfl (K2 (K3 (K0 (K4 (K0 (K1 (V1 rfl rfl rfl (CK [.b a, .p p] hO rfl (fun k' hx hr hO' => none_spec (hO := hO')) ?_)))))))))))
  rintro _ _ w ⟨rfl, rfl⟩ hO
  simp only [List.cons_append, List.nil_append] at hO
  refine V2 rfl rfl rfl (K2 (K3 (L9 (K0 (K1 (V1 rfl rfl rfl (V1 rfl rfl rfl (CK [.b a, .p p] hO rfl (fun k' hx hr hO' => has_spec (hO := hO')) ?_))))))))
  rintro _ _ w ⟨rfl, rfl⟩ hO
  simp only [List.cons_append, List.nil_append] at hO
  refine l_y rfl rfl (y_not rfl rfl) (V2 rfl rfl rfl (K2 (K3 ?_)))
  refine c_split rfl (fun hc9 => ?_) (fun hc9 => ?_)
  · simp only [Bool.not_eq_true', Bool.not_eq_false'] at hc9
    refine K0 (K1 (V2 rfl rfl rfl (K2 (K3 (K6 (L0 (K9 ?_)))))))
    exact fin1 rfl rfl ⟨_, ⟨by simp [unlinkL, hc9], by simp [unlinkL, hc9]⟩, hO⟩
  · simp only [Bool.not_eq_true', Bool.not_eq_false'] at hc9
    refine K5 (K8 (K3 (K0 ?_)))
    have hid := hasB_true hc9
    have hq1 : _ ∨ _ := hL.parent id hc9
    have hq2 : _ ∨ _ := hL.prev id hc9
    have hq3 : _ ∨ _ := hL.next id hc9
    refine K1 (V1 rfl rfl rfl (V3 rfl rfl rfl rfl (l_y rfl rfl (y_fldb (o' := 0) rfl) (l_y rfl rfl (D5 hO rfl) ?_))))
    refine V1 rfl rfl rfl (l_y rfl rfl (y_idx rfl rfl) ?_)
    refine V2 rfl rfl rfl (K2 (K3 (K0 (K0 (K1 (V1 rfl rfl rfl (V3 rfl rfl rfl rfl (l_y rfl rfl (y_fld (j' := 0) rfl) ?_))))))))
    refine l_y rfl rfl (y_fld (j' := 6) rfl) ?_
    refine l_y rfl rfl (y_e1 (x0 := 6) hO rfl) ?_
    refine Z0 (fun h6_5 => ?_) (fun h6_5 => ?_)
    · refine K2 (K3 (L8 (K0 (K1 (V2 rfl rfl rfl (K2 (K3 (K6 (K9 ?_)))))))))
      exact fin1 rfl rfl ⟨_, ⟨by simp [unlinkL, hc9, h6_5], by simp [unlinkL, hc9, h6_5]⟩, hO⟩
    · refine K2 (K3 (L9 (K5 (K3 (K0 (da_region (by intro c a d v w h; cases d <;> exact h) ?_))))))
      have hO := hO.drew
      refine da_phase _ [16] (SO.ks [.p p] hO) ?_
      refine dx_u 0 (by kernel_rfl) rfl rfl rfl (fun w => y_move rfl) ?_
      refine dx_u 1 (by kernel_rfl) rfl rfl rfl (fun w => y_move rfl) ?_
      refine dx_u 2 (by kernel_rfl) rfl rfl rfl (fun w => y_nilCheck rfl rfl) ?_
      refine dx_u 3 (by kernel_rfl) rfl rfl rfl (fun w => y_fld (j' := 0) rfl) ?_
      refine dx_u 4 (by kernel_rfl) rfl rfl rfl (fun w => y_fld (j' := 6) rfl) ?_
      refine dx_y 5 (by kernel_rfl) rfl rfl rfl (fun w ⟨m, hw⟩ => y_e1 (x0 := 6) hw rfl) ?_
      refine dx_u 6 (by kernel_rfl) rfl rfl rfl (fun w => y_move rfl) ?_
      refine dx_u 7 (by kernel_rfl) rfl rfl rfl (fun w => y_nilCheck rfl rfl) ?_
      refine dx_u 8 (by kernel_rfl) rfl rfl rfl (fun w => y_fld (j' := 0) rfl) ?_
      refine dx_u 9 (by kernel_rfl) rfl rfl rfl (fun w => y_fld (j' := 9) rfl) ?_
      refine dx_y 10 (by kernel_rfl) rfl rfl rfl (fun w ⟨m, hw⟩ => y_e1 (x0 := 9) hw rfl) ?_
      refine dx_u 11 (by kernel_rfl) rfl rfl rfl (fun w => y_move rfl) ?_
      refine dx_u 12 (by kernel_rfl) rfl rfl rfl (fun w => y_nilCheck rfl rfl) ?_
      refine dx_u 13 (by kernel_rfl) rfl rfl rfl (fun w => y_fld (j' := 0) rfl) ?_
      refine dx_u 14 (by kernel_rfl) rfl rfl rfl (fun w => y_fld (j' := 10) rfl) ?_
      refine dx_y 15 (by kernel_rfl) rfl rfl rfl (fun w ⟨m, hw⟩ => y_e1 (x0 := 10) hw rfl) ?_
      refine dx_close 16 (by kernel_rfl) rfl rfl ?_
      refine CK [.b a, .p p] hO rfl (fun k' hx hr hO' => join_spec hg (by simp only [setLinks, List.length_set, joinL_len]) (by omega) (by omega) (by omega) (hO := hO')) ?_
      rintro _ _ w ⟨rfl, rfl⟩ hO
      simp only [List.cons_append, List.nil_append] at hO
      refine o_done (da_end (by kernel_rfl) ?_)
      refine K3 (K0 ?_)
      have hgj : Gs p (joinL A (at_ A id.toNat).Node.Parent (at_ A id.toNat).Node.Prev (at_ A id.toNat).Node.Next).length := by rw [joinL_len]; exact hg
      have hlj : id.toNat < (joinL A (at_ A id.toNat).Node.Parent (at_ A id.toNat).Node.Prev (at_ A id.toNat).Node.Next).length := by rw [joinL_len]; omega
      refine K1 (V1 rfl rfl rfl (V1 rfl rfl rfl (V1 rfl rfl rfl (V3 rfl rfl rfl rfl (l_y rfl rfl (y_fld (j' := 0) rfl) ?_)))))
      refine l_y rfl rfl (y_fld (j' := 6) rfl) ?_
      refine s_e1 (x0 := 6) hO rfl rfl (fun w hO => ?_)
      refine V3 rfl rfl rfl rfl (l_y rfl rfl (y_fld (j' := 0) rfl) ?_)
      refine l_y rfl rfl (y_fld (j' := 9) rfl) ?_
      refine s_e1 (x0 := 9) hO rfl rfl (fun w hO => ?_)
      simp only [at_set_eq hlj, List.set_set] at hO
      refine V3 rfl rfl rfl rfl (l_y rfl rfl (y_fld (j' := 0) rfl) ?_)
      refine l_y rfl rfl (y_fld (j' := 10) rfl) ?_
      refine s_e1 (x0 := 10) hO rfl rfl (fun w hO => ?_)
      simp only [at_set_eq hlj, List.set_set] at hO
      refine K2 (K3 (K0 (K1 (V2 rfl rfl rfl (K2 (K3 (K6 ?_)))))))
      have e2 : unlinkL A id = (0, setLinks (joinL A (at_ A id.toNat).Node.Parent (at_ A id.toNat).Node.Prev (at_ A id.toNat).Node.Next) id (-1) (-1) (-1)) := by
        unfold unlinkL; rw [if_neg (by simp [*]), if_neg h6_5]
      exact fin1 rfl rfl ⟨_, ⟨by rw [e2], by rw [e2]; rfl⟩, hO⟩
end Go.Proofs.YtoohapbaelmkcaaGreat
end
section
set_option maxRecDepth 100000
namespace Go.Proofs.YtoohapbaelmkcaaGreat
open Go Go.Hb Go.RowKit
theorem Len_spec {k : Ctx} {w : World} {a : Nat} {A : List Node_one} {p : Option Addr} {c : Nat} (hn : 0 < A.length) (hO : Own k w [arB a p A.length c, arS p c A]) :
  Tri Tryz.prog 12 #[.pointer (some ⟨a, 0, none⟩)] k w fun v m => v = .int .i64 (A.length : Int) ∧ m = [arB a p A.length c, arS p c A] := by
 refine enter (args := [.pointer (some ⟨a, 0, none⟩)]) Tryz.func12 rfl rfl (K0 (K1 (V2 rfl rfl rfl (K2 (K3 (K0 (K0 (K1 (V1 rfl rfl rfl (CK [.b a, .p p] hO rfl (fun k' hx hr hO' => none_spec (hO := hO')) ?_))))))))))
 rintro _ _ w ⟨rfl, rfl⟩ hO
 simp only [List.cons_append, List.nil_append] at hO
 refine K2 (K3 (L9 (K5 (K3 (K0 (K1 (V1 rfl rfl rfl (V3 rfl rfl rfl rfl (l_y rfl rfl (y_fldb (o' := 0) rfl) (l_y rfl rfl (D5 hO rfl) ?_))))))))))
 refine l_y rfl rfl (y_lenL rfl) (V2 rfl rfl rfl (K2 (K3 (K6 ?_))))
 exact fin1 rfl rfl ⟨_, ⟨rfl, rfl⟩, hO⟩
def AttrsOk (A : List Node_one) : Prop := ∀ i, i < A.length → (at_ A i).Node.Attrs.length ≤ 1024
end Go.Proofs.YtoohapbaelmkcaaGreat
end
section
set_option maxRecDepth 100000
namespace Go.Proofs.YtoohapbaelmkcaaGreat
open Go Go.Hb Go.RowKit
instance (priority := high) AtK.ho (a : Nat) (A : List Node_one) (l : List HP) : AtK (arenaL a A :: l) (.o a) (arenaL a A) l := ⟨.hd _ l⟩
def fragmentN : Api_node := ⟨5, 0, ⟨#[]⟩, none, [], 0, ⟨#[]⟩, ⟨#[]⟩, 0, 0, 0, 0, 0, 0⟩
def documentN : Api_node := ⟨0, 0, ⟨#[]⟩, none, [], 0, ⟨#[]⟩, ⟨#[]⟩, 0, 0, 0, 0, 0, 0⟩
def elementN (q : Option Addr) (d : Nat) (sp : Int) (nm : ByteArray) (xs : List Api_attr) : Api_node := ⟨1, sp, nm, q, xs, d, ⟨#[]⟩, ⟨#[]⟩, 0, 0, 0, 0, 0, 0⟩
theorem nil_attrs {k : Ctx} {w : World} {l : List HP} (hO : Own k w l) : Own k w (sls none 0 115 4 Api_attr.cells ([] : List Api_attr) :: l) := sl_nil _ _ hO
theorem Fragment_spec {k : Ctx} {w : World} {a : Nat} {A : List Node_one} (hn : 0 < A.length) (hc : A.length ≤ 32768) (hO : Own k w [arenaL a A]) :
  Tri Tryz.prog 52 #[.pointer (some ⟨a, 0, none⟩)] k w fun v m => v = .tuple #[.int .i64 (addL A fragmentN []).1, .int .i64 (addL A fragmentN []).2.1] ∧ m = [arenaL a (addL A fragmentN []).2.2] := by
 refine enter (args := [.pointer (some ⟨a, 0, none⟩)]) Tryz.func52 rfl rfl ?_
 have hO := nil_attrs hO
 refine K0 (K1 (V2 rfl rfl rfl (V2 rfl rfl rfl (K2 (K3 (K0 (K1 (V1 rfl rfl rfl (s_build (parts := [(0, .const (.int .i64 5))]) (cs := [.int .i64 5, .int .i64 0, .string ⟨#[]⟩, .slice none 0 0, .string ⟨#[]⟩, .string ⟨#[]⟩, .int .i64 0, .int .i64 0, .int .i64 0, .int .i64 0, .int .i64 0, .int .i64 0]) rfl rfl (fun a ha => partsOf_sound ha _ _ rfl) (by kernel_rfl) (CK [.o a, .p none] hO rfl (fun k' hx hr hO' => add_spec (n := fragmentN) (ts := []) hn hc (Sli.nil rfl) (by simp) (hO := hO')) ?_))))))))))
 rintro _ _ w ⟨rfl, rfl⟩ hO
 refine l_y rfl rfl (y_extract rfl rfl) (l_y rfl rfl (y_extract rfl rfl) (V2 rfl rfl rfl (V2 rfl rfl rfl (K2 (K3 (K6 ?_))))))
 exact fin2 rfl rfl rfl ⟨_, ⟨rfl, rfl⟩, hO.one⟩
theorem New_spec {k : Ctx} {w : World} (hO : Own k w []) :
  Tri Tryz.prog 22 #[] k w fun v m => ∃ a, v = .pointer (some ⟨a, 0, none⟩) ∧ m = [arenaL a [blankN documentN]] := by
 refine enter (args := []) Tryz.func22 rfl rfl ?_
 have hO := nil_attrs hO
 refine K0 (K1 (V2 rfl rfl rfl (K2 (K3 (K0 (K1 (s_build (parts := [(0, .const (.int .i64 0))]) (cs := [.int .i64 0, .int .i64 0, .string ⟨#[]⟩, .slice none 0 0, .string ⟨#[]⟩, .string ⟨#[]⟩, .int .i64 0, .int .i64 0, .int .i64 0, .int .i64 0, .int .i64 0, .int .i64 0]) rfl rfl (fun a ha => partsOf_sound ha _ _ rfl) (by kernel_rfl) (CK [] hO rfl (fun k' hx hr hO' => blank_spec (n := documentN) (hO := hO')) ?_))))))))
 rintro _ _ w ⟨rfl, rfl⟩ hO
 simp only [List.nil_append] at hO
 refine s_lit (parts := [(0, .tmp 2)]) (enc := Node_one.cells) [(blankN documentN)] [.agg [.int .i64 (blankN documentN).Node.Kind, .int .i64 (blankN documentN).Node.Space, .string (blankN documentN).Node.Name, .slice (blankN documentN).Node.AttrsP (blankN documentN).Node.Attrs.length (blankN documentN).Node.AttrsC, .string (blankN documentN).Node.Data, .string (blankN documentN).Node.System, .int .i64 (blankN documentN).Node.Parent, .int .i64 (blankN documentN).Node.First, .int .i64 (blankN documentN).Node.Last, .int .i64 (blankN documentN).Node.Prev, .int .i64 (blankN documentN).Node.Next, .int .i64 (blankN documentN).Node.Inner, .int .i64 (blankN documentN).host].toArray] hO rfl (fun b3 w hO => ?_)
 refine s_build (parts := [(0, .tmp 3)]) (cs := [.slice (some ⟨b3, 0, none⟩) 1 1]) rfl rfl (fun a ha => partsOf_sound ha _ _ rfl) (by kernel_rfl) (s_box (vs := [.slice (some ⟨b3, 0, none⟩) 1 1]) hO rfl rfl rfl (by rfl) fun b5 w hO => ?_)
 refine V2 rfl rfl rfl (K2 (K3 (K6 (fin1 rfl rfl ⟨_, ⟨_, rfl, rfl⟩, ?_⟩))))
 have hO : Own k w ([attrsP (blankN documentN)] ++ _) := hO.ks [.p none]
 have hO := (Own.shut hO).ks [.s, .b b5, .p (some ⟨b3, 0, none⟩)]
 exact (arenaL_shut (A := [blankN documentN]) hO).one
def templateS : ByteArray := ⟨#[116, 101, 109, 112, 108, 97, 116, 101]⟩
def tmpl (sp : Int) (nm : ByteArray) : Prop := sp = 0 ∧ nm = templateS
instance (sp : Int) (nm : ByteArray) : Decidable (tmpl sp nm) := by unfold tmpl; infer_instance
def attrTexts (xs : List Api_attr) : List ByteArray := xs.flatMap fun x => [x.Prefix, x.Name, x.Value]
def setInner (A : List Node_one) (i v : Int) : List Node_one := A.set i.toNat { at_ A i.toNat with Node := { (at_ A i.toNat).Node with Inner := v } }
def setHost (A : List Node_one) (i v : Int) : List Node_one := A.set i.toNat { at_ A i.toNat with host := v }
def elementL (A : List Node_one) (sp : Int) (nm : ByteArray) (xs : List Api_attr) (q : Option Addr) (d : Nat) : Int × Int × List Node_one :=
 if sp < 0 ∨ 2 < sp then (0, 1, A) else if 1024 < xs.length then (0, 2, A)
 else if tmpl sp nm ∧ A.length = 32767 then (0, 9, A)
 else if longB (nm :: attrTexts xs) = true then (0, 2, A) else if 32768 ≤ A.length then (0, 9, A)
 else if tmpl sp nm then (A.length, 0, setHost (setInner (A ++ [blankN (elementN q d sp nm xs)] ++ [blankN fragmentN]) A.length (A ++ [blankN (elementN q d sp nm xs)]).length) (A ++ [blankN (elementN q d sp nm xs)]).length A.length)
 else (A.length, 0, A ++ [blankN (elementN q d sp nm xs)])
theorem attrTexts_len {xs : List Api_attr} : (attrTexts xs).length = 3 * xs.length := by
 induction xs with
 | nil => rfl
 | cons x xs ih => simp only [attrTexts, List.flatMap_cons, List.length_append, List.length_cons, List.length_nil] at ih ⊢; omega
theorem addC_spec {k : Ctx} {w : World} {a : Nat} {A : List Node_one} {n : Api_node} {ts : List ByteArray} {tp : Option Addr} {tc : Nat} (hn : 0 < A.length) (hc : A.length ≤ 32768) (ht : Sli (Ro k) (.slice tp ts.length tc) (ts.map eS)) (htl : ts.length ≤ 1000000) (hO : Own k w [arenaL a A, attrsP (blankN n)]) :
    Tri Tryz.prog 51 #[.pointer (some ⟨a, 0, none⟩), .agg (Api_node.cells n).toArray, .slice tp ts.length tc] k w fun v m =>
      (longB ts = true ∧ v = .tuple #[.int .i64 0, .int .i64 2] ∧ m = [arenaL a A]) ∨ (longB ts = false ∧ 32768 ≤ A.length ∧ v = .tuple #[.int .i64 0, .int .i64 9] ∧ m = [arenaL a A]) ∨ (longB ts = false ∧ A.length < 32768 ∧ v = .tuple #[.int .i64 ((A.length : Nat) : Int), .int .i64 0] ∧ m = [arenaL a (A ++ [blankN n])]) := by
  refine (add_spec hn hc ht htl hO).mono ?_
  rintro v m ⟨rfl, rfl⟩
  cases hl : longB ts with
  | true => exact .inl ⟨rfl, by simp [addL, hl], by simp [addL, hl]⟩
  | false =>
    by_cases h9 : 32768 ≤ A.length
    · exact .inr (.inl ⟨rfl, h9, by simp [addL, hl, h9], by simp [addL, hl, h9]⟩)
    · exact .inr (.inr ⟨rfl, by omega, by simp [addL, hl, h9], by simp [addL, hl, h9]⟩)
theorem FragmentOk_spec {k : Ctx} {w : World} {a : Nat} {A : List Node_one} (hn : 0 < A.length) (hc : A.length < 32768) (hO : Own k w [arenaL a A]) :
  Tri Tryz.prog 52 #[.pointer (some ⟨a, 0, none⟩)] k w fun v m => v = .tuple #[.int .i64 ((A.length : Nat) : Int), .int .i64 0] ∧ m = [arenaL a (A ++ [blankN fragmentN])] := by
 refine (Fragment_spec hn (by omega) hO).mono ?_
 rintro v m ⟨rfl, rfl⟩
 have e : addL A fragmentN [] = ((A.length : Int), 0, A ++ [blankN fragmentN]) := by rw [addL, if_neg (by simp [longB]), if_neg (by omega)]
 rw [e]; exact ⟨rfl, rfl⟩
set_option maxHeartbeats 4000000 in
theorem Element_spec {k : Ctx} {w : World} {a : Nat} {A : List Node_one} {sp : Int} {nm : ByteArray} {xs : List Api_attr} {ap : Option Addr} {ac : Nat} (hn : 0 < A.length) (hc : A.length ≤ 32768) (hs : Sli (Ro k) (.slice ap xs.length ac) (xs.map Api_attr.cells)) (hO : Own k w [arenaL a A]) :
  Tri Tryz.prog 18 #[.pointer (some ⟨a, 0, none⟩), .int .i64 sp, .string nm, .slice ap xs.length ac] k w fun v m => ∃ q d, v = .tuple #[.int .i64 (elementL A sp nm xs q d).1, .int .i64 (elementL A sp nm xs q d).2.1] ∧ m = [arenaL a (elementL A sp nm xs q d).2.2] := by
 refine enter (args := [.pointer (some ⟨a, 0, none⟩), .int .i64 sp, .string nm, .slice ap xs.length ac]) Tryz.func18 rfl rfl ?_
 have hgs := sli_gs hs
 obtain ⟨p, c, hg, hO⟩ := arenaL_open hO
 refine K0 (K1 (V2 rfl rfl rfl (V2 rfl rfl rfl (K2 (K3 (K0 (K4 (K0 (K1 (V1 rfl rfl rfl (CK [.b a, .p p] hO rfl (fun k' hx hr hO' => none_spec (hO := hO')) ?_)))))))))))
 rintro _ _ w ⟨rfl, rfl⟩ hO
 simp only [List.cons_append, List.nil_append] at hO
 refine V2 rfl rfl rfl (K2 (K3 (L9 (K0 (K1 (V1 rfl rfl rfl ?_))))))
 refine Z0 (fun h3_1 => ?_) (fun h3_1 => ?_)
 ·refine V1 rfl rfl rfl ?_
  repeat refine M2 ?_
  refine l_y rfl rfl (y_pick_t rfl rfl) (V2 rfl rfl rfl (K2 (K3 (L8 (K0 (K1 (V2 rfl rfl rfl (V2 rfl rfl rfl (K2 (K3 (K6 (L0 (K9 ?_)))))))))))))
  have hO := (arenaL_shut (hO.ks [.s, .b a, .p p])).one
  have e : elementL A sp nm xs none 0 = (0, 1, A) := by rw [elementL, if_pos (by omega)]
  exact fin2 rfl rfl rfl ⟨_, ⟨none, 0, by rw [e], rfl⟩, by rw [e]; exact hO⟩
 ·refine V1 rfl rfl rfl (V1 rfl rfl rfl ?_)
  refine Z0 (fun h3_4 => ?_) (fun h3_4 => ?_)
  ·refine l_y rfl rfl (y_pick_f rfl rfl) (V2 rfl rfl rfl (K2 (K3 (L8 (K0 (K1 (V2 rfl rfl rfl (V2 rfl rfl rfl (K2 (K3 (K6 (L0 (K9 ?_)))))))))))))
   have hO := (arenaL_shut (hO.ks [.s, .b a, .p p])).one
   have e : elementL A sp nm xs none 0 = (0, 1, A) := by rw [elementL, if_pos (by omega)]
   exact fin2 rfl rfl rfl ⟨_, ⟨none, 0, by rw [e], rfl⟩, by rw [e]; exact hO⟩
  ·refine l_y rfl rfl (y_pick_f rfl rfl) (V2 rfl rfl rfl (K2 (K3 (L9 (K0 (K1 (V1 rfl rfl rfl (l_y rfl rfl (y_lenL rfl) ?_))))))))
   refine Z0 (fun h5_2 => ?_) (fun h5_2 => ?_)
   ·refine V2 rfl rfl rfl (K2 (K3 (L8 (K0 (K1 (V2 rfl rfl rfl (V2 rfl rfl rfl (K2 (K3 (K6 (L0 (K9 ?_))))))))))))
    have hO := (arenaL_shut (hO.ks [.s, .b a, .p p])).one
    have e : elementL A sp nm xs none 0 = (0, 2, A) := by rw [elementL, if_neg (by omega), if_pos (by omega)]
    exact fin2 rfl rfl rfl ⟨_, ⟨none, 0, by rw [e], rfl⟩, by rw [e]; exact hO⟩
   ·refine V2 rfl rfl rfl (K2 (K3 (L9 (K5 (K8 (K3 (K0 (K1 (V1 rfl rfl rfl (s_lit (parts := [(0, .tmp 32)]) (enc := eS) [nm] [.string nm] hO rfl (fun b33 w hO => ?_)))))))))))
    refine V2 rfl rfl rfl (K2 (K3 (K0 (K0 (K1 (V1 rfl rfl rfl (l_y rfl rfl (y_lenL rfl) (V1 rfl rfl rfl (K2 (K3 (K4 (c_rounds (X := Nat × Option Addr × Nat × List ByteArray) (fun x => [(0, .pointer (some ⟨a, 0, none⟩)), (1, .int .i64 sp), (2, .string nm), (3, .slice ap xs.length ac), (8, .int .i64 0), (9, .int .i64 0), (10, .slice x.2.1 x.2.2.2.length x.2.2.1), (34, .slice ap xs.length ac), (35, .int .i64 ((xs.length : Nat) : Int)), (36, .int .i64 (x.1 : Int))]) (fun x w => Own k w [arB a p A.length c, arS p c A, sep (A.map attrsP), sls x.2.1 x.2.2.1 9 1 eS x.2.2.2] ∧ (x.1 ≤ xs.length) ∧ (x.2.2.2 = nm :: attrTexts (xs.take x.1))) (fun x => xs.length - x.1) ((0, some ⟨b33, 0, none⟩, 1, [nm])) ⟨rfl, rfl, rfl, rfl, rfl, rfl, rfl, rfl, rfl, rfl, trivial⟩ ⟨hO.only [.b a, .p p, .s, .p (some ⟨b33, 0, none⟩)], Nat.zero_le _, rfl⟩ ?_))))))))))))
    rintro x w m hm ⟨hO, hi, ht⟩
    have hxl : xs.length ≤ 1024 := by omega
    have htl : x.2.2.2.length = 1 + 3 * x.1 := by rw [ht, List.length_cons, attrTexts_len, List.length_take]; omega
    refine K0 (K1 ?_)
    refine Z0 (fun h9_0 => ?_) (fun h9_0 => ?_)
    ·refine K2 (K3 (K0 (L8 (K5 (K3 (K0 (K4 (K0 (K1 (l_y rfl rfl (y_idx rfl rfl) ?_))))))))))
     refine l_y rfl rfl (y_rA (x0 := 0) (enc := Api_attr.cells) (xs := xs) (cs := [.int .i64 (at_ xs ((x.1 : Int) : Int).toNat).Space, .string (at_ xs ((x.1 : Int) : Int).toNat).Prefix, .string (at_ xs ((x.1 : Int) : Int).toNat).Name, .string (at_ xs ((x.1 : Int) : Int).toNat).Value]) hO rfl) (s_alloc (vs := [.int .i64 0, .string ⟨#[]⟩, .string ⟨#[]⟩, .string ⟨#[]⟩]) hO rfl rfl rfl fun b12 w hO => ?_)
     refine Y3 hO rfl rfl (fun w hO => ?_)
     refine K2 (K3 (K1 (V1 rfl rfl rfl (l_y rfl rfl (y_fldb (o' := 1) rfl) (l_y rfl rfl (D5 hO rfl) ?_)))))
     refine l_y rfl rfl (y_fldb (o' := 2) rfl) (l_y rfl rfl (D5 hO rfl) ?_)
     refine l_y rfl rfl (y_fldb (o' := 3) rfl) (l_y rfl rfl (D5 hO rfl) ?_)
     refine s_lit (parts := [(0, .tmp 42), (1, .tmp 44), (2, .tmp 46)]) (enc := eS) [(at_ xs ((x.1 : Int) : Int).toNat).Prefix, (at_ xs ((x.1 : Int) : Int).toNat).Name, (at_ xs ((x.1 : Int) : Int).toNat).Value] [.string (at_ xs ((x.1 : Int) : Int).toNat).Prefix, .string (at_ xs ((x.1 : Int) : Int).toNat).Name, .string (at_ xs ((x.1 : Int) : Int).toNat).Value] hO rfl (fun b47 w hO => ?_)
     refine s_app hO rfl rfl (src_own hO) (fun p48 c48 w hO gs48 => ?_)
     refine V2 rfl rfl rfl (K2 (K8 (K3 (K1 (l_y rfl rfl (D4) ?_)))))
     refine V1 rfl rfl rfl (K2 ?_)
     exact q_next ((x.1 + 1, p48, c48, _)) ⟨rfl, rfl, rfl, rfl, rfl, rfl, rfl, rfl, rfl, rfl, trivial⟩ ⟨hO.only [.b a, .p p, .s, .p p48], by dsimp only; omega, by dsimp only; rw [ht, take_succ_at (by omega)]; simp only [attrTexts, List.flatMap_append, List.flatMap_cons, List.flatMap_nil, List.append_nil, List.cons_append]; rfl⟩ (by dsimp only; omega)
    ·refine K2 (K3 (K0 (L9 (K7 (L1 (L1 (L2 (K3 (K0 ?_)))))))))
     obtain ⟨i, tp, tc, ts⟩ := x
     dsimp only at hi ht hO htl hm h9_0
     have hie : i = xs.length := by omega
     subst hie
     rw [List.take_length] at ht
     have htt : sp = 0 ∧ nm = templateS ↔ tmpl sp nm := Iff.rfl
     refine K1 (V1 rfl rfl rfl ?_)
     refine Z0 (fun h13_1 => ?_) (fun h13_1 => ?_)
     ·refine V1 rfl rfl rfl (V1 rfl rfl rfl ?_)
      refine Z2 (fun h13_4 => ?_) (fun h13_4 => ?_)
      ·refine l_y rfl rfl (y_pick_t rfl rfl) (V2 rfl rfl rfl (K2 (K3 (K0 (K0 (K1 (V1 rfl rfl rfl (V1 rfl rfl rfl (V1 rfl rfl rfl (V3 rfl rfl rfl rfl (l_y rfl rfl (y_fldb (o' := 0) rfl) (l_y rfl rfl (D5 hO rfl) ?_))))))))))))
       refine l_y rfl rfl (y_lenL rfl) ?_
       refine Z0 (fun h14_7 => ?_) (fun h14_7 => ?_)
       ·refine l_y rfl rfl (y_pick_t rfl rfl) (K2 (K3 (L8 (K0 (K1 (V2 rfl rfl rfl (V2 rfl rfl rfl (K2 (K3 (K6 (K9 ?_)))))))))))
        have hO := (arenaL_shut (hO.ks [.s, .b a, .p p])).one
        have e : elementL A sp nm xs none 0 = (0, 9, A) := by rw [elementL, if_neg (by omega), if_neg (by omega), if_pos ⟨⟨h13_1, h13_4⟩, by omega⟩]
        exact fin2 rfl rfl rfl ⟨_, ⟨none, 0, by rw [e], rfl⟩, by rw [e]; exact hO⟩
       ·refine l_y rfl rfl (y_pick_t rfl rfl) (K2 (K3 (L9 (K5 (K3 (K0 ?_))))))
        have hnt : ¬ (tmpl sp nm ∧ A.length = 32767) := by
         rintro ⟨⟨q1, q2⟩, q3⟩
         first | exact h13_1 q1 | exact h13_4 q2 | omega
        refine K1 (V1 rfl rfl rfl (V1 rfl rfl rfl (V1 rfl rfl rfl (V1 rfl rfl rfl (CK [] hO rfl (fun k' hx hr hO' => own_spec (hs.ext hO hx) (by omega) (hO := hO')) ?_)))))
        rintro _ _ w ⟨b70, rfl, rfl⟩ hO
        simp only [List.cons_append, List.nil_append] at hO
        refine s_build (parts := [(0, .const (.int .i64 1)), (1, .tmp 67), (2, .tmp 68), (3, .tmp 70)]) (cs := [.int .i64 1, .int .i64 sp, .string nm, .slice (some ⟨b70, 0, none⟩) xs.length xs.length, .string ⟨#[]⟩, .string ⟨#[]⟩, .int .i64 0, .int .i64 0, .int .i64 0, .int .i64 0, .int .i64 0, .int .i64 0]) rfl rfl (fun a ha => partsOf_sound ha _ _ rfl) (by kernel_rfl) (V1 rfl rfl rfl ?_)
        have hO := arenaL_shut (hO.ks [.s, .b a, .p p])
        refine CK [.o a, .p (some ⟨b70, 0, none⟩)] hO rfl (fun k' hx hr hO' => addC_spec (n := elementN (some ⟨b70, 0, none⟩) xs.length sp nm xs) (ts := ts) hn hc (sls_roK hr (sls_fct (p := tp) hO)) (by omega) (hO := hO')) ?_
        rintro _ _ w (⟨ha1, rfl, rfl⟩ | ⟨ha1, ha2, rfl, rfl⟩ | ⟨ha1, ha2, rfl, rfl⟩) hO
        ·simp only [List.cons_append, List.nil_append] at hO
         refine V1 rfl rfl rfl (l_y rfl rfl (y_extract rfl rfl) (l_y rfl rfl (y_extract rfl rfl) (V2 rfl rfl rfl (V2 rfl rfl rfl (K2 (K3 (K0 (K0 (K1 (V1 rfl rfl rfl (N3 (V1 rfl rfl rfl ?_))))))))))))
         repeat refine M2 ?_
         refine l_y rfl rfl (y_pick_f rfl rfl) (K2 (K3 (L9 (K5 (K3 (K0 (K1 (V1 rfl rfl rfl (V1 rfl rfl rfl (V2 rfl rfl rfl (V2 rfl rfl rfl (K2 (K3 (K6 ?_))))))))))))))
         have e : elementL A sp nm xs none 0 = (0, 2, A) := by rw [elementL, if_neg (by omega), if_neg (by omega), if_neg hnt, if_pos (ht ▸ ha1)]
         exact fin2 rfl rfl rfl ⟨_, ⟨none, 0, by rw [e], rfl⟩, by rw [e]; exact hO.one⟩
        ·simp only [List.cons_append, List.nil_append] at hO
         refine V1 rfl rfl rfl (l_y rfl rfl (y_extract rfl rfl) (l_y rfl rfl (y_extract rfl rfl) (V2 rfl rfl rfl (V2 rfl rfl rfl (K2 (K3 (K0 (K0 (K1 (V1 rfl rfl rfl (N3 (V1 rfl rfl rfl ?_))))))))))))
         repeat refine M2 ?_
         refine l_y rfl rfl (y_pick_f rfl rfl) (K2 (K3 (L9 (K5 (K3 (K0 (K1 (V1 rfl rfl rfl (V1 rfl rfl rfl (V2 rfl rfl rfl (V2 rfl rfl rfl (K2 (K3 (K6 ?_))))))))))))))
         have e : elementL A sp nm xs none 0 = (0, 9, A) := by rw [elementL, if_neg (by omega), if_neg (by omega), if_neg hnt, if_neg (by rw [← ht, ha1]; simp), if_pos ha2]
         exact fin2 rfl rfl rfl ⟨_, ⟨none, 0, by rw [e], rfl⟩, by rw [e]; exact hO.one⟩
        ·simp only [List.cons_append, List.nil_append] at hO
         refine V1 rfl rfl rfl (l_y rfl rfl (y_extract rfl rfl) (l_y rfl rfl (y_extract rfl rfl) (V2 rfl rfl rfl (V2 rfl rfl rfl (K2 (K3 (K0 (K0 (K1 (V1 rfl rfl rfl (N2 (V1 rfl rfl rfl (V1 rfl rfl rfl (l_y rfl rfl (y_pick_t rfl rfl) (K2 (K3 (L8 (K0 (K1 (V1 rfl rfl rfl (CK [.o a] hO rfl (fun k' hx hr hO' => FragmentOk_spec (by simp) (by simp; omega) (hO := hO')) ?_)))))))))))))))))))))
         rintro _ _ w ⟨rfl, rfl⟩ hO
         simp only [List.cons_append, List.nil_append] at hO
         refine V1 rfl rfl rfl (l_y rfl rfl (y_extract rfl rfl) (l_y rfl rfl (y_extract rfl rfl) (V2 rfl rfl rfl (V2 rfl rfl rfl (K2 (K3 ?_))))))
         obtain ⟨p2, c2, hg2, hO⟩ := arenaL_open hO
         have hl2 : (A ++ [blankN (elementN (some ⟨b70, 0, none⟩) xs.length sp nm xs)] ++ [blankN fragmentN]).length = A.length + 2 := by simp
         have hl1 : (A ++ [blankN (elementN (some ⟨b70, 0, none⟩) xs.length sp nm xs)]).length = A.length + 1 := by simp
         refine da_region (by intro c a d v w h; cases d <;> exact h) ?_
         have hO := hO.drew
         refine da_phase _ [15] (SO.ks [.b a] hO) ?_
         refine dx_u 0 (by kernel_rfl) rfl rfl rfl (fun w => y_move rfl) ?_
         refine dx_u 1 (by kernel_rfl) rfl rfl rfl (fun w => y_nilCheck rfl rfl) ?_
         refine dx_u 2 (by kernel_rfl) rfl rfl rfl (fun w => y_fldb (o' := 0) rfl) ?_
         refine dx_y 3 (by kernel_rfl) rfl rfl rfl (fun w ⟨m, hw⟩ => D5 hw rfl) ?_
         refine dx_u 4 (by kernel_rfl) rfl rfl rfl (fun w => y_move rfl) ?_
         refine dx_u 5 (by kernel_rfl) rfl rfl rfl (fun w => y_move rfl) ?_
         refine dx_u 6 (by kernel_rfl) rfl rfl rfl (fun w => y_nilCheck rfl rfl) ?_
         refine dx_u 7 (by kernel_rfl) rfl rfl rfl (fun w => y_fldb (o' := 0) rfl) ?_
         refine dx_y 8 (by kernel_rfl) rfl rfl rfl (fun w ⟨m, hw⟩ => D5 hw rfl) ?_
         refine dx_u 9 (by kernel_rfl) rfl rfl rfl (fun w => y_move rfl) ?_
         refine dx_u 10 (by kernel_rfl) rfl rfl rfl (fun w => y_move rfl) ?_
         refine dx_u 11 (by kernel_rfl) rfl rfl rfl (fun w => y_move rfl) ?_
         refine dx_u 12 (by kernel_rfl) rfl rfl rfl (fun w => y_idx rfl rfl) ?_
         refine dx_u 13 (by kernel_rfl) rfl rfl rfl (fun w => y_fld (j' := 0) rfl) ?_
         refine dx_u 14 (by kernel_rfl) rfl rfl rfl (fun w => y_fld (j' := 11) rfl) ?_
         refine dx_close 15 (by kernel_rfl) rfl rfl ?_
         refine s_e1 (x0 := 11) hO rfl rfl (fun w hO => ?_)
         refine o_done (da_phase _ [18] (SO.ks [] hO) ?_)
         refine dx_u 16 (by kernel_rfl) rfl rfl rfl (fun w => y_idx rfl rfl) ?_
         refine dx_u 17 (by kernel_rfl) rfl rfl rfl (fun w => y_fld (j' := 12) rfl) ?_
         refine dx_close 18 (by kernel_rfl) rfl rfl ?_
         refine s_e1 (x0 := 12) hO rfl rfl (fun w hO => ?_)
         refine o_done (da_end (by kernel_rfl) ?_)
         refine K3 (K0 (K1 (V1 rfl rfl rfl (V1 rfl rfl rfl (V2 rfl rfl rfl (V2 rfl rfl rfl (K2 (K3 (K6 ?_)))))))))
         have e : elementL A sp nm xs (some ⟨b70, 0, none⟩) xs.length = ((A.length : Int), 0, setHost (setInner (A ++ [blankN (elementN (some ⟨b70, 0, none⟩) xs.length sp nm xs)] ++ [blankN fragmentN]) A.length (A ++ [blankN (elementN (some ⟨b70, 0, none⟩) xs.length sp nm xs)]).length) (A ++ [blankN (elementN (some ⟨b70, 0, none⟩) xs.length sp nm xs)]).length A.length) := by
          rw [elementL, if_neg (by omega), if_neg (by omega), if_neg hnt, if_neg (by rw [← ht, ha1]; simp), if_neg (by omega), if_pos ⟨h13_1, h13_4⟩]
         exact fin2 rfl rfl rfl ⟨_, ⟨some ⟨b70, 0, none⟩, xs.length, by rw [e], rfl⟩, by rw [e]; exact (arenaL_shut (hO.ks [.s, .b a, .p p2]) (by simp only [setHost, setInner]; rw [attrs_set, attrs_set] <;> rfl) (by simp [setHost, setInner])).one⟩
      ·refine l_y rfl rfl (y_pick_t rfl rfl) (V2 rfl rfl rfl (K2 (K3 (K0 (K0 (K1 (V1 rfl rfl rfl (V1 rfl rfl rfl ?_))))))))
       repeat refine M2 ?_
       refine l_y rfl rfl (y_pick_f rfl rfl) (K2 (K3 (L9 (K5 (K3 (K0 ?_))))))
       have hnt : ¬ (tmpl sp nm ∧ A.length = 32767) := by
        rintro ⟨⟨q1, q2⟩, q3⟩
        first | exact h13_1 q1 | exact h13_4 q2 | omega
       refine K1 (V1 rfl rfl rfl (V1 rfl rfl rfl (V1 rfl rfl rfl (V1 rfl rfl rfl (CK [] hO rfl (fun k' hx hr hO' => own_spec (hs.ext hO hx) (by omega) (hO := hO')) ?_)))))
       rintro _ _ w ⟨b70, rfl, rfl⟩ hO
       simp only [List.cons_append, List.nil_append] at hO
       refine s_build (parts := [(0, .const (.int .i64 1)), (1, .tmp 67), (2, .tmp 68), (3, .tmp 70)]) (cs := [.int .i64 1, .int .i64 sp, .string nm, .slice (some ⟨b70, 0, none⟩) xs.length xs.length, .string ⟨#[]⟩, .string ⟨#[]⟩, .int .i64 0, .int .i64 0, .int .i64 0, .int .i64 0, .int .i64 0, .int .i64 0]) rfl rfl (fun a ha => partsOf_sound ha _ _ rfl) (by kernel_rfl) (V1 rfl rfl rfl ?_)
       have hO := arenaL_shut (hO.ks [.s, .b a, .p p])
       refine CK [.o a, .p (some ⟨b70, 0, none⟩)] hO rfl (fun k' hx hr hO' => addC_spec (n := elementN (some ⟨b70, 0, none⟩) xs.length sp nm xs) (ts := ts) hn hc (sls_roK hr (sls_fct (p := tp) hO)) (by omega) (hO := hO')) ?_
       rintro _ _ w (⟨ha1, rfl, rfl⟩ | ⟨ha1, ha2, rfl, rfl⟩ | ⟨ha1, ha2, rfl, rfl⟩) hO
       ·simp only [List.cons_append, List.nil_append] at hO
        refine V1 rfl rfl rfl (l_y rfl rfl (y_extract rfl rfl) (l_y rfl rfl (y_extract rfl rfl) (V2 rfl rfl rfl (V2 rfl rfl rfl (K2 (K3 (K0 (K0 (K1 (V1 rfl rfl rfl (N3 (V1 rfl rfl rfl ?_))))))))))))
        repeat refine M2 ?_
        refine l_y rfl rfl (y_pick_f rfl rfl) (K2 (K3 (L9 (K5 (K3 (K0 (K1 (V1 rfl rfl rfl (V1 rfl rfl rfl (V2 rfl rfl rfl (V2 rfl rfl rfl (K2 (K3 (K6 ?_))))))))))))))
        have e : elementL A sp nm xs none 0 = (0, 2, A) := by rw [elementL, if_neg (by omega), if_neg (by omega), if_neg hnt, if_pos (ht ▸ ha1)]
        exact fin2 rfl rfl rfl ⟨_, ⟨none, 0, by rw [e], rfl⟩, by rw [e]; exact hO.one⟩
       ·simp only [List.cons_append, List.nil_append] at hO
        refine V1 rfl rfl rfl (l_y rfl rfl (y_extract rfl rfl) (l_y rfl rfl (y_extract rfl rfl) (V2 rfl rfl rfl (V2 rfl rfl rfl (K2 (K3 (K0 (K0 (K1 (V1 rfl rfl rfl (N3 (V1 rfl rfl rfl ?_))))))))))))
        repeat refine M2 ?_
        refine l_y rfl rfl (y_pick_f rfl rfl) (K2 (K3 (L9 (K5 (K3 (K0 (K1 (V1 rfl rfl rfl (V1 rfl rfl rfl (V2 rfl rfl rfl (V2 rfl rfl rfl (K2 (K3 (K6 ?_))))))))))))))
        have e : elementL A sp nm xs none 0 = (0, 9, A) := by rw [elementL, if_neg (by omega), if_neg (by omega), if_neg hnt, if_neg (by rw [← ht, ha1]; simp), if_pos ha2]
        exact fin2 rfl rfl rfl ⟨_, ⟨none, 0, by rw [e], rfl⟩, by rw [e]; exact hO.one⟩
       ·simp only [List.cons_append, List.nil_append] at hO
        refine V1 rfl rfl rfl (l_y rfl rfl (y_extract rfl rfl) (l_y rfl rfl (y_extract rfl rfl) (V2 rfl rfl rfl (V2 rfl rfl rfl (K2 (K3 (K0 (K0 (K1 (V1 rfl rfl rfl (N2 (V1 rfl rfl rfl (V1 rfl rfl rfl (l_y rfl rfl (y_pick_t rfl rfl) (K2 (K3 (L9 (K5 (K3 (K0 (K1 (V1 rfl rfl rfl (V1 rfl rfl rfl (V2 rfl rfl rfl (V2 rfl rfl rfl (K2 (K3 (K6 ?_))))))))))))))))))))))))))))
        have e : elementL A sp nm xs (some ⟨b70, 0, none⟩) xs.length = ((A.length : Int), 0, A ++ [blankN (elementN (some ⟨b70, 0, none⟩) xs.length sp nm xs)]) := by
         rw [elementL, if_neg (by omega), if_neg (by omega), if_neg hnt, if_neg (by rw [← ht, ha1]; simp), if_neg (by omega), if_neg (by rintro ⟨q1, q2⟩; first | exact h13_1 q1 | exact h13_4 q2)]
        exact fin2 rfl rfl rfl ⟨_, ⟨some ⟨b70, 0, none⟩, xs.length, by rw [e], rfl⟩, by rw [e]; exact hO.one⟩
     ·refine V1 rfl rfl rfl ?_
      repeat refine M2 ?_
      refine l_y rfl rfl (y_pick_f rfl rfl) (V2 rfl rfl rfl (K2 (K3 (K0 (K0 (K1 (V1 rfl rfl rfl (V1 rfl rfl rfl ?_))))))))
      repeat refine M2 ?_
      refine l_y rfl rfl (y_pick_f rfl rfl) (K2 (K3 (L9 (K5 (K3 (K0 ?_))))))
      have hnt : ¬ (tmpl sp nm ∧ A.length = 32767) := by
       rintro ⟨⟨q1, q2⟩, q3⟩
       first | exact h13_1 q1 | exact h13_4 q2 | omega
      refine K1 (V1 rfl rfl rfl (V1 rfl rfl rfl (V1 rfl rfl rfl (V1 rfl rfl rfl (CK [] hO rfl (fun k' hx hr hO' => own_spec (hs.ext hO hx) (by omega) (hO := hO')) ?_)))))
      rintro _ _ w ⟨b70, rfl, rfl⟩ hO
      simp only [List.cons_append, List.nil_append] at hO
      refine s_build (parts := [(0, .const (.int .i64 1)), (1, .tmp 67), (2, .tmp 68), (3, .tmp 70)]) (cs := [.int .i64 1, .int .i64 sp, .string nm, .slice (some ⟨b70, 0, none⟩) xs.length xs.length, .string ⟨#[]⟩, .string ⟨#[]⟩, .int .i64 0, .int .i64 0, .int .i64 0, .int .i64 0, .int .i64 0, .int .i64 0]) rfl rfl (fun a ha => partsOf_sound ha _ _ rfl) (by kernel_rfl) (V1 rfl rfl rfl ?_)
      have hO := arenaL_shut (hO.ks [.s, .b a, .p p])
      refine CK [.o a, .p (some ⟨b70, 0, none⟩)] hO rfl (fun k' hx hr hO' => addC_spec (n := elementN (some ⟨b70, 0, none⟩) xs.length sp nm xs) (ts := ts) hn hc (sls_roK hr (sls_fct (p := tp) hO)) (by omega) (hO := hO')) ?_
      rintro _ _ w (⟨ha1, rfl, rfl⟩ | ⟨ha1, ha2, rfl, rfl⟩ | ⟨ha1, ha2, rfl, rfl⟩) hO
      ·simp only [List.cons_append, List.nil_append] at hO
       refine V1 rfl rfl rfl (l_y rfl rfl (y_extract rfl rfl) (l_y rfl rfl (y_extract rfl rfl) (V2 rfl rfl rfl (V2 rfl rfl rfl (K2 (K3 (K0 (K0 (K1 (V1 rfl rfl rfl (N3 (V1 rfl rfl rfl ?_))))))))))))
       repeat refine M2 ?_
       refine l_y rfl rfl (y_pick_f rfl rfl) (K2 (K3 (L9 (K5 (K3 (K0 (K1 (V1 rfl rfl rfl (V1 rfl rfl rfl (V2 rfl rfl rfl (V2 rfl rfl rfl (K2 (K3 (K6 ?_))))))))))))))
       have e : elementL A sp nm xs none 0 = (0, 2, A) := by rw [elementL, if_neg (by omega), if_neg (by omega), if_neg hnt, if_pos (ht ▸ ha1)]
       exact fin2 rfl rfl rfl ⟨_, ⟨none, 0, by rw [e], rfl⟩, by rw [e]; exact hO.one⟩
      ·simp only [List.cons_append, List.nil_append] at hO
       refine V1 rfl rfl rfl (l_y rfl rfl (y_extract rfl rfl) (l_y rfl rfl (y_extract rfl rfl) (V2 rfl rfl rfl (V2 rfl rfl rfl (K2 (K3 (K0 (K0 (K1 (V1 rfl rfl rfl (N3 (V1 rfl rfl rfl ?_))))))))))))
       repeat refine M2 ?_
       refine l_y rfl rfl (y_pick_f rfl rfl) (K2 (K3 (L9 (K5 (K3 (K0 (K1 (V1 rfl rfl rfl (V1 rfl rfl rfl (V2 rfl rfl rfl (V2 rfl rfl rfl (K2 (K3 (K6 ?_))))))))))))))
       have e : elementL A sp nm xs none 0 = (0, 9, A) := by rw [elementL, if_neg (by omega), if_neg (by omega), if_neg hnt, if_neg (by rw [← ht, ha1]; simp), if_pos ha2]
       exact fin2 rfl rfl rfl ⟨_, ⟨none, 0, by rw [e], rfl⟩, by rw [e]; exact hO.one⟩
      ·simp only [List.cons_append, List.nil_append] at hO
       refine V1 rfl rfl rfl (l_y rfl rfl (y_extract rfl rfl) (l_y rfl rfl (y_extract rfl rfl) (V2 rfl rfl rfl (V2 rfl rfl rfl (K2 (K3 (K0 (K0 (K1 (V1 rfl rfl rfl (N2 (V1 rfl rfl rfl (V1 rfl rfl rfl (l_y rfl rfl (y_pick_t rfl rfl) (K2 (K3 (L9 (K5 (K3 (K0 (K1 (V1 rfl rfl rfl (V1 rfl rfl rfl (V2 rfl rfl rfl (V2 rfl rfl rfl (K2 (K3 (K6 ?_))))))))))))))))))))))))))))
       have e : elementL A sp nm xs (some ⟨b70, 0, none⟩) xs.length = ((A.length : Int), 0, A ++ [blankN (elementN (some ⟨b70, 0, none⟩) xs.length sp nm xs)]) := by
        rw [elementL, if_neg (by omega), if_neg (by omega), if_neg hnt, if_neg (by rw [← ht, ha1]; simp), if_neg (by omega), if_neg (by rintro ⟨q1, q2⟩; first | exact h13_1 q1 | exact h13_4 q2)]
       exact fin2 rfl rfl rfl ⟨_, ⟨some ⟨b70, 0, none⟩, xs.length, by rw [e], rfl⟩, by rw [e]; exact hO.one⟩
end Go.Proofs.YtoohapbaelmkcaaGreat
end
section
set_option maxRecDepth 100000
namespace Go.Proofs.YtoohapbaelmkcaaGreat
open Go Go.Hb Go.RowKit
/-- what Node tells, with attributes of its own -/
def ownN (n : Api_node) (q : Option Addr) (d : Nat) : Api_node := { n with AttrsP := q, AttrsC := d }
theorem Node_spec {k : Ctx} {w : World} {a : Nat} {A : List Node_one} {id : Int} (hn : 0 < A.length) (ha : AttrsOk A) (hO : Own k w [arenaL a A]) :
  Tri Tryz.prog 14 #[.pointer (some ⟨a, 0, none⟩), .int .i64 id] k w fun v m =>
   (hasB A id = false ∧ v = .tuple #[.agg (Api_node.cells default).toArray, .int .i64 6] ∧ m = [arenaL a A]) ∨
   (hasB A id = true ∧ ∃ q d, v = .tuple #[.agg (Api_node.cells (ownN (at_ A id.toNat).Node q d)).toArray, .int .i64 0] ∧ m = [arenaL a A, sls q d 115 4 Api_attr.cells (at_ A id.toNat).Node.Attrs]) := by
 refine enter (args := [.pointer (some ⟨a, 0, none⟩), .int .i64 id]) Tryz.func14 rfl rfl ?_
 obtain ⟨p, c, hg, hO⟩ := arenaL_open hO
 refine K0 (K1 (s_alloc (vs := [.int .i64 0, .int .i64 0, .string ⟨#[]⟩, .slice none 0 0, .string ⟨#[]⟩, .string ⟨#[]⟩, .int .i64 0, .int .i64 0, .int .i64 0, .int .i64 0, .int .i64 0, .int .i64 0]) hO rfl rfl rfl fun b4 w hO => ?_))
 refine V2 rfl rfl rfl (K2 (K3 (K0 (K4 (K0 (K1 (V1 rfl rfl rfl (CK [.b a, .p p] hO rfl (fun k' hx hr hO' => none_spec (hO := hO')) ?_))))))))
 rintro _ _ w ⟨rfl, rfl⟩ hO
 simp only [List.cons_append, List.nil_append] at hO
 refine V2 rfl rfl rfl (K2 (K3 (L9 (K0 (K1 (V1 rfl rfl rfl (V1 rfl rfl rfl (CK [.b a, .p p] hO rfl (fun k' hx hr hO' => has_spec (hO := hO')) ?_))))))))
 rintro _ _ w ⟨rfl, rfl⟩ hO
 simp only [List.cons_append, List.nil_append] at hO
 refine l_y rfl rfl (y_not rfl rfl) (V2 rfl rfl rfl (K2 (K3 ?_)))
 refine c_split rfl (fun hc11 => ?_) (fun hc11 => ?_)
 ·simp only [Bool.not_eq_true', Bool.not_eq_false'] at hc11
  refine K0 (K1 (s_build (parts := []) (cs := [.int .i64 0, .int .i64 0, .string ⟨#[]⟩, .slice none 0 0, .string ⟨#[]⟩, .string ⟨#[]⟩, .int .i64 0, .int .i64 0, .int .i64 0, .int .i64 0, .int .i64 0, .int .i64 0]) rfl rfl (fun a ha => partsOf_sound ha _ _ rfl) (by kernel_rfl) (Y3 hO rfl rfl (fun w hO => ?_))))
  refine V2 rfl rfl rfl (K2 (K3 (K6 (L0 (K9 ?_)))))
  exact finC1 hO rfl rfl rfl ⟨_, .inl ⟨hc11, rfl, rfl⟩, (arenaL_shut (hO.ks [.s, .b a, .p p])).one⟩
 ·simp only [Bool.not_eq_true', Bool.not_eq_false'] at hc11
  refine K5 (K8 (K3 (K0 ?_)))
  have hid := hasB_true hc11
  have hli := ha id.toNat (by omega)
  refine K1 (V1 rfl rfl rfl (V3 rfl rfl rfl rfl (l_y rfl rfl (y_fldb (o' := 0) rfl) (l_y rfl rfl (D5 hO rfl) ?_))))
  refine V1 rfl rfl rfl (l_y rfl rfl (y_idx rfl rfl) ?_)
  refine l_y rfl rfl (y_fld (j' := 0) rfl) ?_
  refine l_y rfl rfl (y_eA (x0 := 0) (cs := [.int .i64 (at_ A (id : Int).toNat).Node.Kind, .int .i64 (at_ A (id : Int).toNat).Node.Space, .string (at_ A (id : Int).toNat).Node.Name, .slice (at_ A (id : Int).toNat).Node.AttrsP (at_ A (id : Int).toNat).Node.Attrs.length (at_ A (id : Int).toNat).Node.AttrsC, .string (at_ A (id : Int).toNat).Node.Data, .string (at_ A (id : Int).toNat).Node.System, .int .i64 (at_ A (id : Int).toNat).Node.Parent, .int .i64 (at_ A (id : Int).toNat).Node.First, .int .i64 (at_ A (id : Int).toNat).Node.Last, .int .i64 (at_ A (id : Int).toNat).Node.Prev, .int .i64 (at_ A (id : Int).toNat).Node.Next, .int .i64 (at_ A (id : Int).toNat).Node.Inner]) hO rfl) ?_
  refine s_alloc (vs := [.int .i64 0, .int .i64 0, .string ⟨#[]⟩, .slice none 0 0, .string ⟨#[]⟩, .string ⟨#[]⟩, .int .i64 0, .int .i64 0, .int .i64 0, .int .i64 0, .int .i64 0, .int .i64 0]) hO rfl rfl rfl fun b6 w hO => ?_
  refine Y3 hO rfl rfl (fun w hO => ?_)
  refine K2 (K3 (K0 ?_))
  have hO := arena_pick (i := id.toNat) (by omega) (hO.ks [.s, .b a, .p p])
  refine K1 (l_y rfl rfl (y_fldb (o' := 3) rfl) (l_y rfl rfl (D5 hO rfl) ?_))
  refine CK [] hO rfl (fun k' hx hr hO' => own_spec (sls_roK hr (sls_fct (p := (at_ A id.toNat).Node.AttrsP) hO)) (by omega) (hO := hO')) ?_
  rintro _ _ w ⟨q, rfl, rfl⟩ hO
  refine l_y rfl rfl (y_fldb (o' := 3) rfl) (Y1 hO rfl rfl (fun w hO => ?_))
  simp only [List.set_cons_zero, List.set_cons_succ] at hO
  refine K2 (K3 (K0 (K1 (l_y rfl rfl (D8 (cs := [.int .i64 (at_ A (id : Int).toNat).Node.Kind, .int .i64 (at_ A (id : Int).toNat).Node.Space, .string (at_ A (id : Int).toNat).Node.Name, .slice (some ⟨q, 0, none⟩) (at_ A id.toNat).Node.Attrs.length (at_ A id.toNat).Node.Attrs.length, .string (at_ A (id : Int).toNat).Node.Data, .string (at_ A (id : Int).toNat).Node.System, .int .i64 (at_ A (id : Int).toNat).Node.Parent, .int .i64 (at_ A (id : Int).toNat).Node.First, .int .i64 (at_ A (id : Int).toNat).Node.Last, .int .i64 (at_ A (id : Int).toNat).Node.Prev, .int .i64 (at_ A (id : Int).toNat).Node.Next, .int .i64 (at_ A (id : Int).toNat).Node.Inner]) hO rfl) ?_))))
  refine Y3 hO rfl rfl (fun w hO => ?_)
  refine V2 rfl rfl rfl (K2 (K3 (K6 ?_)))
  have hO2 := arena_put (y := at_ A id.toNat) (by omega) (hO.ks [.p (at_ A id.toNat).Node.AttrsP, .s])
  rw [set_at (by omega)] at hO2
  exact finC1 hO rfl rfl rfl ⟨_, .inr ⟨hc11, some ⟨q, 0, none⟩, _, rfl, rfl⟩, ((arenaL_shut (hO2.ks [.s, .b a, .p p])).ks [.o a, .p (some ⟨q, 0, none⟩)]).two⟩
/-- the children from one on -/
def Chain (A : List Node_one) : Int → List Int → Prop
 | c, [] => c = -1
 | c, x :: xs => c = x ∧ x ≠ -1 ∧ hasB A x = true ∧ Chain A (at_ A x.toNat).Node.Next xs
abbrev itF (a : Nat) (p : Option Addr) (c : Nat) (A : List Node_one) (b2 b3 : Nat) (id : Int) : List HP := [arB a p A.length c, arS p c A, blk b2 22 [.pointer (some ⟨a, 0, none⟩)], blk b3 3 [.int .i64 id]]
theorem children_spec {k : Ctx} {w : World} {a : Nat} {id : Int} (hO : Own k w []) :
  Tri Tryz.prog 132 #[.pointer (some ⟨a, 0, none⟩), .int .i64 id] k w fun v m => ∃ b2 b3, v = .func (.func 141) #[] #[.pointer (some ⟨b2, 0, none⟩), .pointer (some ⟨b3, 0, none⟩)] ∧ m = [blk b2 22 [.pointer (some ⟨a, 0, none⟩)], blk b3 3 [.int .i64 id]] := by
 refine enter (args := [.pointer (some ⟨a, 0, none⟩), .int .i64 id]) Tryz.func132 rfl rfl (K0 (K1 (s_box (vs := [.pointer (some ⟨a, 0, none⟩)]) hO rfl rfl rfl (by rfl) fun b2 w hO => ?_)))
 refine s_box (vs := [.int .i64 id]) hO rfl rfl rfl (by rfl) fun b3 w hO => ?_
 refine V2 rfl rfl rfl (K2 (K3 (K0 (K1 (l_y rfl rfl (y_makeFunc rfl rfl) (V2 rfl rfl rfl (K2 (K3 (K6 ?_)))))))))
 exact fin1 rfl rfl ⟨_, ⟨b2, b3, rfl, rfl⟩, hO.only [.b b2, .b b3]⟩
end Go.Proofs.YtoohapbaelmkcaaGreat
end
section
set_option maxRecDepth 100000
namespace Go.Proofs.YtoohapbaelmkcaaGreat
open Go Go.Hb Go.RowKit
theorem lift2 {f : FuncId} {args : Array Value} {R : Value → Prop} {k : Ctx} {w : World} {a : Nat} {A A' : List Node_one} (hO : Own k w [arenaL a A]) (hl : A'.length = A.length) (ht : A'.map attrsP = A.map attrsP)
  (h : ∀ k' p c, Gs p A.length → Own k' w [arB a p A.length c, arS p c A] → Tri Tryz.prog f args k' w fun v m => R v ∧ m = [arB a p A.length c, arS p c A']) :
  Tri Tryz.prog f args k w fun v m => R v ∧ m = [arenaL a A'] := by
 obtain ⟨p, c, hg, hO⟩ := arenaL_open hO
 refine Ret.mono (Ret.framed hO (.cons (.hd _ _) (.cons (.hd _ _) (.nil _))) fun k' _ _ hO' => h k' p c hg hO') ?_
 rintro v w' ⟨m, ⟨hv, rfl⟩, hO⟩
 have hO : Own k w' [arB a p A.length c, arS p c A', sep (A.map attrsP)] := hO
 refine ⟨_, ⟨hv, rfl⟩, (arenaL_shut (hO.ks [.s, .b a, .p p]) ht.symm hl.symm).one⟩
theorem LenC_spec {k : Ctx} {w : World} {a : Nat} {A : List Node_one} (hn : 0 < A.length) (hO : Own k w [arenaL a A]) :
  Tri Tryz.prog 12 #[.pointer (some ⟨a, 0, none⟩)] k w fun v m => v = .int .i64 (A.length : Int) ∧ m = [arenaL a A] := lift2 hO rfl rfl fun k' p c hg hO => Len_spec hn hO
theorem setLinks_len {A : List Node_one} {id up p n : Int} : (setLinks A id up p n).length = A.length := by simp [setLinks]
theorem setLinks_attrs {A : List Node_one} {id up p n : Int} : (setLinks A id up p n).map attrsP = A.map attrsP := attrs_set rfl
theorem linkL_len {A : List Node_one} {up id before : Int} : (linkL A up id before).2.length = A.length := by unfold linkL; (repeat' split) <;> simp only [joinL_len, setLinks_len]
theorem linkL_attrs {A : List Node_one} {up id before : Int} : (linkL A up id before).2.map attrsP = A.map attrsP := by unfold linkL; (repeat' split) <;> simp only [joinL_attrs, setLinks_attrs]
theorem unlinkL_len {A : List Node_one} {id : Int} : (unlinkL A id).2.length = A.length := by unfold unlinkL; (repeat' split) <;> simp only [joinL_len, setLinks_len]
theorem unlinkL_attrs {A : List Node_one} {id : Int} : (unlinkL A id).2.map attrsP = A.map attrsP := by unfold unlinkL; (repeat' split) <;> simp only [joinL_attrs, setLinks_attrs]
theorem LinkC_spec {k : Ctx} {w : World} {a : Nat} {A : List Node_one} {up id before : Int} (hn : 0 < A.length) (hrk : Ranked A) (hL : LinksOk A) (hO : Own k w [arenaL a A]) :
  Tri Tryz.prog 19 #[.pointer (some ⟨a, 0, none⟩), .int .i64 up, .int .i64 id, .int .i64 before] k w fun v m => v = .int .i64 (linkL A up id before).1 ∧ m = [arenaL a (linkL A up id before).2] := lift2 hO linkL_len linkL_attrs fun k' p c hg hO => Link_spec hn hg hrk hL hO
theorem UnlinkC_spec {k : Ctx} {w : World} {a : Nat} {A : List Node_one} {id : Int} (hn : 0 < A.length) (hL : LinksOk A) (hO : Own k w [arenaL a A]) :
  Tri Tryz.prog 130 #[.pointer (some ⟨a, 0, none⟩), .int .i64 id] k w fun v m => v = .int .i64 (unlinkL A id).1 ∧ m = [arenaL a (unlinkL A id).2] := lift2 hO unlinkL_len unlinkL_attrs fun k' p c hg hO => Unlink_spec hn hg hL hO
end Go.Proofs.YtoohapbaelmkcaaGreat
end
section
set_option maxRecDepth 100000
namespace Go.Proofs.YtoohapbaelmkcaaGreat
open Go Go.Hb Go.RowKit
abbrev docD : Node_one := blankN documentN
end Go.Proofs.YtoohapbaelmkcaaGreat
end
section
set_option maxRecDepth 100000
namespace Go.Proofs.YtoohapbaelmkcaaGreat
open Go Go.Hb Go.RowKit
instance : DecidableEq Api_attr := fun a b => decidable_of_iff (a.Space = b.Space ∧ a.Prefix = b.Prefix ∧ a.Name = b.Name ∧ a.Value = b.Value) ⟨fun ⟨h1, h2, h3, h4⟩ => Api_attr.ext h1 h2 h3 h4, fun h => by subst h; exact ⟨rfl, rfl, rfl, rfl⟩⟩
instance : EqT Tryz.prog 115 Api_attr.cells := ⟨by kernel_rfl, fun x y w => by
  have u3 := Tryz.underlying3
  have u9 := Tryz.underlying9
  have hS : Tryz.prog.underlying 115 = some (.struct (Tryz.prog.fieldsOf 115)) := by kernel_rfl
  have hp : Tryz.prog.stoodInHeld 115 = false := by kernel_rfl
  rw [show (10000 : Nat) = 9999 + 1 from rfl, run_equalIn_agg w 9999 115 _ _ hS hp]
  simp only [Program.fieldsOf, Tryz.underlying115, Api_attr.cells]
  go_simp
  simp only [ba_inj]
  have e : (x = y) ↔ x.Space = y.Space ∧ x.Prefix = y.Prefix ∧ x.Name = y.Name ∧ x.Value = y.Value := Api_attr.ext_iff
  by_cases h1 : x.Space = y.Space <;> by_cases h2 : x.Prefix = y.Prefix <;> by_cases h3 : x.Name = y.Name <;> by_cases h4 : x.Value = y.Value <;> simp [e, h1, h2, h3, h4]⟩
end Go.Proofs.YtoohapbaelmkcaaGreat
end
section
set_option maxRecDepth 100000
namespace Go.Proofs.YtoohapbaelmkcaaGreat
open Go Go.Hb Go.RowKit
theorem chain_cons {A : List Node_one} {c : Int} {l : List Int} (h : Chain A c l) (hc : ¬ c = -1) : ∃ s, l = c :: s ∧ hasB A c = true ∧ Chain A (at_ A c.toNat).Node.Next s := by
  cases l with
  | nil => exact absurd h hc
  | cons x s =>
    obtain ⟨rfl, _, hh, hs⟩ := h
    exact ⟨s, rfl, hh, hs⟩
theorem chain_nil {A : List Node_one} {c : Int} {l : List Int} (h : Chain A c l) (hc : c = -1) : l = [] := by
 cases l with
 | nil => rfl
 | cons x s => obtain ⟨rfl, h1, _⟩ := h; exact absurd hc h1
theorem iter_spec {k : Ctx} {w : World} {a b2 b3 L D : Nat} {A : List Node_one} {p : Option Addr} {c : Nat} {id : Int} {xs : List Int} {M0 : List HP} {B : List Int → List HP → Prop} {stop : Code → List HP → Prop} {fn : FuncId} {tmps : Array Value} {ps : Array Tmp} {assign body : Code}
    (hg : Gs p A.length) (hid : hasB A id = true) (hch : Chain A (at_ A id.toNat).Node.First xs) (hps : ps.size = 1) (hB : B [] M0) (hO : Own k w (obj L (loopO .ready none fn tmps ps assign body D) :: (itF a p c A b2 b3 id ++ M0)))
    (hround : ∀ pre x suf M w, xs = pre ++ x :: suf → B pre M → Own k w (obj L (loopO .ready none fn tmps ps assign body D) :: (itF a p c A b2 b3 id ++ M)) →
      RoundIn Fence.wide 0 Tryz.prog L fn ((ps.zip #[.int .i64 x]).foldl (fun tmps (t, a) => tmps.setIfInBounds t a) tmps) assign body w (RP k L fn tmps ps assign body D (fun M' => ∃ M, B (pre ++ [x]) M ∧ M' = itF a p c A b2 b3 id ++ M) stop)) :
    Ret Tryz.prog 141 #[.func (.yield L) #[] #[], .pointer (some ⟨b2, 0, none⟩), .pointer (some ⟨b3, 0, none⟩)] w fun _ w2 =>
      (∃ M, (∃ M', B xs M' ∧ M = itF a p c A b2 b3 id ++ M') ∧ Own k w2 (obj L (loopO .ready none fn tmps ps assign body D) :: M)) ∨ (∃ c M, stop c M ∧ Own k w2 (obj L (loopO .done (some c) fn tmps ps assign body D) :: M)) := by
  refine enter (args := [.func (.yield L) #[] #[], .pointer (some ⟨b2, 0, none⟩), .pointer (some ⟨b3, 0, none⟩)]) Tryz.func141 rfl rfl ?_
  have hid2 := hasB_true hid
  simp only [List.cons_append, List.nil_append] at hO
  refine K0 (da_region (by intro c a d v w h; cases d <;> exact h) ?_)
  have hO := hO.drew
  refine da_phase _ [] (SO.ks [.b b2, .b a, .b b3, .p p] hO) ?_
  refine dx_y 0 (by kernel_rfl) rfl rfl rfl (fun w ⟨m, hw⟩ => D5 hw rfl) ?_
  refine dx_u 1 (by kernel_rfl) rfl rfl rfl (fun w => y_nilCheck rfl rfl) ?_
  refine dx_u 2 (by kernel_rfl) rfl rfl rfl (fun w => y_fldb (o' := 0) rfl) ?_
  refine dx_y 3 (by kernel_rfl) rfl rfl rfl (fun w ⟨m, hw⟩ => D5 hw rfl) ?_
  refine dx_y 4 (by kernel_rfl) rfl rfl rfl (fun w ⟨m, hw⟩ => D5 hw rfl) ?_
  refine dx_u 5 (by kernel_rfl) rfl rfl rfl (fun w => y_idx rfl rfl) ?_
  refine dx_u 6 (by kernel_rfl) rfl rfl rfl (fun w => y_fld (j' := 0) rfl) ?_
  refine dx_u 7 (by kernel_rfl) rfl rfl rfl (fun w => y_fld (j' := 7) rfl) ?_
  refine dx_y 8 (by kernel_rfl) rfl rfl rfl (fun w ⟨m, hw⟩ => y_e1 (x0 := 7) hw rfl) ?_
  refine dx_u 9 (by kernel_rfl) rfl rfl rfl (fun w => y_assign rfl) ?_
  refine dx_end (by kernel_rfl) ?_
  refine K3 (K4 (c_rounds (X := Int × List Int × List Int × List HP) (fun x => [(0, .func (.yield L) #[] #[]), (1, .pointer (some ⟨b2, 0, none⟩)), (4, .int .i64 x.1)]) (fun x w => Own k w (obj L (loopO .ready none fn tmps ps assign body D) :: arB a p A.length c :: arS p c A :: blk b2 22 [.pointer (some ⟨a, 0, none⟩)] :: blk b3 3 [.int .i64 id] :: x.2.2.2) ∧ (xs = x.2.1 ++ x.2.2.1) ∧ (Chain A x.1 x.2.2.1) ∧ (B x.2.1 x.2.2.2)) (fun x => x.2.2.1.length) ((_, [], xs, M0)) ⟨rfl, rfl, rfl, trivial⟩ ⟨hO, rfl, hch, hB⟩ ?_))
  rintro x w m hm ⟨hO, hx, hc, hb⟩
  refine K0 (K0 (x_region (x_y rfl rfl (y_move rfl) ?_)))
  refine x_y rfl rfl (y_cmpI rfl rfl rfl) ?_
  refine x_y rfl rfl (y_move rfl) ?_
  refine x_split 16 rfl (fun hg16 => ?_) (fun hg16 => ?_)
  · have h1_1 := ndt hg16
    refine x_y rfl rfl (y_move rfl) ?_
    refine x_y rfl rfl (y_move rfl) ?_
    obtain ⟨s, hs, hh, hch2⟩ := chain_cons hc h1_1
    have hh2 := hasB_true hh
    refine x_yield hO rfl rfl (by simp [hps]) (hround x.2.1 x.1 s x.2.2.2 w (by rw [hx, hs]) hb hO) (fun w M2 hM hO => ?_) (fun w c2 M2 hM hO => ?_)
    · obtain ⟨M3, hb2, rfl⟩ := hM
      simp only [List.cons_append, List.nil_append] at hO
      refine x_y rfl rfl (y_pick_t rfl rfl) ?_
      refine x_nil (K3 (L8 (K5 (K3 (K0 (K4 (K5 (K8 (K3 (K1 (l_y rfl rfl (D5 hO rfl) ?_)))))))))))
      refine V3 rfl rfl rfl rfl (l_y rfl rfl (y_fldb (o' := 0) rfl) (l_y rfl rfl (D5 hO rfl) ?_))
      refine V1 rfl rfl rfl (l_y rfl rfl (y_idx rfl rfl) ?_)
      refine l_y rfl rfl (y_fld (j' := 0) rfl) ?_
      refine l_y rfl rfl (y_fld (j' := 10) rfl) ?_
      refine l_y rfl rfl (y_e1 (x0 := 10) hO rfl) ?_
      refine V2 rfl rfl rfl (K2 ?_)
      have hO : Own k w (obj L (loopO .ready none fn tmps ps assign body D) :: arB a p A.length c :: arS p c A :: blk b2 22 [.pointer (some ⟨a, 0, none⟩)] :: blk b3 3 [.int .i64 id] :: M3) := hO
      exact q_next (((at_ A (x.1 : Int).toNat).Node.Next, x.2.1 ++ [x.1], s, M3)) ⟨rfl, rfl, rfl, trivial⟩ ⟨hO, by dsimp only; simp [hx, hs], hch2, hb2⟩ (by dsimp only; rw [hs] at hm; simp at hm; omega)
    · refine x_y rfl rfl (y_pick_t rfl rfl) ?_
      refine x_nil (K3 (L9 (K7 (L1 (L1 (L2 ?_))))))
      exact fin0 rfl (.inr ⟨_, _, hM, hO⟩)
  · have h1_1 := ndf hg16
    refine x_pass rfl rfl (x_pass rfl rfl (x_pass rfl rfl (x_y rfl rfl (y_pick_f rfl rfl) ?_)))
    refine x_nil (K3 (L9 (K7 (L1 (L1 (L2 ?_))))))
    have he := chain_nil hc h1_1
    exact fin0 rfl (.inl ⟨_, ⟨x.2.2.2, by rw [hx, he, List.append_nil]; exact hb, rfl⟩, hO⟩)
abbrev kidB (b5 : Nat) (A : List Node_one) (D : Nat) (pre : List Int) (M : List HP) : Prop := ∃ q d, M = [blk b5 95 [.slice q pre.length d], sls q d 3 1 (eI .i64) pre, sep (A.map attrsP), obj D (.deferred (some []))]
set_option maxHeartbeats 1000000 in
theorem Kids_spec {k : Ctx} {w : World} {a : Nat} {A : List Node_one} {id : Int} {xs : List Int} (hn : 0 < A.length) (hxl : xs.length ≤ 1000000) (hch : hasB A id = true → Chain A (at_ A id.toNat).Node.First xs) (hO : Own k w [arenaL a A]) :
    Tri Tryz.prog 108 #[.pointer (some ⟨a, 0, none⟩), .int .i64 id] k w fun v m =>
      (hasB A id = false ∧ v = .slice none 0 0 ∧ m = [arenaL a A]) ∨ (hasB A id = true ∧ ∃ q d, v = .slice q xs.length d ∧ m = [arenaL a A, sls q d 3 1 (eI .i64) xs]) := by
  refine enterM (args := [.pointer (some ⟨a, 0, none⟩), .int .i64 id]) Tryz.func108 rfl rfl ?_
  obtain ⟨p, c, hg, hO⟩ := arenaL_open hO
  refine K0 (K1 (V2 rfl rfl rfl (K2 (K3 (K0 (K0 (K1 (V1 rfl rfl rfl (CK [.b a, .p p] hO rfl (fun k' hx hr hO' => none_spec (hO := hO')) ?_)))))))))
  rintro _ _ w ⟨rfl, rfl⟩ hO
  simp only [List.cons_append, List.nil_append] at hO
  refine V1 rfl rfl rfl (V1 rfl rfl rfl (V1 rfl rfl rfl (CK [.b a, .p p] hO rfl (fun k' hx hr hO' => has_spec (hO := hO')) ?_)))
  rintro _ _ w ⟨rfl, rfl⟩ hO
  simp only [List.cons_append, List.nil_append] at hO
  refine l_y rfl rfl (y_not rfl rfl) (l_y rfl rfl (y_pick_f rfl rfl) (K2 (K3 ?_)))
  refine c_split rfl (fun hc14 => ?_) (fun hc14 => ?_)
  · simp only [Bool.not_eq_true', Bool.not_eq_false'] at hc14
    refine K0 (K1 (V2 rfl rfl rfl (K2 (K3 (K6 (K9 (finM0 (R := fun _ _ => True) ?_)))))))
    exact fin1 rfl rfl ⟨_, .inl ⟨by first | exact hc14 | exact hg12, rfl, rfl⟩, (arenaL_shut (hO.ks [.s, .b a, .p p])).one⟩
  · simp only [Bool.not_eq_true', Bool.not_eq_false'] at hc14
    refine K5 (K3 (K0 (K1 (s_alloc (vs := [.slice none 0 0]) hO rfl rfl rfl fun b5 w hO => ?_))))
    refine K2 (K3 (K0 (K0 ?_)))
    have hid := hc14
    have hO : Own k w (sls none 0 3 1 (eI .i64) ([] : List Int) :: _) := sl_nil 3 1 hO
    refine K1 (V1 rfl rfl rfl (V1 rfl rfl rfl (CK [] hO rfl (fun k' hx hr hO' => children_spec (hO := hO')) ?_)))
    rintro _ _ w ⟨b2, b3, rfl, rfl⟩ hO
    simp only [List.cons_append, List.nil_append] at hO
    refine K2 (K3 (K4 ?_))
    refine c_range (gf := 141) (lb := [.pointer (some ⟨b2, 0, none⟩), .pointer (some ⟨b3, 0, none⟩)]) (done := fun M => ∃ q d, M = itF a p c A b2 b3 id ++ [blk b5 95 [.slice q xs.length d], sls q d 3 1 (eI .i64) xs, sep (A.map attrsP)]) (stop := fun _ _ => False) hO rfl (fun fn tmps L D w hF hO => ?_) (fun D w M hM hO => ?_) (fun D w c M hM hO => ?_)
    · have hO2 : Own k w (obj L (loopO .ready none fn tmps _ _ _ D) :: (itF a p c A b2 b3 id ++ [blk b5 95 [.slice none ([] : List Int).length 0], sls none 0 3 1 (eI .i64) [], sep (A.map attrsP), obj D (.deferred (some []))])) := hO.ks [.o L, .b a, .p p, .b b2, .b b3, .b b5, .p none, .s, .o D]
      refine Ret.mono (iter_spec (B := kidB b5 A D) (stop := fun _ _ => False) hg hid (hch hid) rfl ⟨none, 0, rfl⟩ hO2 ?_) (fun v w2 h => ?_)
      rotate_left
      · rcases h with ⟨M, ⟨M', ⟨q, d, rfl⟩, rfl⟩, hO⟩ | ⟨_, _, h, _⟩
        · exact .inl ⟨_, ⟨q, d, rfl⟩, hO.ks [.o L, .o D]⟩
        · exact h.elim
      rintro pre x suf _ w hxs ⟨q, d, rfl⟩ hO
      have hpl : pre.length < xs.length := by rw [hxs]; simp
      simp only [List.cons_append, List.nil_append] at hO
      refine round_ok (n := Tryz.f108.ntmps) (E := [(5, .pointer (some ⟨b5, 0, none⟩)), (18, .int .i64 x)]) ?_ hO ?_
      · have e1 : (#[18].zip #[Value.int .i64 x]).foldl (fun tmps (t, a) => tmps.setIfInBounds t a) tmps = tmps.setIfInBounds 18 (.int .i64 x) := by simp
        rw [e1]
        exact (hF.put (d := some 18) rfl (.int .i64 x)).weaken (E' := [(5, .pointer (some ⟨b5, 0, none⟩)), (18, .int .i64 x)]) ⟨rfl, rfl, trivial⟩
      · refine CR1 (V2 rfl rfl rfl (K2 (q_assign hO (fun w hO => ?_))))
        refine CR4 (CR1 (l_y rfl rfl (D5 hO rfl) ?_))
        refine V1 rfl rfl rfl (s_lit (parts := [(0, .tmp 20)]) (enc := (eI .i64)) [x] [.int .i64 x] hO rfl (fun b21 w hO => ?_))
        refine s_app hO rfl rfl (src_own hO) (fun p22 c22 w hO gs22 => ?_)
        refine Y1 hO rfl rfl (fun w hO => ?_)
        simp only [List.set_cons_zero, List.set_cons_succ] at hO
        refine K2 (K8 ?_)
        exact q_bodyend ⟨_, ⟨_, _, rfl⟩, rfl⟩ (hO.only [.o L, .b a, .p p, .b b2, .b b3, .b b5, .p p22, .s, .o D])
    · obtain ⟨q, d, rfl⟩ := hM
      simp only [List.cons_append, List.nil_append] at hO
      refine K8 (K3 (K0 (K1 (l_y rfl rfl (D5 hO rfl) ?_))))
      refine V2 rfl rfl rfl (K2 (K3 (K6 (finM hO (fun w hO => ?_)))))
      exact fin1 rfl rfl ⟨_, .inr ⟨hid, q, d, rfl, rfl⟩, ((arenaL_shut (hO.ks [.s, .b a, .p p])).ks [.o a, .p q]).two⟩
    · exact hM.elim
end Go.Proofs.YtoohapbaelmkcaaGreat
end
section
set_option maxRecDepth 100000
namespace Go.Proofs.YtoohapbaelmkcaaGreat
open Go Go.Hb Go.RowKit
def NV (A : List Node_one) (id : Int) (n : Api_node) : Prop := (hasB A id = false ∧ n = default) ∨ (hasB A id = true ∧ ∃ q d, n = ownN (at_ A id.toNat).Node q d)
def errN (A : List Node_one) (id : Int) : Int := if hasB A id = true then 0 else 6
theorem NodeU_spec {k : Ctx} {w : World} {a : Nat} {A : List Node_one} {id : Int} (hn : 0 < A.length) (ha : AttrsOk A) (hO : Own k w [arenaL a A]) :
    Tri Tryz.prog 14 #[.pointer (some ⟨a, 0, none⟩), .int .i64 id] k w fun v m => ∃ n, NV A id n ∧ v = .tuple #[.agg (Api_node.cells n).toArray, .int .i64 (errN A id)] ∧ m = [arenaL a A, sls n.AttrsP n.AttrsC 115 4 Api_attr.cells n.Attrs] := by
  refine Ret.mono (Node_spec hn ha hO) ?_
  rintro v w' ⟨m, (⟨h, rfl, rfl⟩ | ⟨h, q, d, rfl, rfl⟩), hO⟩
  · refine ⟨_, ⟨default, .inl ⟨h, rfl⟩, by rw [errN, h]; rfl, rfl⟩, ?_⟩
    exact (sl_nil 115 4 hO).swap
  · exact ⟨_, ⟨_, .inr ⟨h, q, d, rfl⟩, by rw [errN, h]; rfl, rfl⟩, hO⟩
theorem NodeD_spec {k : Ctx} {w : World} {a : Nat} {A : List Node_one} {id : Int} (hn : 0 < A.length) (ha : AttrsOk A) (hO : Own k w [arenaL a A]) :
  Tri Tryz.prog 14 #[.pointer (some ⟨a, 0, none⟩), .int .i64 id] k w fun v m => ∃ n, NV A id n ∧ v = .tuple #[.agg (Api_node.cells n).toArray, .int .i64 (errN A id)] ∧ m = [arenaL a A] := by
 refine Ret.mono (NodeU_spec hn ha hO) ?_
 rintro v w' ⟨m, ⟨n, h, rfl, rfl⟩, hO⟩
 exact ⟨_, ⟨n, h, rfl, rfl⟩, hO.swap.drop⟩
def elB (A : List Node_one) (id : Int) : Bool := hasB A id && decide ((at_ A id.toNat).Node.Kind = 1)
theorem elB_has {A : List Node_one} {id : Int} (h : elB A id = true) : hasB A id = true := by rw [elB, Bool.and_eq_true] at h; exact h.1
theorem NV.el {A : List Node_one} {id : Int} {n : Api_node} (h : NV A id n) : elB A id = (decide (errN A id = 0) && decide (n.Kind = 1)) := by
 rcases h with ⟨h, rfl⟩ | ⟨h, q, d, rfl⟩
 ·simp [elB, errN, h]
 ·rw [elB, errN, h]; rfl
theorem NV.kind {A : List Node_one} {id : Int} {n : Api_node} (h : NV A id n) (hb : hasB A id = true) : n.Kind = (at_ A id.toNat).Node.Kind := by
 rcases h with ⟨h, _⟩ | ⟨_, q, d, rfl⟩
 ·rw [hb] at h; cases h
 ·rfl
theorem NV.space {A : List Node_one} {id : Int} {n : Api_node} (h : NV A id n) (hb : hasB A id = true) : n.Space = (at_ A id.toNat).Node.Space := by
 rcases h with ⟨h, _⟩ | ⟨_, q, d, rfl⟩
 ·rw [hb] at h; cases h
 ·rfl
theorem NV.name {A : List Node_one} {id : Int} {n : Api_node} (h : NV A id n) (hb : hasB A id = true) : n.Name = (at_ A id.toNat).Node.Name := by
 rcases h with ⟨h, _⟩ | ⟨_, q, d, rfl⟩
 ·rw [hb] at h; cases h
 ·rfl
abbrev sB (s a : Nat) (p : Option Addr) (n c : Nat) : HP := blk s 107 [.pointer (some ⟨a, 0, none⟩), .slice p n c]
abbrev sI (p : Option Addr) (c : Nat) (l : List Int) : HP := sls p c 3 1 (eI .i64) l
def stkL (s a : Nat) (l : List Int) : HP := fun h => ∃ x : Option Addr × Nat, sep [sB s a x.1 l.length x.2, sI x.1 x.2 l] h
theorem stkL_open {k : Ctx} {w : World} {L : List HP} {s a : Nat} {l : List Int} (hO : Own k w (stkL s a l :: L)) : ∃ p c, Gs p l.length ∧ l.length ≤ c ∧ Own k w (sB s a p l.length c :: sI p c l :: L) := by
 obtain ⟨⟨p, c⟩, hO⟩ := Own.ex (A := fun (x : Option Addr × Nat) => sep [sB s a x.1 l.length x.2, sI x.1 x.2 l]) hO
 have hO := Own.open hO
 simp only [List.cons_append, List.nil_append] at hO
 exact ⟨p, c, (sls_fct (p := p) hO).2, (sls_fct (p := p) hO).1, hO⟩
theorem stkL_shut {k : Ctx} {w : World} {L : List HP} {s a n : Nat} {l : List Int} {p : Option Addr} {c : Nat} (hO : Own k w (sB s a p n c :: sI p c l :: L)) (hn : n = l.length := by first | rfl | simp) : Own k w (stkL s a l :: L) := by
 subst hn
 exact (Own.shut (l := [sB s a p l.length c, sI p c l]) hO).tell fun h hA => ⟨(p, c), hA⟩
instance (priority := high) AtK.hstk (s a : Nat) (l : List Int) (L : List HP) : AtK (stkL s a l :: L) (.o s) (stkL s a l) L := ⟨.hd _ L⟩
theorem snone_spec {k : Ctx} {w : World} {s a n c : Nat} {p : Option Addr} (hO : Own k w [sB s a p n c]) :
  Tri Tryz.prog 47 #[.pointer (some ⟨s, 0, none⟩)] k w fun v m => v = .bool false ∧ m = [sB s a p n c] := by
 refine enter (args := [.pointer (some ⟨s, 0, none⟩)]) Tryz.func47 rfl rfl (K0 (K1 (V2 rfl rfl rfl (K2 (K3 (K0 (K1 (V1 rfl rfl rfl (l_y rfl rfl (y_eqPnil rfl rfl rfl) (V1 rfl rfl rfl (V1 rfl rfl rfl (V3 rfl rfl rfl rfl (l_y rfl rfl (y_fldb (o' := 0) rfl) (l_y rfl rfl (D5 hO rfl) ?_))))))))))))))
 refine l_y rfl rfl (y_eqPnil rfl rfl rfl) (l_y rfl rfl (y_pick_f rfl rfl) (V2 rfl rfl rfl (K2 (K3 (K6 ?_)))))
 exact fin1 rfl rfl ⟨_, ⟨rfl, rfl⟩, hO⟩
theorem sLen_spec {k : Ctx} {w : World} {s a n c : Nat} {p : Option Addr} (hO : Own k w [sB s a p n c]) :
  Tri Tryz.prog 13 #[.pointer (some ⟨s, 0, none⟩)] k w fun v m => v = .int .i64 ((n : Nat) : Int) ∧ m = [sB s a p n c] := by
 refine enter (args := [.pointer (some ⟨s, 0, none⟩)]) Tryz.func13 rfl rfl (K0 (K1 (V2 rfl rfl rfl (K2 (K3 (K0 (K0 (K1 (V1 rfl rfl rfl (CK [.b s] hO rfl (fun k' hx hr hO' => snone_spec (hO := hO')) ?_))))))))))
 rintro _ _ w ⟨rfl, rfl⟩ hO
 simp only [List.cons_append, List.nil_append] at hO
 refine K2 (K3 (L9 (K5 (K3 (K0 (K1 (V1 rfl rfl rfl (V3 rfl rfl rfl rfl (l_y rfl rfl (y_fldb (o' := 1) rfl) (l_y rfl rfl (y_fldb (o' := 1) rfl) (l_y rfl rfl (D5 hO rfl) ?_)))))))))))
 refine l_y rfl rfl (y_lenL rfl) (V2 rfl rfl rfl (K2 (K3 (K6 ?_))))
 exact fin1 rfl rfl ⟨_, ⟨rfl, rfl⟩, hO⟩
def atI (l : List Int) (i : Int) : Int := if i < 0 ∨ (l.length : Int) ≤ i then -1 else at_ l i.toNat
theorem sAt_spec {k : Ctx} {w : World} {s a c : Nat} {p : Option Addr} {l : List Int} {i : Int} (hg : Gs p l.length) (hO : Own k w [sB s a p l.length c, sI p c l]) :
  Tri Tryz.prog 15 #[.pointer (some ⟨s, 0, none⟩), .int .i64 i] k w fun v m => v = .int .i64 (atI l i) ∧ m = [sB s a p l.length c, sI p c l] := by
 refine enter (args := [.pointer (some ⟨s, 0, none⟩), .int .i64 i]) Tryz.func15 rfl rfl (K0 (K1 (V2 rfl rfl rfl (K2 (K3 (K0 (K0 (K1 (V1 rfl rfl rfl ?_)))))))))
 refine Z0 (fun h1_1 => ?_) (fun h1_1 => ?_)
 ·refine V1 rfl rfl rfl ?_
  repeat refine M2 ?_
  refine l_y rfl rfl (y_pick_t rfl rfl) (K2 (K3 (L8 (K0 (K1 (V2 rfl rfl rfl (K2 (K3 (K6 (K9 ?_))))))))))
  exact fin1 rfl rfl ⟨_, ⟨by rw [atI, if_pos (by omega)], rfl⟩, hO.only [.b s, .p p]⟩
 ·refine V1 rfl rfl rfl (V1 rfl rfl rfl (V1 rfl rfl rfl (CK [.b s] hO rfl (fun k' hx hr hO' => sLen_spec (hO := hO')) ?_)))
  rintro _ _ w ⟨rfl, rfl⟩ hO
  simp only [List.cons_append, List.nil_append] at hO
  refine Z0 (fun h1_6 => ?_) (fun h1_6 => ?_)
  ·refine l_y rfl rfl (y_pick_f rfl rfl) (K2 (K3 (L8 (K0 (K1 (V2 rfl rfl rfl (K2 (K3 (K6 (K9 ?_))))))))))
   exact fin1 rfl rfl ⟨_, ⟨by rw [atI, if_pos (by omega)], rfl⟩, hO.only [.b s, .p p]⟩
  ·refine l_y rfl rfl (y_pick_f rfl rfl) (K2 (K3 (L9 (K5 (K3 (K0 (K1 (V1 rfl rfl rfl (V3 rfl rfl rfl rfl (l_y rfl rfl (y_fldb (o' := 1) rfl) (l_y rfl rfl (y_fldb (o' := 1) rfl) (l_y rfl rfl (D5 hO rfl) ?_))))))))))))
   refine V1 rfl rfl rfl (l_y rfl rfl (y_idx rfl rfl) ?_)
   refine l_y rfl rfl (y_e1 (x0 := 0) hO rfl) ?_
   refine V2 rfl rfl rfl (K2 (K3 (K6 ?_)))
   exact fin1 rfl rfl ⟨_, ⟨by rw [atI, if_neg (by omega)], rfl⟩, hO.only [.b s, .p p]⟩
def topI (l : List Int) : Int := atI l ((l.length : Int) - 1)
theorem sTop_spec {k : Ctx} {w : World} {s a c : Nat} {p : Option Addr} {l : List Int} (hg : Gs p l.length) (hl : l.length ≤ 1000000) (hO : Own k w [sB s a p l.length c, sI p c l]) :
  Tri Tryz.prog 35 #[.pointer (some ⟨s, 0, none⟩)] k w fun v m => v = .int .i64 (topI l) ∧ m = [sB s a p l.length c, sI p c l] := by
 refine enter (args := [.pointer (some ⟨s, 0, none⟩)]) Tryz.func35 rfl rfl (K0 (K1 (V2 rfl rfl rfl (K2 (K3 (K0 (K1 (V1 rfl rfl rfl (V1 rfl rfl rfl (CK [.b s] hO rfl (fun k' hx hr hO' => sLen_spec (hO := hO')) ?_))))))))))
 rintro _ _ w ⟨rfl, rfl⟩ hO
 simp only [List.cons_append, List.nil_append] at hO
 refine l_y rfl rfl (D4) ?_
 refine CK [.b s, .p p] hO rfl (fun k' hx hr hO' => sAt_spec hg (hO := hO')) ?_
 rintro _ _ w ⟨rfl, rfl⟩ hO
 simp only [List.cons_append, List.nil_append] at hO
 refine V2 rfl rfl rfl (K2 (K3 (K6 ?_)))
 exact fin1 rfl rfl ⟨_, ⟨rfl, rfl⟩, hO⟩
def findI (l : List Int) (x : Int) : Int := idx (fun y => decide (y = x)) l
theorem srow_find_spec {k : Ctx} {w : World} {s a c : Nat} {p : Option Addr} {l : List Int} {x : Int} (hg : Gs p l.length) (hl : l.length ≤ 1000000) (hO : Own k w [sB s a p l.length c, sI p c l]) :
  Tri Tryz.prog 93 #[.pointer (some ⟨s, 1, none⟩), .int .i64 x] k w fun v m => v = .int .i64 (findI l x) ∧ m = [sB s a p l.length c, sI p c l] := by
 refine enter (args := [.pointer (some ⟨s, 1, none⟩), .int .i64 x]) Tryz.func93 rfl rfl (K0 (K1 (V2 rfl rfl rfl (K2 (K3 (K0 (K0 (K1 (V1 rfl rfl rfl (V3 rfl rfl rfl rfl (l_y rfl rfl (y_fldb (o' := 1) rfl) (l_y rfl rfl (D5 hO rfl) ?_))))))))))))
 refine l_y rfl rfl (y_lenL rfl) (V1 rfl rfl rfl (K2 (K3 (K4 (c_rounds (X := Nat) (fun i => [(1, .int .i64 x), (4, .int .i64 0), (10, .slice p l.length c), (11, .int .i64 ((l.length : Nat) : Int)), (12, .int .i64 (i : Int))]) (fun i w => Own k w [sB s a p l.length c, sI p c l] ∧ (i ≤ l.length) ∧ (∀ j, j < i → decide (at_ l j = x) = false)) (fun i => l.length - i) (0) ⟨rfl, rfl, rfl, rfl, rfl, trivial⟩ ⟨hO.only [.b s, .p p], Nat.zero_le _, fun j hj => absurd hj (Nat.not_lt_zero j)⟩ ?_)))))
 rintro i w m hm ⟨hO, hi, hn⟩
 refine K0 (K1 ?_)
 refine Z0 (fun h2_0 => ?_) (fun h2_0 => ?_)
 ·refine K2 (K3 (K0 (L8 (K5 (K3 (K0 (K4 (K0 (K1 (V1 rfl rfl rfl (l_y rfl rfl (y_idx rfl rfl) ?_)))))))))))
  refine l_y rfl rfl (y_e1 (x0 := 0) hO rfl) ?_
  refine V2 rfl rfl rfl (V2 rfl rfl rfl (K2 (K3 (K0 (K1 (V1 rfl rfl rfl (V1 rfl rfl rfl ?_)))))))
  refine Z0 (fun h4_2 => ?_) (fun h4_2 => ?_)
  ·refine K2 (K3 (L8 (K0 (K1 (V1 rfl rfl rfl (V2 rfl rfl rfl (K2 (K3 (K6 (L0 (K9 (K9 (L0 (K9 ?_))))))))))))))
   rw [show findI l x = i from idx_at (i := i) (by omega) (decide_eq_true h4_2.symm) hn]
   exact fin1 rfl rfl ⟨_, ⟨rfl, rfl⟩, hO.only [.b s, .p p]⟩
  ·refine K2 (K3 (L9 (K5 (K8 (K3 (K1 (l_y rfl rfl (D4) ?_)))))))
   refine V1 rfl rfl rfl (K2 ?_)
   exact q_next (i + 1) ⟨rfl, rfl, rfl, rfl, rfl, trivial⟩ ⟨hO.only [.b s, .p p], by omega, fun j hj => (by by_cases e : j = i; (subst e; exact decide_eq_false (fun h => h4_2 h.symm)); exact hn j (by omega))⟩ (by omega)
 ·refine K2 (K3 (K0 (L9 (K7 (L1 (L1 (L2 (K3 (K0 (K1 (V2 rfl rfl rfl (K2 (K3 (K6 ?_))))))))))))))
  rw [show findI l x = -1 from idx_none (fun j hj => hn j (by omega))]
  exact fin1 rfl rfl ⟨_, ⟨rfl, rfl⟩, hO.only [.b s, .p p]⟩
theorem sFind_spec {k : Ctx} {w : World} {s a c : Nat} {p : Option Addr} {l : List Int} {x : Int} (hg : Gs p l.length) (hl : l.length ≤ 1000000) (hO : Own k w [sB s a p l.length c, sI p c l]) :
  Tri Tryz.prog 74 #[.pointer (some ⟨s, 0, none⟩), .int .i64 x] k w fun v m => v = .int .i64 (findI l x) ∧ m = [sB s a p l.length c, sI p c l] := by
 refine enter (args := [.pointer (some ⟨s, 0, none⟩), .int .i64 x]) Tryz.func74 rfl rfl (K0 (K1 (V2 rfl rfl rfl (K2 (K3 (K0 (K0 (K1 (V1 rfl rfl rfl (CK [.b s] hO rfl (fun k' hx hr hO' => snone_spec (hO := hO')) ?_))))))))))
 rintro _ _ w ⟨rfl, rfl⟩ hO
 simp only [List.cons_append, List.nil_append] at hO
 refine K2 (K3 (L9 (K5 (K3 (K0 (K1 (V1 rfl rfl rfl (V3 rfl rfl rfl rfl (l_y rfl rfl (y_fldb (o' := 1) rfl) (V1 rfl rfl rfl (CK [.b s, .p p] hO rfl (fun k' hx hr hO' => srow_find_spec hg hl (hO := hO')) ?_)))))))))))
 rintro _ _ w ⟨rfl, rfl⟩ hO
 simp only [List.cons_append, List.nil_append] at hO
 refine V2 rfl rfl rfl (K2 (K3 (K6 ?_)))
 exact fin1 rfl rfl ⟨_, ⟨rfl, rfl⟩, hO.only [.b s, .p p]⟩
theorem look_spec {k : Ctx} {w : World} {s a n c : Nat} {p : Option Addr} {A : List Node_one} {id : Int} (hn : 0 < A.length) (ha : AttrsOk A) (hO : Own k w [arenaL a A, sB s a p n c]) :
  Tri Tryz.prog 92 #[.pointer (some ⟨s, 0, none⟩), .int .i64 id] k w fun v m => ∃ x, NV A id x ∧ v = .tuple #[.agg (Api_node.cells x).toArray, .bool (elB A id)] ∧ m = [arenaL a A, sB s a p n c] := by
 refine enter (args := [.pointer (some ⟨s, 0, none⟩), .int .i64 id]) Tryz.func92 rfl rfl (K0 (K1 (s_alloc (vs := [.int .i64 0, .int .i64 0, .string ⟨#[]⟩, .slice none 0 0, .string ⟨#[]⟩, .string ⟨#[]⟩, .int .i64 0, .int .i64 0, .int .i64 0, .int .i64 0, .int .i64 0, .int .i64 0]) hO rfl rfl rfl fun b4 w hO => ?_)))
 refine V2 rfl rfl rfl (K2 (K3 (K0 (K1 (V1 rfl rfl rfl (V3 rfl rfl rfl rfl (l_y rfl rfl (y_fldb (o' := 0) rfl) (l_y rfl rfl (D5 hO rfl) ?_))))))))
 refine V1 rfl rfl rfl (CK [.o a] hO rfl (fun k' hx hr hO' => NodeD_spec hn ha (hO := hO')) ?_)
 rintro _ _ w ⟨x, hx, rfl, rfl⟩ hO
 simp only [List.cons_append, List.nil_append] at hO
 have hel := hx.el
 refine V1 rfl rfl rfl (l_y rfl rfl (y_extract rfl rfl) (l_y rfl rfl (y_extract rfl rfl) (s_alloc (vs := [.int .i64 0, .int .i64 0, .string ⟨#[]⟩, .slice none 0 0, .string ⟨#[]⟩, .string ⟨#[]⟩, .int .i64 0, .int .i64 0, .int .i64 0, .int .i64 0, .int .i64 0, .int .i64 0]) hO rfl rfl rfl fun b6 w hO => ?_)))
 refine Y3 hO rfl rfl (fun w hO => ?_)
 refine V2 rfl rfl rfl (K2 (K3 (K0 (da_region (by intro c a d v w h; cases d <;> exact h) ?_))))
 have hO := hO.drew
 refine da_phase _ [] (SO.ks [.b b6] hO) ?_
 refine dx_y 0 (by kernel_rfl) rfl rfl rfl (fun w ⟨m, hw⟩ => D8 (cs := [.int .i64 x.Kind, .int .i64 x.Space, .string x.Name, .slice x.AttrsP x.Attrs.length x.AttrsC, .string x.Data, .string x.System, .int .i64 x.Parent, .int .i64 x.First, .int .i64 x.Last, .int .i64 x.Prev, .int .i64 x.Next, .int .i64 x.Inner]) hw rfl) ?_
 refine dx_u 1 (by kernel_rfl) rfl rfl rfl (fun w => y_move rfl) ?_
 refine dx_u 2 (by kernel_rfl) rfl rfl rfl (fun w => y_cmpI rfl rfl rfl) ?_
 refine dx_u 3 (by kernel_rfl) rfl rfl rfl (fun w => y_move rfl) ?_
 refine dx_split 20 rfl (fun hg20 => ?_) (fun hg20 => ?_)
 ·have h2_2 := of_decide_eq_true hg20
  refine dx_u 4 (by kernel_rfl) rfl rfl rfl (fun w => y_fldb (o' := 0) rfl) ?_
  refine dx_y 5 (by kernel_rfl) rfl rfl rfl (fun w ⟨m, hw⟩ => D5 hw rfl) ?_
  refine dx_u 6 (by kernel_rfl) rfl rfl rfl (fun w => y_cmpI rfl rfl rfl) ?_
  refine dx_u 7 (by kernel_rfl) rfl rfl rfl (fun w => y_pick_t rfl rfl) ?_
  refine dx_only 8 (by kernel_rfl) rfl rfl ?_
  refine Y3 hO rfl rfl (fun w hO => ?_)
  refine o_done (⟨SO.ks [.b b6] hO, ?_⟩)
  refine dx_u 9 (by kernel_rfl) rfl rfl rfl (fun w => y_assign rfl) ?_
  refine dx_end (by kernel_rfl) ?_
  refine K3 (K6 (finC1 hO rfl rfl rfl ⟨_, ⟨x, hx, ?_, rfl⟩, hO.only [.o a, .b s]⟩))
  rw [hel]
  first | (simp [*]; done) | (simp [*]; rfl)
 ·have h2_2 := of_decide_eq_false hg20
  refine dx_pass 4 (by kernel_rfl) rfl rfl rfl ?_
  refine dx_pass 5 (by kernel_rfl) rfl rfl rfl ?_
  refine dx_pass 6 (by kernel_rfl) rfl rfl rfl ?_
  refine dx_u 7 (by kernel_rfl) rfl rfl rfl (fun w => y_pick_f rfl rfl) ?_
  refine dx_only 8 (by kernel_rfl) rfl rfl ?_
  refine Y3 hO rfl rfl (fun w hO => ?_)
  refine o_done (⟨SO.ks [.b b6] hO, ?_⟩)
  refine dx_u 9 (by kernel_rfl) rfl rfl rfl (fun w => y_assign rfl) ?_
  refine dx_end (by kernel_rfl) ?_
  refine K3 (K6 (finC1 hO rfl rfl rfl ⟨_, ⟨x, hx, ?_, rfl⟩, hO.only [.o a, .b s]⟩))
  rw [hel]
  first | (simp [*]; done) | (simp [*]; rfl)
end Go.Proofs.YtoohapbaelmkcaaGreat
end
section
set_option maxRecDepth 100000
namespace Go.Proofs.YtoohapbaelmkcaaGreat
open Go Go.Hb Go.RowKit
def freshE (A : List Node_one) (l : List Int) (id : Int) : Int := if elB A id = false then 6 else if 0 ≤ findI l id then 1 else 0
theorem fresh_spec {k : Ctx} {w : World} {s a c : Nat} {p : Option Addr} {l : List Int} {A : List Node_one} {id : Int} (hn : 0 < A.length) (ha : AttrsOk A) (hg : Gs p l.length) (hl : l.length ≤ 1000000) (hO : Own k w [arenaL a A, sB s a p l.length c, sI p c l]) :
  Tri Tryz.prog 56 #[.pointer (some ⟨s, 0, none⟩), .int .i64 id] k w fun v m => v = .int .i64 (freshE A l id) ∧ m = [arenaL a A, sB s a p l.length c, sI p c l] := by
 refine enter (args := [.pointer (some ⟨s, 0, none⟩), .int .i64 id]) Tryz.func56 rfl rfl (K0 (K1 (V2 rfl rfl rfl (K2 (K3 (K0 (K0 (K1 (V1 rfl rfl rfl (CK [.b s] hO rfl (fun k' hx hr hO' => snone_spec (hO := hO')) ?_))))))))))
 rintro _ _ w ⟨rfl, rfl⟩ hO
 simp only [List.cons_append, List.nil_append] at hO
 refine K2 (K3 (L9 (K5 (K3 (K0 (K0 (K1 (V1 rfl rfl rfl (V1 rfl rfl rfl (CK [.o a, .b s] hO rfl (fun k' hx hr hO' => look_spec hn ha (hO := hO')) ?_))))))))))
 rintro _ _ w ⟨x3_2, hx3_2, rfl, rfl⟩ hO
 simp only [List.cons_append, List.nil_append] at hO
 refine V1 rfl rfl rfl (l_y rfl rfl (y_extract rfl rfl) (l_y rfl rfl (y_extract rfl rfl) (s_alloc (vs := [.int .i64 0, .int .i64 0, .string ⟨#[]⟩, .slice none 0 0, .string ⟨#[]⟩, .string ⟨#[]⟩, .int .i64 0, .int .i64 0, .int .i64 0, .int .i64 0, .int .i64 0, .int .i64 0]) hO rfl rfl rfl fun b5 w hO => ?_)))
 refine Y3 hO rfl rfl (fun w hO => ?_)
 refine V2 rfl rfl rfl (K2 (K3 (K0 (K1 (V1 rfl rfl rfl (l_y rfl rfl (y_not rfl rfl) (K2 (K3 ?_))))))))
 refine c_split rfl (fun hc16 => ?_) (fun hc16 => ?_)
 ·simp only [Bool.not_eq_true', Bool.not_eq_false'] at hc16
  refine K0 (K1 (V2 rfl rfl rfl (K2 (K3 (K6 (K9 ?_))))))
  exact fin1 rfl rfl ⟨_, ⟨by simp [freshE, *], rfl⟩, hO.only [.o a, .b s, .p p]⟩
 ·simp only [Bool.not_eq_true', Bool.not_eq_false'] at hc16
  refine K5 (K3 (K0 (K0 (K1 (V1 rfl rfl rfl (V3 rfl rfl rfl rfl (l_y rfl rfl (y_fldb (o' := 1) rfl) (V1 rfl rfl rfl (CK [.b s, .p p] hO rfl (fun k' hx hr hO' => srow_find_spec hg hl (hO := hO')) ?_)))))))))
  rintro _ _ w ⟨rfl, rfl⟩ hO
  simp only [List.cons_append, List.nil_append] at hO
  refine Z0 (fun h6_5 => ?_) (fun h6_5 => ?_)
  ·refine K2 (K3 (L8 (K0 (K1 (V2 rfl rfl rfl (K2 (K3 (K6 (K9 ?_)))))))))
   exact fin1 rfl rfl ⟨_, ⟨by simp [freshE, *], rfl⟩, hO.only [.o a, .b s, .p p]⟩
  ·refine K2 (K3 (L9 (K5 (K3 (K0 (K1 (V2 rfl rfl rfl (K2 (K3 (K6 ?_))))))))))
   exact fin1 rfl rfl ⟨_, ⟨by simp [freshE, *], rfl⟩, hO.only [.o a, .b s, .p p]⟩
theorem sPush_spec {k : Ctx} {w : World} {s a : Nat} {l : List Int} {A : List Node_one} {id : Int} (hn : 0 < A.length) (ha : AttrsOk A) (hl : l.length ≤ 1000000) (hO : Own k w [arenaL a A, stkL s a l]) :
  Tri Tryz.prog 20 #[.pointer (some ⟨s, 0, none⟩), .int .i64 id] k w fun v m => v = .int .i64 (freshE A l id) ∧ m = [arenaL a A, stkL s a (if freshE A l id = 0 then l ++ [id] else l)] := by
 refine enter (args := [.pointer (some ⟨s, 0, none⟩), .int .i64 id]) Tryz.func20 rfl rfl ?_
 obtain ⟨p, c, hg, hlc, hO⟩ := stkL_open (hO.ks [.o s])
 refine K0 (K1 (V2 rfl rfl rfl (K2 (K3 (K0 (K1 (V1 rfl rfl rfl (V1 rfl rfl rfl (CK [.o a, .b s, .p p] hO rfl (fun k' hx hr hO' => fresh_spec hn ha hg hl (hO := hO')) ?_)))))))))
 rintro _ _ w ⟨rfl, rfl⟩ hO
 simp only [List.cons_append, List.nil_append] at hO
 refine V2 rfl rfl rfl (K2 (K3 (K0 (K0 (K1 (V1 rfl rfl rfl ?_))))))
 refine Z0 (fun h2_1 => ?_) (fun h2_1 => ?_)
 ·refine K2 (K3 (L8 (K1 (V1 rfl rfl rfl (V1 rfl rfl rfl (V3 rfl rfl rfl rfl (l_y rfl rfl (y_fldb (o' := 1) rfl) (l_y rfl rfl (y_fldb (o' := 1) rfl) (l_y rfl rfl (D5 hO rfl) ?_)))))))))
  refine V1 rfl rfl rfl (s_lit (parts := [(0, .tmp 17)]) (enc := (eI .i64)) [id] [.int .i64 id] hO rfl (fun b18 w hO => ?_))
  refine s_app hO rfl rfl (src_own hO) (fun p19 c19 w hO gs19 => ?_)
  refine V3 rfl rfl rfl rfl (l_y rfl rfl (y_fldb (o' := 1) rfl) (l_y rfl rfl (y_fldb (o' := 1) rfl) (Y1 hO rfl rfl (fun w hO => ?_))))
  simp only [List.set_cons_zero, List.set_cons_succ] at hO
  refine K2 (K3 (K0 (K1 (V1 rfl rfl rfl (V2 rfl rfl rfl (K2 (K3 (K6 ?_))))))))
  rw [if_pos h2_1]
  exact fin1 rfl rfl ⟨_, ⟨rfl, rfl⟩, ((stkL_shut (hO.ks [.b s, .p p19]) rfl).ks [.o a, .o s]).two⟩
 ·refine K2 (K3 (L9 (K5 (K3 (K0 (K1 (V1 rfl rfl rfl (V2 rfl rfl rfl (K2 (K3 (K6 ?_)))))))))))
  rw [if_neg h2_1]
  exact fin1 rfl rfl ⟨_, ⟨rfl, rfl⟩, ((stkL_shut (hO.ks [.b s, .p p]) rfl).ks [.o a, .o s]).two⟩
theorem cut_spec {k : Ctx} {w : World} {s a c i : Nat} {p : Option Addr} {l : List Int} (hi : i ≤ l.length) (hlc : l.length ≤ c) (hO : Own k w [sB s a p l.length c, sI p c l]) :
  Tri Tryz.prog 72 #[.pointer (some ⟨s, 0, none⟩), .int .i64 ((i : Nat) : Int)] k w fun v m => v = .tuple #[] ∧ m = [sB s a p (l.take i).length i, sI p i (l.take i)] := by
 refine enter (args := [.pointer (some ⟨s, 0, none⟩), .int .i64 ((i : Nat) : Int)]) Tryz.func72 rfl rfl ?_
 have hlen : (l.take i).length = i := by simp; omega
 refine K1 (V1 rfl rfl rfl (V1 rfl rfl rfl (V3 rfl rfl rfl rfl (l_y rfl rfl (y_fldb (o' := 1) rfl) (l_y rfl rfl (y_fldb (o' := 1) rfl) (l_y rfl rfl (D5 hO rfl) ?_))))))
 refine V1 rfl rfl rfl (V1 rfl rfl rfl (l_y rfl rfl (y_hd3 i i rfl rfl rfl) ?_))
 refine V3 rfl rfl rfl rfl (l_y rfl rfl (y_fldb (o' := 1) rfl) (l_y rfl rfl (y_fldb (o' := 1) rfl) (Y1 hO rfl rfl (fun w hO => ?_))))
 simp only [List.set_cons_zero, List.set_cons_succ] at hO
 refine K2 ?_
 have hO : Own k w [sB s a p i i, sI p i (l.take i)] := (sls_cut (hO.ks [.p p]) i i hi (Nat.le_refl _) (by omega)).swap
 exact fin0 rfl ⟨_, ⟨rfl, rfl⟩, by rw [hlen]; exact hO⟩
theorem sCut_spec {k : Ctx} {w : World} {s a i : Nat} {l : List Int} {z : Int} (hz : z = (i : Int)) (hi : i ≤ l.length) (hO : Own k w [stkL s a l]) :
  Tri Tryz.prog 72 #[.pointer (some ⟨s, 0, none⟩), .int .i64 z] k w fun v m => v = .tuple #[] ∧ m = [stkL s a (l.take i)] := by
 subst hz
 obtain ⟨p, c, hg, hlc, hO⟩ := stkL_open hO
 refine Ret.mono (cut_spec hi hlc hO) ?_
 rintro v w' ⟨m, ⟨rfl, rfl⟩, hO⟩
 exact ⟨_, ⟨rfl, rfl⟩, stkL_shut hO⟩
theorem sPop_spec {k : Ctx} {w : World} {s a : Nat} {l : List Int} (hl : l.length ≤ 1000000) (hne : ∀ x ∈ l, x ≠ -1) (hO : Own k w [stkL s a l]) :
    Tri Tryz.prog 37 #[.pointer (some ⟨s, 0, none⟩)] k w fun v m => v = .int .i64 (topI l) ∧ m = [stkL s a (l.take (l.length - 1))] := by
  refine enter (args := [.pointer (some ⟨s, 0, none⟩)]) Tryz.func37 rfl rfl ?_
  obtain ⟨p, c, hg, hlc, hO⟩ := stkL_open hO
  refine K0 (K1 (V2 rfl rfl rfl (K2 (K3 (K0 (K1 (V1 rfl rfl rfl (CK [.b s, .p p] hO rfl (fun k' hx hr hO' => sTop_spec hg hl (hO := hO')) ?_))))))))
  rintro _ _ w ⟨rfl, rfl⟩ hO
  simp only [List.cons_append, List.nil_append] at hO
  refine V2 rfl rfl rfl (K2 (K3 (K0 (K0 (K1 (V1 rfl rfl rfl ?_))))))
  refine Z1 (fun h2_1 => ?_) (fun h2_1 => ?_)
  · refine K2 (K3 (L8 (K1 (V1 rfl rfl rfl (V1 rfl rfl rfl (CK [.b s] hO rfl (fun k' hx hr hO' => sLen_spec (hO := hO')) ?_))))))
    rintro _ _ w ⟨rfl, rfl⟩ hO
    simp only [List.cons_append, List.nil_append] at hO
    refine l_y rfl rfl (D4) ?_
    have hpos : 0 < l.length := by
      rcases Nat.eq_zero_or_pos l.length with h0 | h0
      · exact absurd (by rw [topI, atI, if_pos (by omega)]) h2_1
      · exact h0
    refine CK [.b s, .p p] hO rfl (fun k' hx hr hO' => sCut_spec (i := l.length - 1) (by omega) (by omega) (hO := stkL_shut hO')) ?_
    rintro _ _ w ⟨rfl, rfl⟩ hO
    simp only [List.cons_append, List.nil_append] at hO
    refine K2 (K3 (K0 (K1 (V1 rfl rfl rfl (V2 rfl rfl rfl (K2 (K3 (K6 ?_))))))))
    exact fin1 rfl rfl ⟨_, ⟨rfl, rfl⟩, hO.one⟩
  · refine K2 (K3 (L9 (K5 (K3 (K0 (K1 (V1 rfl rfl rfl (V2 rfl rfl rfl (K2 (K3 (K6 ?_)))))))))))
    have h0 : l.length = 0 := by
      rcases Nat.eq_zero_or_pos l.length with h0 | h0
      · exact h0
      · have h21 : topI l = -1 := by simpa using h2_1
        rw [topI, atI, if_neg (by omega)] at h21
        exact absurd h21 (hne _ (at_mem (by omega)))
    rw [show l.length - 1 = l.length by omega, List.take_length]
    exact fin1 rfl rfl ⟨_, ⟨rfl, rfl⟩, (stkL_shut (hO.ks [.b s, .p p])).one⟩
theorem splice0_spec {k : Ctx} {w : World} {s a c i : Nat} {p : Option Addr} {l : List Int} (hi : i < l.length) (hg : Gs p l.length) (hlc : l.length ≤ c) (hl : l.length ≤ 1000000) (hO : Own k w [sB s a p l.length c, sI p c l]) :
  Tri Tryz.prog 131 #[.pointer (some ⟨s, 1, none⟩), .int .i64 ((i : Nat) : Int), .int .i64 1, .slice none 0 0] k w fun v m => v = .tuple #[] ∧ m = [stkL s a (l.take i ++ l.drop (i + 1))] := by
 refine enter (args := [.pointer (some ⟨s, 1, none⟩), .int .i64 ((i : Nat) : Int), .int .i64 1, .slice none 0 0]) Tryz.func131 rfl rfl ?_
 obtain ⟨b, o, rfl⟩ := hg (by omega)
 have e9 : ((i : Int) + 1).toNat = i + 1 := by omega
 refine da_region (by intro c a d v w h; cases d <;> exact h) ?_
 have hO := hO.drew
 refine da_phase _ [18] (SO.ks [.b s] hO) ?_
 refine dx_u 0 (by kernel_rfl) rfl rfl rfl (fun w => y_move rfl) ?_
 refine dx_u 1 (by kernel_rfl) rfl rfl rfl (fun w => y_move rfl) ?_
 refine dx_u 2 (by kernel_rfl) rfl rfl rfl (fun w => y_nilCheck rfl rfl) ?_
 refine dx_u 3 (by kernel_rfl) rfl rfl rfl (fun w => y_fldb (o' := 1) rfl) ?_
 refine dx_y 4 (by kernel_rfl) rfl rfl rfl (fun w ⟨m, hw⟩ => D5 hw rfl) ?_
 refine dx_u 5 (by kernel_rfl) rfl rfl rfl (fun w => y_move rfl) ?_
 refine dx_u 6 (by kernel_rfl) rfl rfl rfl (fun w => y_move rfl) ?_
 refine dx_u 7 (by kernel_rfl) rfl rfl rfl (fun w => y_hd3 i i rfl rfl rfl) ?_
 refine dx_u 8 (by kernel_rfl) rfl rfl rfl (fun w => y_move rfl) ?_
 refine dx_u 10 (by kernel_rfl) rfl rfl rfl (fun w => y_move rfl) ?_
 refine dx_u 11 (by kernel_rfl) rfl rfl rfl (fun w => y_nilCheck rfl rfl) ?_
 refine dx_u 12 (by kernel_rfl) rfl rfl rfl (fun w => y_fldb (o' := 1) rfl) ?_
 refine dx_y 13 (by kernel_rfl) rfl rfl rfl (fun w ⟨m, hw⟩ => D5 hw rfl) ?_
 refine dx_u 14 (by kernel_rfl) rfl rfl rfl (fun w => y_move rfl) ?_
 refine dx_u 15 (by kernel_rfl) rfl rfl rfl (fun w => y_move rfl) ?_
 refine dx_u 16 (by kernel_rfl) rfl rfl rfl (fun w => D4) ?_
 refine dx_y 17 (by kernel_rfl) rfl rfl rfl (fun w ⟨m, hw⟩ => y_tl (i + 1) rfl rfl) ?_
 refine dx_only 9 (by kernel_rfl) rfl rfl ?_
 refine l_y rfl rfl (y_appV (p := some ⟨b, o, none⟩) (m := i) (c := i) rfl rfl (Nat.le_refl _) (fun h => by cases h) Src.nil (fun a h => by cases h; rfl)) (o_done (⟨SO.ks [.b s] hO, ?_⟩))
 refine dx_close 18 (by kernel_rfl) rfl rfl ?_
 have hv0 := sls_sli (p := some ⟨b, o, none⟩) hO
 have hv := sli_tl (cuts_holds w) hv0 (i + 1) (by omega)
 have hdl : (l.drop (i + 1)).length ≤ 1000000 := by simp; omega
 refine s_appCut hO rfl rfl (src_sli hv) (by omega) (fun p45 c45 w hO gs45 => ?_) rfl (by omega) (by omega)
 refine o_done (da_phase _ [21] (SO.ks [] hO) ?_)
 refine dx_u 19 (by kernel_rfl) rfl rfl rfl (fun w => y_nilCheck rfl rfl) ?_
 refine dx_u 20 (by kernel_rfl) rfl rfl rfl (fun w => y_fldb (o' := 1) rfl) ?_
 refine dx_close 21 (by kernel_rfl) rfl rfl ?_
 refine Y1 hO rfl rfl (fun w hO => ?_)
 simp only [List.set_cons_zero, List.set_cons_succ] at hO
 refine o_done (da_end (by kernel_rfl) ?_)
 exact fin0 rfl ⟨_, ⟨rfl, rfl⟩, (stkL_shut (hO.ks [.b s, .p p45]) rfl).one⟩
theorem splice1_spec {k : Ctx} {w : World} {s a c i : Nat} {p : Option Addr} {l : List Int} {x z : Int} {n : Nat} {q : Option Addr} {d : Nat} (hx : Sli (Ro k) (.slice q [x].length d) ([x].map (eI .i64))) (hz : z = (n : Int)) (hn : n ≤ 1) (hi : i + n ≤ l.length) (hg : Gs p l.length) (hlc : l.length ≤ c) (hl : l.length ≤ 1000000) (hO : Own k w [sB s a p l.length c, sI p c l]) :
  Tri Tryz.prog 131 #[.pointer (some ⟨s, 1, none⟩), .int .i64 ((i : Nat) : Int), .int .i64 z, .slice q [x].length d] k w fun v m => v = .tuple #[] ∧ m = [stkL s a (l.take i ++ [x] ++ l.drop (i + n))] := by
 refine enter (args := [.pointer (some ⟨s, 1, none⟩), .int .i64 ((i : Nat) : Int), .int .i64 z, .slice q [x].length d]) Tryz.func131 rfl rfl ?_
 have e9 : ((i : Int) + z).toNat = i + n := by omega
 have htl : (l.take i).length ≤ 1000000 := by simp; omega
 have hdl : (l.drop (i + n)).length ≤ 1000000 := by simp; omega
 refine da_region (by intro c a d v w h; cases d <;> exact h) ?_
 have hO := hO.drew
 refine da_phase _ [18] (SO.ks [.b s] hO) ?_
 refine dx_u 0 (by kernel_rfl) rfl rfl rfl (fun w => y_move rfl) ?_
 refine dx_u 1 (by kernel_rfl) rfl rfl rfl (fun w => y_move rfl) ?_
 refine dx_u 2 (by kernel_rfl) rfl rfl rfl (fun w => y_nilCheck rfl rfl) ?_
 refine dx_u 3 (by kernel_rfl) rfl rfl rfl (fun w => y_fldb (o' := 1) rfl) ?_
 refine dx_y 4 (by kernel_rfl) rfl rfl rfl (fun w ⟨m, hw⟩ => D5 hw rfl) ?_
 refine dx_u 5 (by kernel_rfl) rfl rfl rfl (fun w => y_move rfl) ?_
 refine dx_u 6 (by kernel_rfl) rfl rfl rfl (fun w => y_move rfl) ?_
 refine dx_u 7 (by kernel_rfl) rfl rfl rfl (fun w => y_hd3 i i rfl rfl rfl) ?_
 refine dx_u 8 (by kernel_rfl) rfl rfl rfl (fun w => y_move rfl) ?_
 refine dx_u 10 (by kernel_rfl) rfl rfl rfl (fun w => y_move rfl) ?_
 refine dx_u 11 (by kernel_rfl) rfl rfl rfl (fun w => y_nilCheck rfl rfl) ?_
 refine dx_u 12 (by kernel_rfl) rfl rfl rfl (fun w => y_fldb (o' := 1) rfl) ?_
 refine dx_y 13 (by kernel_rfl) rfl rfl rfl (fun w ⟨m, hw⟩ => D5 hw rfl) ?_
 refine dx_u 14 (by kernel_rfl) rfl rfl rfl (fun w => y_move rfl) ?_
 refine dx_u 15 (by kernel_rfl) rfl rfl rfl (fun w => y_move rfl) ?_
 refine dx_u 16 (by kernel_rfl) rfl rfl rfl (fun w => D4) ?_
 refine dx_y 17 (by kernel_rfl) rfl rfl rfl (fun w ⟨m, hw⟩ => y_tl (i + n) rfl rfl) ?_
 refine dx_only 9 (by kernel_rfl) rfl rfl ?_
 have hv0 := sls_sli (p := p) hO
 have hv := sli_hd (cuts_holds w) hv0 i i (by omega) (Nat.le_refl _)
 refine s_appV hO rfl rfl hv (src_ro hO hx) (by simp) (fun p44 c44 w hO gs44 => ?_)
 refine o_done (⟨SO.ks [.b s] hO, ?_⟩)
 refine dx_close 18 (by kernel_rfl) rfl rfl ?_
 have hv0 := sls_sli (p := p) hO
 have hv := sli_tl (cuts_holds w) hv0 (i + n) (by omega)
 refine s_app (xs := l.take i ++ [x]) hO rfl rfl (src_sli hv) (fun p45 c45 w hO gs45 => ?_)
 refine o_done (da_phase _ [21] (SO.ks [] hO) ?_)
 refine dx_u 19 (by kernel_rfl) rfl rfl rfl (fun w => y_nilCheck rfl rfl) ?_
 refine dx_u 20 (by kernel_rfl) rfl rfl rfl (fun w => y_fldb (o' := 1) rfl) ?_
 refine dx_close 21 (by kernel_rfl) rfl rfl ?_
 refine Y1 hO rfl rfl (fun w hO => ?_)
 simp only [List.set_cons_zero, List.set_cons_succ] at hO
 refine o_done (da_end (by kernel_rfl) ?_)
 exact fin0 rfl ⟨_, ⟨rfl, rfl⟩, (stkL_shut (hO.ks [.b s, .p p45]) rfl).one⟩
theorem findI_lt {l : List Int} {x : Int} : findI l x < l.length := by
 rcases idx_cases (fun y => decide (y = x)) l with ⟨h, _⟩ | ⟨i, h, h2, _⟩ <;> unfold findI <;> omega
theorem findI_ge {l : List Int} {x : Int} : -1 ≤ findI l x := by
 rcases idx_cases (fun y => decide (y = x)) l with ⟨h, _⟩ | ⟨i, h, h2, _⟩ <;> unfold findI <;> omega
def removeL (l : List Int) (id : Int) : Int × List Int := if findI l id < 0 then (6, l) else (0, l.take (findI l id).toNat ++ l.drop ((findI l id).toNat + 1))
theorem sRemove_spec {k : Ctx} {w : World} {s a : Nat} {l : List Int} {id : Int} (hl : l.length ≤ 1000000) (hO : Own k w [stkL s a l]) :
  Tri Tryz.prog 106 #[.pointer (some ⟨s, 0, none⟩), .int .i64 id] k w fun v m => v = .int .i64 (removeL l id).1 ∧ m = [stkL s a (removeL l id).2] := by
 refine enter (args := [.pointer (some ⟨s, 0, none⟩), .int .i64 id]) Tryz.func106 rfl rfl ?_
 obtain ⟨p, c, hg, hlc, hO⟩ := stkL_open hO
 have hfl := findI_lt (l := l) (x := id)
 refine K0 (K1 (V2 rfl rfl rfl (K2 (K3 (K0 (K1 (V1 rfl rfl rfl (V1 rfl rfl rfl (CK [.b s, .p p] hO rfl (fun k' hx hr hO' => sFind_spec hg hl (hO := hO')) ?_)))))))))
 rintro _ _ w ⟨rfl, rfl⟩ hO
 simp only [List.cons_append, List.nil_append] at hO
 refine V2 rfl rfl rfl (K2 (K3 (K0 (K4 (K0 (K1 (V1 rfl rfl rfl (CK [.b s] hO rfl (fun k' hx hr hO' => snone_spec (hO := hO')) ?_))))))))
 rintro _ _ w ⟨rfl, rfl⟩ hO
 simp only [List.cons_append, List.nil_append] at hO
 refine V2 rfl rfl rfl (K2 (K3 (L9 (K0 (K1 (V1 rfl rfl rfl ?_))))))
 refine Z0 (fun h4_1 => ?_) (fun h4_1 => ?_)
 ·refine V2 rfl rfl rfl (K2 (K3 (L8 (K0 (K1 (V2 rfl rfl rfl (K2 (K3 (K6 (L0 (K9 ?_)))))))))))
  exact fin1 rfl rfl ⟨_, ⟨by rw [removeL, if_pos h4_1], rfl⟩, by rw [removeL, if_pos h4_1]; exact (stkL_shut (hO.ks [.b s, .p p])).one⟩
 ·refine V2 rfl rfl rfl (K2 (K3 (L9 (K5 (K8 (K3 (K0 ?_)))))))
  obtain ⟨i, hi⟩ : ∃ i : Nat, findI l id = i := ⟨(findI l id).toNat, by omega⟩
  have er : removeL l id = (0, l.take i ++ l.drop (i + 1)) := by rw [removeL, if_neg h4_1, hi]; rfl
  rw [er]
  rw [hi] at hfl
  refine K1 (V1 rfl rfl rfl (V3 rfl rfl rfl rfl (l_y rfl rfl (y_fldb (o' := 1) rfl) (V1 rfl rfl rfl (CK [.b s, .p p] hO (by rw [hi]; rfl) (fun k' hx hr hO' => splice0_spec (i := i) (by omega) hg hlc hl (hO := hO')) ?_)))))
  rintro _ _ w ⟨rfl, rfl⟩ hO
  simp only [List.cons_append, List.nil_append] at hO
  refine K2 (K3 (K0 (K1 (V2 rfl rfl rfl (K2 (K3 (K6 ?_)))))))
  exact fin1 rfl rfl ⟨_, ⟨rfl, rfl⟩, hO.one⟩
def putL (A : List Node_one) (l : List Int) (i id : Int) : Int × List Int := if freshE A l id ≠ 0 then (freshE A l id, l) else if i < 0 ∨ (l.length : Int) < i then (1, l) else (0, l.take i.toNat ++ [id] ++ l.drop i.toNat)
theorem sPut_spec {k : Ctx} {w : World} {s a : Nat} {l : List Int} {A : List Node_one} {i id : Int} (hn : 0 < A.length) (ha : AttrsOk A) (hl : l.length ≤ 1000000) (hO : Own k w [arenaL a A, stkL s a l]) :
  Tri Tryz.prog 107 #[.pointer (some ⟨s, 0, none⟩), .int .i64 i, .int .i64 id] k w fun v m => v = .int .i64 (putL A l i id).1 ∧ m = [arenaL a A, stkL s a (putL A l i id).2] := by
 refine enter (args := [.pointer (some ⟨s, 0, none⟩), .int .i64 i, .int .i64 id]) Tryz.func107 rfl rfl ?_
 obtain ⟨p, c, hg, hlc, hO⟩ := stkL_open (hO.ks [.o s])
 refine K0 (K1 (V2 rfl rfl rfl (K2 (K3 (K0 (K0 (K1 (V1 rfl rfl rfl (V1 rfl rfl rfl (CK [.o a, .b s, .p p] hO rfl (fun k' hx hr hO' => fresh_spec hn ha hg hl (hO := hO')) ?_))))))))))
 rintro _ _ w ⟨rfl, rfl⟩ hO
 simp only [List.cons_append, List.nil_append] at hO
 refine V2 rfl rfl rfl (K2 (K3 (K4 (K0 (K1 (V1 rfl rfl rfl ?_))))))
 refine Z1 (fun h2_1 => ?_) (fun h2_1 => ?_)
 ·refine V2 rfl rfl rfl (K2 (K3 (L8 (K0 (K1 (V1 rfl rfl rfl (V2 rfl rfl rfl (K2 (K3 (K6 (L0 (K9 ?_))))))))))))
  have er : putL A l i id = (freshE A l id, l) := by rw [putL, if_pos h2_1]
  rw [er]
  exact fin1 rfl rfl ⟨_, ⟨rfl, rfl⟩, ((stkL_shut (hO.ks [.b s, .p p])).ks [.o a, .o s]).two⟩
 ·refine V2 rfl rfl rfl (K2 (K3 (L9 (K0 (K1 (V1 rfl rfl rfl ?_))))))
  refine Z0 (fun h4_1 => ?_) (fun h4_1 => ?_)
  ·refine V1 rfl rfl rfl ?_
   repeat refine M2 ?_
   refine l_y rfl rfl (y_pick_t rfl rfl) (V2 rfl rfl rfl (K2 (K3 (L8 (K0 (K1 (V2 rfl rfl rfl (K2 (K3 (K6 (L0 (K9 ?_))))))))))))
   have er : putL A l i id = (1, l) := by rw [putL, if_neg (by simpa using h2_1), if_pos (by omega)]
   rw [er]
   exact fin1 rfl rfl ⟨_, ⟨rfl, rfl⟩, ((stkL_shut (hO.ks [.b s, .p p])).ks [.o a, .o s]).two⟩
  ·refine V1 rfl rfl rfl (V1 rfl rfl rfl (V1 rfl rfl rfl (V3 rfl rfl rfl rfl (l_y rfl rfl (y_fldb (o' := 1) rfl) (l_y rfl rfl (y_fldb (o' := 1) rfl) (l_y rfl rfl (D5 hO rfl) ?_))))))
   refine l_y rfl rfl (y_lenL rfl) ?_
   refine Z0 (fun h4_10 => ?_) (fun h4_10 => ?_)
   ·refine l_y rfl rfl (y_pick_f rfl rfl) (V2 rfl rfl rfl (K2 (K3 (L8 (K0 (K1 (V2 rfl rfl rfl (K2 (K3 (K6 (L0 (K9 ?_))))))))))))
    have er : putL A l i id = (1, l) := by rw [putL, if_neg (by simpa using h2_1), if_pos (by omega)]
    rw [er]
    exact fin1 rfl rfl ⟨_, ⟨rfl, rfl⟩, ((stkL_shut (hO.ks [.b s, .p p])).ks [.o a, .o s]).two⟩
   ·refine l_y rfl rfl (y_pick_f rfl rfl) (V2 rfl rfl rfl (K2 (K3 (L9 (K5 (K8 (K3 (K0 ?_))))))))
    obtain ⟨j, rfl⟩ : ∃ j : Nat, i = j := ⟨i.toNat, by omega⟩
    have er : putL A l j id = (0, l.take j ++ [id] ++ l.drop j) := by rw [putL, if_neg (by simpa using h2_1), if_neg (by omega)]; rfl
    rw [er]
    refine K1 (V1 rfl rfl rfl (V3 rfl rfl rfl rfl (l_y rfl rfl (y_fldb (o' := 1) rfl) (V1 rfl rfl rfl (V1 rfl rfl rfl (s_lit (parts := [(0, .tmp 32)]) (enc := (eI .i64)) [id] [.int .i64 id] hO rfl (fun b33 w hO => ?_)))))))
    refine CK [.b s, .p p] hO rfl (fun k' hx hr hO' => splice1_spec (i := j) (n := 0) (x := id) (sls_roK (p := some ⟨b33, 0, none⟩) hr (sls_fct (p := some ⟨b33, 0, none⟩) hO)) rfl (by omega) (by omega) hg hlc hl (hO := hO')) ?_
    rintro _ _ w ⟨rfl, rfl⟩ hO
    simp only [List.cons_append, List.nil_append] at hO
    refine K2 (K3 (K0 (K1 (V2 rfl rfl rfl (K2 (K3 (K6 ?_)))))))
    exact fin1 rfl rfl ⟨_, ⟨rfl, rfl⟩, hO.only [.o a, .o s]⟩
def swapL (A : List Node_one) (l : List Int) (old id : Int) : Int × List Int := if elB A id = false ∨ findI l old < 0 then (6, l) else if freshE A l id = 0 then (0, l.take (findI l old).toNat ++ [id] ++ l.drop ((findI l old).toNat + 1)) else (1, l)
theorem freshE_cases (A : List Node_one) (l : List Int) (id : Int) : (freshE A l id = 6 ∧ elB A id = false) ∨ (freshE A l id = 1 ∧ elB A id = true ∧ 0 ≤ findI l id) ∨ (freshE A l id = 0 ∧ elB A id = true ∧ findI l id < 0) := by
  unfold freshE
  cases h : elB A id with
  | false => exact .inl ⟨rfl, rfl⟩
  | true =>
    right
    by_cases h2 : 0 ≤ findI l id
    · exact .inl ⟨by rw [if_neg (by simp), if_pos h2], rfl, h2⟩
    · exact .inr ⟨by rw [if_neg (by simp), if_neg h2], rfl, by omega⟩
theorem sSwap_spec {k : Ctx} {w : World} {s a : Nat} {l : List Int} {A : List Node_one} {old id : Int} (hn : 0 < A.length) (ha : AttrsOk A) (hl : l.length ≤ 1000000) (hO : Own k w [arenaL a A, stkL s a l]) :
  Tri Tryz.prog 124 #[.pointer (some ⟨s, 0, none⟩), .int .i64 old, .int .i64 id] k w fun v m => v = .int .i64 (swapL A l old id).1 ∧ m = [arenaL a A, stkL s a (swapL A l old id).2] := by
 refine enter (args := [.pointer (some ⟨s, 0, none⟩), .int .i64 old, .int .i64 id]) Tryz.func124 rfl rfl ?_
 obtain ⟨p, c, hg, hlc, hO⟩ := stkL_open (hO.ks [.o s])
 have hfl := findI_lt (l := l) (x := old)
 have hf := freshE_cases A l id
 refine K0 (K1 (V2 rfl rfl rfl (K2 (K3 (K0 (K1 (V1 rfl rfl rfl (V1 rfl rfl rfl (CK [.o a, .b s, .p p] hO rfl (fun k' hx hr hO' => fresh_spec hn ha hg hl (hO := hO')) ?_)))))))))
 rintro _ _ w ⟨rfl, rfl⟩ hO
 simp only [List.cons_append, List.nil_append] at hO
 refine V2 rfl rfl rfl (K2 (K3 (K0 (K1 (V1 rfl rfl rfl (V1 rfl rfl rfl (CK [.b s, .p p] hO rfl (fun k' hx hr hO' => sFind_spec hg hl (hO := hO')) ?_)))))))
 rintro _ _ w ⟨rfl, rfl⟩ hO
 simp only [List.cons_append, List.nil_append] at hO
 refine V2 rfl rfl rfl (K2 (K3 (K0 (K4 (K0 (K1 (V1 rfl rfl rfl (N3 (V1 rfl rfl rfl (V1 rfl rfl rfl ?_))))))))))
 refine Z0 (fun h3_4 => ?_) (fun h3_4 => ?_)
 ·refine l_y rfl rfl (y_pick_f rfl rfl) (V2 rfl rfl rfl (K2 (K3 (L8 (K0 (K1 (V1 rfl rfl rfl (V2 rfl rfl rfl (K2 (K3 (K6 (L0 (K9 ?_)))))))))))))
  have hel : elB A id = false := by rcases hf with ⟨_, h⟩ | ⟨h, _, _⟩ | ⟨h, _, _⟩ <;> first | exact h | omega
  have er : swapL A l old id = (6, l) := by rw [swapL, if_pos (.inl hel)]
  rw [er]
  exact fin1 rfl rfl ⟨_, ⟨by simp [*], rfl⟩, ((stkL_shut (hO.ks [.b s, .p p])).ks [.o a, .o s]).two⟩
 ·refine l_y rfl rfl (y_pick_f rfl rfl) (V2 rfl rfl rfl (K2 (K3 (L9 (K0 (K1 (V1 rfl rfl rfl ?_)))))))
  refine Z0 (fun h5_1 => ?_) (fun h5_1 => ?_)
  ·refine V2 rfl rfl rfl (K2 (K3 (L8 (K0 (K1 (V2 rfl rfl rfl (K2 (K3 (K6 (L0 (K9 ?_)))))))))))
   have er : swapL A l old id = (6, l) := by rw [swapL, if_pos (.inr h5_1)]
   rw [er]
   exact fin1 rfl rfl ⟨_, ⟨rfl, rfl⟩, ((stkL_shut (hO.ks [.b s, .p p])).ks [.o a, .o s]).two⟩
  ·refine V2 rfl rfl rfl (K2 (K3 (L9 (K0 (K1 (V1 rfl rfl rfl ?_))))))
   refine Z0 (fun h7_1 => ?_) (fun h7_1 => ?_)
   ·refine V2 rfl rfl rfl (K2 (K3 (L8 ?_)))
    obtain ⟨i, hi⟩ : ∃ i : Nat, findI l old = i := ⟨(findI l old).toNat, by omega⟩
    have hel : elB A id = true := by rcases hf with ⟨h, _⟩ | ⟨h, _, _⟩ | ⟨_, h, _⟩ <;> first | exact h | omega
    have er : swapL A l old id = (0, l.take i ++ [id] ++ l.drop (i + 1)) := by rw [swapL, if_neg (by simp [hel]; omega), if_pos h7_1, hi]; rfl
    rw [er]
    rw [hi] at hfl
    refine K1 (V1 rfl rfl rfl (V3 rfl rfl rfl rfl (l_y rfl rfl (y_fldb (o' := 1) rfl) (V1 rfl rfl rfl (V1 rfl rfl rfl (s_lit (parts := [(0, .tmp 33)]) (enc := (eI .i64)) [id] [.int .i64 id] hO rfl (fun b34 w hO => ?_)))))))
    refine CK [.b s, .p p] hO (by rw [hi]; rfl) (fun k' hx hr hO' => splice1_spec (i := i) (n := 1) (x := id) (sls_roK (p := some ⟨b34, 0, none⟩) hr (sls_fct (p := some ⟨b34, 0, none⟩) hO)) rfl (by omega) (by omega) hg hlc hl (hO := hO')) ?_
    rintro _ _ w ⟨rfl, rfl⟩ hO
    simp only [List.cons_append, List.nil_append] at hO
    refine K2 (K8 (K3 (K0 (K1 (V1 rfl rfl rfl (V2 rfl rfl rfl (K2 (K3 (K6 ?_)))))))))
    exact fin1 rfl rfl ⟨_, ⟨by rw [h7_1], rfl⟩, hO.only [.o a, .o s]⟩
   ·refine V2 rfl rfl rfl (K2 (K3 (L9 (K5 (K8 (K3 (K0 (K1 (V1 rfl rfl rfl (V2 rfl rfl rfl (K2 (K3 (K6 ?_)))))))))))))
    have hel : elB A id = true ∧ freshE A l id = 1 := by rcases hf with ⟨h, _⟩ | ⟨h, h2, _⟩ | ⟨h, _, _⟩ <;> first | exact ⟨h2, h⟩ | omega
    have er : swapL A l old id = (1, l) := by rw [swapL, if_neg (by simp [hel.1]; omega), if_neg h7_1]
    rw [er]
    exact fin1 rfl rfl ⟨_, ⟨by rw [hel.2], rfl⟩, ((stkL_shut (hO.ks [.b s, .p p])).ks [.o a, .o s]).two⟩
theorem sNew_spec {k : Ctx} {w : World} {a : Nat} {A : List Node_one} (hn : 0 < A.length) (hO : Own k w [arenaL a A]) :
  Tri Tryz.prog 23 #[.pointer (some ⟨a, 0, none⟩)] k w fun v m => ∃ s, v = .tuple #[.pointer (some ⟨s, 0, none⟩), .int .i64 0] ∧ m = [arenaL a A, stkL s a []] := by
 refine enter (args := [.pointer (some ⟨a, 0, none⟩)]) Tryz.func23 rfl rfl (K0 (K1 (V2 rfl rfl rfl (V2 rfl rfl rfl (K2 (K3 (K0 (K0 (K1 (V1 rfl rfl rfl (CK [.o a] hO rfl (fun k' hx hr hO' => LenC_spec hn (hO := hO')) ?_)))))))))))
 rintro _ _ w ⟨rfl, rfl⟩ hO
 simp only [List.cons_append, List.nil_append] at hO
 refine N3 (K2 (K3 (L9 (K5 (K3 (K0 (K1 (V1 rfl rfl rfl (s_build (parts := [(0, .tmp 7)]) (cs := [.pointer (some ⟨a, 0, none⟩), .slice none 0 0]) rfl rfl (fun a ha => partsOf_sound ha _ _ rfl) (by kernel_rfl) (s_box (vs := [.pointer (some ⟨a, 0, none⟩), .slice none 0 0]) hO rfl rfl rfl (by rfl) fun b9 w hO => ?_))))))))))
 refine V2 rfl rfl rfl (V2 rfl rfl rfl (K2 (K3 (K6 ?_))))
 have hO : Own k w (sls none 0 3 1 (eI .i64) ([] : List Int) :: _) := sl_nil 3 1 hO
 exact fin2 rfl rfl rfl ⟨_, ⟨_, rfl, rfl⟩, ((stkL_shut (l := []) (hO.ks [.b b9, .p none]) rfl).ks [.o a, .o b9]).two⟩
end Go.Proofs.YtoohapbaelmkcaaGreat
end
section
set_option maxRecDepth 100000
namespace Go.Proofs.YtoohapbaelmkcaaGreat
open Go Go.Hb Go.RowKit
def inB (s : ByteArray) (ts : List ByteArray) : Bool := ts.any fun t => decide (s = t)
def namB (sp : Int) (nm : ByteArray) (ts : List ByteArray) : Bool := decide (sp = 0) && inB nm ts
theorem sin_spec {k : Ctx} {w : World} {x : ByteArray} {ts : List ByteArray} {tp : Option Addr} {n tc : Nat} (hs : Sli (Ro k) (.slice tp n tc) (ts.map eS)) (hl : ts.length ≤ 1000000) (hO : Own k w []) :
  Tri Tryz.prog 122 #[.string x, .slice tp n tc] k w fun v m => v = .bool (inB x ts) ∧ m = [] := by
 obtain rfl : n = ts.length := by have := hs.fits.1; simpa using this
 refine enter (args := [.string x, .slice tp ts.length tc]) Tryz.func122 rfl rfl ?_
 have hgs := sli_gs hs
 refine K0 (K1 (V2 rfl rfl rfl (K2 (K3 (K0 (K0 (K1 (V1 rfl rfl rfl (l_y rfl rfl (y_lenL rfl) (V1 rfl rfl rfl (K2 (K3 (K4 (c_rounds (X := Nat) (fun i => [(0, .string x), (4, .bool false), (7, .slice tp ts.length tc), (8, .int .i64 ((ts.length : Nat) : Int)), (9, .int .i64 (i : Int))]) (fun i w => Own k w [] ∧ (i ≤ ts.length ∧ inB x (ts.take i) = false)) (fun i => ts.length - i) (0) ⟨rfl, rfl, rfl, rfl, rfl, trivial⟩ ⟨hO.only [], ⟨Nat.zero_le _, rfl⟩⟩ ?_))))))))))))))
 rintro i w m hm ⟨hO, hi⟩
 refine K0 (K1 ?_)
 refine Z0 (fun h2_0 => ?_) (fun h2_0 => ?_)
 ·refine K2 (K3 (K0 (L8 (K5 (K3 (K0 (K4 (K0 (K1 (l_y rfl rfl (y_idx rfl rfl) ?_))))))))))
  refine l_y rfl rfl (y_r1 (x0 := 0) (enc := eS) (xs := ts) hO rfl) ?_
  refine V2 rfl rfl rfl (K2 (K3 (K0 (K1 (V1 rfl rfl rfl (V1 rfl rfl rfl ?_))))))
  refine Z2 (fun h4_2 => ?_) (fun h4_2 => ?_)
  ·refine K2 (K3 (L8 (K0 (K1 (V2 rfl rfl rfl (K2 (K3 (K6 (L0 (K9 (K9 (L0 (K9 ?_)))))))))))))
   have hlt : inB x ts = true := List.any_eq_true.2 ⟨at_ ts i, at_mem (by omega), decide_eq_true h4_2⟩
   exact fin1 rfl rfl ⟨_, ⟨by rw [hlt], rfl⟩, hO⟩
  ·refine K2 (K3 (L9 (K5 (K8 (K3 (K1 (l_y rfl rfl (D4) ?_)))))))
   refine V1 rfl rfl rfl (K2 ?_)
   exact q_next (i + 1) ⟨rfl, rfl, rfl, rfl, rfl, trivial⟩ ⟨hO.only [], ⟨by omega, by rw [take_succ_at (by omega), inB, List.any_append]; simp only [List.any_cons, List.any_nil, Bool.or_false, Bool.or_eq_false_iff]; exact ⟨hi.2, decide_eq_false h4_2⟩⟩⟩ (by omega)
 ·refine K2 (K3 (K0 (L9 (K7 (L1 (L1 (L2 (K3 (K0 (K1 (V2 rfl rfl rfl (K2 (K3 (K6 ?_))))))))))))))
  have hlf : inB x ts = false := by rw [show ts = ts.take i by rw [List.take_of_length_le (by omega)]]; exact hi.2
  exact fin1 rfl rfl ⟨_, ⟨by rw [hlf], rfl⟩, hO⟩
theorem named_spec {k : Ctx} {w : World} {n : Api_node} {ts : List ByteArray} {tp : Option Addr} {tn tc : Nat} (hs : Sli (Ro k) (.slice tp tn tc) (ts.map eS)) (hl : ts.length ≤ 1000000) (hO : Own k w []) :
  Tri Tryz.prog 139 #[.agg (Api_node.cells n).toArray, .slice tp tn tc] k w fun v m => v = .bool (namB n.Space n.Name ts) ∧ m = [] := by
 refine enter (args := [.agg (Api_node.cells n).toArray, .slice tp tn tc]) Tryz.func139 rfl rfl (K0 (K1 (s_box (vs := [.int .i64 n.Kind, .int .i64 n.Space, .string n.Name, .slice n.AttrsP n.Attrs.length n.AttrsC, .string n.Data, .string n.System, .int .i64 n.Parent, .int .i64 n.First, .int .i64 n.Last, .int .i64 n.Prev, .int .i64 n.Next, .int .i64 n.Inner]) hO rfl rfl rfl (by rfl) fun b2 w hO => ?_)))
 refine V2 rfl rfl rfl (K2 (K3 (K0 (K1 (l_y rfl rfl (y_fldb (o' := 1) rfl) (l_y rfl rfl (D5 hO rfl) ?_))))))
 refine Z0 (fun h1_2 => ?_) (fun h1_2 => ?_)
 ·refine V1 rfl rfl rfl (l_y rfl rfl (y_fldb (o' := 2) rfl) (l_y rfl rfl (D5 hO rfl) ?_))
  refine V1 rfl rfl rfl (CK [] hO rfl (fun k' hx hr hO' => sin_spec (hs.ext hO hx) hl (hO := hO')) ?_)
  rintro _ _ w ⟨rfl, rfl⟩ hO
  refine l_y rfl rfl (y_pick_t rfl rfl) (V2 rfl rfl rfl (K2 (K3 (K6 (fin1 rfl rfl ⟨_, ⟨?_, rfl⟩, hO.none⟩)))))
  simp [namB, *]
 ·refine V1 rfl rfl rfl ?_
  repeat refine M2 ?_
  refine l_y rfl rfl (y_pick_f rfl rfl) (V2 rfl rfl rfl (K2 (K3 (K6 (fin1 rfl rfl ⟨_, ⟨?_, rfl⟩, hO.none⟩)))))
  simp [namB, *]
def mathL : List ByteArray := [⟨#[109, 105]⟩, ⟨#[109, 111]⟩, ⟨#[109, 110]⟩, ⟨#[109, 115]⟩, ⟨#[109, 116, 101, 120, 116]⟩, ⟨#[97, 110, 110, 111, 116, 97, 116, 105, 111, 110, 45, 120, 109, 108]⟩]
def drawL : List ByteArray := [⟨#[102, 111, 114, 101, 105, 103, 110, 79, 98, 106, 101, 99, 116]⟩, ⟨#[100, 101, 115, 99]⟩, ⟨#[116, 105, 116, 108, 101]⟩]
def bordL : List ByteArray := [⟨#[97, 112, 112, 108, 101, 116]⟩, ⟨#[99, 97, 112, 116, 105, 111, 110]⟩, ⟨#[104, 116, 109, 108]⟩, ⟨#[116, 97, 98, 108, 101]⟩, ⟨#[116, 100]⟩, ⟨#[116, 104]⟩, ⟨#[109, 97, 114, 113, 117, 101, 101]⟩, ⟨#[111, 98, 106, 101, 99, 116]⟩, ⟨#[116, 101, 109, 112, 108, 97, 116, 101]⟩]
def specL : List ByteArray := [⟨#[97, 100, 100, 114, 101, 115, 115]⟩, ⟨#[97, 112, 112, 108, 101, 116]⟩, ⟨#[97, 114, 101, 97]⟩, ⟨#[97, 114, 116, 105, 99, 108, 101]⟩, ⟨#[97, 115, 105, 100, 101]⟩, ⟨#[98, 97, 115, 101]⟩, ⟨#[98, 97, 115, 101, 102, 111, 110, 116]⟩, ⟨#[98, 103, 115, 111, 117, 110, 100]⟩, ⟨#[98, 108, 111, 99, 107, 113, 117, 111, 116, 101]⟩, ⟨#[98, 111, 100, 121]⟩, ⟨#[98, 114]⟩, ⟨#[98, 117, 116, 116, 111, 110]⟩, ⟨#[99, 97, 112, 116, 105, 111, 110]⟩, ⟨#[99, 101, 110, 116, 101, 114]⟩, ⟨#[99, 111, 108]⟩, ⟨#[99, 111, 108, 103, 114, 111, 117, 112]⟩, ⟨#[100, 100]⟩, ⟨#[100, 101, 116, 97, 105, 108, 115]⟩, ⟨#[100, 105, 114]⟩, ⟨#[100, 105, 118]⟩, ⟨#[100, 108]⟩, ⟨#[100, 116]⟩, ⟨#[101, 109, 98, 101, 100]⟩, ⟨#[102, 105, 101, 108, 100, 115, 101, 116]⟩, ⟨#[102, 105, 103, 99, 97, 112, 116, 105, 111, 110]⟩, ⟨#[102, 105, 103, 117, 114, 101]⟩, ⟨#[102, 111, 111, 116, 101, 114]⟩, ⟨#[102, 111, 114, 109]⟩, ⟨#[102, 114, 97, 109, 101]⟩, ⟨#[102, 114, 97, 109, 101, 115, 101, 116]⟩, ⟨#[104, 49]⟩, ⟨#[104, 50]⟩, ⟨#[104, 51]⟩, ⟨#[104, 52]⟩, ⟨#[104, 53]⟩, ⟨#[104, 54]⟩, ⟨#[104, 101, 97, 100]⟩, ⟨#[104, 101, 97, 100, 101, 114]⟩, ⟨#[104, 103, 114, 111, 117, 112]⟩, ⟨#[104, 114]⟩, ⟨#[104, 116, 109, 108]⟩, ⟨#[105, 102, 114, 97, 109, 101]⟩, ⟨#[105, 109, 103]⟩, ⟨#[105, 110, 112, 117, 116]⟩, ⟨#[107, 101, 121, 103, 101, 110]⟩, ⟨#[108, 105]⟩, ⟨#[108, 105, 110, 107]⟩, ⟨#[108, 105, 115, 116, 105, 110, 103]⟩, ⟨#[109, 97, 105, 110]⟩, ⟨#[109, 97, 114, 113, 117, 101, 101]⟩, ⟨#[109, 101, 110, 117]⟩, ⟨#[109, 101, 116, 97]⟩, ⟨#[110, 97, 118]⟩, ⟨#[110, 111, 101, 109, 98, 101, 100]⟩, ⟨#[110, 111, 102, 114, 97, 109, 101, 115]⟩, ⟨#[110, 111, 115, 99, 114, 105, 112, 116]⟩, ⟨#[111, 98, 106, 101, 99, 116]⟩, ⟨#[111, 108]⟩, ⟨#[112]⟩, ⟨#[112, 97, 114, 97, 109]⟩, ⟨#[112, 108, 97, 105, 110, 116, 101, 120, 116]⟩, ⟨#[112, 114, 101]⟩, ⟨#[115, 99, 114, 105, 112, 116]⟩, ⟨#[115, 101, 97, 114, 99, 104]⟩, ⟨#[115, 101, 99, 116, 105, 111, 110]⟩, ⟨#[115, 101, 108, 101, 99, 116]⟩, ⟨#[115, 111, 117, 114, 99, 101]⟩, ⟨#[115, 116, 121, 108, 101]⟩, ⟨#[115, 117, 109, 109, 97, 114, 121]⟩, ⟨#[116, 97, 98, 108, 101]⟩, ⟨#[116, 98, 111, 100, 121]⟩, ⟨#[116, 100]⟩, ⟨#[116, 101, 109, 112, 108, 97, 116, 101]⟩, ⟨#[116, 101, 120, 116, 97, 114, 101, 97]⟩, ⟨#[116, 102, 111, 111, 116]⟩, ⟨#[116, 104]⟩, ⟨#[116, 104, 101, 97, 100]⟩, ⟨#[116, 105, 116, 108, 101]⟩, ⟨#[116, 114]⟩, ⟨#[116, 114, 97, 99, 107]⟩, ⟨#[117, 108]⟩, ⟨#[119, 98, 114]⟩, ⟨#[120, 109, 112]⟩]
def tblL : List ByteArray := [⟨#[104, 116, 109, 108]⟩, ⟨#[116, 97, 98, 108, 101]⟩, ⟨#[116, 101, 109, 112, 108, 97, 116, 101]⟩]
def optL : List ByteArray := [⟨#[111, 112, 116, 103, 114, 111, 117, 112]⟩, ⟨#[111, 112, 116, 105, 111, 110]⟩]
def listL : List ByteArray := [⟨#[111, 108]⟩, ⟨#[117, 108]⟩]
def btnL : List ByteArray := [⟨#[98, 117, 116, 116, 111, 110]⟩]
theorem maths_spec {k : Ctx} {w : World} (hO : Own k w []) : Tri Tryz.prog 120 #[] k w fun v m => v = .agg (mathL.map Value.string).toArray ∧ m = [] := by
 refine enter (args := []) Tryz.func120 rfl rfl (K0 (K1 (s_alloc (vs := [.string ⟨#[]⟩, .string ⟨#[]⟩, .string ⟨#[]⟩, .string ⟨#[]⟩, .string ⟨#[]⟩, .string ⟨#[]⟩]) hO rfl rfl rfl fun b0 w hO => ?_)))
 refine K2 (K3 (K0 (K1 (s_build (parts := [(0, .const (.string ⟨#[109, 105]⟩)), (1, .const (.string ⟨#[109, 111]⟩)), (2, .const (.string ⟨#[109, 110]⟩)), (3, .const (.string ⟨#[109, 115]⟩)), (4, .const (.string ⟨#[109, 116, 101, 120, 116]⟩)), (5, .const (.string ⟨#[97, 110, 110, 111, 116, 97, 116, 105, 111, 110, 45, 120, 109, 108]⟩))]) (cs := [.string ⟨#[109, 105]⟩, .string ⟨#[109, 111]⟩, .string ⟨#[109, 110]⟩, .string ⟨#[109, 115]⟩, .string ⟨#[109, 116, 101, 120, 116]⟩, .string ⟨#[97, 110, 110, 111, 116, 97, 116, 105, 111, 110, 45, 120, 109, 108]⟩]) rfl rfl (fun a ha => partsOf_sound ha _ _ rfl) (by kernel_rfl) (Y3 hO rfl rfl (fun w hO => ?_))))))
 refine K2 (K3 (K6 ?_))
 exact finC hO rfl rfl ⟨_, ⟨rfl, rfl⟩, hO.none⟩
theorem drawings_spec {k : Ctx} {w : World} (hO : Own k w []) : Tri Tryz.prog 121 #[] k w fun v m => v = .agg (drawL.map Value.string).toArray ∧ m = [] := by
 refine enter (args := []) Tryz.func121 rfl rfl (K0 (K1 (s_alloc (vs := [.string ⟨#[]⟩, .string ⟨#[]⟩, .string ⟨#[]⟩]) hO rfl rfl rfl fun b0 w hO => ?_)))
 refine K2 (K3 (K0 (K1 (s_build (parts := [(0, .const (.string ⟨#[102, 111, 114, 101, 105, 103, 110, 79, 98, 106, 101, 99, 116]⟩)), (1, .const (.string ⟨#[100, 101, 115, 99]⟩)), (2, .const (.string ⟨#[116, 105, 116, 108, 101]⟩))]) (cs := [.string ⟨#[102, 111, 114, 101, 105, 103, 110, 79, 98, 106, 101, 99, 116]⟩, .string ⟨#[100, 101, 115, 99]⟩, .string ⟨#[116, 105, 116, 108, 101]⟩]) rfl rfl (fun a ha => partsOf_sound ha _ _ rfl) (by kernel_rfl) (Y3 hO rfl rfl (fun w hO => ?_))))))
 refine K2 (K3 (K6 ?_))
 exact finC hO rfl rfl ⟨_, ⟨rfl, rfl⟩, hO.none⟩
theorem borders_spec {k : Ctx} {w : World} (hO : Own k w []) : Tri Tryz.prog 138 #[] k w fun v m => v = .agg (bordL.map Value.string).toArray ∧ m = [] := by
 refine enter (args := []) Tryz.func138 rfl rfl (K0 (K1 (s_alloc (vs := [.string ⟨#[]⟩, .string ⟨#[]⟩, .string ⟨#[]⟩, .string ⟨#[]⟩, .string ⟨#[]⟩, .string ⟨#[]⟩, .string ⟨#[]⟩, .string ⟨#[]⟩, .string ⟨#[]⟩]) hO rfl rfl rfl fun b0 w hO => ?_)))
 refine K2 (K3 (K0 (K1 (s_build (parts := [(0, .const (.string ⟨#[97, 112, 112, 108, 101, 116]⟩)), (1, .const (.string ⟨#[99, 97, 112, 116, 105, 111, 110]⟩)), (2, .const (.string ⟨#[104, 116, 109, 108]⟩)), (3, .const (.string ⟨#[116, 97, 98, 108, 101]⟩)), (4, .const (.string ⟨#[116, 100]⟩)), (5, .const (.string ⟨#[116, 104]⟩)), (6, .const (.string ⟨#[109, 97, 114, 113, 117, 101, 101]⟩)), (7, .const (.string ⟨#[111, 98, 106, 101, 99, 116]⟩)), (8, .const (.string ⟨#[116, 101, 109, 112, 108, 97, 116, 101]⟩))]) (cs := [.string ⟨#[97, 112, 112, 108, 101, 116]⟩, .string ⟨#[99, 97, 112, 116, 105, 111, 110]⟩, .string ⟨#[104, 116, 109, 108]⟩, .string ⟨#[116, 97, 98, 108, 101]⟩, .string ⟨#[116, 100]⟩, .string ⟨#[116, 104]⟩, .string ⟨#[109, 97, 114, 113, 117, 101, 101]⟩, .string ⟨#[111, 98, 106, 101, 99, 116]⟩, .string ⟨#[116, 101, 109, 112, 108, 97, 116, 101]⟩]) rfl rfl (fun a ha => partsOf_sound ha _ _ rfl) (by kernel_rfl) (Y3 hO rfl rfl (fun w hO => ?_))))))
 refine K2 (K3 (K6 ?_))
 exact finC hO rfl rfl ⟨_, ⟨rfl, rfl⟩, hO.none⟩
theorem specials_spec {k : Ctx} {w : World} (hO : Own k w []) : Tri Tryz.prog 119 #[] k w fun v m => v = .agg (specL.map Value.string).toArray ∧ m = [] := by
 refine enter (args := []) Tryz.func119 rfl rfl (K0 (K1 (s_alloc (vs := [.string ⟨#[]⟩, .string ⟨#[]⟩, .string ⟨#[]⟩, .string ⟨#[]⟩, .string ⟨#[]⟩, .string ⟨#[]⟩, .string ⟨#[]⟩, .string ⟨#[]⟩, .string ⟨#[]⟩, .string ⟨#[]⟩, .string ⟨#[]⟩, .string ⟨#[]⟩, .string ⟨#[]⟩, .string ⟨#[]⟩, .string ⟨#[]⟩, .string ⟨#[]⟩, .string ⟨#[]⟩, .string ⟨#[]⟩, .string ⟨#[]⟩, .string ⟨#[]⟩, .string ⟨#[]⟩, .string ⟨#[]⟩, .string ⟨#[]⟩, .string ⟨#[]⟩, .string ⟨#[]⟩, .string ⟨#[]⟩, .string ⟨#[]⟩, .string ⟨#[]⟩, .string ⟨#[]⟩, .string ⟨#[]⟩, .string ⟨#[]⟩, .string ⟨#[]⟩, .string ⟨#[]⟩, .string ⟨#[]⟩, .string ⟨#[]⟩, .string ⟨#[]⟩, .string ⟨#[]⟩, .string ⟨#[]⟩, .string ⟨#[]⟩, .string ⟨#[]⟩, .string ⟨#[]⟩, .string ⟨#[]⟩, .string ⟨#[]⟩, .string ⟨#[]⟩, .string ⟨#[]⟩, .string ⟨#[]⟩, .string ⟨#[]⟩, .string ⟨#[]⟩, .string ⟨#[]⟩, .string ⟨#[]⟩, .string ⟨#[]⟩, .string ⟨#[]⟩, .string ⟨#[]⟩, .string ⟨#[]⟩, .string ⟨#[]⟩, .string ⟨#[]⟩, .string ⟨#[]⟩, .string ⟨#[]⟩, .string ⟨#[]⟩, .string ⟨#[]⟩, .string ⟨#[]⟩, .string ⟨#[]⟩, .string ⟨#[]⟩, .string ⟨#[]⟩, .string ⟨#[]⟩, .string ⟨#[]⟩, .string ⟨#[]⟩, .string ⟨#[]⟩, .string ⟨#[]⟩, .string ⟨#[]⟩, .string ⟨#[]⟩, .string ⟨#[]⟩, .string ⟨#[]⟩, .string ⟨#[]⟩, .string ⟨#[]⟩, .string ⟨#[]⟩, .string ⟨#[]⟩, .string ⟨#[]⟩, .string ⟨#[]⟩, .string ⟨#[]⟩, .string ⟨#[]⟩, .string ⟨#[]⟩, .string ⟨#[]⟩]) hO rfl rfl rfl fun b0 w hO => ?_)))
 refine K2 (K3 (K0 (K1 (s_buildE (specL.zipIdx.map fun x => (x.2, Operand.const (.string x.1))) (specL.zipIdx.map fun x => (x.2, Value.string x.1)) (specL.map Value.string) ?_ (by kernel_rfl) (by kernel_rfl) (by kernel_rfl)))))
 refine Y3 hO rfl rfl (fun w hO => ?_)
 refine K2 (K3 (K6 ?_))
 exact finC hO rfl rfl ⟨_, ⟨rfl, rfl⟩, hO.none⟩
def borderB (kind sp : Int) (nm : ByteArray) : Bool :=
 if kind = 3 then namB sp nm tblL else if kind = 4 then !namB sp nm optL
 else if kind = 1 ∧ namB sp nm listL = true then true else if kind = 2 ∧ namB sp nm btnL = true then true
 else if sp = 1 then inB nm mathL else if sp = 2 then inB nm drawL else inB nm bordL
set_option maxHeartbeats 1000000 in
theorem border_spec {k : Ctx} {w : World} {n : Api_node} {kind : Int} (hO : Own k w []) :
    Tri Tryz.prog 118 #[.agg (Api_node.cells n).toArray, .int .i64 kind] k w fun v m => v = .bool (borderB kind n.Space n.Name) ∧ m = [] := by
  refine enter (args := [.agg (Api_node.cells n).toArray, .int .i64 kind]) Tryz.func118 rfl rfl (K0 (K1 (s_box (vs := [.int .i64 n.Kind, .int .i64 n.Space, .string n.Name, .slice n.AttrsP n.Attrs.length n.AttrsC, .string n.Data, .string n.System, .int .i64 n.Parent, .int .i64 n.First, .int .i64 n.Last, .int .i64 n.Prev, .int .i64 n.Next, .int .i64 n.Inner]) hO rfl rfl rfl (by rfl) fun b2 w hO => ?_)))
  refine V2 rfl rfl rfl (K2 (K3 (K0 (K1 (CK [] hO rfl (fun k' hx hr hO' => borders_spec (hO := hO')) ?_)))))
  rintro _ _ w ⟨rfl, rfl⟩ hO
  simp only [List.cons_append, List.nil_append] at hO
  refine CK [] hO rfl (fun k' hx hr hO' => maths_spec (hO := hO')) ?_
  rintro _ _ w ⟨rfl, rfl⟩ hO
  simp only [List.cons_append, List.nil_append] at hO
  refine CK [] hO rfl (fun k' hx hr hO' => drawings_spec (hO := hO')) ?_
  rintro _ _ w ⟨rfl, rfl⟩ hO
  simp only [List.cons_append, List.nil_append] at hO
  refine s_alloc (vs := [.string ⟨#[]⟩, .string ⟨#[]⟩, .string ⟨#[]⟩, .string ⟨#[]⟩, .string ⟨#[]⟩, .string ⟨#[]⟩, .string ⟨#[]⟩, .string ⟨#[]⟩, .string ⟨#[]⟩]) hO rfl rfl rfl fun b5 w hO => ?_
  refine s_alloc (vs := [.string ⟨#[]⟩, .string ⟨#[]⟩, .string ⟨#[]⟩, .string ⟨#[]⟩, .string ⟨#[]⟩, .string ⟨#[]⟩]) hO rfl rfl rfl fun b6 w hO => ?_
  refine s_alloc (vs := [.string ⟨#[]⟩, .string ⟨#[]⟩, .string ⟨#[]⟩]) hO rfl rfl rfl fun b7 w hO => ?_
  refine Y3 hO rfl rfl (fun w hO => ?_)
  refine Y3 hO rfl rfl (fun w hO => ?_)
  refine Y3 hO rfl rfl (fun w hO => ?_)
  refine K2 (K3 (K0 (K0 (K1 (V1 rfl rfl rfl (K2 (K3 (K4 (K0 (K1 ?_))))))))))
  refine Z0 (fun h3_0 => ?_) (fun h3_0 => ?_)
  · refine V2 rfl rfl rfl (K2 (K3 (L8 (K0 (K1 (l_y rfl rfl (D8 (cs := [.int .i64 n.Kind, .int .i64 n.Space, .string n.Name, .slice n.AttrsP n.Attrs.length n.AttrsC, .string n.Data, .string n.System, .int .i64 n.Parent, .int .i64 n.First, .int .i64 n.Last, .int .i64 n.Prev, .int .i64 n.Next, .int .i64 n.Inner]) hO rfl) ?_))))))
    refine s_lit (parts := [(0, .const (.string ⟨#[104, 116, 109, 108]⟩)), (1, .const (.string ⟨#[116, 97, 98, 108, 101]⟩)), (2, .const (.string ⟨#[116, 101, 109, 112, 108, 97, 116, 101]⟩))]) (enc := eS) [⟨#[104, 116, 109, 108]⟩, ⟨#[116, 97, 98, 108, 101]⟩, ⟨#[116, 101, 109, 112, 108, 97, 116, 101]⟩] [.string ⟨#[104, 116, 109, 108]⟩, .string ⟨#[116, 97, 98, 108, 101]⟩, .string ⟨#[116, 101, 109, 112, 108, 97, 116, 101]⟩] hO rfl (fun b15 w hO => ?_)
    refine CK [] hO rfl (fun k' hx hr hO' => named_spec (n := n) (ts := tblL) (sls_roK (p := (some ⟨b15, 0, none⟩)) hr (sls_fct hO)) (by decide) (hO := hO')) ?_
    rintro _ _ w ⟨rfl, rfl⟩ hO
    refine V2 rfl rfl rfl (K2 (K3 (K6 (L0 (K9 ?_)))))
    exact fin1 rfl rfl ⟨_, ⟨by first | (simp [borderB, *]; done) | (simp [borderB, namB, *]; done), rfl⟩, hO.none⟩
  · refine V2 rfl rfl rfl (K2 (K3 (L9 (K0 (K1 ?_)))))
    refine Z0 (fun h5_0 => ?_) (fun h5_0 => ?_)
    · refine V2 rfl rfl rfl (K2 (K3 (L8 (K0 (K1 (l_y rfl rfl (D8 (cs := [.int .i64 n.Kind, .int .i64 n.Space, .string n.Name, .slice n.AttrsP n.Attrs.length n.AttrsC, .string n.Data, .string n.System, .int .i64 n.Parent, .int .i64 n.First, .int .i64 n.Last, .int .i64 n.Prev, .int .i64 n.Next, .int .i64 n.Inner]) hO rfl) ?_))))))
      refine s_lit (parts := [(0, .const (.string ⟨#[111, 112, 116, 103, 114, 111, 117, 112]⟩)), (1, .const (.string ⟨#[111, 112, 116, 105, 111, 110]⟩))]) (enc := eS) [⟨#[111, 112, 116, 103, 114, 111, 117, 112]⟩, ⟨#[111, 112, 116, 105, 111, 110]⟩] [.string ⟨#[111, 112, 116, 103, 114, 111, 117, 112]⟩, .string ⟨#[111, 112, 116, 105, 111, 110]⟩] hO rfl (fun b20 w hO => ?_)
      refine CK [] hO rfl (fun k' hx hr hO' => named_spec (n := n) (ts := optL) (sls_roK (p := (some ⟨b20, 0, none⟩)) hr (sls_fct hO)) (by decide) (hO := hO')) ?_
      rintro _ _ w ⟨rfl, rfl⟩ hO
      refine l_y rfl rfl (y_not rfl rfl) (V2 rfl rfl rfl (K2 (K3 (K6 (L0 (K9 ?_))))))
      exact fin1 rfl rfl ⟨_, ⟨by first | (simp [borderB, *]; done) | (simp [borderB, namB, *]; done), rfl⟩, hO.none⟩
    · refine V2 rfl rfl rfl (K2 (K3 (L9 (K0 (K1 ?_)))))
      refine Z0 (fun h7_0 => ?_) (fun h7_0 => ?_)
      · refine V2 rfl rfl rfl (K2 (K3 (L8 (K0 (K1 (l_y rfl rfl (D8 (cs := [.int .i64 n.Kind, .int .i64 n.Space, .string n.Name, .slice n.AttrsP n.Attrs.length n.AttrsC, .string n.Data, .string n.System, .int .i64 n.Parent, .int .i64 n.First, .int .i64 n.Last, .int .i64 n.Prev, .int .i64 n.Next, .int .i64 n.Inner]) hO rfl) ?_))))))
        refine s_lit (parts := [(0, .const (.string ⟨#[111, 108]⟩)), (1, .const (.string ⟨#[117, 108]⟩))]) (enc := eS) [⟨#[111, 108]⟩, ⟨#[117, 108]⟩] [.string ⟨#[111, 108]⟩, .string ⟨#[117, 108]⟩] hO rfl (fun b26 w hO => ?_)
        refine CK [] hO rfl (fun k' hx hr hO' => named_spec (n := n) (ts := listL) (sls_roK (p := (some ⟨b26, 0, none⟩)) hr (sls_fct hO)) (by decide) (hO := hO')) ?_
        rintro _ _ w ⟨rfl, rfl⟩ hO
        simp only [List.nil_append] at hO
        refine K2 (K3 ?_)
        refine c_split rfl (fun hc27 => ?_) (fun hc27 => ?_)
        · refine K0 (K1 (V2 rfl rfl rfl (K2 (K3 (K6 (L0 (K9 ?_)))))))
          exact fin1 rfl rfl ⟨_, ⟨by first | (simp [borderB, *]; done) | (simp [borderB, namB, *]; done), rfl⟩, hO.none⟩
        · refine K5 (K8 (K3 (K0 (K0 (K1 (l_y rfl rfl (y_fldb (o' := 1) rfl) (l_y rfl rfl (D5 hO rfl) ?_)))))))
          refine K2 (K3 (K4 (K0 (K1 ?_))))
          refine Z0 (fun h14_0 => ?_) (fun h14_0 => ?_)
          · refine V2 rfl rfl rfl (K2 (K3 (L8 (K0 (da_region (by intro c a d v w h; cases d <;> exact h) ?_)))))
            have hO := hO.drew
            refine da_phase _ [3] (SO.ks [.b b2] hO) ?_
            refine dx_u 0 (by kernel_rfl) rfl rfl rfl (fun w => y_fldb (o' := 2) rfl) ?_
            refine dx_y 1 (by kernel_rfl) rfl rfl rfl (fun w ⟨m, hw⟩ => D5 hw rfl) ?_
            refine dx_u 2 (by kernel_rfl) rfl rfl rfl (fun w => y_sliceA rfl) ?_
            refine dx_close 3 (by kernel_rfl) rfl rfl ?_
            refine CK [] hO rfl (fun k' hx hr hO' => sin_spec (ts := mathL) (blk_ro (b := _) hr) (by decide) (hO := hO')) ?_
            rintro _ _ w ⟨rfl, rfl⟩ hO
            refine o_done (da_phase _ [] (SO.ks [] hO) ?_)
            refine dx_u 4 (by kernel_rfl) rfl rfl rfl (fun w => y_assign rfl) ?_
            refine dx_end (by kernel_rfl) ?_
            refine K3 (K6 (L0 (K9 ?_)))
            exact fin1 rfl rfl ⟨_, ⟨by first | (simp [borderB, *]; done) | (simp [borderB, namB, *]; done), rfl⟩, hO.none⟩
          · refine V2 rfl rfl rfl (K2 (K3 (L9 (K0 (K1 ?_)))))
            refine Z0 (fun h16_0 => ?_) (fun h16_0 => ?_)
            · refine V2 rfl rfl rfl (K2 (K3 (L8 (K0 (da_region (by intro c a d v w h; cases d <;> exact h) ?_)))))
              have hO := hO.drew
              refine da_phase _ [3] (SO.ks [.b b2] hO) ?_
              refine dx_u 0 (by kernel_rfl) rfl rfl rfl (fun w => y_fldb (o' := 2) rfl) ?_
              refine dx_y 1 (by kernel_rfl) rfl rfl rfl (fun w ⟨m, hw⟩ => D5 hw rfl) ?_
              refine dx_u 2 (by kernel_rfl) rfl rfl rfl (fun w => y_sliceA rfl) ?_
              refine dx_close 3 (by kernel_rfl) rfl rfl ?_
              refine CK [] hO rfl (fun k' hx hr hO' => sin_spec (ts := drawL) (blk_ro (b := _) hr) (by decide) (hO := hO')) ?_
              rintro _ _ w ⟨rfl, rfl⟩ hO
              refine o_done (da_phase _ [] (SO.ks [] hO) ?_)
              refine dx_u 4 (by kernel_rfl) rfl rfl rfl (fun w => y_assign rfl) ?_
              refine dx_end (by kernel_rfl) ?_
              refine K3 (K6 (L0 (K9 ?_)))
              exact fin1 rfl rfl ⟨_, ⟨by first | (simp [borderB, *]; done) | (simp [borderB, namB, *]; done), rfl⟩, hO.none⟩
            · refine V2 rfl rfl rfl (K2 (K3 (L9 (K5 (K8 (K3 (K0 (da_region (by intro c a d v w h; cases d <;> exact h) ?_))))))))
              have hO := hO.drew
              refine da_phase _ [3] (SO.ks [.b b2] hO) ?_
              refine dx_u 0 (by kernel_rfl) rfl rfl rfl (fun w => y_fldb (o' := 2) rfl) ?_
              refine dx_y 1 (by kernel_rfl) rfl rfl rfl (fun w ⟨m, hw⟩ => D5 hw rfl) ?_
              refine dx_u 2 (by kernel_rfl) rfl rfl rfl (fun w => y_sliceA rfl) ?_
              refine dx_close 3 (by kernel_rfl) rfl rfl ?_
              refine CK [] hO rfl (fun k' hx hr hO' => sin_spec (ts := bordL) (blk_ro (b := _) hr) (by decide) (hO := hO')) ?_
              rintro _ _ w ⟨rfl, rfl⟩ hO
              refine o_done (da_phase _ [] (SO.ks [] hO) ?_)
              refine dx_u 4 (by kernel_rfl) rfl rfl rfl (fun w => y_assign rfl) ?_
              refine dx_end (by kernel_rfl) ?_
              refine K3 (K6 ?_)
              exact fin1 rfl rfl ⟨_, ⟨by first | (simp [borderB, *]; done) | (simp [borderB, namB, *]; done), rfl⟩, hO.none⟩
      · refine V2 rfl rfl rfl (K2 (K3 (L9 (K0 (K1 ?_)))))
        refine Z0 (fun h10_0 => ?_) (fun h10_0 => ?_)
        · refine V2 rfl rfl rfl (K2 (K3 (L8 (K0 (K1 (l_y rfl rfl (D8 (cs := [.int .i64 n.Kind, .int .i64 n.Space, .string n.Name, .slice n.AttrsP n.Attrs.length n.AttrsC, .string n.Data, .string n.System, .int .i64 n.Parent, .int .i64 n.First, .int .i64 n.Last, .int .i64 n.Prev, .int .i64 n.Next, .int .i64 n.Inner]) hO rfl) ?_))))))
          refine s_lit (parts := [(0, .const (.string ⟨#[98, 117, 116, 116, 111, 110]⟩))]) (enc := eS) [⟨#[98, 117, 116, 116, 111, 110]⟩] [.string ⟨#[98, 117, 116, 116, 111, 110]⟩] hO rfl (fun b31 w hO => ?_)
          refine CK [] hO rfl (fun k' hx hr hO' => named_spec (n := n) (ts := btnL) (sls_roK (p := (some ⟨b31, 0, none⟩)) hr (sls_fct hO)) (by decide) (hO := hO')) ?_
          rintro _ _ w ⟨rfl, rfl⟩ hO
          simp only [List.nil_append] at hO
          refine K2 (K3 ?_)
          refine c_split rfl (fun hc32 => ?_) (fun hc32 => ?_)
          · refine K0 (K1 (V2 rfl rfl rfl (K2 (K3 (K6 (L0 (K9 ?_)))))))
            exact fin1 rfl rfl ⟨_, ⟨by first | (simp [borderB, *]; done) | (simp [borderB, namB, *]; done), rfl⟩, hO.none⟩
          · refine K5 (K8 (K3 (K0 (K0 (K1 (l_y rfl rfl (y_fldb (o' := 1) rfl) (l_y rfl rfl (D5 hO rfl) ?_)))))))
            refine K2 (K3 (K4 (K0 (K1 ?_))))
            refine Z0 (fun h14_0 => ?_) (fun h14_0 => ?_)
            · refine V2 rfl rfl rfl (K2 (K3 (L8 (K0 (da_region (by intro c a d v w h; cases d <;> exact h) ?_)))))
              have hO := hO.drew
              refine da_phase _ [3] (SO.ks [.b b2] hO) ?_
              refine dx_u 0 (by kernel_rfl) rfl rfl rfl (fun w => y_fldb (o' := 2) rfl) ?_
              refine dx_y 1 (by kernel_rfl) rfl rfl rfl (fun w ⟨m, hw⟩ => D5 hw rfl) ?_
              refine dx_u 2 (by kernel_rfl) rfl rfl rfl (fun w => y_sliceA rfl) ?_
              refine dx_close 3 (by kernel_rfl) rfl rfl ?_
              refine CK [] hO rfl (fun k' hx hr hO' => sin_spec (ts := mathL) (blk_ro (b := _) hr) (by decide) (hO := hO')) ?_
              rintro _ _ w ⟨rfl, rfl⟩ hO
              refine o_done (da_phase _ [] (SO.ks [] hO) ?_)
              refine dx_u 4 (by kernel_rfl) rfl rfl rfl (fun w => y_assign rfl) ?_
              refine dx_end (by kernel_rfl) ?_
              refine K3 (K6 (L0 (K9 ?_)))
              exact fin1 rfl rfl ⟨_, ⟨by first | (simp [borderB, *]; done) | (simp [borderB, namB, *]; done), rfl⟩, hO.none⟩
            · refine V2 rfl rfl rfl (K2 (K3 (L9 (K0 (K1 ?_)))))
              refine Z0 (fun h16_0 => ?_) (fun h16_0 => ?_)
              · refine V2 rfl rfl rfl (K2 (K3 (L8 (K0 (da_region (by intro c a d v w h; cases d <;> exact h) ?_)))))
                have hO := hO.drew
                refine da_phase _ [3] (SO.ks [.b b2] hO) ?_
                refine dx_u 0 (by kernel_rfl) rfl rfl rfl (fun w => y_fldb (o' := 2) rfl) ?_
                refine dx_y 1 (by kernel_rfl) rfl rfl rfl (fun w ⟨m, hw⟩ => D5 hw rfl) ?_
                refine dx_u 2 (by kernel_rfl) rfl rfl rfl (fun w => y_sliceA rfl) ?_
                refine dx_close 3 (by kernel_rfl) rfl rfl ?_
                refine CK [] hO rfl (fun k' hx hr hO' => sin_spec (ts := drawL) (blk_ro (b := _) hr) (by decide) (hO := hO')) ?_
                rintro _ _ w ⟨rfl, rfl⟩ hO
                refine o_done (da_phase _ [] (SO.ks [] hO) ?_)
                refine dx_u 4 (by kernel_rfl) rfl rfl rfl (fun w => y_assign rfl) ?_
                refine dx_end (by kernel_rfl) ?_
                refine K3 (K6 (L0 (K9 ?_)))
                exact fin1 rfl rfl ⟨_, ⟨by first | (simp [borderB, *]; done) | (simp [borderB, namB, *]; done), rfl⟩, hO.none⟩
              · refine V2 rfl rfl rfl (K2 (K3 (L9 (K5 (K8 (K3 (K0 (da_region (by intro c a d v w h; cases d <;> exact h) ?_))))))))
                have hO := hO.drew
                refine da_phase _ [3] (SO.ks [.b b2] hO) ?_
                refine dx_u 0 (by kernel_rfl) rfl rfl rfl (fun w => y_fldb (o' := 2) rfl) ?_
                refine dx_y 1 (by kernel_rfl) rfl rfl rfl (fun w ⟨m, hw⟩ => D5 hw rfl) ?_
                refine dx_u 2 (by kernel_rfl) rfl rfl rfl (fun w => y_sliceA rfl) ?_
                refine dx_close 3 (by kernel_rfl) rfl rfl ?_
                refine CK [] hO rfl (fun k' hx hr hO' => sin_spec (ts := bordL) (blk_ro (b := _) hr) (by decide) (hO := hO')) ?_
                rintro _ _ w ⟨rfl, rfl⟩ hO
                refine o_done (da_phase _ [] (SO.ks [] hO) ?_)
                refine dx_u 4 (by kernel_rfl) rfl rfl rfl (fun w => y_assign rfl) ?_
                refine dx_end (by kernel_rfl) ?_
                refine K3 (K6 ?_)
                exact fin1 rfl rfl ⟨_, ⟨by first | (simp [borderB, *]; done) | (simp [borderB, namB, *]; done), rfl⟩, hO.none⟩
        · refine V2 rfl rfl rfl (K2 (K3 (L9 (K5 (K8 (K3 (K0 (K0 (K1 (l_y rfl rfl (y_fldb (o' := 1) rfl) (l_y rfl rfl (D5 hO rfl) ?_)))))))))))
          refine K2 (K3 (K4 (K0 (K1 ?_))))
          refine Z0 (fun h14_0 => ?_) (fun h14_0 => ?_)
          · refine V2 rfl rfl rfl (K2 (K3 (L8 (K0 (da_region (by intro c a d v w h; cases d <;> exact h) ?_)))))
            have hO := hO.drew
            refine da_phase _ [3] (SO.ks [.b b2] hO) ?_
            refine dx_u 0 (by kernel_rfl) rfl rfl rfl (fun w => y_fldb (o' := 2) rfl) ?_
            refine dx_y 1 (by kernel_rfl) rfl rfl rfl (fun w ⟨m, hw⟩ => D5 hw rfl) ?_
            refine dx_u 2 (by kernel_rfl) rfl rfl rfl (fun w => y_sliceA rfl) ?_
            refine dx_close 3 (by kernel_rfl) rfl rfl ?_
            refine CK [] hO rfl (fun k' hx hr hO' => sin_spec (ts := mathL) (blk_ro (b := _) hr) (by decide) (hO := hO')) ?_
            rintro _ _ w ⟨rfl, rfl⟩ hO
            refine o_done (da_phase _ [] (SO.ks [] hO) ?_)
            refine dx_u 4 (by kernel_rfl) rfl rfl rfl (fun w => y_assign rfl) ?_
            refine dx_end (by kernel_rfl) ?_
            refine K3 (K6 (L0 (K9 ?_)))
            exact fin1 rfl rfl ⟨_, ⟨by first | (simp [borderB, *]; done) | (simp [borderB, namB, *]; done), rfl⟩, hO.none⟩
          · refine V2 rfl rfl rfl (K2 (K3 (L9 (K0 (K1 ?_)))))
            refine Z0 (fun h16_0 => ?_) (fun h16_0 => ?_)
            · refine V2 rfl rfl rfl (K2 (K3 (L8 (K0 (da_region (by intro c a d v w h; cases d <;> exact h) ?_)))))
              have hO := hO.drew
              refine da_phase _ [3] (SO.ks [.b b2] hO) ?_
              refine dx_u 0 (by kernel_rfl) rfl rfl rfl (fun w => y_fldb (o' := 2) rfl) ?_
              refine dx_y 1 (by kernel_rfl) rfl rfl rfl (fun w ⟨m, hw⟩ => D5 hw rfl) ?_
              refine dx_u 2 (by kernel_rfl) rfl rfl rfl (fun w => y_sliceA rfl) ?_
              refine dx_close 3 (by kernel_rfl) rfl rfl ?_
              refine CK [] hO rfl (fun k' hx hr hO' => sin_spec (ts := drawL) (blk_ro (b := _) hr) (by decide) (hO := hO')) ?_
              rintro _ _ w ⟨rfl, rfl⟩ hO
              refine o_done (da_phase _ [] (SO.ks [] hO) ?_)
              refine dx_u 4 (by kernel_rfl) rfl rfl rfl (fun w => y_assign rfl) ?_
              refine dx_end (by kernel_rfl) ?_
              refine K3 (K6 (L0 (K9 ?_)))
              exact fin1 rfl rfl ⟨_, ⟨by first | (simp [borderB, *]; done) | (simp [borderB, namB, *]; done), rfl⟩, hO.none⟩
            · refine V2 rfl rfl rfl (K2 (K3 (L9 (K5 (K8 (K3 (K0 (da_region (by intro c a d v w h; cases d <;> exact h) ?_))))))))
              have hO := hO.drew
              refine da_phase _ [3] (SO.ks [.b b2] hO) ?_
              refine dx_u 0 (by kernel_rfl) rfl rfl rfl (fun w => y_fldb (o' := 2) rfl) ?_
              refine dx_y 1 (by kernel_rfl) rfl rfl rfl (fun w ⟨m, hw⟩ => D5 hw rfl) ?_
              refine dx_u 2 (by kernel_rfl) rfl rfl rfl (fun w => y_sliceA rfl) ?_
              refine dx_close 3 (by kernel_rfl) rfl rfl ?_
              refine CK [] hO rfl (fun k' hx hr hO' => sin_spec (ts := bordL) (blk_ro (b := _) hr) (by decide) (hO := hO')) ?_
              rintro _ _ w ⟨rfl, rfl⟩ hO
              refine o_done (da_phase _ [] (SO.ks [] hO) ?_)
              refine dx_u 4 (by kernel_rfl) rfl rfl rfl (fun w => y_assign rfl) ?_
              refine dx_end (by kernel_rfl) ?_
              refine K3 (K6 ?_)
              exact fin1 rfl rfl ⟨_, ⟨by first | (simp [borderB, *]; done) | (simp [borderB, namB, *]; done), rfl⟩, hO.none⟩
/-- the last that is one, unless there is a border first -/
def scanR (is bd : Int → Bool) : List Int → Bool
 | [] => false
 | x :: r => if is x = true then true else if bd x = true then false else scanR is bd r
def scopeG (is bd : Int → Bool) (l : List Int) : Bool := scanR is bd l.reverse
theorem scopeG_snoc (is bd : Int → Bool) (l : List Int) (x : Int) : scopeG is bd (l ++ [x]) = if is x = true then true else if bd x = true then false else scopeG is bd l := by simp [scopeG, scanR]
def bdA (A : List Node_one) (kind : Int) (x : Int) : Bool := borderB kind (at_ A x.toNat).Node.Space (at_ A x.toNat).Node.Name
def namA (A : List Node_one) (ts : List ByteArray) (x : Int) : Bool := namB (at_ A x.toNat).Node.Space (at_ A x.toNat).Node.Name ts
def AllEl (A : List Node_one) (l : List Int) : Prop := ∀ x ∈ l, elB A x = true
theorem NV.bd {A : List Node_one} {x kind : Int} {n : Api_node} (h : NV A x n) (he : elB A x = true) : borderB kind n.Space n.Name = bdA A kind x := by rw [h.space (elB_has he), h.name (elB_has he)]; rfl
def scopeL (A : List Node_one) (is : Int → Bool) (kind : Int) (l : List Int) : Bool := if kind < 0 ∨ 4 < kind then false else scopeG is (bdA A kind) l
set_option maxHeartbeats 1000000 in
theorem scope_spec {k : Ctx} {w : World} {s a c : Nat} {p : Option Addr} {l : List Int} {A : List Node_one} {kind : Int} {f : FuncId} [hf : Fun Tryz.prog f] {caps : List Value} {C : List HP} {isN : Int → Api_node → Bool} {is : Int → Bool}
  (hcall : ∀ k' w' x n, Own k' w' [sep C] → Tri Tryz.prog f ([Value.int .i64 x, .agg (Api_node.cells n).toArray] ++ caps).toArray k' w' fun v m => v = .bool (isN x n) ∧ m = [sep C])
  (his : ∀ x n, elB A x = true → NV A x n → isN x n = is x) (hn : 0 < A.length) (ha : AttrsOk A) (hel : AllEl A l) (hg : Gs p l.length) (hl : l.length ≤ 1000000) (hO : Own k w [arenaL a A, sB s a p l.length c, sI p c l, sep C]) :
  Tri Tryz.prog 97 #[.pointer (some ⟨s, 0, none⟩), .int .i64 kind, .func (.func f) #[] caps.toArray] k w fun v m => v = .bool (scopeL A is kind l) ∧ m = [arenaL a A, sB s a p l.length c, sI p c l] := by
 refine enter (args := [.pointer (some ⟨s, 0, none⟩), .int .i64 kind, .func (.func f) #[] caps.toArray]) Tryz.func97 rfl rfl (K0 (K1 (V2 rfl rfl rfl (K2 (K3 (K0 (K0 (K1 (V1 rfl rfl rfl ?_)))))))))
 refine Z0 (fun h1_1 => ?_) (fun h1_1 => ?_)
 ·refine V1 rfl rfl rfl ?_
  repeat refine M2 ?_
  refine l_y rfl rfl (y_pick_t rfl rfl) (K2 (K3 (L8 (K0 (K1 (V2 rfl rfl rfl (K2 (K3 (K6 (K9 ?_))))))))))
  exact fin1 rfl rfl ⟨_, ⟨by rw [scopeL, if_pos (by omega)], rfl⟩, hO.only [.o a, .b s, .p p]⟩
 ·refine V1 rfl rfl rfl (V1 rfl rfl rfl ?_)
  refine Z0 (fun h1_4 => ?_) (fun h1_4 => ?_)
  ·refine l_y rfl rfl (y_pick_f rfl rfl) (K2 (K3 (L8 (K0 (K1 (V2 rfl rfl rfl (K2 (K3 (K6 (K9 ?_))))))))))
   exact fin1 rfl rfl ⟨_, ⟨by rw [scopeL, if_pos (by omega)], rfl⟩, hO.only [.o a, .b s, .p p]⟩
  ·refine l_y rfl rfl (y_pick_f rfl rfl) (K2 (K3 (L9 (K5 (K3 (K0 (K0 ?_)))))))
   have hk : scopeL A is kind l = scopeG is (bdA A kind) l := by rw [scopeL, if_neg (by omega)]
   refine K1 (V1 rfl rfl rfl (CK [.b s] hO rfl (fun k' hx hr hO' => sLen_spec (hO := hO')) ?_))
   rintro _ _ w ⟨rfl, rfl⟩ hO
   simp only [List.cons_append, List.nil_append] at hO
   refine l_y rfl rfl (D4) ?_
   refine V2 rfl rfl rfl (K2 (K3 (K4 (c_rounds (X := Int) (fun i => [(0, .pointer (some ⟨s, 0, none⟩)), (1, .int .i64 kind), (2, .func (.func f) #[] caps.toArray), (6, .bool false), (7, .int .i64 i)]) (fun i w => Own k w [arenaL a A, sB s a p l.length c, sI p c l, sep C] ∧ (-1 ≤ i ∧ i < l.length) ∧ (scopeG is (bdA A kind) l = scopeG is (bdA A kind) (l.take (i + 1).toNat))) (fun i => (i + 1).toNat) ((l.length : Int) - 1) ⟨rfl, rfl, rfl, rfl, rfl, trivial⟩ ⟨hO.only [.o a, .b s, .p p, .s], ⟨by omega, by omega⟩, by rw [List.take_of_length_le (by omega)]⟩ ?_))))
   rintro i w m hm ⟨hO, hi, hs⟩
   refine K0 (K0 (K1 (V1 rfl rfl rfl ?_)))
   refine Z0 (fun h4_1 => ?_) (fun h4_1 => ?_)
   ·refine K2 (K3 (L8 (K5 (K3 (K0 (K4 (K0 ?_)))))))
    have hxe : elB A (at_ l i.toNat) = true := hel _ (at_mem (by omega))
    have hs2 := hs
    rw [show (i + 1).toNat = i.toNat + 1 by omega, take_succ_at (by omega), scopeG_snoc] at hs2
    refine K1 (V1 rfl rfl rfl (V1 rfl rfl rfl (V3 rfl rfl rfl rfl (l_y rfl rfl (y_fldb (o' := 1) rfl) (l_y rfl rfl (y_fldb (o' := 1) rfl) (l_y rfl rfl (D5 hO rfl) ?_))))))
    refine V1 rfl rfl rfl (l_y rfl rfl (y_idx rfl rfl) ?_)
    refine l_y rfl rfl (y_e1 (x0 := 0) hO rfl) ?_
    refine CK [.o a, .b s] hO rfl (fun k' hx hr hO' => look_spec hn ha (hO := hO')) ?_
    rintro _ _ w ⟨x6_9, hx6_9, rfl, rfl⟩ hO
    simp only [List.cons_append, List.nil_append] at hO
    refine V1 rfl rfl rfl (l_y rfl rfl (y_extract rfl rfl) (l_y rfl rfl (y_extract rfl rfl) (s_alloc (vs := [.int .i64 0, .int .i64 0, .string ⟨#[]⟩, .slice none 0 0, .string ⟨#[]⟩, .string ⟨#[]⟩, .int .i64 0, .int .i64 0, .int .i64 0, .int .i64 0, .int .i64 0, .int .i64 0]) hO rfl rfl rfl fun b8 w hO => ?_)))
    refine Y3 hO rfl rfl (fun w hO => ?_)
    refine V2 rfl rfl rfl (K2 (K3 (K0 (K0 ?_))))
    have e1 := his _ _ hxe hx6_9
    have e2 := NV.bd (kind := kind) hx6_9 hxe
    refine da_region (by intro c a d v w h; cases d <;> exact h) ?_
    have hO := hO.drew
    refine da_phase _ [10] (SO.ks [.b s, .p p, .b b8] hO) ?_
    refine dx_u 0 (by kernel_rfl) rfl rfl rfl (fun w => y_move rfl) ?_
    refine dx_u 1 (by kernel_rfl) rfl rfl rfl (fun w => y_move rfl) ?_
    refine dx_u 2 (by kernel_rfl) rfl rfl rfl (fun w => y_nilCheck rfl rfl) ?_
    refine dx_u 3 (by kernel_rfl) rfl rfl rfl (fun w => y_fldb (o' := 1) rfl) ?_
    refine dx_u 4 (by kernel_rfl) rfl rfl rfl (fun w => y_fldb (o' := 1) rfl) ?_
    refine dx_y 5 (by kernel_rfl) rfl rfl rfl (fun w ⟨m, hw⟩ => D5 hw rfl) ?_
    refine dx_u 6 (by kernel_rfl) rfl rfl rfl (fun w => y_move rfl) ?_
    refine dx_u 7 (by kernel_rfl) rfl rfl rfl (fun w => y_idx rfl rfl) ?_
    refine dx_y 8 (by kernel_rfl) rfl rfl rfl (fun w ⟨m, hw⟩ => y_e1 (x0 := 0) hw rfl) ?_
    refine dx_y 9 (by kernel_rfl) rfl rfl rfl (fun w ⟨m, hw⟩ => D8 (cs := [.int .i64 x6_9.Kind, .int .i64 x6_9.Space, .string x6_9.Name, .slice x6_9.AttrsP x6_9.Attrs.length x6_9.AttrsC, .string x6_9.Data, .string x6_9.System, .int .i64 x6_9.Parent, .int .i64 x6_9.First, .int .i64 x6_9.Last, .int .i64 x6_9.Prev, .int .i64 x6_9.Next, .int .i64 x6_9.Inner]) hw rfl) ?_
    refine dx_close 10 (by kernel_rfl) rfl rfl ?_
    refine CKv [.s] hO rfl rfl (fun k' hx hr hO' => hcall k' _ (at_ l i.toNat) x6_9 hO') ?_
    rintro _ _ w ⟨rfl, rfl⟩ hO
    simp only [List.cons_append, List.nil_append] at hO
    rw [e1]
    refine o_done (da_end (by kernel_rfl) ?_)
    refine K3 ?_
    refine c_split rfl (fun hc46 => ?_) (fun hc46 => ?_)
    ·refine K0 (K1 (V2 rfl rfl rfl (K2 (K3 (K6 (K9 (L0 (K9 (K9 (L0 (K9 ?_)))))))))))
     exact fin1 rfl rfl ⟨_, ⟨by rw [hk, hs2, if_pos hc46], rfl⟩, hO.only [.o a, .b s, .p p]⟩
    ·refine K5 (K3 (K0 (K1 (l_y rfl rfl (D8 (cs := [.int .i64 x6_9.Kind, .int .i64 x6_9.Space, .string x6_9.Name, .slice x6_9.AttrsP x6_9.Attrs.length x6_9.AttrsC, .string x6_9.Data, .string x6_9.System, .int .i64 x6_9.Parent, .int .i64 x6_9.First, .int .i64 x6_9.Last, .int .i64 x6_9.Prev, .int .i64 x6_9.Next, .int .i64 x6_9.Inner]) hO rfl) ?_))))
     refine V1 rfl rfl rfl (CK [] hO rfl (fun k' hx hr hO' => border_spec (n := x6_9) (hO := hO')) ?_)
     rintro _ _ w ⟨rfl, rfl⟩ hO
     simp only [List.cons_append, List.nil_append] at hO
     rw [e2]
     refine K2 (K3 ?_)
     refine c_split rfl (fun hc49 => ?_) (fun hc49 => ?_)
     ·refine K0 (K1 (V2 rfl rfl rfl (K2 (K3 (K6 (L0 (K9 (K9 (L0 (K9 ?_))))))))))
      exact fin1 rfl rfl ⟨_, ⟨by rw [hk, hs2, if_neg (by simp [hc46]), if_pos hc49], rfl⟩, hO.only [.o a, .b s, .p p]⟩
     ·refine K5 (K8 (K3 (K1 (V1 rfl rfl rfl (l_y rfl rfl (D4) ?_)))))
      refine V2 rfl rfl rfl (K2 ?_)
      exact q_next (i - 1) ⟨rfl, rfl, rfl, rfl, rfl, trivial⟩ ⟨hO.only [.o a, .b s, .p p, .s], ⟨by omega, by omega⟩, by rw [hs2, if_neg (by simp [hc46]), if_neg (by simp [hc49]), show (i - 1 + 1).toNat = i.toNat by omega]⟩ (by omega)
   ·refine K2 (K3 (L9 (K7 (L1 (L1 (L2 (K3 (K0 (K1 (V2 rfl rfl rfl (K2 (K3 (K6 ?_)))))))))))))
    exact fin1 rfl rfl ⟨_, ⟨by rw [hk, hs, show (i + 1).toNat = 0 by omega]; rfl, rfl⟩, hO.only [.o a, .b s, .p p]⟩
end Go.Proofs.YtoohapbaelmkcaaGreat
end
section
set_option maxRecDepth 100000
namespace Go.Proofs.YtoohapbaelmkcaaGreat
open Go Go.Hb Go.RowKit
theorem NodeScopeC_spec {k : Ctx} {w : World} {b : Nat} {x id : Int} {n : Api_node} (hO : Own k w [sep [blk b 3 [.int .i64 id]]]) :
  Tri Tryz.prog 98 #[.int .i64 x, .agg (Api_node.cells n).toArray, .pointer (some ⟨b, 0, none⟩)] k w fun v m => v = .bool (decide (x = id)) ∧ m = [sep [blk b 3 [.int .i64 id]]] := by
 refine enter (args := [.int .i64 x, .agg (Api_node.cells n).toArray, .pointer (some ⟨b, 0, none⟩)]) Tryz.func98 rfl rfl ?_
 have hO := Own.open hO
 simp only [List.cons_append, List.nil_append] at hO
 refine K0 (K1 (s_box (vs := [.int .i64 n.Kind, .int .i64 n.Space, .string n.Name, .slice n.AttrsP n.Attrs.length n.AttrsC, .string n.Data, .string n.System, .int .i64 n.Parent, .int .i64 n.First, .int .i64 n.Last, .int .i64 n.Prev, .int .i64 n.Next, .int .i64 n.Inner]) hO rfl rfl rfl (by rfl) fun b4 w hO => ?_))
 refine V2 rfl rfl rfl (K2 (K3 (K0 (K1 (V1 rfl rfl rfl (l_y rfl rfl (D5 hO rfl) ?_))))))
 refine Z0 (fun h1_2 => ?_) (fun h1_2 => ?_)
 ·refine V2 rfl rfl rfl (K2 (K3 (K6 ?_)))
  exact fin1 rfl rfl ⟨_, ⟨by simp [*], rfl⟩, (Own.shut (l := [blk b 3 [.int .i64 id]]) (hO.ks [.b b])).one⟩
 ·refine V2 rfl rfl rfl (K2 (K3 (K6 ?_)))
  exact fin1 rfl rfl ⟨_, ⟨by simp [*], rfl⟩, (Own.shut (l := [blk b 3 [.int .i64 id]]) (hO.ks [.b b])).one⟩
theorem sNodeScope_spec {k : Ctx} {w : World} {s a : Nat} {l : List Int} {A : List Node_one} {id kind : Int} (hn : 0 < A.length) (ha : AttrsOk A) (hel : AllEl A l) (hl : l.length ≤ 1000000) (hO : Own k w [arenaL a A, stkL s a l]) :
  Tri Tryz.prog 75 #[.pointer (some ⟨s, 0, none⟩), .int .i64 id, .int .i64 kind] k w fun v m => v = .bool (scopeL A (fun x => decide (x = id)) kind l) ∧ m = [arenaL a A, stkL s a l] := by
 refine enter (args := [.pointer (some ⟨s, 0, none⟩), .int .i64 id, .int .i64 kind]) Tryz.func75 rfl rfl ?_
 obtain ⟨p, c, hg, hlc, hO⟩ := stkL_open (hO.ks [.o s])
 refine K0 (K1 (s_box (vs := [.int .i64 id]) hO rfl rfl rfl (by rfl) fun b4 w hO => ?_))
 refine V2 rfl rfl rfl (K2 (K3 (K0 (K1 (V1 rfl rfl rfl (V1 rfl rfl rfl (l_y rfl rfl (y_makeFunc rfl rfl) ?_)))))))
 have hO := (Own.shut (l := [blk b4 3 [.int .i64 id]]) (hO.ks [.b b4])).ks [.o a, .b s, .p p, .s]
 refine CK [.o a, .b s, .p p, .s] hO rfl (fun k' hx hr hO' => scope_spec (caps := [.pointer (some ⟨b4, 0, none⟩)]) (isN := fun x _ => decide (x = id)) (is := fun x => decide (x = id)) (fun k' w' x n hO => NodeScopeC_spec hO) (fun x n he hx => rfl) hn ha hel hg hl (hO := hO')) ?_
 rintro _ _ w ⟨rfl, rfl⟩ hO
 simp only [List.cons_append, List.nil_append] at hO
 refine V2 rfl rfl rfl (K2 (K3 (K6 ?_)))
 exact fin1 rfl rfl ⟨_, ⟨rfl, rfl⟩, ((stkL_shut (hO.ks [.b s, .p p])).ks [.o a, .o s]).two⟩
/-- up to and with the last that is one -/
def popR (p : Int → Bool) : List Int → Option (List Int)
 | [] => none
 | x :: r => if p x = true then some r else popR p r
theorem popR_snoc (p : Int → Bool) (l : List Int) (x : Int) : popR p (l ++ [x]).reverse = if p x = true then some l.reverse else popR p l.reverse := by simp [popR]
theorem topI_at {l : List Int} (h : 0 < l.length) : topI l = at_ l (l.length - 1) := by rw [topI, atI, if_neg (by omega)]; congr 1; omega
theorem AllEl.ne {A : List Node_one} {l : List Int} (h : AllEl A l) : ∀ x ∈ l, x ≠ -1 := fun x hx e => by
 have := hasB_true (elB_has (h x hx)); omega
theorem sLenC_spec {k : Ctx} {w : World} {s a : Nat} {l : List Int} (hO : Own k w [stkL s a l]) : Tri Tryz.prog 13 #[.pointer (some ⟨s, 0, none⟩)] k w fun v m => v = .int .i64 ((l.length : Nat) : Int) ∧ m = [stkL s a l] := by
 obtain ⟨p, c, hg, hlc, hO⟩ := stkL_open hO
 refine Ret.mono (Ret.framed hO (.cons (.hd _ _) (.nil _)) fun k' _ _ hO' => sLen_spec hO') ?_
 rintro v w' ⟨m, ⟨rfl, rfl⟩, hO⟩
 exact ⟨_, ⟨rfl, rfl⟩, stkL_shut hO⟩
theorem sTopC_spec {k : Ctx} {w : World} {s a : Nat} {l : List Int} {x : Int} (hl : l.length ≤ 1000000) (hO : Own k w [stkL s a l]) : Tri Tryz.prog 35 #[.pointer (some ⟨s, 0, none⟩)] k w fun v m => v = .int .i64 (topI l) ∧ m = [stkL s a l] := by
 obtain ⟨p, c, hg, hlc, hO⟩ := stkL_open hO
 refine Ret.mono (sTop_spec hg hl hO) ?_
 rintro v w' ⟨m, ⟨rfl, rfl⟩, hO⟩
 exact ⟨_, ⟨rfl, rfl⟩, stkL_shut hO⟩
theorem sFindC_spec {k : Ctx} {w : World} {s a : Nat} {l : List Int} {x : Int} (hl : l.length ≤ 1000000) (hO : Own k w [stkL s a l]) : Tri Tryz.prog 74 #[.pointer (some ⟨s, 0, none⟩), .int .i64 x] k w fun v m => v = .int .i64 (findI l x) ∧ m = [stkL s a l] := by
 obtain ⟨p, c, hg, hlc, hO⟩ := stkL_open hO
 refine Ret.mono (sFind_spec hg hl hO) ?_
 rintro v w' ⟨m, ⟨rfl, rfl⟩, hO⟩
 exact ⟨_, ⟨rfl, rfl⟩, stkL_shut hO⟩
theorem sAtC_spec {k : Ctx} {w : World} {s a : Nat} {l : List Int} {x : Int} (hl : l.length ≤ 1000000) (hO : Own k w [stkL s a l]) : Tri Tryz.prog 15 #[.pointer (some ⟨s, 0, none⟩), .int .i64 x] k w fun v m => v = .int .i64 (atI l x) ∧ m = [stkL s a l] := by
 obtain ⟨p, c, hg, hlc, hO⟩ := stkL_open hO
 refine Ret.mono (sAt_spec hg hO) ?_
 rintro v w' ⟨m, ⟨rfl, rfl⟩, hO⟩
 exact ⟨_, ⟨rfl, rfl⟩, stkL_shut hO⟩
end Go.Proofs.YtoohapbaelmkcaaGreat
end
section
set_option maxRecDepth 100000
namespace Go.Proofs.YtoohapbaelmkcaaGreat
open Go Go.Hb Go.RowKit
def specB (sp : Int) (nm : ByteArray) : Bool := if sp = 1 then inB nm mathL else if sp = 2 then inB nm drawL else inB nm specL
def specA (A : List Node_one) (x : Int) : Bool := elB A x && specB (at_ A x.toNat).Node.Space (at_ A x.toNat).Node.Name
theorem NV.spec {A : List Node_one} {x : Int} {n : Api_node} (h : NV A x n) : specA A x = (elB A x && specB n.Space n.Name) := by
 unfold specA
 cases he : elB A x with
 | false => rfl
 | true => rw [h.space (elB_has he), h.name (elB_has he)]
set_option maxHeartbeats 1000000 in
theorem sSpecial_spec {k : Ctx} {w : World} {s a : Nat} {l : List Int} {A : List Node_one} {id : Int} (hn : 0 < A.length) (ha : AttrsOk A) (hO : Own k w [arenaL a A, stkL s a l]) :
    Tri Tryz.prog 99 #[.pointer (some ⟨s, 0, none⟩), .int .i64 id] k w fun v m => v = .bool (specA A id) ∧ m = [arenaL a A, stkL s a l] := by
  refine enter (args := [.pointer (some ⟨s, 0, none⟩), .int .i64 id]) Tryz.func99 rfl rfl ?_
  obtain ⟨p, c, hg, hlc, hO⟩ := stkL_open (hO.ks [.o s])
  refine K0 (K1 (V2 rfl rfl rfl (K2 (K3 (K0 (K0 (K1 (V1 rfl rfl rfl (CK [.b s] hO rfl (fun k' hx hr hO' => snone_spec (hO := hO')) ?_)))))))))
  rintro _ _ w ⟨rfl, rfl⟩ hO
  simp only [List.cons_append, List.nil_append] at hO
  refine K2 (K3 (L9 (K5 (K3 (K0 (K1 (V1 rfl rfl rfl (V1 rfl rfl rfl (CK [.o a, .b s] hO rfl (fun k' hx hr hO' => look_spec hn ha (hO := hO')) ?_)))))))))
  rintro _ _ w ⟨x, hx, rfl, rfl⟩ hO
  simp only [List.cons_append, List.nil_append] at hO
  refine V1 rfl rfl rfl (l_y rfl rfl (y_extract rfl rfl) (l_y rfl rfl (y_extract rfl rfl) (s_alloc (vs := [.int .i64 0, .int .i64 0, .string ⟨#[]⟩, .slice none 0 0, .string ⟨#[]⟩, .string ⟨#[]⟩, .int .i64 0, .int .i64 0, .int .i64 0, .int .i64 0, .int .i64 0, .int .i64 0]) hO rfl rfl rfl fun b5 w hO => ?_)))
  refine Y3 hO rfl rfl (fun w hO => ?_)
  refine V2 rfl rfl rfl (K2 (K3 (K0 (K1 (CK [] hO rfl (fun k' hx hr hO' => specials_spec (hO := hO')) ?_)))))
  rintro _ _ w ⟨rfl, rfl⟩ hO
  simp only [List.cons_append, List.nil_append] at hO
  refine CK [] hO rfl (fun k' hx hr hO' => maths_spec (hO := hO')) ?_
  rintro _ _ w ⟨rfl, rfl⟩ hO
  simp only [List.cons_append, List.nil_append] at hO
  refine CK [] hO rfl (fun k' hx hr hO' => drawings_spec (hO := hO')) ?_
  rintro _ _ w ⟨rfl, rfl⟩ hO
  simp only [List.cons_append, List.nil_append] at hO
  refine s_alloc (vs := [.string ⟨#[]⟩, .string ⟨#[]⟩, .string ⟨#[]⟩, .string ⟨#[]⟩, .string ⟨#[]⟩, .string ⟨#[]⟩, .string ⟨#[]⟩, .string ⟨#[]⟩, .string ⟨#[]⟩, .string ⟨#[]⟩, .string ⟨#[]⟩, .string ⟨#[]⟩, .string ⟨#[]⟩, .string ⟨#[]⟩, .string ⟨#[]⟩, .string ⟨#[]⟩, .string ⟨#[]⟩, .string ⟨#[]⟩, .string ⟨#[]⟩, .string ⟨#[]⟩, .string ⟨#[]⟩, .string ⟨#[]⟩, .string ⟨#[]⟩, .string ⟨#[]⟩, .string ⟨#[]⟩, .string ⟨#[]⟩, .string ⟨#[]⟩, .string ⟨#[]⟩, .string ⟨#[]⟩, .string ⟨#[]⟩, .string ⟨#[]⟩, .string ⟨#[]⟩, .string ⟨#[]⟩, .string ⟨#[]⟩, .string ⟨#[]⟩, .string ⟨#[]⟩, .string ⟨#[]⟩, .string ⟨#[]⟩, .string ⟨#[]⟩, .string ⟨#[]⟩, .string ⟨#[]⟩, .string ⟨#[]⟩, .string ⟨#[]⟩, .string ⟨#[]⟩, .string ⟨#[]⟩, .string ⟨#[]⟩, .string ⟨#[]⟩, .string ⟨#[]⟩, .string ⟨#[]⟩, .string ⟨#[]⟩, .string ⟨#[]⟩, .string ⟨#[]⟩, .string ⟨#[]⟩, .string ⟨#[]⟩, .string ⟨#[]⟩, .string ⟨#[]⟩, .string ⟨#[]⟩, .string ⟨#[]⟩, .string ⟨#[]⟩, .string ⟨#[]⟩, .string ⟨#[]⟩, .string ⟨#[]⟩, .string ⟨#[]⟩, .string ⟨#[]⟩, .string ⟨#[]⟩, .string ⟨#[]⟩, .string ⟨#[]⟩, .string ⟨#[]⟩, .string ⟨#[]⟩, .string ⟨#[]⟩, .string ⟨#[]⟩, .string ⟨#[]⟩, .string ⟨#[]⟩, .string ⟨#[]⟩, .string ⟨#[]⟩, .string ⟨#[]⟩, .string ⟨#[]⟩, .string ⟨#[]⟩, .string ⟨#[]⟩, .string ⟨#[]⟩, .string ⟨#[]⟩, .string ⟨#[]⟩, .string ⟨#[]⟩]) hO rfl rfl rfl fun b7 w hO => ?_
  refine s_alloc (vs := [.string ⟨#[]⟩, .string ⟨#[]⟩, .string ⟨#[]⟩, .string ⟨#[]⟩, .string ⟨#[]⟩, .string ⟨#[]⟩]) hO rfl rfl rfl fun b8 w hO => ?_
  refine s_alloc (vs := [.string ⟨#[]⟩, .string ⟨#[]⟩, .string ⟨#[]⟩]) hO rfl rfl rfl fun b9 w hO => ?_
  refine Y3 hO rfl rfl (fun w hO => ?_)
  refine Y3 hO rfl rfl (fun w hO => ?_)
  refine Y3 hO rfl rfl (fun w hO => ?_)
  refine K2 (K3 (K0 (K0 (K1 (l_y rfl rfl (y_fldb (o' := 1) rfl) (l_y rfl rfl (D5 hO rfl) ?_))))))
  refine K2 (K3 (K4 (K0 (K1 ?_))))
  refine Z0 (fun h6_0 => ?_) (fun h6_0 => ?_)
  · refine V2 rfl rfl rfl (K2 (K3 (L8 (K0 (da_region (by intro c a d v w h; cases d <;> exact h) ?_)))))
    have hO := hO.drew
    refine da_phase _ [5] (SO.ks [.b b5] hO) ?_
    refine dx_u 0 (by kernel_rfl) rfl rfl rfl (fun w => y_move rfl) ?_
    refine dx_u 1 (by kernel_rfl) rfl rfl rfl (fun w => y_move rfl) ?_
    refine dx_split 26 rfl (fun hg26 => ?_) (fun hg26 => ?_)
    · refine dx_u 2 (by kernel_rfl) rfl rfl rfl (fun w => y_fldb (o' := 2) rfl) ?_
      refine dx_y 3 (by kernel_rfl) rfl rfl rfl (fun w ⟨m, hw⟩ => D5 hw rfl) ?_
      refine dx_u 4 (by kernel_rfl) rfl rfl rfl (fun w => y_sliceA rfl) ?_
      refine dx_close 5 (by kernel_rfl) rfl rfl ?_
      refine CK [] hO rfl (fun k' hx hr hO' => sin_spec (ts := mathL) (blk_ro (b := _) hr) (by decide) (hO := hO')) ?_
      rintro _ _ w ⟨rfl, rfl⟩ hO
      simp only [List.nil_append] at hO
      refine o_done (da_phase _ [] (SO.ks [] hO) ?_)
      refine dx_u 6 (by kernel_rfl) rfl rfl rfl (fun w => y_pick_t rfl rfl) ?_
      refine dx_u 7 (by kernel_rfl) rfl rfl rfl (fun w => y_assign rfl) ?_
      refine dx_end (by kernel_rfl) ?_
      refine K3 (K6 (L0 (K9 ?_)))
      exact fin1 rfl rfl ⟨_, ⟨by rw [hx.spec]; simp [specB, *], rfl⟩, ((stkL_shut (hO.ks [.b s, .p p])).ks [.o a, .o s]).two⟩
    · refine dx_pass 2 (by kernel_rfl) rfl rfl rfl ?_
      refine dx_pass 3 (by kernel_rfl) rfl rfl rfl ?_
      refine dx_pass 4 (by kernel_rfl) rfl rfl rfl ?_
      refine dx_close 5 (by kernel_rfl) rfl rfl ?_
      refine M2 (o_done (da_phase _ [] (SO.ks [] hO) ?_))
      refine dx_u 6 (by kernel_rfl) rfl rfl rfl (fun w => y_pick_f rfl rfl) ?_
      refine dx_u 7 (by kernel_rfl) rfl rfl rfl (fun w => y_assign rfl) ?_
      refine dx_end (by kernel_rfl) ?_
      refine K3 (K6 (L0 (K9 ?_)))
      exact fin1 rfl rfl ⟨_, ⟨by rw [hx.spec]; simp [specB, *], rfl⟩, ((stkL_shut (hO.ks [.b s, .p p])).ks [.o a, .o s]).two⟩
  · refine V2 rfl rfl rfl (K2 (K3 (L9 (K0 (K1 ?_)))))
    refine Z0 (fun h8_0 => ?_) (fun h8_0 => ?_)
    · refine V2 rfl rfl rfl (K2 (K3 (L8 (K0 (da_region (by intro c a d v w h; cases d <;> exact h) ?_)))))
      have hO := hO.drew
      refine da_phase _ [5] (SO.ks [.b b5] hO) ?_
      refine dx_u 0 (by kernel_rfl) rfl rfl rfl (fun w => y_move rfl) ?_
      refine dx_u 1 (by kernel_rfl) rfl rfl rfl (fun w => y_move rfl) ?_
      refine dx_split 35 rfl (fun hg35 => ?_) (fun hg35 => ?_)
      · refine dx_u 2 (by kernel_rfl) rfl rfl rfl (fun w => y_fldb (o' := 2) rfl) ?_
        refine dx_y 3 (by kernel_rfl) rfl rfl rfl (fun w ⟨m, hw⟩ => D5 hw rfl) ?_
        refine dx_u 4 (by kernel_rfl) rfl rfl rfl (fun w => y_sliceA rfl) ?_
        refine dx_close 5 (by kernel_rfl) rfl rfl ?_
        refine CK [] hO rfl (fun k' hx hr hO' => sin_spec (ts := drawL) (blk_ro (b := _) hr) (by decide) (hO := hO')) ?_
        rintro _ _ w ⟨rfl, rfl⟩ hO
        simp only [List.nil_append] at hO
        refine o_done (da_phase _ [] (SO.ks [] hO) ?_)
        refine dx_u 6 (by kernel_rfl) rfl rfl rfl (fun w => y_pick_t rfl rfl) ?_
        refine dx_u 7 (by kernel_rfl) rfl rfl rfl (fun w => y_assign rfl) ?_
        refine dx_end (by kernel_rfl) ?_
        refine K3 (K6 (L0 (K9 ?_)))
        exact fin1 rfl rfl ⟨_, ⟨by rw [hx.spec]; simp [specB, *], rfl⟩, ((stkL_shut (hO.ks [.b s, .p p])).ks [.o a, .o s]).two⟩
      · refine dx_pass 2 (by kernel_rfl) rfl rfl rfl ?_
        refine dx_pass 3 (by kernel_rfl) rfl rfl rfl ?_
        refine dx_pass 4 (by kernel_rfl) rfl rfl rfl ?_
        refine dx_close 5 (by kernel_rfl) rfl rfl ?_
        refine M2 (o_done (da_phase _ [] (SO.ks [] hO) ?_))
        refine dx_u 6 (by kernel_rfl) rfl rfl rfl (fun w => y_pick_f rfl rfl) ?_
        refine dx_u 7 (by kernel_rfl) rfl rfl rfl (fun w => y_assign rfl) ?_
        refine dx_end (by kernel_rfl) ?_
        refine K3 (K6 (L0 (K9 ?_)))
        exact fin1 rfl rfl ⟨_, ⟨by rw [hx.spec]; simp [specB, *], rfl⟩, ((stkL_shut (hO.ks [.b s, .p p])).ks [.o a, .o s]).two⟩
    · refine V2 rfl rfl rfl (K2 (K3 (L9 (K5 (K8 (K3 (K0 (da_region (by intro c a d v w h; cases d <;> exact h) ?_))))))))
      have hO := hO.drew
      refine da_phase _ [5] (SO.ks [.b b5] hO) ?_
      refine dx_u 0 (by kernel_rfl) rfl rfl rfl (fun w => y_move rfl) ?_
      refine dx_u 1 (by kernel_rfl) rfl rfl rfl (fun w => y_move rfl) ?_
      refine dx_split 42 rfl (fun hg42 => ?_) (fun hg42 => ?_)
      · refine dx_u 2 (by kernel_rfl) rfl rfl rfl (fun w => y_fldb (o' := 2) rfl) ?_
        refine dx_y 3 (by kernel_rfl) rfl rfl rfl (fun w ⟨m, hw⟩ => D5 hw rfl) ?_
        refine dx_u 4 (by kernel_rfl) rfl rfl rfl (fun w => y_sliceA rfl) ?_
        refine dx_close 5 (by kernel_rfl) rfl rfl ?_
        refine CK [] hO rfl (fun k' hx hr hO' => sin_spec (ts := specL) (blk_ro (b := _) hr) (by decide) (hO := hO')) ?_
        rintro _ _ w ⟨rfl, rfl⟩ hO
        simp only [List.nil_append] at hO
        refine o_done (da_phase _ [] (SO.ks [] hO) ?_)
        refine dx_u 6 (by kernel_rfl) rfl rfl rfl (fun w => y_pick_t rfl rfl) ?_
        refine dx_u 7 (by kernel_rfl) rfl rfl rfl (fun w => y_assign rfl) ?_
        refine dx_end (by kernel_rfl) ?_
        refine K3 (K6 ?_)
        exact fin1 rfl rfl ⟨_, ⟨by rw [hx.spec]; simp [specB, *], rfl⟩, ((stkL_shut (hO.ks [.b s, .p p])).ks [.o a, .o s]).two⟩
      · refine dx_pass 2 (by kernel_rfl) rfl rfl rfl ?_
        refine dx_pass 3 (by kernel_rfl) rfl rfl rfl ?_
        refine dx_pass 4 (by kernel_rfl) rfl rfl rfl ?_
        refine dx_close 5 (by kernel_rfl) rfl rfl ?_
        refine M2 (o_done (da_phase _ [] (SO.ks [] hO) ?_))
        refine dx_u 6 (by kernel_rfl) rfl rfl rfl (fun w => y_pick_f rfl rfl) ?_
        refine dx_u 7 (by kernel_rfl) rfl rfl rfl (fun w => y_assign rfl) ?_
        refine dx_end (by kernel_rfl) ?_
        refine K3 (K6 ?_)
        exact fin1 rfl rfl ⟨_, ⟨by rw [hx.spec]; simp [specB, *], rfl⟩, ((stkL_shut (hO.ks [.b s, .p p])).ks [.o a, .o s]).two⟩
end Go.Proofs.YtoohapbaelmkcaaGreat
end
