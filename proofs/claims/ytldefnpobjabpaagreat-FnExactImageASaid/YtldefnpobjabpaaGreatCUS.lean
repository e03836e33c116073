/- Contracts. No conditions. -/
import Derived.Test.YtldefnpobjabpaaGreatCQ0
import Derived.Test.YtldefnpobjabpaaGreatVmD
import Derived.Shelf.Strings.OnBuilder
set_option linter.all false
set_option maxHeartbeats 8000000
set_option maxRecDepth 10000
namespace Go.Proofs.YtldefnpobjabpaaGreat.VM
open Go Go.RowKit Go.Proofs
open Go.Shelf
def lays156_ren : Go.Shelf.Ren := ⟨fun | 156 => 237 | 165 => 267 | 166 => 268 | 169 => 269 | 240 => 286 | 241 => 287 | 276 => 294 | 277 => 295 | n => n, fun | 31 => 243 | 9 => 9 | 3 => 3 | 4 => 4 | 0 => 0 | 20 => 20 | 72 => 265 | 76 => 269 | 70 => 263 | 37 => 241 | 75 => 268 | 127 => 289 | 164 => 296 | 5 => 5 | 80 => 271 | n => n, fun | n => n⟩
theorem lays156 : Go.Proofs.Lays.n156 Tryz.prog lays156_ren := {
 mixed := by kernel_rfl
 f156 := Tryz.func237.trans (congrArg some (by kernel_rfl))
 f165 := Tryz.func267.trans (congrArg some (by kernel_rfl))
 f166 := Tryz.func268.trans (congrArg some (by kernel_rfl))
 f169 := Tryz.func269.trans (congrArg some (by kernel_rfl))
 f240 := Tryz.func286.trans (congrArg some (by kernel_rfl))
 f241 := Tryz.func287.trans (congrArg some (by kernel_rfl))
 f276 := Tryz.func294.trans (congrArg some (by kernel_rfl))
 f277 := Tryz.func295.trans (congrArg some (by kernel_rfl))
 t0 := Tryz.underlying0
 a0 := Tryz.isAgg0
 z0 := Tryz.sizeOf0
 v0 := Tryz.zeroValue0
 t3 := Tryz.underlying3
 a3 := Tryz.isAgg3
 z3 := Tryz.sizeOf3
 v3 := Tryz.zeroValue3
 t4 := Tryz.underlying4
 a4 := Tryz.isAgg4
 z4 := Tryz.sizeOf4
 v4 := Tryz.zeroValue4
 t9 := Tryz.underlying9
 a9 := Tryz.isAgg9
 z9 := Tryz.sizeOf9
 v9 := Tryz.zeroValue9
 t20 := Tryz.underlying20
 a20 := Tryz.isAgg20
 z20 := Tryz.sizeOf20
 v20 := Tryz.zeroValue20
 t31 := Tryz.underlying243
 a31 := Tryz.isAgg243
 z31 := Tryz.sizeOf243
 v31 := Tryz.zeroValue243
 t37 := Tryz.underlying241
 a37 := Tryz.isAgg241
 z37 := Tryz.sizeOf241
 v37 := Tryz.zeroValue241
 t70 := Tryz.underlying263
 a70 := Tryz.isAgg263
 z70 := Tryz.sizeOf263
 v70 := Tryz.zeroValue263
 t72 := Tryz.underlying265
 a72 := Tryz.isAgg265
 z72 := Tryz.sizeOf265
 v72 := Tryz.zeroValue265
 t75 := Tryz.underlying268
 a75 := Tryz.isAgg268
 z75 := Tryz.sizeOf268
 v75 := Tryz.zeroValue268
 t76 := Tryz.underlying269
 a76 := Tryz.isAgg269
 z76 := Tryz.sizeOf269
 v76 := Tryz.zeroValue269
 t127 := Tryz.underlying289
 a127 := Tryz.isAgg289
 z127 := Tryz.sizeOf289
 v127 := Tryz.zeroValue289
 t164 := Tryz.underlying296
 a164 := Tryz.isAgg296
 z164 := Tryz.sizeOf296
 v164 := Tryz.zeroValue296 }
theorem Builder_Extra_156 : Builder.Extra Tryz.prog lays156_ren := {
 sizeBuilder := by kernel_rfl
 liesBuilder := by kernel_rfl
 t5 := Tryz.underlying5
 a5 := Tryz.isAgg5
 z5 := Tryz.sizeOf5
 v5 := Tryz.zeroValue5
 infoByte := by kernel_rfl
 cellsByte := by kernel_rfl
 sizeByte := by kernel_rfl
 neB5 := by decide }
theorem join_con (l : List ByteArray) (hN : l.length ≤ 140737488355328) (hs : (joinB l).size ≤ 140737488355328) : Con Tryz.prog 237 [.h base [], .v (.string ByteArray.empty)] [.rt base .ro (tr l)] (fun y _ => y = .v (.string (joinB l))) :=
 con_join (fun bk o c xs w h1 h2 h3 h4 h5 => Any.strings_Join lays156 Builder_Extra_156 bk o c xs ByteArray.empty w h1 h2 h3 h4 h5) (fun a c w => Any.strings_Join_none lays156 Builder_Extra_156 a c ByteArray.empty w) l hN hs
end Go.Proofs.YtldefnpobjabpaaGreat.VM
