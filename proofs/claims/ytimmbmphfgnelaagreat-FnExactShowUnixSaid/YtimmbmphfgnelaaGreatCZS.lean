/- Contracts of functions of the program. No conditions beyond those that each states. -/
import Derived.Test.YtimmbmphfgnelaaGreatCZY
import Derived.Test.YtimmbmphfgnelaaGreatVmD
import Derived.Shelf.Strings.OnBuilder
set_option linter.all false
namespace Go.Proofs.YtimmbmphfgnelaaGreat.VM
open Go Go.RowKit Go.Proofs
open Go.Shelf
def lays156_ren : Go.Shelf.Ren := ⟨fun | 156 => 84 | 165 => 210 | 166 => 211 | 169 => 212 | 240 => 297 | 241 => 298 | 276 => 329 | 277 => 330 | n => n, fun | 31 => 122 | 9 => 9 | 3 => 3 | 4 => 4 | 0 => 0 | 20 => 20 | 72 => 241 | 76 => 245 | 70 => 239 | 37 => 237 | 75 => 244 | 127 => 316 | 164 => 346 | 5 => 5 | 80 => 247 | n => n, fun | n => n⟩
theorem lays156 : Go.Proofs.Lays.n156 Tryz.prog lays156_ren := {
 mixed := by kernel_rfl
 f156 := Tryz.func84.trans (congrArg some (by kernel_rfl))
 f165 := Tryz.func210.trans (congrArg some (by kernel_rfl))
 f166 := Tryz.func211.trans (congrArg some (by kernel_rfl))
 f169 := Tryz.func212.trans (congrArg some (by kernel_rfl))
 f240 := Tryz.func297.trans (congrArg some (by kernel_rfl))
 f241 := Tryz.func298.trans (congrArg some (by kernel_rfl))
 f276 := Tryz.func329.trans (congrArg some (by kernel_rfl))
 f277 := Tryz.func330.trans (congrArg some (by kernel_rfl))
 t0 := Tryz.underlying0
 a0 := Tryz.isAgg0
 z0 := Tryz.sizeOf0
 v0 := Tryz.zeroValue0
 t3 := Tryz.underlying3
 a3 := Tryz.isAgg3
 z3 := Tryz.sizeOf3
 v3 := Tryz.zeroValue3
 t4 := Tryz.underlying4
 a4 := Tryz.isAgg4
 z4 := Tryz.sizeOf4
 v4 := Tryz.zeroValue4
 t9 := Tryz.underlying9
 a9 := Tryz.isAgg9
 z9 := Tryz.sizeOf9
 v9 := Tryz.zeroValue9
 t20 := Tryz.underlying20
 a20 := Tryz.isAgg20
 z20 := Tryz.sizeOf20
 v20 := Tryz.zeroValue20
 t31 := Tryz.underlying122
 a31 := Tryz.isAgg122
 z31 := Tryz.sizeOf122
 v31 := Tryz.zeroValue122
 t37 := Tryz.underlying237
 a37 := Tryz.isAgg237
 z37 := Tryz.sizeOf237
 v37 := Tryz.zeroValue237
 t70 := Tryz.underlying239
 a70 := Tryz.isAgg239
 z70 := Tryz.sizeOf239
 v70 := Tryz.zeroValue239
 t72 := Tryz.underlying241
 a72 := Tryz.isAgg241
 z72 := Tryz.sizeOf241
 v72 := Tryz.zeroValue241
 t75 := Tryz.underlying244
 a75 := Tryz.isAgg244
 z75 := Tryz.sizeOf244
 v75 := Tryz.zeroValue244
 t76 := Tryz.underlying245
 a76 := Tryz.isAgg245
 z76 := Tryz.sizeOf245
 v76 := Tryz.zeroValue245
 t127 := Tryz.underlying316
 a127 := Tryz.isAgg316
 z127 := Tryz.sizeOf316
 v127 := Tryz.zeroValue316
 t164 := Tryz.underlying346
 a164 := Tryz.isAgg346
 z164 := Tryz.sizeOf346
 v164 := Tryz.zeroValue346 }
theorem Builder_Extra_156 : Builder.Extra Tryz.prog lays156_ren := {
 sizeBuilder := by kernel_rfl
 liesBuilder := by kernel_rfl
 t5 := Tryz.underlying5
 a5 := Tryz.isAgg5
 z5 := Tryz.sizeOf5
 v5 := Tryz.zeroValue5
 infoByte := by kernel_rfl
 cellsByte := by kernel_rfl
 sizeByte := by kernel_rfl
 neB5 := by decide }
theorem join_con (l : List ByteArray) (hN : l.length ≤ 140737488355328) (hs : (joinB l).size ≤ 140737488355328) : Con Tryz.prog 84 [.h base [], .v (.string ByteArray.empty)] [.rt base .ro (tr l)] (fun y _ => y = .v (.string (joinB l))) :=
 con_join (fun bk o c xs w h1 h2 h3 h4 h5 => Any.strings_Join lays156 Builder_Extra_156 bk o c xs ByteArray.empty w h1 h2 h3 h4 h5) (fun a c w => Any.strings_Join_none lays156 Builder_Extra_156 a c ByteArray.empty w) l hN hs
end Go.Proofs.YtimmbmphfgnelaaGreat.VM
