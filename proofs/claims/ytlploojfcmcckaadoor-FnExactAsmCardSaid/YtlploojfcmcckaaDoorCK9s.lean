/- Contracts of functions of the program. No conditions beyond those that each states. -/
import Derived.Test.YtlploojfcmcckaaDoorCK8
set_option linter.all false
set_option maxHeartbeats 8000000
set_option maxRecDepth 10000
namespace Go.Proofs.YtlploojfcmcckaaDoor.VM
open Go Go.RowKit Go.Proofs
open Go.Shelf
def lays146_ren : Go.Shelf.Ren := ⟨fun | 146 => 66 | 221 => 81 | 268 => 89 | 138 => 90 | 143 => 91 | 195 => 99 | 197 => 100 | 218 => 101 | 219 => 102 | 260 => 105 | 217 => 62 | 225 => 106 | 224 => 107 | 267 => 108 | 266 => 80 | 314 => 109 | n => n, fun | 9 => 9 | 31 => 49 | 3 => 3 | 4 => 4 | 0 => 0 | 105 => 118 | 21 => 21 | 5 => 5 | 46 => 68 | 119 => 123 | 139 => 126 | 138 => 125 | 146 => 127 | 51 => 110 | n => n, fun | 1 => 2 | 3 => 6 | 4 => 7 | n => n⟩
theorem lays146 : Go.Proofs.Lays.n146 Tryd.prog lays146_ren := {
 mixed := by kernel_rfl
 f138 := Tryd.func90.trans (congrArg some (by kernel_rfl))
 f143 := Tryd.func91.trans (congrArg some (by kernel_rfl))
 f146 := Tryd.func66.trans (congrArg some (by kernel_rfl))
 f195 := Tryd.func99.trans (congrArg some (by kernel_rfl))
 f197 := Tryd.func100.trans (congrArg some (by kernel_rfl))
 f217 := Tryd.func62.trans (congrArg some (by kernel_rfl))
 f218 := Tryd.func101.trans (congrArg some (by kernel_rfl))
 f219 := Tryd.func102.trans (congrArg some (by kernel_rfl))
 f221 := Tryd.func81.trans (congrArg some (by kernel_rfl))
 f224 := Tryd.func107.trans (congrArg some (by kernel_rfl))
 f225 := Tryd.func106.trans (congrArg some (by kernel_rfl))
 f260 := Tryd.func105.trans (congrArg some (by kernel_rfl))
 f266 := Tryd.func80.trans (congrArg some (by kernel_rfl))
 f267 := Tryd.func108.trans (congrArg some (by kernel_rfl))
 f268 := Tryd.func89.trans (congrArg some (by kernel_rfl))
 f314 := Tryd.func109.trans (congrArg some (by kernel_rfl))
 t0 := Tryd.underlying0
 a0 := Tryd.isAgg0
 z0 := Tryd.sizeOf0
 v0 := Tryd.zeroValue0
 t3 := Tryd.underlying3
 a3 := Tryd.isAgg3
 z3 := Tryd.sizeOf3
 v3 := Tryd.zeroValue3
 t4 := Tryd.underlying4
 a4 := Tryd.isAgg4
 z4 := Tryd.sizeOf4
 v4 := Tryd.zeroValue4
 t5 := Tryd.underlying5
 a5 := Tryd.isAgg5
 z5 := Tryd.sizeOf5
 v5 := Tryd.zeroValue5
 t9 := Tryd.underlying9
 a9 := Tryd.isAgg9
 z9 := Tryd.sizeOf9
 v9 := Tryd.zeroValue9
 t21 := Tryd.underlying21
 a21 := Tryd.isAgg21
 z21 := Tryd.sizeOf21
 v21 := Tryd.zeroValue21
 t31 := Tryd.underlying49
 a31 := Tryd.isAgg49
 z31 := Tryd.sizeOf49
 v31 := Tryd.zeroValue49
 t46 := Tryd.underlying68
 a46 := Tryd.isAgg68
 z46 := Tryd.sizeOf68
 v46 := Tryd.zeroValue68
 t51 := Tryd.underlying110
 a51 := Tryd.isAgg110
 z51 := Tryd.sizeOf110
 v51 := Tryd.zeroValue110
 t105 := Tryd.underlying118
 a105 := Tryd.isAgg118
 z105 := Tryd.sizeOf118
 v105 := Tryd.zeroValue118
 t119 := Tryd.underlying123
 a119 := Tryd.isAgg123
 z119 := Tryd.sizeOf123
 t138 := Tryd.underlying125
 a138 := Tryd.isAgg125
 z138 := Tryd.sizeOf125
 v138 := Tryd.zeroValue125
 t139 := Tryd.underlying126
 a139 := Tryd.isAgg126
 z139 := Tryd.sizeOf126
 v139 := Tryd.zeroValue126
 t146 := Tryd.underlying127
 a146 := Tryd.isAgg127
 z146 := Tryd.sizeOf127
 v146 := Tryd.zeroValue127
 g1 := by kernel_rfl
 g3 := by kernel_rfl
 g4 := by kernel_rfl }
def lays109_ren : Go.Shelf.Ren := ⟨fun | 109 => 67 | n => n, fun | 31 => 49 | 9 => 9 | 3 => 3 | 0 => 0 | 4 => 4 | n => n, fun | n => n⟩
theorem lays109 : Go.Proofs.Lays.n109 Tryd.prog lays109_ren := {
 mixed := by kernel_rfl
 f109 := Tryd.func67.trans (congrArg some (by kernel_rfl))
 t0 := Tryd.underlying0
 a0 := Tryd.isAgg0
 z0 := Tryd.sizeOf0
 v0 := Tryd.zeroValue0
 t3 := Tryd.underlying3
 a3 := Tryd.isAgg3
 z3 := Tryd.sizeOf3
 v3 := Tryd.zeroValue3
 t4 := Tryd.underlying4
 a4 := Tryd.isAgg4
 z4 := Tryd.sizeOf4
 v4 := Tryd.zeroValue4
 t9 := Tryd.underlying9
 a9 := Tryd.isAgg9
 z9 := Tryd.sizeOf9
 v9 := Tryd.zeroValue9
 t31 := Tryd.underlying49
 a31 := Tryd.isAgg49
 z31 := Tryd.sizeOf49
 v31 := Tryd.zeroValue49 }
end Go.Proofs.YtlploojfcmcckaaDoor.VM
