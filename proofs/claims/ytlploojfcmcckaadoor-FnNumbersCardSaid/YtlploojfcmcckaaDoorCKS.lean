/- Contracts of functions of the program. No conditions beyond those that each states. -/
import Derived.Test.YtlploojfcmcckaaDoorCK0
import Derived.Test.YtlploojfcmcckaaDoorVmD
import Derived.Shelf.Strconv.Itoa3
import Derived.Lib.AtoiAllCases
set_option linter.all false
set_option maxHeartbeats 8000000
set_option maxRecDepth 10000
namespace Go.Proofs.YtlploojfcmcckaaDoor.VM
open Go Go.RowKit Go.Proofs
open Go.Shelf
def laysM171_ren : Go.Shelf.Ren := ⟨fun | 171 => 31 | 243 => 52 | 246 => 69 | 283 => 82 | 284 => 83 | 285 => 84 | 286 => 85 | 129 => 93 | 317 => 92 | 318 => 94 | 319 => 95 | 320 => 96 | 337 => 103 | 338 => 104 | n => n, fun | 3 => 3 | 9 => 9 | 2 => 2 | 4 => 4 | 171 => 94 | 0 => 0 | 53 => 95 | 37 => 34 | 5 => 5 | 173 => 98 | 212 => 109 | 51 => 110 | 20 => 20 | 213 => 111 | 46 => 68 | 232 => 121 | 233 => 122 | n => n, fun | 17 => 3 | 18 => 4 | 19 => 5 | n => n⟩
theorem laysM171 : Go.Proofs.LaysM.n171 Tryd.prog laysM171_ren := {
 mixed := by kernel_rfl
 f129 := Tryd.func93.trans (congrArg some (by kernel_rfl))
 f171 := Tryd.func31.trans (congrArg some (by kernel_rfl))
 f243 := Tryd.func52.trans (congrArg some (by kernel_rfl))
 f246 := Tryd.func69.trans (congrArg some (by kernel_rfl))
 f283 := Tryd.func82.trans (congrArg some (by kernel_rfl))
 f284 := Tryd.func83.trans (congrArg some (by kernel_rfl))
 f285 := Tryd.func84.trans (congrArg some (by kernel_rfl))
 f286 := Tryd.func85.trans (congrArg some (by kernel_rfl))
 f317 := Tryd.func92.trans (congrArg some (by kernel_rfl))
 f318 := Tryd.func94.trans (congrArg some (by kernel_rfl))
 f319 := Tryd.func95.trans (congrArg some (by kernel_rfl))
 f320 := Tryd.func96.trans (congrArg some (by kernel_rfl))
 f337 := Tryd.func103.trans (congrArg some (by kernel_rfl))
 f338 := Tryd.func104.trans (congrArg some (by kernel_rfl))
 t0 := Tryd.underlying0
 a0 := Tryd.isAgg0
 z0 := Tryd.sizeOf0
 v0 := Tryd.zeroValue0
 t2 := Tryd.underlying2
 a2 := Tryd.isAgg2
 z2 := Tryd.sizeOf2
 v2 := Tryd.zeroValue2
 t3 := Tryd.underlying3
 a3 := Tryd.isAgg3
 z3 := Tryd.sizeOf3
 v3 := Tryd.zeroValue3
 t4 := Tryd.underlying4
 a4 := Tryd.isAgg4
 z4 := Tryd.sizeOf4
 v4 := Tryd.zeroValue4
 t5 := Tryd.underlying5
 a5 := Tryd.isAgg5
 z5 := Tryd.sizeOf5
 v5 := Tryd.zeroValue5
 t9 := Tryd.underlying9
 a9 := Tryd.isAgg9
 z9 := Tryd.sizeOf9
 v9 := Tryd.zeroValue9
 t20 := Tryd.underlying20
 a20 := Tryd.isAgg20
 z20 := Tryd.sizeOf20
 v20 := Tryd.zeroValue20
 t37 := Tryd.underlying34
 a37 := Tryd.isAgg34
 z37 := Tryd.sizeOf34
 v37 := Tryd.zeroValue34
 t46 := Tryd.underlying68
 a46 := Tryd.isAgg68
 z46 := Tryd.sizeOf68
 v46 := Tryd.zeroValue68
 t51 := Tryd.underlying110
 a51 := Tryd.isAgg110
 z51 := Tryd.sizeOf110
 v51 := Tryd.zeroValue110
 t53 := Tryd.underlying95
 a53 := Tryd.isAgg95
 z53 := Tryd.sizeOf95
 v53 := Tryd.zeroValue95
 t171 := Tryd.underlying94
 a171 := Tryd.isAgg94
 z171 := Tryd.sizeOf94
 v171 := Tryd.zeroValue94
 t173 := Tryd.underlying98
 a173 := Tryd.isAgg98
 z173 := Tryd.sizeOf98
 v173 := Tryd.zeroValue98
 t212 := Tryd.underlying109
 a212 := Tryd.isAgg109
 z212 := Tryd.sizeOf109
 v212 := Tryd.zeroValue109
 t213 := Tryd.underlying111
 a213 := Tryd.isAgg111
 z213 := Tryd.sizeOf111
 t232 := Tryd.underlying121
 a232 := Tryd.isAgg121
 z232 := Tryd.sizeOf121
 v232 := Tryd.zeroValue121
 t233 := Tryd.underlying122
 a233 := Tryd.isAgg122
 z233 := Tryd.sizeOf122
 v233 := Tryd.zeroValue122
 g17 := by kernel_rfl
 g18 := by kernel_rfl
 g19 := by kernel_rfl
 i0 := by kernel_rfl
 i2 := by kernel_rfl
 i3 := by kernel_rfl
 i4 := by kernel_rfl
 i5 := by kernel_rfl
 i9 := by kernel_rfl
 i20 := by kernel_rfl
 i37 := by kernel_rfl
 i46 := by kernel_rfl
 i51 := by kernel_rfl
 i53 := by kernel_rfl
 i171 := by kernel_rfl
 i173 := by kernel_rfl
 i212 := by kernel_rfl
 i232 := by kernel_rfl
 i233 := by kernel_rfl
 m17 := by kernel_rfl
 m18 := by kernel_rfl
 m19 := by kernel_rfl }
def decB (n : Int) : ByteArray := ⟨(Lib.itoa n).toArray⟩
theorem itoa_con (n : Int) (h0 : -9223372036854775808 ≤ n) (h1 : n ≤ 9223372036854775807) : Con Tryd.prog 31 [.v (iv n)] [] (fun y _ => y = .v (.string (decB n))) :=
 con_plain (xs := [iv n]) fun w ht => Any.strconv_Itoa laysM171 n h0 h1 w (pow10_laid ht (show Tryd.prog.globalNamed "internal/strconv.uint64pow10" = some 3 by kernel_rfl))
end Go.Proofs.YtlploojfcmcckaaDoor.VM
