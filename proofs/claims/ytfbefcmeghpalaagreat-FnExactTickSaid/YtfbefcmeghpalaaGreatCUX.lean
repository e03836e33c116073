/- Contracts of functions of the program. No conditions beyond those that each states. -/
import Derived.Test.YtfbefcmeghpalaaGreatCU0
import Derived.Shelf.Sort.Plain
import Derived.Shelf.Slices.In.SortNone
import Derived.Shelf.Slices.Delete
set_option linter.all false
set_option maxHeartbeats 8000000
set_option maxRecDepth 10000
namespace Go.Proofs.YtfbefcmeghpalaaGreat.VM
open Go Go.RowKit Go.Proofs
open Go.Shelf
def lays189_ren : Go.Shelf.Ren := ⟨fun | 189 => 200 | 125 => 266 | 257 => 265 | 128 => 310 | 129 => 311 | 294 => 301 | 295 => 302 | 296 => 303 | 297 => 304 | 298 => 305 | 299 => 306 | 216 => 307 | 300 => 308 | 301 => 309 | 328 => 325 | 329 => 326 | 330 => 327 | 331 => 328 | 332 => 329 | 215 => 330 | 343 => 334 | n => n, fun | 28 => 29 | 3 => 3 | 46 => 244 | 0 => 0 | 51 => 272 | 53 => 274 | 4 => 4 | 183 => 266 | 182 => 265 | 131 => 240 | 5 => 5 | 9 => 9 | 218 => 282 | 222 => 286 | 228 => 291 | 229 => 292 | n => n, fun | n => n⟩
theorem lays189 : Go.Proofs.Lays.n189 Tryz.prog lays189_ren := {
 mixed := by kernel_rfl
 f125 := Tryz.func266.trans (congrArg some (by kernel_rfl))
 f128 := Tryz.func310.trans (congrArg some (by kernel_rfl))
 f129 := Tryz.func311.trans (congrArg some (by kernel_rfl))
 f189 := Tryz.func200.trans (congrArg some (by kernel_rfl))
 f215 := Tryz.func330.trans (congrArg some (by kernel_rfl))
 f216 := Tryz.func307.trans (congrArg some (by kernel_rfl))
 f257 := Tryz.func265.trans (congrArg some (by kernel_rfl))
 f294 := Tryz.func301.trans (congrArg some (by kernel_rfl))
 f295 := Tryz.func302.trans (congrArg some (by kernel_rfl))
 f296 := Tryz.func303.trans (congrArg some (by kernel_rfl))
 f297 := Tryz.func304.trans (congrArg some (by kernel_rfl))
 f298 := Tryz.func305.trans (congrArg some (by kernel_rfl))
 f299 := Tryz.func306.trans (congrArg some (by kernel_rfl))
 f300 := Tryz.func308.trans (congrArg some (by kernel_rfl))
 f301 := Tryz.func309.trans (congrArg some (by kernel_rfl))
 f328 := Tryz.func325.trans (congrArg some (by kernel_rfl))
 f329 := Tryz.func326.trans (congrArg some (by kernel_rfl))
 f330 := Tryz.func327.trans (congrArg some (by kernel_rfl))
 f331 := Tryz.func328.trans (congrArg some (by kernel_rfl))
 f332 := Tryz.func329.trans (congrArg some (by kernel_rfl))
 f343 := Tryz.func334.trans (congrArg some (by kernel_rfl))
 t0 := Tryz.underlying0
 a0 := Tryz.isAgg0
 z0 := Tryz.sizeOf0
 v0 := Tryz.zeroValue0
 t3 := Tryz.underlying3
 a3 := Tryz.isAgg3
 z3 := Tryz.sizeOf3
 v3 := Tryz.zeroValue3
 t4 := Tryz.underlying4
 a4 := Tryz.isAgg4
 z4 := Tryz.sizeOf4
 v4 := Tryz.zeroValue4
 t5 := Tryz.underlying5
 a5 := Tryz.isAgg5
 z5 := Tryz.sizeOf5
 v5 := Tryz.zeroValue5
 t9 := Tryz.underlying9
 a9 := Tryz.isAgg9
 z9 := Tryz.sizeOf9
 v9 := Tryz.zeroValue9
 t28 := Tryz.underlying29
 a28 := Tryz.isAgg29
 z28 := Tryz.sizeOf29
 v28 := Tryz.zeroValue29
 t46 := Tryz.underlying244
 a46 := Tryz.isAgg244
 z46 := Tryz.sizeOf244
 v46 := Tryz.zeroValue244
 t51 := Tryz.underlying272
 a51 := Tryz.isAgg272
 z51 := Tryz.sizeOf272
 v51 := Tryz.zeroValue272
 t53 := Tryz.underlying274
 a53 := Tryz.isAgg274
 z53 := Tryz.sizeOf274
 v53 := Tryz.zeroValue274
 t131 := Tryz.underlying240
 a131 := Tryz.isAgg240
 z131 := Tryz.sizeOf240
 v131 := Tryz.zeroValue240
 t182 := Tryz.underlying265
 a182 := Tryz.isAgg265
 z182 := Tryz.sizeOf265
 v182 := Tryz.zeroValue265
 t183 := Tryz.underlying266
 a183 := Tryz.isAgg266
 z183 := Tryz.sizeOf266
 v183 := Tryz.zeroValue266
 t218 := Tryz.underlying282
 a218 := Tryz.isAgg282
 z218 := Tryz.sizeOf282
 v218 := Tryz.zeroValue282
 t222 := Tryz.underlying286
 a222 := Tryz.isAgg286
 z222 := Tryz.sizeOf286
 v222 := Tryz.zeroValue286
 t228 := Tryz.underlying291
 a228 := Tryz.isAgg291
 z228 := Tryz.sizeOf291
 v228 := Tryz.zeroValue291
 t229 := Tryz.underlying292
 a229 := Tryz.isAgg292
 z229 := Tryz.sizeOf292
 v229 := Tryz.zeroValue292 }
def laysNm223_ren : Go.Shelf.Ren := ⟨fun | 23 => 248 | n => n, fun | 22 => 29 | 3 => 3 | 4 => 4 | 0 => 0 | n => n, fun | n => n⟩
theorem laysNm223 : Go.Proofs.Lays2.n23 Tryz.prog laysNm223_ren := {
 mixed := by kernel_rfl
 f23 := Tryz.func248.trans (congrArg some (by kernel_rfl))
 t0 := Tryz.underlying0
 a0 := Tryz.isAgg0
 z0 := Tryz.sizeOf0
 v0 := Tryz.zeroValue0
 t3 := Tryz.underlying3
 a3 := Tryz.isAgg3
 z3 := Tryz.sizeOf3
 v3 := Tryz.zeroValue3
 t4 := Tryz.underlying4
 a4 := Tryz.isAgg4
 z4 := Tryz.sizeOf4
 v4 := Tryz.zeroValue4
 t22 := Tryz.underlying29
 a22 := Tryz.isAgg29
 z22 := Tryz.sizeOf29
 v22 := Tryz.zeroValue29
 i3 := by kernel_rfl }
theorem sortI_con (l : List Int) (hlen : l.length < 4611686018427387904) : Con Tryz.prog 200 [.h base []] [.rt base .row (tr l)] (RetW (.t []) [] [(base, tr (l.mergeSort fun x y => decide (x ≤ y)))]) :=
 con_ints (S := fun l => l.mergeSort fun x y => decide (x ≤ y)) (fun l => List.length_mergeSort _) (fun blk off cap zs w hH hb hs => Any.slices_Sort_int lays189 blk off cap zs w hH hb hs) (fun p cap w => Any.slices_Sort_int_none lays189 p cap w) l hlen
theorem del_con (l : List Int) (i j : Nat) (hij : i < j) (hj : j ≤ l.length) : Con Tryz.prog 248 [.h base [], .v (iv i), .v (iv j)] [.rt base .row (tr l)] (RetW (.h 0 []) [(0, .row, tr (l.take i ++ l.drop j))] [(base, .j)]) :=
 con_del (fun blk off cap i j zs w h1 h2 h3 h4 h5 => Any.slices_Delete_int laysNm223 blk off cap i j zs w h1 h2 h3 h4 h5) l i j hij hj
end Go.Proofs.YtfbefcmeghpalaaGreat.VM
