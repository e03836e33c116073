/- Contracts of functions of the program. No conditions beyond those that each states. -/
import Derived.Test.YtimmbmphfgnelaaGreatCZ0
import Derived.Shelf.Sort.Plain
import Derived.Shelf.Slices.In.SortNone
set_option linter.all false
namespace Go.Proofs.YtimmbmphfgnelaaGreat.VM
open Go Go.RowKit Go.Proofs
open Go.Shelf
def lays189_ren : Go.Shelf.Ren := ⟨fun | 189 => 194 | 125 => 291 | 257 => 290 | 128 => 327 | 129 => 328 | 294 => 318 | 295 => 319 | 296 => 320 | 297 => 321 | 298 => 322 | 299 => 323 | 216 => 324 | 300 => 325 | 301 => 326 | 328 => 336 | 329 => 337 | 330 => 338 | 331 => 339 | 332 => 340 | 215 => 341 | 343 => 346 | n => n, fun | 28 => 27 | 3 => 3 | 46 => 238 | 0 => 0 | 51 => 343 | 53 => 345 | 4 => 4 | 183 => 335 | 182 => 334 | 131 => 340 | 5 => 5 | 9 => 9 | 218 => 349 | 222 => 353 | 228 => 355 | 229 => 356 | n => n, fun | n => n⟩
theorem lays189 : Go.Proofs.Lays.n189 Tryz.prog lays189_ren := {
 mixed := by kernel_rfl
 f125 := Tryz.func291.trans (congrArg some (by kernel_rfl))
 f128 := Tryz.func327.trans (congrArg some (by kernel_rfl))
 f129 := Tryz.func328.trans (congrArg some (by kernel_rfl))
 f189 := Tryz.func194.trans (congrArg some (by kernel_rfl))
 f215 := Tryz.func341.trans (congrArg some (by kernel_rfl))
 f216 := Tryz.func324.trans (congrArg some (by kernel_rfl))
 f257 := Tryz.func290.trans (congrArg some (by kernel_rfl))
 f294 := Tryz.func318.trans (congrArg some (by kernel_rfl))
 f295 := Tryz.func319.trans (congrArg some (by kernel_rfl))
 f296 := Tryz.func320.trans (congrArg some (by kernel_rfl))
 f297 := Tryz.func321.trans (congrArg some (by kernel_rfl))
 f298 := Tryz.func322.trans (congrArg some (by kernel_rfl))
 f299 := Tryz.func323.trans (congrArg some (by kernel_rfl))
 f300 := Tryz.func325.trans (congrArg some (by kernel_rfl))
 f301 := Tryz.func326.trans (congrArg some (by kernel_rfl))
 f328 := Tryz.func336.trans (congrArg some (by kernel_rfl))
 f329 := Tryz.func337.trans (congrArg some (by kernel_rfl))
 f330 := Tryz.func338.trans (congrArg some (by kernel_rfl))
 f331 := Tryz.func339.trans (congrArg some (by kernel_rfl))
 f332 := Tryz.func340.trans (congrArg some (by kernel_rfl))
 f343 := Tryz.func346.trans (congrArg some (by kernel_rfl))
 t0 := Tryz.underlying0
 a0 := Tryz.isAgg0
 z0 := Tryz.sizeOf0
 v0 := Tryz.zeroValue0
 t3 := Tryz.underlying3
 a3 := Tryz.isAgg3
 z3 := Tryz.sizeOf3
 v3 := Tryz.zeroValue3
 t4 := Tryz.underlying4
 a4 := Tryz.isAgg4
 z4 := Tryz.sizeOf4
 v4 := Tryz.zeroValue4
 t5 := Tryz.underlying5
 a5 := Tryz.isAgg5
 z5 := Tryz.sizeOf5
 v5 := Tryz.zeroValue5
 t9 := Tryz.underlying9
 a9 := Tryz.isAgg9
 z9 := Tryz.sizeOf9
 v9 := Tryz.zeroValue9
 t28 := Tryz.underlying27
 a28 := Tryz.isAgg27
 z28 := Tryz.sizeOf27
 v28 := Tryz.zeroValue27
 t46 := Tryz.underlying238
 a46 := Tryz.isAgg238
 z46 := Tryz.sizeOf238
 v46 := Tryz.zeroValue238
 t51 := Tryz.underlying343
 a51 := Tryz.isAgg343
 z51 := Tryz.sizeOf343
 v51 := Tryz.zeroValue343
 t53 := Tryz.underlying345
 a53 := Tryz.isAgg345
 z53 := Tryz.sizeOf345
 v53 := Tryz.zeroValue345
 t131 := Tryz.underlying340
 a131 := Tryz.isAgg340
 z131 := Tryz.sizeOf340
 v131 := Tryz.zeroValue340
 t182 := Tryz.underlying334
 a182 := Tryz.isAgg334
 z182 := Tryz.sizeOf334
 v182 := Tryz.zeroValue334
 t183 := Tryz.underlying335
 a183 := Tryz.isAgg335
 z183 := Tryz.sizeOf335
 v183 := Tryz.zeroValue335
 t218 := Tryz.underlying349
 a218 := Tryz.isAgg349
 z218 := Tryz.sizeOf349
 v218 := Tryz.zeroValue349
 t222 := Tryz.underlying353
 a222 := Tryz.isAgg353
 z222 := Tryz.sizeOf353
 v222 := Tryz.zeroValue353
 t228 := Tryz.underlying355
 a228 := Tryz.isAgg355
 z228 := Tryz.sizeOf355
 v228 := Tryz.zeroValue355
 t229 := Tryz.underlying356
 a229 := Tryz.isAgg356
 z229 := Tryz.sizeOf356
 v229 := Tryz.zeroValue356 }
theorem sortI_con (l : List Int) (hlen : l.length < 4611686018427387904) : Con Tryz.prog 194 [.h base []] [.rt base .row (tr l)] (RetW (.t []) [] [(base, tr (l.mergeSort fun x y => decide (x ≤ y)))]) :=
 con_ints (S := fun l => l.mergeSort fun x y => decide (x ≤ y)) (fun l => List.length_mergeSort _) (fun blk off cap zs w hH hb hs => Any.slices_Sort_int lays189 blk off cap zs w hH hb hs) (fun p cap w => Any.slices_Sort_int_none lays189 p cap w) l hlen
end Go.Proofs.YtimmbmphfgnelaaGreat.VM
