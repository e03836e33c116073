/- Contracts. No conditions. -/
import Derived.Test.YthjfgpkjooaahaaGreatCE0
import Derived.Shelf.Sort.Plain
import Derived.Shelf.Slices.In.SortNone
set_option linter.all false
set_option maxHeartbeats 8000000
set_option maxRecDepth 10000
namespace Go.Proofs.YthjfgpkjooaahaaGreat.VM
open Go Go.RowKit Go.Proofs
open Go.Shelf
def lays189_ren : Go.Shelf.Ren := ⟨fun | 189 => 274 | 125 => 341 | 257 => 340 | 128 => 374 | 129 => 375 | 294 => 365 | 295 => 366 | 296 => 367 | 297 => 368 | 298 => 369 | 299 => 370 | 216 => 371 | 300 => 372 | 301 => 373 | 328 => 382 | 329 => 383 | 330 => 384 | 331 => 385 | 332 => 386 | 215 => 387 | 343 => 392 | n => n, fun | 28 => 27 | 3 => 3 | 46 => 302 | 0 => 0 | 51 => 342 | 53 => 345 | 4 => 4 | 183 => 368 | 182 => 367 | 131 => 349 | 5 => 5 | 9 => 9 | 218 => 376 | 222 => 380 | 228 => 382 | 229 => 383 | n => n, fun | n => n⟩
theorem lays189 : Go.Proofs.Lays.n189 Tryz.prog lays189_ren := {
 mixed := by kernel_rfl
 f125 := Tryz.func341.trans (congrArg some (by kernel_rfl))
 f128 := Tryz.func374.trans (congrArg some (by kernel_rfl))
 f129 := Tryz.func375.trans (congrArg some (by kernel_rfl))
 f189 := Tryz.func274.trans (congrArg some (by kernel_rfl))
 f215 := Tryz.func387.trans (congrArg some (by kernel_rfl))
 f216 := Tryz.func371.trans (congrArg some (by kernel_rfl))
 f257 := Tryz.func340.trans (congrArg some (by kernel_rfl))
 f294 := Tryz.func365.trans (congrArg some (by kernel_rfl))
 f295 := Tryz.func366.trans (congrArg some (by kernel_rfl))
 f296 := Tryz.func367.trans (congrArg some (by kernel_rfl))
 f297 := Tryz.func368.trans (congrArg some (by kernel_rfl))
 f298 := Tryz.func369.trans (congrArg some (by kernel_rfl))
 f299 := Tryz.func370.trans (congrArg some (by kernel_rfl))
 f300 := Tryz.func372.trans (congrArg some (by kernel_rfl))
 f301 := Tryz.func373.trans (congrArg some (by kernel_rfl))
 f328 := Tryz.func382.trans (congrArg some (by kernel_rfl))
 f329 := Tryz.func383.trans (congrArg some (by kernel_rfl))
 f330 := Tryz.func384.trans (congrArg some (by kernel_rfl))
 f331 := Tryz.func385.trans (congrArg some (by kernel_rfl))
 f332 := Tryz.func386.trans (congrArg some (by kernel_rfl))
 f343 := Tryz.func392.trans (congrArg some (by kernel_rfl))
 t0 := Tryz.underlying0
 a0 := Tryz.isAgg0
 z0 := Tryz.sizeOf0
 v0 := Tryz.zeroValue0
 t3 := Tryz.underlying3
 a3 := Tryz.isAgg3
 z3 := Tryz.sizeOf3
 v3 := Tryz.zeroValue3
 t4 := Tryz.underlying4
 a4 := Tryz.isAgg4
 z4 := Tryz.sizeOf4
 v4 := Tryz.zeroValue4
 t5 := Tryz.underlying5
 a5 := Tryz.isAgg5
 z5 := Tryz.sizeOf5
 v5 := Tryz.zeroValue5
 t9 := Tryz.underlying9
 a9 := Tryz.isAgg9
 z9 := Tryz.sizeOf9
 v9 := Tryz.zeroValue9
 t28 := Tryz.underlying27
 a28 := Tryz.isAgg27
 z28 := Tryz.sizeOf27
 v28 := Tryz.zeroValue27
 t46 := Tryz.underlying302
 a46 := Tryz.isAgg302
 z46 := Tryz.sizeOf302
 v46 := Tryz.zeroValue302
 t51 := Tryz.underlying342
 a51 := Tryz.isAgg342
 z51 := Tryz.sizeOf342
 v51 := Tryz.zeroValue342
 t53 := Tryz.underlying345
 a53 := Tryz.isAgg345
 z53 := Tryz.sizeOf345
 v53 := Tryz.zeroValue345
 t131 := Tryz.underlying349
 a131 := Tryz.isAgg349
 z131 := Tryz.sizeOf349
 v131 := Tryz.zeroValue349
 t182 := Tryz.underlying367
 a182 := Tryz.isAgg367
 z182 := Tryz.sizeOf367
 v182 := Tryz.zeroValue367
 t183 := Tryz.underlying368
 a183 := Tryz.isAgg368
 z183 := Tryz.sizeOf368
 v183 := Tryz.zeroValue368
 t218 := Tryz.underlying376
 a218 := Tryz.isAgg376
 z218 := Tryz.sizeOf376
 v218 := Tryz.zeroValue376
 t222 := Tryz.underlying380
 a222 := Tryz.isAgg380
 z222 := Tryz.sizeOf380
 v222 := Tryz.zeroValue380
 t228 := Tryz.underlying382
 a228 := Tryz.isAgg382
 z228 := Tryz.sizeOf382
 v228 := Tryz.zeroValue382
 t229 := Tryz.underlying383
 a229 := Tryz.isAgg383
 z229 := Tryz.sizeOf383
 v229 := Tryz.zeroValue383 }
theorem sortI_con (l : List Int) (hlen : l.length < 4611686018427387904) : Con Tryz.prog 274 [.h base []] [.rt base .row (tr l)] (RetW (.t []) [] [(base, tr (l.mergeSort fun x y => decide (x ≤ y)))]) :=
 con_ints (S := fun l => l.mergeSort fun x y => decide (x ≤ y)) (fun l => List.length_mergeSort _) (fun blk off cap zs w hH hb hs => Any.slices_Sort_int lays189 blk off cap zs w hH hb hs) (fun p cap w => Any.slices_Sort_int_none lays189 p cap w) l hlen
end Go.Proofs.YthjfgpkjooaahaaGreat.VM
