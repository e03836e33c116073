/- Contracts. No conditions. -/
import Derived.Test.YtldefnpobjabpaaGreatCQ0
import Derived.Shelf.Sort.Plain
import Derived.Shelf.Slices.In.SortNone
set_option linter.all false
set_option maxHeartbeats 8000000
set_option maxRecDepth 10000
namespace Go.Proofs.YtldefnpobjabpaaGreat.VM
open Go Go.RowKit Go.Proofs
open Go.Shelf
def lays189_ren : Go.Shelf.Ren := ⟨fun | 189 => 226 | 125 => 263 | 257 => 262 | 128 => 284 | 129 => 285 | 294 => 275 | 295 => 276 | 296 => 277 | 297 => 278 | 298 => 279 | 299 => 280 | 216 => 281 | 300 => 282 | 301 => 283 | 328 => 288 | 329 => 289 | 330 => 290 | 331 => 291 | 332 => 292 | 215 => 293 | 343 => 296 | n => n, fun | 28 => 24 | 3 => 3 | 46 => 246 | 0 => 0 | 51 => 272 | 53 => 275 | 4 => 4 | 183 => 280 | 182 => 279 | 131 => 285 | 5 => 5 | 9 => 9 | 218 => 290 | 222 => 294 | 228 => 299 | 229 => 300 | n => n, fun | n => n⟩
theorem lays189 : Go.Proofs.Lays.n189 Tryz.prog lays189_ren := {
 mixed := by kernel_rfl
 f125 := Tryz.func263.trans (congrArg some (by kernel_rfl))
 f128 := Tryz.func284.trans (congrArg some (by kernel_rfl))
 f129 := Tryz.func285.trans (congrArg some (by kernel_rfl))
 f189 := Tryz.func226.trans (congrArg some (by kernel_rfl))
 f215 := Tryz.func293.trans (congrArg some (by kernel_rfl))
 f216 := Tryz.func281.trans (congrArg some (by kernel_rfl))
 f257 := Tryz.func262.trans (congrArg some (by kernel_rfl))
 f294 := Tryz.func275.trans (congrArg some (by kernel_rfl))
 f295 := Tryz.func276.trans (congrArg some (by kernel_rfl))
 f296 := Tryz.func277.trans (congrArg some (by kernel_rfl))
 f297 := Tryz.func278.trans (congrArg some (by kernel_rfl))
 f298 := Tryz.func279.trans (congrArg some (by kernel_rfl))
 f299 := Tryz.func280.trans (congrArg some (by kernel_rfl))
 f300 := Tryz.func282.trans (congrArg some (by kernel_rfl))
 f301 := Tryz.func283.trans (congrArg some (by kernel_rfl))
 f328 := Tryz.func288.trans (congrArg some (by kernel_rfl))
 f329 := Tryz.func289.trans (congrArg some (by kernel_rfl))
 f330 := Tryz.func290.trans (congrArg some (by kernel_rfl))
 f331 := Tryz.func291.trans (congrArg some (by kernel_rfl))
 f332 := Tryz.func292.trans (congrArg some (by kernel_rfl))
 f343 := Tryz.func296.trans (congrArg some (by kernel_rfl))
 t0 := Tryz.underlying0
 a0 := Tryz.isAgg0
 z0 := Tryz.sizeOf0
 v0 := Tryz.zeroValue0
 t3 := Tryz.underlying3
 a3 := Tryz.isAgg3
 z3 := Tryz.sizeOf3
 v3 := Tryz.zeroValue3
 t4 := Tryz.underlying4
 a4 := Tryz.isAgg4
 z4 := Tryz.sizeOf4
 v4 := Tryz.zeroValue4
 t5 := Tryz.underlying5
 a5 := Tryz.isAgg5
 z5 := Tryz.sizeOf5
 v5 := Tryz.zeroValue5
 t9 := Tryz.underlying9
 a9 := Tryz.isAgg9
 z9 := Tryz.sizeOf9
 v9 := Tryz.zeroValue9
 t28 := Tryz.underlying24
 a28 := Tryz.isAgg24
 z28 := Tryz.sizeOf24
 v28 := Tryz.zeroValue24
 t46 := Tryz.underlying246
 a46 := Tryz.isAgg246
 z46 := Tryz.sizeOf246
 v46 := Tryz.zeroValue246
 t51 := Tryz.underlying272
 a51 := Tryz.isAgg272
 z51 := Tryz.sizeOf272
 v51 := Tryz.zeroValue272
 t53 := Tryz.underlying275
 a53 := Tryz.isAgg275
 z53 := Tryz.sizeOf275
 v53 := Tryz.zeroValue275
 t131 := Tryz.underlying285
 a131 := Tryz.isAgg285
 z131 := Tryz.sizeOf285
 v131 := Tryz.zeroValue285
 t182 := Tryz.underlying279
 a182 := Tryz.isAgg279
 z182 := Tryz.sizeOf279
 v182 := Tryz.zeroValue279
 t183 := Tryz.underlying280
 a183 := Tryz.isAgg280
 z183 := Tryz.sizeOf280
 v183 := Tryz.zeroValue280
 t218 := Tryz.underlying290
 a218 := Tryz.isAgg290
 z218 := Tryz.sizeOf290
 v218 := Tryz.zeroValue290
 t222 := Tryz.underlying294
 a222 := Tryz.isAgg294
 z222 := Tryz.sizeOf294
 v222 := Tryz.zeroValue294
 t228 := Tryz.underlying299
 a228 := Tryz.isAgg299
 z228 := Tryz.sizeOf299
 v228 := Tryz.zeroValue299
 t229 := Tryz.underlying300
 a229 := Tryz.isAgg300
 z229 := Tryz.sizeOf300
 v229 := Tryz.zeroValue300 }
theorem sortI_con (l : List Int) (hlen : l.length < 4611686018427387904) : Con Tryz.prog 226 [.h base []] [.rt base .row (tr l)] (RetW (.t []) [] [(base, tr (l.mergeSort fun x y => decide (x ≤ y)))]) :=
 con_ints (S := fun l => l.mergeSort fun x y => decide (x ≤ y)) (fun l => List.length_mergeSort _) (fun blk off cap zs w hH hb hs => Any.slices_Sort_int lays189 blk off cap zs w hH hb hs) (fun p cap w => Any.slices_Sort_int_none lays189 p cap w) l hlen
end Go.Proofs.YtldefnpobjabpaaGreat.VM
