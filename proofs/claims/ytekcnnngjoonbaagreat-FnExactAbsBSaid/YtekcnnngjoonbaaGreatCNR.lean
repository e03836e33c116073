/- Contracts. No conditions. -/
import Derived.Test.YtekcnnngjoonbaaGreatCN0
import Derived.Test.YtekcnnngjoonbaaGreatVmE
import Derived.Shelf.Slices.Reverse
set_option linter.all false
set_option maxHeartbeats 8000000
set_option maxRecDepth 10000
namespace Go.Proofs.YtekcnnngjoonbaaGreat.VM
open Go Go.RowKit Go.Proofs Go.Sort
open Go.Shelf
def lays112_ren : Go.Shelf.Ren := ⟨fun | 112 => 118 | n => n, fun | 28 => 24 | 3 => 3 | 4 => 4 | 0 => 0 | n => n, fun | n => n⟩
theorem lays112 : Go.Proofs.Lays.n112 Tryz.prog lays112_ren := {
 mixed := by kernel_rfl
 f112 := Tryz.func118.trans (congrArg some (by kernel_rfl))
 t0 := Tryz.underlying0
 a0 := Tryz.isAgg0
 z0 := Tryz.sizeOf0
 v0 := Tryz.zeroValue0
 t3 := Tryz.underlying3
 a3 := Tryz.isAgg3
 z3 := Tryz.sizeOf3
 v3 := Tryz.zeroValue3
 t4 := Tryz.underlying4
 a4 := Tryz.isAgg4
 z4 := Tryz.sizeOf4
 v4 := Tryz.zeroValue4
 t28 := Tryz.underlying24
 a28 := Tryz.isAgg24
 z28 := Tryz.sizeOf24
 v28 := Tryz.zeroValue24 }
theorem rev_con (l : List Int) (hlen : l.length < 4611686018427387904) : Con Tryz.prog 118 [.h base []] [.rt base .row (tr l)] (RetW (.t []) [] [(base, tr l.reverse)]) :=
 con_ints (S := List.reverse) (fun l => List.length_reverse) (fun blk off cap zs w hH hb hs => (Any.slices_Reverse_int lays112 blk off cap zs w hH (by omega)).mono fun e w' ⟨h1, n, h2⟩ => ⟨h1, n, #[], by rw [h2, grow, Array.append_empty]⟩) (fun p cap w => Any.slices_Reverse_int_empty lays112 p cap w) l hlen
end Go.Proofs.YtekcnnngjoonbaaGreat.VM
