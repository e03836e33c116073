/- Contracts of functions of the program. No conditions beyond those that each states. -/
import Derived.Test.YtimmbmphfgnelaaCG0
import Derived.Shelf.Slices.Delete
import Derived.Shelf.Slices.SearchI
import Derived.Shelf.Slices.Empties
set_option linter.all false
namespace Go.Proofs.Ytimmbmphfgnelaa.VM
open Go Go.RowKit Go.Proofs
open Go.Shelf
def laysNm221_ren : Go.Shelf.Ren := ⟨fun | 21 => 178 | 27 => 201 | 28 => 202 | 35 => 208 | 39 => 209 | n => n, fun | 22 => 24 | 3 => 3 | 4 => 4 | 0 => 0 | n => n, fun | n => n⟩
theorem laysNm221 : Go.Proofs.Lays2.n21 Try.prog laysNm221_ren := {
 mixed := by kernel_rfl
 f21 := Try.func178.trans (congrArg some (by kernel_rfl))
 f27 := Try.func201.trans (congrArg some (by kernel_rfl))
 f28 := Try.func202.trans (congrArg some (by kernel_rfl))
 f35 := Try.func208.trans (congrArg some (by kernel_rfl))
 f39 := Try.func209.trans (congrArg some (by kernel_rfl))
 t0 := Try.underlying0
 a0 := Try.isAgg0
 z0 := Try.sizeOf0
 v0 := Try.zeroValue0
 t3 := Try.underlying3
 a3 := Try.isAgg3
 z3 := Try.sizeOf3
 v3 := Try.zeroValue3
 t4 := Try.underlying4
 a4 := Try.isAgg4
 z4 := Try.sizeOf4
 v4 := Try.zeroValue4
 t22 := Try.underlying24
 a22 := Try.isAgg24
 z22 := Try.sizeOf24
 v22 := Try.zeroValue24
 i3 := by kernel_rfl }
def laysNm223_ren : Go.Shelf.Ren := ⟨fun | 23 => 107 | n => n, fun | 22 => 24 | 3 => 3 | 4 => 4 | 0 => 0 | n => n, fun | n => n⟩
theorem laysNm223 : Go.Proofs.Lays2.n23 Try.prog laysNm223_ren := {
 mixed := by kernel_rfl
 f23 := Try.func107.trans (congrArg some (by kernel_rfl))
 t0 := Try.underlying0
 a0 := Try.isAgg0
 z0 := Try.sizeOf0
 v0 := Try.zeroValue0
 t3 := Try.underlying3
 a3 := Try.isAgg3
 z3 := Try.sizeOf3
 v3 := Try.zeroValue3
 t4 := Try.underlying4
 a4 := Try.isAgg4
 z4 := Try.sizeOf4
 v4 := Try.zeroValue4
 t22 := Try.underlying24
 a22 := Try.isAgg24
 z22 := Try.sizeOf24
 v22 := Try.zeroValue24
 i3 := by kernel_rfl }
def laysNm225_ren : Go.Shelf.Ren := ⟨fun | 25 => 177 | 31 => 199 | 32 => 200 | 37 => 207 | n => n, fun | 22 => 24 | 3 => 3 | 4 => 4 | 40 => 249 | 0 => 0 | n => n, fun | n => n⟩
theorem laysNm225 : Go.Proofs.Lays2.n25 Try.prog laysNm225_ren := {
 mixed := by kernel_rfl
 f25 := Try.func177.trans (congrArg some (by kernel_rfl))
 f31 := Try.func199.trans (congrArg some (by kernel_rfl))
 f32 := Try.func200.trans (congrArg some (by kernel_rfl))
 f37 := Try.func207.trans (congrArg some (by kernel_rfl))
 t0 := Try.underlying0
 a0 := Try.isAgg0
 z0 := Try.sizeOf0
 v0 := Try.zeroValue0
 t3 := Try.underlying3
 a3 := Try.isAgg3
 z3 := Try.sizeOf3
 v3 := Try.zeroValue3
 t4 := Try.underlying4
 a4 := Try.isAgg4
 z4 := Try.sizeOf4
 v4 := Try.zeroValue4
 t22 := Try.underlying24
 a22 := Try.isAgg24
 z22 := Try.sizeOf24
 v22 := Try.zeroValue24
 t40 := Try.underlying249
 a40 := Try.isAgg249
 z40 := Try.sizeOf249
 v40 := Try.zeroValue249 }
theorem del_con (l : List Int) (i j : Nat) (hij : i < j) (hj : j ≤ l.length) : Con Try.prog 107 [.h base [], .v (iv i), .v (iv j)] [.rt base .row (tr l)] (RetW (.h 0 []) [(0, .row, tr (l.take i ++ l.drop j))] [(base, .j)]) :=
 con_del (fun blk off cap i j zs w h1 h2 h3 h4 h5 => Any.slices_Delete_int laysNm223 blk off cap i j zs w h1 h2 h3 h4 h5) l i j hij hj
theorem ins_con (l : List Int) (i : Nat) (x : Int) (hi : i ≤ l.length) (hlen : l.length ≤ 1000000) : Con Try.prog 178 [.h base [], .v (iv i), .h (base + 1) []] [.rt base .row (tr l), .rt (base + 1) .row (tr [x])] (RetW (.h 0 []) [(0, .row, tr (insI l i x))] [(base, .j), (base + 1, .j)]) := con_ins laysNm221 l i x hi hlen
theorem search_con (l : List Int) (x : Int) (hl : l.Pairwise (· ≤ ·)) (hlen : l.length < 4611686018427387904) : Con Try.prog 177 [.h base [], .v (iv x)] [.rt base .ro (tr l)] (Ret (.t [.v (iv (l.countP (· < x) : Nat)), .v (.bool (l.contains x))]) []) :=
 con_search (fun b off n c zs x w h1 h2 h3 h4 => Any.slices_BinarySearch_int laysNm225 b off n c zs x w h1 h2 h3 h4) (fun a c x w => (Any.slices_BinarySearch_int_empty laysNm225 a c x w).mono fun e w' ⟨he, hw⟩ => ⟨he, 0, hw⟩) l x hl hlen
end Go.Proofs.Ytimmbmphfgnelaa.VM
