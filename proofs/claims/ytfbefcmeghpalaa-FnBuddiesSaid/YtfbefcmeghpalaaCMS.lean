/- Contracts of functions of the program. No conditions beyond those that each states. -/
import Derived.Test.YtfbefcmeghpalaaCM0
import Derived.Test.YtfbefcmeghpalaaCMR
import Derived.Shelf.Slices.Delete
import Derived.Shelf.Slices.SearchI
import Derived.Shelf.Slices.Empties
set_option linter.all false
namespace Go.Proofs.Ytfbefcmeghpalaa.VM
open Go Go.RowKit Go.Proofs
open Go.Shelf
def laysNm223_ren : Go.Shelf.Ren := ⟨fun | 23 => 30 | n => n, fun | 22 => 35 | 3 => 3 | 4 => 4 | 0 => 0 | n => n, fun | n => n⟩
theorem laysNm223 : Go.Proofs.Lays2.n23 Try.prog laysNm223_ren := {
 mixed := by kernel_rfl
 f23 := Try.func30.trans (congrArg some (by kernel_rfl))
 t0 := Try.underlying0
 a0 := Try.isAgg0
 z0 := Try.sizeOf0
 v0 := Try.zeroValue0
 t3 := Try.underlying3
 a3 := Try.isAgg3
 z3 := Try.sizeOf3
 v3 := Try.zeroValue3
 t4 := Try.underlying4
 a4 := Try.isAgg4
 z4 := Try.sizeOf4
 v4 := Try.zeroValue4
 t22 := Try.underlying35
 a22 := Try.isAgg35
 z22 := Try.sizeOf35
 v22 := Try.zeroValue35
 i3 := by kernel_rfl }
def laysNm225_ren : Go.Shelf.Ren := ⟨fun | 25 => 73 | 31 => 95 | 32 => 96 | 37 => 106 | n => n, fun | 22 => 35 | 3 => 3 | 4 => 4 | 40 => 105 | 0 => 0 | n => n, fun | n => n⟩
theorem laysNm225 : Go.Proofs.Lays2.n25 Try.prog laysNm225_ren := {
 mixed := by kernel_rfl
 f25 := Try.func73.trans (congrArg some (by kernel_rfl))
 f31 := Try.func95.trans (congrArg some (by kernel_rfl))
 f32 := Try.func96.trans (congrArg some (by kernel_rfl))
 f37 := Try.func106.trans (congrArg some (by kernel_rfl))
 t0 := Try.underlying0
 a0 := Try.isAgg0
 z0 := Try.sizeOf0
 v0 := Try.zeroValue0
 t3 := Try.underlying3
 a3 := Try.isAgg3
 z3 := Try.sizeOf3
 v3 := Try.zeroValue3
 t4 := Try.underlying4
 a4 := Try.isAgg4
 z4 := Try.sizeOf4
 v4 := Try.zeroValue4
 t22 := Try.underlying35
 a22 := Try.isAgg35
 z22 := Try.sizeOf35
 v22 := Try.zeroValue35
 t40 := Try.underlying105
 a40 := Try.isAgg105
 z40 := Try.sizeOf105
 v40 := Try.zeroValue105 }
theorem del_con (l : List Int) (i j : Nat) (hij : i < j) (hj : j ≤ l.length) : Con Try.prog 30 [.h base [], .v (iv i), .v (iv j)] [.rt base .row (tr l)] (RetW (.h 0 []) [(0, .row, tr (l.take i ++ l.drop j))] [(base, .j)]) :=
 con_del (fun blk off cap i j zs w h1 h2 h3 h4 h5 => Any.slices_Delete_int laysNm223 blk off cap i j zs w h1 h2 h3 h4 h5) l i j hij hj
theorem ins_con (l : List Int) (i : Nat) (x : Int) (hi : i ≤ l.length) (hlen : l.length ≤ 1000000) : Con Try.prog 74 [.h base [], .v (iv i), .h (base + 1) []] [.rt base .row (tr l), .rt (base + 1) .row (tr [x])] (RetW (.h 0 []) [(0, .row, tr (insI l i x))] [(base, .j), (base + 1, .j)]) := con_insI ins_74 l i x hi hlen
theorem search_con (l : List Int) (x : Int) (hl : l.Pairwise (· ≤ ·)) (hlen : l.length < 4611686018427387904) : Con Try.prog 73 [.h base [], .v (iv x)] [.rt base .ro (tr l)] (Ret (.t [.v (iv (l.countP (· < x) : Nat)), .v (.bool (l.contains x))]) []) :=
 con_search (fun b off n c zs x w h1 h2 h3 h4 => Any.slices_BinarySearch_int laysNm225 b off n c zs x w h1 h2 h3 h4) (fun a c x w => (Any.slices_BinarySearch_int_empty laysNm225 a c x w).mono fun e w' ⟨he, hw⟩ => ⟨he, 0, hw⟩) l x hl hlen
end Go.Proofs.Ytfbefcmeghpalaa.VM
