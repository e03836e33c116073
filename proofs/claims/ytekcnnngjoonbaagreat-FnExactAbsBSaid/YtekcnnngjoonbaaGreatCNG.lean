/- Contracts. No conditions. -/
import Derived.Test.YtekcnnngjoonbaaGreatCN0
import Derived.Test.YtekcnnngjoonbaaGreatVmE
import Derived.Shelf.Spec.SlicesGrow
set_option linter.all false
set_option maxHeartbeats 8000000
set_option maxRecDepth 10000
namespace Go.Proofs.YtekcnnngjoonbaaGreat.VM
open Go Go.RowKit Go.Proofs Go.Shelf
def renG : Go.Shelf.Ren := ⟨fun | 4 => 119 | n => n, fun | 22 => 24 | 25 => 3 | n => n, fun n => n⟩
theorem laysG : Go.Proofs.Lays8.n4 Tryz.prog renG := {
 mixed := by kernel_rfl
 f4 := ⟨"slices.Grow[[]int,int]", by decide, Tryz.func119.trans (congrArg some (by kernel_rfl))⟩
 t0 := by kernel_rfl
 a0 := fun w => by kernel_rfl
 z0 := fun w => by kernel_rfl
 v0 := fun w => by kernel_rfl
 t3 := by kernel_rfl
 a3 := fun w => by kernel_rfl
 z3 := fun w => by kernel_rfl
 v3 := fun w => by kernel_rfl
 t4 := by kernel_rfl
 a4 := fun w => by kernel_rfl
 z4 := fun w => by kernel_rfl
 v4 := fun w => by kernel_rfl
 t9 := by kernel_rfl
 a9 := fun w => by kernel_rfl
 z9 := fun w => by kernel_rfl
 v9 := fun w => by kernel_rfl
 t20 := by kernel_rfl
 a20 := fun w => by kernel_rfl
 z20 := fun w => by kernel_rfl
 v20 := fun w => by kernel_rfl
 t22 := by kernel_rfl
 a22 := fun w => by kernel_rfl
 z22 := fun w => by kernel_rfl
 v22 := fun w => by kernel_rfl }
theorem t3_bytes : Tryz.t3.bytes = 8 := by kernel_rfl
theorem grow_con (n : Nat) (hn : n * 8 ≤ 140737488355328) : Con Tryz.prog 119 [.v (.slice none 0 0), .v (iv n)] [] (RetW (.h 0 []) [(0, .row, tr ([] : List Int))] []) :=
 con_grow (fun w => Any8.slices_Grow_room laysG none 0 0 0 w (by omega) (by omega) (by omega) (by omega))
  (fun n w h0 h1 => (Any8.slices_Grow_grow laysG Tryz.t3 (.int .i64 0) (by kernel_rfl) (by kernel_rfl) (by decide) none 0 0 n [] w (by omega) (by omega) (by rw [t3_bytes]; omega) (by omega) rfl (fun _ => rfl) (fun a ha => by cases ha)).mono fun e w' ⟨h2, h3⟩ => by
   refine ⟨grownCap w (0 + n) 0 (renG.t 25), _, _, grownCap_le_maxLen w _ _ _ (by simp only [maxLen]; omega), ?_, h2, h3⟩
   have := grownCap_ge w n 0 (renG.t 25)
   rw [Nat.zero_add]
   simp [Builtin.zeroCells, Value.cells]
   omega) n hn
end Go.Proofs.YtekcnnngjoonbaaGreat.VM
