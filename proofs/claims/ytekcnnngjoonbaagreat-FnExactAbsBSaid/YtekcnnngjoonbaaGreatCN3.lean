/- Contracts. No conditions. -/
import Derived.Test.YtekcnnngjoonbaaGreatCN2
set_option linter.all false
set_option maxHeartbeats 8000000
set_option maxRecDepth 10000
namespace Go.Proofs.YtekcnnngjoonbaaGreat.VM
open Go Go.RowKit Go.Proofs
theorem memK_next {ram fs : List Int} {k : Nat} (h : k < fs.length) : memK ram fs (k + 1) = memK ram fs k ++ frW ram (fs.getD k En.dflt) := by
 unfold memK
 rw [List.take_add_one, List.getElem?_eq_getElem h, List.map_append, List.flatten_append, List.getD_eq_getElem?_getD, List.getElem?_eq_getElem h]
 simp
theorem frW_len (ram : List Int) (f : Int) : (frW ram f).length ≤ 4 := by
 unfold frW
 rw [List.length_take]
 omega
theorem memK_len (ram fs : List Int) : ∀ k, k ≤ fs.length → (memK ram fs k).length ≤ 4 * k
 | 0, _ => by simp [memK]
 | k + 1, h => by
  rw [memK_next (by omega), List.length_append]
  have := memK_len ram fs k (by omega)
  have := frW_len ram (fs.getD k En.dflt)
  omega
theorem frameWords_con (ram : List Int) (f : Int) (hr : ram.length = 64) (h0 : 0 ≤ f) (h1 : f ≤ 15) : Con Tryz.prog 117 [.h base [], .v (iv f)] [.rt base .ro (tr ram)] (RetW (.a base [] 1 (f * 4).toNat (((f + 1) * 4).toNat - (f * 4).toNat)) [] []) := by
 refine ob Tryz.func117 Tryz.ntmps117 ?_
 refine sr ?_
 refine qs' ?_
 refine qm ?_
 refine mn ?_
 refine qq (Qt.binOp rfl rfl (by first | exact pbMul (by omega) | rfl)) ?_
 refine qm ?_
 refine ba ?_
 refine nm ?_
 refine qq (Qt.binOp rfl rfl (by first | exact pbMul (by omega) | rfl)) ?_
 refine qq (Qt.sliceH rfl rfl rfl sl24 sz3 (by decide) (slB_sn rfl (by omega)) (slB_sn rfl (by omega)) (by omega) (by omega)) ?_
 refine qr 4 ?_
 exact ⟨fun n => n, rfl, fun _ _ => rfl, List.nodup_nil, by simp, by simp⟩
end Go.Proofs.YtekcnnngjoonbaaGreat.VM
