/- Contracts. No conditions. -/
import Derived.Test.YtldefnpobjabpaaGreatCQ11
set_option linter.all false
set_option maxHeartbeats 8000000
set_option maxRecDepth 10000
namespace Go.Proofs.YtldefnpobjabpaaGreat.VM
open Go Go.RowKit Go.Proofs
theorem wt_app1 {α : Type} [Mk α] (l : List α) (x : α) : Mk.wt (l ++ [x]) = Mk.wt l + (Mk.wt x + 1) := by
 rw [wt_list, wt_list]
 induction l with
 | nil => simp [wtL]; omega
 | cons y l ih => simp only [wtL, List.cons_append, List.map_cons, List.foldr_cons, List.length_cons] at ih ⊢; omega
theorem wt_ins {α : Type} [Mk α] (key : α → Int) (x : α) : ∀ l : List α, Mk.wt (insK key l x) = Mk.wt l + (Mk.wt x + 1)
 | [] => wt_app1 [] x
 | y :: l => by
  have h : ∀ (z : α) (m : List α), Mk.wt (z :: m) = Mk.wt m + (Mk.wt z + 1) := fun z m => by
   rw [wt_list, wt_list]; simp only [wtL, List.map_cons, List.foldr_cons, List.length_cons]; omega
  rw [insK]
  split
  ·rw [h x]
  ·rw [h, h, wt_ins key x l]; omega
theorem wt_sort {α : Type} [Mk α] (key : α → Int) (l : List α) : Mk.wt (sortK key l) = Mk.wt l := by
 have h : ∀ (l acc : List α), Mk.wt (l.foldl (insK key) acc) = Mk.wt acc + Mk.wt l := fun l => by
  induction l with
  | nil => intro acc; rfl
  | cons x l ih =>
   intro acc
   rw [List.foldl_cons, ih, wt_ins, wt_list (x :: l), wt_list l]
   simp only [wtL, List.map_cons, List.foldr_cons, List.length_cons]; omega
 rw [sortK, h]
 show 0 + _ = _
 omega
theorem memK_lenLe (ram fs : List Int) (k : Nat) : (memK ram fs k).length ≤ 4 * k := by
 unfold memK
 rw [List.length_flatten, List.map_map]
 have h : ∀ l : List Int, (l.map (List.length ∘ frW ram)).sum ≤ 4 * l.length := fun l => by
  induction l with
  | nil => exact Nat.le_refl _
  | cons x l ih =>
   have : (List.length ∘ frW ram) x ≤ 4 := by show (frW ram x).length ≤ 4; unfold frW; exact List.length_take_le _ _
   simp only [List.map_cons, List.sum_cons, List.length_cons]; omega
 have := h (fs.take k)
 have := List.length_take_le k fs
 omega
theorem dataL_lenLe {r : DARing} {n : Int} (h : ringOk r n = true) : ((dataL r).length : Int) ≤ n := by
 simp only [ringOk, Bool.and_eq_true, Bool.or_eq_true, decide_eq_true_eq, beq_iff_eq, Bool.not_eq_true'] at h
 rw [dataL, dataK, List.length_map, List.length_range]
 omega
section
variable {a : DArrays} (hS : ShpA a)
include hS
theorem procsK_wt : ∀ k, k ≤ a.Slots.length → Mk.wt (procsK a k) ≤ 30 * k
 | 0, _ => by show 0 ≤ _; omega
 | k + 1, hk => by
  have h1 := procsK_wt k (by omega)
  rw [procsK]
  split
  ·rw [wt_app1]
   have h2 := hS.slot k (by omega)
   have h3 : Mk.wt (procP a (a.Slots.getD k En.dflt)) = Mk.wt (a.Slots.getD k En.dflt).Regs + Mk.wt (memK a.Ram (a.Slots.getD k En.dflt).Pt (pagesN (a.Slots.getD k En.dflt).Pt)) + Mk.wt (a.Slots.getD k En.dflt).Fds := rfl
   rw [wt_ints, wt_ints, wt_ints] at h3
   have h4 := memK_lenLe a.Ram (a.Slots.getD k En.dflt).Pt (pagesN (a.Slots.getD k En.dflt).Pt)
   have h5 := pagesN_le (a.Slots.getD k En.dflt).Pt
   omega
  ·omega
end
end Go.Proofs.YtldefnpobjabpaaGreat.VM
