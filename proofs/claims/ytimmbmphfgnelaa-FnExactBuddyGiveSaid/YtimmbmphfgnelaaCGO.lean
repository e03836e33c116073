/- Contracts of functions of the program. No conditions beyond those that each states. -/
import Derived.Test.YtimmbmphfgnelaaCGN
set_option linter.all false
namespace Go.Proofs.Ytimmbmphfgnelaa.VM
open Go Go.RowKit Go.Proofs

theorem cumN_le {α : Type} {c : α → Nat} {d : α} {l : List α} {B : Nat} : ∀ {n : Nat}, (∀ k, k < n → c (l.getD k d) ≤ B) → cumN c d l n ≤ n * B
 | 0, _ => by simp [cumN]
 | n + 1, h => by
  have h1 := cumN_le (n := n) fun k hk => h k (by omega)
  have h2 := h n (by omega)
  rw [cumN, Nat.succ_mul]
  omega
theorem cnt_rows {l : List (List Int)} {B : Nat} (h : ∀ k, k < l.length → (l.getD k En.dflt).length ≤ B) : Mk.cnt l ≤ l.length * B := by
 rw [cnt_list]
 exact cumN_le fun k hk => by rw [cnt_ints]; exact h k hk
theorem getD_set_le {l : List (List Int)} {B i : Nat} {y : List Int} (hy : y.length ≤ B) (h : ∀ k, k < l.length → (l.getD k En.dflt).length ≤ B) : ∀ k, k < (l.set i y).length → ((l.set i y).getD k En.dflt).length ≤ B := fun k hk => by
 rw [List.length_set] at hk
 rw [List.getD_eq_getElem?_getD, List.getElem?_set]
 split
 ·split
  ·exact hy
  ·exact Nat.zero_le _
 ·rw [← List.getD_eq_getElem?_getD]; exact h k hk
theorem cnt_bud {a : DBuddy} (hw : Mk.wt a ≤ 1048576) : Mk.cnt a.Free ≤ 1099511627776 := by
 have hb := rows_bd (l := a.Free) hw
 have h1 := cnt_rows hb.2
 have h2 := Nat.mul_le_mul hb.1 (Nat.le_refl 1048576)
 exact Nat.le_trans h1 h2

end Go.Proofs.Ytimmbmphfgnelaa.VM
