/- Contracts of functions of the program. No conditions beyond those that each states. -/
import Derived.Test.YtfbefcmeghpalaaCMJ
import Derived.Test.YtfbefcmeghpalaaCMD
set_option linter.all false
namespace Go.Proofs.Ytfbefcmeghpalaa.VM
open Go Go.RowKit Go.Proofs
theorem rows_some {R : Nat → List Bool → Option (List Bool)} : ∀ {c k : Nat} {u : List Bool}, rows R c k u = true → ∀ i, k ≤ i → i < k + c → ∃ u v, R i u = some v
 | 0, k, u, _, i, h1, h2 => by omega
 | c + 1, k, u, h, i, h1, h2 => by
  rw [rows] at h
  cases hR : R k u with
  | none => rw [hR] at h; cases h
  | some u' =>
   rw [hR] at h
   rcases Nat.eq_or_lt_of_le h1 with rfl | hlt
   ·exact ⟨u, u', hR⟩
   ·exact rows_some h i (by omega) (by omega)
structure BudF (S : List (List Int)) : Prop where
 len : S.length = 5
 bad : ∀ k, k < 5 → ∀ j, j < (S.getD k En.dflt).length → bad k (S.getD k En.dflt) j = false
theorem budF_of {S : List (List Int)} (h : okS S = true) : BudF S := by
 unfold okS at h
 split at h
 ·rename_i h5
  refine ⟨h5, fun k hk j hj => ?_⟩
  obtain ⟨u, v, hr⟩ := rows_some h k (by omega) (by omega)
  exact row_some hr j (by omega) (by rw [Nat.zero_add]; exact hj)
 ·cases h
theorem BudF.head {S : List (List Int)} (h : BudF S) : ∀ k, k < 5 → 0 ≤ (S.getD k En.dflt).getD 0 En.dflt ∧ (S.getD k En.dflt).getD 0 En.dflt ≤ 1000 := fun k hk => by
 rcases Nat.eq_zero_or_pos (S.getD k En.dflt).length with h0 | h0
 ·rw [List.eq_nil_of_length_eq_zero h0]; decide
 ·have := notBad (h.bad k hk 0 h0)
  have e : (S.getD k En.dflt).getD 0 En.dflt = (S.getD k En.dflt).getD 0 0 := rfl
  omega
def bT (S : List (List Int)) : List (List Int) × Int := if okS S = true then (resS S, resF S) else ([], -1)
end Go.Proofs.Ytfbefcmeghpalaa.VM
