/- Contracts. No conditions. -/
import Derived.Test.YtldefnpobjabpaaGreatCU5
set_option linter.all false
set_option maxHeartbeats 8000000
set_option maxRecDepth 10000
namespace Go.Proofs.YtldefnpobjabpaaGreat.VM
/-! what Sound, Stuck and Held say, as plain functions -/
theorem ixOf_sat {α : Type} {p : α → Bool} {l : List α} (d : α) (h : 0 ≤ ixOf p l) : p (l.getD (ixOf p l).toNat d) = true := by
 unfold ixOf at h ⊢
 cases hf : l.findIdx? p with
 | none => rw [hf] at h; simp at h
 | some i =>
  rw [hf] at h
  obtain ⟨h1, h2, _⟩ := List.findIdx?_eq_some_iff_getElem.1 hf
  simp only [Int.toNat_natCast, List.getD_eq_getElem?_getD, List.getElem?_eq_getElem h1, Option.getD_some]
  exact h2
theorem ixOf_lt {α : Type} {p : α → Bool} {l : List α} (h : 0 ≤ ixOf p l) : (ixOf p l).toNat < l.length := by
 have := (ixOf_bd p l).2
 omega
end Go.Proofs.YtldefnpobjabpaaGreat.VM
