/- The walks of chapter 11: frames by a bitmap. No conditions. -/
import Derived.Test.YtfplmlcokgbbmacCopy1
namespace Go.Proofs.Ytfplmlcokgbbmac
open Go.RowKit
def mapOk (l : List Bool) : Bool := decide (l.length = 16)
theorem mapOk_true {l : List Bool} (h : l.length = 16) : mapOk l = true := by unfold mapOk; simp [h]
theorem mapOk_false {l : List Bool} (h : l.length ≠ 16) : mapOk l = false := by unfold mapOk; simp [h]
theorem implMapOk_any (l : List Bool) (v : Value) (w : World) (h : RdS w l v) : Calls Try.prog 17 #[v] w fun e w' => e = .returned (.bool (mapOk l)) ∧ w = w' := by
  obtain ⟨a, cap, _, rfl, _⟩ := h
  by_cases hl : l.length = 16
  · rw [mapOk_true hl]
    have hx : ((l.length : Int) == 16) = true := by simp; omega
    clear hl
    go_enter Try.func17, Try.ntmps17
    go_wp2
    go_ret
    exact ⟨rfl, rfl⟩
  · rw [mapOk_false hl]
    have hx : ((l.length : Int) == 16) = false := by simp; omega
    clear hl
    go_enter Try.func17, Try.ntmps17
    go_wp2
    go_ret
    exact ⟨rfl, rfl⟩
theorem specMapOk_any (l : List Bool) (v : Value) (w : World) (h : RdS w l v) : Calls Try.prog 16 #[v] w fun e w' => e = .returned (.bool (mapOk l)) ∧ w = w' := by
  obtain ⟨a, cap, _, rfl, _⟩ := h
  by_cases hl : l.length = 16
  · rw [mapOk_true hl]
    have hx : ((l.length : Int) == 16) = true := by simp; omega
    clear hl
    go_enter Try.func16, Try.ntmps16
    go_wp2
    go_ret
    exact ⟨rfl, rfl⟩
  · rw [mapOk_false hl]
    have hx : ((l.length : Int) == 16) = false := by simp; omega
    clear hl
    go_enter Try.func16, Try.ntmps16
    go_wp2
    go_ret
    exact ⟨rfl, rfl⟩

/-- how many are free -/
def nFree (l : List Bool) : Nat := l.countP (fun b => !b)
theorem nFree_step {l : List Bool} {k : Nat} (h : k < l.length) : nFree (l.take (k + 1)) = nFree (l.take k) + if l[k] then 0 else 1 := by
  rw [List.take_succ_eq_append_getElem h]; unfold nFree; rw [List.countP_append]; cases l[k] <;> simp
theorem nFree_le (l : List Bool) : nFree l ≤ l.length := List.countP_le_length
def mapFree (l : List Bool) : Int := if l.length = 16 then nFree l else 0
theorem mapFree_in {l : List Bool} (h : l.length = 16) : mapFree l = nFree l := by unfold mapFree; rw [if_pos h]
theorem mapFree_out {l : List Bool} (h : l.length ≠ 16) : mapFree l = 0 := by unfold mapFree; rw [if_neg h]
end Go.Proofs.Ytfplmlcokgbbmac
