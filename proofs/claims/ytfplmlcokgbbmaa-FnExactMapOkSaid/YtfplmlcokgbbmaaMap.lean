/- The walks of chapter 11: frames by a bitmap. No conditions. -/
import Derived.Test.YtfplmlcokgbbmaaCopy1
namespace Go.Proofs.Ytfplmlcokgbbmaa
open Go.RowKit
def mapOk (l : List Bool) : Bool := decide (l.length = 16)
theorem mapOk_true {l : List Bool} (h : l.length = 16) : mapOk l = true := by unfold mapOk; simp [h]
theorem mapOk_false {l : List Bool} (h : l.length ≠ 16) : mapOk l = false := by unfold mapOk; simp [h]
theorem implMapOk_any (l : List Bool) (v : Value) (w : World) (h : RdS w l v) : Calls Try.prog 13 #[v] w fun e w' => e = .returned (.bool (mapOk l)) ∧ w = w' := by
  obtain ⟨a, cap, _, rfl, _⟩ := h
  by_cases hl : l.length = 16
  · rw [mapOk_true hl]
    have hx : ((l.length : Int) == 16) = true := by simp; omega
    clear hl
    go_enter Try.func13, Try.ntmps13
    go_wp2
    go_ret
    exact ⟨rfl, rfl⟩
  · rw [mapOk_false hl]
    have hx : ((l.length : Int) == 16) = false := by simp; omega
    clear hl
    go_enter Try.func13, Try.ntmps13
    go_wp2
    go_ret
    exact ⟨rfl, rfl⟩
theorem specMapOk_any (l : List Bool) (v : Value) (w : World) (h : RdS w l v) : Calls Try.prog 11 #[v] w fun e w' => e = .returned (.bool (mapOk l)) ∧ w = w' := by
  obtain ⟨a, cap, _, rfl, _⟩ := h
  by_cases hl : l.length = 16
  · rw [mapOk_true hl]
    have hx : ((l.length : Int) == 16) = true := by simp; omega
    clear hl
    go_enter Try.func11, Try.ntmps11
    go_wp2
    go_ret
    exact ⟨rfl, rfl⟩
  · rw [mapOk_false hl]
    have hx : ((l.length : Int) == 16) = false := by simp; omega
    clear hl
    go_enter Try.func11, Try.ntmps11
    go_wp2
    go_ret
    exact ⟨rfl, rfl⟩
end Go.Proofs.Ytfplmlcokgbbmaa
