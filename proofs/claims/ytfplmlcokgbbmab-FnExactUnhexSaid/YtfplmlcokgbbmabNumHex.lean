/- The walks of chapter 1: Hex. No conditions. -/
import Derived.Test.YtfplmlcokgbbmabNum
import Derived.Test.YtfplmlcokgbbmabRegion
import Derived.Deep.QuietTactic
namespace Go.Proofs.Ytfplmlcokgbbmab
open Go.RowKit
theorem l1Digit_any (k : Int) (h0 : 0 ≤ k) (h1 : k < 16) (w : World) :
    Calls Try.prog 66 #[iv k] w fun e w' => e = .returned (bv (hexD k.toNat)) ∧ w = w' := by
  obtain rfl | rfl | rfl | rfl | rfl | rfl | rfl | rfl | rfl | rfl | rfl | rfl | rfl | rfl | rfl | rfl : k = 0 ∨ k = 1 ∨ k = 2 ∨ k = 3 ∨ k = 4 ∨ k = 5 ∨ k = 6 ∨ k = 7 ∨ k = 8 ∨ k = 9 ∨ k = 10 ∨ k = 11 ∨ k = 12 ∨ k = 13 ∨ k = 14 ∨ k = 15 := by omega
  all_goals
    go_enter Try.func66, Try.ntmps66
    go_wp2
    go_ret
    exact ⟨rfl, rfl⟩
end Go.Proofs.Ytfplmlcokgbbmab
