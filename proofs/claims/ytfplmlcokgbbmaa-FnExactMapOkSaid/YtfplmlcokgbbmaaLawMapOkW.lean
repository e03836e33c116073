/- The walk of the law FnExactMapOk. No conditions. -/
import Derived.Test.YtfplmlcokgbbmaaMap
namespace Go.Proofs.Ytfplmlcokgbbmaa
open Go.RowKit
theorem walk_FnExactMapOk (w : World) (l : List Bool) (v : Value) (h : RdS w l v) (_ : ∀ x ∈ l, Ty.fit x) : Calls Try.prog 5 #[v] w fun e w' => e = .returned (.bool true) ∧ Below w.heap.size w w' := by
  have he : eqL l l = true := by simp [eqL]
  by_cases hlt : l.length ≤ 1048576
  · have h0 := h
    obtain ⟨a, cap, _, rfl, _⟩ := h0
    go_enter Try.func5, Try.ntmps5
    go_wp2_with fail
    refine (toBoolS_any l _ hlt _ h).mono ?_
    rintro e w1 ⟨v1, rfl, ho1, hb1⟩
    go_wp2_with fail
    refine (specMapOk_any l _ _ ho1.rd).mono ?_
    rintro e _ ⟨rfl, rfl⟩
    go_wp2_with fail
    refine (toBoolS_any l _ hlt _ (h.below hb1)).mono ?_
    rintro e w2 ⟨v2, rfl, ho2, hb2⟩
    go_wp2_with fail
    refine (implMapOk_any l _ _ ho2.rd).mono ?_
    rintro e _ ⟨rfl, rfl⟩
    go_wp2_with fail
    refine (toBoolS_any l _ hlt _ (h.below (bt hb1 hb2))).mono ?_
    rintro e w3 ⟨v3, rfl, ho3, hb3⟩
    go_wp2_with fail
    refine (eqBoolS_any l l _ _ (by omega) (by omega) _ (ho2.rd.below hb3) ho3.rd).mono ?_
    rintro e _ ⟨rfl, n, rfl⟩
    go_wp2
    go_ret
    exact ⟨rfl, bt (bt hb1 (bt hb2 hb3)) (below_drewN n)⟩
  · obtain ⟨a, cap, _, rfl, _⟩ := h
    go_enter Try.func5, Try.ntmps5
    go_wp2_with fail
    go_ret
    exact ⟨rfl, Below.refl _ _⟩
end Go.Proofs.Ytfplmlcokgbbmaa
