/- The walk of the law FnExactInsOk. No conditions. -/
import Derived.Test.YtfplmlcokgbbmabIns
namespace Go.Proofs.Ytfplmlcokgbbmab
open Go.RowKit
theorem walk_FnExactInsOk (w : World) (i : Ins) (cs : Array Value) (h : Ty.rd w i cs.toList) (_ : Ty.fit i) : Calls Try.prog 8 #[.agg cs] w fun e w' => e = .returned (.bool true) ∧ Below w.heap.size w w' := by
  obtain rfl : cs = i.enc.toArray := by
    have h' : cs.toList = i.enc := h
    rw [← h']
  obtain ⟨op, a, b, c⟩ := i
  show Calls Try.prog 8 #[.agg #[iv op, iv a, iv b, iv c]] w _
  go_enter Try.func8, Try.ntmps8
  go_wp2_with fail
  refine (toIns_any ⟨op, a, b, c⟩ _).mono ?_
  rintro e w1 ⟨rfl, hb1⟩
  have hz1 : w.heap.size < w1.heap.size := by have := hb1.size; simp at this; omega
  obtain ⟨hc1, _⟩ := bcell hb1
  go_wp2_with fail
  refine (specInsOk_any ⟨op, a, b, c⟩ _).mono ?_
  rintro e w2 ⟨rfl, hb2⟩
  have hz2 := hb2.size
  obtain ⟨hc2, _⟩ := bcell hb2
  go_wp2_with fail
  refine (toIns_any ⟨op, a, b, c⟩ _).mono ?_
  rintro e w3 ⟨rfl, hb3⟩
  go_wp2_with fail
  refine (implInsOk_any ⟨op, a, b, c⟩ _).mono ?_
  rintro e w4 ⟨rfl, hb4⟩
  go_wp2
  go_ret
  exact ⟨rfl, ((Below.refl _ _).alloc (Nat.le_refl _) _).trans ((bt hb1 (bt hb2 (bt hb3 hb4))).mono (by simp))⟩
end Go.Proofs.Ytfplmlcokgbbmab
