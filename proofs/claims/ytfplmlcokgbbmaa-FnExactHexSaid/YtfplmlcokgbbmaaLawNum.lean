/- The walks of the laws of chapter 1. No conditions. -/
import Derived.Test.YtfplmlcokgbbmaaNumHex
namespace Go.Proofs.Ytfplmlcokgbbmaa
open Go.RowKit
theorem bt {a b c : World} (h : Below a.heap.size a b) (k : Below b.heap.size b c) : Below a.heap.size a c := h.trans (k.mono h.size)

set_option maxRecDepth 100000 in
theorem walk_FnExactConstants (w : World) : Calls Try.prog 3 #[] w fun e w' => e = .returned (.bool true) ∧ Below w.heap.size w w' := by
  go_enter Try.func3, Try.ntmps3
  go_wp2
  go_ret
  exact ⟨rfl, Below.refl _ _⟩
theorem walk_FnExactHex (s : ByteArray) (_ : s.size ≤ maxLen) (w : World) : Calls Try.prog 4 #[.string s] w fun e w' => e = .returned (.bool true) ∧ Below w.heap.size w w' := by
  by_cases hlt : s.size ≤ 1048576
  · go_enter Try.func4, Try.ntmps4
    go_wp2_with fail
    refine (specHex_any s hlt _).mono ?_
    rintro e w1 ⟨rfl, hb1⟩
    go_wp2_with fail
    refine (hex_any s hlt _).mono ?_
    rintro e w2 ⟨rfl, hb2⟩
    go_wp2
    go_ret
    exact ⟨rfl, bt hb1 hb2⟩
  · go_enter Try.func4, Try.ntmps4
    go_wp2_with fail
    go_ret
    exact ⟨rfl, Below.refl _ _⟩
theorem walk_FnExactVar (n : Int) (_ : -9223372036854775808 ≤ n ∧ n ≤ 9223372036854775807) (w : World) : Calls Try.prog 7 #[iv n] w fun e w' => e = .returned (.bool true) ∧ Below w.heap.size w w' := by
  go_enter Try.func7, Try.ntmps7
  go_wp2_with fail
  refine (specVar_any n _).mono ?_
  rintro e w1 ⟨rfl, hb1⟩
  go_wp2_with fail
  refine (var_any n _).mono ?_
  rintro e w2 ⟨rfl, hb2⟩
  go_wp2
  go_ret
  exact ⟨rfl, bt hb1 hb2⟩
theorem walk_FnExactFixed (n : Int) (hn : -9223372036854775808 ≤ n ∧ n ≤ 9223372036854775807) (wd : Int) (_ : -9223372036854775808 ≤ wd ∧ wd ≤ 9223372036854775807) (w : World) :
    Calls Try.prog 8 #[iv n, iv wd] w fun e w' => e = .returned (.bool true) ∧ Below w.heap.size w w' := by
  go_enter Try.func8, Try.ntmps8
  go_wp2_with fail
  refine (specFixed_all n wd hn.2 _).mono ?_
  rintro e w1 ⟨rfl, hb1⟩
  go_wp2_with fail
  refine (implFixed_all n wd _).mono ?_
  rintro e w2 ⟨rfl, hb2⟩
  go_wp2
  go_ret
  exact ⟨rfl, bt hb1 hb2⟩
theorem walk_FnExactReadFixed (s : ByteArray) (hm : s.size ≤ maxLen) (wd : Int) (_ : -9223372036854775808 ≤ wd ∧ wd ≤ 9223372036854775807) (w : World) :
    Calls Try.prog 6 #[.string s, iv wd] w fun e w' => e = .returned (.bool true) ∧ Below w.heap.size w w' := by
  by_cases hlt : s.size ≤ 1048576
  · by_cases h : 1 ≤ wd ∧ wd ≤ 7 ∧ wd ≤ s.size
    · obtain ⟨h1, h7, hs⟩ := h
      obtain ⟨W, rfl⟩ := Int.eq_ofNat_of_zero_le (show 0 ≤ wd by omega)
      go_enter Try.func6, Try.ntmps6
      go_wp2_with fail
      refine (specReadFixed_in s W (by omega) (by omega) (by omega) hm _).mono ?_
      rintro e w1 ⟨rfl, rfl⟩
      go_wp2_with fail
      refine (readFixed_in s W (by omega) (by omega) (by omega) hm _).mono ?_
      rintro e w1 ⟨rfl, rfl⟩
      go_wp2
      go_ret
      exact ⟨rfl, Below.refl _ _⟩
    · go_enter Try.func6, Try.ntmps6
      go_wp2_with fail
      refine (specReadFixed_out s wd h _).mono ?_
      rintro e w1 ⟨rfl, rfl⟩
      go_wp2_with fail
      refine (readFixed_out s wd h _).mono ?_
      rintro e w1 ⟨rfl, rfl⟩
      go_wp2
      go_ret
      exact ⟨rfl, Below.refl _ _⟩
  · go_enter Try.func6, Try.ntmps6
    go_wp2_with fail
    go_ret
    exact ⟨rfl, Below.refl _ _⟩
end Go.Proofs.Ytfplmlcokgbbmaa
