/- The walks of chapter 11: frames by a bitmap. No conditions. -/
import Derived.Test.YtfplmlcokgbbmabCopy1
namespace Go.Proofs.Ytfplmlcokgbbmab
open Go.RowKit
def mapOk (l : List Bool) : Bool := decide (l.length = 16)
theorem mapOk_true {l : List Bool} (h : l.length = 16) : mapOk l = true := by unfold mapOk; simp [h]
theorem mapOk_false {l : List Bool} (h : l.length ≠ 16) : mapOk l = false := by unfold mapOk; simp [h]
theorem implMapOk_any (l : List Bool) (v : Value) (w : World) (h : RdS w l v) : Calls Try.prog 48 #[v] w fun e w' => e = .returned (.bool (mapOk l)) ∧ w = w' := by
  obtain ⟨a, cap, _, rfl, _⟩ := h
  by_cases hl : l.length = 16
  · rw [mapOk_true hl]
    have hx : ((l.length : Int) == 16) = true := by simp; omega
    clear hl
    go_enter Try.func48, Try.ntmps48
    go_wp2
    go_ret
    exact ⟨rfl, rfl⟩
  · rw [mapOk_false hl]
    have hx : ((l.length : Int) == 16) = false := by simp; omega
    clear hl
    go_enter Try.func48, Try.ntmps48
    go_wp2
    go_ret
    exact ⟨rfl, rfl⟩
theorem specMapOk_any (l : List Bool) (v : Value) (w : World) (h : RdS w l v) : Calls Try.prog 47 #[v] w fun e w' => e = .returned (.bool (mapOk l)) ∧ w = w' := by
  obtain ⟨a, cap, _, rfl, _⟩ := h
  by_cases hl : l.length = 16
  · rw [mapOk_true hl]
    have hx : ((l.length : Int) == 16) = true := by simp; omega
    clear hl
    go_enter Try.func47, Try.ntmps47
    go_wp2
    go_ret
    exact ⟨rfl, rfl⟩
  · rw [mapOk_false hl]
    have hx : ((l.length : Int) == 16) = false := by simp; omega
    clear hl
    go_enter Try.func47, Try.ntmps47
    go_wp2
    go_ret
    exact ⟨rfl, rfl⟩

/-- how many are free -/
def nFree (l : List Bool) : Nat := l.countP (fun b => !b)
theorem nFree_step {l : List Bool} {k : Nat} (h : k < l.length) : nFree (l.take (k + 1)) = nFree (l.take k) + if l[k] then 0 else 1 := by
  rw [List.take_succ_eq_append_getElem h]; unfold nFree; rw [List.countP_append]; cases l[k] <;> simp
theorem nFree_le (l : List Bool) : nFree l ≤ l.length := List.countP_le_length
def mapFree (l : List Bool) : Int := if l.length = 16 then nFree l else 0
theorem mapFree_in {l : List Bool} (h : l.length = 16) : mapFree l = nFree l := by unfold mapFree; rw [if_pos h]
theorem mapFree_out {l : List Bool} (h : l.length ≠ 16) : mapFree l = 0 := by unfold mapFree; rw [if_neg h]
theorem specMapFree_any (l : List Bool) (v : Value) (w : World) (h : RdS w l v) : Calls Try.prog 22 #[v] w fun e w' => e = .returned (iv (mapFree l)) ∧ w = w' := by
  by_cases hl : l.length = 16
  · rcases h.cases with ⟨rfl, _⟩ | ⟨_, b, off, cap, rfl, h'⟩
    · simp at hl
    have hm := mapOk_true hl
    have hF := Lib.hid (mapFree_in hl)
    clear h
    rw [hl] at h' ⊢
    have Hl := Lib.hid hl; clear hl
    go_enter Try.func22, Try.ntmps22
    go_wp2_with (go_at_call 47; refine (specMapOk_any l _ _ h').mono ?_; rintro e _ ⟨rfl, rfl⟩)
    clear hm
    go_loop [3, 4] (fun n i => ∃ k : Nat, k ≤ 16 ∧ i = iv k ∧ n = iv (nFree (l.take k))) (fun _ i => 16 - (intOf i).toNat)
    case atStart => exact ⟨0, by omega, rfl, rfl⟩
    case round =>
      obtain ⟨k, hk, rfl, rfl⟩ := hrel
      have hle := nFree_le (l.take k)
      by_cases hlt : k < 16
      · have hkl : k < l.length := by rw [Hl.out]; exact hlt
        have hc := h'.cell k hkl
        have hst := nFree_step hkl
        have hle2 : (l.take k).length ≤ 16 := by simp; omega
        simp only [One.val] at hc
        generalize nFree (l.take k) = c at *
        cases hx : l[k]
        · rw [hx] at hc hst
          simp only [Bool.false_eq_true, if_false] at hst
          have Hst := Lib.hid hst; clear hst hx
          go_wp2
          go_round
          case rel => exact ⟨k + 1, by omega, by go_num, by rw [Hst.out]; go_num⟩
          case measure => simp [intOf] <;> omega
        · rw [hx] at hc hst
          simp only [if_true, Nat.add_zero] at hst
          have Hst := Lib.hid hst; clear hst hx
          go_wp2
          go_round
          case rel => exact ⟨k + 1, by omega, by go_num, by rw [Hst.out]⟩
          case measure => simp [intOf] <;> omega
      · obtain rfl : k = 16 := by omega
        have hfin := Lib.hid (show nFree (l.take 16) = nFree l by rw [List.take_of_length_le (by rw [Hl.out]; omega)])
        generalize nFree (l.take 16) = c at *
        go_wp2
        go_ret
        exact ⟨ret_int (by rw [hF.out, hfin.out]), rfl⟩
  · have hm := mapOk_false hl
    have hF := Lib.hid (mapFree_out hl)
    have h0 := h
    obtain ⟨a, cap, _, rfl, _⟩ := h0
    clear hl
    go_enter Try.func22, Try.ntmps22
    go_wp2_with (go_at_call 47; refine (specMapOk_any l _ _ h).mono ?_; rintro e _ ⟨rfl, rfl⟩)
    go_ret
    exact ⟨ret_int hF.out.symm, rfl⟩
theorem implMapFree_any (l : List Bool) (v : Value) (w : World) (h : RdS w l v) : Calls Try.prog 24 #[v] w fun e w' => e = .returned (iv (mapFree l)) ∧ w = w' := by
  by_cases hl : l.length = 16
  · rcases h.cases with ⟨rfl, _⟩ | ⟨_, b, off, cap, rfl, h'⟩
    · simp at hl
    have hm := mapOk_true hl
    have hF := Lib.hid (mapFree_in hl)
    clear h
    rw [hl] at h' ⊢
    have Hl := Lib.hid hl; clear hl
    go_enter Try.func24, Try.ntmps24
    go_wp2_with (go_at_call 48; refine (implMapOk_any l _ _ h').mono ?_; rintro e _ ⟨rfl, rfl⟩)
    clear hm
    go_loop [3, 11] (fun n i => ∃ k : Nat, k ≤ 16 ∧ i = iv k ∧ n = iv (nFree (l.take k))) (fun _ i => 16 - (intOf i).toNat)
    case atStart => exact ⟨0, by omega, rfl, rfl⟩
    case round =>
      obtain ⟨k, hk, rfl, rfl⟩ := hrel
      have hle := nFree_le (l.take k)
      by_cases hlt : k < 16
      · have hkl : k < l.length := by rw [Hl.out]; exact hlt
        have hc := h'.cell k hkl
        have hst := nFree_step hkl
        have hle2 : (l.take k).length ≤ 16 := by simp; omega
        simp only [One.val] at hc
        generalize nFree (l.take k) = c at *
        cases hx : l[k]
        · rw [hx] at hc hst
          simp only [Bool.false_eq_true, if_false] at hst
          have Hst := Lib.hid hst; clear hst hx
          go_wp2
          go_round
          case rel => exact ⟨k + 1, by omega, by go_num, by rw [Hst.out]; go_num⟩
          case measure => simp [intOf] <;> omega
        · rw [hx] at hc hst
          simp only [if_true, Nat.add_zero] at hst
          have Hst := Lib.hid hst; clear hst hx
          go_wp2
          go_round
          case rel => exact ⟨k + 1, by omega, by go_num, by rw [Hst.out]⟩
          case measure => simp [intOf] <;> omega
      · obtain rfl : k = 16 := by omega
        have hfin := Lib.hid (show nFree (l.take 16) = nFree l by rw [List.take_of_length_le (by rw [Hl.out]; omega)])
        generalize nFree (l.take 16) = c at *
        go_wp2
        go_ret
        exact ⟨ret_int (by rw [hF.out, hfin.out]), rfl⟩
  · have hm := mapOk_false hl
    have hF := Lib.hid (mapFree_out hl)
    have h0 := h
    obtain ⟨a, cap, _, rfl, _⟩ := h0
    clear hl
    go_enter Try.func24, Try.ntmps24
    go_wp2_with (go_at_call 48; refine (implMapOk_any l _ _ h).mono ?_; rintro e _ ⟨rfl, rfl⟩)
    go_ret
    exact ⟨ret_int hF.out.symm, rfl⟩
theorem walk_FnExactMapFree (w : World) (l : List Bool) (v : Value) (h : RdS w l v) (_ : ∀ x ∈ l, Ty.fit x) : Calls Try.prog 6 #[v] w fun e w' => e = .returned (.bool true) ∧ Below w.heap.size w w' := by
  have he : eqL l l = true := by simp [eqL]
  by_cases hlt : l.length ≤ 1048576
  · have h0 := h
    obtain ⟨a, cap, _, rfl, _⟩ := h0
    go_enter Try.func6, Try.ntmps6
    go_wp2_with fail
    refine (toBoolS_any l _ hlt _ h).mono ?_
    rintro e w1 ⟨v1, rfl, ho1, hb1⟩
    go_wp2_with fail
    refine (specMapFree_any l _ _ ho1.rd).mono ?_
    rintro e _ ⟨rfl, rfl⟩
    go_wp2_with fail
    refine (toBoolS_any l _ hlt _ (h.below hb1)).mono ?_
    rintro e w2 ⟨v2, rfl, ho2, hb2⟩
    go_wp2_with fail
    refine (implMapFree_any l _ _ ho2.rd).mono ?_
    rintro e _ ⟨rfl, rfl⟩
    go_wp2_with fail
    refine (toBoolS_any l _ hlt _ (h.below (bt hb1 hb2))).mono ?_
    rintro e w3 ⟨v3, rfl, ho3, hb3⟩
    go_wp2_with fail
    refine (eqBoolS_any l l _ _ (by omega) (by omega) _ (ho2.rd.below hb3) ho3.rd).mono ?_
    rintro e _ ⟨rfl, n, rfl⟩
    go_wp2
    go_ret
    exact ⟨rfl, bt (bt hb1 (bt hb2 hb3)) (below_drewN n)⟩
  · obtain ⟨a, cap, _, rfl, _⟩ := h
    go_enter Try.func6, Try.ntmps6
    go_wp2_with fail
    go_ret
    exact ⟨rfl, Below.refl _ _⟩
end Go.Proofs.Ytfplmlcokgbbmab
