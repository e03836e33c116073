/- The contracts of the laws' marks: a slice is filled with unlike values, and is found so. No conditions. -/
import Derived.Test.YtfplmlcokgbbmacCopy1
namespace Go.Proofs.Ytfplmlcokgbbmac
open Go.RowKit
/-- n marks from k on -/
def marked {α : Type} (g : Int → α) (k n : Nat) : List α := (List.range n).map fun (i : Nat) => g ((k : Int) + (i : Int))
theorem marked_length {α : Type} (g : Int → α) (k n : Nat) : (marked g k n).length = n := by simp [marked]
theorem marked_get {α : Type} (g : Int → α) (k n j : Nat) (h : j < (marked g k n).length) : (marked g k n)[j] = g ((k : Int) + (j : Int)) := by simp [marked]
theorem marked_take {α : Type} (g : Int → α) (k n j : Nat) (h : j ≤ n) : (marked g k n).take j = marked g k j := by
  unfold marked
  rw [← List.map_take, List.take_range, Nat.min_eq_left h]
theorem mark_step {α : Type} {g : Int → α} {k n j : Nat} {l' : List α} (hl : l'.length = n) (h : l'.take j = marked g k j) (hj : j < n) : (l'.set j (g ((k : Int) + (j : Int)))).take (j + 1) = marked g k (j + 1) := by
  have h1 : (marked g k n).length = n := marked_length g k n
  have := take_set (l := marked g k n) (l' := l') (k := j) (by omega) (by omega) (by rw [h, marked_take _ _ _ _ (by omega)])
  rw [marked_get, marked_take _ _ _ _ (by omega)] at this
  exact this
theorem mark_all {α : Type} {g : Int → α} {k n j : Nat} {l' : List α} (hl : l'.length = n) (h : l'.take j = marked g k j) (hj : j = n) : l' = marked g k n := by
  subst hj; rwa [List.take_of_length_le (by omega)] at h
def mBool (k : Int) : Bool := k % 3 == 0
def mInt (k : Int) : Int := k


theorem markBoolS_any (l : List Bool) (v : Value) (fp : List Nat) (k : Nat) (hl : l.length ≤ 4194304) (hk0 : k ≤ 4611686018427387904) (w : World) (h : OwnS w fp l v) :
    Calls Try.prog 9 #[v, iv k] w fun e w' => e = .returned (iv ((k : Int) + l.length)) ∧ OwnS w' fp (marked mBool k l.length) v ∧ Upd fp w w' := by
  rcases h.rd.cases with ⟨rfl, a, cap, rfl⟩ | ⟨hp, b, off, cap, rfl, h'⟩
  · go_enter Try.func9, Try.ntmps9
    go_wp2_with fail
    refine wp_loop_once ?_
    go_wp2
    go_ret
    exact ⟨by simp, h, Upd.refl _ _⟩
  · clear h'
    generalize hn : l.length = n at *
    have Hn := Lib.hid hn; clear hn
    go_enter Try.func9, Try.ntmps9
    go_wp2_with fail
    go_loopw [1, 5] (fun q i wr => ∃ (j : Nat) (l' : List Bool), j ≤ n ∧ q = iv ((k : Int) + j) ∧ i = iv j ∧ l'.length = n ∧ l'.take j = marked mBool k j ∧ OwnS wr fp l' (.slice (some ⟨b, off, none⟩) n cap) ∧ Upd fp w wr) (fun _ i _ => n - (intOf i).toNat)
    case atStart => exact ⟨0, l, by omega, by simp, rfl, Hn.out, by simp [marked], h, Upd.refl _ _⟩
    case round =>
      obtain ⟨j, l', hj, rfl, rfl, hl', htk, ho, hu⟩ := hrel
      have Hl := Lib.hid hl'; clear hl'
      have Ht := Lib.hid htk; clear htk
      by_cases hlt : j < n
      · obtain ⟨_, hcell, hfz, hset⟩ := ho.store1 j (by rw [Hl.out]; omega)
        have hset := hset (mBool ((k : Int) + (j : Int)))
        have Hts := Lib.hid (mark_step (g := mBool) (k := k) Hl.out Ht.out hlt)
        generalize l'[j]'(by rw [Hl.out]; omega) = x at *
        have hmx := Lib.hid (rfl : mBool ((k : Int) + (j : Int)) = mBool ((k : Int) + (j : Int)))
        simp only [One.val, mBool] at hcell hset
        go_wp2
        go_roundw
        case rel => exact ⟨j + 1, l'.set j (mBool ((k : Int) + (j : Int))), by omega, by go_num, by go_num, by rw [List.length_set]; exact Hl.out, Hts.out, hset.1, hu.trans hset.2⟩
        case measure => simp [intOf] <;> omega
      · have e : j = n := by omega
        have Hall := Lib.hid (mark_all Hl.out Ht.out e)
        go_wp2
        go_ret
        exact ⟨by subst e; rfl, by rw [← Hall.out]; exact ho, hu⟩
theorem heldBoolS_any (n : Nat) (v : Value) (k : Nat) (hl : n ≤ 4194304) (hk0 : k ≤ 4611686018427387904) (w : World) (h : RdS w (marked mBool k n) v) :
    Calls Try.prog 10 #[v, iv k] w fun e w' => e = .returned (iv ((k : Int) + n)) ∧ w = w' := by
  have hlen := marked_length mBool k n
  rcases h.cases with ⟨he, a, cap, rfl⟩ | ⟨hp, b, off, cap, rfl, h'⟩
  · rw [he] at hlen
    obtain rfl : n = 0 := hlen.symm
    clear he hlen h
    go_enter Try.func10, Try.ntmps10
    go_wp2_with fail
    refine wp_loop_once ?_
    go_wp2
    go_ret
    exact ⟨by simp, rfl⟩
  · clear h
    have Hl := Lib.hid hlen
    rw [hlen] at h' ⊢
    clear hlen
    go_enter Try.func10, Try.ntmps10
    go_wp2_with fail
    go_loop [1, 5] (fun q i => ∃ j : Nat, j ≤ n ∧ q = iv ((k : Int) + j) ∧ i = iv j) (fun _ i => n - (intOf i).toNat)
    case atStart => exact ⟨0, by omega, by simp, rfl⟩
    case round =>
      obtain ⟨j, hj, rfl, rfl⟩ := hrel
      by_cases hlt : j < n
      · have hc := h'.cell j (by rw [Hl.out]; exact hlt)
        rw [marked_get] at hc
        simp only [One.val, mBool] at hc
        go_wp2
        go_round
        case rel => exact ⟨j + 1, by omega, by go_num, by go_num⟩
        case measure => simp [intOf] <;> omega
      · have e : j = n := by omega
        go_wp2
        go_ret
        exact ⟨by subst e; rfl, rfl⟩

theorem markIntS_any (l : List Int) (v : Value) (fp : List Nat) (k : Nat) (hl : l.length ≤ 4194304) (hk0 : k ≤ 4611686018427387904) (w : World) (h : OwnS w fp l v) :
    Calls Try.prog 25 #[v, iv k] w fun e w' => e = .returned (iv ((k : Int) + l.length)) ∧ OwnS w' fp (marked mInt k l.length) v ∧ Upd fp w w' := by
  rcases h.rd.cases with ⟨rfl, a, cap, rfl⟩ | ⟨hp, b, off, cap, rfl, h'⟩
  · go_enter Try.func25, Try.ntmps25
    go_wp2_with fail
    refine wp_loop_once ?_
    go_wp2
    go_ret
    exact ⟨by simp, h, Upd.refl _ _⟩
  · clear h'
    generalize hn : l.length = n at *
    have Hn := Lib.hid hn; clear hn
    go_enter Try.func25, Try.ntmps25
    go_wp2_with fail
    go_loopw [1, 5] (fun q i wr => ∃ (j : Nat) (l' : List Int), j ≤ n ∧ q = iv ((k : Int) + j) ∧ i = iv j ∧ l'.length = n ∧ l'.take j = marked mInt k j ∧ OwnS wr fp l' (.slice (some ⟨b, off, none⟩) n cap) ∧ Upd fp w wr) (fun _ i _ => n - (intOf i).toNat)
    case atStart => exact ⟨0, l, by omega, by simp, rfl, Hn.out, by simp [marked], h, Upd.refl _ _⟩
    case round =>
      obtain ⟨j, l', hj, rfl, rfl, hl', htk, ho, hu⟩ := hrel
      have Hl := Lib.hid hl'; clear hl'
      have Ht := Lib.hid htk; clear htk
      by_cases hlt : j < n
      · obtain ⟨_, hcell, hfz, hset⟩ := ho.store1 j (by rw [Hl.out]; omega)
        have hset := hset (mInt ((k : Int) + (j : Int)))
        have Hts := Lib.hid (mark_step (g := mInt) (k := k) Hl.out Ht.out hlt)
        generalize l'[j]'(by rw [Hl.out]; omega) = x at *
        have hmx := Lib.hid (rfl : mInt ((k : Int) + (j : Int)) = mInt ((k : Int) + (j : Int)))
        simp only [One.val, mInt] at hcell hset
        go_wp2
        go_roundw
        case rel => exact ⟨j + 1, l'.set j (mInt ((k : Int) + (j : Int))), by omega, by go_num, by go_num, by rw [List.length_set]; exact Hl.out, Hts.out, hset.1, hu.trans hset.2⟩
        case measure => simp [intOf] <;> omega
      · have e : j = n := by omega
        have Hall := Lib.hid (mark_all Hl.out Ht.out e)
        go_wp2
        go_ret
        exact ⟨by subst e; rfl, by rw [← Hall.out]; exact ho, hu⟩
theorem heldIntS_any (n : Nat) (v : Value) (k : Nat) (hl : n ≤ 4194304) (hk0 : k ≤ 4611686018427387904) (w : World) (h : RdS w (marked mInt k n) v) :
    Calls Try.prog 26 #[v, iv k] w fun e w' => e = .returned (iv ((k : Int) + n)) ∧ w = w' := by
  have hlen := marked_length mInt k n
  rcases h.cases with ⟨he, a, cap, rfl⟩ | ⟨hp, b, off, cap, rfl, h'⟩
  · rw [he] at hlen
    obtain rfl : n = 0 := hlen.symm
    clear he hlen h
    go_enter Try.func26, Try.ntmps26
    go_wp2_with fail
    refine wp_loop_once ?_
    go_wp2
    go_ret
    exact ⟨by simp, rfl⟩
  · clear h
    have Hl := Lib.hid hlen
    rw [hlen] at h' ⊢
    clear hlen
    go_enter Try.func26, Try.ntmps26
    go_wp2_with fail
    go_loop [1, 5] (fun q i => ∃ j : Nat, j ≤ n ∧ q = iv ((k : Int) + j) ∧ i = iv j) (fun _ i => n - (intOf i).toNat)
    case atStart => exact ⟨0, by omega, by simp, rfl⟩
    case round =>
      obtain ⟨j, hj, rfl, rfl⟩ := hrel
      by_cases hlt : j < n
      · have hc := h'.cell j (by rw [Hl.out]; exact hlt)
        rw [marked_get] at hc
        simp only [One.val, mInt] at hc
        go_wp2
        go_round
        case rel => exact ⟨j + 1, by omega, by go_num, by go_num⟩
        case measure => simp [intOf] <;> omega
      · have e : j = n := by omega
        go_wp2
        go_ret
        exact ⟨by subst e; rfl, rfl⟩
end Go.Proofs.Ytfplmlcokgbbmac
