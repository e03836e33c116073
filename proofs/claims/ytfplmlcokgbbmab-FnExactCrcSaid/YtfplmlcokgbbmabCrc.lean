/- Chapter 2: sums. No conditions. -/
import Derived.Test.YtfplmlcokgbbmabRows
import Derived.Test.YtfplmlcokgbbmabNumL
namespace Go.Proofs.Ytfplmlcokgbbmab
open Go.RowKit
def crc1 (c : Nat) : Nat := if c % 2 = 1 then (c / 2) ^^^ 2197175160 else c / 2
def crcN : Nat → Nat → Nat
  | 0, c => c
  | k + 1, c => crc1 (crcN k c)
def crcB (c : Nat) (b : UInt8) : Nat := crcN 8 (c ^^^ b.toNat)
def crcL (l : List UInt8) : Nat := l.foldl crcB 4294967295
theorem crc1_lt {c : Nat} (h : c < 4294967296) : crc1 c < 4294967296 := by
  unfold crc1; split
  · exact Nat.xor_lt_two_pow (n := 32) (by omega) (by omega)
  · omega
theorem crcN_lt {c : Nat} (h : c < 4294967296) : ∀ k, crcN k c < 4294967296
  | 0 => h
  | k + 1 => crc1_lt (crcN_lt h k)
theorem crcB_lt {c : Nat} {b : UInt8} (h : c < 4294967296) : crcB c b < 4294967296 := crcN_lt (Nat.xor_lt_two_pow (n := 32) h (by have := b.toNat_lt; omega)) 8
theorem crcL_lt (l : List UInt8) : crcL l < 4294967296 := by
  have : ∀ (l : List UInt8) (c : Nat), c < 4294967296 → l.foldl crcB c < 4294967296 := by
    intro l
    induction l with
    | nil => exact fun c h => h
    | cons b l ih => exact fun c h => ih _ (crcB_lt h)
  exact this l _ (by omega)
theorem crcL_step (s : ByteArray) (k : Nat) (h : k < s.size) : crcL (s.data.toList.take (k + 1)) = crcB (crcL (s.data.toList.take k)) s[k] := by rw [take_snoc s k h]; simp [crcL]
theorem crc_in (c : Nat) (h : c < 4294967296) (b : UInt8) : bits .xor .i64 (c : Int) (b.toNat : Int) = ((c ^^^ b.toNat : Nat) : Int) := xor_i64 _ _ (by omega) (by have := b.toNat_lt; omega)
theorem crc_odd (c : Nat) (h : c < 4294967296) (ho : c % 2 = 1) : bits .xor .i64 ((c : Int) / 2) 2197175160 = ((crc1 c : Nat) : Int) := by
  rw [show (c : Int) / 2 = ((c / 2 : Nat) : Int) by omega, show (2197175160 : Int) = ((2197175160 : Nat) : Int) from rfl, xor_i64 _ _ (by omega) (by decide)]
  unfold crc1; rw [if_pos ho]
theorem crc_even (c : Nat) (ho : ¬ c % 2 = 1) : (c : Int) / 2 = ((crc1 c : Nat) : Int) := by unfold crc1; rw [if_neg ho]; omega
theorem and1 (c : Nat) (h : c < 4294967296) : bits .and .i64 (c : Int) 1 = (c : Int) % 2 := by
  rw [show (1 : Int) = ((1 : Nat) : Int) from rfl, and_i64 c 1 (by omega) (by decide), show (1 : Nat) = 2 ^ 1 - 1 by decide, Nat.and_two_pow_sub_one_eq_mod]; omega
def cN (c : Nat) : Value := iv c
set_option maxHeartbeats 400000 in
set_option maxRecDepth 100000 in
theorem specCrc_any (s : ByteArray) (hs : s.size ≤ 1048576) (w : World) : Calls Try.prog 9 #[.string s] w fun e w' => e = .returned (iv (4294967295 - crcL s.data.toList)) ∧ w = w' := by
  go_enter Try.func9, Try.ntmps9
  go_wp2_with fail
  go_loop [3, 4] (fun c i => ∃ k : Nat, k ≤ s.size ∧ i = iv k ∧ c = iv (crcL (s.data.toList.take k))) (fun _ i => s.size - (intOf i).toNat)
  case atStart => exact ⟨0, Nat.zero_le _, rfl, rfl⟩
  case round =>
    obtain ⟨k, hk, rfl, rfl⟩ := hrel
    have hc := crcL_lt (s.data.toList.take k)
    by_cases hlt : k < s.size
    · have hst := Lib.hid (crcL_step s k hlt)
      have hby := byte_le s[k]
      generalize crcL (s.data.toList.take k) = c at *
      have hin := crc_in c hc s[k]
      have hx0 : c ^^^ s[k].toNat < 4294967296 := Nat.xor_lt_two_pow (n := 32) hc (by omega)
      have hB : crcB c s[k] = crcN 8 (c ^^^ s[k].toNat) := rfl
      rw [hB] at hst
      clear hB
      generalize c ^^^ s[k].toNat = x at *
      go_wp2_with fail
      clear hin
      go_loop [3, 5] (fun y j => ∃ m : Nat, m ≤ 8 ∧ j = iv m ∧ y = iv (crcN m x)) (fun _ j => 8 - (intOf j).toNat)
      case atStart => exact ⟨0, by omega, rfl, rfl⟩
      case round =>
        obtain ⟨m, hm, rfl, rfl⟩ := hrel
        have hy := crcN_lt hx0 m
        by_cases hm8 : m < 8
        · have hsucc : crcN (m + 1) x = crc1 (crcN m x) := rfl
          have Hs := Lib.hid hsucc; clear hsucc
          generalize crcN m x = y at *
          by_cases ho : y % 2 = 1
          · have h1 := crc_odd y hy ho
            have h2 : ((y : Int) % 2 == 1) = true := by simp; omega
            clear ho
            go_wp2
            go_round
            case rel => exact ⟨m + 1, by omega, by go_num, by rw [Hs.out]⟩
            case measure => simp [intOf] <;> omega
          · have h1 := Lib.hid (crc_even y ho)
            have h2 : ((y : Int) % 2 == 1) = false := by simp; omega
            clear ho
            go_wp2
            go_round
            case rel => exact ⟨m + 1, by omega, by go_num, by rw [Hs.out, ← h1.out]⟩
            case measure => simp [intOf] <;> omega
        · obtain rfl : m = 8 := by omega
          generalize crcN 8 x = y at *
          go_wp2
          go_round
          case rel => exact ⟨k + 1, by omega, by go_num, by rw [hst.out]⟩
          case measure => simp [intOf] <;> omega
    · obtain rfl : k = s.size := by omega
      rw [take_size] at hc ⊢
      generalize hg : crcL s.data.toList = c at *
      have Hg := Lib.hid hg; clear hg
      go_wp2
      go_ret
      exact ⟨ret_int (by rw [Hg.out]), rfl⟩
set_option maxHeartbeats 400000 in
set_option maxRecDepth 100000 in
theorem implCrc_any (s : ByteArray) (hs : s.size ≤ 1048576) (w : World) : Calls Try.prog 10 #[.string s] w fun e w' => e = .returned (iv (4294967295 - crcL s.data.toList)) ∧ w = w' := by
  go_enter Try.func10, Try.ntmps10
  go_wp2_with fail
  go_loop [3, 8] (fun c i => ∃ k : Nat, k ≤ s.size ∧ i = iv k ∧ c = iv (crcL (s.data.toList.take k))) (fun _ i => s.size - (intOf i).toNat)
  case atStart => exact ⟨0, Nat.zero_le _, rfl, rfl⟩
  case round =>
    obtain ⟨k, hk, rfl, rfl⟩ := hrel
    have hc := crcL_lt (s.data.toList.take k)
    by_cases hlt : k < s.size
    · have hst := Lib.hid (crcL_step s k hlt)
      have hby := byte_le s[k]
      generalize crcL (s.data.toList.take k) = c at *
      have hin := crc_in c hc s[k]
      have hx0 : c ^^^ s[k].toNat < 4294967296 := Nat.xor_lt_two_pow (n := 32) hc (by omega)
      have hB : crcB c s[k] = crcN 8 (c ^^^ s[k].toNat) := rfl
      rw [hB] at hst
      clear hB
      generalize c ^^^ s[k].toNat = x at *
      go_wp2_with fail
      clear hin
      go_loop [3, 17] (fun y j => ∃ m : Nat, m ≤ 8 ∧ j = iv m ∧ y = iv (crcN m x)) (fun _ j => 8 - (intOf j).toNat)
      case atStart => exact ⟨0, by omega, rfl, rfl⟩
      case round =>
        obtain ⟨m, hm, rfl, rfl⟩ := hrel
        have hy := crcN_lt hx0 m
        by_cases hm8 : m < 8
        · have hsucc : crcN (m + 1) x = crc1 (crcN m x) := rfl
          have Hs := Lib.hid hsucc; clear hsucc
          generalize crcN m x = y at *
          have ha := and1 y hy
          by_cases ho : y % 2 = 1
          · have h1 := crc_odd y hy ho
            have h2 : ((y : Int) % 2 == 1) = true := by simp; omega
            clear ho
            go_wp2
            go_round
            case rel => exact ⟨m + 1, by omega, by go_num, by rw [Hs.out]⟩
            case measure => simp [intOf] <;> omega
          · have h1 := Lib.hid (crc_even y ho)
            have h2 : ((y : Int) % 2 == 1) = false := by simp; omega
            clear ho
            go_wp2
            go_round
            case rel => exact ⟨m + 1, by omega, by go_num, by rw [Hs.out, ← h1.out]⟩
            case measure => simp [intOf] <;> omega
        · obtain rfl : m = 8 := by omega
          generalize crcN 8 x = y at *
          go_wp2
          go_round
          case rel => exact ⟨k + 1, by omega, by go_num, by rw [hst.out]⟩
          case measure => simp [intOf] <;> omega
    · obtain rfl : k = s.size := by omega
      rw [take_size] at hc ⊢
      generalize hg : crcL s.data.toList = c at *
      have Hg := Lib.hid hg; clear hg
      go_wp2
      go_ret
      exact ⟨ret_int (by rw [Hg.out]), rfl⟩
theorem walk_FnExactCrc (w : World) (s : ByteArray) (_ : s.size ≤ maxLen) : Calls Try.prog 3 #[.string s] w fun e w' => e = .returned (.bool true) ∧ Below w.heap.size w w' := by
  by_cases hlt : s.size ≤ 1048576
  · go_enter Try.func3, Try.ntmps3
    go_wp2_with fail
    refine (specCrc_any s hlt _).mono ?_
    rintro e w1 ⟨rfl, rfl⟩
    go_wp2_with fail
    refine (implCrc_any s hlt _).mono ?_
    rintro e w2 ⟨rfl, rfl⟩
    generalize (4294967295 - (crcL s.data.toList : Int)) = c
    go_wp2
    go_ret
    exact ⟨rfl, Below.refl _ _⟩
  · go_enter Try.func3, Try.ntmps3
    go_wp2_with fail
    go_ret
    exact ⟨rfl, Below.refl _ _⟩
end Go.Proofs.Ytfplmlcokgbbmab
