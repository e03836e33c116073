/- The walks of chapter 1: numbers as texts. No conditions. -/
import Derived.Test.YtlploojfcmcckaaDoorRows
import Derived.Test.YtlploojfcmcckaaDoorNumL
namespace Go.Proofs.YtlploojfcmcckaaDoor
open Go.RowKit

theorem Tryd.infoU8 : (Tryd.prog.info? 5).map (fun i => (i.zero, i.size, i.bytes)) = some (some (.int .u8 0), 1, 1) := by kernel_rfl
theorem in_any (n lo hi : Int) (w : World) :
    Calls Tryd.prog 40 #[iv n, iv lo, iv hi] w fun e w' => e = .returned (.bool (inB n lo hi)) ∧ w = w' := by
  go_enter Tryd.func40, Tryd.ntmps40
  go_wp2
  all_goals go_ret
  all_goals (refine ⟨?_, rfl⟩; unfold inB; simp_all; try omega)
theorem l1In_any (n lo hi : Int) (w : World) :
    Calls Tryd.prog 63 #[iv n, iv lo, iv hi] w fun e w' => e = .returned (.bool (inB n lo hi)) ∧ w = w' := by
  go_enter Tryd.func63, Tryd.ntmps63
  go_wp2
  all_goals go_ret
  all_goals (refine ⟨?_, rfl⟩; unfold inB; simp_all; try omega)
theorem readFixed_in (s : ByteArray) (wd : Nat) (h1 : 1 ≤ wd) (h7 : wd ≤ 7) (hs : wd ≤ s.size) (hm : s.size ≤ maxLen) (w : World) :
    Calls Tryd.prog 23 #[.string s, iv wd] w fun e w' => e = .returned (.tuple #[iv (rdF (s.data.toList.take wd)), .bool true]) ∧ w = w' := by
  unfold maxLen at hm
  have hin : inB wd 1 7 = true := inB_true (by omega)
  have hd : decide (s.size < wd) = false := by simp; omega
  go_enter Tryd.func23, Tryd.ntmps23
  go_wp2_with (go_at_call 40; refine (in_any _ _ _ _).mono ?_; rintro e w' ⟨rfl, rfl⟩)
  go_loop [6, 18] (fun n i => ∃ k : Nat, k ≤ wd ∧ i = iv k ∧ n = iv (rdF (s.data.toList.take k))) (fun _ i => wd - (intOf i).toNat)
  case atStart => exact ⟨0, Nat.zero_le _, rfl, rfl⟩
  case round =>
    obtain ⟨k, hk, rfl, rfl⟩ := hrel
    by_cases hlt : k < wd
    · have hor := rdF_or s k (by omega) (by omega)
      have hlt2 := rdF_take_lt s k (by omega)
      have hby := byte_le (s[k]'(by omega))
      go_wp2
      go_round
      case rel => exact ⟨k + 1, by omega, by go_num, rfl⟩
      case measure => simp [intOf]; omega
    · go_wp2
      go_ret2
      obtain rfl : k = wd := by omega
      exact ⟨rfl, rfl⟩

set_option maxRecDepth 100000 in
theorem var_in (n : Int) (h : 0 ≤ n ∧ n ≤ 562949953421311) (w : World) :
    Calls Tryd.prog 20 #[iv n] w fun e w' => e = .returned (.string ⟨(varI n).toArray⟩) ∧ Below w.heap.size w w' := by
  have hin := inB_true h
  have hvar := Lib.hid (varI_in h)
  obtain ⟨h0, h1⟩ := h
  obtain ⟨N, rfl⟩ := Int.eq_ofNat_of_zero_le h0
  rw [Int.toNat_natCast] at hvar
  obtain ⟨i, hi, hz0, hz1, hz2⟩ := info_parts Tryd.infoU8
  have hb1 : i.bytes ≤ 1024 := by omega
  clear hz2
  go_enter Tryd.func20, Tryd.ntmps20
  go_wp2_with (go_at_call 40; refine (in_any _ _ _ _).mono ?_; rintro e w' ⟨rfl, rfl⟩)
  clear hin
  go_loopw [0, 3] (fun m out wr => ∃ (f k : Nat) (acc : List UInt8), 1 ≤ f ∧ f ≤ 7 ∧ k < 128 ^ f ∧ acc.length + f ≤ 7 ∧ acc ++ varN f k = varI N ∧ m = .int .i64 k ∧ Own w.heap.size wr acc out ∧ Below w.heap.size w wr) (fun m _ _ => (intOf m).toNat)
  case atStart => exact ⟨7, N, [], by omega, by omega, by rw [show (128 : Nat) ^ 7 = 562949953421312 by decide]; omega, by simp, hvar.out.symm, rfl, Own.built0 w _, (Below.refl _ _).alloc (Nat.le_refl _) _⟩
  case round =>
    obtain ⟨f, k, acc, hf1, hf7, hk, hlen, heq, rfl, hown, hb⟩ := hrel
    have Heq := Lib.hid heq; clear heq
    have Hk := Lib.hid hk; clear hk
    have hk7 := pow_le7 hf7 Hk.out
    have hsz := hb.size
    by_cases hlt : 127 < k
    · have ha := and127 k (by omega)
      have ho := or128 k
      go_wp2_with (at_builtin; refine wpList_app1 (α := UInt8) (y := hi7 k) rfl _ _ 34 rfl 5 5 i (.int .u8 0) Tryd.underlying34 hi hz0 hz1 hb1 rfl rfl hown 1 rfl hsz (by omega) rfl ?_ ?_)
      · exact enc_hi7 (by omega)
      · intro v' w' hown' hb'
        obtain ⟨hf2, hk2⟩ := pow_step hf1 Hk.out hlt
        go_wp2
        go_roundw
        case rel => exact ⟨f - 1, k / 128, acc ++ [hi7 k], by omega, by omega, hk2, by simp; omega, by rw [← Heq.out, varN_big' hf1 hlt]; simp, by go_num, hown', hb.trans hb'⟩
        case measure => simp [intOf]; omega
    · go_wp2_with (at_builtin; refine wpList_app1 (α := UInt8) (y := lo8 k) rfl _ _ 34 rfl 5 5 i (.int .u8 0) Tryd.underlying34 hi hz0 hz1 hb1 rfl rfl hown 1 rfl hsz (by omega) rfl ?_ ?_)
      · exact enc_lo8 (by omega)
      · intro v' w' hown' hb'
        go_wp2_with (refine wpList_str rfl 34 9 _ rfl 5 Tryd.underlying34 Tryd.underlying5 Tryd.underlying9 hown'.rd ?_)
        go_ret
        exact ⟨ret_str (by rw [← Heq.out, varN_small' hf1 (by omega)]), hb.trans hb'⟩
theorem var_out (n : Int) (h : ¬ (0 ≤ n ∧ n ≤ 562949953421311)) (w : World) :
    Calls Tryd.prog 20 #[iv n] w fun e w' => e = .returned (.string ⟨(varI n).toArray⟩) ∧ Below w.heap.size w w' := by
  have hin := inB_false h
  rw [varI_big h]
  go_enter Tryd.func20, Tryd.ntmps20
  go_wp2_with (go_at_call 40; refine (in_any _ _ _ _).mono ?_; rintro e w' ⟨rfl, rfl⟩)
  go_ret
  exact ⟨rfl, Below.refl _ _⟩
theorem var_any (n : Int) (w : World) : Calls Tryd.prog 20 #[iv n] w fun e w' => e = .returned (.string ⟨(varI n).toArray⟩) ∧ Below w.heap.size w w' :=
  if h : 0 ≤ n ∧ n ≤ 562949953421311 then var_in n h w else var_out n h w

set_option maxRecDepth 100000 in
set_option maxRecDepth 100000 in
theorem specVar_in (n : Int) (h : 0 ≤ n ∧ n ≤ 562949953421311) (w : World) :
    Calls Tryd.prog 45 #[iv n] w fun e w' => e = .returned (.string ⟨(varI n).toArray⟩) ∧ Below w.heap.size w w' := by
  have hin := inB_true h
  have hvar := Lib.hid (varI_in h)
  obtain ⟨h0, h1⟩ := h
  obtain ⟨N, rfl⟩ := Int.eq_ofNat_of_zero_le h0
  rw [Int.toNat_natCast] at hvar
  obtain ⟨i, hi, hz0, hz1, hz2⟩ := info_parts Tryd.infoU8
  have hb1 : i.bytes ≤ 1024 := by omega
  clear hz2
  go_enter Tryd.func45, Tryd.ntmps45
  go_wp2_with (go_at_call 63; refine (l1In_any _ _ _ _).mono ?_; rintro e w' ⟨rfl, rfl⟩)
  clear hin
  go_loopw [0, 3] (fun m out wr => ∃ (f k : Nat) (acc : List UInt8), 1 ≤ f ∧ f ≤ 7 ∧ k < 128 ^ f ∧ acc.length + f ≤ 7 ∧ acc ++ varN f k = varI N ∧ m = .int .i64 k ∧ Own w.heap.size wr acc out ∧ Below w.heap.size w wr) (fun m _ _ => (intOf m).toNat)
  case atStart => exact ⟨7, N, [], by omega, by omega, by rw [show (128 : Nat) ^ 7 = 562949953421312 by decide]; omega, by simp, hvar.out.symm, rfl, Own.built0 w _, (Below.refl _ _).alloc (Nat.le_refl _) _⟩
  case round =>
    obtain ⟨f, k, acc, hf1, hf7, hk, hlen, heq, rfl, hown, hb⟩ := hrel
    have Heq := Lib.hid heq; clear heq
    have Hk := Lib.hid hk; clear hk
    have hk7 := pow_le7 hf7 Hk.out
    have hsz := hb.size
    by_cases hlt : 127 < k
    · go_wp2_with (at_builtin; refine wpList_app1 (α := UInt8) (y := hi7 k) rfl _ _ 34 rfl 5 5 i (.int .u8 0) Tryd.underlying34 hi hz0 hz1 hb1 rfl rfl hown 1 rfl hsz (by omega) rfl ?_ ?_)
      · exact enc_hi7 (by omega)
      · intro v' w' hown' hb'
        obtain ⟨hf2, hk2⟩ := pow_step hf1 Hk.out hlt
        go_wp2
        go_roundw
        case rel => exact ⟨f - 1, k / 128, acc ++ [hi7 k], by omega, by omega, hk2, by simp; omega, by rw [← Heq.out, varN_big' hf1 hlt]; simp, by go_num, hown', hb.trans hb'⟩
        case measure => simp [intOf]; omega
    · go_wp2_with (at_builtin; refine wpList_app1 (α := UInt8) (y := lo8 k) rfl _ _ 34 rfl 5 5 i (.int .u8 0) Tryd.underlying34 hi hz0 hz1 hb1 rfl rfl hown 1 rfl hsz (by omega) rfl ?_ ?_)
      · exact enc_lo8 (by omega)
      · intro v' w' hown' hb'
        go_wp2_with (refine wpList_str rfl 34 9 _ rfl 5 Tryd.underlying34 Tryd.underlying5 Tryd.underlying9 hown'.rd ?_)
        go_ret
        exact ⟨ret_str (by rw [← Heq.out, varN_small' hf1 (by omega)]), hb.trans hb'⟩
theorem specVar_out (n : Int) (h : ¬ (0 ≤ n ∧ n ≤ 562949953421311)) (w : World) :
    Calls Tryd.prog 45 #[iv n] w fun e w' => e = .returned (.string ⟨(varI n).toArray⟩) ∧ Below w.heap.size w w' := by
  have hin := inB_false h
  rw [varI_big h]
  go_enter Tryd.func45, Tryd.ntmps45
  go_wp2_with (go_at_call 63; refine (l1In_any _ _ _ _).mono ?_; rintro e w' ⟨rfl, rfl⟩)
  go_ret
  exact ⟨rfl, Below.refl _ _⟩
theorem specVar_any (n : Int) (w : World) : Calls Tryd.prog 45 #[iv n] w fun e w' => e = .returned (.string ⟨(varI n).toArray⟩) ∧ Below w.heap.size w w' :=
  if h : 0 ≤ n ∧ n ≤ 562949953421311 then specVar_in n h w else specVar_out n h w


theorem readFixed_out (s : ByteArray) (wd : Int) (h : ¬ (1 ≤ wd ∧ wd ≤ 7 ∧ wd ≤ s.size)) (w : World) :
    Calls Tryd.prog 23 #[.string s, iv wd] w fun e w' => e = .returned (.tuple #[iv 0, .bool false]) ∧ w = w' := by
  by_cases h1 : 1 ≤ wd ∧ wd ≤ 7
  · have hin := inB_true h1
    have hd : (s.size : Int) < wd := by omega
    go_enter Tryd.func23, Tryd.ntmps23
    go_wp2_with (go_at_call 40; refine (in_any _ _ _ _).mono ?_; rintro e w' ⟨rfl, rfl⟩)
    go_ret2
    exact ⟨rfl, rfl⟩
  · have hin := inB_false h1
    go_enter Tryd.func23, Tryd.ntmps23
    go_wp2_with (go_at_call 40; refine (in_any _ _ _ _).mono ?_; rintro e w' ⟨rfl, rfl⟩)
    go_ret2
    exact ⟨rfl, rfl⟩


theorem fixed_1 (n : Nat) (hn : n < 256) (w : World) :
    Calls Tryd.prog 22 #[iv n, iv 1] w fun e w' => e = .returned (.string ⟨(fixN 1 n).toArray⟩) ∧ Below w.heap.size w w' := by
  have hin : inB 1 1 7 = true := rfl
  have hin2 : inB (n : Int) 0 255 = true := inB_true (by omega)
  obtain ⟨i, hi, hz0, hz1, hz2⟩ := info_parts Tryd.infoU8
  have hb1 : i.bytes ≤ 1024 := by omega
  clear hz2
  go_enter Tryd.func22, Tryd.ntmps22
  go_wp2_with (first | (go_at_call 40; refine (in_any _ _ _ _).mono ?_; rintro e w' ⟨rfl, rfl⟩) | (at_make; refine wpList_mk (α := UInt8) rfl _ _ 34 rfl 5 i (.int .u8 0) 0 Tryd.underlying34 hi hz0 hz1 hb1 rfl (fun _ => ⟨rfl, rfl⟩) .i64 .i64 _ _ _ rfl rfl rfl rfl (by decide) ?_; intro w1 ho1 hu1 hz1'))
  clear hin hin2
  go_loopw [0, 6] (fun x j wr => ∃ (c m : Nat) (l : List UInt8), c ≤ 1 ∧ m < 256 ∧ l.length = 1 ∧ j = iv ((c : Int) - 1) ∧ x = iv m ∧ fixN c m ++ l.drop c = fixN 1 n ∧ OwnS wr [w.heap.size] l (.slice (some ⟨w.heap.size, 0, none⟩) 1 1) ∧ Below w.heap.size w wr) (fun _ j _ => (intOf j + 1).toNat)
  case atStart => exact ⟨1, n, _, by omega, hn, by simp, rfl, rfl, by rw [List.drop_eq_nil_of_le (by simp)]; simp, ho1, hu1.nil⟩
  case round =>
    obtain ⟨c, m, l, hc, hm, hl, rfl, rfl, heq, ho, hb⟩ := hrel
    have Heq := Lib.hid heq; clear heq
    have Hl := Lib.hid hl; clear hl
    by_cases hlt : 1 ≤ c
    · obtain ⟨q, rfl⟩ : ∃ q, c = q + 1 := ⟨c - 1, by omega⟩
      have ec : ((q + 1 : Nat) : Int) - 1 = q := by omega
      rw [ec]; clear ec
      obtain ⟨_, hcell, hfz, hset⟩ := ho.store1z q (by rw [Hl.out]; omega)
      go_wp2
      go_roundw
      case rel =>
        exact ⟨q, m / 256, l.set q (lo8 m), by omega, by omega, by rw [List.length_set]; exact Hl.out, by go_num, by go_num, fixN_step (by rw [Hl.out]; omega) Heq.out, by first | (rw [bv_lo8' (k := m) (x := (m : Int) % 256) rfl]; exact (hset (lo8 m)).1) | (rw [bv_lo8' (k := m) (x := (m : Int)) (by omega)]; exact (hset (lo8 m)).1), hb.setCell (by exact Nat.le_refl _) _⟩
      case measure => simp [intOf] <;> omega
    · obtain rfl : c = 0 := by omega
      rw [show ((0 : Nat) : Int) - 1 = -1 from rfl]
      go_wp2_with (refine wpList_str rfl 34 9 _ rfl 5 Tryd.underlying34 Tryd.underlying5 Tryd.underlying9 ho.rd ?_)
      go_ret
      exact ⟨ret_str (fixN_end Heq.out), hb⟩
theorem fixed_2 (n : Nat) (hn : n < 65536) (w : World) :
    Calls Tryd.prog 22 #[iv n, iv 2] w fun e w' => e = .returned (.string ⟨(fixN 2 n).toArray⟩) ∧ Below w.heap.size w w' := by
  have hin : inB 2 1 7 = true := rfl
  have hin2 : inB (n : Int) 0 65535 = true := inB_true (by omega)
  obtain ⟨i, hi, hz0, hz1, hz2⟩ := info_parts Tryd.infoU8
  have hb1 : i.bytes ≤ 1024 := by omega
  clear hz2
  go_enter Tryd.func22, Tryd.ntmps22
  go_wp2_with (first | (go_at_call 40; refine (in_any _ _ _ _).mono ?_; rintro e w' ⟨rfl, rfl⟩) | (at_make; refine wpList_mk (α := UInt8) rfl _ _ 34 rfl 5 i (.int .u8 0) 0 Tryd.underlying34 hi hz0 hz1 hb1 rfl (fun _ => ⟨rfl, rfl⟩) .i64 .i64 _ _ _ rfl rfl rfl rfl (by decide) ?_; intro w1 ho1 hu1 hz1'))
  clear hin hin2
  go_loopw [0, 6] (fun x j wr => ∃ (c m : Nat) (l : List UInt8), c ≤ 2 ∧ m < 65536 ∧ l.length = 2 ∧ j = iv ((c : Int) - 1) ∧ x = iv m ∧ fixN c m ++ l.drop c = fixN 2 n ∧ OwnS wr [w.heap.size] l (.slice (some ⟨w.heap.size, 0, none⟩) 2 2) ∧ Below w.heap.size w wr) (fun _ j _ => (intOf j + 1).toNat)
  case atStart => exact ⟨2, n, _, by omega, hn, by simp, rfl, rfl, by rw [List.drop_eq_nil_of_le (by simp)]; simp, ho1, hu1.nil⟩
  case round =>
    obtain ⟨c, m, l, hc, hm, hl, rfl, rfl, heq, ho, hb⟩ := hrel
    have Heq := Lib.hid heq; clear heq
    have Hl := Lib.hid hl; clear hl
    by_cases hlt : 1 ≤ c
    · obtain ⟨q, rfl⟩ : ∃ q, c = q + 1 := ⟨c - 1, by omega⟩
      have ec : ((q + 1 : Nat) : Int) - 1 = q := by omega
      rw [ec]; clear ec
      obtain ⟨_, hcell, hfz, hset⟩ := ho.store1z q (by rw [Hl.out]; omega)
      go_wp2
      go_roundw
      case rel =>
        exact ⟨q, m / 256, l.set q (lo8 m), by omega, by omega, by rw [List.length_set]; exact Hl.out, by go_num, by go_num, fixN_step (by rw [Hl.out]; omega) Heq.out, by first | (rw [bv_lo8' (k := m) (x := (m : Int) % 256) rfl]; exact (hset (lo8 m)).1) | (rw [bv_lo8' (k := m) (x := (m : Int)) (by omega)]; exact (hset (lo8 m)).1), hb.setCell (by exact Nat.le_refl _) _⟩
      case measure => simp [intOf] <;> omega
    · obtain rfl : c = 0 := by omega
      rw [show ((0 : Nat) : Int) - 1 = -1 from rfl]
      go_wp2_with (refine wpList_str rfl 34 9 _ rfl 5 Tryd.underlying34 Tryd.underlying5 Tryd.underlying9 ho.rd ?_)
      go_ret
      exact ⟨ret_str (fixN_end Heq.out), hb⟩
theorem fixed_3 (n : Nat) (hn : n < 16777216) (w : World) :
    Calls Tryd.prog 22 #[iv n, iv 3] w fun e w' => e = .returned (.string ⟨(fixN 3 n).toArray⟩) ∧ Below w.heap.size w w' := by
  have hin : inB 3 1 7 = true := rfl
  have hin2 : inB (n : Int) 0 16777215 = true := inB_true (by omega)
  obtain ⟨i, hi, hz0, hz1, hz2⟩ := info_parts Tryd.infoU8
  have hb1 : i.bytes ≤ 1024 := by omega
  clear hz2
  go_enter Tryd.func22, Tryd.ntmps22
  go_wp2_with (first | (go_at_call 40; refine (in_any _ _ _ _).mono ?_; rintro e w' ⟨rfl, rfl⟩) | (at_make; refine wpList_mk (α := UInt8) rfl _ _ 34 rfl 5 i (.int .u8 0) 0 Tryd.underlying34 hi hz0 hz1 hb1 rfl (fun _ => ⟨rfl, rfl⟩) .i64 .i64 _ _ _ rfl rfl rfl rfl (by decide) ?_; intro w1 ho1 hu1 hz1'))
  clear hin hin2
  go_loopw [0, 6] (fun x j wr => ∃ (c m : Nat) (l : List UInt8), c ≤ 3 ∧ m < 16777216 ∧ l.length = 3 ∧ j = iv ((c : Int) - 1) ∧ x = iv m ∧ fixN c m ++ l.drop c = fixN 3 n ∧ OwnS wr [w.heap.size] l (.slice (some ⟨w.heap.size, 0, none⟩) 3 3) ∧ Below w.heap.size w wr) (fun _ j _ => (intOf j + 1).toNat)
  case atStart => exact ⟨3, n, _, by omega, hn, by simp, rfl, rfl, by rw [List.drop_eq_nil_of_le (by simp)]; simp, ho1, hu1.nil⟩
  case round =>
    obtain ⟨c, m, l, hc, hm, hl, rfl, rfl, heq, ho, hb⟩ := hrel
    have Heq := Lib.hid heq; clear heq
    have Hl := Lib.hid hl; clear hl
    by_cases hlt : 1 ≤ c
    · obtain ⟨q, rfl⟩ : ∃ q, c = q + 1 := ⟨c - 1, by omega⟩
      have ec : ((q + 1 : Nat) : Int) - 1 = q := by omega
      rw [ec]; clear ec
      obtain ⟨_, hcell, hfz, hset⟩ := ho.store1z q (by rw [Hl.out]; omega)
      go_wp2
      go_roundw
      case rel =>
        exact ⟨q, m / 256, l.set q (lo8 m), by omega, by omega, by rw [List.length_set]; exact Hl.out, by go_num, by go_num, fixN_step (by rw [Hl.out]; omega) Heq.out, by first | (rw [bv_lo8' (k := m) (x := (m : Int) % 256) rfl]; exact (hset (lo8 m)).1) | (rw [bv_lo8' (k := m) (x := (m : Int)) (by omega)]; exact (hset (lo8 m)).1), hb.setCell (by exact Nat.le_refl _) _⟩
      case measure => simp [intOf] <;> omega
    · obtain rfl : c = 0 := by omega
      rw [show ((0 : Nat) : Int) - 1 = -1 from rfl]
      go_wp2_with (refine wpList_str rfl 34 9 _ rfl 5 Tryd.underlying34 Tryd.underlying5 Tryd.underlying9 ho.rd ?_)
      go_ret
      exact ⟨ret_str (fixN_end Heq.out), hb⟩
theorem fixed_4 (n : Nat) (hn : n < 4294967296) (w : World) :
    Calls Tryd.prog 22 #[iv n, iv 4] w fun e w' => e = .returned (.string ⟨(fixN 4 n).toArray⟩) ∧ Below w.heap.size w w' := by
  have hin : inB 4 1 7 = true := rfl
  have hin2 : inB (n : Int) 0 4294967295 = true := inB_true (by omega)
  obtain ⟨i, hi, hz0, hz1, hz2⟩ := info_parts Tryd.infoU8
  have hb1 : i.bytes ≤ 1024 := by omega
  clear hz2
  go_enter Tryd.func22, Tryd.ntmps22
  go_wp2_with (first | (go_at_call 40; refine (in_any _ _ _ _).mono ?_; rintro e w' ⟨rfl, rfl⟩) | (at_make; refine wpList_mk (α := UInt8) rfl _ _ 34 rfl 5 i (.int .u8 0) 0 Tryd.underlying34 hi hz0 hz1 hb1 rfl (fun _ => ⟨rfl, rfl⟩) .i64 .i64 _ _ _ rfl rfl rfl rfl (by decide) ?_; intro w1 ho1 hu1 hz1'))
  clear hin hin2
  go_loopw [0, 6] (fun x j wr => ∃ (c m : Nat) (l : List UInt8), c ≤ 4 ∧ m < 4294967296 ∧ l.length = 4 ∧ j = iv ((c : Int) - 1) ∧ x = iv m ∧ fixN c m ++ l.drop c = fixN 4 n ∧ OwnS wr [w.heap.size] l (.slice (some ⟨w.heap.size, 0, none⟩) 4 4) ∧ Below w.heap.size w wr) (fun _ j _ => (intOf j + 1).toNat)
  case atStart => exact ⟨4, n, _, by omega, hn, by simp, rfl, rfl, by rw [List.drop_eq_nil_of_le (by simp)]; simp, ho1, hu1.nil⟩
  case round =>
    obtain ⟨c, m, l, hc, hm, hl, rfl, rfl, heq, ho, hb⟩ := hrel
    have Heq := Lib.hid heq; clear heq
    have Hl := Lib.hid hl; clear hl
    by_cases hlt : 1 ≤ c
    · obtain ⟨q, rfl⟩ : ∃ q, c = q + 1 := ⟨c - 1, by omega⟩
      have ec : ((q + 1 : Nat) : Int) - 1 = q := by omega
      rw [ec]; clear ec
      obtain ⟨_, hcell, hfz, hset⟩ := ho.store1z q (by rw [Hl.out]; omega)
      go_wp2
      go_roundw
      case rel =>
        exact ⟨q, m / 256, l.set q (lo8 m), by omega, by omega, by rw [List.length_set]; exact Hl.out, by go_num, by go_num, fixN_step (by rw [Hl.out]; omega) Heq.out, by first | (rw [bv_lo8' (k := m) (x := (m : Int) % 256) rfl]; exact (hset (lo8 m)).1) | (rw [bv_lo8' (k := m) (x := (m : Int)) (by omega)]; exact (hset (lo8 m)).1), hb.setCell (by exact Nat.le_refl _) _⟩
      case measure => simp [intOf] <;> omega
    · obtain rfl : c = 0 := by omega
      rw [show ((0 : Nat) : Int) - 1 = -1 from rfl]
      go_wp2_with (refine wpList_str rfl 34 9 _ rfl 5 Tryd.underlying34 Tryd.underlying5 Tryd.underlying9 ho.rd ?_)
      go_ret
      exact ⟨ret_str (fixN_end Heq.out), hb⟩
theorem fixed_5 (n : Nat) (hn : n < 1099511627776) (w : World) :
    Calls Tryd.prog 22 #[iv n, iv 5] w fun e w' => e = .returned (.string ⟨(fixN 5 n).toArray⟩) ∧ Below w.heap.size w w' := by
  have hin : inB 5 1 7 = true := rfl
  have hin2 : inB (n : Int) 0 1099511627775 = true := inB_true (by omega)
  obtain ⟨i, hi, hz0, hz1, hz2⟩ := info_parts Tryd.infoU8
  have hb1 : i.bytes ≤ 1024 := by omega
  clear hz2
  go_enter Tryd.func22, Tryd.ntmps22
  go_wp2_with (first | (go_at_call 40; refine (in_any _ _ _ _).mono ?_; rintro e w' ⟨rfl, rfl⟩) | (at_make; refine wpList_mk (α := UInt8) rfl _ _ 34 rfl 5 i (.int .u8 0) 0 Tryd.underlying34 hi hz0 hz1 hb1 rfl (fun _ => ⟨rfl, rfl⟩) .i64 .i64 _ _ _ rfl rfl rfl rfl (by decide) ?_; intro w1 ho1 hu1 hz1'))
  clear hin hin2
  go_loopw [0, 6] (fun x j wr => ∃ (c m : Nat) (l : List UInt8), c ≤ 5 ∧ m < 1099511627776 ∧ l.length = 5 ∧ j = iv ((c : Int) - 1) ∧ x = iv m ∧ fixN c m ++ l.drop c = fixN 5 n ∧ OwnS wr [w.heap.size] l (.slice (some ⟨w.heap.size, 0, none⟩) 5 5) ∧ Below w.heap.size w wr) (fun _ j _ => (intOf j + 1).toNat)
  case atStart => exact ⟨5, n, _, by omega, hn, by simp, rfl, rfl, by rw [List.drop_eq_nil_of_le (by simp)]; simp, ho1, hu1.nil⟩
  case round =>
    obtain ⟨c, m, l, hc, hm, hl, rfl, rfl, heq, ho, hb⟩ := hrel
    have Heq := Lib.hid heq; clear heq
    have Hl := Lib.hid hl; clear hl
    by_cases hlt : 1 ≤ c
    · obtain ⟨q, rfl⟩ : ∃ q, c = q + 1 := ⟨c - 1, by omega⟩
      have ec : ((q + 1 : Nat) : Int) - 1 = q := by omega
      rw [ec]; clear ec
      obtain ⟨_, hcell, hfz, hset⟩ := ho.store1z q (by rw [Hl.out]; omega)
      go_wp2
      go_roundw
      case rel =>
        exact ⟨q, m / 256, l.set q (lo8 m), by omega, by omega, by rw [List.length_set]; exact Hl.out, by go_num, by go_num, fixN_step (by rw [Hl.out]; omega) Heq.out, by first | (rw [bv_lo8' (k := m) (x := (m : Int) % 256) rfl]; exact (hset (lo8 m)).1) | (rw [bv_lo8' (k := m) (x := (m : Int)) (by omega)]; exact (hset (lo8 m)).1), hb.setCell (by exact Nat.le_refl _) _⟩
      case measure => simp [intOf] <;> omega
    · obtain rfl : c = 0 := by omega
      rw [show ((0 : Nat) : Int) - 1 = -1 from rfl]
      go_wp2_with (refine wpList_str rfl 34 9 _ rfl 5 Tryd.underlying34 Tryd.underlying5 Tryd.underlying9 ho.rd ?_)
      go_ret
      exact ⟨ret_str (fixN_end Heq.out), hb⟩
theorem fixed_6 (n : Nat) (hn : n < 281474976710656) (w : World) :
    Calls Tryd.prog 22 #[iv n, iv 6] w fun e w' => e = .returned (.string ⟨(fixN 6 n).toArray⟩) ∧ Below w.heap.size w w' := by
  have hin : inB 6 1 7 = true := rfl
  have hin2 : inB (n : Int) 0 281474976710655 = true := inB_true (by omega)
  obtain ⟨i, hi, hz0, hz1, hz2⟩ := info_parts Tryd.infoU8
  have hb1 : i.bytes ≤ 1024 := by omega
  clear hz2
  go_enter Tryd.func22, Tryd.ntmps22
  go_wp2_with (first | (go_at_call 40; refine (in_any _ _ _ _).mono ?_; rintro e w' ⟨rfl, rfl⟩) | (at_make; refine wpList_mk (α := UInt8) rfl _ _ 34 rfl 5 i (.int .u8 0) 0 Tryd.underlying34 hi hz0 hz1 hb1 rfl (fun _ => ⟨rfl, rfl⟩) .i64 .i64 _ _ _ rfl rfl rfl rfl (by decide) ?_; intro w1 ho1 hu1 hz1'))
  clear hin hin2
  go_loopw [0, 6] (fun x j wr => ∃ (c m : Nat) (l : List UInt8), c ≤ 6 ∧ m < 281474976710656 ∧ l.length = 6 ∧ j = iv ((c : Int) - 1) ∧ x = iv m ∧ fixN c m ++ l.drop c = fixN 6 n ∧ OwnS wr [w.heap.size] l (.slice (some ⟨w.heap.size, 0, none⟩) 6 6) ∧ Below w.heap.size w wr) (fun _ j _ => (intOf j + 1).toNat)
  case atStart => exact ⟨6, n, _, by omega, hn, by simp, rfl, rfl, by rw [List.drop_eq_nil_of_le (by simp)]; simp, ho1, hu1.nil⟩
  case round =>
    obtain ⟨c, m, l, hc, hm, hl, rfl, rfl, heq, ho, hb⟩ := hrel
    have Heq := Lib.hid heq; clear heq
    have Hl := Lib.hid hl; clear hl
    by_cases hlt : 1 ≤ c
    · obtain ⟨q, rfl⟩ : ∃ q, c = q + 1 := ⟨c - 1, by omega⟩
      have ec : ((q + 1 : Nat) : Int) - 1 = q := by omega
      rw [ec]; clear ec
      obtain ⟨_, hcell, hfz, hset⟩ := ho.store1z q (by rw [Hl.out]; omega)
      go_wp2
      go_roundw
      case rel =>
        exact ⟨q, m / 256, l.set q (lo8 m), by omega, by omega, by rw [List.length_set]; exact Hl.out, by go_num, by go_num, fixN_step (by rw [Hl.out]; omega) Heq.out, by first | (rw [bv_lo8' (k := m) (x := (m : Int) % 256) rfl]; exact (hset (lo8 m)).1) | (rw [bv_lo8' (k := m) (x := (m : Int)) (by omega)]; exact (hset (lo8 m)).1), hb.setCell (by exact Nat.le_refl _) _⟩
      case measure => simp [intOf] <;> omega
    · obtain rfl : c = 0 := by omega
      rw [show ((0 : Nat) : Int) - 1 = -1 from rfl]
      go_wp2_with (refine wpList_str rfl 34 9 _ rfl 5 Tryd.underlying34 Tryd.underlying5 Tryd.underlying9 ho.rd ?_)
      go_ret
      exact ⟨ret_str (fixN_end Heq.out), hb⟩
theorem fixed_7 (n : Nat) (hn : n < 72057594037927936) (w : World) :
    Calls Tryd.prog 22 #[iv n, iv 7] w fun e w' => e = .returned (.string ⟨(fixN 7 n).toArray⟩) ∧ Below w.heap.size w w' := by
  have hin : inB 7 1 7 = true := rfl
  have hin2 : inB (n : Int) 0 72057594037927935 = true := inB_true (by omega)
  obtain ⟨i, hi, hz0, hz1, hz2⟩ := info_parts Tryd.infoU8
  have hb1 : i.bytes ≤ 1024 := by omega
  clear hz2
  go_enter Tryd.func22, Tryd.ntmps22
  go_wp2_with (first | (go_at_call 40; refine (in_any _ _ _ _).mono ?_; rintro e w' ⟨rfl, rfl⟩) | (at_make; refine wpList_mk (α := UInt8) rfl _ _ 34 rfl 5 i (.int .u8 0) 0 Tryd.underlying34 hi hz0 hz1 hb1 rfl (fun _ => ⟨rfl, rfl⟩) .i64 .i64 _ _ _ rfl rfl rfl rfl (by decide) ?_; intro w1 ho1 hu1 hz1'))
  clear hin hin2
  go_loopw [0, 6] (fun x j wr => ∃ (c m : Nat) (l : List UInt8), c ≤ 7 ∧ m < 72057594037927936 ∧ l.length = 7 ∧ j = iv ((c : Int) - 1) ∧ x = iv m ∧ fixN c m ++ l.drop c = fixN 7 n ∧ OwnS wr [w.heap.size] l (.slice (some ⟨w.heap.size, 0, none⟩) 7 7) ∧ Below w.heap.size w wr) (fun _ j _ => (intOf j + 1).toNat)
  case atStart => exact ⟨7, n, _, by omega, hn, by simp, rfl, rfl, by rw [List.drop_eq_nil_of_le (by simp)]; simp, ho1, hu1.nil⟩
  case round =>
    obtain ⟨c, m, l, hc, hm, hl, rfl, rfl, heq, ho, hb⟩ := hrel
    have Heq := Lib.hid heq; clear heq
    have Hl := Lib.hid hl; clear hl
    by_cases hlt : 1 ≤ c
    · obtain ⟨q, rfl⟩ : ∃ q, c = q + 1 := ⟨c - 1, by omega⟩
      have ec : ((q + 1 : Nat) : Int) - 1 = q := by omega
      rw [ec]; clear ec
      obtain ⟨_, hcell, hfz, hset⟩ := ho.store1z q (by rw [Hl.out]; omega)
      go_wp2
      go_roundw
      case rel =>
        exact ⟨q, m / 256, l.set q (lo8 m), by omega, by omega, by rw [List.length_set]; exact Hl.out, by go_num, by go_num, fixN_step (by rw [Hl.out]; omega) Heq.out, by first | (rw [bv_lo8' (k := m) (x := (m : Int) % 256) rfl]; exact (hset (lo8 m)).1) | (rw [bv_lo8' (k := m) (x := (m : Int)) (by omega)]; exact (hset (lo8 m)).1), hb.setCell (by exact Nat.le_refl _) _⟩
      case measure => simp [intOf] <;> omega
    · obtain rfl : c = 0 := by omega
      rw [show ((0 : Nat) : Int) - 1 = -1 from rfl]
      go_wp2_with (refine wpList_str rfl 34 9 _ rfl 5 Tryd.underlying34 Tryd.underlying5 Tryd.underlying9 ho.rd ?_)
      go_ret
      exact ⟨ret_str (fixN_end Heq.out), hb⟩
theorem fixed_in (n wd : Nat) (h1 : 1 ≤ wd) (h7 : wd ≤ 7) (hn : n < 256 ^ wd) (w : World) :
    Calls Tryd.prog 22 #[iv n, iv wd] w fun e w' => e = .returned (.string ⟨(fixN wd n).toArray⟩) ∧ Below w.heap.size w w' := by
  obtain rfl | rfl | rfl | rfl | rfl | rfl | rfl : wd = 1 ∨ wd = 2 ∨ wd = 3 ∨ wd = 4 ∨ wd = 5 ∨ wd = 6 ∨ wd = 7 := by omega
  · exact fixed_1 n (by simpa using hn) w
  · exact fixed_2 n (by simpa using hn) w
  · exact fixed_3 n (by simpa using hn) w
  · exact fixed_4 n (by simpa using hn) w
  · exact fixed_5 n (by simpa using hn) w
  · exact fixed_6 n (by simpa using hn) w
  · exact fixed_7 n (by simpa using hn) w
theorem fixed_no_1 (n : Int) (hn : ¬ (0 ≤ n ∧ n ≤ 255)) (w : World) :
    Calls Tryd.prog 22 #[iv n, iv 1] w fun e w' => e = .returned (.string ⟨#[]⟩) ∧ w = w' := by
  have hin : inB 1 1 7 = true := rfl
  have hin2 := inB_false hn
  clear hn
  go_enter Tryd.func22, Tryd.ntmps22
  go_wp2_with (go_at_call 40; refine (in_any _ _ _ _).mono ?_; rintro e w' ⟨rfl, rfl⟩)
  go_ret
  exact ⟨rfl, rfl⟩
theorem fixed_no_2 (n : Int) (hn : ¬ (0 ≤ n ∧ n ≤ 65535)) (w : World) :
    Calls Tryd.prog 22 #[iv n, iv 2] w fun e w' => e = .returned (.string ⟨#[]⟩) ∧ w = w' := by
  have hin : inB 2 1 7 = true := rfl
  have hin2 := inB_false hn
  clear hn
  go_enter Tryd.func22, Tryd.ntmps22
  go_wp2_with (go_at_call 40; refine (in_any _ _ _ _).mono ?_; rintro e w' ⟨rfl, rfl⟩)
  go_ret
  exact ⟨rfl, rfl⟩
theorem fixed_no_3 (n : Int) (hn : ¬ (0 ≤ n ∧ n ≤ 16777215)) (w : World) :
    Calls Tryd.prog 22 #[iv n, iv 3] w fun e w' => e = .returned (.string ⟨#[]⟩) ∧ w = w' := by
  have hin : inB 3 1 7 = true := rfl
  have hin2 := inB_false hn
  clear hn
  go_enter Tryd.func22, Tryd.ntmps22
  go_wp2_with (go_at_call 40; refine (in_any _ _ _ _).mono ?_; rintro e w' ⟨rfl, rfl⟩)
  go_ret
  exact ⟨rfl, rfl⟩
theorem fixed_no_4 (n : Int) (hn : ¬ (0 ≤ n ∧ n ≤ 4294967295)) (w : World) :
    Calls Tryd.prog 22 #[iv n, iv 4] w fun e w' => e = .returned (.string ⟨#[]⟩) ∧ w = w' := by
  have hin : inB 4 1 7 = true := rfl
  have hin2 := inB_false hn
  clear hn
  go_enter Tryd.func22, Tryd.ntmps22
  go_wp2_with (go_at_call 40; refine (in_any _ _ _ _).mono ?_; rintro e w' ⟨rfl, rfl⟩)
  go_ret
  exact ⟨rfl, rfl⟩
theorem fixed_no_5 (n : Int) (hn : ¬ (0 ≤ n ∧ n ≤ 1099511627775)) (w : World) :
    Calls Tryd.prog 22 #[iv n, iv 5] w fun e w' => e = .returned (.string ⟨#[]⟩) ∧ w = w' := by
  have hin : inB 5 1 7 = true := rfl
  have hin2 := inB_false hn
  clear hn
  go_enter Tryd.func22, Tryd.ntmps22
  go_wp2_with (go_at_call 40; refine (in_any _ _ _ _).mono ?_; rintro e w' ⟨rfl, rfl⟩)
  go_ret
  exact ⟨rfl, rfl⟩
theorem fixed_no_6 (n : Int) (hn : ¬ (0 ≤ n ∧ n ≤ 281474976710655)) (w : World) :
    Calls Tryd.prog 22 #[iv n, iv 6] w fun e w' => e = .returned (.string ⟨#[]⟩) ∧ w = w' := by
  have hin : inB 6 1 7 = true := rfl
  have hin2 := inB_false hn
  clear hn
  go_enter Tryd.func22, Tryd.ntmps22
  go_wp2_with (go_at_call 40; refine (in_any _ _ _ _).mono ?_; rintro e w' ⟨rfl, rfl⟩)
  go_ret
  exact ⟨rfl, rfl⟩
theorem fixed_no_7 (n : Int) (hn : ¬ (0 ≤ n ∧ n ≤ 72057594037927935)) (w : World) :
    Calls Tryd.prog 22 #[iv n, iv 7] w fun e w' => e = .returned (.string ⟨#[]⟩) ∧ w = w' := by
  have hin : inB 7 1 7 = true := rfl
  have hin2 := inB_false hn
  clear hn
  go_enter Tryd.func22, Tryd.ntmps22
  go_wp2_with (go_at_call 40; refine (in_any _ _ _ _).mono ?_; rintro e w' ⟨rfl, rfl⟩)
  go_ret
  exact ⟨rfl, rfl⟩
theorem fixed_out (n wd : Int) (h : ¬ (1 ≤ wd ∧ wd ≤ 7 ∧ 0 ≤ n ∧ n < 256 ^ wd.toNat)) (w : World) :
    Calls Tryd.prog 22 #[iv n, iv wd] w fun e w' => e = .returned (.string ⟨#[]⟩) ∧ w = w' := by
  by_cases h1 : 1 ≤ wd ∧ wd ≤ 7
  · obtain rfl | rfl | rfl | rfl | rfl | rfl | rfl : wd = 1 ∨ wd = 2 ∨ wd = 3 ∨ wd = 4 ∨ wd = 5 ∨ wd = 6 ∨ wd = 7 := by omega
    · exact fixed_no_1 n (by simp at h; omega) w
    · exact fixed_no_2 n (by simp at h; omega) w
    · exact fixed_no_3 n (by simp at h; omega) w
    · exact fixed_no_4 n (by simp at h; omega) w
    · exact fixed_no_5 n (by simp at h; omega) w
    · exact fixed_no_6 n (by simp at h; omega) w
    · exact fixed_no_7 n (by simp at h; omega) w
  · have hin := inB_false h1
    go_enter Tryd.func22, Tryd.ntmps22
    go_wp2_with (go_at_call 40; refine (in_any _ _ _ _).mono ?_; rintro e w' ⟨rfl, rfl⟩)
    go_ret
    exact ⟨rfl, rfl⟩
end Go.Proofs.YtlploojfcmcckaaDoor
