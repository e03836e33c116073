/- The walks of chapter 1: numbers as texts. No conditions. -/
import Derived.Test.YtfplmlcokgbbmabRows
import Derived.Test.YtfplmlcokgbbmabNumL
namespace Go.Proofs.Ytfplmlcokgbbmab
open Go.RowKit

theorem Try.infoU8 : (Try.prog.info? 5).map (fun i => (i.zero, i.size, i.bytes)) = some (some (.int .u8 0), 1, 1) := by kernel_rfl
theorem in_any (n lo hi : Int) (w : World) :
    Calls Try.prog 56 #[iv n, iv lo, iv hi] w fun e w' => e = .returned (.bool (inB n lo hi)) ∧ w = w' := by
  go_enter Try.func56, Try.ntmps56
  go_wp2
  all_goals go_ret
  all_goals (refine ⟨?_, rfl⟩; unfold inB; simp_all; try omega)
theorem l1In_any (n lo hi : Int) (w : World) :
    Calls Try.prog 52 #[iv n, iv lo, iv hi] w fun e w' => e = .returned (.bool (inB n lo hi)) ∧ w = w' := by
  go_enter Try.func52, Try.ntmps52
  go_wp2
  all_goals go_ret
  all_goals (refine ⟨?_, rfl⟩; unfold inB; simp_all; try omega)


set_option maxRecDepth 100000 in
theorem specVar_in (n : Int) (h : 0 ≤ n ∧ n ≤ 562949953421311) (w : World) :
    Calls Try.prog 46 #[iv n] w fun e w' => e = .returned (.string ⟨(varI n).toArray⟩) ∧ Below w.heap.size w w' := by
  have hin := inB_true h
  have hvar := Lib.hid (varI_in h)
  obtain ⟨h0, h1⟩ := h
  obtain ⟨N, rfl⟩ := Int.eq_ofNat_of_zero_le h0
  rw [Int.toNat_natCast] at hvar
  obtain ⟨i, hi, hz0, hz1, hz2⟩ := info_parts Try.infoU8
  have hb1 : i.bytes ≤ 1024 := by omega
  clear hz2
  go_enter Try.func46, Try.ntmps46
  go_wp2_with (go_at_call 52; refine (l1In_any _ _ _ _).mono ?_; rintro e w' ⟨rfl, rfl⟩)
  clear hin
  go_loopw [0, 3] (fun m out wr => ∃ (f k : Nat) (acc : List UInt8), 1 ≤ f ∧ f ≤ 7 ∧ k < 128 ^ f ∧ acc.length + f ≤ 7 ∧ acc ++ varN f k = varI N ∧ m = .int .i64 k ∧ Own w.heap.size wr acc out ∧ Below w.heap.size w wr) (fun m _ _ => (intOf m).toNat)
  case atStart => exact ⟨7, N, [], by omega, by omega, by rw [show (128 : Nat) ^ 7 = 562949953421312 by decide]; omega, by simp, hvar.out.symm, rfl, Own.built0 w _, (Below.refl _ _).alloc (Nat.le_refl _) _⟩
  case round =>
    obtain ⟨f, k, acc, hf1, hf7, hk, hlen, heq, rfl, hown, hb⟩ := hrel
    have Heq := Lib.hid heq; clear heq
    have Hk := Lib.hid hk; clear hk
    have hk7 := pow_le7 hf7 Hk.out
    have hsz := hb.size
    by_cases hlt : 127 < k
    · go_wp2_with (at_builtin; refine wpList_app1 (α := UInt8) (y := hi7 k) rfl _ _ 24 rfl 5 5 i (.int .u8 0) Try.underlying24 hi hz0 hz1 hb1 rfl rfl hown 1 rfl hsz (by omega) rfl ?_ ?_)
      · exact enc_hi7 (by omega)
      · intro v' w' hown' hb'
        obtain ⟨hf2, hk2⟩ := pow_step hf1 Hk.out hlt
        go_wp2
        go_roundw
        case rel => exact ⟨f - 1, k / 128, acc ++ [hi7 k], by omega, by omega, hk2, by simp; omega, by rw [← Heq.out, varN_big' hf1 hlt]; simp, by go_num, hown', hb.trans hb'⟩
        case measure => simp [intOf]; omega
    · go_wp2_with (at_builtin; refine wpList_app1 (α := UInt8) (y := lo8 k) rfl _ _ 24 rfl 5 5 i (.int .u8 0) Try.underlying24 hi hz0 hz1 hb1 rfl rfl hown 1 rfl hsz (by omega) rfl ?_ ?_)
      · exact enc_lo8 (by omega)
      · intro v' w' hown' hb'
        go_wp2_with (refine wpList_str rfl 24 9 _ rfl 5 Try.underlying24 Try.underlying5 Try.underlying9 hown'.rd ?_)
        go_ret
        exact ⟨ret_str (by rw [← Heq.out, varN_small' hf1 (by omega)]), hb.trans hb'⟩
theorem specVar_out (n : Int) (h : ¬ (0 ≤ n ∧ n ≤ 562949953421311)) (w : World) :
    Calls Try.prog 46 #[iv n] w fun e w' => e = .returned (.string ⟨(varI n).toArray⟩) ∧ Below w.heap.size w w' := by
  have hin := inB_false h
  rw [varI_big h]
  go_enter Try.func46, Try.ntmps46
  go_wp2_with (go_at_call 52; refine (l1In_any _ _ _ _).mono ?_; rintro e w' ⟨rfl, rfl⟩)
  go_ret
  exact ⟨rfl, Below.refl _ _⟩
theorem specVar_any (n : Int) (w : World) : Calls Try.prog 46 #[iv n] w fun e w' => e = .returned (.string ⟨(varI n).toArray⟩) ∧ Below w.heap.size w w' :=
  if h : 0 ≤ n ∧ n ≤ 562949953421311 then specVar_in n h w else specVar_out n h w




end Go.Proofs.Ytfplmlcokgbbmab
