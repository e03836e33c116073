/- The walks of chapter 1: Hex. No conditions. -/
import Derived.Test.YtlploojfcmcckaaDoorNum
import Derived.Test.YtlploojfcmcckaaDoorRegion
import Derived.Deep.QuietTactic
namespace Go.Proofs.YtlploojfcmcckaaDoor
open Go.RowKit
set_option maxHeartbeats 1000000 in
theorem hex_any (s : ByteArray) (hs : s.size ≤ 1048576) (w : World) :
    Calls Tryd.prog 25 #[.string s] w fun e w' => e = .returned (.string ⟨(hexL s.data.toList).toArray⟩) ∧ Below w.heap.size w w' := by
  obtain ⟨i, hi, hz0, hz1, hz2⟩ := info_parts Tryd.infoU8
  have hb1 : i.bytes ≤ 1024 := by omega
  clear hz2
  go_enter Tryd.func25, Tryd.ntmps25
  go_wp2_with fail
  go_loopw [3, 8] (fun out i wr => ∃ k : Nat, k ≤ s.size ∧ i = iv k ∧ Own w.heap.size wr (hexL (s.data.toList.take k)) out ∧ Below w.heap.size w wr) (fun _ i _ => s.size - (intOf i).toNat)
  case atStart => exact ⟨0, Nat.zero_le _, rfl, Own.built0 w _, (Below.refl _ _).alloc (Nat.le_refl _) _⟩
  case round =>
    obtain ⟨k, hk, rfl, hown, hb⟩ := hrel
    by_cases hlt : k < s.size
    · have hst := Lib.hid (hexL_step s k hlt)
      have hby := byte_le s[k]
      go_wp2_with fail
      refine wp_region_seg (fun _ => True) (((List.range 11).map fun i => (i, true)) ++ ([11, 12, 13].map fun i => (i, false))) (by kernel_rfl) (by kernel_rfl) (fun _ _ _ _ _ h => h) trivial ?_
      simp only [List.range, List.range.loop, List.map_cons, List.map_nil, List.cons_append, List.nil_append]
      have r1 : 0 ≤ (s[k].toNat : Int) / 16 := by omega
      have r2 : (s[k].toNat : Int) / 16 < 16 := by omega
      have r3 : 0 ≤ (s[k].toNat : Int) % 16 := by omega
      have r4 : (s[k].toNat : Int) % 16 < 16 := by omega
      have hdl := digit_lit
      iterate 9 (refine seg_step rfl (fun K hK => ?_); go_simp; refine hK _ ?_; clear hK K)
      refine seg_step rfl (fun K hK => ?_); go_simp; go_bits; refine hK _ ?_; clear hK K
      refine seg_step rfl (fun K hK => ?_); go_simp; refine hK _ ?_; clear hK K
      refine seg_drop 11 (by kernel_rfl) ?_
      simp only [List.drop_succ_cons, List.drop_zero]
      have hown2 := hown.drew
      have hb2 := hb.drew
      have hsz2 := hb2.size
      clear hown hb r1 r2 r3 r4 hdl
      generalize wr.drew = w2 at hown2 hb2 hsz2 ⊢
      go_wp2_with (at_builtin; refine wpList_appn (α := UInt8) (w := w2) rfl _ _ 34 rfl 5 5 i (.int .u8 0) Tryd.underlying34 hi hz0 hz1 hb1 rfl [hexD (s[k].toNat / 16), hexD (s[k].toNat % 16)] rfl hown2 2 2 rfl rfl hsz2 ?_ rfl ?_ ?_)
      · rw [hexL_len]; simp; omega
      · exact own_two (hexD_div _) (hexD_mod _)
      · intro v' w' ho hb'
        go_wp2
        go_roundw
        case rel => exact ⟨k + 1, by omega, by go_num, by rw [hst.out]; exact ho, hb2.trans hb'⟩
        case measure => simp [intOf]; omega
    · go_wp2_with (refine wpList_str rfl 34 9 _ rfl 5 Tryd.underlying34 Tryd.underlying5 Tryd.underlying9 hown.rd ?_)
      go_ret
      exact ⟨ret_str (by rw [List.take_of_length_le (by simp; omega)]), hb⟩
end Go.Proofs.YtlploojfcmcckaaDoor
