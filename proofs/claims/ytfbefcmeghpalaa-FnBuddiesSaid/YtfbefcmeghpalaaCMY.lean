/- Contracts of functions of the program. No conditions beyond those that each states. -/
import Derived.Test.YtfbefcmeghpalaaCMX
import Derived.Test.YtfbefcmeghpalaaCMP5
import Derived.Test.YtfbefcmeghpalaaCMT
set_option linter.all false
namespace Go.Proofs.Ytfbefcmeghpalaa.VM
open Go Go.RowKit Go.Proofs
theorem wt_rows (S : List (List Int)) : Mk.wt S = S.length + wtL (fun l : List Int => l.length) S := by
 rw [wt_list]
 congr 2
 funext l
 exact wt_ints l
theorem wtL_le {S : List (List Int)} (h : ∀ k, (S.getD k []).length ≤ 1000) : wtL (fun l : List Int => l.length) S ≤ S.length * 1000 := by
 induction S with
 | nil => simp [wtL]
 | cons a S ih =>
  have h0 := h 0
  have ih := ih fun k => h (k + 1)
  simp only [List.getD_cons_zero] at h0
  simp only [wtL, List.map_cons, List.foldr_cons, List.length_cons] at ih ⊢
  omega
theorem Drawn.wt {S : List (List Int)} (h : Drawn S) : Mk.wt S ≤ 1048576 := by
 have h1 := wtL_le h.2
 rw [wt_rows]
 rcases h.1 with e | e <;> rw [e] at h1 ⊢ <;> omega
theorem HeapG.wt {S : List (List Int)} (h : HeapG S) : Mk.wt S ≤ 1048576 :=
 Drawn.wt (S := S) ⟨.inl h.len, fun k => Nat.le_trans (h.few16 k) (by omega)⟩
/-- the first part of the law -/
structure BL (S : List (List Int)) : Prop where
 ok : okS (bT S).1 = true
 sp : ((bT S).2 = -1 ∧ freeB S = 0) ∨ (0 ≤ (bT S).2 ∧ 0 < freeB S ∧ freeB S ≤ 16 ∧ freeB (bT S).1 = freeB S - 1 ∧ (bG (bT S).1 (bT S).2).2 = true ∧ (bG (bG (bT S).1 (bT S).2).1 (bT S).2).2 = false ∧ freeB (bG (bT S).1 (bT S).2).1 = freeB S ∧ okS (bG (bT S).1 (bT S).2).1 = true)
 wx : Mk.wt (bT S).1 ≤ 1048576
 wy : Mk.wt (bG (bT S).1 (bT S).2).1 ≤ 1048576
theorem ind_self (f : Int) : ind f 0 f = 1 := by unfold ind; rw [if_pos ⟨Int.le_refl _, by omega⟩]
theorem buddyLaw {S : List (List Int)} (hk : okS S = true) : BL S := by
 have hG := good_iff.1 hk
 have hT : bT S = (resS S, resF S) := if_pos hk
 obtain ⟨hX, hc⟩ := take_good hG
 have hxk := good_iff.2 hX
 have hgX : bG (resS S) (resF S) = gS (resS S) (resF S) := if_pos hxk
 have hY : HeapG (gS (resS S) (resF S)).1 := give_keep hX _
 have hyk := good_iff.2 hY
 refine ⟨by rw [hT]; exact hxk, ?_, by rw [hT]; exact hX.wt, by rw [hT]; simp only; rw [hgX]; exact hY.wt⟩
 rw [hT]
 simp only
 rw [hgX, free_tot hG]
 rcases hc with ⟨h1, h2⟩ | ⟨h1, h2, h3⟩
 ·exact .inl ⟨h1, by rw [h2]; rfl⟩
 ·refine .inr ⟨h1, ?_⟩
  have ht : tot S = tot (resS S) + 1 := tot_step ⟨h1, h2⟩ h3
  have hle := tot_le hG
  have hns : isS (resS S) (resF S) = false := by
   cases he : isS (resS S) (resF S) with
   | false => rfl
   | true =>
    have q1 := (is_cov hX ⟨h1, h2⟩).1 he
    have q2 := h3 _ h1 h2
    have q3 := hG.dj _ h1 h2
    rw [ind_self] at q2
    omega
  obtain ⟨g1, g2, g3⟩ := give_good hX ⟨h1, h2⟩ hns
  have hty : tot (gS (resS S) (resF S)).1 = tot (resS S) + 1 := tot_step ⟨h1, h2⟩ g3
  have hsy : isS (gS (resS S) (resF S)).1 (resF S) = true := by
   refine (is_cov g2 ⟨h1, h2⟩).2 ?_
   rw [g3 _ h1 h2, ind_self]
   omega
  have hg2 : bG (gS (resS S) (resF S)).1 (resF S) = ((gS (resS S) (resF S)).1, false) := by
   rw [bG, if_pos hyk, gS, if_neg (by rintro ⟨_, q⟩; rw [hsy] at q; cases q)]
  rw [free_tot hX, free_tot hY, hg2]
  exact ⟨by omega, by omega, by omega, g1, rfl, by omega, hyk⟩
theorem badLaw {S : List (List Int)} (hk : okS S = false) : bT S = ([], -1) ∧ freeB S = 0 := by
 have hn : ¬ okS S = true := by simp [hk]
 exact ⟨if_neg hn, if_neg hn⟩
/-- so many takes from all, then so many gives -/
def hkS : Nat → List (List Int)
 | 0 => buddyAll.Free
 | k + 1 => (bT (hkS k)).1
def gkS (s : Nat) : Nat → List (List Int)
 | 0 => hkS 16
 | k + 1 => (bG (gkS s k) (((k * 5 + s) % 16 : Nat) : Int)).1
def gotS (k : Nat) : List Int := (List.range k).map fun (n : Nat) => (n : Int)
theorem got_len (k : Nat) : (gotS k).length = k := by simp [gotS]
theorem got_get {k j : Nat} (h : j < k) : (gotS k).getD j En.dflt = (j : Int) := by
 simp [gotS, List.getD_eq_getElem?_getD, List.getElem?_map, List.getElem?_range h]
theorem got_succ (k : Nat) : gotS k ++ [(k : Int)] = gotS (k + 1) := by simp [gotS, List.range_succ]
theorem takes_run : ∀ k : Nat, k < 16 → (bT (hkS k)).2 = (k : Int) := by decide +kernel
theorem takes_ok : ∀ k : Nat, k < 17 → okS (hkS k) = true := by decide +kernel
theorem gives_run : ∀ s : Nat, s < 16 → ∀ k : Nat, k < 16 → (bG (gkS s k) (((k * 5 + s) % 16 : Nat) : Int)).2 = true ∧ okS (gkS s k) = true := by decide +kernel
theorem gives_end : ∀ s : Nat, s < 16 → gkS s 16 = [[], [], [], [], [0]] := by decide +kernel
theorem takes_wt {k : Nat} (h : k ≤ 16) : Mk.wt (hkS k) ≤ 1048576 := (good_iff.1 (takes_ok k (by omega))).wt
theorem gives_wt {s : Nat} (hs : s < 16) {k : Nat} (h : k < 16) : Mk.wt (gkS s k) ≤ 1048576 := (good_iff.1 (gives_run s hs k h).2).wt
theorem end_free : freeB [[], [], [], [], [0]] = 16 := by decide +kernel
theorem end_ok : okS [[], [], [], [], [0]] = true := by decide +kernel
theorem gives_ok {s : Nat} (hs : s < 16) {k : Nat} (h : k ≤ 16) : okS (gkS s k) = true := by
 rcases Nat.lt_or_ge k 16 with h' | h'
 ·exact (gives_run s hs k h').2
 ·rw [show k = 16 by omega, gives_end s hs]; exact end_ok
/-- a byte of a code, or what follows from it -/
def at0 (code : List UInt8) : Nat := if 0 < code.length then (code.getD 0 En.dflt).toNat else (code.length * 11) % 256
theorem fiveK (k c : Nat) : ((k : Int) * 5 + (c : Int)).tmod 16 = (((k * 5 + c % 16) % 16 : Nat) : Int) := by
 rw [Int.tmod_eq_emod_of_nonneg (by omega)]
 omega
theorem at0_lt (code : List UInt8) : at0 code < 256 := by
 unfold at0
 split
 ·exact (code.getD 0 En.dflt).toNat_lt
 ·omega
set_option maxHeartbeats 8000000 in
set_option maxRecDepth 10000 in
theorem big_con (code : List UInt8) : Con Try.prog 5 [.h base []] [.rt base .ro (tr code)] (fun y _ => y = .v (.bool (decide ((code.length : Int) > 1048576)))) := by
 refine Con.of_body Try.func5 rfl (by simp) ?_
 rw [Try.ntmps5]
 refine AW.seq (AW.region ?_)
 refine qq Qt.assign ?_
 refine nl ?_
 refine AW.seq (AW.region ?_)
 refine qq Qt.move ?_
 refine qq (Qt.lenH rfl rfl rfl sl22) ?_
 refine nm ?_
 refine qq (Qt.binOp rfl rfl rfl) ?_
 refine qq Qt.assign ?_
 refine nl ?_
 refine AW.ret (endQ_ret (.cons (.tmp 2) .nil) ?_)
 rfl
set_option maxHeartbeats 8000000 in
set_option maxRecDepth 10000 in
theorem at0_con (code : List UInt8) (hw : code.length ≤ 1048576) : Con Try.prog 13 [.h base [], .v (iv 0)] [.rt base .ro (tr code)] (fun y _ => y = .v (iv (at0 code : Nat))) := by
 refine Con.of_body Try.func13 rfl (by simp) ?_
 rw [Try.ntmps13]
 refine AW.seq (AW.region ?_)
 refine qq Qt.assign ?_
 refine nl ?_
 refine AW.seq (AW.seq (AW.region ?_))
 refine qq Qt.move ?_
 refine qq Qt.move ?_
 refine nm ?_
 refine qq (Qt.lenH rfl rfl rfl sl22) ?_
 refine qq (Qt.binOp rfl rfl rfl) ?_
 refine nl ?_
 refine AW.cond rfl (fun c1 => ?_) (fun c1 => ?_)
 ·have k1 := c1
  try simp only [cnd] at c1
  refine AW.seq (AW.region ?_)
  refine qq Qt.move ?_
  refine nm ?_
  refine qq Qt.move ?_
  refine qq (Qt.indexAddr rfl rfl rfl rfl sl22 sz5 (by decide) (by first | omega | grind only)) ?_
  refine qq (Qt.load1 rfl rfl rfl ag5) ?_
  refine nm ?_
  refine qq (Qt.convI rfl rfl Try.underlying3) ?_
  refine qq Qt.assign ?_
  refine nl ?_
  refine AW.ret (endQ_ret (.cons (.tmp 4) .nil) ?_)
  have hub := (code.getD 0 En.dflt).toNat_lt
  show X.v (iv (IntKind.i64.wrap ((code.getD 0 En.dflt).toNat : Int))) = _
  rw [IntWalk.i64_in _ (by omega), at0, if_pos (by omega)]
 have k1 := c1
 try simp only [cnd] at c1
 refine jd (AW.seq (AW.region ?_))
 refine qq Qt.move ?_
 refine nm ?_
 refine qq (Qt.binOp rfl rfl (by first | exact pbMul (by omega) | rfl)) ?_
 refine qq Qt.move ?_
 refine qq (Qt.lenH rfl rfl rfl sl22) ?_
 refine nm ?_
 refine qq (Qt.binOp rfl rfl (by first | exact pbMul (by omega) | rfl)) ?_
 refine qq (Qt.binOp rfl rfl (by first | exact pbAdd (by omega) | rfl)) ?_
 refine qq (Qt.binOp rfl rfl (by first | exact pbRem4 _ | rfl | exact pbRemI (by omega))) ?_
 refine nm ?_
 refine qq Qt.assign ?_
 refine nl ?_
 refine AW.ret (endQ_ret (.cons (.tmp 4) .nil) ?_)
 simp only [retX, slotL, reduceIte, Nat.reduceEqDiff]
 rw [at0, if_neg (by omega), show code.length = 0 from by omega]
 rfl
end Go.Proofs.Ytfbefcmeghpalaa.VM
