/- Contracts of functions of the program. No conditions beyond those that each states. -/
import Derived.Test.YtimmbmphfgnelaaCGJ
import Derived.Test.YtimmbmphfgnelaaCGD
set_option linter.all false
namespace Go.Proofs.Ytimmbmphfgnelaa.VM
open Go Go.RowKit Go.Proofs
theorem rows_some {R : Nat → List Bool → Option (List Bool)} : ∀ {c k : Nat} {u : List Bool}, rows R c k u = true → ∀ i, k ≤ i → i < k + c → ∃ u v, R i u = some v
 | 0, k, u, _, i, h1, h2 => by omega
 | c + 1, k, u, h, i, h1, h2 => by
  rw [rows] at h
  cases hR : R k u with
  | none => rw [hR] at h; cases h
  | some u' =>
   rw [hR] at h
   rcases Nat.eq_or_lt_of_le h1 with rfl | hlt
   ·exact ⟨u, u', hR⟩
   ·exact rows_some h i (by omega) (by omega)
structure BudF (S : List (List Int)) : Prop where
 len : S.length = 5
 bad : ∀ k, k < 5 → ∀ j, j < (S.getD k En.dflt).length → bad k (S.getD k En.dflt) j = false
theorem budF_of {S : List (List Int)} (h : okS S = true) : BudF S := by
 unfold okS at h
 split at h
 ·rename_i h5
  refine ⟨h5, fun k hk j hj => ?_⟩
  obtain ⟨u, v, hr⟩ := rows_some h k (by omega) (by omega)
  exact row_some hr j (by omega) (by rw [Nat.zero_add]; exact hj)
 ·cases h
theorem BudF.head {S : List (List Int)} (h : BudF S) : ∀ k, k < 5 → 0 ≤ (S.getD k En.dflt).getD 0 En.dflt ∧ (S.getD k En.dflt).getD 0 En.dflt ≤ 1000 := fun k hk => by
 rcases Nat.eq_zero_or_pos (S.getD k En.dflt).length with h0 | h0
 ·rw [List.eq_nil_of_length_eq_zero h0]; decide
 ·have := notBad (h.bad k hk 0 h0)
  have e : (S.getD k En.dflt).getD 0 En.dflt = (S.getD k En.dflt).getD 0 0 := rfl
  omega
def bT (S : List (List Int)) : List (List Int) × Int := if okS S = true then (resS S, resF S) else ([], -1)
set_option maxHeartbeats 8000000 in
set_option maxRecDepth 10000 in
theorem BuddyTakeS_con (a : DBuddy) (hw : Mk.wt a.Free ≤ 1048576) : Con Try.prog 28 [.g [.h base []]] [.rt base .ro (tr a.Free)] (Ret (.t [.g [.h 0 []], .v (iv (bT a.Free).2)]) [(0, .row, tr (bT a.Free).1)]) := by
 refine Con.of_body Try.func28 rfl (by simp) ?_
 rw [Try.ntmps28]
 refine AW.seq (AW.region ?_)
 refine sp (Stp.boxB rfl (by decide) (by decide) rfl rfl rfl rfl) ?_
 refine nm ?_
 refine sp (Stp.alloc rfl (by decide) (by decide)) ?_
 refine nm ?_
 refine qq Qt.assign ?_
 refine nl ?_
 refine AW.seq (AW.seq (AW.region ?_))
 refine qq (Qt.loadG rfl rfl rfl ag37 sz37 (by decide)) ?_
 refine cv Try.call99 rfl rfl (BuddyOkS_con _) ?_
 refine nm ?_
 refine qq (Qt.notB rfl) ?_
 refine nl ?_
 refine AW.cond rfl (fun c1 => ?_) (fun c1 => ?_)
 ·have k1 := c1
  try simp only [cnd] at c1
  refine AW.seq (AW.region ?_)
  refine qq (Qt.build rfl) ?_
  refine ss ?_
  refine nm ?_
  refine qq Qt.assign ?_
  refine nl ?_
  refine AW.weak (Weak.hoist 2 0 900 rfl (by decide) rfl rfl rfl) ?_
  refine AW.rep 900 (tr ([] : List (List Int))) rfl sim_nil ?_
  refine AW.ret (endQ_ret (.cons (.cellG 2 37 rfl rfl rfl ag37 sz37 (by decide)) (.cons (.tmp 3) .nil)) ?_)
  rw [show bT a.Free = ([], -1) from if_neg (by grind only)]
  refine ⟨fun _ => 900, rfl, nodup_of rfl, ?_⟩
  intro r hr
  cases List.mem_singleton.1 hr
  exact ⟨by simp, rootL_mem rfl⟩
 have k1 := c1
 try simp only [cnd] at c1
 have hok : okS a.Free = true := by grind only
 have hF := budF_of hok
 refine jd (AW.seq (AW.region ?_))
 refine qq (Qt.loadG rfl rfl rfl ag37 sz37 (by decide)) ?_
 refine sp (Stp.callR rfl (by decide) Try.call101 rfl rfl (l15Copy_con a hw) (nodup_of rfl) rfl rfl) ?_
 refine nm ?_
 refine sp (Stp.callH rfl (by decide) Try.call100 rfl (l15Take_con a.Free hF.len (fun k hk => (rows_bd hw).2 k (by have := hF.len; omega)) hF.head) rfl rfl rfl (nodup_of rfl) rfl rfl) ?_
 refine nm ?_
 refine qq Qt.move ?_
 refine qq (Qt.extract rfl (of_decide_eq_true rfl)) ?_
 refine qq (Qt.extract rfl (of_decide_eq_true rfl)) ?_
 refine nm ?_
 refine sp (Stp.alloc rfl (by decide) (by decide)) ?_
 refine nm ?_
 refine ss ?_
 refine nm ?_
 refine qq Qt.assign ?_
 refine nl ?_
 refine AW.seq (AW.region ?_)
 refine qq (Qt.loadG rfl rfl rfl ag37 sz37 (by decide)) ?_
 refine qq Qt.move ?_
 refine nm ?_
 refine ss ?_
 refine nm ?_
 refine qq Qt.assign ?_
 refine nl ?_
 refine AW.ret (endQ_ret (.cons (.cellG 2 37 rfl rfl rfl ag37 sz37 (by decide)) (.cons (.tmp 3) .nil)) ?_)
 rw [show bT a.Free = (resS a.Free, resF a.Free) from if_pos hok]
 refine ⟨fun _ => 12, rfl, nodup_of rfl, ?_⟩
 intro r hr
 cases List.mem_singleton.1 hr
 exact ⟨by simp, rootL_mem rfl⟩
end Go.Proofs.Ytimmbmphfgnelaa.VM
