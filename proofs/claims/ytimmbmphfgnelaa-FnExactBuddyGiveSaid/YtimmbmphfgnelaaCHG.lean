/- Contracts of functions of the program. No conditions beyond those that each states. -/
import Derived.Test.YtimmbmphfgnelaaCHF
import Derived.Test.YtimmbmphfgnelaaCGO
set_option linter.all false
namespace Go.Proofs.Ytimmbmphfgnelaa.VM
open Go Go.RowKit Go.Proofs

theorem gv_row : ∀ n (S : List (List Int)) (f : Int) (o : Nat), GRow S → GRow (gv n S f o).1
 | 0, _, _, _, h => h
 | n + 1, S, f, o, h => by
  rw [gv]
  split
  ·exact gv_row n _ _ _ h.set
  ·exact h
theorem gvR_cnt {r : List (List Int) × Int × Nat} (h : GRow r.1) : Mk.cnt (gvR r) ≤ 5242880 := by
 have := cnt_rows (l := gvR r) (B := 17) (getD_set_le (by
  rw [putS_len]
  rcases Nat.lt_or_ge r.2.2 5 with h5 | h5
  ·have := h.few _ h5; omega
  ·rw [List.getD_eq_getElem?_getD, List.getElem?_eq_none (by rw [h.len]; exact h5)]; decide) fun k hk => Nat.le_trans (h.few k (by rw [← h.len]; exact hk)) (by omega))
 rw [show (gvR r).length = 5 from by rw [gvR, List.length_set]; exact h.len] at this
 omega
theorem bG_cnt {S : List (List Int)} {f : Int} (hw : Mk.wt S ≤ 1048576) : Mk.cnt (bG S f).1 ≤ 5242880 := by
 by_cases ho : okS S = true
 ·rw [bG, if_pos ho]
  have hG := gRow_of (budF_of ho)
  unfold gS
  split
  ·exact gvR_cnt (gv_row 4 S f 0 hG)
  ·have := cnt_rows (l := S) (B := 16) fun k hk => hG.few k (by rw [← hG.len]; exact hk)
   rw [hG.len] at this
   exact Nat.le_trans this (by omega)
 ·rw [bG, if_neg ho]
  show Mk.cnt ([] : List (List Int)) ≤ _
  rw [cnt_list]; simp [cumN]
def bGB (a : DBuddy) (f : Int) : DBuddy := ⟨(bG a.Free f).1⟩
theorem BuddyGiveS_con' (a : DBuddy) (f : Int) (hw : Mk.wt a ≤ 1048576) : Con Try.prog 34 [.g [.h base []], .v (iv f)] [.rt base .ro (tr a.Free)] (Ret (.t [.g [.h 0 []], .v (.bool (bG a.Free f).2)]) [(0, .row, tr (bGB a f).Free)]) := BuddyGiveS_con a f hw
theorem BuddyGiveI_con' (a : DBuddy) (f : Int) (hw : Mk.wt a ≤ 1048576) : Con Try.prog 35 [.g [.h base []], .v (iv f)] [.rt base .ro (tr a.Free)] (Ret (.t [.g [.h 0 []], .v (.bool (bG a.Free f).2)]) [(0, .row, tr (bGB a f).Free)]) := BuddyGiveI_con a f hw
theorem bGB_cnt {a : DBuddy} {f : Int} (hw : Mk.wt a ≤ 1048576) : Mk.cnt (bGB a f).Free ≤ 5242880 := bG_cnt hw

set_option maxHeartbeats 8000000 in
set_option maxRecDepth 10000 in
theorem FnExactBuddyGive_con (a : DBuddy) (b : Int) : Con Try.prog 7 [.g [.h base []], .v (iv b)] [.rt base .ro (tr a.Free)] (fun y _ => y = .v (.bool true)) := by
 refine Con.of_body Try.func7 rfl (by simp) ?_
 rw [Try.ntmps7]
 have hz1 := szd_cases (Mk.wt a) 1048576
 have hca := fun hw => cnt_bud (a := a) hw
 have hcr := fun hw => bGB_cnt (a := a) (f := b) hw
 refine AW.seq (AW.region ?_)
 refine sp (Stp.boxB rfl (by decide) (by decide) rfl rfl rfl rfl) ?_
 refine nm ?_
 refine qq Qt.assign ?_
 refine nl ?_
 refine AW.seq (AW.region ?_)
 refine qq Qt.assign ?_
 refine nl ?_
 refine AW.seq (AW.region ?_)
 refine qq (Qt.loadG rfl rfl rfl ag27 sz27 (by decide)) ?_
 refine nm ?_
 refine qq Qt.move ?_
 refine cv Try.call27 rfl rfl (szBuddy_con _ _ (by first | omega | (repeat (first | omega | apply szd_lo))) (by first | omega | (repeat (first | omega | apply szd_hi)))) ?_
 refine nm ?_
 refine qq Qt.assign ?_
 refine nl ?_
 refine AW.seq (AW.seq (AW.region ?_))
 refine qq Qt.move ?_
 refine qq (Qt.binOp rfl rfl rfl) ?_
 refine nl ?_
 refine AW.cond rfl (fun c1 => ?_) (fun c1 => ?_)
 ·have k1 := c1
  try simp only [cnd] at c1
  refine AW.seq (AW.region ?_)
  refine qq Qt.assign ?_
  refine nl ?_
  refine AW.ret (endQ_ret (.cons (.tmp 4) .nil) ?_)
  first | rfl | (exfalso; simp_all; done)
 have k1 := c1
 try simp only [cnd] at c1
 refine jd (AW.seq (AW.region ?_))
 refine qq (Qt.loadG rfl rfl rfl ag27 sz27 (by decide)) ?_
 refine nm ?_
 refine sp (Stp.callR rfl (by decide) Try.call29 rfl rfl (toBuddy_con _ (by first | omega | (simp only [Int.toNat_natCast]; omega) | (simp only [Mk.wt] at *; omega))) (nodup_of rfl) rfl rfl) ?_
 refine nm ?_
 refine qq Qt.move ?_
 refine sp (Stp.callR rfl (by decide) Try.call34 rfl rfl (BuddyGiveS_con' _ _ (by omega)) (nodup_of rfl) rfl rfl) ?_
 refine nm ?_
 refine qq Qt.move ?_
 refine qq (Qt.extract rfl (of_decide_eq_true rfl)) ?_
 refine qq (Qt.extract rfl (of_decide_eq_true rfl)) ?_
 refine nm ?_
 refine sp (Stp.alloc rfl (by decide) (by decide)) ?_
 refine nm ?_
 refine ss ?_
 refine nm ?_
 refine qq Qt.assign ?_
 refine nl ?_
 refine AW.seq (AW.region ?_)
 refine qq (Qt.loadG rfl rfl rfl ag27 sz27 (by decide)) ?_
 refine sp (Stp.callR rfl (by decide) Try.call29 rfl rfl (toBuddy_con _ (by first | omega | (simp only [Int.toNat_natCast]; omega) | (simp only [Mk.wt] at *; omega))) (nodup_of rfl) rfl rfl) ?_
 refine nm ?_
 refine sp (Stp.alloc rfl (by decide) (by decide)) ?_
 refine nm ?_
 refine ss ?_
 refine nl ?_
 refine AW.seq (AW.region ?_)
 refine qq (Qt.loadG rfl rfl rfl ag37 sz37 (by decide)) ?_
 refine nm ?_
 refine qq Qt.move ?_
 refine sp (Stp.callR rfl (by decide) Try.call35 rfl rfl (BuddyGiveI_con' _ _ (by omega)) (nodup_of rfl) rfl rfl) ?_
 refine nm ?_
 refine qq Qt.move ?_
 refine qq (Qt.extract rfl (of_decide_eq_true rfl)) ?_
 refine qq (Qt.extract rfl (of_decide_eq_true rfl)) ?_
 refine nm ?_
 refine sp (Stp.alloc rfl (by decide) (by decide)) ?_
 refine nm ?_
 refine ss ?_
 refine nm ?_
 refine qq Qt.assign ?_
 refine nl ?_
 refine AW.seq (AW.seq (AW.region ?_))
 refine qq (Qt.loadG rfl rfl rfl ag37 sz37 (by decide)) ?_
 refine qq (Qt.loadG rfl rfl rfl ag37 sz37 (by decide)) ?_
 refine nm ?_
 refine cv Try.call31 rfl rfl (eqBuddy_con _ _) ?_
 refine nm ?_
 refine qq (Qt.notB rfl) ?_
 refine qq Qt.move ?_
 refine AWL.split 40 rfl (fun g2 => (by exfalso; first | (simp at g2; done) | (simp only [decide_eq_true_eq] at g2; omega))) (fun g2 => ?_)
 refine qg (nF g2) Qt.move ?_
 refine nm ?_
 refine qg (nF g2) Qt.move ?_
 refine qg (nF g2) (Qt.neB rfl rfl Try.underlying4) ?_
 refine qq (Qt.pickF rfl g2) ?_
 refine nl ?_
 refine AW.cond rfl (fun c3 => (by exfalso; first | (simp at c3; done) | (simp only [decide_eq_true_eq] at c3; omega))) (fun c3 => ?_)
 refine jd (AW.seq (AW.seq ?_))
 refine AW.draw [0, 1, 4] rfl (by decide +kernel) ?_
 refine tk 0 rfl (Qt.loadG rfl rfl rfl ag37 sz37 (by decide)) ?_
 refine na ?_
 refine tk 1 rfl (Qt.loadG rfl rfl rfl ag27 sz27 (by decide)) ?_
 refine a1 2 [0] [1] rfl rfl (Stp.callR rfl (by decide) Try.call29 rfl rfl (toBuddy_con _ (by first | omega | (simp only [Int.toNat_natCast]; omega) | (simp only [Mk.wt] at *; omega))) (nodup_of rfl) rfl rfl) ?_
 refine na ?_
 refine AWA.againE rfl rfl (by decide +kernel) (.on rfl rfl (Qt.loadG rfl rfl rfl ag37 sz37 (by decide))) rfl ?_
 refine na ?_
 refine a1 3 [] [2, 0, 1] rfl rfl (Stp.callV rfl (by decide) Try.call31 rfl rfl (eqBuddy_con _ _)) ?_
 refine na ?_
 refine na ?_
 refine tk 4 rfl (Qt.notB rfl) ?_
 refine nz ?_
 refine AW.cond rfl (fun c4 => (by exfalso; first | (simp at c4; done) | (simp only [decide_eq_true_eq] at c4; omega))) (fun c4 => ?_)
 refine jd (AW.seq (AW.region ?_))
 refine qq Qt.assign ?_
 refine nl ?_
 refine AW.seq (AW.region ?_)
 refine qq (Qt.loadG rfl rfl rfl ag37 sz37 (by decide)) ?_
 refine nm ?_
 refine qq Qt.move ?_
 refine sp (Stp.callH rfl (by decide) Try.call32 rfl (markBuddy_con _ _ (by omega) (by omega)) rfl rfl rfl (nodup_of rfl) rfl rfl) ?_
 refine nm ?_
 refine qq Qt.assign ?_
 refine nl ?_
 refine AW.seq (AW.seq (AW.region ?_))
 refine qq Qt.move ?_
 refine qq (Qt.binOp rfl rfl rfl) ?_
 refine nm ?_
 refine qq Qt.move ?_
 refine AWL.split 55 rfl (fun g5 => (by exfalso; first | (simp at g5; done) | (simp only [decide_eq_true_eq] at g5; omega))) (fun g5 => ?_)
 refine qg (nF g5) (Qt.loadG rfl rfl rfl ag37 sz37 (by decide)) ?_
 refine qg (nF g5) (Qt.loadG rfl rfl rfl ag37 sz37 (by decide)) ?_
 refine nm ?_
 refine AWL.step rfl (nF g5) (Stp.callV rfl (by decide) Try.call31 rfl rfl (eqBuddy_con _ _)) ?_
 refine nm ?_
 refine qg (nF g5) (Qt.notB rfl) ?_
 refine qq (Qt.pickF rfl g5) ?_
 refine qq Qt.move ?_
 refine nm ?_
 refine AWL.split 61 rfl (fun g6 => (by exfalso; first | (simp at g6; done) | (simp only [decide_eq_true_eq] at g6; omega))) (fun g6 => ?_)
 refine qg (nF g6) Qt.move ?_
 refine qg (nF g6) Qt.move ?_
 refine qg (nF g6) (Qt.neB rfl rfl Try.underlying4) ?_
 refine nm ?_
 refine qq (Qt.pickF rfl g6) ?_
 refine nl ?_
 refine AW.cond rfl (fun c7 => (by exfalso; first | (simp at c7; done) | (simp only [decide_eq_true_eq] at c7; omega))) (fun c7 => ?_)
 refine jd (AW.seq (AW.region ?_))
 refine qq Qt.assign ?_
 refine nl ?_
 refine AW.seq (AW.region ?_)
 refine qq (Qt.loadG rfl rfl rfl ag37 sz37 (by decide)) ?_
 refine nm ?_
 refine qq Qt.move ?_
 refine sp (Stp.callH rfl (by decide) Try.call32 rfl (markBuddy_con _ _ (by omega) (by omega)) rfl rfl rfl (nodup_of rfl) rfl rfl) ?_
 refine nm ?_
 refine qq Qt.assign ?_
 refine nl ?_
 refine AW.seq (AW.region ?_)
 refine qq Qt.assign ?_
 refine nl ?_
 refine AW.seq (AW.region ?_)
 refine qq (Qt.loadG rfl rfl rfl ag37 sz37 (by decide)) ?_
 refine nm ?_
 refine qq Qt.move ?_
 refine cv Try.call33 rfl rfl (heldBuddy_con _ _ (by omega) (by omega)) ?_
 refine nm ?_
 refine qq Qt.assign ?_
 refine nl ?_
 refine AW.seq (AW.seq (AW.region ?_))
 refine qq Qt.move ?_
 refine qq (Qt.binOp rfl rfl rfl) ?_
 refine nl ?_
 refine AW.cond rfl (fun c8 => (by exfalso; first | (simp at c8; done) | (simp only [decide_eq_true_eq] at c8; omega))) (fun c8 => ?_)
 refine jd (AW.seq (AW.seq (AW.region ?_)))
 refine qq Qt.move ?_
 refine nm ?_
 refine qq Qt.move ?_
 refine qq (Qt.binOp rfl rfl rfl) ?_
 refine nl ?_
 refine AW.cond rfl (fun c9 => (by exfalso; first | (simp at c9; done) | (simp only [decide_eq_true_eq] at c9; omega))) (fun c9 => ?_)
 refine jd (AW.seq (AW.region ?_))
 refine qq (Qt.loadG rfl rfl rfl ag27 sz27 (by decide)) ?_
 refine nm ?_
 refine sp (Stp.callR rfl (by decide) Try.call29 rfl rfl (toBuddy_con _ (by first | omega | (simp only [Int.toNat_natCast]; omega) | (simp only [Mk.wt] at *; omega))) (nodup_of rfl) rfl rfl) ?_
 refine nm ?_
 refine qq Qt.move ?_
 refine sp (Stp.callR rfl (by decide) Try.call35 rfl rfl (BuddyGiveI_con' _ _ (by omega)) (nodup_of rfl) rfl rfl) ?_
 refine nm ?_
 refine qq Qt.move ?_
 refine qq (Qt.extract rfl (of_decide_eq_true rfl)) ?_
 refine qq (Qt.extract rfl (of_decide_eq_true rfl)) ?_
 refine nm ?_
 refine sp (Stp.alloc rfl (by decide) (by decide)) ?_
 refine nm ?_
 refine ss ?_
 refine nm ?_
 refine qq Qt.assign ?_
 refine nl ?_
 refine AW.seq (AW.seq (AW.region ?_))
 refine qq (Qt.loadG rfl rfl rfl ag37 sz37 (by decide)) ?_
 refine qq (Qt.loadG rfl rfl rfl ag37 sz37 (by decide)) ?_
 refine nm ?_
 refine cv Try.call31 rfl rfl (eqBuddy_con _ _) ?_
 refine nm ?_
 refine qq (Qt.notB rfl) ?_
 refine qq Qt.move ?_
 refine AWL.split 88 rfl (fun g10 => (by exfalso; first | (simp at g10; done) | (simp only [decide_eq_true_eq] at g10; omega))) (fun g10 => ?_)
 refine qg (nF g10) Qt.move ?_
 refine nm ?_
 refine qg (nF g10) Qt.move ?_
 refine qg (nF g10) (Qt.neB rfl rfl Try.underlying4) ?_
 refine qq (Qt.pickF rfl g10) ?_
 refine nl ?_
 refine AW.cond rfl (fun c11 => (by exfalso; first | (simp at c11; done) | (simp only [decide_eq_true_eq] at c11; omega))) (fun c11 => ?_)
 refine jd (AW.seq (AW.region ?_))
 refine qq Qt.assign ?_
 refine nl ?_
 refine AW.seq (AW.region ?_)
 refine qq (Qt.loadG rfl rfl rfl ag37 sz37 (by decide)) ?_
 refine nm ?_
 refine qq Qt.move ?_
 refine cv Try.call33 rfl rfl (heldBuddy_con _ _ (by omega) (by omega)) ?_
 refine nm ?_
 refine qq Qt.assign ?_
 refine nl ?_
 refine AW.seq (AW.seq (AW.region ?_))
 refine qq Qt.move ?_
 refine qq (Qt.binOp rfl rfl rfl) ?_
 refine nl ?_
 refine AW.cond rfl (fun c12 => (by exfalso; first | (simp at c12; done) | (simp only [decide_eq_true_eq] at c12; omega))) (fun c12 => ?_)
 refine jd (AW.seq (AW.seq (AW.region ?_)))
 refine qq Qt.move ?_
 refine nm ?_
 refine qq Qt.move ?_
 refine qq (Qt.binOp rfl rfl rfl) ?_
 refine nl ?_
 refine AW.cond rfl (fun c13 => (by exfalso; first | (simp at c13; done) | (simp only [decide_eq_true_eq] at c13; omega))) (fun c13 => ?_)
 refine jd (AW.seq (AW.region ?_))
 refine qq Qt.assign ?_
 refine nl ?_
 refine AW.ret (endQ_ret (.cons (.tmp 4) .nil) ?_)
 first | rfl | (exfalso; simp_all; done)
end Go.Proofs.Ytimmbmphfgnelaa.VM
