/- Contracts of functions of the program. No conditions beyond those that each states. -/
import Derived.Test.YtimmbmphfgnelaaCGN
set_option linter.all false
namespace Go.Proofs.Ytimmbmphfgnelaa.VM
open Go Go.RowKit Go.Proofs

theorem cumN_le {α : Type} {c : α → Nat} {d : α} {l : List α} {B : Nat} : ∀ {n : Nat}, (∀ k, k < n → c (l.getD k d) ≤ B) → cumN c d l n ≤ n * B
 | 0, _ => by simp [cumN]
 | n + 1, h => by
  have h1 := cumN_le (n := n) fun k hk => h k (by omega)
  have h2 := h n (by omega)
  rw [cumN, Nat.succ_mul]
  omega
theorem cnt_rows {l : List (List Int)} {B : Nat} (h : ∀ k, k < l.length → (l.getD k En.dflt).length ≤ B) : Mk.cnt l ≤ l.length * B := by
 rw [cnt_list]
 exact cumN_le fun k hk => by rw [cnt_ints]; exact h k hk
theorem getD_set_le {l : List (List Int)} {B i : Nat} {y : List Int} (hy : y.length ≤ B) (h : ∀ k, k < l.length → (l.getD k En.dflt).length ≤ B) : ∀ k, k < (l.set i y).length → ((l.set i y).getD k En.dflt).length ≤ B := fun k hk => by
 rw [List.length_set] at hk
 rw [List.getD_eq_getElem?_getD, List.getElem?_set]
 split
 ·split
  ·exact hy
  ·exact Nat.zero_le _
 ·rw [← List.getD_eq_getElem?_getD]; exact h k hk
theorem dnS_rows {S : List (List Int)} {f : Int} {o B : Nat} (hB : 1 ≤ B) (h : ∀ k, k < S.length → (S.getD k En.dflt).length ≤ B) : ∀ j, ∀ k, k < (dnS f S o j).length → ((dnS f S o j).getD k En.dflt).length ≤ B
 | 0 => h
 | j + 1 => by
  rw [dnS]
  exact getD_set_le (by simpa using hB) (dnS_rows hB h j)
theorem bT_cnt {S : List (List Int)} (hw : Mk.wt S ≤ 1048576) : Mk.cnt (bT S).1 ≤ 5242880 := by
 have hb := (rows_bd hw).2
 by_cases ho : okS S = true
 ·rw [bT, if_pos ho]
  have hl := (budF_of ho).len
  show Mk.cnt (resS S) ≤ _
  unfold resS
  split
  ·have := cnt_rows hb; rw [hl] at this; omega
  ·have hl2 : (takeO S (fo S 5 0)).length = 5 := by rw [takeO, dnS_len, List.length_set]; exact hl
   have := cnt_rows (l := takeO S (fo S 5 0)) (B := 1048576) (by
    refine dnS_rows (by omega) (getD_set_le ?_ hb) _
    rw [List.length_drop]
    rcases Nat.lt_or_ge (fo S 5 0) S.length with h | h
    ·have := hb _ h
     have e : (S.getD (fo S 5 0) []).length = (S.getD (fo S 5 0) En.dflt).length := rfl
     omega
    ·rw [List.getD_eq_getElem?_getD, List.getElem?_eq_none h]; simp)
   rw [hl2] at this
   omega
 ·rw [bT, if_neg ho]
  show Mk.cnt ([] : List (List Int)) ≤ _
  rw [cnt_list]; simp [cumN]
def bTB (a : DBuddy) : DBuddy := ⟨(bT a.Free).1⟩
theorem BuddyTakeS_con' (a : DBuddy) (hw : Mk.wt a ≤ 1048576) : Con Try.prog 28 [.g [.h base []]] [.rt base .ro (tr a.Free)] (Ret (.t [.g [.h 0 []], .v (iv (bT a.Free).2)]) [(0, .row, tr (bTB a).Free)]) := BuddyTakeS_con a hw
theorem BuddyTakeI_con' (a : DBuddy) (hw : Mk.wt a ≤ 1048576) : Con Try.prog 30 [.g [.h base []]] [.rt base .ro (tr a.Free)] (Ret (.t [.g [.h 0 []], .v (iv (bT a.Free).2)]) [(0, .row, tr (bTB a).Free)]) := BuddyTakeI_con a hw
theorem bTB_cnt {a : DBuddy} (hw : Mk.wt a ≤ 1048576) : Mk.cnt (bTB a).Free ≤ 5242880 := bT_cnt hw
theorem cnt_bud {a : DBuddy} (hw : Mk.wt a ≤ 1048576) : Mk.cnt a.Free ≤ 1099511627776 := by
 have hb := rows_bd (l := a.Free) hw
 have h1 := cnt_rows hb.2
 have h2 := Nat.mul_le_mul hb.1 (Nat.le_refl 1048576)
 exact Nat.le_trans h1 h2

set_option maxHeartbeats 8000000 in
set_option maxRecDepth 10000 in
theorem FnExactBuddyTake_con (a : DBuddy) : Con Try.prog 6 [.g [.h base []]] [.rt base .ro (tr a.Free)] (fun y _ => y = .v (.bool true)) := by
 refine Con.of_body Try.func6 rfl (by simp) ?_
 rw [Try.ntmps6]
 have hz1 := szd_cases (Mk.wt a) 1048576
 have hca := fun hw => cnt_bud (a := a) hw
 have hcr := fun hw => bTB_cnt (a := a) hw
 refine AW.seq (AW.region ?_)
 refine sp (Stp.boxB rfl (by decide) (by decide) rfl rfl rfl rfl) ?_
 refine nm ?_
 refine qq Qt.assign ?_
 refine nl ?_
 refine AW.seq (AW.region ?_)
 refine qq Qt.assign ?_
 refine nl ?_
 refine AW.seq (AW.region ?_)
 refine qq (Qt.loadG rfl rfl rfl ag27 sz27 (by decide)) ?_
 refine nm ?_
 refine qq Qt.move ?_
 refine cv Try.call27 rfl rfl (szBuddy_con _ _ (by first | omega | (repeat (first | omega | apply szd_lo))) (by first | omega | (repeat (first | omega | apply szd_hi)))) ?_
 refine nm ?_
 refine qq Qt.assign ?_
 refine nl ?_
 refine AW.seq (AW.seq (AW.region ?_))
 refine qq Qt.move ?_
 refine qq (Qt.binOp rfl rfl rfl) ?_
 refine nl ?_
 refine AW.cond rfl (fun c1 => ?_) (fun c1 => ?_)
 ·have k1 := c1
  try simp only [cnd] at c1
  refine AW.seq (AW.region ?_)
  refine qq Qt.assign ?_
  refine nl ?_
  refine AW.ret (endQ_ret (.cons (.tmp 2) .nil) ?_)
  first | rfl | (exfalso; simp_all; done)
 have k1 := c1
 try simp only [cnd] at c1
 refine jd (AW.seq (AW.region ?_))
 refine qq (Qt.loadG rfl rfl rfl ag27 sz27 (by decide)) ?_
 refine nm ?_
 refine sp (Stp.callR rfl (by decide) Try.call29 rfl rfl (toBuddy_con _ (by first | omega | (simp only [Int.toNat_natCast]; omega) | (simp only [Mk.wt] at *; omega))) (nodup_of rfl) rfl rfl) ?_
 refine nm ?_
 refine sp (Stp.callR rfl (by decide) Try.call28 rfl rfl (BuddyTakeS_con' _ (by omega)) (nodup_of rfl) rfl rfl) ?_
 refine nm ?_
 refine qq Qt.move ?_
 refine qq (Qt.extract rfl (of_decide_eq_true rfl)) ?_
 refine qq (Qt.extract rfl (of_decide_eq_true rfl)) ?_
 refine nm ?_
 refine sp (Stp.alloc rfl (by decide) (by decide)) ?_
 refine nm ?_
 refine ss ?_
 refine nm ?_
 refine qq Qt.assign ?_
 refine nl ?_
 refine AW.seq (AW.region ?_)
 refine qq (Qt.loadG rfl rfl rfl ag27 sz27 (by decide)) ?_
 refine sp (Stp.callR rfl (by decide) Try.call29 rfl rfl (toBuddy_con _ (by first | omega | (simp only [Int.toNat_natCast]; omega) | (simp only [Mk.wt] at *; omega))) (nodup_of rfl) rfl rfl) ?_
 refine nm ?_
 refine sp (Stp.alloc rfl (by decide) (by decide)) ?_
 refine nm ?_
 refine ss ?_
 refine nl ?_
 refine AW.seq (AW.region ?_)
 refine qq (Qt.loadG rfl rfl rfl ag37 sz37 (by decide)) ?_
 refine nm ?_
 refine sp (Stp.callR rfl (by decide) Try.call30 rfl rfl (BuddyTakeI_con' _ (by omega)) (nodup_of rfl) rfl rfl) ?_
 refine nm ?_
 refine qq Qt.move ?_
 refine qq (Qt.extract rfl (of_decide_eq_true rfl)) ?_
 refine qq (Qt.extract rfl (of_decide_eq_true rfl)) ?_
 refine nm ?_
 refine sp (Stp.alloc rfl (by decide) (by decide)) ?_
 refine nm ?_
 refine ss ?_
 refine nm ?_
 refine qq Qt.assign ?_
 refine nl ?_
 refine AW.seq (AW.seq (AW.region ?_))
 refine qq (Qt.loadG rfl rfl rfl ag37 sz37 (by decide)) ?_
 refine qq (Qt.loadG rfl rfl rfl ag37 sz37 (by decide)) ?_
 refine nm ?_
 refine cv Try.call31 rfl rfl (eqBuddy_con _ _) ?_
 refine nm ?_
 refine qq (Qt.notB rfl) ?_
 refine qq Qt.move ?_
 refine AWL.split 36 rfl (fun g2 => (by exfalso; first | (simp at g2; done) | (simp only [decide_eq_true_eq] at g2; omega))) (fun g2 => ?_)
 refine qg (nF g2) Qt.move ?_
 refine nm ?_
 refine qg (nF g2) Qt.move ?_
 refine qg (nF g2) (Qt.binOp rfl rfl rfl) ?_
 refine qq (Qt.pickF rfl g2) ?_
 refine nl ?_
 refine AW.cond rfl (fun c3 => (by exfalso; first | (simp at c3; done) | (simp only [decide_eq_true_eq] at c3; omega))) (fun c3 => ?_)
 refine jd (AW.seq (AW.seq ?_))
 refine AW.draw [0, 1, 4] rfl (by decide +kernel) ?_
 refine tk 0 rfl (Qt.loadG rfl rfl rfl ag37 sz37 (by decide)) ?_
 refine na ?_
 refine tk 1 rfl (Qt.loadG rfl rfl rfl ag27 sz27 (by decide)) ?_
 refine a1 2 [0] [1] rfl rfl (Stp.callR rfl (by decide) Try.call29 rfl rfl (toBuddy_con _ (by first | omega | (simp only [Int.toNat_natCast]; omega) | (simp only [Mk.wt] at *; omega))) (nodup_of rfl) rfl rfl) ?_
 refine na ?_
 refine AWA.againE rfl rfl (by decide +kernel) (.on rfl rfl (Qt.loadG rfl rfl rfl ag37 sz37 (by decide))) rfl ?_
 refine na ?_
 refine a1 3 [] [2, 0, 1] rfl rfl (Stp.callV rfl (by decide) Try.call31 rfl rfl (eqBuddy_con _ _)) ?_
 refine na ?_
 refine na ?_
 refine tk 4 rfl (Qt.notB rfl) ?_
 refine nz ?_
 refine AW.cond rfl (fun c4 => (by exfalso; first | (simp at c4; done) | (simp only [decide_eq_true_eq] at c4; omega))) (fun c4 => ?_)
 refine jd (AW.seq (AW.region ?_))
 refine qq Qt.assign ?_
 refine nl ?_
 refine AW.seq (AW.region ?_)
 refine qq (Qt.loadG rfl rfl rfl ag37 sz37 (by decide)) ?_
 refine nm ?_
 refine qq Qt.move ?_
 refine sp (Stp.callH rfl (by decide) Try.call32 rfl (markBuddy_con _ _ (by omega) (by omega)) rfl rfl rfl (nodup_of rfl) rfl rfl) ?_
 refine nm ?_
 refine qq Qt.assign ?_
 refine nl ?_
 refine AW.seq (AW.seq (AW.region ?_))
 refine qq Qt.move ?_
 refine qq (Qt.binOp rfl rfl rfl) ?_
 refine nm ?_
 refine qq Qt.move ?_
 refine AWL.split 51 rfl (fun g5 => (by exfalso; first | (simp at g5; done) | (simp only [decide_eq_true_eq] at g5; omega))) (fun g5 => ?_)
 refine qg (nF g5) (Qt.loadG rfl rfl rfl ag37 sz37 (by decide)) ?_
 refine qg (nF g5) (Qt.loadG rfl rfl rfl ag37 sz37 (by decide)) ?_
 refine nm ?_
 refine AWL.step rfl (nF g5) (Stp.callV rfl (by decide) Try.call31 rfl rfl (eqBuddy_con _ _)) ?_
 refine nm ?_
 refine qg (nF g5) (Qt.notB rfl) ?_
 refine qq (Qt.pickF rfl g5) ?_
 refine qq Qt.move ?_
 refine nm ?_
 refine AWL.split 57 rfl (fun g6 => (by exfalso; first | (simp at g6; done) | (simp only [decide_eq_true_eq] at g6; omega))) (fun g6 => ?_)
 refine qg (nF g6) Qt.move ?_
 refine qg (nF g6) Qt.move ?_
 refine qg (nF g6) (Qt.binOp rfl rfl rfl) ?_
 refine nm ?_
 refine qq (Qt.pickF rfl g6) ?_
 refine nl ?_
 refine AW.cond rfl (fun c7 => (by exfalso; first | (simp at c7; done) | (simp only [decide_eq_true_eq] at c7; omega))) (fun c7 => ?_)
 refine jd (AW.seq (AW.region ?_))
 refine qq Qt.assign ?_
 refine nl ?_
 refine AW.seq (AW.region ?_)
 refine qq (Qt.loadG rfl rfl rfl ag37 sz37 (by decide)) ?_
 refine nm ?_
 refine qq Qt.move ?_
 refine sp (Stp.callH rfl (by decide) Try.call32 rfl (markBuddy_con _ _ (by omega) (by omega)) rfl rfl rfl (nodup_of rfl) rfl rfl) ?_
 refine nm ?_
 refine qq Qt.assign ?_
 refine nl ?_
 refine AW.seq (AW.region ?_)
 refine qq Qt.assign ?_
 refine nl ?_
 refine AW.seq (AW.region ?_)
 refine qq (Qt.loadG rfl rfl rfl ag37 sz37 (by decide)) ?_
 refine nm ?_
 refine qq Qt.move ?_
 refine cv Try.call33 rfl rfl (heldBuddy_con _ _ (by omega) (by omega)) ?_
 refine nm ?_
 refine qq Qt.assign ?_
 refine nl ?_
 refine AW.seq (AW.seq (AW.region ?_))
 refine qq Qt.move ?_
 refine qq (Qt.binOp rfl rfl rfl) ?_
 refine nl ?_
 refine AW.cond rfl (fun c8 => (by exfalso; first | (simp at c8; done) | (simp only [decide_eq_true_eq] at c8; omega))) (fun c8 => ?_)
 refine jd (AW.seq (AW.seq (AW.region ?_)))
 refine qq Qt.move ?_
 refine nm ?_
 refine qq Qt.move ?_
 refine qq (Qt.binOp rfl rfl rfl) ?_
 refine nl ?_
 refine AW.cond rfl (fun c9 => (by exfalso; first | (simp at c9; done) | (simp only [decide_eq_true_eq] at c9; omega))) (fun c9 => ?_)
 refine jd (AW.seq (AW.region ?_))
 refine qq (Qt.loadG rfl rfl rfl ag27 sz27 (by decide)) ?_
 refine nm ?_
 refine sp (Stp.callR rfl (by decide) Try.call29 rfl rfl (toBuddy_con _ (by first | omega | (simp only [Int.toNat_natCast]; omega) | (simp only [Mk.wt] at *; omega))) (nodup_of rfl) rfl rfl) ?_
 refine nm ?_
 refine sp (Stp.callR rfl (by decide) Try.call30 rfl rfl (BuddyTakeI_con' _ (by omega)) (nodup_of rfl) rfl rfl) ?_
 refine nm ?_
 refine qq Qt.move ?_
 refine qq (Qt.extract rfl (of_decide_eq_true rfl)) ?_
 refine qq (Qt.extract rfl (of_decide_eq_true rfl)) ?_
 refine nm ?_
 refine sp (Stp.alloc rfl (by decide) (by decide)) ?_
 refine nm ?_
 refine ss ?_
 refine nm ?_
 refine qq Qt.assign ?_
 refine nl ?_
 refine AW.seq (AW.seq (AW.region ?_))
 refine qq (Qt.loadG rfl rfl rfl ag37 sz37 (by decide)) ?_
 refine qq (Qt.loadG rfl rfl rfl ag37 sz37 (by decide)) ?_
 refine nm ?_
 refine cv Try.call31 rfl rfl (eqBuddy_con _ _) ?_
 refine nm ?_
 refine qq (Qt.notB rfl) ?_
 refine qq Qt.move ?_
 refine AWL.split 83 rfl (fun g10 => (by exfalso; first | (simp at g10; done) | (simp only [decide_eq_true_eq] at g10; omega))) (fun g10 => ?_)
 refine qg (nF g10) Qt.move ?_
 refine nm ?_
 refine qg (nF g10) Qt.move ?_
 refine qg (nF g10) (Qt.binOp rfl rfl rfl) ?_
 refine qq (Qt.pickF rfl g10) ?_
 refine nl ?_
 refine AW.cond rfl (fun c11 => (by exfalso; first | (simp at c11; done) | (simp only [decide_eq_true_eq] at c11; omega))) (fun c11 => ?_)
 refine jd (AW.seq (AW.region ?_))
 refine qq Qt.assign ?_
 refine nl ?_
 refine AW.seq (AW.region ?_)
 refine qq (Qt.loadG rfl rfl rfl ag37 sz37 (by decide)) ?_
 refine nm ?_
 refine qq Qt.move ?_
 refine cv Try.call33 rfl rfl (heldBuddy_con _ _ (by omega) (by omega)) ?_
 refine nm ?_
 refine qq Qt.assign ?_
 refine nl ?_
 refine AW.seq (AW.seq (AW.region ?_))
 refine qq Qt.move ?_
 refine qq (Qt.binOp rfl rfl rfl) ?_
 refine nl ?_
 refine AW.cond rfl (fun c12 => (by exfalso; first | (simp at c12; done) | (simp only [decide_eq_true_eq] at c12; omega))) (fun c12 => ?_)
 refine jd (AW.seq (AW.seq (AW.region ?_)))
 refine qq Qt.move ?_
 refine nm ?_
 refine qq Qt.move ?_
 refine qq (Qt.binOp rfl rfl rfl) ?_
 refine nl ?_
 refine AW.cond rfl (fun c13 => (by exfalso; first | (simp at c13; done) | (simp only [decide_eq_true_eq] at c13; omega))) (fun c13 => ?_)
 refine jd (AW.seq (AW.region ?_))
 refine qq Qt.assign ?_
 refine nl ?_
 refine AW.ret (endQ_ret (.cons (.tmp 2) .nil) ?_)
 first | rfl | (exfalso; simp_all; done)
end Go.Proofs.Ytimmbmphfgnelaa.VM
