/- Contracts of functions of the program. No conditions beyond those that each states. -/
import Derived.Test.YtfbefcmeghpalaaCLB
import Derived.Test.YtfbefcmeghpalaaCLC
import Derived.Test.YtfbefcmeghpalaaCL3
import Derived.Test.YtfbefcmeghpalaaCL4
set_option linter.all false
namespace Go.Proofs.Ytfbefcmeghpalaa.VM
open Go Go.RowKit Go.Proofs
theorem cumN_leG {α : Type} {c : α → Nat} {d : α} {l : List α} {B : Nat} : ∀ {n : Nat}, (∀ k, k < n → c (l.getD k d) ≤ B) → cumN c d l n ≤ n * B
 | 0, _ => by simp [cumN]
 | n + 1, h => by
  have h1 := cumN_leG (n := n) fun k hk => h k (by omega)
  have h2 := h n (by omega)
  rw [cumN, Nat.succ_mul]
  omega
theorem cnt_insS {l : List DIns} : Mk.cnt l ≤ l.length * 4 := by
 rw [cnt_list]
 exact cumN_leG fun k hk => Nat.le_refl 4
theorem cnt_insSS {l : List (List DIns)} (hw : Mk.wt l ≤ 1048576) : Mk.cnt l ≤ 4398046511104 := by
 have hb := rowsG_bd (l := l) hw
 have : Mk.cnt l ≤ l.length * 4194304 := by
  rw [cnt_list]
  exact cumN_leG fun k hk => by
   have := cnt_insS (l := l.getD k En.dflt)
   have := hb.2 k hk
   omega
 omega
theorem boot_cnt {l : List (List DIns)} (hw : Mk.wt l ≤ 1048576) : Mk.cnt (bootU l).Progs ≤ 4398046511104 ∧ Mk.cnt (bootU l).Procs ≤ 100 ∧ Mk.cnt (bootU l).Opens ≤ 100 ∧ Mk.cnt (bootU l).Pipes ≤ 100 ∧ Mk.cnt (bootU l).Files ≤ 100 ∧ Mk.cnt (bootU l).Ready ≤ 100 ∧ Mk.cnt (bootU l).Out ≤ 100 := by
 unfold bootU
 split
 ·exact ⟨cnt_insSS hw, by dsimp only; decide, by dsimp only; decide, by dsimp only; decide, by dsimp only; decide, by dsimp only; decide, by dsimp only; decide⟩
 ·exact ⟨by decide, by decide, by decide, by decide, by decide, by decide, by decide⟩
set_option maxHeartbeats 8000000 in
set_option maxRecDepth 10000 in
theorem FnExactBoot_con (a : List (List DIns)) : Con Try.prog 4 [.h base []] [.rt base .ro (tr a)] (fun y _ => y = .v (.bool true)) := by
 refine Con.of_body Try.func4 rfl (by simp) ?_
 rw [Try.ntmps4]
 have hz1 := szd_cases (Mk.wt a) 1048576
 have hca := fun hw => cnt_insSS (l := a) hw
 have hcr := fun hw => boot_cnt (l := a) hw
 refine AW.seq (AW.region ?_)
 refine qq Qt.assign ?_
 refine nl ?_
 refine AW.seq (AW.region ?_)
 refine qq Qt.assign ?_
 refine nl ?_
 refine AW.seq (AW.region ?_)
 refine qq Qt.move ?_
 refine nm ?_
 refine qq Qt.move ?_
 refine cv Try.call14 rfl rfl (szInsSS_con _ _ (by first | omega | (repeat (first | omega | apply szd_lo))) (by first | omega | (repeat (first | omega | apply szd_hi)))) ?_
 refine nm ?_
 refine qq Qt.assign ?_
 refine nl ?_
 refine AW.seq (AW.seq (AW.region ?_))
 refine qq Qt.move ?_
 refine qq (Qt.binOp rfl rfl rfl) ?_
 refine nl ?_
 refine AW.cond rfl (fun c1 => ?_) (fun c1 => ?_)
 ·have k1 := c1
  try simp only [cnd] at c1
  refine AW.seq (AW.region ?_)
  refine qq Qt.assign ?_
  refine nl ?_
  refine AW.ret (endQ_ret (.cons (.tmp 2) .nil) ?_)
  first | rfl | (exfalso; simp_all; done)
 have k1 := c1
 try simp only [cnd] at c1
 refine jd (AW.seq (AW.region ?_))
 refine qq Qt.move ?_
 refine nm ?_
 refine sp (Stp.callR rfl (by decide) Try.call16 rfl rfl (toInsSS_con _ (by first | omega | (simp only [Int.toNat_natCast]; omega) | (simp only [Mk.wt] at *; omega))) (nodup_of rfl) rfl rfl) ?_
 refine nm ?_
 refine sp (Stp.callR rfl (by decide) Try.call15 rfl rfl (BootS_con _ (by omega)) (nodup_of rfl) rfl rfl) ?_
 refine nm ?_
 refine qq Qt.move ?_
 refine qq (Qt.extract rfl (of_decide_eq_true rfl)) ?_
 refine qq (Qt.extract rfl (of_decide_eq_true rfl)) ?_
 refine nm ?_
 refine sp (Stp.alloc rfl (by decide) (by decide)) ?_
 refine nm ?_
 refine ss ?_
 refine nm ?_
 refine qq Qt.assign ?_
 refine nl ?_
 refine AW.seq (AW.region ?_)
 refine qq Qt.move ?_
 refine sp (Stp.callR rfl (by decide) Try.call16 rfl rfl (toInsSS_con _ (by first | omega | (simp only [Int.toNat_natCast]; omega) | (simp only [Mk.wt] at *; omega))) (nodup_of rfl) rfl rfl) ?_
 refine nm ?_
 refine qq Qt.assign ?_
 refine nl ?_
 refine AW.seq (AW.region ?_)
 refine qq Qt.move ?_
 refine sp (Stp.callR rfl (by decide) Try.call17 rfl rfl (BootI_con _ (by omega)) (nodup_of rfl) rfl rfl) ?_
 refine nm ?_
 refine qq Qt.move ?_
 refine qq (Qt.extract rfl (of_decide_eq_true rfl)) ?_
 refine qq (Qt.extract rfl (of_decide_eq_true rfl)) ?_
 refine nm ?_
 refine sp (Stp.alloc rfl (by decide) (by decide)) ?_
 refine nm ?_
 refine ss ?_
 refine nm ?_
 refine qq Qt.assign ?_
 refine nl ?_
 refine AW.seq (AW.seq (AW.region ?_))
 refine qq (Qt.loadG rfl rfl rfl ag45 sz45 (by decide)) ?_
 refine qq (Qt.loadG rfl rfl rfl ag45 sz45 (by decide)) ?_
 refine nm ?_
 refine cv Try.call18 rfl rfl (eqUnix_con _ _) ?_
 refine nm ?_
 refine qq (Qt.notB rfl) ?_
 refine qq Qt.move ?_
 refine AWL.split 36 rfl (fun g2 => (by exfalso; first | (simp at g2; done) | (simp only [decide_eq_true_eq] at g2; omega))) (fun g2 => ?_)
 refine qg (nF g2) Qt.move ?_
 refine nm ?_
 refine qg (nF g2) Qt.move ?_
 refine qg (nF g2) (Qt.neB rfl rfl Try.underlying4) ?_
 refine qq (Qt.pickF rfl g2) ?_
 refine nl ?_
 refine AW.cond rfl (fun c3 => (by exfalso; first | (simp at c3; done) | (simp only [decide_eq_true_eq] at c3; omega))) (fun c3 => ?_)
 refine jd (AW.seq (AW.seq (AW.region ?_)))
 refine qq Qt.move ?_
 refine nm ?_
 refine qq Qt.move ?_
 refine sp (Stp.callR rfl (by decide) Try.call16 rfl rfl (toInsSS_con _ (by first | omega | (simp only [Int.toNat_natCast]; omega) | (simp only [Mk.wt] at *; omega))) (nodup_of rfl) rfl rfl) ?_
 refine nm ?_
 refine cv Try.call19 rfl rfl (eqInsSS_con _ _) ?_
 refine nm ?_
 refine qq (Qt.notB rfl) ?_
 refine nl ?_
 refine AW.cond rfl (fun c4 => (by exfalso; first | (simp at c4; done) | (simp only [decide_eq_true_eq] at c4; omega))) (fun c4 => ?_)
 refine jd (AW.seq (AW.region ?_))
 refine qq Qt.assign ?_
 refine nl ?_
 refine AW.seq (AW.region ?_)
 refine qq Qt.move ?_
 refine nm ?_
 refine qq Qt.move ?_
 refine sp (Stp.callH rfl (by decide) Try.call20 rfl (markInsSS_con _ _ (by omega) (by omega)) rfl rfl rfl (nodup_of rfl) rfl rfl) ?_
 refine nm ?_
 refine qq Qt.assign ?_
 refine nl ?_
 refine AW.seq (AW.seq (AW.region ?_))
 refine qq Qt.move ?_
 refine qq (Qt.binOp rfl rfl rfl) ?_
 refine nm ?_
 refine qq Qt.move ?_
 refine AWL.split 51 rfl (fun g5 => (by exfalso; first | (simp at g5; done) | (simp only [decide_eq_true_eq] at g5; omega))) (fun g5 => ?_)
 refine qg (nF g5) (Qt.loadG rfl rfl rfl ag45 sz45 (by decide)) ?_
 refine qg (nF g5) (Qt.loadG rfl rfl rfl ag45 sz45 (by decide)) ?_
 refine nm ?_
 refine AWL.step rfl (nF g5) (Stp.callV rfl (by decide) Try.call18 rfl rfl (eqUnix_con _ _)) ?_
 refine nm ?_
 refine qg (nF g5) (Qt.notB rfl) ?_
 refine qq (Qt.pickF rfl g5) ?_
 refine qq Qt.move ?_
 refine nm ?_
 refine AWL.split 57 rfl (fun g6 => (by exfalso; first | (simp at g6; done) | (simp only [decide_eq_true_eq] at g6; omega))) (fun g6 => ?_)
 refine qg (nF g6) Qt.move ?_
 refine qg (nF g6) Qt.move ?_
 refine qg (nF g6) (Qt.neB rfl rfl Try.underlying4) ?_
 refine nm ?_
 refine qq (Qt.pickF rfl g6) ?_
 refine nl ?_
 refine AW.cond rfl (fun c7 => (by exfalso; first | (simp at c7; done) | (simp only [decide_eq_true_eq] at c7; omega))) (fun c7 => ?_)
 refine jd (AW.seq (AW.region ?_))
 refine qq Qt.assign ?_
 refine nl ?_
 refine AW.seq (AW.region ?_)
 refine qq (Qt.loadG rfl rfl rfl ag45 sz45 (by decide)) ?_
 refine nm ?_
 refine qq Qt.move ?_
 refine sp (Stp.callH rfl (by decide) Try.call21 rfl (markUnix_con _ _ (by omega) (by omega)) rfl rfl rfl (nodup_of rfl) rfl rfl) ?_
 refine nm ?_
 refine qq Qt.assign ?_
 refine nl ?_
 refine AW.seq (AW.region ?_)
 refine qq Qt.assign ?_
 refine nl ?_
 refine AW.seq (AW.region ?_)
 refine qq (Qt.loadG rfl rfl rfl ag45 sz45 (by decide)) ?_
 refine nm ?_
 refine qq Qt.move ?_
 refine cv Try.call22 rfl rfl (heldUnix_con _ _ (by omega) (by omega)) ?_
 refine nm ?_
 refine qq Qt.assign ?_
 refine nl ?_
 refine AW.seq (AW.seq (AW.region ?_))
 refine qq Qt.move ?_
 refine qq (Qt.binOp rfl rfl rfl) ?_
 refine nl ?_
 refine AW.cond rfl (fun c8 => (by exfalso; first | (simp at c8; done) | (simp only [decide_eq_true_eq] at c8; omega))) (fun c8 => ?_)
 refine jd (AW.seq (AW.seq (AW.region ?_)))
 refine qq Qt.move ?_
 refine nm ?_
 refine qq Qt.move ?_
 refine qq (Qt.binOp rfl rfl rfl) ?_
 refine nl ?_
 refine AW.cond rfl (fun c9 => (by exfalso; first | (simp at c9; done) | (simp only [decide_eq_true_eq] at c9; omega))) (fun c9 => ?_)
 refine jd (AW.seq (AW.region ?_))
 refine qq Qt.move ?_
 refine nm ?_
 refine sp (Stp.callR rfl (by decide) Try.call16 rfl rfl (toInsSS_con _ (by first | omega | (simp only [Int.toNat_natCast]; omega) | (simp only [Mk.wt] at *; omega))) (nodup_of rfl) rfl rfl) ?_
 refine nm ?_
 refine sp (Stp.callR rfl (by decide) Try.call17 rfl rfl (BootI_con _ (by omega)) (nodup_of rfl) rfl rfl) ?_
 refine nm ?_
 refine qq Qt.move ?_
 refine qq (Qt.extract rfl (of_decide_eq_true rfl)) ?_
 refine qq (Qt.extract rfl (of_decide_eq_true rfl)) ?_
 refine nm ?_
 refine sp (Stp.alloc rfl (by decide) (by decide)) ?_
 refine nm ?_
 refine ss ?_
 refine nm ?_
 refine qq Qt.assign ?_
 refine nl ?_
 refine AW.seq (AW.seq (AW.region ?_))
 refine qq (Qt.loadG rfl rfl rfl ag45 sz45 (by decide)) ?_
 refine qq (Qt.loadG rfl rfl rfl ag45 sz45 (by decide)) ?_
 refine nm ?_
 refine cv Try.call18 rfl rfl (eqUnix_con _ _) ?_
 refine nm ?_
 refine qq (Qt.notB rfl) ?_
 refine qq Qt.move ?_
 refine AWL.split 83 rfl (fun g10 => (by exfalso; first | (simp at g10; done) | (simp only [decide_eq_true_eq] at g10; omega))) (fun g10 => ?_)
 refine qg (nF g10) Qt.move ?_
 refine nm ?_
 refine qg (nF g10) Qt.move ?_
 refine qg (nF g10) (Qt.neB rfl rfl Try.underlying4) ?_
 refine qq (Qt.pickF rfl g10) ?_
 refine nl ?_
 refine AW.cond rfl (fun c11 => (by exfalso; first | (simp at c11; done) | (simp only [decide_eq_true_eq] at c11; omega))) (fun c11 => ?_)
 refine jd (AW.seq (AW.region ?_))
 refine qq Qt.assign ?_
 refine nl ?_
 refine AW.seq (AW.region ?_)
 refine qq (Qt.loadG rfl rfl rfl ag45 sz45 (by decide)) ?_
 refine nm ?_
 refine qq Qt.move ?_
 refine cv Try.call22 rfl rfl (heldUnix_con _ _ (by omega) (by omega)) ?_
 refine nm ?_
 refine qq Qt.assign ?_
 refine nl ?_
 refine AW.seq (AW.seq (AW.region ?_))
 refine qq Qt.move ?_
 refine qq (Qt.binOp rfl rfl rfl) ?_
 refine nl ?_
 refine AW.cond rfl (fun c12 => (by exfalso; first | (simp at c12; done) | (simp only [decide_eq_true_eq] at c12; omega))) (fun c12 => ?_)
 refine jd (AW.seq (AW.seq (AW.region ?_)))
 refine qq Qt.move ?_
 refine nm ?_
 refine qq Qt.move ?_
 refine qq (Qt.binOp rfl rfl rfl) ?_
 refine nl ?_
 refine AW.cond rfl (fun c13 => (by exfalso; first | (simp at c13; done) | (simp only [decide_eq_true_eq] at c13; omega))) (fun c13 => ?_)
 refine jd (AW.seq (AW.region ?_))
 refine qq Qt.assign ?_
 refine nl ?_
 refine AW.ret (endQ_ret (.cons (.tmp 2) .nil) ?_)
 first | rfl | (exfalso; simp_all; done)
end Go.Proofs.Ytfbefcmeghpalaa.VM
