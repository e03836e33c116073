/- Contracts of functions of the program. No conditions beyond those that each states. -/
import Derived.Test.YtlploojfcmcckaaDoorCKG
set_option linter.all false
set_option maxHeartbeats 8000000
set_option maxRecDepth 10000
namespace Go.Proofs.YtlploojfcmcckaaDoor.VM
open Go Go.RowKit Go.Proofs
theorem FnExactAsm_con (s : ByteArray) : Con Tryd.prog 7 [.v (.string s)] [] (fun y _ => y = .v (.bool true)) := by
 refine ob Tryd.func7 Tryd.ntmps7 ?_
 have hca := cnt_flat (n := 4) (fun _ => rfl) (asmR s).1
 have hal := asmGo_len (linesS s) 0 [] (Nat.zero_le _)
 change (asmR s).1.length ≤ 40 at hal
 refine sr ?_
 refine qn ?_
 refine sr2 ?_
 refine qm ?_
 refine qq (Qt.lenS rfl Tryd.underlying9) ?_
 refine nm ?_
 refine qb ?_
 refine nc (fun c1 => ?_) fun c1 => ?_
 ·try simp only [cnd] at c1
  refine sr ?_
  refine qr 2 ?_
  first | rfl | (exfalso; simp_all; done)
 try simp only [cnd] at c1
 refine jd (sr ?_)
 refine mn ?_
 refine sp (Stp.callR rfl (by decide) Tryd.call27 rfl rfl (AsmS_con s (by omega)) (nodup_of rfl) rfl rfl) ?_
 refine nm ?_
 refine qm ?_
 refine qq (Qt.extract rfl (of_decide_eq_true rfl)) ?_
 refine qq (Qt.extract rfl (of_decide_eq_true rfl)) ?_
 refine nm ?_
 refine qa ?_
 refine qs' ?_
 refine mn ?_
 refine sp (Stp.callR rfl (by decide) Tryd.call28 rfl rfl (AsmI_con s (by omega)) (nodup_of rfl) rfl rfl) ?_
 refine nm ?_
 refine qm ?_
 refine qq (Qt.extract rfl (of_decide_eq_true rfl)) ?_
 refine qq (Qt.extract rfl (of_decide_eq_true rfl)) ?_
 refine nm ?_
 refine qa ?_
 refine qn ?_
 refine sr2 ?_
 refine mn ?_
 refine qm ?_
 refine cv Tryd.call14 rfl rfl (eqInsS_con _ _) ?_
 refine nm ?_
 refine qq (Qt.notB rfl) ?_
 refine qm ?_
 refine AWL.split 28 rfl (fun g2 => (by exfalso; first | (simp at g2; done) | (simp only [decide_eq_true_eq] at g2; omega))) (fun g2 => ?_)
 refine qg (nF g2) Qt.move ?_
 refine nm ?_
 refine qg (nF g2) Qt.move ?_
 refine qg (nF g2) (Qt.binOp rfl rfl rfl) ?_
 refine qq (Qt.pickF rfl g2) ?_
 refine nl ?_
 refine AW.cond rfl (fun c3 => (by exfalso; first | (simp at c3; done) | (simp only [decide_eq_true_eq] at c3; omega))) (fun c3 => ?_)
 refine jd (sr ?_)
 refine qs' ?_
 refine mn ?_
 refine qm ?_
 refine sp (Stp.callH rfl (by decide) Tryd.call29 rfl (markInsS_con _ _ (by omega) (by omega)) rfl rfl rfl (nodup_of rfl) rfl rfl) ?_
 refine nm ?_
 refine qs' ?_
 refine qs' ?_
 refine mn ?_
 refine qm ?_
 refine cv Tryd.call30 rfl rfl (heldInsS_con _ _ (by omega) (by omega)) ?_
 refine nm ?_
 refine qn ?_
 refine sr2 ?_
 refine qm ?_
 refine qb ?_
 refine nl ?_
 refine AW.cond rfl (fun c4 => (by exfalso; first | (simp at c4; done) | (simp only [decide_eq_true_eq] at c4; omega))) (fun c4 => ?_)
 refine jd (sr2 ?_)
 refine mn ?_
 refine qm ?_
 refine qb ?_
 refine nl ?_
 refine AW.cond rfl (fun c5 => (by exfalso; first | (simp at c5; done) | (simp only [decide_eq_true_eq] at c5; omega))) (fun c5 => ?_)
 refine jd (sr ?_)
 refine mn ?_
 refine sp (Stp.callR rfl (by decide) Tryd.call28 rfl rfl (AsmI_con s (by omega)) (nodup_of rfl) rfl rfl) ?_
 refine nm ?_
 refine qm ?_
 refine qq (Qt.extract rfl (of_decide_eq_true rfl)) ?_
 refine qq (Qt.extract rfl (of_decide_eq_true rfl)) ?_
 refine nm ?_
 refine qa ?_
 refine qn ?_
 refine sr2 ?_
 refine mn ?_
 refine qm ?_
 refine cv Tryd.call14 rfl rfl (eqInsS_con _ _) ?_
 refine nm ?_
 refine qq (Qt.notB rfl) ?_
 refine qm ?_
 refine AWL.split 53 rfl (fun g6 => (by exfalso; first | (simp at g6; done) | (simp only [decide_eq_true_eq] at g6; omega))) (fun g6 => ?_)
 refine qg (nF g6) Qt.move ?_
 refine nm ?_
 refine qg (nF g6) Qt.move ?_
 refine qg (nF g6) (Qt.binOp rfl rfl rfl) ?_
 refine qq (Qt.pickF rfl g6) ?_
 refine nl ?_
 refine AW.cond rfl (fun c7 => (by exfalso; first | (simp at c7; done) | (simp only [decide_eq_true_eq] at c7; omega))) (fun c7 => ?_)
 refine jd (sr ?_)
 refine qs' ?_
 refine mn ?_
 refine qm ?_
 refine cv Tryd.call30 rfl rfl (heldInsS_con _ _ (by omega) (by omega)) ?_
 refine nm ?_
 refine qn ?_
 refine sr2 ?_
 refine qm ?_
 refine qb ?_
 refine nl ?_
 refine AW.cond rfl (fun c8 => (by exfalso; first | (simp at c8; done) | (simp only [decide_eq_true_eq] at c8; omega))) (fun c8 => ?_)
 refine jd (sr2 ?_)
 refine mn ?_
 refine qm ?_
 refine qb ?_
 refine nl ?_
 refine AW.cond rfl (fun c9 => (by exfalso; first | (simp at c9; done) | (simp only [decide_eq_true_eq] at c9; omega))) (fun c9 => ?_)
 refine jd (sr ?_)
 refine qr 2 ?_
 first | rfl | (exfalso; simp_all; done)
end Go.Proofs.YtlploojfcmcckaaDoor.VM
