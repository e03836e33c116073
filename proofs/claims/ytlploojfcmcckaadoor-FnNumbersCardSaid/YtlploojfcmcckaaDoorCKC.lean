/- Contracts of functions of the program. No conditions beyond those that each states. -/
import Derived.Test.YtlploojfcmcckaaDoorCKT
import Derived.Test.YtlploojfcmcckaaDoorCKD
set_option linter.all false
set_option maxHeartbeats 8000000
set_option maxRecDepth 10000
namespace Go.Proofs.YtlploojfcmcckaaDoor.VM
open Go Go.RowKit Go.Proofs
theorem baE {a b : ByteArray} : (a.toList == b.toList) = decide (a = b) := by
 rw [ByteArray.toList_eq, ByteArray.toList_eq, Bool.eq_iff_iff, beq_iff_eq, decide_eq_true_eq]
 exact ⟨fun h => ByteArray.ext (Array.toList_inj.mp h), fun h => by rw [h]⟩
theorem ReadDecI_con (s : ByteArray) (hw : s.size ≤ 1048576) : Con Tryd.prog 16 [.v (.string s)] [] (Ret (.t [.v (iv (rdS s).1), .v (.bool (rdS s).2)]) []) := by
 refine ob Tryd.func16 Tryd.ntmps16 ?_
 refine sr ?_
 refine qa ?_
 refine qs' ?_
 refine mn ?_
 refine spK (StpK.callP rfl (by decide) Tryd.call39 rfl rfl rfl (atoi_con s (by omega))) ?_
 rintro _ ⟨d1_1, hd1_1, rfl⟩
 try dsimp only at hd1_1
 refine nm ?_
 refine qm ?_
 refine qq (Qt.extract rfl (of_decide_eq_true rfl)) ?_
 refine qq (Qt.extract rfl (of_decide_eq_true rfl)) ?_
 refine nm ?_
 refine qa ?_
 refine qn ?_
 refine sr2 ?_
 refine mn ?_
 refine qq (Qt.neqNil Tryd.underlying60 rfl hd1_1.1) ?_
 refine qm ?_
 apply AWL.cut 4
 ·intro Kg1
  refine AWL.splitF 13 rfl (fun g1 => ?_) (fun g1 => ?_)
  ·have eg1 := g1
   try simp only [cnd] at eg1
   refine qg (nF g1) Qt.move ?_
   refine nm ?_
   refine AWL.step rfl (nF g1) (Stp.callV rfl (by decide) Tryd.call9 rfl rfl (DecI_con d1_1.1 (Lib.atoiAll_bounds (hd1_1.2.1 (by grind only))))) ?_
   refine nm ?_
   refine qg (nF g1) Qt.move ?_
   refine qg (nF g1) (Qt.binOp rfl rfl rfl) ?_
   exact wj 17 [14, 15, 16, 17] (ifF g1 _ undef) (by simp only [go_sem, reduceIte, Nat.reduceEqDiff, Nat.reduceBEq, reduceCtorEq]; rfl) Kg1
  ·refine og (nT g1) ?_
   refine og (nT g1) ?_
   refine og (nT g1) ?_
   refine og (nT g1) ?_
   exact wj 17 [14, 15, 16, 17] (ifT g1 undef _) (by simp only [go_sem, reduceIte, Nat.reduceEqDiff, Nat.reduceBEq, reduceCtorEq]) Kg1
 refine qq (Qt.pickOr rfl rfl rfl) ?_
 refine nm ?_
 refine qm ?_
 apply AWL.cut 3
 ·intro Kg2
  refine AWL.splitF 19 rfl (fun g2 => ?_) (fun g2 => ?_)
  ·have eg2 := g2
   try simp only [cnd] at eg2
   refine qg (nF g2) Qt.move ?_
   refine AWL.step rfl (nF g2) (Stp.callV rfl (by decide) Tryd.call40 rfl rfl (in_con _ _ _)) ?_
   refine nm ?_
   refine qg (nF g2) (Qt.notB rfl) ?_
   exact wj 22 [20, 21, 22] (ifF g2 _ undef) (by simp only [go_sem, reduceIte, Nat.reduceEqDiff, Nat.reduceBEq, reduceCtorEq]; rfl) Kg2
  ·refine og (nT g2) ?_
   refine og (nT g2) ?_
   refine og (nT g2) ?_
   exact wj 22 [20, 21, 22] (ifT g2 undef _) (by simp only [go_sem, reduceIte, Nat.reduceEqDiff, Nat.reduceBEq, reduceCtorEq]) Kg2
 refine qq (Qt.pickOr rfl rfl rfl) ?_
 refine nc (fun c3 => ?_) fun c3 => ?_
 ·have k3 := c3
  try simp only [cnd] at c3
  refine sr ?_
  refine qa ?_
  refine nm ?_
  refine qn ?_
  refine AW.ret (endQ_ret (.cons (.tmp 2) (.cons (.tmp 3) .nil)) ?_)
  have hk := k3
  rw [show rdS s = (0, false) from by rw [rd_eq hd1_1.2.1 hd1_1.2.2, if_neg (by rintro ⟨q1, q2⟩; simp only [rdIok, decide_eq_true_eq] at q2; obtain ⟨q3, q4, q5⟩ := q2; simp only [baE, q1, q3, decide_true, Bool.not_true, Bool.false_or, Bool.or_false, Bool.not_eq_true', Bool.and_eq_false_iff, decide_eq_false_iff_not] at hk; omega)]]
  refine ⟨fun _ => 0, rfl, nodup_of rfl, ?_⟩
  intro r hr
  cases hr
 have k3 := c3
 try simp only [cnd] at c3
 refine jd (sr ?_)
 refine qm ?_
 refine qa ?_
 refine nm ?_
 refine qn ?_
 refine AW.ret (endQ_ret (.cons (.tmp 2) (.cons (.tmp 3) .nil)) ?_)
 have hk := k3
 rw [show rdS s = (d1_1.1, true) from by rw [rd_eq hd1_1.2.1 hd1_1.2.2, if_pos (by simp only [baE, Bool.or_eq_false_iff, Bool.not_eq_false', Bool.and_eq_true, decide_eq_true_eq, bne_eq_false_iff_eq] at hk; exact ⟨hk.1.1, decide_eq_true ⟨hk.1.2, hk.2.1, hk.2.2⟩⟩)]]
 refine ⟨fun _ => 0, rfl, nodup_of rfl, ?_⟩
 intro r hr
 cases hr
end Go.Proofs.YtlploojfcmcckaaDoor.VM
