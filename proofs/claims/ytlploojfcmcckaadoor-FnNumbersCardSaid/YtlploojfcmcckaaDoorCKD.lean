/- Contracts of functions of the program. No conditions beyond those that each states. -/
import Derived.Test.YtlploojfcmcckaaDoorCK1
set_option linter.all false
set_option maxHeartbeats 8000000
set_option maxRecDepth 10000
namespace Go.Proofs.YtlploojfcmcckaaDoor.VM
open Go Go.RowKit Go.Proofs
theorem in_con (x lo hi : Int) : Con Tryd.prog 40 [.v (iv x), .v (iv lo), .v (iv hi)] [] (fun y _ => y = .v (.bool (decide (lo ≤ x) && decide (x ≤ hi)))) := by
 refine ob Tryd.func40 Tryd.ntmps40 ?_
 refine sr ?_
 refine qs' ?_
 refine qm ?_
 refine mn ?_
 refine qb ?_
 refine qm ?_
 apply AWL.cut 3
 ·intro Kg1
  refine AWL.split 10 rfl (fun g1 => ?_) (fun g1 => ?_)
  ·refine qg g1 Qt.move ?_
   refine nm ?_
   refine qg g1 Qt.move ?_
   refine qg g1 (Qt.binOp rfl rfl rfl) ?_
   exact wj 13 [11, 12, 13] (ifT g1 _ undef) (by simp only [go_sem, reduceIte, Nat.reduceEqDiff, Nat.reduceBEq, reduceCtorEq]; rfl) Kg1
  ·refine og g1 ?_
   refine og g1 ?_
   refine og g1 ?_
   exact wj 13 [11, 12, 13] (ifF g1 undef _) (by simp only [go_sem, reduceIte, Nat.reduceEqDiff, Nat.reduceBEq, reduceCtorEq]) Kg1
 refine qq (Qt.pickAnd rfl rfl rfl) ?_
 refine nm ?_
 refine qr 6 ?_
 rfl
end Go.Proofs.YtlploojfcmcckaaDoor.VM
