/- Contracts of functions of the program. No conditions beyond those that each states. -/
import Derived.Test.YtjfojlaoiifppaaBOc
set_option linter.all false
namespace Go.Proofs.Ytjfojlaoiifppaa.VM
open Go Go.RowKit Go.Proofs
theorem BuddyOkI_con2 (a : DBuddy) : Con Try.prog 44 [.g [.h base []]] [.rt base .ro (tr a.Free)] (fun y _ => y = .v (.bool (okS a.Free))) := by
  have h := BuddyOkI_con a
  rw [ok_eq] at h
  exact h
set_option maxHeartbeats 8000000 in
set_option maxRecDepth 10000 in
theorem FnExactBuddyOk_con (a : DBuddy) : Con Try.prog 8 [.g [.h base []]] [.rt base .ro (tr a.Free)] (fun y _ => y = .v (.bool true)) := by
  refine Con.of_body Try.func8 rfl (by simp) ?_
  rw [Try.ntmps8]
  refine AW.seq ?_
  refine AW.region ?_
  refine AWL.step rfl rfl (Stp.boxB rfl (by decide) (by decide) rfl rfl rfl rfl) ?_
  refine AWL.nrm (by simp only [go_sem, Int.reduceToNat, Nat.reduceLT, reduceIte, Nat.reduceEqDiff, Nat.reduceAdd, Nat.reduceMul, Nat.reduceBEq, reduceCtorEq]; rfl) ?_
  refine AWL.q rfl rfl rfl (by decide) Qt.assign ?_
  refine AWL.nilE (by simp only [go_sem, Int.reduceToNat, Nat.reduceLT, reduceIte, Nat.reduceEqDiff, Nat.reduceAdd, Nat.reduceMul, Nat.reduceBEq, reduceCtorEq]; rfl) ?_
  try dsimp only [thenQ, blockQ]
  refine AW.seq ?_
  refine AW.region ?_
  refine AWL.q rfl rfl rfl (by decide) Qt.assign ?_
  refine AWL.nilE (by simp only [go_sem, Int.reduceToNat, Nat.reduceLT, reduceIte, Nat.reduceEqDiff, Nat.reduceAdd, Nat.reduceMul, Nat.reduceBEq, reduceCtorEq]; rfl) ?_
  try dsimp only [thenQ, blockQ]
  refine AW.seq ?_
  refine AW.region ?_
  refine AWL.q rfl rfl rfl (by decide) (Qt.loadG rfl rfl rfl ag59 sz59 (by decide)) ?_
  refine AWL.nrm (by simp only [go_sem, Int.reduceToNat, Nat.reduceLT, reduceIte, Nat.reduceEqDiff, Nat.reduceAdd, Nat.reduceMul, Nat.reduceBEq, reduceCtorEq]; rfl) ?_
  refine AWL.q rfl rfl rfl (by decide) Qt.move ?_
  refine AWL.step rfl rfl (Stp.callV rfl (by decide) Try.call41 rfl rfl (szBuddy_con _ _ (by omega) (by omega))) ?_
  refine AWL.nrm (by simp only [go_sem, Int.reduceToNat, Nat.reduceLT, reduceIte, Nat.reduceEqDiff, Nat.reduceAdd, Nat.reduceMul, Nat.reduceBEq, reduceCtorEq]; rfl) ?_
  refine AWL.q rfl rfl rfl (by decide) Qt.assign ?_
  refine AWL.nilE (by simp only [go_sem, Int.reduceToNat, Nat.reduceLT, reduceIte, Nat.reduceEqDiff, Nat.reduceAdd, Nat.reduceMul, Nat.reduceBEq, reduceCtorEq]; rfl) ?_
  try dsimp only [thenQ, blockQ]
  refine AW.seq ?_
  refine AW.seq ?_
  refine AW.region ?_
  refine AWL.q rfl rfl rfl (by decide) Qt.move ?_
  refine AWL.q rfl rfl rfl (by decide) (Qt.binOp rfl rfl rfl) ?_
  refine AWL.nilE (by simp only [go_sem, Int.reduceToNat, Nat.reduceLT, reduceIte, Nat.reduceEqDiff, Nat.reduceAdd, Nat.reduceMul, Nat.reduceBEq, reduceCtorEq]; rfl) ?_
  try dsimp only [thenQ, blockQ]
  refine AW.cond rfl (fun c1 => ?_) (fun c1 => ?_)
  · have k1 := c1
    try simp only [decide_eq_true_eq, decide_eq_false_iff_not, bne_iff_ne, ne_eq, beq_iff_eq, beq_eq_false_iff_ne, bne_eq_false_iff_eq, Bool.not_eq_true', Bool.not_eq_false', Bool.and_eq_true, Bool.or_eq_true, Bool.and_eq_false_iff, Bool.or_eq_false_iff, Int.not_lt, Int.not_le, Int.toNat_natCast] at c1
    refine AW.seq ?_
    refine AW.region ?_
    refine AWL.q rfl rfl rfl (by decide) Qt.assign ?_
    refine AWL.nilE (by simp only [go_sem, Int.reduceToNat, Nat.reduceLT, reduceIte, Nat.reduceEqDiff, Nat.reduceAdd, Nat.reduceMul, Nat.reduceBEq, reduceCtorEq]; rfl) ?_
    try dsimp only [thenQ, blockQ]
    refine AW.ret ?_
    try dsimp only [thenQ, blockQ]
    refine endQ_ret (.cons (.tmp 2) .nil) ?_
    first | rfl | (exfalso; simp_all; done)
  · have k1 := c1
    try simp only [decide_eq_true_eq, decide_eq_false_iff_not, bne_iff_ne, ne_eq, beq_iff_eq, beq_eq_false_iff_ne, bne_eq_false_iff_eq, Bool.not_eq_true', Bool.not_eq_false', Bool.and_eq_true, Bool.or_eq_true, Bool.and_eq_false_iff, Bool.or_eq_false_iff, Int.not_lt, Int.not_le, Int.toNat_natCast] at c1
    have hw : Mk.wt a ≤ 1048576 := by simp only [szd] at c1; omega
    refine AW.skip ?_
    dsimp only [thenQ, blockQ]
    refine AW.seq ?_
    refine AW.region ?_
    refine AWL.q rfl rfl rfl (by decide) (Qt.loadG rfl rfl rfl ag59 sz59 (by decide)) ?_
    refine AWL.nrm (by simp only [go_sem, Int.reduceToNat, Nat.reduceLT, reduceIte, Nat.reduceEqDiff, Nat.reduceAdd, Nat.reduceMul, Nat.reduceBEq, reduceCtorEq]; rfl) ?_
    refine AWL.step rfl rfl (Stp.callR rfl (by decide) Try.call43 rfl rfl (toBuddy_con _ (by first | omega | (simp only [Int.toNat_natCast]; omega) | (simp only [Mk.wt] at *; omega))) (nodup_of rfl) rfl rfl) ?_
    refine AWL.nrm (by simp only [go_sem, Int.reduceToNat, Nat.reduceLT, reduceIte, Nat.reduceEqDiff, Nat.reduceAdd, Nat.reduceMul, Nat.reduceBEq, reduceCtorEq]; rfl) ?_
    refine AWL.step rfl rfl (Stp.callV rfl (by decide) Try.call42 rfl rfl (BuddyOkS_con _)) ?_
    refine AWL.nrm (by simp only [go_sem, Int.reduceToNat, Nat.reduceLT, reduceIte, Nat.reduceEqDiff, Nat.reduceAdd, Nat.reduceMul, Nat.reduceBEq, reduceCtorEq]; rfl) ?_
    refine AWL.q rfl rfl rfl (by decide) Qt.assign ?_
    refine AWL.nilE (by simp only [go_sem, Int.reduceToNat, Nat.reduceLT, reduceIte, Nat.reduceEqDiff, Nat.reduceAdd, Nat.reduceMul, Nat.reduceBEq, reduceCtorEq]; rfl) ?_
    try dsimp only [thenQ, blockQ]
    refine AW.seq ?_
    refine AW.region ?_
    refine AWL.q rfl rfl rfl (by decide) (Qt.loadG rfl rfl rfl ag59 sz59 (by decide)) ?_
    refine AWL.step rfl rfl (Stp.callR rfl (by decide) Try.call43 rfl rfl (toBuddy_con _ (by first | omega | (simp only [Int.toNat_natCast]; omega) | (simp only [Mk.wt] at *; omega))) (nodup_of rfl) rfl rfl) ?_
    refine AWL.nrm (by simp only [go_sem, Int.reduceToNat, Nat.reduceLT, reduceIte, Nat.reduceEqDiff, Nat.reduceAdd, Nat.reduceMul, Nat.reduceBEq, reduceCtorEq]; rfl) ?_
    refine AWL.step rfl rfl (Stp.alloc rfl (by decide) (by decide)) ?_
    refine AWL.nrm (by simp only [go_sem, Int.reduceToNat, Nat.reduceLT, reduceIte, Nat.reduceEqDiff, Nat.reduceAdd, Nat.reduceMul, Nat.reduceBEq, reduceCtorEq]; rfl) ?_
    refine AWL.step rfl rfl (by first | exact Stp.storeA rfl rfl rfl rfl (by decide) rfl | exact Stp.store rfl rfl (by simp) rfl rfl rfl (by decide) rfl) ?_
    refine AWL.nilE (by simp only [go_sem, Int.reduceToNat, Nat.reduceLT, reduceIte, Nat.reduceEqDiff, Nat.reduceAdd, Nat.reduceMul, Nat.reduceBEq, reduceCtorEq]; rfl) ?_
    try dsimp only [thenQ, blockQ]
    refine AW.seq ?_
    refine AW.region ?_
    refine AWL.q rfl rfl rfl (by decide) (Qt.loadG rfl rfl rfl ag54 sz54 (by decide)) ?_
    refine AWL.nrm (by simp only [go_sem, Int.reduceToNat, Nat.reduceLT, reduceIte, Nat.reduceEqDiff, Nat.reduceAdd, Nat.reduceMul, Nat.reduceBEq, reduceCtorEq]; rfl) ?_
    refine AWL.step rfl rfl (Stp.callV rfl (by decide) Try.call44 rfl rfl (BuddyOkI_con2 _)) ?_
    refine AWL.nrm (by simp only [go_sem, Int.reduceToNat, Nat.reduceLT, reduceIte, Nat.reduceEqDiff, Nat.reduceAdd, Nat.reduceMul, Nat.reduceBEq, reduceCtorEq]; rfl) ?_
    refine AWL.q rfl rfl rfl (by decide) Qt.assign ?_
    refine AWL.nilE (by simp only [go_sem, Int.reduceToNat, Nat.reduceLT, reduceIte, Nat.reduceEqDiff, Nat.reduceAdd, Nat.reduceMul, Nat.reduceBEq, reduceCtorEq]; rfl) ?_
    try dsimp only [thenQ, blockQ]
    refine AW.seq ?_
    refine AW.seq ?_
    refine AW.region ?_
    refine AWL.q rfl rfl rfl (by decide) Qt.move ?_
    refine AWL.q rfl rfl rfl (by decide) Qt.move ?_
    refine AWL.nrm (by simp only [go_sem, Int.reduceToNat, Nat.reduceLT, reduceIte, Nat.reduceEqDiff, Nat.reduceAdd, Nat.reduceMul, Nat.reduceBEq, reduceCtorEq]; rfl) ?_
    refine AWL.q rfl rfl rfl (by decide) (Qt.neB rfl rfl Try.underlying4) ?_
    refine AWL.nilE (by simp only [go_sem, Int.reduceToNat, Nat.reduceLT, reduceIte, Nat.reduceEqDiff, Nat.reduceAdd, Nat.reduceMul, Nat.reduceBEq, reduceCtorEq]; rfl) ?_
    try dsimp only [thenQ, blockQ]
    refine AW.cond rfl (fun c2 => (by exfalso; first | (simp at c2; done) | (simp only [decide_eq_true_eq] at c2; omega))) (fun c2 => ?_)
    refine AW.skip ?_
    dsimp only [thenQ, blockQ]
    refine AW.seq ?_
    refine AW.seq ?_
    refine AW.draw [0, 1, 4] rfl (by decide +kernel) ?_
    refine AWA.take 0 rfl rfl rfl (by decide +kernel) (.on rfl rfl (Qt.loadG rfl rfl rfl ag54 sz54 (by decide))) ?_
    refine AWA.take 1 rfl rfl rfl (by decide +kernel) (.on rfl rfl (Qt.loadG rfl rfl rfl ag59 sz59 (by decide))) ?_
    refine AWA.nrm (by first | (simp only [go_sem, Int.reduceToNat, Nat.reduceLT, reduceIte, Nat.reduceEqDiff, Nat.reduceAdd, Nat.reduceMul, Nat.reduceBEq, reduceCtorEq]; rfl) | rfl) ?_
    refine AWA.one 2 [0] [1] (by decide +kernel) rfl rfl rfl (by decide +kernel) (by decide +kernel) (by decide +kernel) (Stp.callR rfl (by decide) Try.call43 rfl rfl (toBuddy_con _ (by first | omega | (simp only [Int.toNat_natCast]; omega) | (simp only [Mk.wt] at *; omega))) (nodup_of rfl) rfl rfl) ?_
    refine AWA.nrm (by first | (simp only [go_sem, Int.reduceToNat, Nat.reduceLT, reduceIte, Nat.reduceEqDiff, Nat.reduceAdd, Nat.reduceMul, Nat.reduceBEq, reduceCtorEq]; rfl) | rfl) ?_
    refine AWA.againE rfl rfl (by decide +kernel) (.on rfl rfl (Qt.loadG rfl rfl rfl ag54 sz54 (by decide))) rfl ?_
    refine AWA.nrm (by first | (simp only [go_sem, Int.reduceToNat, Nat.reduceLT, reduceIte, Nat.reduceEqDiff, Nat.reduceAdd, Nat.reduceMul, Nat.reduceBEq, reduceCtorEq]; rfl) | rfl) ?_
    refine AWA.one 3 [] [2, 0, 1] (by decide +kernel) rfl rfl rfl (by decide +kernel) (by decide +kernel) (by decide +kernel) (Stp.callV rfl (by decide) Try.call38 rfl rfl (eqBuddy_con _ _)) ?_
    refine AWA.nrm (by first | (simp only [go_sem, Int.reduceToNat, Nat.reduceLT, reduceIte, Nat.reduceEqDiff, Nat.reduceAdd, Nat.reduceMul, Nat.reduceBEq, reduceCtorEq]; rfl) | rfl) ?_
    refine AWA.nrm (by first | (simp only [go_sem, Int.reduceToNat, Nat.reduceLT, reduceIte, Nat.reduceEqDiff, Nat.reduceAdd, Nat.reduceMul, Nat.reduceBEq, reduceCtorEq]; rfl) | rfl) ?_
    refine AWA.take 4 rfl rfl rfl (by decide +kernel) (.on rfl rfl (Qt.notB rfl)) ?_
    refine AWA.nilE (by decide +kernel) (by first | (simp only [go_sem, Int.reduceToNat, Nat.reduceLT, reduceIte, Nat.reduceEqDiff, Nat.reduceAdd, Nat.reduceMul, Nat.reduceBEq, reduceCtorEq]; rfl) | rfl) ?_
    try dsimp only [thenQ, blockQ]
    refine AW.cond rfl (fun c3 => (by exfalso; first | (simp at c3; done) | (simp only [decide_eq_true_eq] at c3; omega))) (fun c3 => ?_)
    refine AW.skip ?_
    dsimp only [thenQ, blockQ]
    refine AW.seq ?_
    refine AW.region ?_
    refine AWL.q rfl rfl rfl (by decide) Qt.assign ?_
    refine AWL.nilE (by simp only [go_sem, Int.reduceToNat, Nat.reduceLT, reduceIte, Nat.reduceEqDiff, Nat.reduceAdd, Nat.reduceMul, Nat.reduceBEq, reduceCtorEq]; rfl) ?_
    try dsimp only [thenQ, blockQ]
    refine AW.ret ?_
    try dsimp only [thenQ, blockQ]
    refine endQ_ret (.cons (.tmp 2) .nil) ?_
    first | rfl | (exfalso; simp_all; done)
end Go.Proofs.Ytjfojlaoiifppaa.VM
