/- Contracts of functions of the program. No conditions beyond those that each states. -/
import Derived.Test.YtfbefcmeghpalaaCMY
set_option linter.all false
namespace Go.Proofs.Ytfbefcmeghpalaa.VM
open Go Go.RowKit Go.Proofs
set_option maxHeartbeats 8000000 in
set_option maxRecDepth 10000 in
theorem FnBuddies_con (code : List UInt8) : Con Try.prog 3 [.h base []] [.rt base .ro (tr code)] (fun y _ => y = .v (.bool true)) := by
 refine Con.of_body Try.func3 rfl (by simp) ?_
 rw [Try.ntmps3]
 refine AW.seq (AW.region ?_)
 refine qq Qt.assign ?_
 refine nl ?_
 refine AW.seq (AW.seq (AW.region ?_))
 refine qq Qt.move ?_
 refine cv Try.call5 rfl rfl (big_con code) ?_
 refine nl ?_
 refine AW.cond rfl (fun c1 => ?_) (fun c1 => ?_)
 ·have k1 := c1
  try simp only [cnd] at c1
  refine AW.seq (AW.region ?_)
  refine qq Qt.assign ?_
  refine nl ?_
  refine AW.ret (endQ_ret (.cons (.tmp 2) .nil) ?_)
  rfl
 have k1 := c1
 try simp only [cnd] at c1
 refine jd (AW.seq (AW.region ?_))
 refine qq Qt.move ?_
 refine nm ?_
 refine spK (StpK.callC false rfl (by decide) Try.call6 rfl rfl rfl rfl (DrawBuddyTake_con code (by omega)) (fun _ => nodup_of rfl) (fun _ => rfl) (fun _ => rfl) (fun _ => rfl) (fun h => by cases h)) ?_
 rintro _ ⟨d3_1, hd3_1, rfl⟩
 try dsimp only at hd3_1
 generalize d3_1 = S at hd3_1
 have hwS := hd3_1.wt
 refine nm ?_
 refine sp (Stp.alloc rfl (by decide) (by decide)) ?_
 refine nm ?_
 refine ss ?_
 refine nl ?_
 refine AW.seq (AW.region ?_)
 refine qq (Qt.loadG rfl rfl rfl ag26 sz26 (by decide)) ?_
 refine nm ?_
 refine sp (Stp.callR rfl (by decide) Try.call7 rfl rfl (BuddyTakeI_con ⟨S⟩ hwS) (nodup_of rfl) rfl rfl) ?_
 refine nm ?_
 refine qq Qt.move ?_
 refine qq (Qt.extract rfl (of_decide_eq_true rfl)) ?_
 refine qq (Qt.extract rfl (of_decide_eq_true rfl)) ?_
 refine nm ?_
 refine sp (Stp.alloc rfl (by decide) (by decide)) ?_
 refine nm ?_
 refine ss ?_
 refine nm ?_
 refine qq Qt.assign ?_
 refine nl ?_
 refine AW.seq (AW.seq (AW.region ?_))
 refine qq (Qt.loadG rfl rfl rfl ag26 sz26 (by decide)) ?_
 refine cv Try.call8 rfl rfl (BuddyOkS_con ⟨S⟩) ?_
 refine nm ?_
 refine qq (Qt.notB rfl) ?_
 refine nl ?_
 refine AW.cond rfl (fun c2 => ?_) (fun c2 => ?_)
 ·have k2 := c2
  try simp only [cnd] at c2
  have hko : okS S = false := by simpa using k2
  obtain ⟨hb1, hb2⟩ := badLaw hko
  refine AW.seq (AW.region ?_)
  refine qq Qt.move ?_
  refine qq (Qt.binOp rfl rfl rfl) ?_
  refine nm ?_
  refine qq Qt.move ?_
  apply AWL.cut 4
  ·intro Kg3
   refine AWL.split 35 rfl (fun g3 => ?_) (fun g3 => ?_)
   ·have eg3 := g3
    try simp only [cnd] at eg3
    refine qg g3 (fA fl26_0) ?_
    refine qg g3 (Qt.load1 rfl rfl rfl ag24) ?_
    refine nm ?_
    refine qg g3 (Qt.lenH rfl rfl rfl sl24) ?_
    refine qg g3 (Qt.binOp rfl rfl rfl) ?_
    exact wj 39 [36, 37, 38, 39] (ifT g3 _ undef) (by simp only [go_sem, Int.reduceToNat, Nat.reduceLT, reduceIte, Nat.reduceEqDiff, Nat.reduceAdd, Nat.reduceMul, Nat.reduceBEq, reduceCtorEq]; rfl) Kg3
   ·refine og g3 ?_
    refine og g3 ?_
    refine og g3 ?_
    refine og g3 ?_
    exact wj 39 [36, 37, 38, 39] (ifF g3 undef _) (by simp only [go_sem, Int.reduceToNat, Nat.reduceLT, reduceIte, Nat.reduceEqDiff, Nat.reduceAdd, Nat.reduceMul, Nat.reduceBEq, reduceCtorEq]) Kg3
  refine qq (Qt.pickAnd rfl rfl rfl) ?_
  refine nm ?_
  refine qq Qt.move ?_
  apply AWL.cut 3
  ·intro Kg4
   refine AWL.split 41 rfl (fun g4 => ?_) (fun g4 => ?_)
   ·have eg4 := g4
    try simp only [cnd] at eg4
    refine qg g4 (Qt.loadG rfl rfl rfl ag26 sz26 (by decide)) ?_
    refine AWL.step rfl g4 (Stp.callV rfl (by decide) Try.call9 rfl rfl (BuddyFreeI_con ⟨S⟩)) ?_
    refine nm ?_
    refine qg g4 (Qt.binOp rfl rfl rfl) ?_
    exact wj 44 [42, 43, 44] (ifT g4 _ undef) (by simp only [go_sem, Int.reduceToNat, Nat.reduceLT, reduceIte, Nat.reduceEqDiff, Nat.reduceAdd, Nat.reduceMul, Nat.reduceBEq, reduceCtorEq]; rfl) Kg4
   ·refine og g4 ?_
    refine og g4 ?_
    refine og g4 ?_
    exact wj 44 [42, 43, 44] (ifF g4 undef _) (by simp only [go_sem, Int.reduceToNat, Nat.reduceLT, reduceIte, Nat.reduceEqDiff, Nat.reduceAdd, Nat.reduceMul, Nat.reduceBEq, reduceCtorEq]) Kg4
  refine qq (Qt.pickAnd rfl rfl rfl) ?_
  refine qq Qt.assign ?_
  refine nl ?_
  refine AW.ret (endQ_ret (.cons (.tmp 2) .nil) ?_)
  simp only [retX, slotL, reduceIte, Nat.reduceEqDiff]
  rw [hb1, hb2]
  rfl
 have k2 := c2
 try simp only [cnd] at c2
 have hko : okS S = true := by simpa using k2
 have hB := buddyLaw hko
 have hwx := hB.wx
 have hwy := hB.wy
 have hokx := hB.ok
 have hfb : 0 ≤ freeB S ∧ freeB S ≤ 16 := by rcases hB.sp with h | h <;> omega
 refine jd (AW.seq (AW.region ?_))
 refine qq (Qt.loadG rfl rfl rfl ag26 sz26 (by decide)) ?_
 refine nm ?_
 refine cv Try.call9 rfl rfl (BuddyFreeI_con ⟨S⟩) ?_
 refine nm ?_
 refine qq Qt.assign ?_
 refine nl ?_
 refine AW.seq (AW.seq (AW.region ?_))
 refine qq Qt.move ?_
 refine qq (Qt.loadG rfl rfl rfl ag26 sz26 (by decide)) ?_
 refine nm ?_
 refine cv Try.call10 rfl rfl (BuddyFreeS_con ⟨S⟩) ?_
 refine nm ?_
 refine qq (Qt.binOp rfl rfl rfl) ?_
 refine qq Qt.move ?_
 apply AWL.cut 5
 ·intro Kg5
  refine AWL.splitF 52 rfl (fun g5 => ?_) (fun g5 => ?_)
  ·have eg5 := g5
   try simp only [cnd] at eg5
   refine qg (nF g5) Qt.move ?_
   refine nm ?_
   refine qg (nF g5) (Qt.binOp rfl rfl rfl) ?_
   refine qg (nF g5) Qt.move ?_
   refine qg (nF g5) (Qt.binOp rfl rfl rfl) ?_
   refine nm ?_
   refine qg (nF g5) (Qt.neB rfl rfl Try.underlying4) ?_
   exact wj 57 [53, 54, 55, 56, 57] (ifF g5 _ undef) (by simp only [go_sem, Int.reduceToNat, Nat.reduceLT, reduceIte, Nat.reduceEqDiff, Nat.reduceAdd, Nat.reduceMul, Nat.reduceBEq, reduceCtorEq]; rfl) Kg5
  ·refine og (nT g5) ?_
   refine og (nT g5) ?_
   refine og (nT g5) ?_
   refine og (nT g5) ?_
   refine nm ?_
   refine og (nT g5) ?_
   exact wj 57 [53, 54, 55, 56, 57] (ifT g5 undef _) (by simp only [go_sem, Int.reduceToNat, Nat.reduceLT, reduceIte, Nat.reduceEqDiff, Nat.reduceAdd, Nat.reduceMul, Nat.reduceBEq, reduceCtorEq]) Kg5
 refine qq (Qt.pickOr rfl rfl rfl) ?_
 refine qq Qt.move ?_
 refine nm ?_
 apply AWL.cut 3
 ·intro Kg6
  refine AWL.splitF 59 rfl (fun g6 => ?_) (fun g6 => ?_)
  ·have eg6 := g6
   try simp only [cnd] at eg6
   refine qg (nF g6) (Qt.loadG rfl rfl rfl ag26 sz26 (by decide)) ?_
   refine AWL.step rfl (nF g6) (Stp.callV rfl (by decide) Try.call8 rfl rfl (BuddyOkS_con ⟨(bT S).1⟩)) ?_
   refine nm ?_
   refine qg (nF g6) (Qt.notB rfl) ?_
   exact wj 62 [60, 61, 62] (ifF g6 _ undef) (by simp only [go_sem, Int.reduceToNat, Nat.reduceLT, reduceIte, Nat.reduceEqDiff, Nat.reduceAdd, Nat.reduceMul, Nat.reduceBEq, reduceCtorEq]; rfl) Kg6
  ·refine og (nT g6) ?_
   refine og (nT g6) ?_
   refine og (nT g6) ?_
   exact wj 62 [60, 61, 62] (ifT g6 undef _) (by simp only [go_sem, Int.reduceToNat, Nat.reduceLT, reduceIte, Nat.reduceEqDiff, Nat.reduceAdd, Nat.reduceMul, Nat.reduceBEq, reduceCtorEq]) Kg6
 refine qq (Qt.pickOr rfl rfl rfl) ?_
 refine qq Qt.move ?_
 refine nm ?_
 apply AWL.cut 9
 ·intro Kg7
  refine AWL.splitF 64 rfl (fun g7 => ?_) (fun g7 => ?_)
  ·have eg7 := g7
   try simp only [cnd] at eg7
   refine qg (nF g7) Qt.move ?_
   refine qg (nF g7) (Qt.binOp rfl rfl rfl) ?_
   refine qg (nF g7) Qt.move ?_
   refine nm ?_
   apply AWL.cut 5
   ·intro Kg8
    refine AWL.split 67 rfl (fun g8 => ?_) (fun g8 => ?_)
    ·have eg8 := g8
     try simp only [cnd] at eg8
     refine qg g8 (Qt.loadG rfl rfl rfl ag26 sz26 (by decide)) ?_
     refine AWL.step rfl g8 (Stp.callV rfl (by decide) Try.call9 rfl rfl (BuddyFreeI_con ⟨(bT S).1⟩)) ?_
     refine nm ?_
     refine qg g8 Qt.move ?_
     refine qg g8 (Qt.binOp rfl rfl (by first | exact pbSub (by omega) | rfl)) ?_
     refine qg g8 (Qt.binOp rfl rfl rfl) ?_
     refine nm ?_
     exact wj 72 [68, 69, 70, 71, 72] (ifT g8 _ undef) (by simp only [go_sem, Int.reduceToNat, Nat.reduceLT, reduceIte, Nat.reduceEqDiff, Nat.reduceAdd, Nat.reduceMul, Nat.reduceBEq, reduceCtorEq]; rfl) Kg8
    ·refine og g8 ?_
     refine og g8 ?_
     refine og g8 ?_
     refine og g8 ?_
     refine nm ?_
     refine og g8 ?_
     exact wj 72 [68, 69, 70, 71, 72] (ifF g8 undef _) (by simp only [go_sem, Int.reduceToNat, Nat.reduceLT, reduceIte, Nat.reduceEqDiff, Nat.reduceAdd, Nat.reduceMul, Nat.reduceBEq, reduceCtorEq]) Kg8
   refine qg (nF g7) (Qt.pickAnd rfl rfl rfl) ?_
   exact wj 73 [65, 66, 67, 68, 69, 70, 71, 72, 73] (ifF g7 _ undef) (by simp only [go_sem, Int.reduceToNat, Nat.reduceLT, reduceIte, Nat.reduceEqDiff, Nat.reduceAdd, Nat.reduceMul, Nat.reduceBEq, reduceCtorEq]; rfl) Kg7
  ·refine og (nT g7) ?_
   refine og (nT g7) ?_
   refine og (nT g7) ?_
   refine og rfl ?_
   refine nm ?_
   refine og rfl ?_
   refine og rfl ?_
   refine og rfl ?_
   refine og rfl ?_
   refine nm ?_
   refine og (nT g7) ?_
   exact wj 73 [65, 66, 67, 68, 69, 70, 71, 72, 73] (ifT g7 undef _) (by simp only [go_sem, Int.reduceToNat, Nat.reduceLT, reduceIte, Nat.reduceEqDiff, Nat.reduceAdd, Nat.reduceMul, Nat.reduceBEq, reduceCtorEq]) Kg7
 refine qq (Qt.pickOr rfl rfl rfl) ?_
 refine nl ?_
 refine AW.cond rfl (fun c9 => ?_) (fun c9 => ?_)
 ·have k9 := c9
  try simp only [cnd] at c9
  refine AW.seq (AW.region ?_)
  refine qq Qt.assign ?_
  refine nl ?_
  refine AW.ret (endQ_ret (.cons (.tmp 2) .nil) ?_)
  exfalso
  have hk2 := k9
  rcases hB.sp with ⟨q1, q2⟩ | ⟨q1, q2, q3, q4, q5⟩
  ·rw [q1, q2, hokx] at hk2; simp at hk2
  ·have e1 : ((bT S).2 == -1) = false := by simp; omega
   have e2 : (freeB S == 0) = false := by simp; omega
   rw [q4, hokx, e1, e2] at hk2; simp at hk2
 have k9 := c9
 try simp only [cnd] at c9
 refine jd (AW.seq ?_)
 refine AW.cut [.sl 0 (.h base []), .rt base .ro (tr code)] ?_ ?_
 ·refine AW.seq (AW.region ?_)
  refine qq Qt.move ?_
  refine nm ?_
  refine qq (Qt.binOp rfl rfl rfl) ?_
  refine nl ?_
  refine AW.cond rfl (fun c10 => ?_) (fun c10 => ?_)
  ·have k10 := c10
   try simp only [cnd] at c10
   obtain ⟨hq1, hq2, hq3, hq4, hq5, hq6, hq7, hq8⟩ := hB.sp.resolve_left (fun h => by omega)
   refine AW.seq (AW.region ?_)
   refine qq (Qt.loadG rfl rfl rfl ag26 sz26 (by decide)) ?_
   refine qq Qt.move ?_
   refine nm ?_
   refine sp (Stp.callR rfl (by decide) Try.call11 rfl rfl (BuddyGiveI_con ⟨(bT S).1⟩ _ hwx) (nodup_of rfl) rfl rfl) ?_
   refine nm ?_
   refine qq Qt.move ?_
   refine qq (Qt.extract rfl (of_decide_eq_true rfl)) ?_
   refine qq (Qt.extract rfl (of_decide_eq_true rfl)) ?_
   refine nm ?_
   refine sp (Stp.alloc rfl (by decide) (by decide)) ?_
   refine nm ?_
   refine ss ?_
   refine nm ?_
   refine qq Qt.assign ?_
   refine nl ?_
   refine AW.seq (AW.region ?_)
   refine qq (Qt.loadG rfl rfl rfl ag26 sz26 (by decide)) ?_
   refine qq Qt.move ?_
   refine nm ?_
   refine sp (Stp.callR rfl (by decide) Try.call11 rfl rfl (BuddyGiveI_con ⟨(bG (bT S).1 (bT S).2).1⟩ _ hwy) (nodup_of rfl) rfl rfl) ?_
   refine nm ?_
   refine qq Qt.move ?_
   refine qq (Qt.extract rfl (of_decide_eq_true rfl)) ?_
   refine qq (Qt.extract rfl (of_decide_eq_true rfl)) ?_
   refine nm ?_
   refine sp (Stp.alloc rfl (by decide) (by decide)) ?_
   refine nm ?_
   refine ss ?_
   refine nm ?_
   refine qq Qt.assign ?_
   refine nl ?_
   refine AW.seq (AW.region ?_)
   refine qq Qt.move ?_
   refine qq (Qt.notB rfl) ?_
   refine nm ?_
   refine qq Qt.move ?_
   apply AWL.cut 1
   ·intro Kg11
    refine AWL.splitF 91 rfl (fun g11 => ?_) (fun g11 => ?_)
    ·have eg11 := g11
     try simp only [cnd] at eg11
     refine qg (nF g11) Qt.move ?_
     exact wj 92 [92] (ifF g11 _ undef) (by simp only [go_sem, Int.reduceToNat, Nat.reduceLT, reduceIte, Nat.reduceEqDiff, Nat.reduceAdd, Nat.reduceMul, Nat.reduceBEq, reduceCtorEq]; rfl) Kg11
    ·refine og (nT g11) ?_
     exact wj 92 [92] (ifT g11 undef _) (by simp only [go_sem, Int.reduceToNat, Nat.reduceLT, reduceIte, Nat.reduceEqDiff, Nat.reduceAdd, Nat.reduceMul, Nat.reduceBEq, reduceCtorEq]) Kg11
   refine qq (Qt.pickOr rfl rfl rfl) ?_
   refine nm ?_
   refine qq Qt.move ?_
   apply AWL.cut 4
   ·intro Kg12
    refine AWL.splitF 94 rfl (fun g12 => ?_) (fun g12 => ?_)
    ·have eg12 := g12
     try simp only [cnd] at eg12
     refine qg (nF g12) (Qt.loadG rfl rfl rfl ag26 sz26 (by decide)) ?_
     refine AWL.step rfl (nF g12) (Stp.callV rfl (by decide) Try.call9 rfl rfl (BuddyFreeI_con ⟨(bG (bT S).1 (bT S).2).1⟩)) ?_
     refine nm ?_
     refine qg (nF g12) Qt.move ?_
     refine qg (nF g12) (Qt.binOp rfl rfl rfl) ?_
     exact wj 98 [95, 96, 97, 98] (ifF g12 _ undef) (by simp only [go_sem, Int.reduceToNat, Nat.reduceLT, reduceIte, Nat.reduceEqDiff, Nat.reduceAdd, Nat.reduceMul, Nat.reduceBEq, reduceCtorEq]; rfl) Kg12
    ·refine og (nT g12) ?_
     refine og (nT g12) ?_
     refine og (nT g12) ?_
     refine og (nT g12) ?_
     exact wj 98 [95, 96, 97, 98] (ifT g12 undef _) (by simp only [go_sem, Int.reduceToNat, Nat.reduceLT, reduceIte, Nat.reduceEqDiff, Nat.reduceAdd, Nat.reduceMul, Nat.reduceBEq, reduceCtorEq]) Kg12
   refine qq (Qt.pickOr rfl rfl rfl) ?_
   refine nm ?_
   refine qq Qt.move ?_
   apply AWL.cut 3
   ·intro Kg13
    refine AWL.splitF 100 rfl (fun g13 => ?_) (fun g13 => ?_)
    ·have eg13 := g13
     try simp only [cnd] at eg13
     refine qg (nF g13) (Qt.loadG rfl rfl rfl ag26 sz26 (by decide)) ?_
     refine AWL.step rfl (nF g13) (Stp.callV rfl (by decide) Try.call8 rfl rfl (BuddyOkS_con ⟨(bG (bT S).1 (bT S).2).1⟩)) ?_
     refine nm ?_
     refine qg (nF g13) (Qt.notB rfl) ?_
     exact wj 103 [101, 102, 103] (ifF g13 _ undef) (by simp only [go_sem, Int.reduceToNat, Nat.reduceLT, reduceIte, Nat.reduceEqDiff, Nat.reduceAdd, Nat.reduceMul, Nat.reduceBEq, reduceCtorEq]; rfl) Kg13
    ·refine og (nT g13) ?_
     refine og (nT g13) ?_
     refine og (nT g13) ?_
     exact wj 103 [101, 102, 103] (ifT g13 undef _) (by simp only [go_sem, Int.reduceToNat, Nat.reduceLT, reduceIte, Nat.reduceEqDiff, Nat.reduceAdd, Nat.reduceMul, Nat.reduceBEq, reduceCtorEq]) Kg13
   refine qq (Qt.pickOr rfl rfl rfl) ?_
   refine nl ?_
   refine AW.cond rfl (fun c14 => ?_) (fun c14 => ?_)
   ·have k14 := c14
    try simp only [cnd] at c14
    refine AW.seq (AW.region ?_)
    refine qq Qt.assign ?_
    refine nl ?_
    refine AW.ret (endQ_ret (.cons (.tmp 2) .nil) ?_)
    exfalso
    have hk2 := k14
    rw [hq5, hq6, hq7, hq8] at hk2
    simp at hk2
   have k14 := c14
   try simp only [cnd] at c14
   refine jd ?_
   exact Weak.sim ⟨rfl, Rf rfl, trivial⟩ rfl rfl
  have k10 := c10
  try simp only [cnd] at c10
  refine jd ?_
  exact Weak.sim ⟨rfl, Rf rfl, trivial⟩ rfl rfl
 ·refine AW.seq (AW.region ?_)
  refine sp (Stp.callR rfl (by decide) Try.call12 rfl rfl BuddyAllI_con (nodup_of rfl) rfl rfl) ?_
  refine nm ?_
  refine sp (Stp.alloc rfl (by decide) (by decide)) ?_
  refine nm ?_
  refine ss ?_
  refine nl ?_
  refine AW.seq (AW.region ?_)
  refine sp (Stp.buildSlice rfl (by decide) (by decide) rfl (by decide) rfl rfl rfl (nodup_of rfl)) ?_
  refine nm ?_
  refine qq Qt.assign ?_
  refine nl ?_
  refine AW.seq (AW.seq (AW.region ?_))
  refine qq Qt.assign ?_
  refine nl ?_
  refine AW.block ?_
  refine AW.loopW (fun i : KInv 16 => [.sl 13 (.v (iv i.k)), .sl 12 (.h 106 []), .rt 106 .row (tr (gotS i.k)), .sl 11 (.p 11 [] 1 0 0), .rt 11 .box (T.s 1 1 fun _ _ => .j), .al 11 0 (.h 105 []), .rt 105 .row (tr (hkS i.k)), .sl 0 (.h base []), .rt base .ro (tr code)]) (fun i => 16 - i.k) ⟨0, by omega⟩ (Weak.sim ⟨rfl, rfl, ⟨_, rfl, sim_nil⟩, rfl, ⟨_, rfl, sim_j11 rfl⟩, ⟨rfl, rfl⟩, Rf rfl, rfl, Rf rfl, trivial⟩ rfl rfl) ?_
  intro i
  have hle := i.le
  refine AW.seq (AW.seq (AW.region ?_))
  refine qq Qt.move ?_
  refine nm ?_
  refine qq (Qt.binOp rfl rfl rfl) ?_
  refine nl ?_
  refine AW.cond rfl (fun c15 => ?_) (fun c15 => ?_)
  ·have k15 := c15
   try simp only [cnd] at c15
   refine jd (AW.seq (AW.block (AW.seq (AW.region ?_))))
   refine qq (Qt.loadG rfl rfl rfl ag26 sz26 (by decide)) ?_
   refine sp (Stp.callR rfl (by decide) Try.call7 rfl rfl (BuddyTakeI_con ⟨hkS i.k⟩ (takes_wt (by omega))) (nodup_of rfl) rfl rfl) ?_
   refine nm ?_
   refine qq Qt.move ?_
   refine qq (Qt.extract rfl (of_decide_eq_true rfl)) ?_
   refine qq (Qt.extract rfl (of_decide_eq_true rfl)) ?_
   refine nm ?_
   refine sp (Stp.alloc rfl (by decide) (by decide)) ?_
   refine nm ?_
   refine ss ?_
   refine nm ?_
   refine qq Qt.assign ?_
   refine nl ?_
   refine AW.seq (AW.seq (AW.region ?_))
   refine qq Qt.assign ?_
   refine nl ?_
   refine AW.block ?_
   refine AW.loopW (fun j : KInv i.k => [.sl 16 (.v (iv j.k)), .sl 15 (.v (iv (bT (hkS i.k)).2)), .sl 14 (.p 14 [] 1 0 0), .rt 14 .box (T.s 1 1 fun _ _ => .j), .al 14 0 (.h 113 []), .rt 113 .row (tr (bT (hkS i.k)).1), .sl 13 (.v (iv i.k)), .sl 12 (.h 106 []), .rt 106 .row (tr (gotS i.k)), .sl 11 (.p 11 [] 1 0 0), .rt 11 .box (T.s 1 1 fun _ _ => .j), .al 11 0 (.h 105 []), .rt 105 .row (tr (hkS i.k)), .sl 0 (.h base []), .rt base .ro (tr code)]) (fun j => i.k - j.k) ⟨0, by omega⟩ (Weak.sim ⟨rfl, rfl, rfl, ⟨_, rfl, sim_j11 rfl⟩, ⟨rfl, rfl⟩, Rf rfl, rfl, rfl, Rf rfl, rfl, Rf rfl, ⟨rfl, rfl⟩, Rf rfl, rfl, Rf rfl, trivial⟩ rfl rfl) ?_
   intro j
   have hlej := j.le
   have hgl := got_len i.k
   have hrun := takes_run i.k (by omega)
   refine AW.seq (AW.seq (AW.region ?_))
   refine qq Qt.move ?_
   refine nm ?_
   refine qq Qt.move ?_
   refine qq (Qt.lenH rfl rfl rfl sl35) ?_
   refine qq (Qt.binOp rfl rfl rfl) ?_
   refine nl ?_
   refine AW.cond rfl (fun c16 => ?_) (fun c16 => ?_)
   ·have k16 := c16
    try simp only [cnd] at c16
    refine jd (AW.seq (AW.block (AW.seq (AW.region ?_))))
    refine qq Qt.move ?_
    refine nm ?_
    refine qq Qt.move ?_
    refine qq (Qt.indexAddr rfl rfl rfl rfl sl35 sz3 (by decide) (by first | omega | (rw [got_len]; omega) | decide)) ?_
    refine qq (Qt.load1 rfl rfl rfl ag3) ?_
    refine nm ?_
    refine qq Qt.move ?_
    refine qq (Qt.binOp rfl rfl rfl) ?_
    refine nl ?_
    refine AW.cond rfl (fun c17 => ?_) (fun c17 => ?_)
    ·have k17 := c17
     try simp only [cnd] at c17
     refine AW.seq (AW.region ?_)
     refine qq Qt.assign ?_
     refine nl ?_
     refine AW.ret (endQ_ret (.cons (.tmp 2) .nil) ?_)
     exfalso
     have hk2 := k17
     rw [hrun, got_get (by omega)] at hk2
     simp at hk2
     omega
    have k17 := c17
    try simp only [cnd] at c17
    refine jd (AW.region ?_)
    refine qq Qt.move ?_
    refine nm ?_
    refine qq (Qt.binOp rfl rfl (by first | exact pbAdd (by omega) | rfl)) ?_
    refine qq Qt.assign ?_
    refine nl ?_
    refine ⟨⟨j.k + 1, by omega⟩, Weak.sim ⟨st1, rfl, rfl, Rf rfl, ⟨rfl, rfl⟩, Rf rfl, rfl, rfl, Rf rfl, rfl, Rf rfl, ⟨rfl, rfl⟩, Rf rfl, rfl, Rf rfl, trivial⟩ rfl rfl, ?_⟩
    show i.k - (j.k + 1) < i.k - j.k
    omega
   have k16 := c16
   try simp only [cnd] at c16
   refine AW.exit ?_
   dsimp only [thenQ, blockQ, reduceIte]
   refine AW.seq (AW.region ?_)
   refine qq Qt.move ?_
   refine nm ?_
   refine qq Qt.move ?_
   refine sp (Stp.buildSlice rfl (by decide) (by decide) rfl (by decide) rfl rfl rfl (nodup_of rfl)) ?_
   refine nm ?_
   refine sp (by first | exact Stp.appendC rfl (by decide) (by decide) rfl rfl (by omega) | exact Stp.appendM rfl (by decide) (by decide) rfl rfl rfl (by omega)) ?_
   refine nm ?_
   refine AWL.rep 131 (tr (gotS (i.k + 1))) rfl (by rw [← got_succ, ← hrun]; exact (app_one (α := Int) (a := (bT (hkS i.k)).2) (fun c hc => match c, hc with | 0, _ => rfl | c + 1, hc => absurd hc (by simp only [En.n]; omega)))) ?_
   refine nm ?_
   refine qq Qt.assign ?_
   refine nl ?_
   refine AW.region ?_
   refine qq (Qt.loadG rfl rfl rfl ag26 sz26 (by decide)) ?_
   refine ss ?_
   refine nl ?_
   refine AW.region ?_
   refine qq Qt.move ?_
   refine nm ?_
   refine qq (Qt.binOp rfl rfl (by first | exact pbAdd (by omega) | rfl)) ?_
   refine qq Qt.assign ?_
   refine nl ?_
   refine ⟨⟨i.k + 1, by omega⟩, Weak.trans (L1 := [.sl 13 (.v (iv (i.k + 1 : Nat))), .sl 12 (.h 131 []), .rt 131 .row (tr (gotS (i.k + 1 : Nat))), .sl 11 (.p 11 [] 1 0 0), .rt 11 .box (T.s 1 1 fun _ _ => .j), .al 11 0 (.h 113 []), .rt 113 .row (tr (hkS (i.k + 1 : Nat))), .sl 0 (.h base []), .rt base .ro (tr code)]) (Weak.sim ⟨st1, rfl, Rf rfl, rfl, ⟨_, rfl, sim_j11 rfl⟩, ⟨rfl, rfl⟩, Rf rfl, rfl, Rf rfl, trivial⟩ rfl rfl) (Weak.trans (Weak.renR (a := 131) (b := 106) rfl (by decide) (by decide)) (Weak.renR (a := 113) (b := 105) rfl (by decide) (by decide))), ?_⟩
   show 16 - (i.k + 1) < 16 - i.k
   omega
  have k15 := c15
  try simp only [cnd] at c15
  refine AW.exit ?_
  dsimp only [thenQ, blockQ, reduceIte]
  refine AW.seq (AW.seq (AW.region ?_))
  refine qq Qt.assign ?_
  refine nl ?_
  refine AW.block ?_
  refine AW.weak (L' := [.sl 17 (.v (iv (0 : Nat))), .sl 12 (.h 106 []), .rt 106 .row (tr (gotS 16)), .sl 11 (.p 11 [] 1 0 0), .rt 11 .box (T.s 1 1 fun _ _ => .j), .al 11 0 (.h 105 []), .rt 105 .row (tr (gkS (at0 code % 16) (0 : Nat))), .sl 0 (.h base []), .rt base .ro (tr code)]) (Weak.sim ⟨rfl, rfl, ⟨_, rfl, (by rw [show i.k = 16 by omega]; exact T.sim_refl _)⟩, rfl, ⟨_, rfl, sim_j11 rfl⟩, ⟨rfl, rfl⟩, ⟨_, rfl, (by rw [show i.k = 16 by omega]; exact T.sim_refl _)⟩, rfl, Rf rfl, trivial⟩ rfl rfl) ?_
  refine AW.loop (fun i : KInv 16 => [.sl 17 (.v (iv i.k)), .sl 12 (.h 106 []), .rt 106 .row (tr (gotS 16)), .sl 11 (.p 11 [] 1 0 0), .rt 11 .box (T.s 1 1 fun _ _ => .j), .al 11 0 (.h 105 []), .rt 105 .row (tr (gkS (at0 code % 16) i.k)), .sl 0 (.h base []), .rt base .ro (tr code)]) (fun i => 16 - i.k) ⟨0, by omega⟩ ?_
  intro i
  have hle := i.le
  have hs16 : at0 code % 16 < 16 := by omega
  have hal := at0_lt code
  refine AW.seq (AW.seq (AW.region ?_))
  refine qq Qt.move ?_
  refine nm ?_
  refine qq (Qt.binOp rfl rfl rfl) ?_
  refine nl ?_
  refine AW.cond rfl (fun c18 => ?_) (fun c18 => ?_)
  ·have k18 := c18
   try simp only [cnd] at c18
   refine jd (AW.seq (AW.block (AW.seq (AW.region ?_))))
   refine qq Qt.move ?_
   refine qq (Qt.binOp rfl rfl (by first | exact pbMul (by omega) | rfl)) ?_
   refine nm ?_
   refine qq Qt.move ?_
   refine cv Try.call13 rfl rfl (at0_con code (by omega)) ?_
   refine nm ?_
   refine qq (Qt.binOp rfl rfl (by first | exact pbAdd (by omega) | rfl)) ?_
   refine qq (Qt.binOp rfl rfl (by first | exact pbRem4 _ | rfl | exact pbRemI (by omega))) ?_
   refine nm ?_
   refine AWL.weak (Weak.slot (d := 142) (v' := iv (((i.k * 5 + at0 code % 16) % 16) : Nat)) rfl (congrArg iv (fiveK _ _))) ?_
   have hkk : ((i.k * 5 + at0 code % 16) % 16) < 16 := Nat.mod_lt _ (by decide)
   have hg16 := got_len 16
   have hget : (gotS 16).getD (((i.k * 5 + at0 code % 16) % 16) : Nat) En.dflt = ((((i.k * 5 + at0 code % 16) % 16) : Nat) : Int) := got_get hkk
   refine nm ?_
   refine qq Qt.assign ?_
   refine nl ?_
   refine AW.seq ?_
   refine AW.draw [0, 1, 2, 3, 4, 6, 7, 8, 11] rfl (by decide +kernel) ?_
   refine tk 0 rfl (Qt.loadG rfl rfl rfl ag26 sz26 (by decide)) ?_
   refine tk 1 rfl Qt.move ?_
   refine na ?_
   refine tk 2 rfl Qt.move ?_
   refine tk 3 rfl (Qt.indexAddr rfl rfl rfl rfl sl35 sz3 (by decide) (by first | omega | (rw [got_len]; omega) | decide)) ?_
   refine tk 4 rfl (Qt.load1 rfl rfl rfl ag3) ?_
   refine na ?_
   apply AWA.cutS #[true, true, true, true, true, true, true, true, true, true, false, false] [6, 7, 8]
   ·intro K32_0
    refine AWA.anyL [5, 9] (by decide +kernel) rfl ⟨?_, ?_, trivial⟩
    ·refine AWA.arm 5 [] [4, 0, 3, 2, 1] rfl rfl rfl (by decide +kernel) (by decide +kernel) (by decide +kernel) (Stp.callR rfl (by decide) Try.call11 rfl rfl (BuddyGiveI_con ⟨gkS (at0 code % 16) i.k⟩ _ (gives_wt hs16 (by omega))) (nodup_of rfl) rfl rfl) ?_
     refine na ?_
     refine AWA.take 6 rfl rfl rfl (by decide +kernel) (.on rfl rfl Qt.move) ?_
     refine AWA.take 7 rfl rfl rfl (by decide +kernel) (.on rfl rfl (Qt.extract rfl (of_decide_eq_true rfl))) ?_
     refine AWA.take 8 rfl rfl rfl (by decide +kernel) (.on rfl rfl (Qt.extract rfl (of_decide_eq_true rfl))) ?_
     refine na ?_
     refine AWA.one 9 [6, 7, 8] [] (by decide +kernel) rfl rfl rfl (by decide +kernel) (by decide +kernel) (by decide +kernel) (Stp.alloc rfl (by decide) (by decide)) ?_
     refine na ?_
     refine AWA.againE rfl rfl (by decide +kernel) (.on rfl rfl Qt.move) rfl ?_
     refine AWA.againE rfl rfl (by decide +kernel) (.on rfl rfl (Qt.extract rfl (of_decide_eq_true rfl))) rfl ?_
     refine AWA.againE rfl rfl (by decide +kernel) (.on rfl rfl (Qt.extract rfl (of_decide_eq_true rfl))) rfl ?_
     refine na ?_
     exact AWA.use (by decide +kernel) (by decide +kernel) Weak.refl K32_0
    ·refine AWA.arm 9 [0, 1, 2, 3, 4] [] rfl rfl rfl (by decide +kernel) (by decide +kernel) (by decide +kernel) (Stp.alloc rfl (by decide) (by decide)) ?_
     refine na ?_
     refine AWA.againE rfl rfl (by decide +kernel) (.on rfl rfl (Qt.loadG rfl rfl rfl ag26 sz26 (by decide))) rfl ?_
     refine AWA.againE rfl rfl (by decide +kernel) (.on rfl rfl Qt.move) rfl ?_
     refine AWA.againE rfl rfl (by decide +kernel) (.on rfl rfl Qt.move) rfl ?_
     refine na ?_
     refine AWA.againE rfl rfl (by decide +kernel) (.on rfl rfl (Qt.indexAddr rfl rfl rfl rfl sl35 sz3 (by decide) (by first | omega | (rw [got_len]; omega) | decide))) rfl ?_
     refine AWA.againE rfl rfl (by decide +kernel) (.on rfl rfl (Qt.load1 rfl rfl rfl ag3)) rfl ?_
     refine na ?_
     refine AWA.one 5 [] [4, 0, 3, 2, 1] (by decide +kernel) rfl rfl rfl (by decide +kernel) (by decide +kernel) (by decide +kernel) (Stp.callR rfl (by decide) Try.call11 rfl rfl (BuddyGiveI_con ⟨gkS (at0 code % 16) i.k⟩ _ (gives_wt hs16 (by omega))) (nodup_of rfl) rfl rfl) ?_
     refine na ?_
     refine AWA.take 6 rfl rfl rfl (by decide +kernel) (.on rfl rfl Qt.move) ?_
     refine AWA.take 7 rfl rfl rfl (by decide +kernel) (.on rfl rfl (Qt.extract rfl (of_decide_eq_true rfl))) ?_
     refine AWA.take 8 rfl rfl rfl (by decide +kernel) (.on rfl rfl (Qt.extract rfl (of_decide_eq_true rfl))) ?_
     refine na ?_
     refine na ?_
     exact AWA.use (by decide +kernel) (by decide +kernel) (Weak.sim (by repeat (first | exact trivial | refine ⟨rfl, ?_⟩ | refine ⟨⟨_, rfl, T.sim_refl _⟩, ?_⟩ | refine ⟨⟨rfl, rfl⟩, ?_⟩)) rfl rfl) K32_0
   ·refine AWA.one 10 [8] [9, 7, 6, 5, 4, 3, 2, 1, 0] (by decide +kernel) rfl rfl rfl (by decide +kernel) (by decide +kernel) (by decide +kernel) (by first | exact Stp.storeA rfl rfl rfl rfl (by decide) rfl | exact Stp.store rfl rfl (by simp) rfl rfl rfl (by decide) rfl) ?_
    refine na ?_
    refine AWA.againE rfl rfl (by decide +kernel) (.on rfl rfl (Qt.extract rfl (of_decide_eq_true rfl))) rfl ?_
    refine na ?_
    refine AWA.take 11 rfl rfl rfl (by decide +kernel) (.on rfl rfl Qt.assign) ?_
    refine nz ?_
    refine AW.seq (AW.seq (AW.region ?_))
    refine qq Qt.move ?_
    refine qq (Qt.notB rfl) ?_
    refine qq Qt.move ?_
    refine nm ?_
    apply AWL.cut 3
    ·intro Kg19
     refine AWL.splitF 154 rfl (fun g19 => ?_) (fun g19 => ?_)
     ·have eg19 := g19
      try simp only [cnd] at eg19
      refine qg (nF g19) (Qt.loadG rfl rfl rfl ag26 sz26 (by decide)) ?_
      refine AWL.step rfl (nF g19) (Stp.callV rfl (by decide) Try.call8 rfl rfl (BuddyOkS_con ⟨_⟩)) ?_
      refine nm ?_
      refine qg (nF g19) (Qt.notB rfl) ?_
      exact wj 157 [155, 156, 157] (ifF g19 _ undef) (by simp only [go_sem, Int.reduceToNat, Nat.reduceLT, reduceIte, Nat.reduceEqDiff, Nat.reduceAdd, Nat.reduceMul, Nat.reduceBEq, reduceCtorEq]; rfl) Kg19
     ·refine og (nT g19) ?_
      refine og (nT g19) ?_
      refine og (nT g19) ?_
      exact wj 157 [155, 156, 157] (ifT g19 undef _) (by simp only [go_sem, Int.reduceToNat, Nat.reduceLT, reduceIte, Nat.reduceEqDiff, Nat.reduceAdd, Nat.reduceMul, Nat.reduceBEq, reduceCtorEq]) Kg19
    refine qq (Qt.pickOr rfl rfl rfl) ?_
    refine nl ?_
    refine AW.cond rfl (fun c20 => ?_) (fun c20 => ?_)
    ·have k20 := c20
     try simp only [cnd] at c20
     refine AW.seq (AW.region ?_)
     refine qq Qt.assign ?_
     refine nl ?_
     refine AW.ret (endQ_ret (.cons (.tmp 2) .nil) ?_)
     exfalso
     have hk2 := k20
     rw [hget, (gives_run _ hs16 _ (by omega)).1, (show okS (bG (gkS (at0 code % 16) i.k) ((((i.k * 5 + at0 code % 16) % 16) : Nat) : Int)).1 = true from gives_ok hs16 (k := i.k + 1) (by omega))] at hk2
     simp at hk2
    have k20 := c20
    try simp only [cnd] at c20
    refine jd (AW.region ?_)
    refine qq (Qt.loadG rfl rfl rfl ag26 sz26 (by decide)) ?_
    refine nm ?_
    refine ss ?_
    refine nl ?_
    refine AW.region ?_
    refine qq Qt.move ?_
    refine nm ?_
    refine qq (Qt.binOp rfl rfl (by first | exact pbAdd (by omega) | rfl)) ?_
    refine qq Qt.assign ?_
    refine nl ?_
    refine ⟨⟨i.k + 1, by omega⟩, Weak.trans (L1 := [.sl 17 (.v (iv (i.k + 1 : Nat))), .sl 12 (.h 106 []), .rt 106 .row (tr (gotS 16)), .sl 11 (.p 11 [] 1 0 0), .rt 11 .box (T.s 1 1 fun _ _ => .j), .al 11 0 (.h 149 []), .rt 149 .row (tr (gkS (at0 code % 16) (i.k + 1 : Nat))), .sl 0 (.h base []), .rt base .ro (tr code)]) (Weak.sim ⟨st1, rfl, Rf rfl, rfl, ⟨_, rfl, sim_j11 rfl⟩, ⟨rfl, rfl⟩, ⟨_, rfl, (by rw [hget]; exact T.sim_refl _)⟩, rfl, Rf rfl, trivial⟩ rfl rfl) (Weak.renR (a := 149) (b := 105) rfl (by decide) (by decide)), ?_⟩
    show 16 - (i.k + 1) < 16 - i.k
    omega
  have k18 := c18
  try simp only [cnd] at c18
  refine AW.rep 105 (tr ([[], [], [], [], [0]] : List (List Int))) rfl (by rw [show i.k = 16 by omega, gives_end _ hs16]; exact T.sim_refl _) ?_
  refine AW.exit ?_
  dsimp only [thenQ, blockQ, reduceIte]
  refine AW.seq (AW.region ?_)
  refine qq (fA fl26_0) ?_
  refine nm ?_
  refine qq (Qt.load1 rfl rfl rfl ag24) ?_
  refine qq (Qt.lenH rfl rfl rfl sl24) ?_
  refine qq (Qt.binOp rfl rfl rfl) ?_
  refine nm ?_
  refine qq Qt.move ?_
  apply AWL.cut 6
  ·intro Kg21
   refine AWL.split 164 rfl (fun g21 => ?_) (fun g21 => ?_)
   ·have eg21 := g21
    try simp only [cnd] at eg21
    refine qg g21 (fA fl26_0) ?_
    refine qg g21 (Qt.load1 rfl rfl rfl ag24) ?_
    refine nm ?_
    refine qg g21 (Qt.indexAddr rfl rfl rfl rfl sl24 sz35 (by decide) (by first | omega | (rw [got_len]; omega) | decide)) ?_
    refine qg g21 (Qt.load1 rfl rfl rfl ag35) ?_
    refine qg g21 (Qt.lenH rfl rfl rfl sl35) ?_
    refine nm ?_
    refine qg g21 (Qt.binOp rfl rfl rfl) ?_
    exact wj 170 [165, 166, 167, 168, 169, 170] (ifT g21 _ undef) (by simp only [go_sem, Int.reduceToNat, Nat.reduceLT, reduceIte, Nat.reduceEqDiff, Nat.reduceAdd, Nat.reduceMul, Nat.reduceBEq, reduceCtorEq]; rfl) Kg21
   ·refine og g21 ?_
    refine og g21 ?_
    refine og g21 ?_
    refine og g21 ?_
    refine nm ?_
    refine og g21 ?_
    refine og g21 ?_
    exact wj 170 [165, 166, 167, 168, 169, 170] (ifF g21 undef _) (by simp only [go_sem, Int.reduceToNat, Nat.reduceLT, reduceIte, Nat.reduceEqDiff, Nat.reduceAdd, Nat.reduceMul, Nat.reduceBEq, reduceCtorEq]) Kg21
  refine qq (Qt.pickAnd rfl rfl rfl) ?_
  refine qq Qt.move ?_
  refine nm ?_
  apply AWL.cut 3
  ·intro Kg22
   refine AWL.split 172 rfl (fun g22 => ?_) (fun g22 => ?_)
   ·have eg22 := g22
    try simp only [cnd] at eg22
    refine qg g22 (Qt.loadG rfl rfl rfl ag26 sz26 (by decide)) ?_
    refine AWL.step rfl g22 (Stp.callV rfl (by decide) Try.call9 rfl rfl (BuddyFreeI_con ⟨[[], [], [], [], [0]]⟩)) ?_
    refine nm ?_
    refine qg g22 (Qt.binOp rfl rfl rfl) ?_
    exact wj 175 [173, 174, 175] (ifT g22 _ undef) (by simp only [go_sem, Int.reduceToNat, Nat.reduceLT, reduceIte, Nat.reduceEqDiff, Nat.reduceAdd, Nat.reduceMul, Nat.reduceBEq, reduceCtorEq]; rfl) Kg22
   ·refine og g22 ?_
    refine og g22 ?_
    refine og g22 ?_
    exact wj 175 [173, 174, 175] (ifF g22 undef _) (by simp only [go_sem, Int.reduceToNat, Nat.reduceLT, reduceIte, Nat.reduceEqDiff, Nat.reduceAdd, Nat.reduceMul, Nat.reduceBEq, reduceCtorEq]) Kg22
  refine qq (Qt.pickAnd rfl rfl rfl) ?_
  refine qq Qt.assign ?_
  refine nl ?_
  refine AW.ret (endQ_ret (.cons (.tmp 2) .nil) ?_)
  simp only [retX, slotL, reduceIte, Nat.reduceEqDiff]
  rw [end_free]
  rfl
end Go.Proofs.Ytfbefcmeghpalaa.VM
