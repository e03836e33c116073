/- Contracts of functions of the program. No conditions beyond those that each states. -/
import Derived.Test.YtimmbmphfgnelaaGreatCZ2
set_option linter.all false
namespace Go.Proofs.YtimmbmphfgnelaaGreat.VM
open Go Go.RowKit Go.Proofs

def reg (x : Int) : Bool := decide (0 ≤ x) && decide (x ≤ 3)
def place (x : Int) : Bool := decide (0 ≤ x) && decide (x ≤ 40)
def insOk (i : DIns) : Bool :=
 if i.Op = 1 then reg i.A && (word i.B && decide (i.C = 0))
 else if i.Op = 2 ∨ i.Op = 3 then reg i.A && (reg i.B && reg i.C)
 else if i.Op = 4 ∨ i.Op = 5 then reg i.A && (reg i.B && decide (i.C = 0))
 else if i.Op = 6 then place i.A && (decide (i.B = 0) && decide (i.C = 0))
 else if i.Op = 7 then reg i.A && (place i.B && decide (i.C = 0))
 else if i.Op = 8 then (decide (1 ≤ i.A) && decide (i.A ≤ 20)) && (decide (i.B = 0) && decide (i.C = 0))
 else false
def progOk (l : List DIns) : Bool := decide (l.length ≤ 40) && l.all insOk
theorem regL (x : Int) : (decide (0 ≤ x) && decide (x < 4)) = reg x := by
 unfold reg
 congr 2
 apply propext; omega

set_option maxHeartbeats 8000000 in
set_option maxRecDepth 10000 in
theorem l3Reg_con (x : Int) : Con Tryz.prog 317 [.v (iv x)] [] (fun y _ => y = .v (.bool (reg x))) := by
 refine Con.of_body Tryz.func317 rfl (by simp) ?_
 rw [Tryz.ntmps317]
 refine AW.seq (AW.region ?_)
 refine qq Qt.assign ?_
 refine nl ?_
 refine AW.seq (AW.region ?_)
 refine qq Qt.move ?_
 refine qq (Qt.binOp rfl rfl rfl) ?_
 refine nm ?_
 refine qq Qt.move ?_
 apply AWL.cut 2
 ·intro Kg1
  refine AWL.split 5 rfl (fun g1 => ?_) (fun g1 => ?_)
  ·refine AWL.q rfl g1 rfl (by decide) Qt.move ?_
   refine AWL.q rfl g1 rfl (by decide) (Qt.binOp rfl rfl rfl) ?_
   refine nm ?_
   exact AWL.weak (Weak.join (d := 7) (ds := [6, 7]) rfl (ifT g1 _ undef) (by simp only [go_sem, Int.reduceToNat, Nat.reduceLT, reduceIte, Nat.reduceEqDiff, Nat.reduceAdd, Nat.reduceMul, Nat.reduceBEq, reduceCtorEq]; rfl)) Kg1
  ·refine AWL.out rfl g1 rfl (by decide) ?_
   refine AWL.out rfl g1 rfl (by decide) ?_
   exact AWL.weak (Weak.join (d := 7) (ds := [6, 7]) rfl (ifF g1 undef _) (by simp only [go_sem, Int.reduceToNat, Nat.reduceLT, reduceIte, Nat.reduceEqDiff, Nat.reduceAdd, Nat.reduceMul, Nat.reduceBEq, reduceCtorEq])) Kg1
 refine qq (Qt.pickAnd rfl rfl rfl) ?_
 refine qq Qt.assign ?_
 refine nl ?_
 refine AW.ret (endQ_ret (.cons (.tmp 2) .nil) ?_)
 rw [← regL]
 rfl
set_option maxHeartbeats 8000000 in
set_option maxRecDepth 10000 in
theorem isReg_con (x : Int) : Con Tryz.prog 281 [.v (iv x)] [] (fun y _ => y = .v (.bool (reg x))) := by
 refine Con.of_body Tryz.func281 rfl (by simp) ?_
 rw [Tryz.ntmps281]
 refine AW.seq (AW.region ?_)
 refine qq Qt.assign ?_
 refine nl ?_
 refine AW.seq (AW.region ?_)
 refine qq Qt.move ?_
 refine cv Tryz.call56 rfl rfl (in_con _ _ _) ?_
 refine nm ?_
 refine qq Qt.assign ?_
 refine nl ?_
 refine AW.ret (endQ_ret (.cons (.tmp 2) .nil) ?_)
 rfl
set_option maxHeartbeats 8000000 in
set_option maxRecDepth 10000 in
theorem InsOkS_con (i : DIns) : Con Tryz.prog 276 [.g [.v (iv i.Op), .v (iv i.A), .v (iv i.B), .v (iv i.C)]] [] (fun y _ => y = .v (.bool (insOk i))) := by
 refine Con.of_body Tryz.func276 rfl (by simp) ?_
 rw [Tryz.ntmps276]
 refine AW.seq (AW.region ?_)
 refine sp (Stp.boxB rfl (by decide) (by decide) rfl rfl rfl rfl) ?_
 refine nm ?_
 refine qq Qt.assign ?_
 refine nl ?_
 refine AW.seq (AW.region ?_)
 refine qq (fA fl224_0) ?_
 refine qq (Qt.load1 rfl rfl rfl ag3) ?_
 refine nm ?_
 refine qq (fA fl224_1) ?_
 refine qq (Qt.load1 rfl rfl rfl ag3) ?_
 refine qq (Qt.build rfl) ?_
 refine nm ?_
 refine sp (Stp.alloc rfl (by decide) (by decide)) ?_
 refine nm ?_
 refine ss ?_
 refine nl ?_
 refine AW.seq (AW.region ?_)
 refine qq Qt.assign ?_
 refine nl ?_
 refine AW.seq (AW.seq (AW.region ?_))
 refine qq (fA fl224_0) ?_
 refine nm ?_
 refine qq (Qt.load1 rfl rfl rfl ag3) ?_
 refine nl ?_
 refine AW.block (AW.seq (AW.region ?_))
 refine qq (Qt.binOp rfl rfl rfl) ?_
 refine qq Qt.assign ?_
 refine nl ?_
 refine AW.cond rfl (fun c1 => ?_) (fun c1 => ?_)
 ·have k1 := c1
  try simp only [cnd] at c1
  refine AW.seq (AW.region ?_)
  refine qq (fA fl224_2) ?_
  refine nm ?_
  refine qq (Qt.load1 rfl rfl rfl ag3) ?_
  refine qq (fA fl224_2) ?_
  refine ss ?_
  refine nl ?_
  refine AW.region ?_
  refine qq (fA fl224_1) ?_
  refine nm ?_
  refine qq (Qt.load1 rfl rfl rfl ag3) ?_
  refine cv Tryz.call317 rfl rfl (l3Reg_con _) ?_
  refine nm ?_
  refine qq Qt.move ?_
  apply AWL.cut 3
  ·intro Kg2
   refine AWL.split 20 rfl (fun g2 => ?_) (fun g2 => ?_)
   ·refine AWL.q rfl g2 rfl (by decide) (fA fl224_2) ?_
    refine AWL.q rfl g2 rfl (by decide) (Qt.load1 rfl rfl rfl ag3) ?_
    refine nm ?_
    refine AWL.step rfl g2 (Stp.callV rfl (by decide) Tryz.call43 rfl rfl (l1In_con _ _ _)) ?_
    refine nm ?_
    exact AWL.weak (Weak.join (d := 23) (ds := [21, 22, 23]) rfl (ifT g2 _ undef) (by simp only [go_sem, Int.reduceToNat, Nat.reduceLT, reduceIte, Nat.reduceEqDiff, Nat.reduceAdd, Nat.reduceMul, Nat.reduceBEq, reduceCtorEq]; rfl)) Kg2
   ·refine AWL.out rfl g2 rfl (by decide) ?_
    refine AWL.out rfl g2 rfl (by decide) ?_
    refine AWL.out rfl g2 rfl (by decide) ?_
    exact AWL.weak (Weak.join (d := 23) (ds := [21, 22, 23]) rfl (ifF g2 undef _) (by simp only [go_sem, Int.reduceToNat, Nat.reduceLT, reduceIte, Nat.reduceEqDiff, Nat.reduceAdd, Nat.reduceMul, Nat.reduceBEq, reduceCtorEq])) Kg2
  refine qq (Qt.pickAnd rfl rfl rfl) ?_
  refine qq Qt.assign ?_
  refine nl ?_
  refine AW.seq (AW.region ?_)
  refine qq Qt.move ?_
  refine nm ?_
  refine qq Qt.move ?_
  apply AWL.cut 3
  ·intro Kg3
   refine AWL.split 85 rfl (fun g3 => ?_) (fun g3 => ?_)
   ·refine AWL.q rfl g3 rfl (by decide) (Qt.loadG rfl rfl rfl ag224 sz224 (by decide)) ?_
    refine AWL.q rfl g3 rfl (by decide) (Qt.loadG rfl rfl rfl ag224 sz224 (by decide)) ?_
    refine nm ?_
    refine AWL.q rfl g3 rfl (by decide) (Qt.eqS (eq224 _ _ _ _ _ _ _ _) rfl rfl) ?_
    exact AWL.weak (Weak.join (d := 88) (ds := [86, 87, 88]) rfl (ifT g3 _ undef) (by simp only [go_sem, Int.reduceToNat, Nat.reduceLT, reduceIte, Nat.reduceEqDiff, Nat.reduceAdd, Nat.reduceMul, Nat.reduceBEq, reduceCtorEq]; rfl)) Kg3
   ·refine AWL.out rfl g3 rfl (by decide) ?_
    refine AWL.out rfl g3 rfl (by decide) ?_
    refine AWL.out rfl g3 rfl (by decide) ?_
    exact AWL.weak (Weak.join (d := 88) (ds := [86, 87, 88]) rfl (ifF g3 undef _) (by simp only [go_sem, Int.reduceToNat, Nat.reduceLT, reduceIte, Nat.reduceEqDiff, Nat.reduceAdd, Nat.reduceMul, Nat.reduceBEq, reduceCtorEq])) Kg3
  refine qq (Qt.pickAnd rfl rfl rfl) ?_
  refine qq Qt.assign ?_
  refine nl ?_
  refine AW.ret (endQ_ret (.cons (.tmp 2) .nil) ?_)
  simp only [retX, slotL, reduceIte, Nat.reduceEqDiff]
  congr 2
  rw [Bool.eq_iff_iff]
  simp [insOk, reg, place, word, *]
  try omega
 have k1 := c1
 try simp only [cnd] at c1
 refine AW.seq (AW.seq (AW.region ?_))
 refine qq (Qt.binOp rfl rfl rfl) ?_
 refine nm ?_
 refine qq Qt.assign ?_
 refine nl ?_
 refine AW.cond rfl (fun c4 => ?_) (fun c4 => ?_)
 ·have k4 := c4
  try simp only [cnd] at c4
  refine jd ?_
  refine AW.condT rfl k4 ?_
  refine AW.seq (AW.region ?_)
  refine qq (fA fl224_2) ?_
  refine qq (Qt.load1 rfl rfl rfl ag3) ?_
  refine nm ?_
  refine qq (fA fl224_2) ?_
  refine ss ?_
  refine nl ?_
  refine AW.seq (AW.region ?_)
  refine qq (fA fl224_3) ?_
  refine nm ?_
  refine qq (Qt.load1 rfl rfl rfl ag3) ?_
  refine qq (fA fl224_3) ?_
  refine ss ?_
  refine nl ?_
  refine AW.region ?_
  refine qq (fA fl224_1) ?_
  refine nm ?_
  refine qq (Qt.load1 rfl rfl rfl ag3) ?_
  refine cv Tryz.call317 rfl rfl (l3Reg_con _) ?_
  refine nm ?_
  refine qq Qt.move ?_
  apply AWL.cut 3
  ·intro Kg5
   refine AWL.split 37 rfl (fun g5 => ?_) (fun g5 => ?_)
   ·refine AWL.q rfl g5 rfl (by decide) (fA fl224_2) ?_
    refine AWL.q rfl g5 rfl (by decide) (Qt.load1 rfl rfl rfl ag3) ?_
    refine nm ?_
    refine AWL.step rfl g5 (Stp.callV rfl (by decide) Tryz.call317 rfl rfl (l3Reg_con _)) ?_
    refine nm ?_
    exact AWL.weak (Weak.join (d := 40) (ds := [38, 39, 40]) rfl (ifT g5 _ undef) (by simp only [go_sem, Int.reduceToNat, Nat.reduceLT, reduceIte, Nat.reduceEqDiff, Nat.reduceAdd, Nat.reduceMul, Nat.reduceBEq, reduceCtorEq]; rfl)) Kg5
   ·refine AWL.out rfl g5 rfl (by decide) ?_
    refine AWL.out rfl g5 rfl (by decide) ?_
    refine AWL.out rfl g5 rfl (by decide) ?_
    exact AWL.weak (Weak.join (d := 40) (ds := [38, 39, 40]) rfl (ifF g5 undef _) (by simp only [go_sem, Int.reduceToNat, Nat.reduceLT, reduceIte, Nat.reduceEqDiff, Nat.reduceAdd, Nat.reduceMul, Nat.reduceBEq, reduceCtorEq])) Kg5
  refine qq (Qt.pickAnd rfl rfl rfl) ?_
  refine qq Qt.move ?_
  apply AWL.cut 3
  ·intro Kg6
   refine AWL.split 42 rfl (fun g6 => ?_) (fun g6 => ?_)
   ·refine AWL.q rfl g6 rfl (by decide) (fA fl224_3) ?_
    refine nm ?_
    refine AWL.q rfl g6 rfl (by decide) (Qt.load1 rfl rfl rfl ag3) ?_
    refine AWL.step rfl g6 (Stp.callV rfl (by decide) Tryz.call317 rfl rfl (l3Reg_con _)) ?_
    refine nm ?_
    exact AWL.weak (Weak.join (d := 45) (ds := [43, 44, 45]) rfl (ifT g6 _ undef) (by simp only [go_sem, Int.reduceToNat, Nat.reduceLT, reduceIte, Nat.reduceEqDiff, Nat.reduceAdd, Nat.reduceMul, Nat.reduceBEq, reduceCtorEq]; rfl)) Kg6
   ·refine AWL.out rfl g6 rfl (by decide) ?_
    refine AWL.out rfl g6 rfl (by decide) ?_
    refine AWL.out rfl g6 rfl (by decide) ?_
    exact AWL.weak (Weak.join (d := 45) (ds := [43, 44, 45]) rfl (ifF g6 undef _) (by simp only [go_sem, Int.reduceToNat, Nat.reduceLT, reduceIte, Nat.reduceEqDiff, Nat.reduceAdd, Nat.reduceMul, Nat.reduceBEq, reduceCtorEq])) Kg6
  refine qq (Qt.pickAnd rfl rfl rfl) ?_
  refine qq Qt.assign ?_
  refine nl ?_
  refine AW.seq (AW.region ?_)
  refine qq Qt.move ?_
  refine nm ?_
  refine qq Qt.move ?_
  apply AWL.cut 3
  ·intro Kg7
   refine AWL.split 85 rfl (fun g7 => ?_) (fun g7 => ?_)
   ·refine AWL.q rfl g7 rfl (by decide) (Qt.loadG rfl rfl rfl ag224 sz224 (by decide)) ?_
    refine AWL.q rfl g7 rfl (by decide) (Qt.loadG rfl rfl rfl ag224 sz224 (by decide)) ?_
    refine nm ?_
    refine AWL.q rfl g7 rfl (by decide) (Qt.eqS (eq224 _ _ _ _ _ _ _ _) rfl rfl) ?_
    exact AWL.weak (Weak.join (d := 88) (ds := [86, 87, 88]) rfl (ifT g7 _ undef) (by simp only [go_sem, Int.reduceToNat, Nat.reduceLT, reduceIte, Nat.reduceEqDiff, Nat.reduceAdd, Nat.reduceMul, Nat.reduceBEq, reduceCtorEq]; rfl)) Kg7
   ·refine AWL.out rfl g7 rfl (by decide) ?_
    refine AWL.out rfl g7 rfl (by decide) ?_
    refine AWL.out rfl g7 rfl (by decide) ?_
    exact AWL.weak (Weak.join (d := 88) (ds := [86, 87, 88]) rfl (ifF g7 undef _) (by simp only [go_sem, Int.reduceToNat, Nat.reduceLT, reduceIte, Nat.reduceEqDiff, Nat.reduceAdd, Nat.reduceMul, Nat.reduceBEq, reduceCtorEq])) Kg7
  refine qq (Qt.pickAnd rfl rfl rfl) ?_
  refine qq Qt.assign ?_
  refine nl ?_
  refine AW.ret (endQ_ret (.cons (.tmp 2) .nil) ?_)
  simp only [retX, slotL, reduceIte, Nat.reduceEqDiff]
  congr 2
  rw [Bool.eq_iff_iff]
  simp [insOk, reg, place, word, *]
  try omega
 have k4 := c4
 try simp only [cnd] at c4
 refine AW.region ?_
 refine qq (Qt.binOp rfl rfl rfl) ?_
 refine nm ?_
 refine qq Qt.assign ?_
 refine nl ?_
 refine AW.cond rfl (fun c8 => ?_) (fun c8 => ?_)
 ·have k8 := c8
  try simp only [cnd] at c8
  refine AW.seq (AW.region ?_)
  refine qq (fA fl224_2) ?_
  refine qq (Qt.load1 rfl rfl rfl ag3) ?_
  refine nm ?_
  refine qq (fA fl224_2) ?_
  refine ss ?_
  refine nl ?_
  refine AW.seq (AW.region ?_)
  refine qq (fA fl224_3) ?_
  refine nm ?_
  refine qq (Qt.load1 rfl rfl rfl ag3) ?_
  refine qq (fA fl224_3) ?_
  refine ss ?_
  refine nl ?_
  refine AW.region ?_
  refine qq (fA fl224_1) ?_
  refine nm ?_
  refine qq (Qt.load1 rfl rfl rfl ag3) ?_
  refine cv Tryz.call317 rfl rfl (l3Reg_con _) ?_
  refine nm ?_
  refine qq Qt.move ?_
  apply AWL.cut 3
  ·intro Kg9
   refine AWL.split 37 rfl (fun g9 => ?_) (fun g9 => ?_)
   ·refine AWL.q rfl g9 rfl (by decide) (fA fl224_2) ?_
    refine AWL.q rfl g9 rfl (by decide) (Qt.load1 rfl rfl rfl ag3) ?_
    refine nm ?_
    refine AWL.step rfl g9 (Stp.callV rfl (by decide) Tryz.call317 rfl rfl (l3Reg_con _)) ?_
    refine nm ?_
    exact AWL.weak (Weak.join (d := 40) (ds := [38, 39, 40]) rfl (ifT g9 _ undef) (by simp only [go_sem, Int.reduceToNat, Nat.reduceLT, reduceIte, Nat.reduceEqDiff, Nat.reduceAdd, Nat.reduceMul, Nat.reduceBEq, reduceCtorEq]; rfl)) Kg9
   ·refine AWL.out rfl g9 rfl (by decide) ?_
    refine AWL.out rfl g9 rfl (by decide) ?_
    refine AWL.out rfl g9 rfl (by decide) ?_
    exact AWL.weak (Weak.join (d := 40) (ds := [38, 39, 40]) rfl (ifF g9 undef _) (by simp only [go_sem, Int.reduceToNat, Nat.reduceLT, reduceIte, Nat.reduceEqDiff, Nat.reduceAdd, Nat.reduceMul, Nat.reduceBEq, reduceCtorEq])) Kg9
  refine qq (Qt.pickAnd rfl rfl rfl) ?_
  refine qq Qt.move ?_
  apply AWL.cut 3
  ·intro Kg10
   refine AWL.split 42 rfl (fun g10 => ?_) (fun g10 => ?_)
   ·refine AWL.q rfl g10 rfl (by decide) (fA fl224_3) ?_
    refine nm ?_
    refine AWL.q rfl g10 rfl (by decide) (Qt.load1 rfl rfl rfl ag3) ?_
    refine AWL.step rfl g10 (Stp.callV rfl (by decide) Tryz.call317 rfl rfl (l3Reg_con _)) ?_
    refine nm ?_
    exact AWL.weak (Weak.join (d := 45) (ds := [43, 44, 45]) rfl (ifT g10 _ undef) (by simp only [go_sem, Int.reduceToNat, Nat.reduceLT, reduceIte, Nat.reduceEqDiff, Nat.reduceAdd, Nat.reduceMul, Nat.reduceBEq, reduceCtorEq]; rfl)) Kg10
   ·refine AWL.out rfl g10 rfl (by decide) ?_
    refine AWL.out rfl g10 rfl (by decide) ?_
    refine AWL.out rfl g10 rfl (by decide) ?_
    exact AWL.weak (Weak.join (d := 45) (ds := [43, 44, 45]) rfl (ifF g10 undef _) (by simp only [go_sem, Int.reduceToNat, Nat.reduceLT, reduceIte, Nat.reduceEqDiff, Nat.reduceAdd, Nat.reduceMul, Nat.reduceBEq, reduceCtorEq])) Kg10
  refine qq (Qt.pickAnd rfl rfl rfl) ?_
  refine qq Qt.assign ?_
  refine nl ?_
  refine AW.seq (AW.region ?_)
  refine qq Qt.move ?_
  refine nm ?_
  refine qq Qt.move ?_
  apply AWL.cut 3
  ·intro Kg11
   refine AWL.split 85 rfl (fun g11 => ?_) (fun g11 => ?_)
   ·refine AWL.q rfl g11 rfl (by decide) (Qt.loadG rfl rfl rfl ag224 sz224 (by decide)) ?_
    refine AWL.q rfl g11 rfl (by decide) (Qt.loadG rfl rfl rfl ag224 sz224 (by decide)) ?_
    refine nm ?_
    refine AWL.q rfl g11 rfl (by decide) (Qt.eqS (eq224 _ _ _ _ _ _ _ _) rfl rfl) ?_
    exact AWL.weak (Weak.join (d := 88) (ds := [86, 87, 88]) rfl (ifT g11 _ undef) (by simp only [go_sem, Int.reduceToNat, Nat.reduceLT, reduceIte, Nat.reduceEqDiff, Nat.reduceAdd, Nat.reduceMul, Nat.reduceBEq, reduceCtorEq]; rfl)) Kg11
   ·refine AWL.out rfl g11 rfl (by decide) ?_
    refine AWL.out rfl g11 rfl (by decide) ?_
    refine AWL.out rfl g11 rfl (by decide) ?_
    exact AWL.weak (Weak.join (d := 88) (ds := [86, 87, 88]) rfl (ifF g11 undef _) (by simp only [go_sem, Int.reduceToNat, Nat.reduceLT, reduceIte, Nat.reduceEqDiff, Nat.reduceAdd, Nat.reduceMul, Nat.reduceBEq, reduceCtorEq])) Kg11
  refine qq (Qt.pickAnd rfl rfl rfl) ?_
  refine qq Qt.assign ?_
  refine nl ?_
  refine AW.ret (endQ_ret (.cons (.tmp 2) .nil) ?_)
  simp only [retX, slotL, reduceIte, Nat.reduceEqDiff]
  congr 2
  rw [Bool.eq_iff_iff]
  simp [insOk, reg, place, word, *]
  try omega
 have k8 := c8
 try simp only [cnd] at c8
 refine AW.seq (AW.seq (AW.region ?_))
 refine qq (Qt.binOp rfl rfl rfl) ?_
 refine nm ?_
 refine qq Qt.assign ?_
 refine nl ?_
 refine AW.cond rfl (fun c12 => ?_) (fun c12 => ?_)
 ·have k12 := c12
  try simp only [cnd] at c12
  refine jd ?_
  refine AW.condT rfl k12 ?_
  refine AW.seq (AW.region ?_)
  refine qq (fA fl224_2) ?_
  refine qq (Qt.load1 rfl rfl rfl ag3) ?_
  refine nm ?_
  refine qq (fA fl224_2) ?_
  refine ss ?_
  refine nl ?_
  refine AW.region ?_
  refine qq (fA fl224_1) ?_
  refine nm ?_
  refine qq (Qt.load1 rfl rfl rfl ag3) ?_
  refine cv Tryz.call317 rfl rfl (l3Reg_con _) ?_
  refine nm ?_
  refine qq Qt.move ?_
  apply AWL.cut 3
  ·intro Kg13
   refine AWL.split 56 rfl (fun g13 => ?_) (fun g13 => ?_)
   ·refine AWL.q rfl g13 rfl (by decide) (fA fl224_2) ?_
    refine AWL.q rfl g13 rfl (by decide) (Qt.load1 rfl rfl rfl ag3) ?_
    refine nm ?_
    refine AWL.step rfl g13 (Stp.callV rfl (by decide) Tryz.call317 rfl rfl (l3Reg_con _)) ?_
    refine nm ?_
    exact AWL.weak (Weak.join (d := 59) (ds := [57, 58, 59]) rfl (ifT g13 _ undef) (by simp only [go_sem, Int.reduceToNat, Nat.reduceLT, reduceIte, Nat.reduceEqDiff, Nat.reduceAdd, Nat.reduceMul, Nat.reduceBEq, reduceCtorEq]; rfl)) Kg13
   ·refine AWL.out rfl g13 rfl (by decide) ?_
    refine AWL.out rfl g13 rfl (by decide) ?_
    refine AWL.out rfl g13 rfl (by decide) ?_
    exact AWL.weak (Weak.join (d := 59) (ds := [57, 58, 59]) rfl (ifF g13 undef _) (by simp only [go_sem, Int.reduceToNat, Nat.reduceLT, reduceIte, Nat.reduceEqDiff, Nat.reduceAdd, Nat.reduceMul, Nat.reduceBEq, reduceCtorEq])) Kg13
  refine qq (Qt.pickAnd rfl rfl rfl) ?_
  refine qq Qt.assign ?_
  refine nl ?_
  refine AW.seq (AW.region ?_)
  refine qq Qt.move ?_
  refine nm ?_
  refine qq Qt.move ?_
  apply AWL.cut 3
  ·intro Kg14
   refine AWL.split 85 rfl (fun g14 => ?_) (fun g14 => ?_)
   ·refine AWL.q rfl g14 rfl (by decide) (Qt.loadG rfl rfl rfl ag224 sz224 (by decide)) ?_
    refine AWL.q rfl g14 rfl (by decide) (Qt.loadG rfl rfl rfl ag224 sz224 (by decide)) ?_
    refine nm ?_
    refine AWL.q rfl g14 rfl (by decide) (Qt.eqS (eq224 _ _ _ _ _ _ _ _) rfl rfl) ?_
    exact AWL.weak (Weak.join (d := 88) (ds := [86, 87, 88]) rfl (ifT g14 _ undef) (by simp only [go_sem, Int.reduceToNat, Nat.reduceLT, reduceIte, Nat.reduceEqDiff, Nat.reduceAdd, Nat.reduceMul, Nat.reduceBEq, reduceCtorEq]; rfl)) Kg14
   ·refine AWL.out rfl g14 rfl (by decide) ?_
    refine AWL.out rfl g14 rfl (by decide) ?_
    refine AWL.out rfl g14 rfl (by decide) ?_
    exact AWL.weak (Weak.join (d := 88) (ds := [86, 87, 88]) rfl (ifF g14 undef _) (by simp only [go_sem, Int.reduceToNat, Nat.reduceLT, reduceIte, Nat.reduceEqDiff, Nat.reduceAdd, Nat.reduceMul, Nat.reduceBEq, reduceCtorEq])) Kg14
  refine qq (Qt.pickAnd rfl rfl rfl) ?_
  refine qq Qt.assign ?_
  refine nl ?_
  refine AW.ret (endQ_ret (.cons (.tmp 2) .nil) ?_)
  simp only [retX, slotL, reduceIte, Nat.reduceEqDiff]
  congr 2
  rw [Bool.eq_iff_iff]
  simp [insOk, reg, place, word, *]
  try omega
 have k12 := c12
 try simp only [cnd] at c12
 refine AW.region ?_
 refine qq (Qt.binOp rfl rfl rfl) ?_
 refine nm ?_
 refine qq Qt.assign ?_
 refine nl ?_
 refine AW.cond rfl (fun c15 => ?_) (fun c15 => ?_)
 ·have k15 := c15
  try simp only [cnd] at c15
  refine AW.seq (AW.region ?_)
  refine qq (fA fl224_2) ?_
  refine qq (Qt.load1 rfl rfl rfl ag3) ?_
  refine nm ?_
  refine qq (fA fl224_2) ?_
  refine ss ?_
  refine nl ?_
  refine AW.region ?_
  refine qq (fA fl224_1) ?_
  refine nm ?_
  refine qq (Qt.load1 rfl rfl rfl ag3) ?_
  refine cv Tryz.call317 rfl rfl (l3Reg_con _) ?_
  refine nm ?_
  refine qq Qt.move ?_
  apply AWL.cut 3
  ·intro Kg16
   refine AWL.split 56 rfl (fun g16 => ?_) (fun g16 => ?_)
   ·refine AWL.q rfl g16 rfl (by decide) (fA fl224_2) ?_
    refine AWL.q rfl g16 rfl (by decide) (Qt.load1 rfl rfl rfl ag3) ?_
    refine nm ?_
    refine AWL.step rfl g16 (Stp.callV rfl (by decide) Tryz.call317 rfl rfl (l3Reg_con _)) ?_
    refine nm ?_
    exact AWL.weak (Weak.join (d := 59) (ds := [57, 58, 59]) rfl (ifT g16 _ undef) (by simp only [go_sem, Int.reduceToNat, Nat.reduceLT, reduceIte, Nat.reduceEqDiff, Nat.reduceAdd, Nat.reduceMul, Nat.reduceBEq, reduceCtorEq]; rfl)) Kg16
   ·refine AWL.out rfl g16 rfl (by decide) ?_
    refine AWL.out rfl g16 rfl (by decide) ?_
    refine AWL.out rfl g16 rfl (by decide) ?_
    exact AWL.weak (Weak.join (d := 59) (ds := [57, 58, 59]) rfl (ifF g16 undef _) (by simp only [go_sem, Int.reduceToNat, Nat.reduceLT, reduceIte, Nat.reduceEqDiff, Nat.reduceAdd, Nat.reduceMul, Nat.reduceBEq, reduceCtorEq])) Kg16
  refine qq (Qt.pickAnd rfl rfl rfl) ?_
  refine qq Qt.assign ?_
  refine nl ?_
  refine AW.seq (AW.region ?_)
  refine qq Qt.move ?_
  refine nm ?_
  refine qq Qt.move ?_
  apply AWL.cut 3
  ·intro Kg17
   refine AWL.split 85 rfl (fun g17 => ?_) (fun g17 => ?_)
   ·refine AWL.q rfl g17 rfl (by decide) (Qt.loadG rfl rfl rfl ag224 sz224 (by decide)) ?_
    refine AWL.q rfl g17 rfl (by decide) (Qt.loadG rfl rfl rfl ag224 sz224 (by decide)) ?_
    refine nm ?_
    refine AWL.q rfl g17 rfl (by decide) (Qt.eqS (eq224 _ _ _ _ _ _ _ _) rfl rfl) ?_
    exact AWL.weak (Weak.join (d := 88) (ds := [86, 87, 88]) rfl (ifT g17 _ undef) (by simp only [go_sem, Int.reduceToNat, Nat.reduceLT, reduceIte, Nat.reduceEqDiff, Nat.reduceAdd, Nat.reduceMul, Nat.reduceBEq, reduceCtorEq]; rfl)) Kg17
   ·refine AWL.out rfl g17 rfl (by decide) ?_
    refine AWL.out rfl g17 rfl (by decide) ?_
    refine AWL.out rfl g17 rfl (by decide) ?_
    exact AWL.weak (Weak.join (d := 88) (ds := [86, 87, 88]) rfl (ifF g17 undef _) (by simp only [go_sem, Int.reduceToNat, Nat.reduceLT, reduceIte, Nat.reduceEqDiff, Nat.reduceAdd, Nat.reduceMul, Nat.reduceBEq, reduceCtorEq])) Kg17
  refine qq (Qt.pickAnd rfl rfl rfl) ?_
  refine qq Qt.assign ?_
  refine nl ?_
  refine AW.ret (endQ_ret (.cons (.tmp 2) .nil) ?_)
  simp only [retX, slotL, reduceIte, Nat.reduceEqDiff]
  congr 2
  rw [Bool.eq_iff_iff]
  simp [insOk, reg, place, word, *]
  try omega
 have k15 := c15
 try simp only [cnd] at c15
 refine AW.seq (AW.region ?_)
 refine qq (Qt.binOp rfl rfl rfl) ?_
 refine nm ?_
 refine qq Qt.assign ?_
 refine nl ?_
 refine AW.cond rfl (fun c18 => ?_) (fun c18 => ?_)
 ·have k18 := c18
  try simp only [cnd] at c18
  refine AW.region ?_
  refine qq (fA fl224_1) ?_
  refine qq (Qt.load1 rfl rfl rfl ag3) ?_
  refine nm ?_
  refine cv Tryz.call43 rfl rfl (l1In_con _ _ _) ?_
  refine nm ?_
  refine qq Qt.assign ?_
  refine nl ?_
  refine AW.seq (AW.region ?_)
  refine qq Qt.move ?_
  refine qq Qt.move ?_
  refine nm ?_
  apply AWL.cut 3
  ·intro Kg19
   refine AWL.split 85 rfl (fun g19 => ?_) (fun g19 => ?_)
   ·refine AWL.q rfl g19 rfl (by decide) (Qt.loadG rfl rfl rfl ag224 sz224 (by decide)) ?_
    refine AWL.q rfl g19 rfl (by decide) (Qt.loadG rfl rfl rfl ag224 sz224 (by decide)) ?_
    refine AWL.q rfl g19 rfl (by decide) (Qt.eqS (eq224 _ _ _ _ _ _ _ _) rfl rfl) ?_
    refine nm ?_
    exact AWL.weak (Weak.join (d := 88) (ds := [86, 87, 88]) rfl (ifT g19 _ undef) (by simp only [go_sem, Int.reduceToNat, Nat.reduceLT, reduceIte, Nat.reduceEqDiff, Nat.reduceAdd, Nat.reduceMul, Nat.reduceBEq, reduceCtorEq]; rfl)) Kg19
   ·refine AWL.out rfl g19 rfl (by decide) ?_
    refine AWL.out rfl g19 rfl (by decide) ?_
    refine AWL.out rfl g19 rfl (by decide) ?_
    exact AWL.weak (Weak.join (d := 88) (ds := [86, 87, 88]) rfl (ifF g19 undef _) (by simp only [go_sem, Int.reduceToNat, Nat.reduceLT, reduceIte, Nat.reduceEqDiff, Nat.reduceAdd, Nat.reduceMul, Nat.reduceBEq, reduceCtorEq])) Kg19
  refine qq (Qt.pickAnd rfl rfl rfl) ?_
  refine qq Qt.assign ?_
  refine nl ?_
  refine AW.ret (endQ_ret (.cons (.tmp 2) .nil) ?_)
  simp only [retX, slotL, reduceIte, Nat.reduceEqDiff]
  congr 2
  rw [Bool.eq_iff_iff]
  simp [insOk, reg, place, word, *]
  try omega
 have k18 := c18
 try simp only [cnd] at c18
 refine AW.seq (AW.region ?_)
 refine qq (Qt.binOp rfl rfl rfl) ?_
 refine nm ?_
 refine qq Qt.assign ?_
 refine nl ?_
 refine AW.cond rfl (fun c20 => ?_) (fun c20 => ?_)
 ·have k20 := c20
  try simp only [cnd] at c20
  refine AW.seq (AW.region ?_)
  refine qq (fA fl224_2) ?_
  refine qq (Qt.load1 rfl rfl rfl ag3) ?_
  refine nm ?_
  refine qq (fA fl224_2) ?_
  refine ss ?_
  refine nl ?_
  refine AW.region ?_
  refine qq (fA fl224_1) ?_
  refine nm ?_
  refine qq (Qt.load1 rfl rfl rfl ag3) ?_
  refine cv Tryz.call317 rfl rfl (l3Reg_con _) ?_
  refine nm ?_
  refine qq Qt.move ?_
  apply AWL.cut 3
  ·intro Kg21
   refine AWL.split 74 rfl (fun g21 => ?_) (fun g21 => ?_)
   ·refine AWL.q rfl g21 rfl (by decide) (fA fl224_2) ?_
    refine AWL.q rfl g21 rfl (by decide) (Qt.load1 rfl rfl rfl ag3) ?_
    refine nm ?_
    refine AWL.step rfl g21 (Stp.callV rfl (by decide) Tryz.call43 rfl rfl (l1In_con _ _ _)) ?_
    refine nm ?_
    exact AWL.weak (Weak.join (d := 77) (ds := [75, 76, 77]) rfl (ifT g21 _ undef) (by simp only [go_sem, Int.reduceToNat, Nat.reduceLT, reduceIte, Nat.reduceEqDiff, Nat.reduceAdd, Nat.reduceMul, Nat.reduceBEq, reduceCtorEq]; rfl)) Kg21
   ·refine AWL.out rfl g21 rfl (by decide) ?_
    refine AWL.out rfl g21 rfl (by decide) ?_
    refine AWL.out rfl g21 rfl (by decide) ?_
    exact AWL.weak (Weak.join (d := 77) (ds := [75, 76, 77]) rfl (ifF g21 undef _) (by simp only [go_sem, Int.reduceToNat, Nat.reduceLT, reduceIte, Nat.reduceEqDiff, Nat.reduceAdd, Nat.reduceMul, Nat.reduceBEq, reduceCtorEq])) Kg21
  refine qq (Qt.pickAnd rfl rfl rfl) ?_
  refine qq Qt.assign ?_
  refine nl ?_
  refine AW.seq (AW.region ?_)
  refine qq Qt.move ?_
  refine nm ?_
  refine qq Qt.move ?_
  apply AWL.cut 3
  ·intro Kg22
   refine AWL.split 85 rfl (fun g22 => ?_) (fun g22 => ?_)
   ·refine AWL.q rfl g22 rfl (by decide) (Qt.loadG rfl rfl rfl ag224 sz224 (by decide)) ?_
    refine AWL.q rfl g22 rfl (by decide) (Qt.loadG rfl rfl rfl ag224 sz224 (by decide)) ?_
    refine nm ?_
    refine AWL.q rfl g22 rfl (by decide) (Qt.eqS (eq224 _ _ _ _ _ _ _ _) rfl rfl) ?_
    exact AWL.weak (Weak.join (d := 88) (ds := [86, 87, 88]) rfl (ifT g22 _ undef) (by simp only [go_sem, Int.reduceToNat, Nat.reduceLT, reduceIte, Nat.reduceEqDiff, Nat.reduceAdd, Nat.reduceMul, Nat.reduceBEq, reduceCtorEq]; rfl)) Kg22
   ·refine AWL.out rfl g22 rfl (by decide) ?_
    refine AWL.out rfl g22 rfl (by decide) ?_
    refine AWL.out rfl g22 rfl (by decide) ?_
    exact AWL.weak (Weak.join (d := 88) (ds := [86, 87, 88]) rfl (ifF g22 undef _) (by simp only [go_sem, Int.reduceToNat, Nat.reduceLT, reduceIte, Nat.reduceEqDiff, Nat.reduceAdd, Nat.reduceMul, Nat.reduceBEq, reduceCtorEq])) Kg22
  refine qq (Qt.pickAnd rfl rfl rfl) ?_
  refine qq Qt.assign ?_
  refine nl ?_
  refine AW.ret (endQ_ret (.cons (.tmp 2) .nil) ?_)
  simp only [retX, slotL, reduceIte, Nat.reduceEqDiff]
  congr 2
  rw [Bool.eq_iff_iff]
  simp [insOk, reg, place, word, *]
  try omega
 have k20 := c20
 try simp only [cnd] at c20
 refine AW.seq (AW.region ?_)
 refine qq (Qt.binOp rfl rfl rfl) ?_
 refine nm ?_
 refine qq Qt.assign ?_
 refine nl ?_
 refine AW.cond rfl (fun c23 => ?_) (fun c23 => ?_)
 ·have k23 := c23
  try simp only [cnd] at c23
  refine AW.region ?_
  refine qq (fA fl224_1) ?_
  refine qq (Qt.load1 rfl rfl rfl ag3) ?_
  refine nm ?_
  refine cv Tryz.call43 rfl rfl (l1In_con _ _ _) ?_
  refine nm ?_
  refine qq Qt.assign ?_
  refine nl ?_
  refine AW.seq (AW.region ?_)
  refine qq Qt.move ?_
  refine qq Qt.move ?_
  refine nm ?_
  apply AWL.cut 3
  ·intro Kg24
   refine AWL.split 85 rfl (fun g24 => ?_) (fun g24 => ?_)
   ·refine AWL.q rfl g24 rfl (by decide) (Qt.loadG rfl rfl rfl ag224 sz224 (by decide)) ?_
    refine AWL.q rfl g24 rfl (by decide) (Qt.loadG rfl rfl rfl ag224 sz224 (by decide)) ?_
    refine AWL.q rfl g24 rfl (by decide) (Qt.eqS (eq224 _ _ _ _ _ _ _ _) rfl rfl) ?_
    refine nm ?_
    exact AWL.weak (Weak.join (d := 88) (ds := [86, 87, 88]) rfl (ifT g24 _ undef) (by simp only [go_sem, Int.reduceToNat, Nat.reduceLT, reduceIte, Nat.reduceEqDiff, Nat.reduceAdd, Nat.reduceMul, Nat.reduceBEq, reduceCtorEq]; rfl)) Kg24
   ·refine AWL.out rfl g24 rfl (by decide) ?_
    refine AWL.out rfl g24 rfl (by decide) ?_
    refine AWL.out rfl g24 rfl (by decide) ?_
    exact AWL.weak (Weak.join (d := 88) (ds := [86, 87, 88]) rfl (ifF g24 undef _) (by simp only [go_sem, Int.reduceToNat, Nat.reduceLT, reduceIte, Nat.reduceEqDiff, Nat.reduceAdd, Nat.reduceMul, Nat.reduceBEq, reduceCtorEq])) Kg24
  refine qq (Qt.pickAnd rfl rfl rfl) ?_
  refine qq Qt.assign ?_
  refine nl ?_
  refine AW.ret (endQ_ret (.cons (.tmp 2) .nil) ?_)
  simp only [retX, slotL, reduceIte, Nat.reduceEqDiff]
  congr 2
  rw [Bool.eq_iff_iff]
  simp [insOk, reg, place, word, *]
  try omega
 have k23 := c23
 try simp only [cnd] at c23
 refine jd (AW.seq (AW.region ?_))
 refine qq Qt.move ?_
 refine nm ?_
 refine qq Qt.move ?_
 apply AWL.cut 3
 ·intro Kg25
  refine AWL.split 85 rfl (fun g25 => ?_) (fun g25 => ?_)
  ·refine AWL.q rfl g25 rfl (by decide) (Qt.loadG rfl rfl rfl ag224 sz224 (by decide)) ?_
   refine AWL.q rfl g25 rfl (by decide) (Qt.loadG rfl rfl rfl ag224 sz224 (by decide)) ?_
   refine nm ?_
   refine AWL.q rfl g25 rfl (by decide) (Qt.eqS (eq224 _ _ _ _ _ _ _ _) rfl rfl) ?_
   exact AWL.weak (Weak.join (d := 88) (ds := [86, 87, 88]) rfl (ifT g25 _ undef) (by simp only [go_sem, Int.reduceToNat, Nat.reduceLT, reduceIte, Nat.reduceEqDiff, Nat.reduceAdd, Nat.reduceMul, Nat.reduceBEq, reduceCtorEq]; rfl)) Kg25
  ·refine AWL.out rfl g25 rfl (by decide) ?_
   refine AWL.out rfl g25 rfl (by decide) ?_
   refine AWL.out rfl g25 rfl (by decide) ?_
   exact AWL.weak (Weak.join (d := 88) (ds := [86, 87, 88]) rfl (ifF g25 undef _) (by simp only [go_sem, Int.reduceToNat, Nat.reduceLT, reduceIte, Nat.reduceEqDiff, Nat.reduceAdd, Nat.reduceMul, Nat.reduceBEq, reduceCtorEq])) Kg25
 refine qq (Qt.pickAnd rfl rfl rfl) ?_
 refine qq Qt.assign ?_
 refine nl ?_
 refine AW.ret (endQ_ret (.cons (.tmp 2) .nil) ?_)
 simp only [retX, slotL, reduceIte, Nat.reduceEqDiff]
 congr 2
 rw [Bool.eq_iff_iff]
 simp [insOk, reg, place, word, *]
 try omega
set_option maxHeartbeats 8000000 in
set_option maxRecDepth 10000 in
theorem InsOkI_con (i : DIns) : Con Tryz.prog 181 [.g [.v (iv i.Op), .v (iv i.A), .v (iv i.B), .v (iv i.C)]] [] (fun y _ => y = .v (.bool (insOk i))) := by
 refine Con.of_body Tryz.func181 rfl (by simp) ?_
 rw [Tryz.ntmps181]
 refine AW.seq (AW.region ?_)
 refine sp (Stp.boxB rfl (by decide) (by decide) rfl rfl rfl rfl) ?_
 refine nm ?_
 refine qq Qt.assign ?_
 refine nl ?_
 refine AW.seq (AW.seq (AW.region ?_))
 refine qq (fA fl224_0) ?_
 refine qq (Qt.load1 rfl rfl rfl ag3) ?_
 refine nl ?_
 refine AW.block (AW.seq (AW.region ?_))
 refine qq (Qt.binOp rfl rfl rfl) ?_
 refine nm ?_
 refine qq Qt.assign ?_
 refine nl ?_
 refine AW.cond rfl (fun c1 => ?_) (fun c1 => ?_)
 ·have k1 := c1
  try simp only [cnd] at c1
  refine AW.seq (AW.region ?_)
  refine qq (fA fl224_1) ?_
  refine qq (Qt.load1 rfl rfl rfl ag3) ?_
  refine nm ?_
  refine cv Tryz.call281 rfl rfl (isReg_con _) ?_
  refine nm ?_
  refine qq Qt.move ?_
  apply AWL.cut 3
  ·intro Kg2
   refine AWL.split 10 rfl (fun g2 => ?_) (fun g2 => ?_)
   ·refine AWL.q rfl g2 rfl (by decide) (fA fl224_2) ?_
    refine AWL.q rfl g2 rfl (by decide) (Qt.load1 rfl rfl rfl ag3) ?_
    refine nm ?_
    refine AWL.step rfl g2 (Stp.callV rfl (by decide) Tryz.call177 rfl rfl (isWord_con _)) ?_
    refine nm ?_
    exact AWL.weak (Weak.join (d := 13) (ds := [11, 12, 13]) rfl (ifT g2 _ undef) (by simp only [go_sem, Int.reduceToNat, Nat.reduceLT, reduceIte, Nat.reduceEqDiff, Nat.reduceAdd, Nat.reduceMul, Nat.reduceBEq, reduceCtorEq]; rfl)) Kg2
   ·refine AWL.out rfl g2 rfl (by decide) ?_
    refine AWL.out rfl g2 rfl (by decide) ?_
    refine AWL.out rfl g2 rfl (by decide) ?_
    exact AWL.weak (Weak.join (d := 13) (ds := [11, 12, 13]) rfl (ifF g2 undef _) (by simp only [go_sem, Int.reduceToNat, Nat.reduceLT, reduceIte, Nat.reduceEqDiff, Nat.reduceAdd, Nat.reduceMul, Nat.reduceBEq, reduceCtorEq])) Kg2
  refine qq (Qt.pickAnd rfl rfl rfl) ?_
  refine qq Qt.move ?_
  apply AWL.cut 3
  ·intro Kg3
   refine AWL.split 15 rfl (fun g3 => ?_) (fun g3 => ?_)
   ·refine AWL.q rfl g3 rfl (by decide) (fA fl224_3) ?_
    refine nm ?_
    refine AWL.q rfl g3 rfl (by decide) (Qt.load1 rfl rfl rfl ag3) ?_
    refine AWL.q rfl g3 rfl (by decide) (Qt.binOp rfl rfl rfl) ?_
    exact AWL.weak (Weak.join (d := 18) (ds := [16, 17, 18]) rfl (ifT g3 _ undef) (by simp only [go_sem, Int.reduceToNat, Nat.reduceLT, reduceIte, Nat.reduceEqDiff, Nat.reduceAdd, Nat.reduceMul, Nat.reduceBEq, reduceCtorEq]; rfl)) Kg3
   ·refine AWL.out rfl g3 rfl (by decide) ?_
    refine AWL.out rfl g3 rfl (by decide) ?_
    refine AWL.out rfl g3 rfl (by decide) ?_
    exact AWL.weak (Weak.join (d := 18) (ds := [16, 17, 18]) rfl (ifF g3 undef _) (by simp only [go_sem, Int.reduceToNat, Nat.reduceLT, reduceIte, Nat.reduceEqDiff, Nat.reduceAdd, Nat.reduceMul, Nat.reduceBEq, reduceCtorEq])) Kg3
  refine qq (Qt.pickAnd rfl rfl rfl) ?_
  refine nm ?_
  refine qq Qt.assign ?_
  refine nl ?_
  refine AW.ret (endQ_ret (.cons (.tmp 2) .nil) ?_)
  simp only [retX, slotL, reduceIte, Nat.reduceEqDiff]
  congr 2
  rw [Bool.eq_iff_iff]
  simp [insOk, reg, place, word, *]
  try omega
 have k1 := c1
 try simp only [cnd] at c1
 refine AW.seq (AW.seq (AW.region ?_))
 refine qq (Qt.binOp rfl rfl rfl) ?_
 refine qq Qt.assign ?_
 refine nl ?_
 refine AW.cond rfl (fun c4 => ?_) (fun c4 => ?_)
 ·have k4 := c4
  try simp only [cnd] at c4
  refine jd ?_
  refine AW.condT rfl k4 ?_
  refine AW.seq (AW.region ?_)
  refine qq (fA fl224_1) ?_
  refine nm ?_
  refine qq (Qt.load1 rfl rfl rfl ag3) ?_
  refine cv Tryz.call281 rfl rfl (isReg_con _) ?_
  refine nm ?_
  refine qq Qt.move ?_
  apply AWL.cut 3
  ·intro Kg5
   refine AWL.split 26 rfl (fun g5 => ?_) (fun g5 => ?_)
   ·refine AWL.q rfl g5 rfl (by decide) (fA fl224_2) ?_
    refine AWL.q rfl g5 rfl (by decide) (Qt.load1 rfl rfl rfl ag3) ?_
    refine nm ?_
    refine AWL.step rfl g5 (Stp.callV rfl (by decide) Tryz.call281 rfl rfl (isReg_con _)) ?_
    refine nm ?_
    exact AWL.weak (Weak.join (d := 29) (ds := [27, 28, 29]) rfl (ifT g5 _ undef) (by simp only [go_sem, Int.reduceToNat, Nat.reduceLT, reduceIte, Nat.reduceEqDiff, Nat.reduceAdd, Nat.reduceMul, Nat.reduceBEq, reduceCtorEq]; rfl)) Kg5
   ·refine AWL.out rfl g5 rfl (by decide) ?_
    refine AWL.out rfl g5 rfl (by decide) ?_
    refine AWL.out rfl g5 rfl (by decide) ?_
    exact AWL.weak (Weak.join (d := 29) (ds := [27, 28, 29]) rfl (ifF g5 undef _) (by simp only [go_sem, Int.reduceToNat, Nat.reduceLT, reduceIte, Nat.reduceEqDiff, Nat.reduceAdd, Nat.reduceMul, Nat.reduceBEq, reduceCtorEq])) Kg5
  refine qq (Qt.pickAnd rfl rfl rfl) ?_
  refine qq Qt.move ?_
  apply AWL.cut 3
  ·intro Kg6
   refine AWL.split 31 rfl (fun g6 => ?_) (fun g6 => ?_)
   ·refine AWL.q rfl g6 rfl (by decide) (fA fl224_3) ?_
    refine nm ?_
    refine AWL.q rfl g6 rfl (by decide) (Qt.load1 rfl rfl rfl ag3) ?_
    refine AWL.step rfl g6 (Stp.callV rfl (by decide) Tryz.call281 rfl rfl (isReg_con _)) ?_
    refine nm ?_
    exact AWL.weak (Weak.join (d := 34) (ds := [32, 33, 34]) rfl (ifT g6 _ undef) (by simp only [go_sem, Int.reduceToNat, Nat.reduceLT, reduceIte, Nat.reduceEqDiff, Nat.reduceAdd, Nat.reduceMul, Nat.reduceBEq, reduceCtorEq]; rfl)) Kg6
   ·refine AWL.out rfl g6 rfl (by decide) ?_
    refine AWL.out rfl g6 rfl (by decide) ?_
    refine AWL.out rfl g6 rfl (by decide) ?_
    exact AWL.weak (Weak.join (d := 34) (ds := [32, 33, 34]) rfl (ifF g6 undef _) (by simp only [go_sem, Int.reduceToNat, Nat.reduceLT, reduceIte, Nat.reduceEqDiff, Nat.reduceAdd, Nat.reduceMul, Nat.reduceBEq, reduceCtorEq])) Kg6
  refine qq (Qt.pickAnd rfl rfl rfl) ?_
  refine qq Qt.assign ?_
  refine nl ?_
  refine AW.ret (endQ_ret (.cons (.tmp 2) .nil) ?_)
  simp only [retX, slotL, reduceIte, Nat.reduceEqDiff]
  congr 2
  rw [Bool.eq_iff_iff]
  simp [insOk, reg, place, word, *]
  try omega
 have k4 := c4
 try simp only [cnd] at c4
 refine AW.region ?_
 refine qq (Qt.binOp rfl rfl rfl) ?_
 refine nm ?_
 refine qq Qt.assign ?_
 refine nl ?_
 refine AW.cond rfl (fun c7 => ?_) (fun c7 => ?_)
 ·have k7 := c7
  try simp only [cnd] at c7
  refine AW.seq (AW.region ?_)
  refine qq (fA fl224_1) ?_
  refine qq (Qt.load1 rfl rfl rfl ag3) ?_
  refine nm ?_
  refine cv Tryz.call281 rfl rfl (isReg_con _) ?_
  refine nm ?_
  refine qq Qt.move ?_
  apply AWL.cut 3
  ·intro Kg8
   refine AWL.split 26 rfl (fun g8 => ?_) (fun g8 => ?_)
   ·refine AWL.q rfl g8 rfl (by decide) (fA fl224_2) ?_
    refine AWL.q rfl g8 rfl (by decide) (Qt.load1 rfl rfl rfl ag3) ?_
    refine nm ?_
    refine AWL.step rfl g8 (Stp.callV rfl (by decide) Tryz.call281 rfl rfl (isReg_con _)) ?_
    refine nm ?_
    exact AWL.weak (Weak.join (d := 29) (ds := [27, 28, 29]) rfl (ifT g8 _ undef) (by simp only [go_sem, Int.reduceToNat, Nat.reduceLT, reduceIte, Nat.reduceEqDiff, Nat.reduceAdd, Nat.reduceMul, Nat.reduceBEq, reduceCtorEq]; rfl)) Kg8
   ·refine AWL.out rfl g8 rfl (by decide) ?_
    refine AWL.out rfl g8 rfl (by decide) ?_
    refine AWL.out rfl g8 rfl (by decide) ?_
    exact AWL.weak (Weak.join (d := 29) (ds := [27, 28, 29]) rfl (ifF g8 undef _) (by simp only [go_sem, Int.reduceToNat, Nat.reduceLT, reduceIte, Nat.reduceEqDiff, Nat.reduceAdd, Nat.reduceMul, Nat.reduceBEq, reduceCtorEq])) Kg8
  refine qq (Qt.pickAnd rfl rfl rfl) ?_
  refine qq Qt.move ?_
  apply AWL.cut 3
  ·intro Kg9
   refine AWL.split 31 rfl (fun g9 => ?_) (fun g9 => ?_)
   ·refine AWL.q rfl g9 rfl (by decide) (fA fl224_3) ?_
    refine nm ?_
    refine AWL.q rfl g9 rfl (by decide) (Qt.load1 rfl rfl rfl ag3) ?_
    refine AWL.step rfl g9 (Stp.callV rfl (by decide) Tryz.call281 rfl rfl (isReg_con _)) ?_
    refine nm ?_
    exact AWL.weak (Weak.join (d := 34) (ds := [32, 33, 34]) rfl (ifT g9 _ undef) (by simp only [go_sem, Int.reduceToNat, Nat.reduceLT, reduceIte, Nat.reduceEqDiff, Nat.reduceAdd, Nat.reduceMul, Nat.reduceBEq, reduceCtorEq]; rfl)) Kg9
   ·refine AWL.out rfl g9 rfl (by decide) ?_
    refine AWL.out rfl g9 rfl (by decide) ?_
    refine AWL.out rfl g9 rfl (by decide) ?_
    exact AWL.weak (Weak.join (d := 34) (ds := [32, 33, 34]) rfl (ifF g9 undef _) (by simp only [go_sem, Int.reduceToNat, Nat.reduceLT, reduceIte, Nat.reduceEqDiff, Nat.reduceAdd, Nat.reduceMul, Nat.reduceBEq, reduceCtorEq])) Kg9
  refine qq (Qt.pickAnd rfl rfl rfl) ?_
  refine qq Qt.assign ?_
  refine nl ?_
  refine AW.ret (endQ_ret (.cons (.tmp 2) .nil) ?_)
  simp only [retX, slotL, reduceIte, Nat.reduceEqDiff]
  congr 2
  rw [Bool.eq_iff_iff]
  simp [insOk, reg, place, word, *]
  try omega
 have k7 := c7
 try simp only [cnd] at c7
 refine AW.seq (AW.seq (AW.region ?_))
 refine qq (Qt.binOp rfl rfl rfl) ?_
 refine nm ?_
 refine qq Qt.assign ?_
 refine nl ?_
 refine AW.cond rfl (fun c10 => ?_) (fun c10 => ?_)
 ·have k10 := c10
  try simp only [cnd] at c10
  refine jd ?_
  refine AW.condT rfl k10 ?_
  refine AW.seq (AW.region ?_)
  refine qq (fA fl224_1) ?_
  refine qq (Qt.load1 rfl rfl rfl ag3) ?_
  refine nm ?_
  refine cv Tryz.call281 rfl rfl (isReg_con _) ?_
  refine nm ?_
  refine qq Qt.move ?_
  apply AWL.cut 3
  ·intro Kg11
   refine AWL.split 42 rfl (fun g11 => ?_) (fun g11 => ?_)
   ·refine AWL.q rfl g11 rfl (by decide) (fA fl224_2) ?_
    refine AWL.q rfl g11 rfl (by decide) (Qt.load1 rfl rfl rfl ag3) ?_
    refine nm ?_
    refine AWL.step rfl g11 (Stp.callV rfl (by decide) Tryz.call281 rfl rfl (isReg_con _)) ?_
    refine nm ?_
    exact AWL.weak (Weak.join (d := 45) (ds := [43, 44, 45]) rfl (ifT g11 _ undef) (by simp only [go_sem, Int.reduceToNat, Nat.reduceLT, reduceIte, Nat.reduceEqDiff, Nat.reduceAdd, Nat.reduceMul, Nat.reduceBEq, reduceCtorEq]; rfl)) Kg11
   ·refine AWL.out rfl g11 rfl (by decide) ?_
    refine AWL.out rfl g11 rfl (by decide) ?_
    refine AWL.out rfl g11 rfl (by decide) ?_
    exact AWL.weak (Weak.join (d := 45) (ds := [43, 44, 45]) rfl (ifF g11 undef _) (by simp only [go_sem, Int.reduceToNat, Nat.reduceLT, reduceIte, Nat.reduceEqDiff, Nat.reduceAdd, Nat.reduceMul, Nat.reduceBEq, reduceCtorEq])) Kg11
  refine qq (Qt.pickAnd rfl rfl rfl) ?_
  refine qq Qt.move ?_
  apply AWL.cut 3
  ·intro Kg12
   refine AWL.split 47 rfl (fun g12 => ?_) (fun g12 => ?_)
   ·refine AWL.q rfl g12 rfl (by decide) (fA fl224_3) ?_
    refine nm ?_
    refine AWL.q rfl g12 rfl (by decide) (Qt.load1 rfl rfl rfl ag3) ?_
    refine AWL.q rfl g12 rfl (by decide) (Qt.binOp rfl rfl rfl) ?_
    exact AWL.weak (Weak.join (d := 50) (ds := [48, 49, 50]) rfl (ifT g12 _ undef) (by simp only [go_sem, Int.reduceToNat, Nat.reduceLT, reduceIte, Nat.reduceEqDiff, Nat.reduceAdd, Nat.reduceMul, Nat.reduceBEq, reduceCtorEq]; rfl)) Kg12
   ·refine AWL.out rfl g12 rfl (by decide) ?_
    refine AWL.out rfl g12 rfl (by decide) ?_
    refine AWL.out rfl g12 rfl (by decide) ?_
    exact AWL.weak (Weak.join (d := 50) (ds := [48, 49, 50]) rfl (ifF g12 undef _) (by simp only [go_sem, Int.reduceToNat, Nat.reduceLT, reduceIte, Nat.reduceEqDiff, Nat.reduceAdd, Nat.reduceMul, Nat.reduceBEq, reduceCtorEq])) Kg12
  refine qq (Qt.pickAnd rfl rfl rfl) ?_
  refine nm ?_
  refine qq Qt.assign ?_
  refine nl ?_
  refine AW.ret (endQ_ret (.cons (.tmp 2) .nil) ?_)
  simp only [retX, slotL, reduceIte, Nat.reduceEqDiff]
  congr 2
  rw [Bool.eq_iff_iff]
  simp [insOk, reg, place, word, *]
  try omega
 have k10 := c10
 try simp only [cnd] at c10
 refine AW.region ?_
 refine qq (Qt.binOp rfl rfl rfl) ?_
 refine qq Qt.assign ?_
 refine nl ?_
 refine AW.cond rfl (fun c13 => ?_) (fun c13 => ?_)
 ·have k13 := c13
  try simp only [cnd] at c13
  refine AW.seq (AW.region ?_)
  refine qq (fA fl224_1) ?_
  refine nm ?_
  refine qq (Qt.load1 rfl rfl rfl ag3) ?_
  refine cv Tryz.call281 rfl rfl (isReg_con _) ?_
  refine nm ?_
  refine qq Qt.move ?_
  apply AWL.cut 3
  ·intro Kg14
   refine AWL.split 42 rfl (fun g14 => ?_) (fun g14 => ?_)
   ·refine AWL.q rfl g14 rfl (by decide) (fA fl224_2) ?_
    refine AWL.q rfl g14 rfl (by decide) (Qt.load1 rfl rfl rfl ag3) ?_
    refine nm ?_
    refine AWL.step rfl g14 (Stp.callV rfl (by decide) Tryz.call281 rfl rfl (isReg_con _)) ?_
    refine nm ?_
    exact AWL.weak (Weak.join (d := 45) (ds := [43, 44, 45]) rfl (ifT g14 _ undef) (by simp only [go_sem, Int.reduceToNat, Nat.reduceLT, reduceIte, Nat.reduceEqDiff, Nat.reduceAdd, Nat.reduceMul, Nat.reduceBEq, reduceCtorEq]; rfl)) Kg14
   ·refine AWL.out rfl g14 rfl (by decide) ?_
    refine AWL.out rfl g14 rfl (by decide) ?_
    refine AWL.out rfl g14 rfl (by decide) ?_
    exact AWL.weak (Weak.join (d := 45) (ds := [43, 44, 45]) rfl (ifF g14 undef _) (by simp only [go_sem, Int.reduceToNat, Nat.reduceLT, reduceIte, Nat.reduceEqDiff, Nat.reduceAdd, Nat.reduceMul, Nat.reduceBEq, reduceCtorEq])) Kg14
  refine qq (Qt.pickAnd rfl rfl rfl) ?_
  refine qq Qt.move ?_
  apply AWL.cut 3
  ·intro Kg15
   refine AWL.split 47 rfl (fun g15 => ?_) (fun g15 => ?_)
   ·refine AWL.q rfl g15 rfl (by decide) (fA fl224_3) ?_
    refine nm ?_
    refine AWL.q rfl g15 rfl (by decide) (Qt.load1 rfl rfl rfl ag3) ?_
    refine AWL.q rfl g15 rfl (by decide) (Qt.binOp rfl rfl rfl) ?_
    exact AWL.weak (Weak.join (d := 50) (ds := [48, 49, 50]) rfl (ifT g15 _ undef) (by simp only [go_sem, Int.reduceToNat, Nat.reduceLT, reduceIte, Nat.reduceEqDiff, Nat.reduceAdd, Nat.reduceMul, Nat.reduceBEq, reduceCtorEq]; rfl)) Kg15
   ·refine AWL.out rfl g15 rfl (by decide) ?_
    refine AWL.out rfl g15 rfl (by decide) ?_
    refine AWL.out rfl g15 rfl (by decide) ?_
    exact AWL.weak (Weak.join (d := 50) (ds := [48, 49, 50]) rfl (ifF g15 undef _) (by simp only [go_sem, Int.reduceToNat, Nat.reduceLT, reduceIte, Nat.reduceEqDiff, Nat.reduceAdd, Nat.reduceMul, Nat.reduceBEq, reduceCtorEq])) Kg15
  refine qq (Qt.pickAnd rfl rfl rfl) ?_
  refine nm ?_
  refine qq Qt.assign ?_
  refine nl ?_
  refine AW.ret (endQ_ret (.cons (.tmp 2) .nil) ?_)
  simp only [retX, slotL, reduceIte, Nat.reduceEqDiff]
  congr 2
  rw [Bool.eq_iff_iff]
  simp [insOk, reg, place, word, *]
  try omega
 have k13 := c13
 try simp only [cnd] at c13
 refine AW.seq (AW.region ?_)
 refine qq (Qt.binOp rfl rfl rfl) ?_
 refine qq Qt.assign ?_
 refine nl ?_
 refine AW.cond rfl (fun c16 => ?_) (fun c16 => ?_)
 ·have k16 := c16
  try simp only [cnd] at c16
  refine AW.seq (AW.region ?_)
  refine qq (fA fl224_1) ?_
  refine nm ?_
  refine qq (Qt.load1 rfl rfl rfl ag3) ?_
  refine cv Tryz.call282 rfl rfl (isPlace_con _) ?_
  refine nm ?_
  refine qq Qt.move ?_
  apply AWL.cut 3
  ·intro Kg17
   refine AWL.split 57 rfl (fun g17 => ?_) (fun g17 => ?_)
   ·refine AWL.q rfl g17 rfl (by decide) (fA fl224_2) ?_
    refine AWL.q rfl g17 rfl (by decide) (Qt.load1 rfl rfl rfl ag3) ?_
    refine nm ?_
    refine AWL.q rfl g17 rfl (by decide) (Qt.binOp rfl rfl rfl) ?_
    exact AWL.weak (Weak.join (d := 60) (ds := [58, 59, 60]) rfl (ifT g17 _ undef) (by simp only [go_sem, Int.reduceToNat, Nat.reduceLT, reduceIte, Nat.reduceEqDiff, Nat.reduceAdd, Nat.reduceMul, Nat.reduceBEq, reduceCtorEq]; rfl)) Kg17
   ·refine AWL.out rfl g17 rfl (by decide) ?_
    refine AWL.out rfl g17 rfl (by decide) ?_
    refine AWL.out rfl g17 rfl (by decide) ?_
    exact AWL.weak (Weak.join (d := 60) (ds := [58, 59, 60]) rfl (ifF g17 undef _) (by simp only [go_sem, Int.reduceToNat, Nat.reduceLT, reduceIte, Nat.reduceEqDiff, Nat.reduceAdd, Nat.reduceMul, Nat.reduceBEq, reduceCtorEq])) Kg17
  refine qq (Qt.pickAnd rfl rfl rfl) ?_
  refine qq Qt.move ?_
  refine nm ?_
  apply AWL.cut 3
  ·intro Kg18
   refine AWL.split 62 rfl (fun g18 => ?_) (fun g18 => ?_)
   ·refine AWL.q rfl g18 rfl (by decide) (fA fl224_3) ?_
    refine AWL.q rfl g18 rfl (by decide) (Qt.load1 rfl rfl rfl ag3) ?_
    refine AWL.q rfl g18 rfl (by decide) (Qt.binOp rfl rfl rfl) ?_
    refine nm ?_
    exact AWL.weak (Weak.join (d := 65) (ds := [63, 64, 65]) rfl (ifT g18 _ undef) (by simp only [go_sem, Int.reduceToNat, Nat.reduceLT, reduceIte, Nat.reduceEqDiff, Nat.reduceAdd, Nat.reduceMul, Nat.reduceBEq, reduceCtorEq]; rfl)) Kg18
   ·refine AWL.out rfl g18 rfl (by decide) ?_
    refine AWL.out rfl g18 rfl (by decide) ?_
    refine AWL.out rfl g18 rfl (by decide) ?_
    exact AWL.weak (Weak.join (d := 65) (ds := [63, 64, 65]) rfl (ifF g18 undef _) (by simp only [go_sem, Int.reduceToNat, Nat.reduceLT, reduceIte, Nat.reduceEqDiff, Nat.reduceAdd, Nat.reduceMul, Nat.reduceBEq, reduceCtorEq])) Kg18
  refine qq (Qt.pickAnd rfl rfl rfl) ?_
  refine qq Qt.assign ?_
  refine nl ?_
  refine AW.ret (endQ_ret (.cons (.tmp 2) .nil) ?_)
  simp only [retX, slotL, reduceIte, Nat.reduceEqDiff]
  congr 2
  rw [Bool.eq_iff_iff]
  simp [insOk, reg, place, word, *]
  try omega
 have k16 := c16
 try simp only [cnd] at c16
 refine AW.seq (AW.region ?_)
 refine qq (Qt.binOp rfl rfl rfl) ?_
 refine nm ?_
 refine qq Qt.assign ?_
 refine nl ?_
 refine AW.cond rfl (fun c19 => ?_) (fun c19 => ?_)
 ·have k19 := c19
  try simp only [cnd] at c19
  refine AW.seq (AW.region ?_)
  refine qq (fA fl224_1) ?_
  refine qq (Qt.load1 rfl rfl rfl ag3) ?_
  refine nm ?_
  refine cv Tryz.call281 rfl rfl (isReg_con _) ?_
  refine nm ?_
  refine qq Qt.move ?_
  apply AWL.cut 3
  ·intro Kg20
   refine AWL.split 72 rfl (fun g20 => ?_) (fun g20 => ?_)
   ·refine AWL.q rfl g20 rfl (by decide) (fA fl224_2) ?_
    refine AWL.q rfl g20 rfl (by decide) (Qt.load1 rfl rfl rfl ag3) ?_
    refine nm ?_
    refine AWL.step rfl g20 (Stp.callV rfl (by decide) Tryz.call282 rfl rfl (isPlace_con _)) ?_
    refine nm ?_
    exact AWL.weak (Weak.join (d := 75) (ds := [73, 74, 75]) rfl (ifT g20 _ undef) (by simp only [go_sem, Int.reduceToNat, Nat.reduceLT, reduceIte, Nat.reduceEqDiff, Nat.reduceAdd, Nat.reduceMul, Nat.reduceBEq, reduceCtorEq]; rfl)) Kg20
   ·refine AWL.out rfl g20 rfl (by decide) ?_
    refine AWL.out rfl g20 rfl (by decide) ?_
    refine AWL.out rfl g20 rfl (by decide) ?_
    exact AWL.weak (Weak.join (d := 75) (ds := [73, 74, 75]) rfl (ifF g20 undef _) (by simp only [go_sem, Int.reduceToNat, Nat.reduceLT, reduceIte, Nat.reduceEqDiff, Nat.reduceAdd, Nat.reduceMul, Nat.reduceBEq, reduceCtorEq])) Kg20
  refine qq (Qt.pickAnd rfl rfl rfl) ?_
  refine qq Qt.move ?_
  apply AWL.cut 3
  ·intro Kg21
   refine AWL.split 77 rfl (fun g21 => ?_) (fun g21 => ?_)
   ·refine AWL.q rfl g21 rfl (by decide) (fA fl224_3) ?_
    refine nm ?_
    refine AWL.q rfl g21 rfl (by decide) (Qt.load1 rfl rfl rfl ag3) ?_
    refine AWL.q rfl g21 rfl (by decide) (Qt.binOp rfl rfl rfl) ?_
    exact AWL.weak (Weak.join (d := 80) (ds := [78, 79, 80]) rfl (ifT g21 _ undef) (by simp only [go_sem, Int.reduceToNat, Nat.reduceLT, reduceIte, Nat.reduceEqDiff, Nat.reduceAdd, Nat.reduceMul, Nat.reduceBEq, reduceCtorEq]; rfl)) Kg21
   ·refine AWL.out rfl g21 rfl (by decide) ?_
    refine AWL.out rfl g21 rfl (by decide) ?_
    refine AWL.out rfl g21 rfl (by decide) ?_
    exact AWL.weak (Weak.join (d := 80) (ds := [78, 79, 80]) rfl (ifF g21 undef _) (by simp only [go_sem, Int.reduceToNat, Nat.reduceLT, reduceIte, Nat.reduceEqDiff, Nat.reduceAdd, Nat.reduceMul, Nat.reduceBEq, reduceCtorEq])) Kg21
  refine qq (Qt.pickAnd rfl rfl rfl) ?_
  refine nm ?_
  refine qq Qt.assign ?_
  refine nl ?_
  refine AW.ret (endQ_ret (.cons (.tmp 2) .nil) ?_)
  simp only [retX, slotL, reduceIte, Nat.reduceEqDiff]
  congr 2
  rw [Bool.eq_iff_iff]
  simp [insOk, reg, place, word, *]
  try omega
 have k19 := c19
 try simp only [cnd] at c19
 refine AW.seq (AW.region ?_)
 refine qq (Qt.binOp rfl rfl rfl) ?_
 refine qq Qt.assign ?_
 refine nl ?_
 refine AW.cond rfl (fun c22 => ?_) (fun c22 => ?_)
 ·have k22 := c22
  try simp only [cnd] at c22
  refine AW.seq (AW.region ?_)
  refine qq (fA fl224_1) ?_
  refine nm ?_
  refine qq (Qt.load1 rfl rfl rfl ag3) ?_
  refine cv Tryz.call56 rfl rfl (in_con _ _ _) ?_
  refine nm ?_
  refine qq Qt.move ?_
  apply AWL.cut 3
  ·intro Kg23
   refine AWL.split 87 rfl (fun g23 => ?_) (fun g23 => ?_)
   ·refine AWL.q rfl g23 rfl (by decide) (fA fl224_2) ?_
    refine AWL.q rfl g23 rfl (by decide) (Qt.load1 rfl rfl rfl ag3) ?_
    refine nm ?_
    refine AWL.q rfl g23 rfl (by decide) (Qt.binOp rfl rfl rfl) ?_
    exact AWL.weak (Weak.join (d := 90) (ds := [88, 89, 90]) rfl (ifT g23 _ undef) (by simp only [go_sem, Int.reduceToNat, Nat.reduceLT, reduceIte, Nat.reduceEqDiff, Nat.reduceAdd, Nat.reduceMul, Nat.reduceBEq, reduceCtorEq]; rfl)) Kg23
   ·refine AWL.out rfl g23 rfl (by decide) ?_
    refine AWL.out rfl g23 rfl (by decide) ?_
    refine AWL.out rfl g23 rfl (by decide) ?_
    exact AWL.weak (Weak.join (d := 90) (ds := [88, 89, 90]) rfl (ifF g23 undef _) (by simp only [go_sem, Int.reduceToNat, Nat.reduceLT, reduceIte, Nat.reduceEqDiff, Nat.reduceAdd, Nat.reduceMul, Nat.reduceBEq, reduceCtorEq])) Kg23
  refine qq (Qt.pickAnd rfl rfl rfl) ?_
  refine qq Qt.move ?_
  refine nm ?_
  apply AWL.cut 3
  ·intro Kg24
   refine AWL.split 92 rfl (fun g24 => ?_) (fun g24 => ?_)
   ·refine AWL.q rfl g24 rfl (by decide) (fA fl224_3) ?_
    refine AWL.q rfl g24 rfl (by decide) (Qt.load1 rfl rfl rfl ag3) ?_
    refine AWL.q rfl g24 rfl (by decide) (Qt.binOp rfl rfl rfl) ?_
    refine nm ?_
    exact AWL.weak (Weak.join (d := 95) (ds := [93, 94, 95]) rfl (ifT g24 _ undef) (by simp only [go_sem, Int.reduceToNat, Nat.reduceLT, reduceIte, Nat.reduceEqDiff, Nat.reduceAdd, Nat.reduceMul, Nat.reduceBEq, reduceCtorEq]; rfl)) Kg24
   ·refine AWL.out rfl g24 rfl (by decide) ?_
    refine AWL.out rfl g24 rfl (by decide) ?_
    refine AWL.out rfl g24 rfl (by decide) ?_
    exact AWL.weak (Weak.join (d := 95) (ds := [93, 94, 95]) rfl (ifF g24 undef _) (by simp only [go_sem, Int.reduceToNat, Nat.reduceLT, reduceIte, Nat.reduceEqDiff, Nat.reduceAdd, Nat.reduceMul, Nat.reduceBEq, reduceCtorEq])) Kg24
  refine qq (Qt.pickAnd rfl rfl rfl) ?_
  refine qq Qt.assign ?_
  refine nl ?_
  refine AW.ret (endQ_ret (.cons (.tmp 2) .nil) ?_)
  simp only [retX, slotL, reduceIte, Nat.reduceEqDiff]
  congr 2
  rw [Bool.eq_iff_iff]
  simp [insOk, reg, place, word, *]
  try omega
 have k22 := c22
 try simp only [cnd] at c22
 refine jd (AW.seq (AW.region ?_))
 refine qq Qt.assign ?_
 refine nl ?_
 refine AW.ret (endQ_ret (.cons (.tmp 2) .nil) ?_)
 simp only [retX, slotL, reduceIte, Nat.reduceEqDiff]
 congr 2
 rw [Bool.eq_iff_iff]
 simp [insOk, reg, place, word, *]
 try omega
end Go.Proofs.YtimmbmphfgnelaaGreat.VM
