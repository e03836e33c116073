/- Contracts of functions of the program. No conditions beyond those that each states. -/
import Derived.Test.YtlploojfcmcckaaDoorCK2
set_option linter.all false
set_option maxHeartbeats 8000000
set_option maxRecDepth 10000
namespace Go.Proofs.YtlploojfcmcckaaDoor.VM
open Go Go.RowKit Go.Proofs

def reg (x : Int) : Bool := decide (0 ≤ x) && decide (x ≤ 3)
def place (x : Int) : Bool := decide (0 ≤ x) && decide (x ≤ 40)
def insOk (i : DIns) : Bool :=
 if i.Op = 1 then reg i.A && (word i.B && decide (i.C = 0))
 else if i.Op = 2 ∨ i.Op = 3 then reg i.A && (reg i.B && reg i.C)
 else if i.Op = 4 ∨ i.Op = 5 then reg i.A && (reg i.B && decide (i.C = 0))
 else if i.Op = 6 then place i.A && (decide (i.B = 0) && decide (i.C = 0))
 else if i.Op = 7 then reg i.A && (place i.B && decide (i.C = 0))
 else if i.Op = 8 then (decide (1 ≤ i.A) && decide (i.A ≤ 20)) && (decide (i.B = 0) && decide (i.C = 0))
 else false
theorem regL (x : Int) : (decide (0 ≤ x) && decide (x < 4)) = reg x := by
 unfold reg
 congr 2
 apply propext; omega

theorem l3Reg_con (x : Int) : Con Tryd.prog 70 [.v (iv x)] [] (fun y _ => y = .v (.bool (reg x))) := by
 refine ob Tryd.func70 Tryd.ntmps70 ?_
 refine sr ?_
 refine qs' ?_
 refine qm ?_
 refine qb ?_
 refine nm ?_
 refine qm ?_
 apply AWL.cut 2
 ·intro Kg1
  refine AWL.split 5 rfl (fun g1 => ?_) (fun g1 => ?_)
  ·refine qg g1 Qt.move ?_
   refine qg g1 (Qt.binOp rfl rfl rfl) ?_
   refine nm ?_
   exact wj 7 [6, 7] (ifT g1 _ undef) (by simp only [go_sem, reduceIte, Nat.reduceEqDiff, Nat.reduceBEq, reduceCtorEq]; rfl) Kg1
  ·refine og g1 ?_
   refine og g1 ?_
   exact wj 7 [6, 7] (ifF g1 undef _) (by simp only [go_sem, reduceIte, Nat.reduceEqDiff, Nat.reduceBEq, reduceCtorEq]) Kg1
 refine qq (Qt.pickAnd rfl rfl rfl) ?_
 refine qr 2 ?_
 rw [← regL]
 rfl
theorem isReg_con (x : Int) : Con Tryd.prog 72 [.v (iv x)] [] (fun y _ => y = .v (.bool (reg x))) := by
 refine ob Tryd.func72 Tryd.ntmps72 ?_
 refine sr ?_
 refine qs' ?_
 refine qm ?_
 refine cv Tryd.call40 rfl rfl (in_con _ _ _) ?_
 refine nm ?_
 refine qr 2 ?_
 rfl
theorem InsOkS_con (i : DIns) : Con Tryd.prog 53 [.g [.v (iv i.Op), .v (iv i.A), .v (iv i.B), .v (iv i.C)]] [] (fun y _ => y = .v (.bool (insOk i))) := by
 refine ob Tryd.func53 Tryd.ntmps53 ?_
 refine sr ?_
 refine bx ?_
 refine nm ?_
 refine qs' ?_
 refine qq (fA fl53_0) ?_
 refine ql ag3 ?_
 refine nm ?_
 refine qq (fA fl53_1) ?_
 refine ql ag3 ?_
 refine qq (Qt.build rfl) ?_
 refine nm ?_
 refine sp sA ?_
 refine nm ?_
 refine ss ?_
 refine ns ?_
 refine qn ?_
 refine sr2 ?_
 refine qq (fA fl53_0) ?_
 refine nm ?_
 refine ql ag3 ?_
 refine nl ?_
 refine AW.block (sr ?_)
 refine qb ?_
 refine qn ?_
 refine cd (fun c1 => ?_) fun c1 => ?_
 ·try simp only [cnd] at c1
  refine sr ?_
  refine qq (fA fl53_2) ?_
  refine nm ?_
  refine ql ag3 ?_
  refine qq (fA fl53_2) ?_
  refine ss ?_
  refine nl ?_
  refine AW.region ?_
  refine qq (fA fl53_1) ?_
  refine nm ?_
  refine ql ag3 ?_
  refine cv Tryd.call70 rfl rfl (l3Reg_con _) ?_
  refine nm ?_
  refine qm ?_
  apply AWL.cut 3
  ·intro Kg2
   refine AWL.split 20 rfl (fun g2 => ?_) (fun g2 => ?_)
   ·refine qg g2 (fA fl53_2) ?_
    refine qg g2 (Qt.load1 rfl rfl rfl ag3) ?_
    refine nm ?_
    refine AWL.step rfl g2 (Stp.callV rfl (by decide) Tryd.call63 rfl rfl (l1In_con _ _ _)) ?_
    refine nm ?_
    exact wj 23 [21, 22, 23] (ifT g2 _ undef) (by simp only [go_sem, reduceIte, Nat.reduceEqDiff, Nat.reduceBEq, reduceCtorEq]; rfl) Kg2
   ·refine og g2 ?_
    refine og g2 ?_
    refine og g2 ?_
    exact wj 23 [21, 22, 23] (ifF g2 undef _) (by simp only [go_sem, reduceIte, Nat.reduceEqDiff, Nat.reduceBEq, reduceCtorEq]) Kg2
  refine qq (Qt.pickAnd rfl rfl rfl) ?_
  refine qs' ?_
  refine mn ?_
  refine qm ?_
  apply AWL.cut 3
  ·intro Kg3
   refine AWL.split 85 rfl (fun g3 => ?_) (fun g3 => ?_)
   ·refine qg g3 (Qt.loadG rfl rfl rfl ag53 sz53 (by decide)) ?_
    refine qg g3 (Qt.loadG rfl rfl rfl ag53 sz53 (by decide)) ?_
    refine nm ?_
    refine qg g3 (Qt.eqS (eq53 _ _ _ _ _ _ _ _) rfl rfl) ?_
    exact wj 88 [86, 87, 88] (ifT g3 _ undef) (by simp only [go_sem, reduceIte, Nat.reduceEqDiff, Nat.reduceBEq, reduceCtorEq]; rfl) Kg3
   ·refine og g3 ?_
    refine og g3 ?_
    refine og g3 ?_
    exact wj 88 [86, 87, 88] (ifF g3 undef _) (by simp only [go_sem, reduceIte, Nat.reduceEqDiff, Nat.reduceBEq, reduceCtorEq]) Kg3
  refine qq (Qt.pickAnd rfl rfl rfl) ?_
  refine qr 2 ?_
  simp only [retX, slotL, reduceIte, Nat.reduceEqDiff]
  congr 2
  rw [Bool.eq_iff_iff]
  simp [insOk, reg, place, word, *]
  try omega
 try simp only [cnd] at c1
 refine sr2 ?_
 refine qb ?_
 refine nm ?_
 refine qn ?_
 refine cd (fun c4 => ?_) fun c4 => ?_
 ·have k4 := c4
  try simp only [cnd] at c4
  refine jd ?_
  refine AW.condT rfl k4 ?_
  refine sr ?_
  refine qq (fA fl53_2) ?_
  refine ql ag3 ?_
  refine nm ?_
  refine qq (fA fl53_2) ?_
  refine ss ?_
  refine ns ?_
  refine qq (fA fl53_3) ?_
  refine nm ?_
  refine ql ag3 ?_
  refine qq (fA fl53_3) ?_
  refine ss ?_
  refine nl ?_
  refine AW.region ?_
  refine qq (fA fl53_1) ?_
  refine nm ?_
  refine ql ag3 ?_
  refine cv Tryd.call70 rfl rfl (l3Reg_con _) ?_
  refine nm ?_
  refine qm ?_
  apply AWL.cut 3
  ·intro Kg5
   refine AWL.split 37 rfl (fun g5 => ?_) (fun g5 => ?_)
   ·refine qg g5 (fA fl53_2) ?_
    refine qg g5 (Qt.load1 rfl rfl rfl ag3) ?_
    refine nm ?_
    refine AWL.step rfl g5 (Stp.callV rfl (by decide) Tryd.call70 rfl rfl (l3Reg_con _)) ?_
    refine nm ?_
    exact wj 40 [38, 39, 40] (ifT g5 _ undef) (by simp only [go_sem, reduceIte, Nat.reduceEqDiff, Nat.reduceBEq, reduceCtorEq]; rfl) Kg5
   ·refine og g5 ?_
    refine og g5 ?_
    refine og g5 ?_
    exact wj 40 [38, 39, 40] (ifF g5 undef _) (by simp only [go_sem, reduceIte, Nat.reduceEqDiff, Nat.reduceBEq, reduceCtorEq]) Kg5
  refine qq (Qt.pickAnd rfl rfl rfl) ?_
  refine qm ?_
  apply AWL.cut 3
  ·intro Kg6
   refine AWL.split 42 rfl (fun g6 => ?_) (fun g6 => ?_)
   ·refine qg g6 (fA fl53_3) ?_
    refine nm ?_
    refine qg g6 (Qt.load1 rfl rfl rfl ag3) ?_
    refine AWL.step rfl g6 (Stp.callV rfl (by decide) Tryd.call70 rfl rfl (l3Reg_con _)) ?_
    refine nm ?_
    exact wj 45 [43, 44, 45] (ifT g6 _ undef) (by simp only [go_sem, reduceIte, Nat.reduceEqDiff, Nat.reduceBEq, reduceCtorEq]; rfl) Kg6
   ·refine og g6 ?_
    refine og g6 ?_
    refine og g6 ?_
    exact wj 45 [43, 44, 45] (ifF g6 undef _) (by simp only [go_sem, reduceIte, Nat.reduceEqDiff, Nat.reduceBEq, reduceCtorEq]) Kg6
  refine qq (Qt.pickAnd rfl rfl rfl) ?_
  refine qs' ?_
  refine mn ?_
  refine qm ?_
  apply AWL.cut 3
  ·intro Kg7
   refine AWL.split 85 rfl (fun g7 => ?_) (fun g7 => ?_)
   ·refine qg g7 (Qt.loadG rfl rfl rfl ag53 sz53 (by decide)) ?_
    refine qg g7 (Qt.loadG rfl rfl rfl ag53 sz53 (by decide)) ?_
    refine nm ?_
    refine qg g7 (Qt.eqS (eq53 _ _ _ _ _ _ _ _) rfl rfl) ?_
    exact wj 88 [86, 87, 88] (ifT g7 _ undef) (by simp only [go_sem, reduceIte, Nat.reduceEqDiff, Nat.reduceBEq, reduceCtorEq]; rfl) Kg7
   ·refine og g7 ?_
    refine og g7 ?_
    refine og g7 ?_
    exact wj 88 [86, 87, 88] (ifF g7 undef _) (by simp only [go_sem, reduceIte, Nat.reduceEqDiff, Nat.reduceBEq, reduceCtorEq]) Kg7
  refine qq (Qt.pickAnd rfl rfl rfl) ?_
  refine qr 2 ?_
  simp only [retX, slotL, reduceIte, Nat.reduceEqDiff]
  congr 2
  rw [Bool.eq_iff_iff]
  simp [insOk, reg, place, word, *]
  try omega
 have k4 := c4
 try simp only [cnd] at c4
 refine AW.region ?_
 refine qb ?_
 refine nm ?_
 refine qn ?_
 refine cd (fun c8 => ?_) fun c8 => ?_
 ·try simp only [cnd] at c8
  refine sr ?_
  refine qq (fA fl53_2) ?_
  refine ql ag3 ?_
  refine nm ?_
  refine qq (fA fl53_2) ?_
  refine ss ?_
  refine ns ?_
  refine qq (fA fl53_3) ?_
  refine nm ?_
  refine ql ag3 ?_
  refine qq (fA fl53_3) ?_
  refine ss ?_
  refine nl ?_
  refine AW.region ?_
  refine qq (fA fl53_1) ?_
  refine nm ?_
  refine ql ag3 ?_
  refine cv Tryd.call70 rfl rfl (l3Reg_con _) ?_
  refine nm ?_
  refine qm ?_
  apply AWL.cut 3
  ·intro Kg9
   refine AWL.split 37 rfl (fun g9 => ?_) (fun g9 => ?_)
   ·refine qg g9 (fA fl53_2) ?_
    refine qg g9 (Qt.load1 rfl rfl rfl ag3) ?_
    refine nm ?_
    refine AWL.step rfl g9 (Stp.callV rfl (by decide) Tryd.call70 rfl rfl (l3Reg_con _)) ?_
    refine nm ?_
    exact wj 40 [38, 39, 40] (ifT g9 _ undef) (by simp only [go_sem, reduceIte, Nat.reduceEqDiff, Nat.reduceBEq, reduceCtorEq]; rfl) Kg9
   ·refine og g9 ?_
    refine og g9 ?_
    refine og g9 ?_
    exact wj 40 [38, 39, 40] (ifF g9 undef _) (by simp only [go_sem, reduceIte, Nat.reduceEqDiff, Nat.reduceBEq, reduceCtorEq]) Kg9
  refine qq (Qt.pickAnd rfl rfl rfl) ?_
  refine qm ?_
  apply AWL.cut 3
  ·intro Kg10
   refine AWL.split 42 rfl (fun g10 => ?_) (fun g10 => ?_)
   ·refine qg g10 (fA fl53_3) ?_
    refine nm ?_
    refine qg g10 (Qt.load1 rfl rfl rfl ag3) ?_
    refine AWL.step rfl g10 (Stp.callV rfl (by decide) Tryd.call70 rfl rfl (l3Reg_con _)) ?_
    refine nm ?_
    exact wj 45 [43, 44, 45] (ifT g10 _ undef) (by simp only [go_sem, reduceIte, Nat.reduceEqDiff, Nat.reduceBEq, reduceCtorEq]; rfl) Kg10
   ·refine og g10 ?_
    refine og g10 ?_
    refine og g10 ?_
    exact wj 45 [43, 44, 45] (ifF g10 undef _) (by simp only [go_sem, reduceIte, Nat.reduceEqDiff, Nat.reduceBEq, reduceCtorEq]) Kg10
  refine qq (Qt.pickAnd rfl rfl rfl) ?_
  refine qs' ?_
  refine mn ?_
  refine qm ?_
  apply AWL.cut 3
  ·intro Kg11
   refine AWL.split 85 rfl (fun g11 => ?_) (fun g11 => ?_)
   ·refine qg g11 (Qt.loadG rfl rfl rfl ag53 sz53 (by decide)) ?_
    refine qg g11 (Qt.loadG rfl rfl rfl ag53 sz53 (by decide)) ?_
    refine nm ?_
    refine qg g11 (Qt.eqS (eq53 _ _ _ _ _ _ _ _) rfl rfl) ?_
    exact wj 88 [86, 87, 88] (ifT g11 _ undef) (by simp only [go_sem, reduceIte, Nat.reduceEqDiff, Nat.reduceBEq, reduceCtorEq]; rfl) Kg11
   ·refine og g11 ?_
    refine og g11 ?_
    refine og g11 ?_
    exact wj 88 [86, 87, 88] (ifF g11 undef _) (by simp only [go_sem, reduceIte, Nat.reduceEqDiff, Nat.reduceBEq, reduceCtorEq]) Kg11
  refine qq (Qt.pickAnd rfl rfl rfl) ?_
  refine qr 2 ?_
  simp only [retX, slotL, reduceIte, Nat.reduceEqDiff]
  congr 2
  rw [Bool.eq_iff_iff]
  simp [insOk, reg, place, word, *]
  try omega
 try simp only [cnd] at c8
 refine sr2 ?_
 refine qb ?_
 refine nm ?_
 refine qn ?_
 refine cd (fun c12 => ?_) fun c12 => ?_
 ·have k12 := c12
  try simp only [cnd] at c12
  refine jd ?_
  refine AW.condT rfl k12 ?_
  refine sr ?_
  refine qq (fA fl53_2) ?_
  refine ql ag3 ?_
  refine nm ?_
  refine qq (fA fl53_2) ?_
  refine ss ?_
  refine nl ?_
  refine AW.region ?_
  refine qq (fA fl53_1) ?_
  refine nm ?_
  refine ql ag3 ?_
  refine cv Tryd.call70 rfl rfl (l3Reg_con _) ?_
  refine nm ?_
  refine qm ?_
  apply AWL.cut 3
  ·intro Kg13
   refine AWL.split 56 rfl (fun g13 => ?_) (fun g13 => ?_)
   ·refine qg g13 (fA fl53_2) ?_
    refine qg g13 (Qt.load1 rfl rfl rfl ag3) ?_
    refine nm ?_
    refine AWL.step rfl g13 (Stp.callV rfl (by decide) Tryd.call70 rfl rfl (l3Reg_con _)) ?_
    refine nm ?_
    exact wj 59 [57, 58, 59] (ifT g13 _ undef) (by simp only [go_sem, reduceIte, Nat.reduceEqDiff, Nat.reduceBEq, reduceCtorEq]; rfl) Kg13
   ·refine og g13 ?_
    refine og g13 ?_
    refine og g13 ?_
    exact wj 59 [57, 58, 59] (ifF g13 undef _) (by simp only [go_sem, reduceIte, Nat.reduceEqDiff, Nat.reduceBEq, reduceCtorEq]) Kg13
  refine qq (Qt.pickAnd rfl rfl rfl) ?_
  refine qs' ?_
  refine mn ?_
  refine qm ?_
  apply AWL.cut 3
  ·intro Kg14
   refine AWL.split 85 rfl (fun g14 => ?_) (fun g14 => ?_)
   ·refine qg g14 (Qt.loadG rfl rfl rfl ag53 sz53 (by decide)) ?_
    refine qg g14 (Qt.loadG rfl rfl rfl ag53 sz53 (by decide)) ?_
    refine nm ?_
    refine qg g14 (Qt.eqS (eq53 _ _ _ _ _ _ _ _) rfl rfl) ?_
    exact wj 88 [86, 87, 88] (ifT g14 _ undef) (by simp only [go_sem, reduceIte, Nat.reduceEqDiff, Nat.reduceBEq, reduceCtorEq]; rfl) Kg14
   ·refine og g14 ?_
    refine og g14 ?_
    refine og g14 ?_
    exact wj 88 [86, 87, 88] (ifF g14 undef _) (by simp only [go_sem, reduceIte, Nat.reduceEqDiff, Nat.reduceBEq, reduceCtorEq]) Kg14
  refine qq (Qt.pickAnd rfl rfl rfl) ?_
  refine qr 2 ?_
  simp only [retX, slotL, reduceIte, Nat.reduceEqDiff]
  congr 2
  rw [Bool.eq_iff_iff]
  simp [insOk, reg, place, word, *]
  try omega
 have k12 := c12
 try simp only [cnd] at c12
 refine AW.region ?_
 refine qb ?_
 refine nm ?_
 refine qn ?_
 refine cd (fun c15 => ?_) fun c15 => ?_
 ·try simp only [cnd] at c15
  refine sr ?_
  refine qq (fA fl53_2) ?_
  refine ql ag3 ?_
  refine nm ?_
  refine qq (fA fl53_2) ?_
  refine ss ?_
  refine nl ?_
  refine AW.region ?_
  refine qq (fA fl53_1) ?_
  refine nm ?_
  refine ql ag3 ?_
  refine cv Tryd.call70 rfl rfl (l3Reg_con _) ?_
  refine nm ?_
  refine qm ?_
  apply AWL.cut 3
  ·intro Kg16
   refine AWL.split 56 rfl (fun g16 => ?_) (fun g16 => ?_)
   ·refine qg g16 (fA fl53_2) ?_
    refine qg g16 (Qt.load1 rfl rfl rfl ag3) ?_
    refine nm ?_
    refine AWL.step rfl g16 (Stp.callV rfl (by decide) Tryd.call70 rfl rfl (l3Reg_con _)) ?_
    refine nm ?_
    exact wj 59 [57, 58, 59] (ifT g16 _ undef) (by simp only [go_sem, reduceIte, Nat.reduceEqDiff, Nat.reduceBEq, reduceCtorEq]; rfl) Kg16
   ·refine og g16 ?_
    refine og g16 ?_
    refine og g16 ?_
    exact wj 59 [57, 58, 59] (ifF g16 undef _) (by simp only [go_sem, reduceIte, Nat.reduceEqDiff, Nat.reduceBEq, reduceCtorEq]) Kg16
  refine qq (Qt.pickAnd rfl rfl rfl) ?_
  refine qs' ?_
  refine mn ?_
  refine qm ?_
  apply AWL.cut 3
  ·intro Kg17
   refine AWL.split 85 rfl (fun g17 => ?_) (fun g17 => ?_)
   ·refine qg g17 (Qt.loadG rfl rfl rfl ag53 sz53 (by decide)) ?_
    refine qg g17 (Qt.loadG rfl rfl rfl ag53 sz53 (by decide)) ?_
    refine nm ?_
    refine qg g17 (Qt.eqS (eq53 _ _ _ _ _ _ _ _) rfl rfl) ?_
    exact wj 88 [86, 87, 88] (ifT g17 _ undef) (by simp only [go_sem, reduceIte, Nat.reduceEqDiff, Nat.reduceBEq, reduceCtorEq]; rfl) Kg17
   ·refine og g17 ?_
    refine og g17 ?_
    refine og g17 ?_
    exact wj 88 [86, 87, 88] (ifF g17 undef _) (by simp only [go_sem, reduceIte, Nat.reduceEqDiff, Nat.reduceBEq, reduceCtorEq]) Kg17
  refine qq (Qt.pickAnd rfl rfl rfl) ?_
  refine qr 2 ?_
  simp only [retX, slotL, reduceIte, Nat.reduceEqDiff]
  congr 2
  rw [Bool.eq_iff_iff]
  simp [insOk, reg, place, word, *]
  try omega
 try simp only [cnd] at c15
 refine sr ?_
 refine qb ?_
 refine nm ?_
 refine qn ?_
 refine cd (fun c18 => ?_) fun c18 => ?_
 ·try simp only [cnd] at c18
  refine AW.region ?_
  refine qq (fA fl53_1) ?_
  refine ql ag3 ?_
  refine nm ?_
  refine cv Tryd.call63 rfl rfl (l1In_con _ _ _) ?_
  refine nm ?_
  refine qs' ?_
  refine qm ?_
  refine mn ?_
  apply AWL.cut 3
  ·intro Kg19
   refine AWL.split 85 rfl (fun g19 => ?_) (fun g19 => ?_)
   ·refine qg g19 (Qt.loadG rfl rfl rfl ag53 sz53 (by decide)) ?_
    refine qg g19 (Qt.loadG rfl rfl rfl ag53 sz53 (by decide)) ?_
    refine qg g19 (Qt.eqS (eq53 _ _ _ _ _ _ _ _) rfl rfl) ?_
    refine nm ?_
    exact wj 88 [86, 87, 88] (ifT g19 _ undef) (by simp only [go_sem, reduceIte, Nat.reduceEqDiff, Nat.reduceBEq, reduceCtorEq]; rfl) Kg19
   ·refine og g19 ?_
    refine og g19 ?_
    refine og g19 ?_
    exact wj 88 [86, 87, 88] (ifF g19 undef _) (by simp only [go_sem, reduceIte, Nat.reduceEqDiff, Nat.reduceBEq, reduceCtorEq]) Kg19
  refine qq (Qt.pickAnd rfl rfl rfl) ?_
  refine qr 2 ?_
  simp only [retX, slotL, reduceIte, Nat.reduceEqDiff]
  congr 2
  rw [Bool.eq_iff_iff]
  simp [insOk, reg, place, word, *]
  try omega
 try simp only [cnd] at c18
 refine sr ?_
 refine qb ?_
 refine nm ?_
 refine qn ?_
 refine cd (fun c20 => ?_) fun c20 => ?_
 ·try simp only [cnd] at c20
  refine sr ?_
  refine qq (fA fl53_2) ?_
  refine ql ag3 ?_
  refine nm ?_
  refine qq (fA fl53_2) ?_
  refine ss ?_
  refine nl ?_
  refine AW.region ?_
  refine qq (fA fl53_1) ?_
  refine nm ?_
  refine ql ag3 ?_
  refine cv Tryd.call70 rfl rfl (l3Reg_con _) ?_
  refine nm ?_
  refine qm ?_
  apply AWL.cut 3
  ·intro Kg21
   refine AWL.split 74 rfl (fun g21 => ?_) (fun g21 => ?_)
   ·refine qg g21 (fA fl53_2) ?_
    refine qg g21 (Qt.load1 rfl rfl rfl ag3) ?_
    refine nm ?_
    refine AWL.step rfl g21 (Stp.callV rfl (by decide) Tryd.call63 rfl rfl (l1In_con _ _ _)) ?_
    refine nm ?_
    exact wj 77 [75, 76, 77] (ifT g21 _ undef) (by simp only [go_sem, reduceIte, Nat.reduceEqDiff, Nat.reduceBEq, reduceCtorEq]; rfl) Kg21
   ·refine og g21 ?_
    refine og g21 ?_
    refine og g21 ?_
    exact wj 77 [75, 76, 77] (ifF g21 undef _) (by simp only [go_sem, reduceIte, Nat.reduceEqDiff, Nat.reduceBEq, reduceCtorEq]) Kg21
  refine qq (Qt.pickAnd rfl rfl rfl) ?_
  refine qs' ?_
  refine mn ?_
  refine qm ?_
  apply AWL.cut 3
  ·intro Kg22
   refine AWL.split 85 rfl (fun g22 => ?_) (fun g22 => ?_)
   ·refine qg g22 (Qt.loadG rfl rfl rfl ag53 sz53 (by decide)) ?_
    refine qg g22 (Qt.loadG rfl rfl rfl ag53 sz53 (by decide)) ?_
    refine nm ?_
    refine qg g22 (Qt.eqS (eq53 _ _ _ _ _ _ _ _) rfl rfl) ?_
    exact wj 88 [86, 87, 88] (ifT g22 _ undef) (by simp only [go_sem, reduceIte, Nat.reduceEqDiff, Nat.reduceBEq, reduceCtorEq]; rfl) Kg22
   ·refine og g22 ?_
    refine og g22 ?_
    refine og g22 ?_
    exact wj 88 [86, 87, 88] (ifF g22 undef _) (by simp only [go_sem, reduceIte, Nat.reduceEqDiff, Nat.reduceBEq, reduceCtorEq]) Kg22
  refine qq (Qt.pickAnd rfl rfl rfl) ?_
  refine qr 2 ?_
  simp only [retX, slotL, reduceIte, Nat.reduceEqDiff]
  congr 2
  rw [Bool.eq_iff_iff]
  simp [insOk, reg, place, word, *]
  try omega
 try simp only [cnd] at c20
 refine sr ?_
 refine qb ?_
 refine nm ?_
 refine qn ?_
 refine cd (fun c23 => ?_) fun c23 => ?_
 ·try simp only [cnd] at c23
  refine AW.region ?_
  refine qq (fA fl53_1) ?_
  refine ql ag3 ?_
  refine nm ?_
  refine cv Tryd.call63 rfl rfl (l1In_con _ _ _) ?_
  refine nm ?_
  refine qs' ?_
  refine qm ?_
  refine mn ?_
  apply AWL.cut 3
  ·intro Kg24
   refine AWL.split 85 rfl (fun g24 => ?_) (fun g24 => ?_)
   ·refine qg g24 (Qt.loadG rfl rfl rfl ag53 sz53 (by decide)) ?_
    refine qg g24 (Qt.loadG rfl rfl rfl ag53 sz53 (by decide)) ?_
    refine qg g24 (Qt.eqS (eq53 _ _ _ _ _ _ _ _) rfl rfl) ?_
    refine nm ?_
    exact wj 88 [86, 87, 88] (ifT g24 _ undef) (by simp only [go_sem, reduceIte, Nat.reduceEqDiff, Nat.reduceBEq, reduceCtorEq]; rfl) Kg24
   ·refine og g24 ?_
    refine og g24 ?_
    refine og g24 ?_
    exact wj 88 [86, 87, 88] (ifF g24 undef _) (by simp only [go_sem, reduceIte, Nat.reduceEqDiff, Nat.reduceBEq, reduceCtorEq]) Kg24
  refine qq (Qt.pickAnd rfl rfl rfl) ?_
  refine qr 2 ?_
  simp only [retX, slotL, reduceIte, Nat.reduceEqDiff]
  congr 2
  rw [Bool.eq_iff_iff]
  simp [insOk, reg, place, word, *]
  try omega
 try simp only [cnd] at c23
 refine jd (sr ?_)
 refine mn ?_
 refine qm ?_
 apply AWL.cut 3
 ·intro Kg25
  refine AWL.split 85 rfl (fun g25 => ?_) (fun g25 => ?_)
  ·refine qg g25 (Qt.loadG rfl rfl rfl ag53 sz53 (by decide)) ?_
   refine qg g25 (Qt.loadG rfl rfl rfl ag53 sz53 (by decide)) ?_
   refine nm ?_
   refine qg g25 (Qt.eqS (eq53 _ _ _ _ _ _ _ _) rfl rfl) ?_
   exact wj 88 [86, 87, 88] (ifT g25 _ undef) (by simp only [go_sem, reduceIte, Nat.reduceEqDiff, Nat.reduceBEq, reduceCtorEq]; rfl) Kg25
  ·refine og g25 ?_
   refine og g25 ?_
   refine og g25 ?_
   exact wj 88 [86, 87, 88] (ifF g25 undef _) (by simp only [go_sem, reduceIte, Nat.reduceEqDiff, Nat.reduceBEq, reduceCtorEq]) Kg25
 refine qq (Qt.pickAnd rfl rfl rfl) ?_
 refine qr 2 ?_
 simp only [retX, slotL, reduceIte, Nat.reduceEqDiff]
 congr 2
 rw [Bool.eq_iff_iff]
 simp [insOk, reg, place, word, *]
 try omega
theorem InsOkI_con (i : DIns) : Con Tryd.prog 56 [.g [.v (iv i.Op), .v (iv i.A), .v (iv i.B), .v (iv i.C)]] [] (fun y _ => y = .v (.bool (insOk i))) := by
 refine ob Tryd.func56 Tryd.ntmps56 ?_
 refine sr ?_
 refine bx ?_
 refine nm ?_
 refine qn ?_
 refine sr2 ?_
 refine qq (fA fl53_0) ?_
 refine ql ag3 ?_
 refine nl ?_
 refine AW.block (sr ?_)
 refine qb ?_
 refine nm ?_
 refine qn ?_
 refine cd (fun c1 => ?_) fun c1 => ?_
 ·try simp only [cnd] at c1
  refine sr ?_
  refine qq (fA fl53_1) ?_
  refine ql ag3 ?_
  refine nm ?_
  refine cv Tryd.call72 rfl rfl (isReg_con _) ?_
  refine nm ?_
  refine qm ?_
  apply AWL.cut 3
  ·intro Kg2
   refine AWL.split 10 rfl (fun g2 => ?_) (fun g2 => ?_)
   ·refine qg g2 (fA fl53_2) ?_
    refine qg g2 (Qt.load1 rfl rfl rfl ag3) ?_
    refine nm ?_
    refine AWL.step rfl g2 (Stp.callV rfl (by decide) Tryd.call73 rfl rfl (isWord_con _)) ?_
    refine nm ?_
    exact wj 13 [11, 12, 13] (ifT g2 _ undef) (by simp only [go_sem, reduceIte, Nat.reduceEqDiff, Nat.reduceBEq, reduceCtorEq]; rfl) Kg2
   ·refine og g2 ?_
    refine og g2 ?_
    refine og g2 ?_
    exact wj 13 [11, 12, 13] (ifF g2 undef _) (by simp only [go_sem, reduceIte, Nat.reduceEqDiff, Nat.reduceBEq, reduceCtorEq]) Kg2
  refine qq (Qt.pickAnd rfl rfl rfl) ?_
  refine qm ?_
  apply AWL.cut 3
  ·intro Kg3
   refine AWL.split 15 rfl (fun g3 => ?_) (fun g3 => ?_)
   ·refine qg g3 (fA fl53_3) ?_
    refine nm ?_
    refine qg g3 (Qt.load1 rfl rfl rfl ag3) ?_
    refine qg g3 (Qt.binOp rfl rfl rfl) ?_
    exact wj 18 [16, 17, 18] (ifT g3 _ undef) (by simp only [go_sem, reduceIte, Nat.reduceEqDiff, Nat.reduceBEq, reduceCtorEq]; rfl) Kg3
   ·refine og g3 ?_
    refine og g3 ?_
    refine og g3 ?_
    exact wj 18 [16, 17, 18] (ifF g3 undef _) (by simp only [go_sem, reduceIte, Nat.reduceEqDiff, Nat.reduceBEq, reduceCtorEq]) Kg3
  refine qq (Qt.pickAnd rfl rfl rfl) ?_
  refine nm ?_
  refine qr 2 ?_
  simp only [retX, slotL, reduceIte, Nat.reduceEqDiff]
  congr 2
  rw [Bool.eq_iff_iff]
  simp [insOk, reg, place, word, *]
  try omega
 try simp only [cnd] at c1
 refine sr2 ?_
 refine qb ?_
 refine qn ?_
 refine cd (fun c4 => ?_) fun c4 => ?_
 ·have k4 := c4
  try simp only [cnd] at c4
  refine jd ?_
  refine AW.condT rfl k4 ?_
  refine sr ?_
  refine qq (fA fl53_1) ?_
  refine nm ?_
  refine ql ag3 ?_
  refine cv Tryd.call72 rfl rfl (isReg_con _) ?_
  refine nm ?_
  refine qm ?_
  apply AWL.cut 3
  ·intro Kg5
   refine AWL.split 26 rfl (fun g5 => ?_) (fun g5 => ?_)
   ·refine qg g5 (fA fl53_2) ?_
    refine qg g5 (Qt.load1 rfl rfl rfl ag3) ?_
    refine nm ?_
    refine AWL.step rfl g5 (Stp.callV rfl (by decide) Tryd.call72 rfl rfl (isReg_con _)) ?_
    refine nm ?_
    exact wj 29 [27, 28, 29] (ifT g5 _ undef) (by simp only [go_sem, reduceIte, Nat.reduceEqDiff, Nat.reduceBEq, reduceCtorEq]; rfl) Kg5
   ·refine og g5 ?_
    refine og g5 ?_
    refine og g5 ?_
    exact wj 29 [27, 28, 29] (ifF g5 undef _) (by simp only [go_sem, reduceIte, Nat.reduceEqDiff, Nat.reduceBEq, reduceCtorEq]) Kg5
  refine qq (Qt.pickAnd rfl rfl rfl) ?_
  refine qm ?_
  apply AWL.cut 3
  ·intro Kg6
   refine AWL.split 31 rfl (fun g6 => ?_) (fun g6 => ?_)
   ·refine qg g6 (fA fl53_3) ?_
    refine nm ?_
    refine qg g6 (Qt.load1 rfl rfl rfl ag3) ?_
    refine AWL.step rfl g6 (Stp.callV rfl (by decide) Tryd.call72 rfl rfl (isReg_con _)) ?_
    refine nm ?_
    exact wj 34 [32, 33, 34] (ifT g6 _ undef) (by simp only [go_sem, reduceIte, Nat.reduceEqDiff, Nat.reduceBEq, reduceCtorEq]; rfl) Kg6
   ·refine og g6 ?_
    refine og g6 ?_
    refine og g6 ?_
    exact wj 34 [32, 33, 34] (ifF g6 undef _) (by simp only [go_sem, reduceIte, Nat.reduceEqDiff, Nat.reduceBEq, reduceCtorEq]) Kg6
  refine qq (Qt.pickAnd rfl rfl rfl) ?_
  refine qr 2 ?_
  simp only [retX, slotL, reduceIte, Nat.reduceEqDiff]
  congr 2
  rw [Bool.eq_iff_iff]
  simp [insOk, reg, place, word, *]
  try omega
 have k4 := c4
 try simp only [cnd] at c4
 refine AW.region ?_
 refine qb ?_
 refine nm ?_
 refine qn ?_
 refine cd (fun c7 => ?_) fun c7 => ?_
 ·try simp only [cnd] at c7
  refine sr ?_
  refine qq (fA fl53_1) ?_
  refine ql ag3 ?_
  refine nm ?_
  refine cv Tryd.call72 rfl rfl (isReg_con _) ?_
  refine nm ?_
  refine qm ?_
  apply AWL.cut 3
  ·intro Kg8
   refine AWL.split 26 rfl (fun g8 => ?_) (fun g8 => ?_)
   ·refine qg g8 (fA fl53_2) ?_
    refine qg g8 (Qt.load1 rfl rfl rfl ag3) ?_
    refine nm ?_
    refine AWL.step rfl g8 (Stp.callV rfl (by decide) Tryd.call72 rfl rfl (isReg_con _)) ?_
    refine nm ?_
    exact wj 29 [27, 28, 29] (ifT g8 _ undef) (by simp only [go_sem, reduceIte, Nat.reduceEqDiff, Nat.reduceBEq, reduceCtorEq]; rfl) Kg8
   ·refine og g8 ?_
    refine og g8 ?_
    refine og g8 ?_
    exact wj 29 [27, 28, 29] (ifF g8 undef _) (by simp only [go_sem, reduceIte, Nat.reduceEqDiff, Nat.reduceBEq, reduceCtorEq]) Kg8
  refine qq (Qt.pickAnd rfl rfl rfl) ?_
  refine qm ?_
  apply AWL.cut 3
  ·intro Kg9
   refine AWL.split 31 rfl (fun g9 => ?_) (fun g9 => ?_)
   ·refine qg g9 (fA fl53_3) ?_
    refine nm ?_
    refine qg g9 (Qt.load1 rfl rfl rfl ag3) ?_
    refine AWL.step rfl g9 (Stp.callV rfl (by decide) Tryd.call72 rfl rfl (isReg_con _)) ?_
    refine nm ?_
    exact wj 34 [32, 33, 34] (ifT g9 _ undef) (by simp only [go_sem, reduceIte, Nat.reduceEqDiff, Nat.reduceBEq, reduceCtorEq]; rfl) Kg9
   ·refine og g9 ?_
    refine og g9 ?_
    refine og g9 ?_
    exact wj 34 [32, 33, 34] (ifF g9 undef _) (by simp only [go_sem, reduceIte, Nat.reduceEqDiff, Nat.reduceBEq, reduceCtorEq]) Kg9
  refine qq (Qt.pickAnd rfl rfl rfl) ?_
  refine qr 2 ?_
  simp only [retX, slotL, reduceIte, Nat.reduceEqDiff]
  congr 2
  rw [Bool.eq_iff_iff]
  simp [insOk, reg, place, word, *]
  try omega
 try simp only [cnd] at c7
 refine sr2 ?_
 refine qb ?_
 refine nm ?_
 refine qn ?_
 refine cd (fun c10 => ?_) fun c10 => ?_
 ·have k10 := c10
  try simp only [cnd] at c10
  refine jd ?_
  refine AW.condT rfl k10 ?_
  refine sr ?_
  refine qq (fA fl53_1) ?_
  refine ql ag3 ?_
  refine nm ?_
  refine cv Tryd.call72 rfl rfl (isReg_con _) ?_
  refine nm ?_
  refine qm ?_
  apply AWL.cut 3
  ·intro Kg11
   refine AWL.split 42 rfl (fun g11 => ?_) (fun g11 => ?_)
   ·refine qg g11 (fA fl53_2) ?_
    refine qg g11 (Qt.load1 rfl rfl rfl ag3) ?_
    refine nm ?_
    refine AWL.step rfl g11 (Stp.callV rfl (by decide) Tryd.call72 rfl rfl (isReg_con _)) ?_
    refine nm ?_
    exact wj 45 [43, 44, 45] (ifT g11 _ undef) (by simp only [go_sem, reduceIte, Nat.reduceEqDiff, Nat.reduceBEq, reduceCtorEq]; rfl) Kg11
   ·refine og g11 ?_
    refine og g11 ?_
    refine og g11 ?_
    exact wj 45 [43, 44, 45] (ifF g11 undef _) (by simp only [go_sem, reduceIte, Nat.reduceEqDiff, Nat.reduceBEq, reduceCtorEq]) Kg11
  refine qq (Qt.pickAnd rfl rfl rfl) ?_
  refine qm ?_
  apply AWL.cut 3
  ·intro Kg12
   refine AWL.split 47 rfl (fun g12 => ?_) (fun g12 => ?_)
   ·refine qg g12 (fA fl53_3) ?_
    refine nm ?_
    refine qg g12 (Qt.load1 rfl rfl rfl ag3) ?_
    refine qg g12 (Qt.binOp rfl rfl rfl) ?_
    exact wj 50 [48, 49, 50] (ifT g12 _ undef) (by simp only [go_sem, reduceIte, Nat.reduceEqDiff, Nat.reduceBEq, reduceCtorEq]; rfl) Kg12
   ·refine og g12 ?_
    refine og g12 ?_
    refine og g12 ?_
    exact wj 50 [48, 49, 50] (ifF g12 undef _) (by simp only [go_sem, reduceIte, Nat.reduceEqDiff, Nat.reduceBEq, reduceCtorEq]) Kg12
  refine qq (Qt.pickAnd rfl rfl rfl) ?_
  refine nm ?_
  refine qr 2 ?_
  simp only [retX, slotL, reduceIte, Nat.reduceEqDiff]
  congr 2
  rw [Bool.eq_iff_iff]
  simp [insOk, reg, place, word, *]
  try omega
 have k10 := c10
 try simp only [cnd] at c10
 refine AW.region ?_
 refine qb ?_
 refine qn ?_
 refine cd (fun c13 => ?_) fun c13 => ?_
 ·try simp only [cnd] at c13
  refine sr ?_
  refine qq (fA fl53_1) ?_
  refine nm ?_
  refine ql ag3 ?_
  refine cv Tryd.call72 rfl rfl (isReg_con _) ?_
  refine nm ?_
  refine qm ?_
  apply AWL.cut 3
  ·intro Kg14
   refine AWL.split 42 rfl (fun g14 => ?_) (fun g14 => ?_)
   ·refine qg g14 (fA fl53_2) ?_
    refine qg g14 (Qt.load1 rfl rfl rfl ag3) ?_
    refine nm ?_
    refine AWL.step rfl g14 (Stp.callV rfl (by decide) Tryd.call72 rfl rfl (isReg_con _)) ?_
    refine nm ?_
    exact wj 45 [43, 44, 45] (ifT g14 _ undef) (by simp only [go_sem, reduceIte, Nat.reduceEqDiff, Nat.reduceBEq, reduceCtorEq]; rfl) Kg14
   ·refine og g14 ?_
    refine og g14 ?_
    refine og g14 ?_
    exact wj 45 [43, 44, 45] (ifF g14 undef _) (by simp only [go_sem, reduceIte, Nat.reduceEqDiff, Nat.reduceBEq, reduceCtorEq]) Kg14
  refine qq (Qt.pickAnd rfl rfl rfl) ?_
  refine qm ?_
  apply AWL.cut 3
  ·intro Kg15
   refine AWL.split 47 rfl (fun g15 => ?_) (fun g15 => ?_)
   ·refine qg g15 (fA fl53_3) ?_
    refine nm ?_
    refine qg g15 (Qt.load1 rfl rfl rfl ag3) ?_
    refine qg g15 (Qt.binOp rfl rfl rfl) ?_
    exact wj 50 [48, 49, 50] (ifT g15 _ undef) (by simp only [go_sem, reduceIte, Nat.reduceEqDiff, Nat.reduceBEq, reduceCtorEq]; rfl) Kg15
   ·refine og g15 ?_
    refine og g15 ?_
    refine og g15 ?_
    exact wj 50 [48, 49, 50] (ifF g15 undef _) (by simp only [go_sem, reduceIte, Nat.reduceEqDiff, Nat.reduceBEq, reduceCtorEq]) Kg15
  refine qq (Qt.pickAnd rfl rfl rfl) ?_
  refine nm ?_
  refine qr 2 ?_
  simp only [retX, slotL, reduceIte, Nat.reduceEqDiff]
  congr 2
  rw [Bool.eq_iff_iff]
  simp [insOk, reg, place, word, *]
  try omega
 try simp only [cnd] at c13
 refine sr ?_
 refine qb ?_
 refine qn ?_
 refine cd (fun c16 => ?_) fun c16 => ?_
 ·try simp only [cnd] at c16
  refine sr ?_
  refine qq (fA fl53_1) ?_
  refine nm ?_
  refine ql ag3 ?_
  refine cv Tryd.call74 rfl rfl (isPlace_con _) ?_
  refine nm ?_
  refine qm ?_
  apply AWL.cut 3
  ·intro Kg17
   refine AWL.split 57 rfl (fun g17 => ?_) (fun g17 => ?_)
   ·refine qg g17 (fA fl53_2) ?_
    refine qg g17 (Qt.load1 rfl rfl rfl ag3) ?_
    refine nm ?_
    refine qg g17 (Qt.binOp rfl rfl rfl) ?_
    exact wj 60 [58, 59, 60] (ifT g17 _ undef) (by simp only [go_sem, reduceIte, Nat.reduceEqDiff, Nat.reduceBEq, reduceCtorEq]; rfl) Kg17
   ·refine og g17 ?_
    refine og g17 ?_
    refine og g17 ?_
    exact wj 60 [58, 59, 60] (ifF g17 undef _) (by simp only [go_sem, reduceIte, Nat.reduceEqDiff, Nat.reduceBEq, reduceCtorEq]) Kg17
  refine qq (Qt.pickAnd rfl rfl rfl) ?_
  refine mn ?_
  apply AWL.cut 3
  ·intro Kg18
   refine AWL.split 62 rfl (fun g18 => ?_) (fun g18 => ?_)
   ·refine qg g18 (fA fl53_3) ?_
    refine qg g18 (Qt.load1 rfl rfl rfl ag3) ?_
    refine qg g18 (Qt.binOp rfl rfl rfl) ?_
    refine nm ?_
    exact wj 65 [63, 64, 65] (ifT g18 _ undef) (by simp only [go_sem, reduceIte, Nat.reduceEqDiff, Nat.reduceBEq, reduceCtorEq]; rfl) Kg18
   ·refine og g18 ?_
    refine og g18 ?_
    refine og g18 ?_
    exact wj 65 [63, 64, 65] (ifF g18 undef _) (by simp only [go_sem, reduceIte, Nat.reduceEqDiff, Nat.reduceBEq, reduceCtorEq]) Kg18
  refine qq (Qt.pickAnd rfl rfl rfl) ?_
  refine qr 2 ?_
  simp only [retX, slotL, reduceIte, Nat.reduceEqDiff]
  congr 2
  rw [Bool.eq_iff_iff]
  simp [insOk, reg, place, word, *]
  try omega
 try simp only [cnd] at c16
 refine sr ?_
 refine qb ?_
 refine nm ?_
 refine qn ?_
 refine cd (fun c19 => ?_) fun c19 => ?_
 ·try simp only [cnd] at c19
  refine sr ?_
  refine qq (fA fl53_1) ?_
  refine ql ag3 ?_
  refine nm ?_
  refine cv Tryd.call72 rfl rfl (isReg_con _) ?_
  refine nm ?_
  refine qm ?_
  apply AWL.cut 3
  ·intro Kg20
   refine AWL.split 72 rfl (fun g20 => ?_) (fun g20 => ?_)
   ·refine qg g20 (fA fl53_2) ?_
    refine qg g20 (Qt.load1 rfl rfl rfl ag3) ?_
    refine nm ?_
    refine AWL.step rfl g20 (Stp.callV rfl (by decide) Tryd.call74 rfl rfl (isPlace_con _)) ?_
    refine nm ?_
    exact wj 75 [73, 74, 75] (ifT g20 _ undef) (by simp only [go_sem, reduceIte, Nat.reduceEqDiff, Nat.reduceBEq, reduceCtorEq]; rfl) Kg20
   ·refine og g20 ?_
    refine og g20 ?_
    refine og g20 ?_
    exact wj 75 [73, 74, 75] (ifF g20 undef _) (by simp only [go_sem, reduceIte, Nat.reduceEqDiff, Nat.reduceBEq, reduceCtorEq]) Kg20
  refine qq (Qt.pickAnd rfl rfl rfl) ?_
  refine qm ?_
  apply AWL.cut 3
  ·intro Kg21
   refine AWL.split 77 rfl (fun g21 => ?_) (fun g21 => ?_)
   ·refine qg g21 (fA fl53_3) ?_
    refine nm ?_
    refine qg g21 (Qt.load1 rfl rfl rfl ag3) ?_
    refine qg g21 (Qt.binOp rfl rfl rfl) ?_
    exact wj 80 [78, 79, 80] (ifT g21 _ undef) (by simp only [go_sem, reduceIte, Nat.reduceEqDiff, Nat.reduceBEq, reduceCtorEq]; rfl) Kg21
   ·refine og g21 ?_
    refine og g21 ?_
    refine og g21 ?_
    exact wj 80 [78, 79, 80] (ifF g21 undef _) (by simp only [go_sem, reduceIte, Nat.reduceEqDiff, Nat.reduceBEq, reduceCtorEq]) Kg21
  refine qq (Qt.pickAnd rfl rfl rfl) ?_
  refine nm ?_
  refine qr 2 ?_
  simp only [retX, slotL, reduceIte, Nat.reduceEqDiff]
  congr 2
  rw [Bool.eq_iff_iff]
  simp [insOk, reg, place, word, *]
  try omega
 try simp only [cnd] at c19
 refine sr ?_
 refine qb ?_
 refine qn ?_
 refine cd (fun c22 => ?_) fun c22 => ?_
 ·try simp only [cnd] at c22
  refine sr ?_
  refine qq (fA fl53_1) ?_
  refine nm ?_
  refine ql ag3 ?_
  refine cv Tryd.call40 rfl rfl (in_con _ _ _) ?_
  refine nm ?_
  refine qm ?_
  apply AWL.cut 3
  ·intro Kg23
   refine AWL.split 87 rfl (fun g23 => ?_) (fun g23 => ?_)
   ·refine qg g23 (fA fl53_2) ?_
    refine qg g23 (Qt.load1 rfl rfl rfl ag3) ?_
    refine nm ?_
    refine qg g23 (Qt.binOp rfl rfl rfl) ?_
    exact wj 90 [88, 89, 90] (ifT g23 _ undef) (by simp only [go_sem, reduceIte, Nat.reduceEqDiff, Nat.reduceBEq, reduceCtorEq]; rfl) Kg23
   ·refine og g23 ?_
    refine og g23 ?_
    refine og g23 ?_
    exact wj 90 [88, 89, 90] (ifF g23 undef _) (by simp only [go_sem, reduceIte, Nat.reduceEqDiff, Nat.reduceBEq, reduceCtorEq]) Kg23
  refine qq (Qt.pickAnd rfl rfl rfl) ?_
  refine mn ?_
  apply AWL.cut 3
  ·intro Kg24
   refine AWL.split 92 rfl (fun g24 => ?_) (fun g24 => ?_)
   ·refine qg g24 (fA fl53_3) ?_
    refine qg g24 (Qt.load1 rfl rfl rfl ag3) ?_
    refine qg g24 (Qt.binOp rfl rfl rfl) ?_
    refine nm ?_
    exact wj 95 [93, 94, 95] (ifT g24 _ undef) (by simp only [go_sem, reduceIte, Nat.reduceEqDiff, Nat.reduceBEq, reduceCtorEq]; rfl) Kg24
   ·refine og g24 ?_
    refine og g24 ?_
    refine og g24 ?_
    exact wj 95 [93, 94, 95] (ifF g24 undef _) (by simp only [go_sem, reduceIte, Nat.reduceEqDiff, Nat.reduceBEq, reduceCtorEq]) Kg24
  refine qq (Qt.pickAnd rfl rfl rfl) ?_
  refine qr 2 ?_
  simp only [retX, slotL, reduceIte, Nat.reduceEqDiff]
  congr 2
  rw [Bool.eq_iff_iff]
  simp [insOk, reg, place, word, *]
  try omega
 try simp only [cnd] at c22
 refine jd (sr ?_)
 refine qr 2 ?_
 simp only [retX, slotL, reduceIte, Nat.reduceEqDiff]
 congr 2
 rw [Bool.eq_iff_iff]
 simp [insOk, reg, place, word, *]
 try omega
end Go.Proofs.YtlploojfcmcckaaDoor.VM
