/- Contracts. No conditions. -/
import Derived.Test.YthjfgpkjooaahaaGreatCU2
set_option linter.all false
set_option maxHeartbeats 8000000
set_option maxRecDepth 10000
namespace Go.Proofs.YthjfgpkjooaahaaGreat.VM
open Go Go.RowKit Go.Proofs

def reg (x : Int) : Bool := decide (0 ≤ x) && decide (x ≤ 3)
def place (x : Int) : Bool := decide (0 ≤ x) && decide (x ≤ 40)
def insOk (i : DIns) : Bool :=
 if i.Op = 1 then reg i.A && (word i.B && decide (i.C = 0))
 else if i.Op = 2 ∨ i.Op = 3 then reg i.A && (reg i.B && reg i.C)
 else if i.Op = 4 ∨ i.Op = 5 then reg i.A && (reg i.B && decide (i.C = 0))
 else if i.Op = 6 then place i.A && (decide (i.B = 0) && decide (i.C = 0))
 else if i.Op = 7 then reg i.A && (place i.B && decide (i.C = 0))
 else if i.Op = 8 then (decide (1 ≤ i.A) && decide (i.A ≤ 20)) && (decide (i.B = 0) && decide (i.C = 0))
 else false
def progOk (l : List DIns) : Bool := decide (l.length ≤ 40) && l.all insOk
theorem regL (x : Int) : (decide (0 ≤ x) && decide (x < 4)) = reg x := by
 unfold reg
 congr 2
 apply propext; omega

theorem l3Reg_con (x : Int) : Con Tryz.prog 364 [.v (iv x)] [] (fun y _ => y = .v (.bool (reg x))) := by
 refine ob Tryz.func364 Tryz.ntmps364 ?_
 refine go [.R,.a,.Z,.R,.m,.b,.N,.m] (k := ?_)
 apply AWL.cut 2
 ·intro Kg1
  refine AWL.split 5 rfl (fun g1 => ?_) (fun g1 => ?_)
  ·refine go [.m,.b,.N] (k := ?_)
   exact wjT 7 [6, 7] (ifT g1 _ undef) Kg1
  ·refine go [.x,.x] (k := ?_)
   exact wjF 7 [6, 7] (ifF g1 undef _) Kg1
 refine qq (Qt.pickAnd rfl rfl rfl) ?_
 refine go [.a,.Z] (k := ?_)
 refine rt1 2 ?_
 rw [← regL]
 rfl
theorem isReg_con (x : Int) : Con Tryz.prog 330 [.v (iv x)] [] (fun y _ => y = .v (.bool (reg x))) := by
 refine ob Tryz.func330 Tryz.ntmps330 ?_
 refine go [.R,.a,.Z,.R,.m] (k := ?_)
 refine cv Tryz.call152 rfl rfl (inU_con _ _ _) ?_
 refine go [.N,.a,.Z] (k := ?_)
 refine rt1 2 ?_
 rfl
theorem InsOkS_con (i : DIns) : Con Tryz.prog 326 [.g [.v (iv i.Op), .v (iv i.A), .v (iv i.B), .v (iv i.C)]] [] (fun y _ => y = .v (.bool (insOk i))) := by
 refine ob Tryz.func326 Tryz.ntmps326 ?_
 refine go [.R,.B,.N,.a,.Z,.R,.f,.l,.N,.f,.l,.u,.N,.A,.N,.s,.Z,.R,.a,.Z,.R2,.f,.N,.l,.Z] (k := ?_)
 refine AW.block (sr ?_)
 refine go [.b,.a,.Z] (k := ?_)
 refine cd (fun c1 => ?_) fun c1 => ?_
 ·try simp only [cnd] at c1
  refine go [.R,.f,.N,.l,.f,.s,.Z,.R1,.f,.N,.l] (k := ?_)
  refine cv Tryz.call364 rfl rfl (l3Reg_con _) ?_
  refine go [.N,.m] (k := ?_)
  apply AWL.cut 3
  ·intro Kg2
   refine AWL.split 20 rfl (fun g2 => ?_) (fun g2 => ?_)
   ·refine go [.f,.l,.N] (k := ?_)
    refine AWL.step rfl g2 (Stp.callV rfl (by decide) Tryz.call135 rfl rfl (l1InU_con _ _ _)) ?_
    refine go [.N] (k := ?_)
    exact wjT 23 [21, 22, 23] (ifT g2 _ undef) Kg2
   ·refine go [.x,.x,.x] (k := ?_)
    exact wjF 23 [21, 22, 23] (ifF g2 undef _) Kg2
  refine qq (Qt.pickAnd rfl rfl rfl) ?_
  refine go [.a,.Z,.R,.m,.N,.m] (k := ?_)
  apply AWL.cut 3
  ·intro Kg3
   refine AWL.split 85 rfl (fun g3 => ?_) (fun g3 => ?_)
   ·refine go [.G,.G,.N] (k := ?_)
    refine qg g3 (Qt.eqS (eq220 _ _ _ _ _ _ _ _) rfl rfl) ?_
    exact wjT 88 [86, 87, 88] (ifT g3 _ undef) Kg3
   ·refine go [.x,.x,.x] (k := ?_)
    exact wjF 88 [86, 87, 88] (ifF g3 undef _) Kg3
  refine qq (Qt.pickAnd rfl rfl rfl) ?_
  refine go [.a,.Z] (k := ?_)
  refine rt1 2 ?_
  simp only [retX, slotL, reduceIte, Nat.reduceEqDiff]
  congr 2
  rw [Bool.eq_iff_iff]
  simp [insOk, reg, place, word, *]
  try omega
 try simp only [cnd] at c1
 refine go [.R2,.b,.N,.a,.Z] (k := ?_)
 refine cd (fun c4 => ?_) fun c4 => ?_
 ·have k4 := c4
  try simp only [cnd] at c4
  refine go [.J] (k := ?_)
  refine AW.condT rfl k4 ?_
  refine go [.R,.f,.l,.N,.f,.s,.Z,.R,.f,.N,.l,.f,.s,.Z,.R1,.f,.N,.l] (k := ?_)
  refine cv Tryz.call364 rfl rfl (l3Reg_con _) ?_
  refine go [.N,.m] (k := ?_)
  apply AWL.cut 3
  ·intro Kg5
   refine AWL.split 37 rfl (fun g5 => ?_) (fun g5 => ?_)
   ·refine go [.f,.l,.N] (k := ?_)
    refine AWL.step rfl g5 (Stp.callV rfl (by decide) Tryz.call364 rfl rfl (l3Reg_con _)) ?_
    refine go [.N] (k := ?_)
    exact wjT 40 [38, 39, 40] (ifT g5 _ undef) Kg5
   ·refine go [.x,.x,.x] (k := ?_)
    exact wjF 40 [38, 39, 40] (ifF g5 undef _) Kg5
  refine qq (Qt.pickAnd rfl rfl rfl) ?_
  refine go [.m] (k := ?_)
  apply AWL.cut 3
  ·intro Kg6
   refine AWL.split 42 rfl (fun g6 => ?_) (fun g6 => ?_)
   ·refine go [.f,.N,.l] (k := ?_)
    refine AWL.step rfl g6 (Stp.callV rfl (by decide) Tryz.call364 rfl rfl (l3Reg_con _)) ?_
    refine go [.N] (k := ?_)
    exact wjT 45 [43, 44, 45] (ifT g6 _ undef) Kg6
   ·refine go [.x,.x,.x] (k := ?_)
    exact wjF 45 [43, 44, 45] (ifF g6 undef _) Kg6
  refine qq (Qt.pickAnd rfl rfl rfl) ?_
  refine go [.a,.Z,.R,.m,.N,.m] (k := ?_)
  apply AWL.cut 3
  ·intro Kg7
   refine AWL.split 85 rfl (fun g7 => ?_) (fun g7 => ?_)
   ·refine go [.G,.G,.N] (k := ?_)
    refine qg g7 (Qt.eqS (eq220 _ _ _ _ _ _ _ _) rfl rfl) ?_
    exact wjT 88 [86, 87, 88] (ifT g7 _ undef) Kg7
   ·refine go [.x,.x,.x] (k := ?_)
    exact wjF 88 [86, 87, 88] (ifF g7 undef _) Kg7
  refine qq (Qt.pickAnd rfl rfl rfl) ?_
  refine go [.a,.Z] (k := ?_)
  refine rt1 2 ?_
  simp only [retX, slotL, reduceIte, Nat.reduceEqDiff]
  congr 2
  rw [Bool.eq_iff_iff]
  simp [insOk, reg, place, word, *]
  try omega
 have k4 := c4
 try simp only [cnd] at c4
 refine go [.R1,.b,.N,.a,.Z] (k := ?_)
 refine cd (fun c8 => ?_) fun c8 => ?_
 ·try simp only [cnd] at c8
  refine go [.R,.f,.l,.N,.f,.s,.Z,.R,.f,.N,.l,.f,.s,.Z,.R1,.f,.N,.l] (k := ?_)
  refine cv Tryz.call364 rfl rfl (l3Reg_con _) ?_
  refine go [.N,.m] (k := ?_)
  apply AWL.cut 3
  ·intro Kg9
   refine AWL.split 37 rfl (fun g9 => ?_) (fun g9 => ?_)
   ·refine go [.f,.l,.N] (k := ?_)
    refine AWL.step rfl g9 (Stp.callV rfl (by decide) Tryz.call364 rfl rfl (l3Reg_con _)) ?_
    refine go [.N] (k := ?_)
    exact wjT 40 [38, 39, 40] (ifT g9 _ undef) Kg9
   ·refine go [.x,.x,.x] (k := ?_)
    exact wjF 40 [38, 39, 40] (ifF g9 undef _) Kg9
  refine qq (Qt.pickAnd rfl rfl rfl) ?_
  refine go [.m] (k := ?_)
  apply AWL.cut 3
  ·intro Kg10
   refine AWL.split 42 rfl (fun g10 => ?_) (fun g10 => ?_)
   ·refine go [.f,.N,.l] (k := ?_)
    refine AWL.step rfl g10 (Stp.callV rfl (by decide) Tryz.call364 rfl rfl (l3Reg_con _)) ?_
    refine go [.N] (k := ?_)
    exact wjT 45 [43, 44, 45] (ifT g10 _ undef) Kg10
   ·refine go [.x,.x,.x] (k := ?_)
    exact wjF 45 [43, 44, 45] (ifF g10 undef _) Kg10
  refine qq (Qt.pickAnd rfl rfl rfl) ?_
  refine go [.a,.Z,.R,.m,.N,.m] (k := ?_)
  apply AWL.cut 3
  ·intro Kg11
   refine AWL.split 85 rfl (fun g11 => ?_) (fun g11 => ?_)
   ·refine go [.G,.G,.N] (k := ?_)
    refine qg g11 (Qt.eqS (eq220 _ _ _ _ _ _ _ _) rfl rfl) ?_
    exact wjT 88 [86, 87, 88] (ifT g11 _ undef) Kg11
   ·refine go [.x,.x,.x] (k := ?_)
    exact wjF 88 [86, 87, 88] (ifF g11 undef _) Kg11
  refine qq (Qt.pickAnd rfl rfl rfl) ?_
  refine go [.a,.Z] (k := ?_)
  refine rt1 2 ?_
  simp only [retX, slotL, reduceIte, Nat.reduceEqDiff]
  congr 2
  rw [Bool.eq_iff_iff]
  simp [insOk, reg, place, word, *]
  try omega
 try simp only [cnd] at c8
 refine go [.R2,.b,.N,.a,.Z] (k := ?_)
 refine cd (fun c12 => ?_) fun c12 => ?_
 ·have k12 := c12
  try simp only [cnd] at c12
  refine go [.J] (k := ?_)
  refine AW.condT rfl k12 ?_
  refine go [.R,.f,.l,.N,.f,.s,.Z,.R1,.f,.N,.l] (k := ?_)
  refine cv Tryz.call364 rfl rfl (l3Reg_con _) ?_
  refine go [.N,.m] (k := ?_)
  apply AWL.cut 3
  ·intro Kg13
   refine AWL.split 56 rfl (fun g13 => ?_) (fun g13 => ?_)
   ·refine go [.f,.l,.N] (k := ?_)
    refine AWL.step rfl g13 (Stp.callV rfl (by decide) Tryz.call364 rfl rfl (l3Reg_con _)) ?_
    refine go [.N] (k := ?_)
    exact wjT 59 [57, 58, 59] (ifT g13 _ undef) Kg13
   ·refine go [.x,.x,.x] (k := ?_)
    exact wjF 59 [57, 58, 59] (ifF g13 undef _) Kg13
  refine qq (Qt.pickAnd rfl rfl rfl) ?_
  refine go [.a,.Z,.R,.m,.N,.m] (k := ?_)
  apply AWL.cut 3
  ·intro Kg14
   refine AWL.split 85 rfl (fun g14 => ?_) (fun g14 => ?_)
   ·refine go [.G,.G,.N] (k := ?_)
    refine qg g14 (Qt.eqS (eq220 _ _ _ _ _ _ _ _) rfl rfl) ?_
    exact wjT 88 [86, 87, 88] (ifT g14 _ undef) Kg14
   ·refine go [.x,.x,.x] (k := ?_)
    exact wjF 88 [86, 87, 88] (ifF g14 undef _) Kg14
  refine qq (Qt.pickAnd rfl rfl rfl) ?_
  refine go [.a,.Z] (k := ?_)
  refine rt1 2 ?_
  simp only [retX, slotL, reduceIte, Nat.reduceEqDiff]
  congr 2
  rw [Bool.eq_iff_iff]
  simp [insOk, reg, place, word, *]
  try omega
 have k12 := c12
 try simp only [cnd] at c12
 refine go [.R1,.b,.N,.a,.Z] (k := ?_)
 refine cd (fun c15 => ?_) fun c15 => ?_
 ·try simp only [cnd] at c15
  refine go [.R,.f,.l,.N,.f,.s,.Z,.R1,.f,.N,.l] (k := ?_)
  refine cv Tryz.call364 rfl rfl (l3Reg_con _) ?_
  refine go [.N,.m] (k := ?_)
  apply AWL.cut 3
  ·intro Kg16
   refine AWL.split 56 rfl (fun g16 => ?_) (fun g16 => ?_)
   ·refine go [.f,.l,.N] (k := ?_)
    refine AWL.step rfl g16 (Stp.callV rfl (by decide) Tryz.call364 rfl rfl (l3Reg_con _)) ?_
    refine go [.N] (k := ?_)
    exact wjT 59 [57, 58, 59] (ifT g16 _ undef) Kg16
   ·refine go [.x,.x,.x] (k := ?_)
    exact wjF 59 [57, 58, 59] (ifF g16 undef _) Kg16
  refine qq (Qt.pickAnd rfl rfl rfl) ?_
  refine go [.a,.Z,.R,.m,.N,.m] (k := ?_)
  apply AWL.cut 3
  ·intro Kg17
   refine AWL.split 85 rfl (fun g17 => ?_) (fun g17 => ?_)
   ·refine go [.G,.G,.N] (k := ?_)
    refine qg g17 (Qt.eqS (eq220 _ _ _ _ _ _ _ _) rfl rfl) ?_
    exact wjT 88 [86, 87, 88] (ifT g17 _ undef) Kg17
   ·refine go [.x,.x,.x] (k := ?_)
    exact wjF 88 [86, 87, 88] (ifF g17 undef _) Kg17
  refine qq (Qt.pickAnd rfl rfl rfl) ?_
  refine go [.a,.Z] (k := ?_)
  refine rt1 2 ?_
  simp only [retX, slotL, reduceIte, Nat.reduceEqDiff]
  congr 2
  rw [Bool.eq_iff_iff]
  simp [insOk, reg, place, word, *]
  try omega
 try simp only [cnd] at c15
 refine go [.R,.b,.N,.a,.Z] (k := ?_)
 refine cd (fun c18 => ?_) fun c18 => ?_
 ·try simp only [cnd] at c18
  refine go [.R1,.f,.l,.N] (k := ?_)
  refine cv Tryz.call135 rfl rfl (l1InU_con _ _ _) ?_
  refine go [.N,.a,.Z,.R,.m,.m,.N] (k := ?_)
  apply AWL.cut 3
  ·intro Kg19
   refine AWL.split 85 rfl (fun g19 => ?_) (fun g19 => ?_)
   ·refine go [.G,.G] (k := ?_)
    refine qg g19 (Qt.eqS (eq220 _ _ _ _ _ _ _ _) rfl rfl) ?_
    refine go [.N] (k := ?_)
    exact wjT 88 [86, 87, 88] (ifT g19 _ undef) Kg19
   ·refine go [.x,.x,.x] (k := ?_)
    exact wjF 88 [86, 87, 88] (ifF g19 undef _) Kg19
  refine qq (Qt.pickAnd rfl rfl rfl) ?_
  refine go [.a,.Z] (k := ?_)
  refine rt1 2 ?_
  simp only [retX, slotL, reduceIte, Nat.reduceEqDiff]
  congr 2
  rw [Bool.eq_iff_iff]
  simp [insOk, reg, place, word, *]
  try omega
 try simp only [cnd] at c18
 refine go [.R,.b,.N,.a,.Z] (k := ?_)
 refine cd (fun c20 => ?_) fun c20 => ?_
 ·try simp only [cnd] at c20
  refine go [.R,.f,.l,.N,.f,.s,.Z,.R1,.f,.N,.l] (k := ?_)
  refine cv Tryz.call364 rfl rfl (l3Reg_con _) ?_
  refine go [.N,.m] (k := ?_)
  apply AWL.cut 3
  ·intro Kg21
   refine AWL.split 74 rfl (fun g21 => ?_) (fun g21 => ?_)
   ·refine go [.f,.l,.N] (k := ?_)
    refine AWL.step rfl g21 (Stp.callV rfl (by decide) Tryz.call135 rfl rfl (l1InU_con _ _ _)) ?_
    refine go [.N] (k := ?_)
    exact wjT 77 [75, 76, 77] (ifT g21 _ undef) Kg21
   ·refine go [.x,.x,.x] (k := ?_)
    exact wjF 77 [75, 76, 77] (ifF g21 undef _) Kg21
  refine qq (Qt.pickAnd rfl rfl rfl) ?_
  refine go [.a,.Z,.R,.m,.N,.m] (k := ?_)
  apply AWL.cut 3
  ·intro Kg22
   refine AWL.split 85 rfl (fun g22 => ?_) (fun g22 => ?_)
   ·refine go [.G,.G,.N] (k := ?_)
    refine qg g22 (Qt.eqS (eq220 _ _ _ _ _ _ _ _) rfl rfl) ?_
    exact wjT 88 [86, 87, 88] (ifT g22 _ undef) Kg22
   ·refine go [.x,.x,.x] (k := ?_)
    exact wjF 88 [86, 87, 88] (ifF g22 undef _) Kg22
  refine qq (Qt.pickAnd rfl rfl rfl) ?_
  refine go [.a,.Z] (k := ?_)
  refine rt1 2 ?_
  simp only [retX, slotL, reduceIte, Nat.reduceEqDiff]
  congr 2
  rw [Bool.eq_iff_iff]
  simp [insOk, reg, place, word, *]
  try omega
 try simp only [cnd] at c20
 refine go [.R,.b,.N,.a,.Z] (k := ?_)
 refine cd (fun c23 => ?_) fun c23 => ?_
 ·try simp only [cnd] at c23
  refine go [.R1,.f,.l,.N] (k := ?_)
  refine cv Tryz.call135 rfl rfl (l1InU_con _ _ _) ?_
  refine go [.N,.a,.Z,.R,.m,.m,.N] (k := ?_)
  apply AWL.cut 3
  ·intro Kg24
   refine AWL.split 85 rfl (fun g24 => ?_) (fun g24 => ?_)
   ·refine go [.G,.G] (k := ?_)
    refine qg g24 (Qt.eqS (eq220 _ _ _ _ _ _ _ _) rfl rfl) ?_
    refine go [.N] (k := ?_)
    exact wjT 88 [86, 87, 88] (ifT g24 _ undef) Kg24
   ·refine go [.x,.x,.x] (k := ?_)
    exact wjF 88 [86, 87, 88] (ifF g24 undef _) Kg24
  refine qq (Qt.pickAnd rfl rfl rfl) ?_
  refine go [.a,.Z] (k := ?_)
  refine rt1 2 ?_
  simp only [retX, slotL, reduceIte, Nat.reduceEqDiff]
  congr 2
  rw [Bool.eq_iff_iff]
  simp [insOk, reg, place, word, *]
  try omega
 try simp only [cnd] at c23
 refine go [.J,.R,.m,.N,.m] (k := ?_)
 apply AWL.cut 3
 ·intro Kg25
  refine AWL.split 85 rfl (fun g25 => ?_) (fun g25 => ?_)
  ·refine go [.G,.G,.N] (k := ?_)
   refine qg g25 (Qt.eqS (eq220 _ _ _ _ _ _ _ _) rfl rfl) ?_
   exact wjT 88 [86, 87, 88] (ifT g25 _ undef) Kg25
  ·refine go [.x,.x,.x] (k := ?_)
   exact wjF 88 [86, 87, 88] (ifF g25 undef _) Kg25
 refine qq (Qt.pickAnd rfl rfl rfl) ?_
 refine go [.a,.Z] (k := ?_)
 refine rt1 2 ?_
 simp only [retX, slotL, reduceIte, Nat.reduceEqDiff]
 congr 2
 rw [Bool.eq_iff_iff]
 simp [insOk, reg, place, word, *]
 try omega
theorem InsOkI_con (i : DIns) : Con Tryz.prog 261 [.g [.v (iv i.Op), .v (iv i.A), .v (iv i.B), .v (iv i.C)]] [] (fun y _ => y = .v (.bool (insOk i))) := by
 refine ob Tryz.func261 Tryz.ntmps261 ?_
 refine go [.R,.B,.N,.a,.Z,.R2,.f,.l,.Z] (k := ?_)
 refine AW.block (sr ?_)
 refine go [.b,.N,.a,.Z] (k := ?_)
 refine cd (fun c1 => ?_) fun c1 => ?_
 ·try simp only [cnd] at c1
  refine go [.R,.f,.l,.N] (k := ?_)
  refine cv Tryz.call330 rfl rfl (isReg_con _) ?_
  refine go [.N,.m] (k := ?_)
  apply AWL.cut 3
  ·intro Kg2
   refine AWL.split 10 rfl (fun g2 => ?_) (fun g2 => ?_)
   ·refine go [.f,.l,.N] (k := ?_)
    refine AWL.step rfl g2 (Stp.callV rfl (by decide) Tryz.call257 rfl rfl (isWord_con _)) ?_
    refine go [.N] (k := ?_)
    exact wjT 13 [11, 12, 13] (ifT g2 _ undef) Kg2
   ·refine go [.x,.x,.x] (k := ?_)
    exact wjF 13 [11, 12, 13] (ifF g2 undef _) Kg2
  refine qq (Qt.pickAnd rfl rfl rfl) ?_
  refine go [.m] (k := ?_)
  apply AWL.cut 3
  ·intro Kg3
   refine AWL.split 15 rfl (fun g3 => ?_) (fun g3 => ?_)
   ·refine go [.f,.N,.l,.b] (k := ?_)
    exact wjT 18 [16, 17, 18] (ifT g3 _ undef) Kg3
   ·refine go [.x,.x,.x] (k := ?_)
    exact wjF 18 [16, 17, 18] (ifF g3 undef _) Kg3
  refine qq (Qt.pickAnd rfl rfl rfl) ?_
  refine go [.N,.a,.Z] (k := ?_)
  refine rt1 2 ?_
  simp only [retX, slotL, reduceIte, Nat.reduceEqDiff]
  congr 2
  rw [Bool.eq_iff_iff]
  simp [insOk, reg, place, word, *]
  try omega
 try simp only [cnd] at c1
 refine go [.R2,.b,.a,.Z] (k := ?_)
 refine cd (fun c4 => ?_) fun c4 => ?_
 ·have k4 := c4
  try simp only [cnd] at c4
  refine go [.J] (k := ?_)
  refine AW.condT rfl k4 ?_
  refine go [.R,.f,.N,.l] (k := ?_)
  refine cv Tryz.call330 rfl rfl (isReg_con _) ?_
  refine go [.N,.m] (k := ?_)
  apply AWL.cut 3
  ·intro Kg5
   refine AWL.split 26 rfl (fun g5 => ?_) (fun g5 => ?_)
   ·refine go [.f,.l,.N] (k := ?_)
    refine AWL.step rfl g5 (Stp.callV rfl (by decide) Tryz.call330 rfl rfl (isReg_con _)) ?_
    refine go [.N] (k := ?_)
    exact wjT 29 [27, 28, 29] (ifT g5 _ undef) Kg5
   ·refine go [.x,.x,.x] (k := ?_)
    exact wjF 29 [27, 28, 29] (ifF g5 undef _) Kg5
  refine qq (Qt.pickAnd rfl rfl rfl) ?_
  refine go [.m] (k := ?_)
  apply AWL.cut 3
  ·intro Kg6
   refine AWL.split 31 rfl (fun g6 => ?_) (fun g6 => ?_)
   ·refine go [.f,.N,.l] (k := ?_)
    refine AWL.step rfl g6 (Stp.callV rfl (by decide) Tryz.call330 rfl rfl (isReg_con _)) ?_
    refine go [.N] (k := ?_)
    exact wjT 34 [32, 33, 34] (ifT g6 _ undef) Kg6
   ·refine go [.x,.x,.x] (k := ?_)
    exact wjF 34 [32, 33, 34] (ifF g6 undef _) Kg6
  refine qq (Qt.pickAnd rfl rfl rfl) ?_
  refine go [.a,.Z] (k := ?_)
  refine rt1 2 ?_
  simp only [retX, slotL, reduceIte, Nat.reduceEqDiff]
  congr 2
  rw [Bool.eq_iff_iff]
  simp [insOk, reg, place, word, *]
  try omega
 have k4 := c4
 try simp only [cnd] at c4
 refine go [.R1,.b,.N,.a,.Z] (k := ?_)
 refine cd (fun c7 => ?_) fun c7 => ?_
 ·try simp only [cnd] at c7
  refine go [.R,.f,.l,.N] (k := ?_)
  refine cv Tryz.call330 rfl rfl (isReg_con _) ?_
  refine go [.N,.m] (k := ?_)
  apply AWL.cut 3
  ·intro Kg8
   refine AWL.split 26 rfl (fun g8 => ?_) (fun g8 => ?_)
   ·refine go [.f,.l,.N] (k := ?_)
    refine AWL.step rfl g8 (Stp.callV rfl (by decide) Tryz.call330 rfl rfl (isReg_con _)) ?_
    refine go [.N] (k := ?_)
    exact wjT 29 [27, 28, 29] (ifT g8 _ undef) Kg8
   ·refine go [.x,.x,.x] (k := ?_)
    exact wjF 29 [27, 28, 29] (ifF g8 undef _) Kg8
  refine qq (Qt.pickAnd rfl rfl rfl) ?_
  refine go [.m] (k := ?_)
  apply AWL.cut 3
  ·intro Kg9
   refine AWL.split 31 rfl (fun g9 => ?_) (fun g9 => ?_)
   ·refine go [.f,.N,.l] (k := ?_)
    refine AWL.step rfl g9 (Stp.callV rfl (by decide) Tryz.call330 rfl rfl (isReg_con _)) ?_
    refine go [.N] (k := ?_)
    exact wjT 34 [32, 33, 34] (ifT g9 _ undef) Kg9
   ·refine go [.x,.x,.x] (k := ?_)
    exact wjF 34 [32, 33, 34] (ifF g9 undef _) Kg9
  refine qq (Qt.pickAnd rfl rfl rfl) ?_
  refine go [.a,.Z] (k := ?_)
  refine rt1 2 ?_
  simp only [retX, slotL, reduceIte, Nat.reduceEqDiff]
  congr 2
  rw [Bool.eq_iff_iff]
  simp [insOk, reg, place, word, *]
  try omega
 try simp only [cnd] at c7
 refine go [.R2,.b,.N,.a,.Z] (k := ?_)
 refine cd (fun c10 => ?_) fun c10 => ?_
 ·have k10 := c10
  try simp only [cnd] at c10
  refine go [.J] (k := ?_)
  refine AW.condT rfl k10 ?_
  refine go [.R,.f,.l,.N] (k := ?_)
  refine cv Tryz.call330 rfl rfl (isReg_con _) ?_
  refine go [.N,.m] (k := ?_)
  apply AWL.cut 3
  ·intro Kg11
   refine AWL.split 42 rfl (fun g11 => ?_) (fun g11 => ?_)
   ·refine go [.f,.l,.N] (k := ?_)
    refine AWL.step rfl g11 (Stp.callV rfl (by decide) Tryz.call330 rfl rfl (isReg_con _)) ?_
    refine go [.N] (k := ?_)
    exact wjT 45 [43, 44, 45] (ifT g11 _ undef) Kg11
   ·refine go [.x,.x,.x] (k := ?_)
    exact wjF 45 [43, 44, 45] (ifF g11 undef _) Kg11
  refine qq (Qt.pickAnd rfl rfl rfl) ?_
  refine go [.m] (k := ?_)
  apply AWL.cut 3
  ·intro Kg12
   refine AWL.split 47 rfl (fun g12 => ?_) (fun g12 => ?_)
   ·refine go [.f,.N,.l,.b] (k := ?_)
    exact wjT 50 [48, 49, 50] (ifT g12 _ undef) Kg12
   ·refine go [.x,.x,.x] (k := ?_)
    exact wjF 50 [48, 49, 50] (ifF g12 undef _) Kg12
  refine qq (Qt.pickAnd rfl rfl rfl) ?_
  refine go [.N,.a,.Z] (k := ?_)
  refine rt1 2 ?_
  simp only [retX, slotL, reduceIte, Nat.reduceEqDiff]
  congr 2
  rw [Bool.eq_iff_iff]
  simp [insOk, reg, place, word, *]
  try omega
 have k10 := c10
 try simp only [cnd] at c10
 refine go [.R1,.b,.a,.Z] (k := ?_)
 refine cd (fun c13 => ?_) fun c13 => ?_
 ·try simp only [cnd] at c13
  refine go [.R,.f,.N,.l] (k := ?_)
  refine cv Tryz.call330 rfl rfl (isReg_con _) ?_
  refine go [.N,.m] (k := ?_)
  apply AWL.cut 3
  ·intro Kg14
   refine AWL.split 42 rfl (fun g14 => ?_) (fun g14 => ?_)
   ·refine go [.f,.l,.N] (k := ?_)
    refine AWL.step rfl g14 (Stp.callV rfl (by decide) Tryz.call330 rfl rfl (isReg_con _)) ?_
    refine go [.N] (k := ?_)
    exact wjT 45 [43, 44, 45] (ifT g14 _ undef) Kg14
   ·refine go [.x,.x,.x] (k := ?_)
    exact wjF 45 [43, 44, 45] (ifF g14 undef _) Kg14
  refine qq (Qt.pickAnd rfl rfl rfl) ?_
  refine go [.m] (k := ?_)
  apply AWL.cut 3
  ·intro Kg15
   refine AWL.split 47 rfl (fun g15 => ?_) (fun g15 => ?_)
   ·refine go [.f,.N,.l,.b] (k := ?_)
    exact wjT 50 [48, 49, 50] (ifT g15 _ undef) Kg15
   ·refine go [.x,.x,.x] (k := ?_)
    exact wjF 50 [48, 49, 50] (ifF g15 undef _) Kg15
  refine qq (Qt.pickAnd rfl rfl rfl) ?_
  refine go [.N,.a,.Z] (k := ?_)
  refine rt1 2 ?_
  simp only [retX, slotL, reduceIte, Nat.reduceEqDiff]
  congr 2
  rw [Bool.eq_iff_iff]
  simp [insOk, reg, place, word, *]
  try omega
 try simp only [cnd] at c13
 refine go [.R,.b,.a,.Z] (k := ?_)
 refine cd (fun c16 => ?_) fun c16 => ?_
 ·try simp only [cnd] at c16
  refine go [.R,.f,.N,.l] (k := ?_)
  refine cv Tryz.call331 rfl rfl (isPlace_con _) ?_
  refine go [.N,.m] (k := ?_)
  apply AWL.cut 3
  ·intro Kg17
   refine AWL.split 57 rfl (fun g17 => ?_) (fun g17 => ?_)
   ·refine go [.f,.l,.N,.b] (k := ?_)
    exact wjT 60 [58, 59, 60] (ifT g17 _ undef) Kg17
   ·refine go [.x,.x,.x] (k := ?_)
    exact wjF 60 [58, 59, 60] (ifF g17 undef _) Kg17
  refine qq (Qt.pickAnd rfl rfl rfl) ?_
  refine go [.m,.N] (k := ?_)
  apply AWL.cut 3
  ·intro Kg18
   refine AWL.split 62 rfl (fun g18 => ?_) (fun g18 => ?_)
   ·refine go [.f,.l,.b,.N] (k := ?_)
    exact wjT 65 [63, 64, 65] (ifT g18 _ undef) Kg18
   ·refine go [.x,.x,.x] (k := ?_)
    exact wjF 65 [63, 64, 65] (ifF g18 undef _) Kg18
  refine qq (Qt.pickAnd rfl rfl rfl) ?_
  refine go [.a,.Z] (k := ?_)
  refine rt1 2 ?_
  simp only [retX, slotL, reduceIte, Nat.reduceEqDiff]
  congr 2
  rw [Bool.eq_iff_iff]
  simp [insOk, reg, place, word, *]
  try omega
 try simp only [cnd] at c16
 refine go [.R,.b,.N,.a,.Z] (k := ?_)
 refine cd (fun c19 => ?_) fun c19 => ?_
 ·try simp only [cnd] at c19
  refine go [.R,.f,.l,.N] (k := ?_)
  refine cv Tryz.call330 rfl rfl (isReg_con _) ?_
  refine go [.N,.m] (k := ?_)
  apply AWL.cut 3
  ·intro Kg20
   refine AWL.split 72 rfl (fun g20 => ?_) (fun g20 => ?_)
   ·refine go [.f,.l,.N] (k := ?_)
    refine AWL.step rfl g20 (Stp.callV rfl (by decide) Tryz.call331 rfl rfl (isPlace_con _)) ?_
    refine go [.N] (k := ?_)
    exact wjT 75 [73, 74, 75] (ifT g20 _ undef) Kg20
   ·refine go [.x,.x,.x] (k := ?_)
    exact wjF 75 [73, 74, 75] (ifF g20 undef _) Kg20
  refine qq (Qt.pickAnd rfl rfl rfl) ?_
  refine go [.m] (k := ?_)
  apply AWL.cut 3
  ·intro Kg21
   refine AWL.split 77 rfl (fun g21 => ?_) (fun g21 => ?_)
   ·refine go [.f,.N,.l,.b] (k := ?_)
    exact wjT 80 [78, 79, 80] (ifT g21 _ undef) Kg21
   ·refine go [.x,.x,.x] (k := ?_)
    exact wjF 80 [78, 79, 80] (ifF g21 undef _) Kg21
  refine qq (Qt.pickAnd rfl rfl rfl) ?_
  refine go [.N,.a,.Z] (k := ?_)
  refine rt1 2 ?_
  simp only [retX, slotL, reduceIte, Nat.reduceEqDiff]
  congr 2
  rw [Bool.eq_iff_iff]
  simp [insOk, reg, place, word, *]
  try omega
 try simp only [cnd] at c19
 refine go [.R,.b,.a,.Z] (k := ?_)
 refine cd (fun c22 => ?_) fun c22 => ?_
 ·try simp only [cnd] at c22
  refine go [.R,.f,.N,.l] (k := ?_)
  refine cv Tryz.call152 rfl rfl (inU_con _ _ _) ?_
  refine go [.N,.m] (k := ?_)
  apply AWL.cut 3
  ·intro Kg23
   refine AWL.split 87 rfl (fun g23 => ?_) (fun g23 => ?_)
   ·refine go [.f,.l,.N,.b] (k := ?_)
    exact wjT 90 [88, 89, 90] (ifT g23 _ undef) Kg23
   ·refine go [.x,.x,.x] (k := ?_)
    exact wjF 90 [88, 89, 90] (ifF g23 undef _) Kg23
  refine qq (Qt.pickAnd rfl rfl rfl) ?_
  refine go [.m,.N] (k := ?_)
  apply AWL.cut 3
  ·intro Kg24
   refine AWL.split 92 rfl (fun g24 => ?_) (fun g24 => ?_)
   ·refine go [.f,.l,.b,.N] (k := ?_)
    exact wjT 95 [93, 94, 95] (ifT g24 _ undef) Kg24
   ·refine go [.x,.x,.x] (k := ?_)
    exact wjF 95 [93, 94, 95] (ifF g24 undef _) Kg24
  refine qq (Qt.pickAnd rfl rfl rfl) ?_
  refine go [.a,.Z] (k := ?_)
  refine rt1 2 ?_
  simp only [retX, slotL, reduceIte, Nat.reduceEqDiff]
  congr 2
  rw [Bool.eq_iff_iff]
  simp [insOk, reg, place, word, *]
  try omega
 try simp only [cnd] at c22
 refine go [.J,.R,.a,.Z] (k := ?_)
 refine rt1 2 ?_
 simp only [retX, slotL, reduceIte, Nat.reduceEqDiff]
 congr 2
 rw [Bool.eq_iff_iff]
 simp [insOk, reg, place, word, *]
 try omega
end Go.Proofs.YthjfgpkjooaahaaGreat.VM

