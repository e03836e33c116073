/- Contracts of functions of the program. No conditions beyond those that each states. -/
import Derived.Test.YtbchjcapphclgaaCJM
set_option linter.all false
namespace Go.Proofs.Ytbchjcapphclgaa.VM
open Go Go.RowKit Go.Proofs
set_option maxRecDepth 10000 in
theorem in_con (x lo hi : Int) : Con Try.prog 34 [.v (iv x), .v (iv lo), .v (iv hi)] [] (fun y _ => y = .v (.bool (decide (lo ≤ x) && decide (x ≤ hi)))) := by
 refine Con.of_body Try.func34 rfl (by simp) ?_
 rw [Try.ntmps34]
 refine AW.seq (AW.region ?_)
 refine qq Qt.assign ?_
 refine nl ?_
 refine AW.seq (AW.region ?_)
 refine qq Qt.move ?_
 refine qq Qt.move ?_
 refine nm ?_
 refine qq (Qt.binOp rfl rfl rfl) ?_
 refine qq Qt.move ?_
 apply AWL.cut 3
 ·intro Kg1
  refine AWL.split 10 rfl (fun g1 => ?_) (fun g1 => ?_)
  ·refine qg g1 Qt.move ?_
   refine nm ?_
   refine qg g1 Qt.move ?_
   refine qg g1 (Qt.binOp rfl rfl rfl) ?_
   exact wj 13 [11, 12, 13] (ifT g1 _ undef) (by simp only [go_sem, Int.reduceToNat, Nat.reduceLT, reduceIte, Nat.reduceEqDiff, Nat.reduceAdd, Nat.reduceMul, Nat.reduceBEq, reduceCtorEq]; rfl) Kg1
  ·refine og g1 ?_
   refine og g1 ?_
   refine og g1 ?_
   exact wj 13 [11, 12, 13] (ifF g1 undef _) (by simp only [go_sem, Int.reduceToNat, Nat.reduceLT, reduceIte, Nat.reduceEqDiff, Nat.reduceAdd, Nat.reduceMul, Nat.reduceBEq, reduceCtorEq]) Kg1
 refine qq (Qt.pickAnd rfl rfl rfl) ?_
 refine nm ?_
 refine qq Qt.assign ?_
 refine nl ?_
 refine AW.ret (endQ_ret (.cons (.tmp 6) .nil) ?_)
 rfl
set_option maxRecDepth 10000 in
theorem l1In_con (x lo hi : Int) : Con Try.prog 38 [.v (iv x), .v (iv lo), .v (iv hi)] [] (fun y _ => y = .v (.bool (decide (lo ≤ x) && decide (x ≤ hi)))) := by
 refine Con.of_body Try.func38 rfl (by simp) ?_
 rw [Try.ntmps38]
 refine AW.seq (AW.region ?_)
 refine qq Qt.assign ?_
 refine nl ?_
 refine AW.seq (AW.region ?_)
 refine qq Qt.move ?_
 refine qq Qt.move ?_
 refine nm ?_
 refine qq (Qt.binOp rfl rfl rfl) ?_
 refine qq Qt.move ?_
 apply AWL.cut 3
 ·intro Kg1
  refine AWL.split 10 rfl (fun g1 => ?_) (fun g1 => ?_)
  ·refine qg g1 Qt.move ?_
   refine nm ?_
   refine qg g1 Qt.move ?_
   refine qg g1 (Qt.binOp rfl rfl rfl) ?_
   exact wj 13 [11, 12, 13] (ifT g1 _ undef) (by simp only [go_sem, Int.reduceToNat, Nat.reduceLT, reduceIte, Nat.reduceEqDiff, Nat.reduceAdd, Nat.reduceMul, Nat.reduceBEq, reduceCtorEq]; rfl) Kg1
  ·refine og g1 ?_
   refine og g1 ?_
   refine og g1 ?_
   exact wj 13 [11, 12, 13] (ifF g1 undef _) (by simp only [go_sem, Int.reduceToNat, Nat.reduceLT, reduceIte, Nat.reduceEqDiff, Nat.reduceAdd, Nat.reduceMul, Nat.reduceBEq, reduceCtorEq]) Kg1
 refine qq (Qt.pickAnd rfl rfl rfl) ?_
 refine nm ?_
 refine qq Qt.assign ?_
 refine nl ?_
 refine AW.ret (endQ_ret (.cons (.tmp 6) .nil) ?_)
 rfl
set_option maxRecDepth 10000 in
theorem isPlace_con (x : Int) : Con Try.prog 46 [.v (iv x)] [] (fun y _ => y = .v (.bool (decide (0 ≤ x) && decide (x ≤ 40)))) := by
 refine Con.of_body Try.func46 rfl (by simp) ?_
 rw [Try.ntmps46]
 refine AW.seq (AW.region ?_)
 refine qq Qt.assign ?_
 refine nl ?_
 refine AW.seq (AW.region ?_)
 refine qq Qt.move ?_
 refine cv Try.call34 rfl rfl (in_con _ _ _) ?_
 refine nm ?_
 refine qq Qt.assign ?_
 refine nl ?_
 refine AW.ret (endQ_ret (.cons (.tmp 2) .nil) ?_)
 rfl
set_option maxRecDepth 10000 in
theorem isWord_con (x : Int) : Con Try.prog 33 [.v (iv x)] [] (fun y _ => y = .v (.bool (decide (-1000000 ≤ x) && decide (x ≤ 1000000)))) := by
 refine Con.of_body Try.func33 rfl (by simp) ?_
 rw [Try.ntmps33]
 refine AW.seq (AW.region ?_)
 refine qq Qt.assign ?_
 refine nl ?_
 refine AW.seq (AW.region ?_)
 refine qq Qt.move ?_
 refine cv Try.call34 rfl rfl (in_con _ _ _) ?_
 refine nm ?_
 refine qq Qt.assign ?_
 refine nl ?_
 refine AW.ret (endQ_ret (.cons (.tmp 2) .nil) ?_)
 rfl
set_option maxRecDepth 10000 in
theorem l5Word_con (x : Int) : Con Try.prog 51 [.v (iv x)] [] (fun y _ => y = .v (.bool (decide (-1000000 ≤ x) && decide (x ≤ 1000000)))) := by
 refine Con.of_body Try.func51 rfl (by simp) ?_
 rw [Try.ntmps51]
 refine AW.seq (AW.region ?_)
 refine qq Qt.assign ?_
 refine nl ?_
 refine AW.seq (AW.region ?_)
 refine qq Qt.move ?_
 refine cv Try.call38 rfl rfl (l1In_con _ _ _) ?_
 refine nm ?_
 refine qq Qt.assign ?_
 refine nl ?_
 refine AW.ret (endQ_ret (.cons (.tmp 2) .nil) ?_)
 rfl
set_option maxRecDepth 10000 in
theorem wordsOk1_con (x : Int) : Con Try.prog 48 [.v (iv x)] [] (fun y _ => y = .v (.bool !(decide (-1000000 ≤ x) && decide (x ≤ 1000000)))) := by
 refine Con.of_body Try.func48 rfl (by simp) ?_
 rw [Try.ntmps48]
 refine AW.seq (AW.region ?_)
 refine qq Qt.assign ?_
 refine nl ?_
 refine AW.seq (AW.region ?_)
 refine qq Qt.move ?_
 refine cv Try.call33 rfl rfl (isWord_con _) ?_
 refine nm ?_
 refine qq (Qt.notB rfl) ?_
 refine qq Qt.assign ?_
 refine nl ?_
 refine AW.ret (endQ_ret (.cons (.tmp 2) .nil) ?_)
 rfl

def word (x : Int) : Bool := decide (-1000000 ≤ x) && decide (x ≤ 1000000)

set_option maxRecDepth 10000 in
theorem l5Words_con (l : List Int) (hl : l.length ≤ 9223372036854775807) : Con Try.prog 36 [.h base []] [.rt base .ro (tr l)] (fun y _ => y = .v (.bool (l.all word))) := by
 refine Con.of_body Try.func36 rfl (by simp) ?_
 rw [Try.ntmps36]
 refine AW.seq (AW.region ?_)
 refine qq Qt.assign ?_
 refine nl ?_
 refine AW.seq (AW.seq (AW.region ?_))
 refine qq Qt.assign ?_
 refine nl ?_
 refine AW.block ?_
 refine AW.loopW (fun i : AllInv word l => [.sl 3 (.v (iv i.k)), .sl 0 (.h base []), .rt base .ro (tr l)]) (fun i => l.length - i.k) ⟨0, Nat.zero_le _, rfl⟩ (Weak.sim ⟨rfl, rfl, Rf rfl, trivial⟩ rfl rfl) ?_
 intro i
 have hle := i.le
 refine AW.seq (AW.seq (AW.region ?_))
 refine qq Qt.move ?_
 refine nm ?_
 refine qq Qt.move ?_
 refine qq (Qt.lenH rfl rfl rfl sl34) ?_
 refine qq (Qt.binOp rfl rfl rfl) ?_
 refine nl ?_
 refine AW.cond rfl (fun c1 => ?_) (fun c1 => ?_)
 ·have k1 := c1
  try simp only [cnd] at c1
  refine jd (AW.seq (AW.block (AW.seq (AW.region ?_))))
  refine qq Qt.move ?_
  refine nm ?_
  refine qq Qt.move ?_
  refine qq (Qt.indexAddr rfl rfl rfl rfl sl34 sz3 (by decide) (by omega)) ?_
  refine qq (Qt.load1 rfl rfl rfl ag3) ?_
  refine nm ?_
  refine cv Try.call51 rfl rfl (l5Word_con _) ?_
  refine nm ?_
  refine qq (Qt.notB rfl) ?_
  refine nl ?_
  refine AW.cond rfl (fun c2 => ?_) (fun c2 => ?_)
  ·have k2 := c2
   try simp only [cnd] at c2
   refine AW.seq (AW.region ?_)
   refine qq Qt.assign ?_
   refine nl ?_
   refine AW.ret (endQ_ret (.cons (.tmp 2) .nil) ?_)
   rw [show l.all word = false from i.stop En.dflt (by omega) (by simp only [word, Bool.and_eq_false_iff, decide_eq_false_iff_not]; omega)]
   rfl
  have k2 := c2
  try simp only [cnd] at c2
  refine jd (AW.region ?_)
  refine qq Qt.move ?_
  refine nm ?_
  refine qq (Qt.binOp rfl rfl (by first | exact pbAdd (by omega) | rfl)) ?_
  refine qq Qt.assign ?_
  refine nl ?_
  refine ⟨⟨i.k + 1, by omega, i.next En.dflt (by omega) (by simpa [word] using c2)⟩, Weak.sim ⟨st1, rfl, Rf rfl, trivial⟩ rfl rfl, ?_⟩
  show l.length - (i.k + 1) < l.length - i.k
  omega
 have k1 := c1
 try simp only [cnd] at c1
 refine AW.exit ?_
 dsimp only [thenQ, blockQ, reduceIte]
 refine AW.seq (AW.region ?_)
 refine qq Qt.assign ?_
 refine nl ?_
 refine AW.ret (endQ_ret (.cons (.tmp 2) .nil) ?_)
 rw [show l.all word = true from i.full (by omega)]
 rfl


set_option maxRecDepth 10000 in
theorem ixFuncI_con {fid : FuncId} {p : Int → Bool} (hE : Ent Try.prog fid) (hp : ∀ x : Int, Con Try.prog fid [.v (iv x)] [] (fun y _ => y = .v (.bool (p x)))) (l : List Int) (hl : l.length ≤ 9223372036854775807) : Con Try.prog 56 [.h base [], .f fid []] [.rt base .ro (tr l)] (fun y _ => y = .v (iv (ixOf p l))) := by
 refine Con.of_body Try.func56 rfl (by simp) ?_
 rw [Try.ntmps56]
 refine AW.seq (AW.region ?_)
 refine qq Qt.assign ?_
 refine nl ?_
 refine AW.seq (AW.seq (AW.region ?_))
 refine qq Qt.move ?_
 refine qq (Qt.lenH rfl rfl rfl sl34) ?_
 refine nm ?_
 refine qq Qt.move ?_
 refine nl ?_
 refine AW.block ?_
 refine AW.loopW (fun i : IxInv p l => [.sl 8 (.v (iv i.k)), .sl 7 (.v (iv l.length)), .sl 0 (.h base []), .sl 1 (.f fid []), .rt base .ro (tr l)]) (fun i => l.length - i.k) ⟨0, Nat.zero_le _, rfl⟩ (Weak.sim ⟨rfl, rfl, rfl, rfl, Rf rfl, trivial⟩ rfl rfl) ?_
 intro i
 have hle := i.le
 refine AW.seq (AW.region ?_)
 refine qq (Qt.binOp rfl rfl rfl) ?_
 refine nl ?_
 refine AW.seq ?_
 refine AW.cond rfl (fun c1 => ?_) (fun c1 => ?_)
 ·have k1 := c1
  try simp only [cnd] at c1
  refine jd (AW.seq (AW.block (AW.seq (AW.region ?_))))
  refine qq Qt.move ?_
  refine nm ?_
  refine qq Qt.assign ?_
  refine nl ?_
  refine AW.seq (AW.region ?_)
  refine qq Qt.move ?_
  refine qq Qt.move ?_
  refine nm ?_
  refine qq Qt.move ?_
  refine qq (Qt.indexAddr rfl rfl rfl rfl sl34 sz3 (by decide) (by omega)) ?_
  refine qq (Qt.load1 rfl rfl rfl ag3) ?_
  refine nm ?_
  refine cv hE rfl rfl (hp _) ?_
  refine nl ?_
  refine AW.cond rfl (fun c2 => ?_) (fun c2 => ?_)
  ·have k2 := c2
   try simp only [cnd] at c2
   refine AW.seq (AW.region ?_)
   refine qq Qt.move ?_
   refine nm ?_
   refine qq Qt.assign ?_
   refine nl ?_
   refine AW.ret (endQ_ret (.cons (.tmp 4) .nil) ?_)
   rw [ixOf_hit i En.dflt (by omega) c2]
   rfl
  have k2 := c2
  try simp only [cnd] at c2
  refine jd (AW.region ?_)
  refine qq (Qt.binOp rfl rfl (by first | exact pbAdd (by omega) | rfl)) ?_
  refine qq Qt.move ?_
  refine nl ?_
  refine ⟨⟨i.k + 1, by omega, i.next En.dflt (by omega) c2⟩, Weak.sim ⟨st1, rfl, rfl, rfl, Rf rfl, trivial⟩ rfl rfl, ?_⟩
  show l.length - (i.k + 1) < l.length - i.k
  omega
 have k1 := c1
 try simp only [cnd] at c1
 refine AW.exit ?_
 dsimp only [thenQ, blockQ, reduceIte]
 refine AW.seq (AW.region ?_)
 refine qq Qt.assign ?_
 refine nl ?_
 refine AW.ret (endQ_ret (.cons (.tmp 4) .nil) ?_)
 rw [ixOf_none i (by omega)]
 rfl
set_option maxRecDepth 10000 in
theorem hasFuncI_con {fid : FuncId} {p : Int → Bool} (hE : Ent Try.prog fid) (hp : ∀ x : Int, Con Try.prog fid [.v (iv x)] [] (fun y _ => y = .v (.bool (p x)))) (l : List Int) (hl : l.length ≤ 9223372036854775807) : Con Try.prog 47 [.h base [], .f fid []] [.rt base .ro (tr l)] (fun y _ => y = .v (.bool (l.any p))) := by
 refine Con.of_body Try.func47 rfl (by simp) ?_
 rw [Try.ntmps47]
 refine AW.seq (AW.region ?_)
 refine qq Qt.assign ?_
 refine nl ?_
 refine AW.seq (AW.region ?_)
 refine qq Qt.move ?_
 refine qq Qt.move ?_
 refine nm ?_
 refine cv Try.call56 rfl rfl (ixFuncI_con hE hp _ hl) ?_
 refine nm ?_
 refine qq (Qt.binOp rfl rfl rfl) ?_
 refine qq Qt.assign ?_
 refine nl ?_
 refine AW.ret (endQ_ret (.cons (.tmp 4) .nil) ?_)
 rw [← ixOf_ge]
 rfl
theorem any_word (l : List Int) : (!(l.any fun x => !word x)) = l.all word := by
 induction l with
 | nil => rfl
 | cons a l ih => simp only [List.any_cons, List.all_cons, Bool.not_or, Bool.not_not, ih]

set_option maxRecDepth 10000 in
theorem wordsOk_con (l : List Int) (hl : l.length ≤ 9223372036854775807) : Con Try.prog 31 [.h base []] [.rt base .ro (tr l)] (fun y _ => y = .v (.bool (l.all word))) := by
 refine Con.of_body Try.func31 rfl (by simp) ?_
 rw [Try.ntmps31]
 refine AW.seq (AW.region ?_)
 refine qq Qt.assign ?_
 refine nl ?_
 refine AW.seq (AW.region ?_)
 refine qq Qt.move ?_
 refine cv Try.call47 rfl rfl (hasFuncI_con Try.call48 (fun x => wordsOk1_con x) _ hl) ?_
 refine nm ?_
 refine qq (Qt.notB rfl) ?_
 refine qq Qt.assign ?_
 refine nl ?_
 refine AW.ret (endQ_ret (.cons (.tmp 2) .nil) ?_)
 rw [← any_word]
 rfl
set_option maxRecDepth 10000 in
theorem CpuOkS_con (pc : Int) (l : List Int) (hl : l.length ≤ 9223372036854775807) : Con Try.prog 17 [.g [.v (iv pc), .h base []]] [.rt base .ro (tr l)] (fun y _ => y = .v (.bool (decide (0 ≤ pc) && decide (pc ≤ 40) && (l.length == 4 && l.all word)))) := by
 refine Con.of_body Try.func17 rfl (by simp) ?_
 rw [Try.ntmps17]
 refine AW.seq (AW.region ?_)
 refine sp (Stp.boxB rfl (by decide) (by decide) rfl rfl rfl rfl) ?_
 refine nm ?_
 refine qq Qt.assign ?_
 refine nl ?_
 refine AW.seq (AW.region ?_)
 refine qq (fA fl36_0) ?_
 refine qq (Qt.load1 rfl rfl rfl ag3) ?_
 refine nm ?_
 refine cv Try.call38 rfl rfl (l1In_con _ _ _) ?_
 refine nm ?_
 refine qq Qt.move ?_
 apply AWL.cut 4
 ·intro Kg1
  refine AWL.split 6 rfl (fun g1 => ?_) (fun g1 => ?_)
  ·refine qg g1 (fA fl36_1) ?_
   refine qg g1 (Qt.load1 rfl rfl rfl ag34) ?_
   refine nm ?_
   refine qg g1 (Qt.lenH rfl rfl rfl sl34) ?_
   refine qg g1 (Qt.binOp rfl rfl rfl) ?_
   exact wj 10 [7, 8, 9, 10] (ifT g1 _ undef) (by simp only [go_sem, Int.reduceToNat, Nat.reduceLT, reduceIte, Nat.reduceEqDiff, Nat.reduceAdd, Nat.reduceMul, Nat.reduceBEq, reduceCtorEq]; rfl) Kg1
  ·refine og g1 ?_
   refine og g1 ?_
   refine og g1 ?_
   refine og g1 ?_
   exact wj 10 [7, 8, 9, 10] (ifF g1 undef _) (by simp only [go_sem, Int.reduceToNat, Nat.reduceLT, reduceIte, Nat.reduceEqDiff, Nat.reduceAdd, Nat.reduceMul, Nat.reduceBEq, reduceCtorEq]) Kg1
 refine qq (Qt.pickAnd rfl rfl rfl) ?_
 refine nm ?_
 refine qq Qt.move ?_
 apply AWL.cut 3
 ·intro Kg2
  refine AWL.split 12 rfl (fun g2 => ?_) (fun g2 => ?_)
  ·refine qg g2 (fA fl36_1) ?_
   refine qg g2 (Qt.load1 rfl rfl rfl ag34) ?_
   refine nm ?_
   refine AWL.step rfl g2 (Stp.callV rfl (by decide) Try.call36 rfl rfl (l5Words_con _ hl)) ?_
   refine nm ?_
   exact wj 15 [13, 14, 15] (ifT g2 _ undef) (by simp only [go_sem, Int.reduceToNat, Nat.reduceLT, reduceIte, Nat.reduceEqDiff, Nat.reduceAdd, Nat.reduceMul, Nat.reduceBEq, reduceCtorEq]; rfl) Kg2
  ·refine og g2 ?_
   refine og g2 ?_
   refine og g2 ?_
   exact wj 15 [13, 14, 15] (ifF g2 undef _) (by simp only [go_sem, Int.reduceToNat, Nat.reduceLT, reduceIte, Nat.reduceEqDiff, Nat.reduceAdd, Nat.reduceMul, Nat.reduceBEq, reduceCtorEq]) Kg2
 refine qq (Qt.pickAnd rfl rfl rfl) ?_
 refine qq Qt.assign ?_
 refine nl ?_
 refine AW.ret (endQ_ret (.cons (.tmp 2) .nil) ?_)
 have e : ((l.length : Int) == 4) = (l.length == 4) := by rw [Bool.eq_iff_iff]; simp; omega
 simp only [retX, slotL, reduceIte, Nat.reduceEqDiff, ← e, Bool.and_assoc]
set_option maxRecDepth 10000 in
theorem CpuOkI_con (pc : Int) (l : List Int) (hl : l.length ≤ 9223372036854775807) : Con Try.prog 30 [.g [.v (iv pc), .h base []]] [.rt base .ro (tr l)] (fun y _ => y = .v (.bool (decide (0 ≤ pc) && decide (pc ≤ 40) && (l.length == 4 && l.all word)))) := by
 refine Con.of_body Try.func30 rfl (by simp) ?_
 rw [Try.ntmps30]
 refine AW.seq (AW.region ?_)
 refine sp (Stp.boxB rfl (by decide) (by decide) rfl rfl rfl rfl) ?_
 refine nm ?_
 refine qq Qt.assign ?_
 refine nl ?_
 refine AW.seq (AW.region ?_)
 refine qq (fA fl36_0) ?_
 refine qq (Qt.load1 rfl rfl rfl ag3) ?_
 refine nm ?_
 refine cv Try.call46 rfl rfl (isPlace_con _) ?_
 refine nm ?_
 refine qq Qt.move ?_
 apply AWL.cut 4
 ·intro Kg1
  refine AWL.split 6 rfl (fun g1 => ?_) (fun g1 => ?_)
  ·refine qg g1 (fA fl36_1) ?_
   refine qg g1 (Qt.load1 rfl rfl rfl ag34) ?_
   refine nm ?_
   refine qg g1 (Qt.lenH rfl rfl rfl sl34) ?_
   refine qg g1 (Qt.binOp rfl rfl rfl) ?_
   exact wj 10 [7, 8, 9, 10] (ifT g1 _ undef) (by simp only [go_sem, Int.reduceToNat, Nat.reduceLT, reduceIte, Nat.reduceEqDiff, Nat.reduceAdd, Nat.reduceMul, Nat.reduceBEq, reduceCtorEq]; rfl) Kg1
  ·refine og g1 ?_
   refine og g1 ?_
   refine og g1 ?_
   refine og g1 ?_
   exact wj 10 [7, 8, 9, 10] (ifF g1 undef _) (by simp only [go_sem, Int.reduceToNat, Nat.reduceLT, reduceIte, Nat.reduceEqDiff, Nat.reduceAdd, Nat.reduceMul, Nat.reduceBEq, reduceCtorEq]) Kg1
 refine qq (Qt.pickAnd rfl rfl rfl) ?_
 refine nm ?_
 refine qq Qt.move ?_
 apply AWL.cut 3
 ·intro Kg2
  refine AWL.split 12 rfl (fun g2 => ?_) (fun g2 => ?_)
  ·refine qg g2 (fA fl36_1) ?_
   refine qg g2 (Qt.load1 rfl rfl rfl ag34) ?_
   refine nm ?_
   refine AWL.step rfl g2 (Stp.callV rfl (by decide) Try.call31 rfl rfl (wordsOk_con _ hl)) ?_
   refine nm ?_
   exact wj 15 [13, 14, 15] (ifT g2 _ undef) (by simp only [go_sem, Int.reduceToNat, Nat.reduceLT, reduceIte, Nat.reduceEqDiff, Nat.reduceAdd, Nat.reduceMul, Nat.reduceBEq, reduceCtorEq]; rfl) Kg2
  ·refine og g2 ?_
   refine og g2 ?_
   refine og g2 ?_
   exact wj 15 [13, 14, 15] (ifF g2 undef _) (by simp only [go_sem, Int.reduceToNat, Nat.reduceLT, reduceIte, Nat.reduceEqDiff, Nat.reduceAdd, Nat.reduceMul, Nat.reduceBEq, reduceCtorEq]) Kg2
 refine qq (Qt.pickAnd rfl rfl rfl) ?_
 refine qq Qt.assign ?_
 refine nl ?_
 refine AW.ret (endQ_ret (.cons (.tmp 2) .nil) ?_)
 have e : ((l.length : Int) == 4) = (l.length == 4) := by rw [Bool.eq_iff_iff]; simp; omega
 simp only [retX, slotL, reduceIte, Nat.reduceEqDiff, ← e, Bool.and_assoc]
end Go.Proofs.Ytbchjcapphclgaa.VM
