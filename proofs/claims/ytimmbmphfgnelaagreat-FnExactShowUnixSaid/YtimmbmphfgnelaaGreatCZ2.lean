/- Contracts of functions of the program. No conditions beyond those that each states. -/
import Derived.Test.YtimmbmphfgnelaaGreatCZ1
set_option linter.all false
namespace Go.Proofs.YtimmbmphfgnelaaGreat.VM
open Go Go.RowKit Go.Proofs
set_option maxHeartbeats 4000000 in
set_option maxRecDepth 10000 in
theorem in_con (x lo hi : Int) : Con Tryz.prog 56 [.v (iv x), .v (iv lo), .v (iv hi)] [] (fun y _ => y = .v (.bool (decide (lo ≤ x) && decide (x ≤ hi)))) := by
 refine Con.of_body Tryz.func56 rfl (by simp) ?_
 rw [Tryz.ntmps56]
 refine AW.seq (AW.region ?_)
 refine qq Qt.assign ?_
 refine nl ?_
 refine AW.seq (AW.region ?_)
 refine qq Qt.move ?_
 refine qq Qt.move ?_
 refine nm ?_
 refine qq (Qt.binOp rfl rfl rfl) ?_
 refine qq Qt.move ?_
 apply AWL.cut 3
 ·intro Kg1
  refine AWL.split 10 rfl (fun g1 => ?_) (fun g1 => ?_)
  ·refine qg g1 Qt.move ?_
   refine nm ?_
   refine qg g1 Qt.move ?_
   refine qg g1 (Qt.binOp rfl rfl rfl) ?_
   exact wj 13 [11, 12, 13] (ifT g1 _ undef) (by simp only [go_sem, Int.reduceToNat, Nat.reduceLT, reduceIte, Nat.reduceEqDiff, Nat.reduceAdd, Nat.reduceMul, Nat.reduceBEq, reduceCtorEq]; rfl) Kg1
  ·refine og g1 ?_
   refine og g1 ?_
   refine og g1 ?_
   exact wj 13 [11, 12, 13] (ifF g1 undef _) (by simp only [go_sem, Int.reduceToNat, Nat.reduceLT, reduceIte, Nat.reduceEqDiff, Nat.reduceAdd, Nat.reduceMul, Nat.reduceBEq, reduceCtorEq]) Kg1
 refine qq (Qt.pickAnd rfl rfl rfl) ?_
 refine nm ?_
 refine qq Qt.assign ?_
 refine nl ?_
 refine AW.ret (endQ_ret (.cons (.tmp 6) .nil) ?_)
 rfl
set_option maxHeartbeats 4000000 in
set_option maxRecDepth 10000 in
theorem l1In_con (x lo hi : Int) : Con Tryz.prog 43 [.v (iv x), .v (iv lo), .v (iv hi)] [] (fun y _ => y = .v (.bool (decide (lo ≤ x) && decide (x ≤ hi)))) := by
 refine Con.of_body Tryz.func43 rfl (by simp) ?_
 rw [Tryz.ntmps43]
 refine AW.seq (AW.region ?_)
 refine qq Qt.assign ?_
 refine nl ?_
 refine AW.seq (AW.region ?_)
 refine qq Qt.move ?_
 refine qq Qt.move ?_
 refine nm ?_
 refine qq (Qt.binOp rfl rfl rfl) ?_
 refine qq Qt.move ?_
 apply AWL.cut 3
 ·intro Kg1
  refine AWL.split 10 rfl (fun g1 => ?_) (fun g1 => ?_)
  ·refine qg g1 Qt.move ?_
   refine nm ?_
   refine qg g1 Qt.move ?_
   refine qg g1 (Qt.binOp rfl rfl rfl) ?_
   exact wj 13 [11, 12, 13] (ifT g1 _ undef) (by simp only [go_sem, Int.reduceToNat, Nat.reduceLT, reduceIte, Nat.reduceEqDiff, Nat.reduceAdd, Nat.reduceMul, Nat.reduceBEq, reduceCtorEq]; rfl) Kg1
  ·refine og g1 ?_
   refine og g1 ?_
   refine og g1 ?_
   exact wj 13 [11, 12, 13] (ifF g1 undef _) (by simp only [go_sem, Int.reduceToNat, Nat.reduceLT, reduceIte, Nat.reduceEqDiff, Nat.reduceAdd, Nat.reduceMul, Nat.reduceBEq, reduceCtorEq]) Kg1
 refine qq (Qt.pickAnd rfl rfl rfl) ?_
 refine nm ?_
 refine qq Qt.assign ?_
 refine nl ?_
 refine AW.ret (endQ_ret (.cons (.tmp 6) .nil) ?_)
 rfl
def word (x : Int) : Bool := decide (-1000000 ≤ x) && decide (x ≤ 1000000)
set_option maxHeartbeats 4000000 in
set_option maxRecDepth 10000 in
theorem isPlace_con (x : Int) : Con Tryz.prog 282 [.v (iv x)] [] (fun y _ => y = .v (.bool (decide (0 ≤ x) && decide (x ≤ 40)))) := by
 refine Con.of_body Tryz.func282 rfl (by simp) ?_
 rw [Tryz.ntmps282]
 refine AW.seq (AW.region ?_)
 refine qq Qt.assign ?_
 refine nl ?_
 refine AW.seq (AW.region ?_)
 refine qq Qt.move ?_
 refine cv Tryz.call56 rfl rfl (in_con _ _ _) ?_
 refine nm ?_
 refine qq Qt.assign ?_
 refine nl ?_
 refine AW.ret (endQ_ret (.cons (.tmp 2) .nil) ?_)
 rfl
set_option maxHeartbeats 4000000 in
set_option maxRecDepth 10000 in
theorem isWord_con (x : Int) : Con Tryz.prog 177 [.v (iv x)] [] (fun y _ => y = .v (.bool (word x))) := by
 refine Con.of_body Tryz.func177 rfl (by simp) ?_
 rw [Tryz.ntmps177]
 refine AW.seq (AW.region ?_)
 refine qq Qt.assign ?_
 refine nl ?_
 refine AW.seq (AW.region ?_)
 refine qq Qt.move ?_
 refine cv Tryz.call56 rfl rfl (in_con _ _ _) ?_
 refine nm ?_
 refine qq Qt.assign ?_
 refine nl ?_
 refine AW.ret (endQ_ret (.cons (.tmp 2) .nil) ?_)
 rfl
set_option maxHeartbeats 4000000 in
set_option maxRecDepth 10000 in
theorem l5Word_con (x : Int) : Con Tryz.prog 163 [.v (iv x)] [] (fun y _ => y = .v (.bool (word x))) := by
 refine Con.of_body Tryz.func163 rfl (by simp) ?_
 rw [Tryz.ntmps163]
 refine AW.seq (AW.region ?_)
 refine qq Qt.assign ?_
 refine nl ?_
 refine AW.seq (AW.region ?_)
 refine qq Qt.move ?_
 refine cv Tryz.call43 rfl rfl (l1In_con _ _ _) ?_
 refine nm ?_
 refine qq Qt.assign ?_
 refine nl ?_
 refine AW.ret (endQ_ret (.cons (.tmp 2) .nil) ?_)
 rfl
set_option maxHeartbeats 4000000 in
set_option maxRecDepth 10000 in
theorem wordsOk1_con (x : Int) : Con Tryz.prog 176 [.v (iv x)] [] (fun y _ => y = .v (.bool !(word x))) := by
 refine Con.of_body Tryz.func176 rfl (by simp) ?_
 rw [Tryz.ntmps176]
 refine AW.seq (AW.region ?_)
 refine qq Qt.assign ?_
 refine nl ?_
 refine AW.seq (AW.region ?_)
 refine qq Qt.move ?_
 refine cv Tryz.call177 rfl rfl (isWord_con _) ?_
 refine nm ?_
 refine qq (Qt.notB rfl) ?_
 refine qq Qt.assign ?_
 refine nl ?_
 refine AW.ret (endQ_ret (.cons (.tmp 2) .nil) ?_)
 rfl
set_option maxHeartbeats 4000000 in
set_option maxRecDepth 10000 in
theorem l5Words_con (l : List Int) : Con Tryz.prog 45 [.h base []] [.rt base .ro (tr l)] (fun y _ => y = .v (.bool (l.all word))) := by
 refine Con.of_body Tryz.func45 rfl (by simp) ?_
 rw [Tryz.ntmps45]
 refine AW.len base [] rfl (by simp [Okp]) rfl (fun hl => ?_)
 refine AW.seq (AW.region ?_)
 refine qq Qt.assign ?_
 refine nl ?_
 refine AW.seq (AW.seq (AW.region ?_))
 refine qq Qt.assign ?_
 refine nl ?_
 refine AW.block ?_
 refine AW.loopW (fun i : AllInv word l => [.sl 3 (.v (iv i.k)), .sl 0 (.h base []), .rt base .ro (tr l)]) (fun i => l.length - i.k) ⟨0, Nat.zero_le _, rfl⟩ (Weak.sim ⟨rfl, rfl, Rf rfl, trivial⟩ rfl rfl) ?_
 intro i
 have hle := i.le
 refine AW.seq (AW.seq (AW.region ?_))
 refine qq Qt.move ?_
 refine nm ?_
 refine qq Qt.move ?_
 refine qq (Qt.lenH rfl rfl rfl sl27) ?_
 refine qq (Qt.binOp rfl rfl rfl) ?_
 refine nl ?_
 refine AW.cond rfl (fun c1 => ?_) (fun c1 => ?_)
 ·have k1 := c1
  try simp only [cnd] at c1
  refine jd (AW.seq (AW.block (AW.seq (AW.region ?_))))
  refine qq Qt.move ?_
  refine nm ?_
  refine qq Qt.move ?_
  refine qq (Qt.indexAddr rfl rfl rfl rfl sl27 sz3 (by decide) (by omega)) ?_
  refine qq (Qt.load1 rfl rfl rfl ag3) ?_
  refine nm ?_
  refine cv Tryz.call163 rfl rfl (l5Word_con _) ?_
  refine nm ?_
  refine qq (Qt.notB rfl) ?_
  refine nl ?_
  refine AW.cond rfl (fun c2 => ?_) (fun c2 => ?_)
  ·have k2 := c2
   try simp only [cnd] at c2
   refine AW.seq (AW.region ?_)
   refine qq Qt.assign ?_
   refine nl ?_
   refine AW.ret (endQ_ret (.cons (.tmp 2) .nil) ?_)
   rw [show l.all word = false from i.stop En.dflt (by omega) (by simpa using c2)]
   rfl
  have k2 := c2
  try simp only [cnd] at c2
  refine jd (AW.region ?_)
  refine qq Qt.move ?_
  refine nm ?_
  refine qq (Qt.binOp rfl rfl (by first | exact pbAdd (by omega) | rfl)) ?_
  refine qq Qt.assign ?_
  refine nl ?_
  refine ⟨⟨i.k + 1, by omega, i.next En.dflt (by omega) (by simpa using c2)⟩, Weak.sim ⟨st1, rfl, Rf rfl, trivial⟩ rfl rfl, ?_⟩
  show l.length - (i.k + 1) < l.length - i.k
  omega
 have k1 := c1
 try simp only [cnd] at c1
 refine AW.exit ?_
 dsimp only [thenQ, blockQ, reduceIte]
 refine AW.seq (AW.region ?_)
 refine qq Qt.assign ?_
 refine nl ?_
 refine AW.ret (endQ_ret (.cons (.tmp 2) .nil) ?_)
 rw [show l.all word = true from i.full (by omega)]
 rfl
set_option maxHeartbeats 8000000 in
set_option maxRecDepth 10000 in
theorem ixI_con {fid : FuncId} {p : Int → Bool} (hE : Ent Tryz.prog fid) (hp : ∀ x : Int, Con Tryz.prog fid [.v (iv x)] [] (fun y _ => y = .v (.bool (p x)))) (l : List Int) : Con Tryz.prog 238 [.h base [], .f fid []] [.rt base .ro (tr l)] (fun y _ => y = .v (iv (ixOf p l))) := by
 refine Con.of_body Tryz.func238 rfl (by simp) ?_
 rw [Tryz.ntmps238]
 refine AW.len base [] rfl (by simp [Okp]) rfl (fun hl => ?_)
 refine AW.seq (AW.region ?_)
 refine qq Qt.assign ?_
 refine nl ?_
 refine AW.seq (AW.seq (AW.region ?_))
 refine qq Qt.move ?_
 refine qq (Qt.lenH rfl rfl rfl sl27) ?_
 refine nm ?_
 refine qq Qt.move ?_
 refine nl ?_
 refine AW.block ?_
 refine AW.loopW (fun i : IxInv p l => [.sl 8 (.v (iv i.k)), .sl 7 (.v (iv l.length)), .sl 0 (.h base []), .sl 1 (.f fid []), .rt base .ro (tr l)]) (fun i => l.length - i.k) ⟨0, Nat.zero_le _, rfl⟩ (Weak.sim ⟨rfl, rfl, rfl, rfl, Rf rfl, trivial⟩ rfl rfl) ?_
 intro i
 have hle := i.le
 refine AW.seq (AW.region ?_)
 refine qq (Qt.binOp rfl rfl rfl) ?_
 refine nl ?_
 refine AW.seq ?_
 refine AW.cond rfl (fun c1 => ?_) (fun c1 => ?_)
 ·have k1 := c1
  try simp only [cnd] at c1
  refine jd (AW.seq (AW.block (AW.seq (AW.region ?_))))
  refine qq Qt.move ?_
  refine nm ?_
  refine qq Qt.assign ?_
  refine nl ?_
  refine AW.seq (AW.region ?_)
  refine qq Qt.move ?_
  refine qq Qt.move ?_
  refine nm ?_
  refine qq Qt.move ?_
  refine qq (Qt.indexAddr rfl rfl rfl rfl sl27 sz3 (by decide) (by omega)) ?_
  refine qq (Qt.load1 rfl rfl rfl ag3) ?_
  refine nm ?_
  refine cv hE rfl rfl (hp (l.getD i.k En.dflt)) ?_
  refine nl ?_
  refine AW.cond rfl (fun c2 => ?_) (fun c2 => ?_)
  ·have k2 := c2
   try simp only [cnd] at c2
   refine AW.seq (AW.region ?_)
   refine qq Qt.move ?_
   refine nm ?_
   refine qq Qt.assign ?_
   refine nl ?_
   refine AW.ret (endQ_ret (.cons (.tmp 4) .nil) ?_)
   rw [ixOf_hit i En.dflt (by omega) c2]
   rfl
  have k2 := c2
  try simp only [cnd] at c2
  refine jd (AW.region ?_)
  refine qq (Qt.binOp rfl rfl (by first | exact pbAdd (by omega) | rfl)) ?_
  refine qq Qt.move ?_
  refine nl ?_
  refine ⟨⟨i.k + 1, by omega, i.next En.dflt (by omega) c2⟩, Weak.sim ⟨st1, rfl, rfl, rfl, Rf rfl, trivial⟩ rfl rfl, ?_⟩
  show l.length - (i.k + 1) < l.length - i.k
  omega
 have k1 := c1
 try simp only [cnd] at c1
 refine AW.exit ?_
 dsimp only [thenQ, blockQ, reduceIte]
 refine AW.seq (AW.region ?_)
 refine qq Qt.assign ?_
 refine nl ?_
 refine AW.ret (endQ_ret (.cons (.tmp 4) .nil) ?_)
 rw [ixOf_none i (by omega)]
 rfl
set_option maxHeartbeats 8000000 in
set_option maxRecDepth 10000 in
theorem hasI_con {fid : FuncId} {p : Int → Bool} (hE : Ent Tryz.prog fid) (hp : ∀ x : Int, Con Tryz.prog fid [.v (iv x)] [] (fun y _ => y = .v (.bool (p x)))) (l : List Int) : Con Tryz.prog 175 [.h base [], .f fid []] [.rt base .ro (tr l)] (fun y _ => y = .v (.bool (l.any p))) := by
 refine Con.of_body Tryz.func175 rfl (by simp) ?_
 rw [Tryz.ntmps175]
 refine AW.seq (AW.region ?_)
 refine qq Qt.assign ?_
 refine nl ?_
 refine AW.seq (AW.region ?_)
 refine qq Qt.move ?_
 refine qq Qt.move ?_
 refine nm ?_
 refine cv Tryz.call238 rfl rfl (ixI_con hE hp _) ?_
 refine nm ?_
 refine qq (Qt.binOp rfl rfl rfl) ?_
 refine qq Qt.assign ?_
 refine nl ?_
 refine AW.ret (endQ_ret (.cons (.tmp 4) .nil) ?_)
 rw [← ixOf_ge]
 rfl
set_option maxHeartbeats 4000000 in
set_option maxRecDepth 10000 in
theorem wordsOk_con (l : List Int) : Con Tryz.prog 57 [.h base []] [.rt base .ro (tr l)] (fun y _ => y = .v (.bool (l.all word))) := by
 refine Con.of_body Tryz.func57 rfl (by simp) ?_
 rw [Tryz.ntmps57]
 refine AW.seq (AW.region ?_)
 refine qq Qt.assign ?_
 refine nl ?_
 refine AW.seq (AW.region ?_)
 refine qq Qt.move ?_
 refine cv Tryz.call175 rfl rfl (hasI_con Tryz.call176 (fun x => wordsOk1_con x) l) ?_
 refine nm ?_
 refine qq (Qt.notB rfl) ?_
 refine qq Qt.assign ?_
 refine nl ?_
 refine AW.ret (endQ_ret (.cons (.tmp 2) .nil) ?_)
 rw [show l.all word = !(l.any fun x => !word x) from by rw [Bool.eq_iff_iff]; simp]
 rfl
set_option maxHeartbeats 4000000 in
set_option maxRecDepth 10000 in
theorem CpuOkS_con (pc : Int) (l : List Int) : Con Tryz.prog 164 [.g [.v (iv pc), .h base []]] [.rt base .ro (tr l)] (fun y _ => y = .v (.bool (decide (0 ≤ pc) && decide (pc ≤ 40) && (l.length == 4 && l.all word)))) := by
 refine Con.of_body Tryz.func164 rfl (by simp) ?_
 rw [Tryz.ntmps164]
 refine AW.seq (AW.region ?_)
 refine sp (Stp.boxB rfl (by decide) (by decide) rfl rfl rfl rfl) ?_
 refine nm ?_
 refine qq Qt.assign ?_
 refine nl ?_
 refine AW.seq (AW.region ?_)
 refine qq (fA fl95_0) ?_
 refine qq (Qt.load1 rfl rfl rfl ag3) ?_
 refine nm ?_
 refine cv Tryz.call43 rfl rfl (l1In_con _ _ _) ?_
 refine nm ?_
 refine qq Qt.move ?_
 apply AWL.cut 4
 ·intro Kg1
  refine AWL.split 6 rfl (fun g1 => ?_) (fun g1 => ?_)
  ·refine qg g1 (fA fl95_1) ?_
   refine qg g1 (Qt.load1 rfl rfl rfl ag27) ?_
   refine nm ?_
   refine qg g1 (Qt.lenH rfl rfl rfl sl27) ?_
   refine qg g1 (Qt.binOp rfl rfl rfl) ?_
   exact wj 10 [7, 8, 9, 10] (ifT g1 _ undef) (by simp only [go_sem, Int.reduceToNat, Nat.reduceLT, reduceIte, Nat.reduceEqDiff, Nat.reduceAdd, Nat.reduceMul, Nat.reduceBEq, reduceCtorEq]; rfl) Kg1
  ·refine og g1 ?_
   refine og g1 ?_
   refine og g1 ?_
   refine og g1 ?_
   exact wj 10 [7, 8, 9, 10] (ifF g1 undef _) (by simp only [go_sem, Int.reduceToNat, Nat.reduceLT, reduceIte, Nat.reduceEqDiff, Nat.reduceAdd, Nat.reduceMul, Nat.reduceBEq, reduceCtorEq]) Kg1
 refine qq (Qt.pickAnd rfl rfl rfl) ?_
 refine nm ?_
 refine qq Qt.move ?_
 apply AWL.cut 3
 ·intro Kg2
  refine AWL.split 12 rfl (fun g2 => ?_) (fun g2 => ?_)
  ·refine qg g2 (fA fl95_1) ?_
   refine qg g2 (Qt.load1 rfl rfl rfl ag27) ?_
   refine nm ?_
   refine AWL.step rfl g2 (Stp.callV rfl (by decide) Tryz.call45 rfl rfl (l5Words_con _)) ?_
   refine nm ?_
   exact wj 15 [13, 14, 15] (ifT g2 _ undef) (by simp only [go_sem, Int.reduceToNat, Nat.reduceLT, reduceIte, Nat.reduceEqDiff, Nat.reduceAdd, Nat.reduceMul, Nat.reduceBEq, reduceCtorEq]; rfl) Kg2
  ·refine og g2 ?_
   refine og g2 ?_
   refine og g2 ?_
   exact wj 15 [13, 14, 15] (ifF g2 undef _) (by simp only [go_sem, Int.reduceToNat, Nat.reduceLT, reduceIte, Nat.reduceEqDiff, Nat.reduceAdd, Nat.reduceMul, Nat.reduceBEq, reduceCtorEq]) Kg2
 refine qq (Qt.pickAnd rfl rfl rfl) ?_
 refine qq Qt.assign ?_
 refine nl ?_
 refine AW.ret (endQ_ret (.cons (.tmp 2) .nil) ?_)
 have e : ((l.length : Int) == 4) = (l.length == 4) := by rw [Bool.eq_iff_iff]; simp; omega
 simp only [retX, slotL, reduceIte, Nat.reduceEqDiff, ← e, Bool.and_assoc]
set_option maxHeartbeats 4000000 in
set_option maxRecDepth 10000 in
theorem CpuOkI_con (pc : Int) (l : List Int) : Con Tryz.prog 182 [.g [.v (iv pc), .h base []]] [.rt base .ro (tr l)] (fun y _ => y = .v (.bool (decide (0 ≤ pc) && decide (pc ≤ 40) && (l.length == 4 && l.all word)))) := by
 refine Con.of_body Tryz.func182 rfl (by simp) ?_
 rw [Tryz.ntmps182]
 refine AW.seq (AW.region ?_)
 refine sp (Stp.boxB rfl (by decide) (by decide) rfl rfl rfl rfl) ?_
 refine nm ?_
 refine qq Qt.assign ?_
 refine nl ?_
 refine AW.seq (AW.region ?_)
 refine qq (fA fl95_0) ?_
 refine qq (Qt.load1 rfl rfl rfl ag3) ?_
 refine nm ?_
 refine cv Tryz.call282 rfl rfl (isPlace_con _) ?_
 refine nm ?_
 refine qq Qt.move ?_
 apply AWL.cut 4
 ·intro Kg1
  refine AWL.split 6 rfl (fun g1 => ?_) (fun g1 => ?_)
  ·refine qg g1 (fA fl95_1) ?_
   refine qg g1 (Qt.load1 rfl rfl rfl ag27) ?_
   refine nm ?_
   refine qg g1 (Qt.lenH rfl rfl rfl sl27) ?_
   refine qg g1 (Qt.binOp rfl rfl rfl) ?_
   exact wj 10 [7, 8, 9, 10] (ifT g1 _ undef) (by simp only [go_sem, Int.reduceToNat, Nat.reduceLT, reduceIte, Nat.reduceEqDiff, Nat.reduceAdd, Nat.reduceMul, Nat.reduceBEq, reduceCtorEq]; rfl) Kg1
  ·refine og g1 ?_
   refine og g1 ?_
   refine og g1 ?_
   refine og g1 ?_
   exact wj 10 [7, 8, 9, 10] (ifF g1 undef _) (by simp only [go_sem, Int.reduceToNat, Nat.reduceLT, reduceIte, Nat.reduceEqDiff, Nat.reduceAdd, Nat.reduceMul, Nat.reduceBEq, reduceCtorEq]) Kg1
 refine qq (Qt.pickAnd rfl rfl rfl) ?_
 refine nm ?_
 refine qq Qt.move ?_
 apply AWL.cut 3
 ·intro Kg2
  refine AWL.split 12 rfl (fun g2 => ?_) (fun g2 => ?_)
  ·refine qg g2 (fA fl95_1) ?_
   refine qg g2 (Qt.load1 rfl rfl rfl ag27) ?_
   refine nm ?_
   refine AWL.step rfl g2 (Stp.callV rfl (by decide) Tryz.call57 rfl rfl (wordsOk_con _)) ?_
   refine nm ?_
   exact wj 15 [13, 14, 15] (ifT g2 _ undef) (by simp only [go_sem, Int.reduceToNat, Nat.reduceLT, reduceIte, Nat.reduceEqDiff, Nat.reduceAdd, Nat.reduceMul, Nat.reduceBEq, reduceCtorEq]; rfl) Kg2
  ·refine og g2 ?_
   refine og g2 ?_
   refine og g2 ?_
   exact wj 15 [13, 14, 15] (ifF g2 undef _) (by simp only [go_sem, Int.reduceToNat, Nat.reduceLT, reduceIte, Nat.reduceEqDiff, Nat.reduceAdd, Nat.reduceMul, Nat.reduceBEq, reduceCtorEq]) Kg2
 refine qq (Qt.pickAnd rfl rfl rfl) ?_
 refine qq Qt.assign ?_
 refine nl ?_
 refine AW.ret (endQ_ret (.cons (.tmp 2) .nil) ?_)
 have e : ((l.length : Int) == 4) = (l.length == 4) := by rw [Bool.eq_iff_iff]; simp; omega
 simp only [retX, slotL, reduceIte, Nat.reduceEqDiff, ← e, Bool.and_assoc]
end Go.Proofs.YtimmbmphfgnelaaGreat.VM
