/- Contracts of functions of the program. No conditions beyond those that each states. -/
import Derived.Test.YtfbefcmeghpalaaGreatCV1
set_option linter.all false
set_option maxHeartbeats 8000000
set_option maxRecDepth 10000
namespace Go.Proofs.YtfbefcmeghpalaaGreat.VM
open Go Go.RowKit Go.Proofs
set_option maxHeartbeats 4000000 in
set_option maxRecDepth 10000 in
theorem in_con (x lo hi : Int) : Con Tryz.prog 102 [.v (iv x), .v (iv lo), .v (iv hi)] [] (fun y _ => y = .v (.bool (decide (lo ≤ x) && decide (x ≤ hi)))) := by
 refine ob Tryz.func102 Tryz.ntmps102 ?_
 refine sr ?_
 refine qs' ?_
 refine qm ?_
 refine mn ?_
 refine qb ?_
 refine qm ?_
 apply AWL.cut 3
 ·intro Kg1
  refine AWL.split 10 rfl (fun g1 => ?_) (fun g1 => ?_)
  ·refine qg g1 Qt.move ?_
   refine nm ?_
   refine qg g1 Qt.move ?_
   refine qg g1 (Qt.binOp rfl rfl rfl) ?_
   exact wj 13 [11, 12, 13] (ifT g1 _ undef) (by simp only [go_sem, reduceIte, Nat.reduceEqDiff, Nat.reduceBEq, reduceCtorEq]; rfl) Kg1
  ·refine og g1 ?_
   refine og g1 ?_
   refine og g1 ?_
   exact wj 13 [11, 12, 13] (ifF g1 undef _) (by simp only [go_sem, reduceIte, Nat.reduceEqDiff, Nat.reduceBEq, reduceCtorEq]) Kg1
 refine qq (Qt.pickAnd rfl rfl rfl) ?_
 refine nm ?_
 refine qr 6 ?_
 rfl
set_option maxHeartbeats 4000000 in
set_option maxRecDepth 10000 in
theorem l1In_con (x lo hi : Int) : Con Tryz.prog 131 [.v (iv x), .v (iv lo), .v (iv hi)] [] (fun y _ => y = .v (.bool (decide (lo ≤ x) && decide (x ≤ hi)))) := by
 refine ob Tryz.func131 Tryz.ntmps131 ?_
 refine sr ?_
 refine qs' ?_
 refine qm ?_
 refine mn ?_
 refine qb ?_
 refine qm ?_
 apply AWL.cut 3
 ·intro Kg1
  refine AWL.split 10 rfl (fun g1 => ?_) (fun g1 => ?_)
  ·refine qg g1 Qt.move ?_
   refine nm ?_
   refine qg g1 Qt.move ?_
   refine qg g1 (Qt.binOp rfl rfl rfl) ?_
   exact wj 13 [11, 12, 13] (ifT g1 _ undef) (by simp only [go_sem, reduceIte, Nat.reduceEqDiff, Nat.reduceBEq, reduceCtorEq]; rfl) Kg1
  ·refine og g1 ?_
   refine og g1 ?_
   refine og g1 ?_
   exact wj 13 [11, 12, 13] (ifF g1 undef _) (by simp only [go_sem, reduceIte, Nat.reduceEqDiff, Nat.reduceBEq, reduceCtorEq]) Kg1
 refine qq (Qt.pickAnd rfl rfl rfl) ?_
 refine nm ?_
 refine qr 6 ?_
 rfl
def word (x : Int) : Bool := decide (-1000000 ≤ x) && decide (x ≤ 1000000)
set_option maxHeartbeats 4000000 in
set_option maxRecDepth 10000 in
theorem isPlace_con (x : Int) : Con Tryz.prog 263 [.v (iv x)] [] (fun y _ => y = .v (.bool (decide (0 ≤ x) && decide (x ≤ 40)))) := by
 refine ob Tryz.func263 Tryz.ntmps263 ?_
 refine sr ?_
 refine qs' ?_
 refine qm ?_
 refine cv Tryz.call102 rfl rfl (in_con _ _ _) ?_
 refine nm ?_
 refine qr 2 ?_
 rfl
set_option maxHeartbeats 4000000 in
set_option maxRecDepth 10000 in
theorem isWord_con (x : Int) : Con Tryz.prog 187 [.v (iv x)] [] (fun y _ => y = .v (.bool (word x))) := by
 refine ob Tryz.func187 Tryz.ntmps187 ?_
 refine sr ?_
 refine qs' ?_
 refine qm ?_
 refine cv Tryz.call102 rfl rfl (in_con _ _ _) ?_
 refine nm ?_
 refine qr 2 ?_
 rfl
set_option maxHeartbeats 4000000 in
set_option maxRecDepth 10000 in
theorem l5Word_con (x : Int) : Con Tryz.prog 229 [.v (iv x)] [] (fun y _ => y = .v (.bool (word x))) := by
 refine ob Tryz.func229 Tryz.ntmps229 ?_
 refine sr ?_
 refine qs' ?_
 refine qm ?_
 refine cv Tryz.call131 rfl rfl (l1In_con _ _ _) ?_
 refine nm ?_
 refine qr 2 ?_
 rfl
set_option maxHeartbeats 4000000 in
set_option maxRecDepth 10000 in
theorem wordsOk1_con (x : Int) : Con Tryz.prog 186 [.v (iv x)] [] (fun y _ => y = .v (.bool !(word x))) := by
 refine ob Tryz.func186 Tryz.ntmps186 ?_
 refine sr ?_
 refine qs' ?_
 refine qm ?_
 refine cv Tryz.call187 rfl rfl (isWord_con _) ?_
 refine nm ?_
 refine qq (Qt.notB rfl) ?_
 refine qr 2 ?_
 rfl
set_option maxHeartbeats 4000000 in
set_option maxRecDepth 10000 in
theorem l5Words_con (l : List Int) : Con Tryz.prog 133 [.h base []] [.rt base .ro (tr l)] (fun y _ => y = .v (.bool (l.all word))) := by
 refine ob Tryz.func133 Tryz.ntmps133 ?_
 refine AW.len base [] rfl (by simp [Okp]) rfl (fun hl => ?_)
 refine sr ?_
 refine qn ?_
 refine sr2 ?_
 refine qn ?_
 refine AW.block ?_
 refine AW.loopW (fun i : AllInv word l => [.sl 3 (.v (iv i.k)), .sl 0 (.h base []), .rt base .ro (tr l)]) (fun i => l.length - i.k) ⟨0, Nat.zero_le _, rfl⟩ (Weak.sim ⟨rfl, rfl, Rf rfl, trivial⟩ rfl rfl) ?_
 intro i
 have hle := i.le
 refine sr2 ?_
 refine mn ?_
 refine qm ?_
 refine qh sl29 ?_
 refine qb ?_
 refine nc (fun c1 => ?_) fun c1 => ?_
 ·try simp only [cnd] at c1
  refine jd (AW.seq (AW.block (sr ?_)))
  refine mn ?_
  refine qm ?_
  refine qq (ix sl29 sz3) ?_
  refine ql ag3 ?_
  refine nm ?_
  refine cv Tryz.call229 rfl rfl (l5Word_con _) ?_
  refine nm ?_
  refine qq (Qt.notB rfl) ?_
  refine nc (fun c2 => ?_) fun c2 => ?_
  ·try simp only [cnd] at c2
   refine sr ?_
   refine qr 2 ?_
   rw [show l.all word = false from i.stop En.dflt (by omega) (by simpa using c2)]
   rfl
  try simp only [cnd] at c2
  refine jd (AW.region ?_)
  refine mn ?_
  refine ba ?_
  refine qn ?_
  refine ⟨⟨i.k + 1, by omega, i.next En.dflt (by omega) (by simpa using c2)⟩, Weak.sim ⟨st1, rfl, Rf rfl, trivial⟩ rfl rfl, ?_⟩
  show l.length - (i.k + 1) < l.length - i.k
  omega
 try simp only [cnd] at c1
 refine AW.exit ?_
 dsimp only [thenQ, blockQ, reduceIte]
 refine sr ?_
 refine qr 2 ?_
 rw [show l.all word = true from i.full (by omega)]
 rfl
theorem ixI_con {fid : FuncId} {p : Int → Bool} (hE : Ent Tryz.prog fid) (hp : ∀ x : Int, Con Tryz.prog fid [.v (iv x)] [] (fun y _ => y = .v (.bool (p x)))) (l : List Int) : Con Tryz.prog 260 [.h base [], .f fid []] [.rt base .ro (tr l)] (fun y _ => y = .v (iv (ixOf p l))) := by
 refine ob Tryz.func260 Tryz.ntmps260 ?_
 refine AW.len base [] rfl (by simp [Okp]) rfl (fun hl => ?_)
 refine sr ?_
 refine qn ?_
 refine sr2 ?_
 refine qm ?_
 refine qh sl29 ?_
 refine nm ?_
 refine qm ?_
 refine nl ?_
 refine AW.block ?_
 refine AW.loopW (fun i : IxInv p l => [.sl 8 (.v (iv i.k)), .sl 7 (.v (iv l.length)), .sl 0 (.h base []), .sl 1 (.f fid []), .rt base .ro (tr l)]) (fun i => l.length - i.k) ⟨0, Nat.zero_le _, rfl⟩ (Weak.sim ⟨rfl, rfl, rfl, rfl, Rf rfl, trivial⟩ rfl rfl) ?_
 intro i
 have hle := i.le
 refine sr ?_
 refine qb ?_
 refine nl ?_
 refine AW.seq ?_
 refine cd (fun c1 => ?_) fun c1 => ?_
 ·try simp only [cnd] at c1
  refine jd (AW.seq (AW.block (sr ?_)))
  refine mn ?_
  refine qs' ?_
  refine qm ?_
  refine mn ?_
  refine qm ?_
  refine qq (ix sl29 sz3) ?_
  refine ql ag3 ?_
  refine nm ?_
  refine cv hE rfl rfl (hp (l.getD i.k En.dflt)) ?_
  refine nc (fun c2 => ?_) fun c2 => ?_
  ·try simp only [cnd] at c2
   refine sr ?_
   refine mn ?_
   refine qr 4 ?_
   rw [ixOf_hit i En.dflt (by omega) c2]
   rfl
  try simp only [cnd] at c2
  refine jd (AW.region ?_)
  refine ba ?_
  refine qm ?_
  refine nl ?_
  refine ⟨⟨i.k + 1, by omega, i.next En.dflt (by omega) c2⟩, Weak.sim ⟨st1, rfl, rfl, rfl, Rf rfl, trivial⟩ rfl rfl, ?_⟩
  show l.length - (i.k + 1) < l.length - i.k
  omega
 try simp only [cnd] at c1
 refine AW.exit ?_
 dsimp only [thenQ, blockQ, reduceIte]
 refine sr ?_
 refine qr 4 ?_
 rw [ixOf_none i (by omega)]
 rfl
theorem hasI_con {fid : FuncId} {p : Int → Bool} (hE : Ent Tryz.prog fid) (hp : ∀ x : Int, Con Tryz.prog fid [.v (iv x)] [] (fun y _ => y = .v (.bool (p x)))) (l : List Int) : Con Tryz.prog 185 [.h base [], .f fid []] [.rt base .ro (tr l)] (fun y _ => y = .v (.bool (l.any p))) := by
 refine ob Tryz.func185 Tryz.ntmps185 ?_
 refine sr ?_
 refine qs' ?_
 refine qm ?_
 refine mn ?_
 refine cv Tryz.call260 rfl rfl (ixI_con hE hp _) ?_
 refine nm ?_
 refine qb ?_
 refine qr 4 ?_
 rw [← ixOf_ge]
 rfl
set_option maxHeartbeats 4000000 in
set_option maxRecDepth 10000 in
theorem wordsOk_con (l : List Int) : Con Tryz.prog 103 [.h base []] [.rt base .ro (tr l)] (fun y _ => y = .v (.bool (l.all word))) := by
 refine ob Tryz.func103 Tryz.ntmps103 ?_
 refine sr ?_
 refine qs' ?_
 refine qm ?_
 refine cv Tryz.call185 rfl rfl (hasI_con Tryz.call186 (fun x => wordsOk1_con x) l) ?_
 refine nm ?_
 refine qq (Qt.notB rfl) ?_
 refine qr 2 ?_
 rw [show l.all word = !(l.any fun x => !word x) from by rw [Bool.eq_iff_iff]; simp]
 rfl
set_option maxHeartbeats 4000000 in
set_option maxRecDepth 10000 in
theorem CpuOkS_con (pc : Int) (l : List Int) : Con Tryz.prog 230 [.g [.v (iv pc), .h base []]] [.rt base .ro (tr l)] (fun y _ => y = .v (.bool (decide (0 ≤ pc) && decide (pc ≤ 40) && (l.length == 4 && l.all word)))) := by
 refine ob Tryz.func230 Tryz.ntmps230 ?_
 refine sr ?_
 refine bx ?_
 refine nm ?_
 refine qs' ?_
 refine qq (fA fl70_0) ?_
 refine ql ag3 ?_
 refine nm ?_
 refine cv Tryz.call131 rfl rfl (l1In_con _ _ _) ?_
 refine nm ?_
 refine qm ?_
 apply AWL.cut 4
 ·intro Kg1
  refine AWL.split 6 rfl (fun g1 => ?_) (fun g1 => ?_)
  ·refine qg g1 (fA fl70_1) ?_
   refine qg g1 (Qt.load1 rfl rfl rfl ag29) ?_
   refine nm ?_
   refine qg g1 (Qt.lenH rfl rfl rfl sl29) ?_
   refine qg g1 (Qt.binOp rfl rfl rfl) ?_
   exact wj 10 [7, 8, 9, 10] (ifT g1 _ undef) (by simp only [go_sem, reduceIte, Nat.reduceEqDiff, Nat.reduceBEq, reduceCtorEq]; rfl) Kg1
  ·refine og g1 ?_
   refine og g1 ?_
   refine og g1 ?_
   refine og g1 ?_
   exact wj 10 [7, 8, 9, 10] (ifF g1 undef _) (by simp only [go_sem, reduceIte, Nat.reduceEqDiff, Nat.reduceBEq, reduceCtorEq]) Kg1
 refine qq (Qt.pickAnd rfl rfl rfl) ?_
 refine nm ?_
 refine qm ?_
 apply AWL.cut 3
 ·intro Kg2
  refine AWL.split 12 rfl (fun g2 => ?_) (fun g2 => ?_)
  ·refine qg g2 (fA fl70_1) ?_
   refine qg g2 (Qt.load1 rfl rfl rfl ag29) ?_
   refine nm ?_
   refine AWL.step rfl g2 (Stp.callV rfl (by decide) Tryz.call133 rfl rfl (l5Words_con _)) ?_
   refine nm ?_
   exact wj 15 [13, 14, 15] (ifT g2 _ undef) (by simp only [go_sem, reduceIte, Nat.reduceEqDiff, Nat.reduceBEq, reduceCtorEq]; rfl) Kg2
  ·refine og g2 ?_
   refine og g2 ?_
   refine og g2 ?_
   exact wj 15 [13, 14, 15] (ifF g2 undef _) (by simp only [go_sem, reduceIte, Nat.reduceEqDiff, Nat.reduceBEq, reduceCtorEq]) Kg2
 refine qq (Qt.pickAnd rfl rfl rfl) ?_
 refine qr 2 ?_
 have e : ((l.length : Int) == 4) = (l.length == 4) := by rw [Bool.eq_iff_iff]; simp; omega
 simp only [retX, slotL, reduceIte, Nat.reduceEqDiff, ← e, Bool.and_assoc]
set_option maxHeartbeats 4000000 in
set_option maxRecDepth 10000 in
theorem CpuOkI_con (pc : Int) (l : List Int) : Con Tryz.prog 192 [.g [.v (iv pc), .h base []]] [.rt base .ro (tr l)] (fun y _ => y = .v (.bool (decide (0 ≤ pc) && decide (pc ≤ 40) && (l.length == 4 && l.all word)))) := by
 refine ob Tryz.func192 Tryz.ntmps192 ?_
 refine sr ?_
 refine bx ?_
 refine nm ?_
 refine qs' ?_
 refine qq (fA fl70_0) ?_
 refine ql ag3 ?_
 refine nm ?_
 refine cv Tryz.call263 rfl rfl (isPlace_con _) ?_
 refine nm ?_
 refine qm ?_
 apply AWL.cut 4
 ·intro Kg1
  refine AWL.split 6 rfl (fun g1 => ?_) (fun g1 => ?_)
  ·refine qg g1 (fA fl70_1) ?_
   refine qg g1 (Qt.load1 rfl rfl rfl ag29) ?_
   refine nm ?_
   refine qg g1 (Qt.lenH rfl rfl rfl sl29) ?_
   refine qg g1 (Qt.binOp rfl rfl rfl) ?_
   exact wj 10 [7, 8, 9, 10] (ifT g1 _ undef) (by simp only [go_sem, reduceIte, Nat.reduceEqDiff, Nat.reduceBEq, reduceCtorEq]; rfl) Kg1
  ·refine og g1 ?_
   refine og g1 ?_
   refine og g1 ?_
   refine og g1 ?_
   exact wj 10 [7, 8, 9, 10] (ifF g1 undef _) (by simp only [go_sem, reduceIte, Nat.reduceEqDiff, Nat.reduceBEq, reduceCtorEq]) Kg1
 refine qq (Qt.pickAnd rfl rfl rfl) ?_
 refine nm ?_
 refine qm ?_
 apply AWL.cut 3
 ·intro Kg2
  refine AWL.split 12 rfl (fun g2 => ?_) (fun g2 => ?_)
  ·refine qg g2 (fA fl70_1) ?_
   refine qg g2 (Qt.load1 rfl rfl rfl ag29) ?_
   refine nm ?_
   refine AWL.step rfl g2 (Stp.callV rfl (by decide) Tryz.call103 rfl rfl (wordsOk_con _)) ?_
   refine nm ?_
   exact wj 15 [13, 14, 15] (ifT g2 _ undef) (by simp only [go_sem, reduceIte, Nat.reduceEqDiff, Nat.reduceBEq, reduceCtorEq]; rfl) Kg2
  ·refine og g2 ?_
   refine og g2 ?_
   refine og g2 ?_
   exact wj 15 [13, 14, 15] (ifF g2 undef _) (by simp only [go_sem, reduceIte, Nat.reduceEqDiff, Nat.reduceBEq, reduceCtorEq]) Kg2
 refine qq (Qt.pickAnd rfl rfl rfl) ?_
 refine qr 2 ?_
 have e : ((l.length : Int) == 4) = (l.length == 4) := by rw [Bool.eq_iff_iff]; simp; omega
 simp only [retX, slotL, reduceIte, Nat.reduceEqDiff, ← e, Bool.and_assoc]
end Go.Proofs.YtfbefcmeghpalaaGreat.VM
