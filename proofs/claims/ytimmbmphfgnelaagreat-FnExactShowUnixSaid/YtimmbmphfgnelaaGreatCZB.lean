/- Contracts of functions of the program. No conditions beyond those that each states. -/
import Derived.Test.YtimmbmphfgnelaaGreatCZA
set_option linter.all false
namespace Go.Proofs.YtimmbmphfgnelaaGreat.VM
open Go Go.RowKit Go.Proofs
set_option maxHeartbeats 8000000 in
set_option maxRecDepth 10000 in
theorem procOk1_con (u : DUnix) (f : Int) : Con Tryz.prog 185 [.v (iv f), .p base [] 9 0 0] [.rt base .ro (tr [u])] (fun y _ => y = .v (.bool (!(fdOk u f)))) := by
 refine Con.of_body Tryz.func185 rfl (by simp) ?_
 rw [Tryz.ntmps185]
 refine AW.seq (AW.region ?_)
 refine qq Qt.assign ?_
 refine nl ?_
 refine AW.seq (AW.region ?_)
 refine qq Qt.move ?_
 refine qq (Qt.binOp rfl rfl rfl) ?_
 refine nm ?_
 refine qq Qt.move ?_
 apply AWL.cut 4
 ·intro Kg1
  refine AWL.split 6 rfl (fun g1 => ?_) (fun g1 => ?_)
  ·refine qg g1 (Qt.loadG rfl rfl rfl ag38 sz38 (by decide)) ?_
   refine qg g1 Qt.move ?_
   refine nm ?_
   refine AWL.step rfl g1 (Stp.callV rfl (by decide) Tryz.call186 rfl rfl (openAtI_con u _)) ?_
   refine nm ?_
   refine qg g1 (Qt.binOp rfl rfl rfl) ?_
   exact wj 10 [7, 8, 9, 10] (ifT g1 _ undef) (by simp only [go_sem, Int.reduceToNat, Nat.reduceLT, reduceIte, Nat.reduceEqDiff, Nat.reduceAdd, Nat.reduceMul, Nat.reduceBEq, reduceCtorEq]; rfl) Kg1
  ·refine og g1 ?_
   refine og g1 ?_
   refine og g1 ?_
   refine og g1 ?_
   exact wj 10 [7, 8, 9, 10] (ifF g1 undef _) (by simp only [go_sem, Int.reduceToNat, Nat.reduceLT, reduceIte, Nat.reduceEqDiff, Nat.reduceAdd, Nat.reduceMul, Nat.reduceBEq, reduceCtorEq]) Kg1
 refine qq (Qt.pickAnd rfl rfl rfl) ?_
 refine qq Qt.assign ?_
 refine nl ?_
 refine AW.ret (endQ_ret (.cons (.tmp 3) .nil) ?_)
 refine rb ?_
 simp only [fdOk]
 grind only
set_option maxHeartbeats 8000000 in
set_option maxRecDepth 10000 in
theorem procOk2_con (f : Int) : Con Tryz.prog 187 [.v (iv f)] [] (fun y _ => y = .v (.bool (!(f == -1)))) := by
 refine Con.of_body Tryz.func187 rfl (by simp) ?_
 rw [Tryz.ntmps187]
 refine AW.seq (AW.region ?_)
 refine qq Qt.assign ?_
 refine nl ?_
 refine AW.seq (AW.region ?_)
 refine qq Qt.move ?_
 refine qq (Qt.binOp rfl rfl rfl) ?_
 refine nm ?_
 refine qq Qt.assign ?_
 refine nl ?_
 refine AW.ret (endQ_ret (.cons (.tmp 2) .nil) ?_)
 rfl
set_option maxHeartbeats 8000000 in
set_option maxRecDepth 10000 in
theorem ixIU_con {fid : FuncId} {p : Int → Bool} (u0 : DUnix) (hE : Ent Tryz.prog fid) (hp : ∀ x : Int, Con Tryz.prog fid [.v (iv x), .p base [] 9 0 0] [.rt base .ro (tr [u0])] (fun y _ => y = .v (.bool (p x)))) (l : List Int) : Con Tryz.prog 238 [.h base [], .f fid [.p (base + 1) [] 9 0 0]] [.rt base .ro (tr l), .rt (base + 1) .ro (tr [u0])] (fun y _ => y = .v (iv (ixOf p l))) := by
 refine Con.of_body Tryz.func238 rfl (by simp) ?_
 rw [Tryz.ntmps238]
 refine AW.len base [] rfl (by simp [Okp]) rfl (fun hl => ?_)
 refine AW.seq (AW.region ?_)
 refine qq Qt.assign ?_
 refine nl ?_
 refine AW.seq (AW.seq (AW.region ?_))
 refine qq Qt.move ?_
 refine qq (Qt.lenH rfl rfl rfl sl27) ?_
 refine nm ?_
 refine qq Qt.move ?_
 refine nl ?_
 refine AW.block ?_
 refine AW.loopW (fun i : IxInv p l => [.sl 8 (.v (iv i.k)), .sl 7 (.v (iv l.length)), .sl 0 (.h base []), .sl 1 (.f fid [.p (base + 1) [] 9 0 0]), .rt base .ro (tr l), .rt (base + 1) .ro (tr [u0])]) (fun i => l.length - i.k) ⟨0, Nat.zero_le _, rfl⟩ (Weak.sim ⟨rfl, rfl, rfl, rfl, Rf rfl, Rf rfl, trivial⟩ rfl rfl) ?_
 intro i
 have hle := i.le
 refine AW.seq (AW.region ?_)
 refine qq (Qt.binOp rfl rfl rfl) ?_
 refine nl ?_
 refine AW.seq ?_
 refine AW.cond rfl (fun c1 => ?_) (fun c1 => ?_)
 ·have k1 := c1
  try simp only [cnd] at c1
  refine jd (AW.seq (AW.block (AW.seq (AW.region ?_))))
  refine qq Qt.move ?_
  refine nm ?_
  refine qq Qt.assign ?_
  refine nl ?_
  refine AW.seq (AW.region ?_)
  refine qq Qt.move ?_
  refine qq Qt.move ?_
  refine nm ?_
  refine qq Qt.move ?_
  refine qq (Qt.indexAddr rfl rfl rfl rfl sl27 sz3 (by decide) (by omega)) ?_
  refine qq (Qt.load1 rfl rfl rfl ag3) ?_
  refine nm ?_
  refine cv hE rfl rfl (Con.simH (hp (l.getD i.k En.dflt)) ⟨⟨_, rfl, (sim_one (fun c hc => match c, hc with | 0, _ => T.sim_refl _ | 1, _ => T.sim_refl _ | 2, _ => T.sim_refl _ | 3, _ => T.sim_refl _ | 4, _ => T.sim_refl _ | 5, _ => T.sim_refl _ | 6, _ => T.sim_refl _ | 7, _ => T.sim_refl _ | 8, _ => T.sim_refl _ | c + 9, hc => absurd hc (by simp only [En.n]; omega)))⟩, trivial⟩ rfl rfl rfl) ?_
  refine nl ?_
  refine AW.cond rfl (fun c2 => ?_) (fun c2 => ?_)
  ·have k2 := c2
   try simp only [cnd] at c2
   refine AW.seq (AW.region ?_)
   refine qq Qt.move ?_
   refine nm ?_
   refine qq Qt.assign ?_
   refine nl ?_
   refine AW.ret (endQ_ret (.cons (.tmp 4) .nil) ?_)
   rw [ixOf_hit i En.dflt (by omega) c2]
   rfl
  have k2 := c2
  try simp only [cnd] at c2
  refine jd (AW.region ?_)
  refine qq (Qt.binOp rfl rfl (by first | exact pbAdd (by omega) | rfl)) ?_
  refine qq Qt.move ?_
  refine nl ?_
  refine ⟨⟨i.k + 1, by omega, i.next En.dflt (by omega) c2⟩, Weak.sim ⟨st1, rfl, rfl, rfl, Rf rfl, Rf rfl, trivial⟩ rfl rfl, ?_⟩
  show l.length - (i.k + 1) < l.length - i.k
  omega
 have k1 := c1
 try simp only [cnd] at c1
 refine AW.exit ?_
 dsimp only [thenQ, blockQ, reduceIte]
 refine AW.seq (AW.region ?_)
 refine qq Qt.assign ?_
 refine nl ?_
 refine AW.ret (endQ_ret (.cons (.tmp 4) .nil) ?_)
 rw [ixOf_none i (by omega)]
 rfl
set_option maxHeartbeats 8000000 in
set_option maxRecDepth 10000 in
theorem hasIU_con {fid : FuncId} {p : Int → Bool} (u0 : DUnix) (hE : Ent Tryz.prog fid) (hp : ∀ x : Int, Con Tryz.prog fid [.v (iv x), .p base [] 9 0 0] [.rt base .ro (tr [u0])] (fun y _ => y = .v (.bool (p x)))) (l : List Int) : Con Tryz.prog 175 [.h base [], .f fid [.p (base + 1) [] 9 0 0]] [.rt base .ro (tr l), .rt (base + 1) .ro (tr [u0])] (fun y _ => y = .v (.bool (l.any p))) := by
 refine Con.of_body Tryz.func175 rfl (by simp) ?_
 rw [Tryz.ntmps175]
 refine AW.seq (AW.region ?_)
 refine qq Qt.assign ?_
 refine nl ?_
 refine AW.seq (AW.region ?_)
 refine qq Qt.move ?_
 refine qq Qt.move ?_
 refine nm ?_
 refine cv Tryz.call238 rfl rfl (Con.simH (ixIU_con u0 hE hp l) ⟨⟨_, rfl, T.sim_refl _⟩, ⟨_, rfl, (sim_one (fun c hc => match c, hc with | 0, _ => T.sim_refl _ | 1, _ => T.sim_refl _ | 2, _ => T.sim_refl _ | 3, _ => T.sim_refl _ | 4, _ => T.sim_refl _ | 5, _ => T.sim_refl _ | 6, _ => T.sim_refl _ | 7, _ => T.sim_refl _ | 8, _ => T.sim_refl _ | c + 9, hc => absurd hc (by simp only [En.n]; omega)))⟩, trivial⟩ rfl rfl rfl) ?_
 refine nm ?_
 refine qq (Qt.binOp rfl rfl rfl) ?_
 refine qq Qt.assign ?_
 refine nl ?_
 refine AW.ret (endQ_ret (.cons (.tmp 4) .nil) ?_)
 rw [← ixOf_ge]
 rfl
theorem any_fd (l : List Int) (p : Int → Bool) : (l.any fun x => !(p x)) = !(l.all p) := by rw [Bool.eq_iff_iff]; simp
end Go.Proofs.YtimmbmphfgnelaaGreat.VM
