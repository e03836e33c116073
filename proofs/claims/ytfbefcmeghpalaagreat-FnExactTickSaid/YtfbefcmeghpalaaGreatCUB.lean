/- Contracts of functions of the program. No conditions beyond those that each states. -/
import Derived.Test.YtfbefcmeghpalaaGreatCUA
set_option linter.all false
set_option maxHeartbeats 8000000
set_option maxRecDepth 10000
namespace Go.Proofs.YtfbefcmeghpalaaGreat.VM
open Go Go.RowKit Go.Proofs
theorem procOk1_con (u : DUnix) (f : Int) : Con Tryz.prog 194 [.v (iv f), .p base [] 9 0 0] [.rt base .ro (tr [u])] (fun y _ => y = .v (.bool (!(fdOk u f)))) := by
 refine ob Tryz.func194 Tryz.ntmps194 ?_
 refine sr ?_
 refine qs' ?_
 refine qm ?_
 refine qb ?_
 refine nm ?_
 refine qm ?_
 apply AWL.cut 4
 ·intro Kg1
  refine AWL.split 6 rfl (fun g1 => ?_) (fun g1 => ?_)
  ·refine qg g1 (Qt.loadG rfl rfl rfl ag31 sz31 (by decide)) ?_
   refine qg g1 Qt.move ?_
   refine nm ?_
   refine AWL.step rfl g1 (Stp.callV rfl (by decide) Tryz.call126 rfl rfl (openAtI_con u _)) ?_
   refine nm ?_
   refine qg g1 (Qt.binOp rfl rfl rfl) ?_
   exact wj 10 [7, 8, 9, 10] (ifT g1 _ undef) (by simp only [go_sem, reduceIte, Nat.reduceEqDiff, Nat.reduceBEq, reduceCtorEq]; rfl) Kg1
  ·refine og g1 ?_
   refine og g1 ?_
   refine og g1 ?_
   refine og g1 ?_
   exact wj 10 [7, 8, 9, 10] (ifF g1 undef _) (by simp only [go_sem, reduceIte, Nat.reduceEqDiff, Nat.reduceBEq, reduceCtorEq]) Kg1
 refine qq (Qt.pickAnd rfl rfl rfl) ?_
 refine qr 3 ?_
 refine rb ?_
 simp only [fdOk]
 grind only
theorem procOk2_con (f : Int) : Con Tryz.prog 195 [.v (iv f)] [] (fun y _ => y = .v (.bool (!(f == -1)))) := by
 refine ob Tryz.func195 Tryz.ntmps195 ?_
 refine sr ?_
 refine qs' ?_
 refine qm ?_
 refine qb ?_
 refine nm ?_
 refine qr 2 ?_
 rfl
theorem ixIU_con {fid : FuncId} {p : Int → Bool} (u0 : DUnix) (hE : Ent Tryz.prog fid) (hp : ∀ x : Int, Con Tryz.prog fid [.v (iv x), .p base [] 9 0 0] [.rt base .ro (tr [u0])] (fun y _ => y = .v (.bool (p x)))) (l : List Int) : Con Tryz.prog 260 [.h base [], .f fid [.p (base + 1) [] 9 0 0]] [.rt base .ro (tr l), .rt (base + 1) .ro (tr [u0])] (fun y _ => y = .v (iv (ixOf p l))) := by
 refine ob Tryz.func260 Tryz.ntmps260 ?_
 refine AW.len base [] rfl (by simp [Okp]) rfl (fun hl => ?_)
 refine sr ?_
 refine qn ?_
 refine sr2 ?_
 refine qm ?_
 refine qh sl29 ?_
 refine nm ?_
 refine qm ?_
 refine nl ?_
 refine AW.block ?_
 refine AW.loopW (fun i : IxInv p l => [.sl 8 (.v (iv i.k)), .sl 7 (.v (iv l.length)), .sl 0 (.h base []), .sl 1 (.f fid [.p (base + 1) [] 9 0 0]), .rt base .ro (tr l), .rt (base + 1) .ro (tr [u0])]) (fun i => l.length - i.k) ⟨0, Nat.zero_le _, rfl⟩ (Weak.sim ⟨rfl, rfl, rfl, rfl, Rf rfl, Rf rfl, trivial⟩ rfl rfl) ?_
 intro i
 have hle := i.le
 refine sr ?_
 refine qb ?_
 refine nl ?_
 refine AW.seq ?_
 refine cd (fun c1 => ?_) fun c1 => ?_
 ·try simp only [cnd] at c1
  refine jd (AW.seq (AW.block (sr ?_)))
  refine mn ?_
  refine qs' ?_
  refine qm ?_
  refine mn ?_
  refine qm ?_
  refine qq (ix sl29 sz3) ?_
  refine ql ag3 ?_
  refine nm ?_
  refine cv hE rfl rfl (Con.simH (hp (l.getD i.k En.dflt)) ⟨⟨_, rfl, (sim_one (fun c hc => match c, hc with | 0, _ => T.sim_refl _ | 1, _ => T.sim_refl _ | 2, _ => T.sim_refl _ | 3, _ => T.sim_refl _ | 4, _ => T.sim_refl _ | 5, _ => T.sim_refl _ | 6, _ => T.sim_refl _ | 7, _ => T.sim_refl _ | 8, _ => T.sim_refl _ | c + 9, hc => absurd hc (by simp only [En.n]; omega)))⟩, trivial⟩ rfl rfl rfl) ?_
  refine nc (fun c2 => ?_) fun c2 => ?_
  ·try simp only [cnd] at c2
   refine sr ?_
   refine mn ?_
   refine qr 4 ?_
   rw [ixOf_hit i En.dflt (by omega) c2]
   rfl
  try simp only [cnd] at c2
  refine jd (AW.region ?_)
  refine ba ?_
  refine qm ?_
  refine nl ?_
  refine ⟨⟨i.k + 1, by omega, i.next En.dflt (by omega) c2⟩, Weak.sim ⟨st1, rfl, rfl, rfl, Rf rfl, Rf rfl, trivial⟩ rfl rfl, ?_⟩
  show l.length - (i.k + 1) < l.length - i.k
  omega
 try simp only [cnd] at c1
 refine AW.exit ?_
 dsimp only [thenQ, blockQ, reduceIte]
 refine sr ?_
 refine qr 4 ?_
 rw [ixOf_none i (by omega)]
 rfl
theorem hasIU_con {fid : FuncId} {p : Int → Bool} (u0 : DUnix) (hE : Ent Tryz.prog fid) (hp : ∀ x : Int, Con Tryz.prog fid [.v (iv x), .p base [] 9 0 0] [.rt base .ro (tr [u0])] (fun y _ => y = .v (.bool (p x)))) (l : List Int) : Con Tryz.prog 185 [.h base [], .f fid [.p (base + 1) [] 9 0 0]] [.rt base .ro (tr l), .rt (base + 1) .ro (tr [u0])] (fun y _ => y = .v (.bool (l.any p))) := by
 refine ob Tryz.func185 Tryz.ntmps185 ?_
 refine sr ?_
 refine qs' ?_
 refine qm ?_
 refine mn ?_
 refine cv Tryz.call260 rfl rfl (Con.simH (ixIU_con u0 hE hp l) ⟨⟨_, rfl, T.sim_refl _⟩, ⟨_, rfl, (sim_one (fun c hc => match c, hc with | 0, _ => T.sim_refl _ | 1, _ => T.sim_refl _ | 2, _ => T.sim_refl _ | 3, _ => T.sim_refl _ | 4, _ => T.sim_refl _ | 5, _ => T.sim_refl _ | 6, _ => T.sim_refl _ | 7, _ => T.sim_refl _ | 8, _ => T.sim_refl _ | c + 9, hc => absurd hc (by simp only [En.n]; omega)))⟩, trivial⟩ rfl rfl rfl) ?_
 refine nm ?_
 refine qb ?_
 refine qr 4 ?_
 rw [← ixOf_ge]
 rfl
theorem any_fd (l : List Int) (p : Int → Bool) : (l.any fun x => !(p x)) = !(l.all p) := by rw [Bool.eq_iff_iff]; simp
end Go.Proofs.YtfbefcmeghpalaaGreat.VM
