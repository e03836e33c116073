/- Contracts of functions of the program. No conditions beyond those that each states. -/
import Derived.Test.YtlploojfcmcckaaDoorCK3
set_option linter.all false
set_option maxHeartbeats 8000000
set_option maxRecDepth 10000
namespace Go.Proofs.YtlploojfcmcckaaDoor.VM
open Go Go.RowKit Go.Proofs
theorem progOk1_con (i : DIns) : Con Tryd.prog 55 [.g [.v (iv i.Op), .v (iv i.A), .v (iv i.B), .v (iv i.C)]] [] (fun y _ => y = .v (.bool !(insOk i))) := by
 refine ob Tryd.func55 Tryd.ntmps55 ?_
 refine sr ?_
 refine bx ?_
 refine nm ?_
 refine qs' ?_
 refine qG ag53 sz53 ?_
 refine cv Tryd.call56 rfl rfl (InsOkI_con i) ?_
 refine nm ?_
 refine qq (Qt.notB rfl) ?_
 refine qr 2 ?_
 rfl
theorem ixIns_con {fid : FuncId} {p : DIns → Bool} (hE : Ent Tryd.prog fid) (hp : ∀ x : DIns, Con Tryd.prog fid [.g [.v (iv x.Op), .v (iv x.A), .v (iv x.B), .v (iv x.C)]] [] (fun y _ => y = .v (.bool (p x)))) (l : List DIns) : Con Tryd.prog 71 [.h base [], .f fid []] [.rt base .ro (tr l)] (fun y _ => y = .v (iv (ixOf p l))) := by
 refine ob Tryd.func71 Tryd.ntmps71 ?_
 refine AW.len base [] rfl (by simp [Okp]) rfl (fun hl => ?_)
 refine sr ?_
 refine qn ?_
 refine sr2 ?_
 refine qm ?_
 refine qh sl27 ?_
 refine nm ?_
 refine qm ?_
 refine nl ?_
 refine AW.block ?_
 refine AW.loopW (fun i : IxInv p l => [.sl 8 (.v (iv i.k)), .sl 7 (.v (iv l.length)), .sl 0 (.h base []), .sl 1 (.f fid []), .rt base .ro (tr l)]) (fun i => l.length - i.k) ⟨0, Nat.zero_le _, rfl⟩ (Weak.sim ⟨rfl, rfl, rfl, rfl, Rf rfl, trivial⟩ rfl rfl) ?_
 intro i
 have hle := i.le
 refine sr ?_
 refine qb ?_
 refine nl ?_
 refine AW.seq ?_
 refine cd (fun c1 => ?_) fun c1 => ?_
 ·try simp only [cnd] at c1
  refine jd (AW.seq (AW.block (sr ?_)))
  refine mn ?_
  refine qs' ?_
  refine qm ?_
  refine mn ?_
  refine qm ?_
  refine qq (ix sl27 sz53) ?_
  refine qG ag53 sz53 ?_
  refine nm ?_
  refine cv hE rfl rfl (hp (l.getD i.k En.dflt)) ?_
  refine nc (fun c2 => ?_) fun c2 => ?_
  ·try simp only [cnd] at c2
   refine sr ?_
   refine mn ?_
   refine qr 4 ?_
   rw [ixOf_hit i En.dflt (by omega) c2]
   rfl
  try simp only [cnd] at c2
  refine jd (AW.region ?_)
  refine ba ?_
  refine qm ?_
  refine nl ?_
  refine ⟨⟨i.k + 1, by omega, i.next En.dflt (by omega) c2⟩, Weak.sim ⟨st1, rfl, rfl, rfl, Rf rfl, trivial⟩ rfl rfl, ?_⟩
  show l.length - (i.k + 1) < l.length - i.k
  omega
 try simp only [cnd] at c1
 refine AW.exit ?_
 dsimp only [thenQ, blockQ, reduceIte]
 refine sr ?_
 refine qr 4 ?_
 rw [ixOf_none i (by omega)]
 rfl
theorem hasIns_con {fid : FuncId} {p : DIns → Bool} (hE : Ent Tryd.prog fid) (hp : ∀ x : DIns, Con Tryd.prog fid [.g [.v (iv x.Op), .v (iv x.A), .v (iv x.B), .v (iv x.C)]] [] (fun y _ => y = .v (.bool (p x)))) (l : List DIns) : Con Tryd.prog 54 [.h base [], .f fid []] [.rt base .ro (tr l)] (fun y _ => y = .v (.bool (l.any p))) := by
 refine ob Tryd.func54 Tryd.ntmps54 ?_
 refine sr ?_
 refine qs' ?_
 refine qm ?_
 refine mn ?_
 refine cv Tryd.call71 rfl rfl (ixIns_con hE hp _) ?_
 refine nm ?_
 refine qb ?_
 refine qr 4 ?_
 rw [← ixOf_ge]
 rfl
theorem ProgOkI_con (l : List DIns) : Con Tryd.prog 35 [.h base []] [.rt base .ro (tr l)] (fun y _ => y = .v (.bool (progOk l))) := by
 refine ob Tryd.func35 Tryd.ntmps35 ?_
 refine sr ?_
 refine qs' ?_
 refine qm ?_
 refine qh sl27 ?_
 refine nm ?_
 refine qb ?_
 refine qm ?_
 apply AWL.cut 3
 ·intro Kg1
  refine AWL.split 6 rfl (fun g1 => ?_) (fun g1 => ?_)
  ·refine qg g1 Qt.move ?_
   refine nm ?_
   refine AWL.step rfl g1 (Stp.callV rfl (by decide) Tryd.call54 rfl rfl (hasIns_con Tryd.call55 (fun x => progOk1_con x) _)) ?_
   refine nm ?_
   refine qg g1 (Qt.notB rfl) ?_
   exact wj 9 [7, 8, 9] (ifT g1 _ undef) (by simp only [go_sem, reduceIte, Nat.reduceEqDiff, Nat.reduceBEq, reduceCtorEq]; rfl) Kg1
  ·refine og g1 ?_
   refine og g1 ?_
   refine og g1 ?_
   exact wj 9 [7, 8, 9] (ifF g1 undef _) (by simp only [go_sem, reduceIte, Nat.reduceEqDiff, Nat.reduceBEq, reduceCtorEq]) Kg1
 refine qq (Qt.pickAnd rfl rfl rfl) ?_
 refine qr 2 ?_
 simp only [retX, slotL, reduceIte, Nat.reduceEqDiff]
 congr 2
 rw [Bool.eq_iff_iff]
 simp [progOk]
 omega
theorem ProgOkS_con (l : List DIns) : Con Tryd.prog 32 [.h base []] [.rt base .ro (tr l)] (fun y _ => y = .v (.bool (progOk l))) := by
 refine ob Tryd.func32 Tryd.ntmps32 ?_
 refine AW.len base [] rfl (by simp [Okp]) rfl (fun hl => ?_)
 refine sr ?_
 refine qn ?_
 refine sr2 ?_
 refine qm ?_
 refine qh sl27 ?_
 refine nm ?_
 refine qb ?_
 refine nc (fun c1 => ?_) fun c1 => ?_
 ·try simp only [cnd] at c1
  refine sr ?_
  refine qr 2 ?_
  rw [show progOk l = false from by simp only [progOk, decide_eq_false (show ¬ l.length ≤ 40 by omega), Bool.false_and]]
  rfl
 try simp only [cnd] at c1
 refine jd (sr2 ?_)
 refine qn ?_
 refine AW.block ?_
 refine AW.loopW (fun i : AllInv insOk l => [.sl 3 (.v (iv i.k)), .sl 0 (.h base []), .rt base .ro (tr l)]) (fun i => l.length - i.k) ⟨0, Nat.zero_le _, rfl⟩ (Weak.sim ⟨rfl, rfl, Rf rfl, trivial⟩ rfl rfl) ?_
 intro i
 have hle := i.le
 refine sr2 ?_
 refine mn ?_
 refine qm ?_
 refine qh sl27 ?_
 refine qb ?_
 refine nc (fun c2 => ?_) fun c2 => ?_
 ·try simp only [cnd] at c2
  refine jd (AW.seq (AW.block (sr ?_)))
  refine mn ?_
  refine qm ?_
  refine qq (ix sl27 sz53) ?_
  refine qG ag53 sz53 ?_
  refine nm ?_
  refine cv Tryd.call53 rfl rfl (InsOkS_con (l.getD i.k En.dflt)) ?_
  refine nm ?_
  refine qq (Qt.notB rfl) ?_
  refine nc (fun c3 => ?_) fun c3 => ?_
  ·try simp only [cnd] at c3
   refine sr ?_
   refine qr 2 ?_
   rw [show progOk l = false from by simp only [progOk, i.stop En.dflt (by omega) (by simpa using c3), Bool.and_false]]
   rfl
  try simp only [cnd] at c3
  refine jd (AW.region ?_)
  refine mn ?_
  refine ba ?_
  refine qn ?_
  refine ⟨⟨i.k + 1, by omega, i.next En.dflt (by omega) (by simpa using c3)⟩, Weak.sim ⟨st1, rfl, Rf rfl, trivial⟩ rfl rfl, ?_⟩
  show l.length - (i.k + 1) < l.length - i.k
  omega
 try simp only [cnd] at c2
 refine AW.exit ?_
 dsimp only [thenQ, blockQ, reduceIte]
 refine sr ?_
 refine qr 2 ?_
 rw [show progOk l = true from by simp only [progOk, i.full (by omega), decide_eq_true (show l.length ≤ 40 by omega), Bool.and_true]]
 rfl
end Go.Proofs.YtlploojfcmcckaaDoor.VM
