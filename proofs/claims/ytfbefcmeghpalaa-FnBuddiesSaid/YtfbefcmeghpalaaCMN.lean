/- Contracts of functions of the program. No conditions beyond those that each states. -/
import Derived.Test.YtfbefcmeghpalaaCMM
import Derived.Test.YtfbefcmeghpalaaCML
import Derived.Test.YtfbefcmeghpalaaCMK
import Derived.Test.YtfbefcmeghpalaaCME
set_option linter.all false
namespace Go.Proofs.Ytfbefcmeghpalaa.VM
open Go Go.RowKit Go.Proofs
set_option maxHeartbeats 8000000 in
set_option maxRecDepth 10000 in
theorem BuddyTakeI_con (a : DBuddy) (hw : Mk.wt a.Free ≤ 1048576) : Con Try.prog 7 [.g [.h base []]] [.rt base .ro (tr a.Free)] (Ret (.t [.g [.h 0 []], .v (iv (bT a.Free).2)]) [(0, .row, tr (bT a.Free).1)]) := by
 refine Con.of_body Try.func7 rfl (by simp) ?_
 rw [Try.ntmps7]
 refine AW.len (base) [] rfl (by simp [Okp]) rfl (fun hl => ?_)
 refine AW.seq (AW.region ?_)
 refine sp (Stp.boxB rfl (by decide) (by decide) rfl rfl rfl rfl) ?_
 refine nm ?_
 refine sp (Stp.alloc rfl (by decide) (by decide)) ?_
 refine nm ?_
 refine qq Qt.assign ?_
 refine nl ?_
 refine AW.seq (AW.seq (AW.region ?_))
 refine qq (Qt.loadG rfl rfl rfl ag26 sz26 (by decide)) ?_
 refine cv Try.call26 rfl rfl (BuddyOkI_con _) ?_
 refine nm ?_
 refine qq (Qt.notB rfl) ?_
 refine nl ?_
 refine AW.cond rfl (fun c1 => ?_) (fun c1 => ?_)
 ·have k1 := c1
  try simp only [cnd] at c1
  refine AW.seq (AW.region ?_)
  refine qq (Qt.build rfl) ?_
  refine ss ?_
  refine nm ?_
  refine qq Qt.assign ?_
  refine nl ?_
  refine AW.weak (Weak.hoist 2 0 900 rfl (by decide) rfl rfl rfl) ?_
  refine AW.rep 900 (tr ([] : List (List Int))) rfl sim_nil ?_
  refine AW.ret (endQ_ret (.cons (.cellG 2 26 rfl rfl rfl ag26 sz26 (by decide)) (.cons (.tmp 3) .nil)) ?_)
  rw [show bT a.Free = ([], -1) from if_neg (by rw [← ok_eq]; grind only)]
  refine ⟨fun _ => 900, rfl, nodup_of rfl, ?_⟩
  intro r hr
  cases List.mem_singleton.1 hr
  exact ⟨by simp, rootL_mem rfl⟩
 have k1 := c1
 try simp only [cnd] at c1
 have hok : okS a.Free = true := by rw [← ok_eq]; grind only
 have hF := budF_of hok
 have h5 := hF.len
 have ⟨_, ho5, hoe, hon⟩ := fo_spec a.Free 5 0
 refine jd (AW.seq (AW.region ?_))
 refine qq (Qt.loadG rfl rfl rfl ag26 sz26 (by decide)) ?_
 refine sp (Stp.callR rfl (by decide) Try.call27 rfl rfl (cloneBuddy_con a hw) (nodup_of rfl) rfl rfl) ?_
 refine nm ?_
 refine sp (Stp.alloc rfl (by decide) (by decide)) ?_
 refine nm ?_
 refine ss ?_
 refine nl ?_
 refine AW.seq (AW.region ?_)
 refine qq (fA fl26_0) ?_
 refine nm ?_
 refine qq (Qt.load1 rfl rfl rfl ag24) ?_
 refine cv Try.call28 rfl rfl (ixLL_con Try.call29 bt1_con a.Free) ?_
 refine nm ?_
 refine qq Qt.assign ?_
 refine nl ?_
 refine AW.seq (AW.seq (AW.region ?_))
 refine qq Qt.move ?_
 refine qq (Qt.binOp rfl rfl rfl) ?_
 refine nl ?_
 refine AW.cond rfl (fun c2 => ?_) (fun c2 => ?_)
 ·have k2 := c2
  try simp only [cnd] at c2
  have ho : (fo a.Free 5 0) = 5 := by
   rcases Nat.decEq (fo a.Free 5 0) 5 with h | h
   ·exfalso
    rw [ix_fo h5, if_neg h] at c2
    omega
   ·exact h
  refine AW.seq (AW.region ?_)
  refine qq (Qt.loadG rfl rfl rfl ag26 sz26 (by decide)) ?_
  refine nm ?_
  refine ss ?_
  refine nm ?_
  refine qq Qt.assign ?_
  refine nl ?_
  refine AW.rep 12 (tr (bT a.Free).1) rfl (by rw [show (bT a.Free).1 = a.Free from by rw [bT, if_pos hok]; exact if_pos ho]; exact T.sim_refl _) ?_
  refine AW.ret (endQ_ret (.cons (.cellG 2 26 rfl rfl rfl ag26 sz26 (by decide)) (.cons (.tmp 3) .nil)) ?_)
  rw [show (bT a.Free).2 = -1 from by rw [bT, if_pos hok]; exact if_pos ho]
  refine ⟨fun _ => 12, rfl, nodup_of rfl, ?_⟩
  intro r hr
  cases List.mem_singleton.1 hr
  exact ⟨by simp, rootL_mem rfl⟩
 have k2 := c2
 try simp only [cnd] at c2
 have ho : (fo a.Free 5 0) ≠ 5 := fun h => by
  rw [ix_fo h5, if_pos h] at c2
  omega
 have hl1 : 1 ≤ (a.Free.getD (fo a.Free 5 0) En.dflt).length := List.length_pos_iff.2 (hon (by omega))
 have hO5 : (fo a.Free 5 0) < a.Free.length := by omega
 refine AW.weak (Weak.slot (d := 5) (v' := iv (((fo a.Free 5 0) : Nat) : Int)) rfl (by rw [ix_fo h5, if_neg ho])) ?_
 refine jd (AW.seq (AW.region ?_))
 refine qq (fA fl26_0) ?_
 refine qq (Qt.load1 rfl rfl rfl ag24) ?_
 refine nm ?_
 refine qq Qt.move ?_
 refine qq (Qt.indexAddr rfl rfl rfl rfl sl24 sz35 (by decide) (by first | omega | grind only)) ?_
 refine qq (Qt.load1 rfl rfl rfl ag35) ?_
 refine nm ?_
 refine qq (Qt.indexAddr rfl rfl rfl rfl sl35 sz3 (by decide) (by first | omega | grind only)) ?_
 refine qq (Qt.load1 rfl rfl rfl ag3) ?_
 refine qq Qt.assign ?_
 refine nl ?_
 refine AW.seq ?_
 refine AW.draw [0, 1, 2, 3, 4, 5, 6, 7, 9] rfl (by decide +kernel) ?_
 refine tk 0 rfl (fA fl26_0) ?_
 refine na ?_
 refine tk 1 rfl (Qt.load1 rfl rfl rfl ag24) ?_
 refine tk 2 rfl Qt.move ?_
 refine tk 3 rfl (fA fl26_0) ?_
 refine na ?_
 refine tk 4 rfl (Qt.load1 rfl rfl rfl ag24) ?_
 refine tk 5 rfl Qt.move ?_
 refine tk 6 rfl (Qt.indexAddr rfl rfl rfl rfl sl24 sz35 (by decide) (by first | omega | grind only)) ?_
 refine na ?_
 refine tk 7 rfl (Qt.load1 rfl rfl rfl ag35) ?_
 refine a1 8 [0, 1, 2] [7, 6, 5, 4, 3] rfl rfl (Stp.callH rfl (by decide) Try.call30 rfl (del_con (a.Free.getD (fo a.Free 5 0) En.dflt) 0 1 (by omega) hl1) rfl rfl rfl (nodup_of rfl) rfl rfl) ?_
 refine na ?_ (by simp only [go_sem, keepN, T.isS, T.isJ, List.length_cons, List.length_nil, Bool.not_false, Bool.not_true, Int.reduceToNat, Nat.reduceLT, reduceIte, Nat.reduceEqDiff, Nat.reduceAdd, Nat.reduceMul, Nat.reduceBEq, reduceCtorEq]; rfl)
 refine AWA.rep 12 (T.s 1 a.Free.length (upd (fun i c => (En.cs (a.Free.getD i En.dflt)).getD c .j) (fo a.Free 5 0) 0 .j)) rfl (T.sim_refl _) ?_
 refine na ?_
 refine na ?_
 refine AWA.againE rfl rfl (by decide +kernel) (.on rfl rfl (fA fl26_0)) rfl ?_
 refine na ?_
 refine AWA.againE rfl rfl (by decide +kernel) (.on rfl rfl (Qt.load1 rfl rfl rfl ag24)) rfl ?_
 refine na ?_
 refine AWA.againE rfl rfl (by decide +kernel) (.on rfl rfl Qt.move) rfl ?_
 refine na ?_
 refine tk 9 rfl (Qt.indexAddr rfl rfl rfl rfl sl24 sz35 (by decide) (by first | omega | grind only)) ?_
 refine a1 10 [] [9, 8, 7, 6, 5, 4, 3, 2, 1, 0] rfl rfl (by first | exact Stp.storeA rfl rfl rfl rfl (by decide) rfl | exact Stp.store rfl rfl (by simp) rfl rfl rfl (by decide) rfl) ?_
 refine na ?_
 refine na ?_
 refine AWA.rep 12 (tr (a.Free.set (fo a.Free 5 0) ((a.Free.getD (fo a.Free 5 0) En.dflt).drop 1))) rfl (set_sim (fun i c hi => by simp only [upd_app, hi, false_and, if_false]; try rfl) (fun c hc => match c, hc with | 0, _ => (by simp only [upd_app, eq_self, and_self, if_true]; exact T.sim_refl _) | c + 1, hc => absurd hc (by simp only [En.n]; omega))) ?_
 refine na ?_
 refine nz ?_
 refine AW.seq (AW.block ?_)
 refine AW.weak (Weak.sink 12 4 0 rfl (by decide) rfl rfl rfl rfl) ?_
 refine AW.loopW (fun j : DInv (a.Free.set (fo a.Free 5 0) ((a.Free.getD (fo a.Free 5 0) En.dflt).drop 1)) ((a.Free.getD (fo a.Free 5 0) En.dflt).getD 0 En.dflt) (fo a.Free 5 0) => [.sl 5 (.v (iv j.c)), .sl 6 (.v (iv ((a.Free.getD (fo a.Free 5 0) En.dflt).getD 0 En.dflt))), .sl 4 (.p 4 [] 1 0 0), .rt 4 .box (T.s 1 1 fun _ _ => tr j.acc), .rt base .ro (tr a.Free), .sl 2 (.p 2 [] 1 0 0), .rt 2 .box (T.s 1 1 fun _ c => [T.s 1 0 fun _ _ => T.j].getD c T.j)]) (fun j => j.c) ⟨(fo a.Free 5 0), Nat.le_refl _, (a.Free.set (fo a.Free 5 0) ((a.Free.getD (fo a.Free 5 0) En.dflt).drop 1)), by rw [Nat.sub_self]; rfl, by rw [List.length_set]; exact h5, fun q hq => by rw [List.getD_eq_getElem?_getD, List.getElem?_set_ne (by omega), ← List.getD_eq_getElem?_getD]; exact hoe q (Nat.zero_le _) hq⟩ (Weak.sim ⟨rfl, rfl, rfl, ⟨_, rfl, sim11 (T.sim_refl _)⟩, Rf rfl, rfl, Rf rfl, trivial⟩ rfl rfl) ?_
 intro j
 have hlej := j.le
 have hpw := pow5 (k := j.c - 1) (by have := j.le; omega)
 have hjl := j.len
 have hje := j.em (j.c - 1)
 refine AW.seq (AW.seq (AW.region ?_))
 refine qq Qt.move ?_
 refine qq (Qt.binOp rfl rfl rfl) ?_
 refine nl ?_
 refine AW.cond rfl (fun c3 => ?_) (fun c3 => ?_)
 ·have k3 := c3
  try simp only [cnd] at c3
  have hjp := hje (by omega)
  have hfb := hF.head _ (by omega : (fo a.Free 5 0) < 5)
  refine jd (AW.block (AW.seq (AW.region ?_)))
  refine qq Qt.move ?_
  refine nm ?_
  refine qq (Qt.binOp rfl rfl (by first | exact pbSub (by omega) | rfl)) ?_
  refine qq Qt.assign ?_
  refine AWL.weak (Weak.slot (d := 5) (v' := iv ((j.c - 1 : Nat) : Int)) rfl (by congr 1; omega)) ?_
  refine nl ?_
  refine AW.region ?_
  refine qq Qt.move ?_
  refine nm ?_
  refine qq Qt.move ?_
  refine qq Qt.move ?_
  refine qq (Qt.binOp rfl rfl (by first | exact pbShl1i (by omega) | rfl)) ?_
  refine nm ?_
  refine qq (Qt.binOp rfl rfl (by first | exact pbAdd (by omega) | rfl)) ?_
  refine sp (Stp.callH rfl (by decide) Try.call31 rfl (free_con j.acc (j.c - 1) (((a.Free.getD (fo a.Free 5 0) En.dflt).getD 0 En.dflt) + ((2 ^ (j.c - 1) : Nat) : Int)) (by omega) (by rw [hjp]; exact List.Pairwise.nil) (by rw [hjp]; simp)) rfl rfl rfl (nodup_of rfl) rfl rfl) ?_
  refine AWL.rep 4 (T.s 1 1 fun _ _ => tr (j.acc.set (j.c - 1) [((a.Free.getD (fo a.Free 5 0) En.dflt).getD 0 En.dflt) + ((2 ^ (j.c - 1) : Nat) : Int)])) rfl (sim11 (by rw [hjp]; exact T.sim_refl _)) ?_
  refine nl ?_
  refine ⟨⟨j.c - 1, by omega, _, j.step (by omega), by rw [List.length_set]; exact j.len, j.em' _⟩, Weak.sim ⟨rfl, rfl, rfl, Rf rfl, Rf rfl, rfl, Rf rfl, trivial⟩ rfl rfl, ?_⟩
  show j.c - 1 < j.c
  omega
 have k3 := c3
 try simp only [cnd] at c3
 refine AW.exit ?_
 dsimp only [thenQ, blockQ, reduceIte]
 refine AW.seq (AW.region ?_)
 refine qq (Qt.loadG rfl rfl rfl ag26 sz26 (by decide)) ?_
 refine nm ?_
 refine qq Qt.move ?_
 refine ss ?_
 refine nm ?_
 refine qq Qt.assign ?_
 refine nl ?_
 refine AW.weak (Weak.hoist 4 0 900 rfl (by decide) rfl rfl rfl) ?_
 have hres : (bT a.Free).1 = j.acc := by
  rw [bT, if_pos hok]
  show resS a.Free = _
  rw [resS, if_neg ho, j.eq, show j.c = 0 by omega]
  rfl
 refine AW.rep 900 (tr (bT a.Free).1) rfl (by rw [hres]; exact T.sim_refl _) ?_
 refine AW.ret (endQ_ret (.cons (.cellG 2 26 rfl rfl rfl ag26 sz26 (by decide)) (.cons (.tmp 3) .nil)) ?_)
 rw [show (bT a.Free).2 = ((a.Free.getD (fo a.Free 5 0) En.dflt).getD 0 En.dflt) from by rw [bT, if_pos hok]; exact if_neg ho]
 refine ⟨fun _ => 900, rfl, nodup_of rfl, ?_⟩
 intro r hr
 cases List.mem_singleton.1 hr
 exact ⟨by simp, rootL_mem rfl⟩
end Go.Proofs.Ytfbefcmeghpalaa.VM
