/- Contracts of functions of the program. No conditions beyond those that each states. -/
import Derived.Test.YtfbefcmeghpalaaGreatCUB
set_option linter.all false
set_option maxHeartbeats 8000000
set_option maxRecDepth 10000
namespace Go.Proofs.YtfbefcmeghpalaaGreat.VM
open Go Go.RowKit Go.Proofs
theorem refsOfI_con (u : DUnix) (id : Int) (hb : unixB u) : Con Tryz.prog 196 [.g [.v (iv u.Next), .v (iv u.Tick), .h base [], .h (base + 1) [], .h (base + 2) [], .h (base + 3) [], .h (base + 4) [], .h (base + 5) [], .h (base + 6) []], .v (iv id)] [.rt base .ro (tr u.Progs), .rt (base + 1) .ro (tr u.Procs), .rt (base + 2) .ro (tr u.Opens), .rt (base + 3) .ro (tr u.Pipes), .rt (base + 4) .ro (tr u.Files), .rt (base + 5) .ro (tr u.Ready), .rt (base + 6) .ro (tr u.Out)] (fun y _ => y = .v (iv (refsOf u id : Nat))) := by
 refine ob Tryz.func196 Tryz.ntmps196 ?_
 refine AW.len (base + 1) [] rfl (by simp [Okp]) rfl (fun hl => ?_)
 have hrb := refsOf_bd hb id
 refine sr ?_
 refine bx ?_
 refine nm ?_
 refine qs' ?_
 refine qn ?_
 refine sr2 ?_
 refine qq (fA fl31_3) ?_
 refine nm ?_
 refine ql ag25 ?_
 refine qh sl25 ?_
 refine qm ?_
 refine nl ?_
 refine AW.block ?_
 refine AW.loopW (fun i : KInv u.Procs.length => [.sl 13 (.v (iv i.k)), .sl 5 (.v (iv (refsN u id i.k : Nat))), .sl 1 (.v (iv id)), .sl 11 (.h (base + 1) []), .sl 12 (.v (iv u.Procs.length)), .rt base .ro (tr u.Progs), .rt (base + 1) .ro (tr u.Procs), .rt (base + 2) .ro (tr u.Opens), .rt (base + 3) .ro (tr u.Pipes), .rt (base + 4) .ro (tr u.Files), .rt (base + 5) .ro (tr u.Ready), .rt (base + 6) .ro (tr u.Out)]) (fun i => u.Procs.length - i.k) ⟨0, Nat.zero_le _⟩ (Weak.sim ⟨rfl, rfl, rfl, rfl, rfl, Rf rfl, Rf rfl, Rf rfl, Rf rfl, Rf rfl, Rf rfl, Rf rfl, trivial⟩ rfl rfl) ?_
 intro i
 have hle := i.le
 have hm1 : i.k < u.Procs.length → refsN u id (i.k + 1) ≤ refsOf u id := fun h => cumN_mono (by omega)
 have hs1 : refsN u id (i.k + 1) = refsN u id i.k + fdCnt id (u.Procs.getD i.k En.dflt).Fds (u.Procs.getD i.k En.dflt).Fds.length := rfl
 refine sr ?_
 refine qb ?_
 refine nl ?_
 refine AW.seq ?_
 refine cd (fun c1 => ?_) fun c1 => ?_
 ·try simp only [cnd] at c1
  refine jd (AW.seq (AW.block (sr ?_)))
  refine qq (ix sl25 sz72) ?_
  refine nm ?_
  refine qG ag72 sz72 ?_
  refine sp sA ?_
  refine nm ?_
  refine ss ?_
  refine ns ?_
  refine qq (fA fl72_6) ?_
  refine nm ?_
  refine ql ag29 ?_
  refine qh sl29 ?_
  refine qm ?_
  refine nl ?_
  refine AW.block ?_
  refine AW.loopW (fun j : KInv (u.Procs.getD i.k En.dflt).Fds.length => [.sl 20 (.v (iv j.k)), .sl 13 (.v (iv i.k)), .sl 5 (.v (iv (refsN u id i.k + fdCnt id (u.Procs.getD i.k En.dflt).Fds j.k : Nat))), .sl 18 (.h (base + 1) [(10, i.k, 7)]), .sl 19 (.v (iv (u.Procs.getD i.k En.dflt).Fds.length)), .sl 1 (.v (iv id)), .sl 11 (.h (base + 1) []), .sl 12 (.v (iv u.Procs.length)), .rt base .ro (tr u.Progs), .rt (base + 1) .ro (tr u.Procs), .rt (base + 2) .ro (tr u.Opens), .rt (base + 3) .ro (tr u.Pipes), .rt (base + 4) .ro (tr u.Files), .rt (base + 5) .ro (tr u.Ready), .rt (base + 6) .ro (tr u.Out)]) (fun j => (u.Procs.getD i.k En.dflt).Fds.length - j.k) ⟨0, Nat.zero_le _⟩ (Weak.sim ⟨rfl, rfl, rfl, rfl, rfl, rfl, rfl, rfl, Rf rfl, Rf rfl, Rf rfl, Rf rfl, Rf rfl, Rf rfl, Rf rfl, trivial⟩ rfl rfl) ?_
  intro j
  have hlej := j.le
  have hm2 : j.k < (u.Procs.getD i.k En.dflt).Fds.length → fdCnt id (u.Procs.getD i.k En.dflt).Fds (j.k + 1) ≤ fdCnt id (u.Procs.getD i.k En.dflt).Fds (u.Procs.getD i.k En.dflt).Fds.length := fun h => cumN_mono (by omega)
  have hs2 : fdCnt id (u.Procs.getD i.k En.dflt).Fds (j.k + 1) = fdCnt id (u.Procs.getD i.k En.dflt).Fds j.k + (if (u.Procs.getD i.k En.dflt).Fds.getD j.k En.dflt = id then 1 else 0) := rfl
  refine AW.len (base + 1) [(10, i.k, 7)] rfl (by refine ⟨rfl, ?_, by decide, trivial⟩; show i.k < u.Procs.length; omega) rfl (fun hl2 => ?_)
  refine sr ?_
  refine qb ?_
  refine nl ?_
  refine AW.seq ?_
  refine cd (fun c2 => ?_) fun c2 => ?_
  ·try simp only [cnd] at c2
   refine jd (AW.seq (AW.block (sr ?_)))
   refine qq (ix sl29 sz3) ?_
   refine nm ?_
   refine ql ag3 ?_
   refine qs' ?_
   refine mn ?_
   refine qm ?_
   refine qb ?_
   refine nc (fun c3 => ?_) fun c3 => ?_
   ·try simp only [cnd] at c3
    refine AW.region ?_
    refine mn ?_
    refine ba ?_
    refine qn ?_
    refine AW.region ?_
    refine ba ?_
    refine nm ?_
    refine qm ?_
    refine nl ?_
    refine ⟨⟨j.k + 1, by omega⟩, Weak.sim ⟨st1, rfl, by simp only [slotL, reduceIte, Nat.reduceEqDiff]; congr 2; rw [hs2]; grind only, rfl, rfl, rfl, rfl, rfl, Rf rfl, Rf rfl, Rf rfl, Rf rfl, Rf rfl, Rf rfl, Rf rfl, trivial⟩ rfl rfl, ?_⟩
    show (u.Procs.getD i.k En.dflt).Fds.length - (j.k + 1) < (u.Procs.getD i.k En.dflt).Fds.length - j.k
    omega
   try simp only [cnd] at c3
   refine jd (AW.region ?_)
   refine ba ?_
   refine qm ?_
   refine nl ?_
   refine ⟨⟨j.k + 1, by omega⟩, Weak.sim ⟨st1, rfl, by simp only [slotL, reduceIte, Nat.reduceEqDiff]; congr 2; rw [hs2]; grind only, rfl, rfl, rfl, rfl, rfl, Rf rfl, Rf rfl, Rf rfl, Rf rfl, Rf rfl, Rf rfl, Rf rfl, trivial⟩ rfl rfl, ?_⟩
   show (u.Procs.getD i.k En.dflt).Fds.length - (j.k + 1) < (u.Procs.getD i.k En.dflt).Fds.length - j.k
   omega
  try simp only [cnd] at c2
  refine AW.exit ?_
  dsimp only [thenQ, blockQ, reduceIte]
  refine AW.region ?_
  refine ba ?_
  refine nm ?_
  refine qm ?_
  refine nl ?_
  refine ⟨⟨i.k + 1, by omega⟩, Weak.sim ⟨st1, by simp only [slotL, reduceIte, Nat.reduceEqDiff]; congr 2; rw [hs1, ← (congrArg (fdCnt id (u.Procs.getD i.k En.dflt).Fds) (show j.k = (u.Procs.getD i.k En.dflt).Fds.length by omega))], rfl, rfl, rfl, Rf rfl, Rf rfl, Rf rfl, Rf rfl, Rf rfl, Rf rfl, Rf rfl, trivial⟩ rfl rfl, ?_⟩
  show u.Procs.length - (i.k + 1) < u.Procs.length - i.k
  omega
 try simp only [cnd] at c1
 refine AW.exit ?_
 dsimp only [thenQ, blockQ, reduceIte]
 refine sr ?_
 refine qm ?_
 refine qr 4 ?_
 rw [show refsN u id i.k = refsOf u id from congrArg (refsN u id) (show i.k = u.Procs.length by omega)]
 rfl
theorem wordsI_con (u : DUnix) (hb : unixB u) : Con Tryz.prog 109 [.g [.v (iv u.Next), .v (iv u.Tick), .h base [], .h (base + 1) [], .h (base + 2) [], .h (base + 3) [], .h (base + 4) [], .h (base + 5) [], .h (base + 6) []]] [.rt base .ro (tr u.Progs), .rt (base + 1) .ro (tr u.Procs), .rt (base + 2) .ro (tr u.Opens), .rt (base + 3) .ro (tr u.Pipes), .rt (base + 4) .ro (tr u.Files), .rt (base + 5) .ro (tr u.Ready), .rt (base + 6) .ro (tr u.Out)] (fun y _ => y = .v (iv (memN u.Procs u.Procs.length : Nat))) := by
 refine ob Tryz.func109 Tryz.ntmps109 ?_
 refine AW.len (base + 1) [] rfl (by simp [Okp]) rfl (fun hl => ?_)
 have hmb := hb.mem
 refine sr ?_
 refine bx ?_
 refine nm ?_
 refine qs' ?_
 refine qn ?_
 refine sr2 ?_
 refine qq (fA fl31_3) ?_
 refine nm ?_
 refine ql ag25 ?_
 refine qh sl25 ?_
 refine qm ?_
 refine nl ?_
 refine AW.block ?_
 refine AW.loopW (fun i : KInv u.Procs.length => [.sl 9 (.v (iv i.k)), .sl 3 (.v (iv (memN u.Procs i.k : Nat))), .sl 7 (.h (base + 1) []), .sl 8 (.v (iv u.Procs.length)), .rt base .ro (tr u.Progs), .rt (base + 1) .ro (tr u.Procs), .rt (base + 2) .ro (tr u.Opens), .rt (base + 3) .ro (tr u.Pipes), .rt (base + 4) .ro (tr u.Files), .rt (base + 5) .ro (tr u.Ready), .rt (base + 6) .ro (tr u.Out)]) (fun i => u.Procs.length - i.k) ⟨0, Nat.zero_le _⟩ (Weak.sim ⟨rfl, rfl, rfl, rfl, Rf rfl, Rf rfl, Rf rfl, Rf rfl, Rf rfl, Rf rfl, Rf rfl, trivial⟩ rfl rfl) ?_
 intro i
 have hle := i.le
 have hm1 : i.k < u.Procs.length → memN u.Procs (i.k + 1) ≤ memN u.Procs u.Procs.length := fun h => cumN_mono (by omega)
 have hs1 : memN u.Procs (i.k + 1) = memN u.Procs i.k + (u.Procs.getD i.k En.dflt).Mem.length := rfl
 refine sr ?_
 refine qb ?_
 refine nl ?_
 refine AW.seq ?_
 refine cd (fun c1 => ?_) fun c1 => ?_
 ·try simp only [cnd] at c1
  refine jd (AW.seq (AW.block (sr ?_)))
  refine qq (ix sl25 sz72) ?_
  refine nm ?_
  refine qG ag72 sz72 ?_
  refine sp sA ?_
  refine nm ?_
  refine ss ?_
  refine nl ?_
  refine AW.region ?_
  refine mn ?_
  refine qq (fA fl72_5) ?_
  refine ql ag29 ?_
  refine qh sl29 ?_
  refine nm ?_
  refine ba ?_
  refine qn ?_
  refine AW.region ?_
  refine ba ?_
  refine nm ?_
  refine qm ?_
  refine nl ?_
  refine ⟨⟨i.k + 1, by omega⟩, Weak.sim ⟨st1, by simp only [slotL, reduceIte, Nat.reduceEqDiff]; congr 2; first | done | (rw [hs1]; grind only), rfl, rfl, Rf rfl, Rf rfl, Rf rfl, Rf rfl, Rf rfl, Rf rfl, Rf rfl, trivial⟩ rfl rfl, ?_⟩
  show u.Procs.length - (i.k + 1) < u.Procs.length - i.k
  omega
 try simp only [cnd] at c1
 refine AW.exit ?_
 dsimp only [thenQ, blockQ, reduceIte]
 refine sr ?_
 refine qm ?_
 refine qr 2 ?_
 rw [show i.k = u.Procs.length by omega]
 rfl
theorem openOk_con (u : DUnix) (o : DOpen) (hb : unixB u) : Con Tryz.prog 108 [.g [.v (iv u.Next), .v (iv u.Tick), .h base [], .h (base + 1) [], .h (base + 2) [], .h (base + 3) [], .h (base + 4) [], .h (base + 5) [], .h (base + 6) []], .g [.v (iv o.Id), .v (iv o.Kind), .v (iv o.Target), .v (iv o.Off), .v (iv o.Refs)]] [.rt base .ro (tr u.Progs), .rt (base + 1) .ro (tr u.Procs), .rt (base + 2) .ro (tr u.Opens), .rt (base + 3) .ro (tr u.Pipes), .rt (base + 4) .ro (tr u.Files), .rt (base + 5) .ro (tr u.Ready), .rt (base + 6) .ro (tr u.Out)] (fun y _ => y = .v (.bool (openOk u o))) := by
 refine ob Tryz.func108 Tryz.ntmps108 ?_
 have hfb : fileAt u o.Target < u.Files.length := (ixOf_bd _ _).2
 refine sr ?_
 refine bx ?_
 refine nm ?_
 refine bx ?_
 refine nm ?_
 refine qn ?_
 refine AW.seq (AW.seq ?_)
 refine AW.draw [0, 1, 3, 4, 5, 6, 7, 8, 9, 10, 11, 12, 13, 14, 16, 17] rfl (by decide +kernel) ?_
 refine tk 0 rfl (fA fl130_0) ?_
 refine tk 1 rfl (Qt.load1 rfl rfl rfl ag3) ?_
 refine na ?_
 refine a1 2 [] [1, 0] rfl rfl (Stp.callV rfl (by decide) Tryz.call102 rfl rfl (in_con _ _ _)) ?_
 refine na ?_
 refine na ?_
 refine tk 3 rfl (Qt.notB rfl) ?_
 refine tk 4 rfl Qt.move ?_
 refine AWA.split 10 rfl (fun g1 => ?_) (fun g1 => ?_)
 ·refine tf 5 (nT g1) ?_
  refine na ?_
  refine tf 6 (nT g1) ?_
  refine tf 7 (nT g1) ?_
  refine tk 8 rfl (Qt.pickT rfl g1) ?_
  refine na ?_
  refine tk 9 rfl Qt.move ?_
  refine AWA.split 15 rfl (fun g2 => ?_) (fun g2 => ?_)
  ·refine tf 10 (nT g2) ?_
   refine tf 11 (nT g2) ?_
   refine na ?_
   refine tf 12 (nT g2) ?_
   refine tf 13 (nT g2) ?_
   refine tf 14 (nT g2) ?_
   refine na ?_
   refine o1 15 [10, 11] [14, 12, 9, 13, 8, 4, 7, 3, 2, 6, 1, 5, 0] rfl (nT g2) ?_
   refine na ?_
   refine AWA.againE rfl rfl (by decide +kernel) (.off rfl (nT g2)) rfl ?_
   refine AWA.againE rfl rfl (by decide +kernel) (.off rfl (nT g2)) rfl ?_
   refine na ?_
   refine tf 16 (nT g2) ?_
   refine tk 17 rfl (Qt.pickT rfl g2) ?_
   refine nz ?_
   refine cd (fun c3 => ?_) fun c3 => ?_
   ·try simp only [cnd] at c3
    refine sr ?_
    refine qr 4 ?_
    refine rb ?_
    simp only [openOk]
    grind only
   try simp only [cnd] at c3
   refine jd (sr2 ?_)
   refine qq (fA fl130_1) ?_
   refine nm ?_
   refine ql ag3 ?_
   refine nl ?_
   refine AW.block (sr ?_)
   refine qb ?_
   refine qn ?_
   refine cd (fun c4 => ?_) fun c4 => ?_
   ·try simp only [cnd] at c4
    refine sr ?_
    refine qq (fA fl130_2) ?_
    refine nm ?_
    refine ql ag3 ?_
    refine qb ?_
    refine mn ?_
    apply AWL.cut 3
    ·intro Kg5
     refine AWL.split 31 rfl (fun g5 => ?_) (fun g5 => ?_)
     ·refine qg g5 (fA fl130_3) ?_
      refine qg g5 (Qt.load1 rfl rfl rfl ag3) ?_
      refine qg g5 (Qt.binOp rfl rfl rfl) ?_
      refine nm ?_
      exact wj 34 [32, 33, 34] (ifT g5 _ undef) (by simp only [go_sem, reduceIte, Nat.reduceEqDiff, Nat.reduceBEq, reduceCtorEq]; rfl) Kg5
     ·refine og g5 ?_
      refine og g5 ?_
      refine og g5 ?_
      exact wj 34 [32, 33, 34] (ifF g5 undef _) (by simp only [go_sem, reduceIte, Nat.reduceEqDiff, Nat.reduceBEq, reduceCtorEq]) Kg5
    refine qq (Qt.pickAnd rfl rfl rfl) ?_
    refine qr 4 ?_
    refine rb ?_
    simp only [openOk]
    grind only
   try simp only [cnd] at c4
   refine sr ?_
   refine qb ?_
   refine nm ?_
   refine qn ?_
   refine cd (fun c6 => ?_) fun c6 => ?_
   ·try simp only [cnd] at c6
    refine sr ?_
    refine qG ag31 sz31 ?_
    refine qq (fA fl130_2) ?_
    refine nm ?_
    refine ql ag3 ?_
    refine cv Tryz.call197 rfl rfl (fileAtI_con u _) ?_
    refine nm ?_
    refine qn ?_
    refine AW.seq ?_
    refine AW.draw [0, 1, 2, 3, 4, 5, 6, 7, 8, 9, 10, 11, 13, 14] rfl (by decide +kernel) ?_
    refine tk 0 rfl Qt.move ?_
    refine tk 1 rfl (Qt.binOp rfl rfl rfl) ?_
    refine na ?_
    refine tk 2 rfl Qt.move ?_
    refine AWA.split 44 rfl (fun g7 => ?_) (fun g7 => ?_)
    ·refine tg 3 rfl g7 (fA fl130_3) ?_
     refine tg 4 rfl g7 (Qt.load1 rfl rfl rfl ag3) ?_
     refine na ?_
     refine tg 5 rfl g7 (fA fl31_6) ?_
     refine tg 6 rfl g7 (Qt.load1 rfl rfl rfl ag28) ?_
     refine tg 7 rfl g7 Qt.move ?_
     refine na ?_
     refine tg 8 rfl g7 (ix sl28 sz155) ?_
     refine tg 9 rfl g7 (fA fl155_1) ?_
     refine tg 10 rfl g7 (Qt.load1 rfl rfl rfl ag29) ?_
     refine na ?_
     refine tg 11 rfl g7 (Qt.lenH rfl rfl rfl sl29) ?_
     refine a1 12 [] [11, 4, 2, 10, 3, 1, 9, 0, 8, 7, 6, 5] rfl g7 (Stp.callV rfl (by decide) Tryz.call102 rfl rfl (in_con _ _ _)) ?_
     refine na ?_
     refine na ?_
     refine tk 13 rfl (Qt.pickT rfl g7) ?_
     refine tk 14 rfl Qt.assign ?_
     refine nz ?_
     refine rt1 4 ?_
     refine rb ?_
     simp only [openOk]
     grind only
    refine tf 3 g7 ?_
    refine na ?_
    refine tf 4 g7 ?_
    refine tf 5 g7 ?_
    refine tf 6 g7 ?_
    refine na ?_
    refine tf 7 g7 ?_
    refine tf 8 g7 ?_
    refine tf 9 g7 ?_
    refine na ?_
    refine tf 10 g7 ?_
    refine tf 11 g7 ?_
    refine o1 12 [] [11, 4, 2, 10, 3, 1, 9, 0, 8, 7, 6, 5] rfl g7 ?_
    refine na ?_
    refine na ?_
    refine tk 13 rfl (Qt.pickF rfl g7) ?_
    refine tk 14 rfl Qt.assign ?_
    refine nz ?_
    refine rt1 4 ?_
    refine rb ?_
    simp only [openOk]
    grind only
   try simp only [cnd] at c6
   refine sr2 ?_
   refine qb ?_
   refine nm ?_
   refine qn ?_
   refine cd (fun c8 => ?_) fun c8 => ?_
   ·have k8 := c8
    try simp only [cnd] at c8
    refine jd ?_
    refine AW.condT rfl k8 ?_
    refine sr ?_
    refine qG ag31 sz31 ?_
    refine qq (fA fl130_2) ?_
    refine nm ?_
    refine ql ag3 ?_
    refine cv Tryz.call128 rfl rfl (pipeAtI_con u _) ?_
    refine nm ?_
    refine qb ?_
    refine qm ?_
    apply AWL.cut 3
    ·intro Kg9
     refine AWL.split 64 rfl (fun g9 => ?_) (fun g9 => ?_)
     ·refine qg g9 (fA fl130_3) ?_
      refine nm ?_
      refine qg g9 (Qt.load1 rfl rfl rfl ag3) ?_
      refine qg g9 (Qt.binOp rfl rfl rfl) ?_
      exact wj 67 [65, 66, 67] (ifT g9 _ undef) (by simp only [go_sem, reduceIte, Nat.reduceEqDiff, Nat.reduceBEq, reduceCtorEq]; rfl) Kg9
     ·refine og g9 ?_
      refine og g9 ?_
      refine og g9 ?_
      exact wj 67 [65, 66, 67] (ifF g9 undef _) (by simp only [go_sem, reduceIte, Nat.reduceEqDiff, Nat.reduceBEq, reduceCtorEq]) Kg9
    refine qq (Qt.pickAnd rfl rfl rfl) ?_
    refine nm ?_
    refine qr 4 ?_
    refine rb ?_
    simp only [openOk]
    grind only
   have k8 := c8
   try simp only [cnd] at c8
   refine AW.region ?_
   refine qb ?_
   refine qn ?_
   refine cd (fun c10 => ?_) fun c10 => ?_
   ·try simp only [cnd] at c10
    refine sr ?_
    refine qG ag31 sz31 ?_
    refine nm ?_
    refine qq (fA fl130_2) ?_
    refine ql ag3 ?_
    refine cv Tryz.call128 rfl rfl (pipeAtI_con u _) ?_
    refine nm ?_
    refine qb ?_
    refine qm ?_
    apply AWL.cut 3
    ·intro Kg11
     refine AWL.split 64 rfl (fun g11 => ?_) (fun g11 => ?_)
     ·refine qg g11 (fA fl130_3) ?_
      refine nm ?_
      refine qg g11 (Qt.load1 rfl rfl rfl ag3) ?_
      refine qg g11 (Qt.binOp rfl rfl rfl) ?_
      exact wj 67 [65, 66, 67] (ifT g11 _ undef) (by simp only [go_sem, reduceIte, Nat.reduceEqDiff, Nat.reduceBEq, reduceCtorEq]; rfl) Kg11
     ·refine og g11 ?_
      refine og g11 ?_
      refine og g11 ?_
      exact wj 67 [65, 66, 67] (ifF g11 undef _) (by simp only [go_sem, reduceIte, Nat.reduceEqDiff, Nat.reduceBEq, reduceCtorEq]) Kg11
    refine qq (Qt.pickAnd rfl rfl rfl) ?_
    refine nm ?_
    refine qr 4 ?_
    refine rb ?_
    simp only [openOk]
    grind only
   try simp only [cnd] at c10
   refine jd (sr ?_)
   refine qr 4 ?_
   refine rb ?_
   simp only [openOk]
   grind only
  refine tg 10 rfl (nF g2) (fA fl130_4) ?_
  refine na ?_
  refine tg 11 rfl (nF g2) (Qt.load1 rfl rfl rfl ag3) ?_
  refine tg 12 rfl (nF g2) (Qt.loadG rfl rfl rfl ag31 sz31 (by decide)) ?_
  refine tg 13 rfl (nF g2) (fA fl130_0) ?_
  refine na ?_
  refine tg 14 rfl (nF g2) (Qt.load1 rfl rfl rfl ag3) ?_
  refine a1 15 [10, 11] [14, 12, 9, 13, 8, 4, 7, 3, 2, 6, 1, 5, 0] rfl (nF g2) (Stp.callV rfl (by decide) Tryz.call196 rfl rfl (refsOfI_con u _ hb)) ?_
  refine na ?_
  refine AWA.againE rfl rfl (by decide +kernel) (.on rfl (nF g2) (fA fl130_4)) rfl ?_
  refine AWA.againE rfl rfl (by decide +kernel) (.on rfl (nF g2) (Qt.load1 rfl rfl rfl ag3)) rfl ?_
  refine na ?_
  refine tg 16 rfl (nF g2) (Qt.binOp rfl rfl rfl) ?_
  refine tk 17 rfl (Qt.pickF rfl g2) ?_
  refine nz ?_
  refine cd (fun c12 => ?_) fun c12 => ?_
  ·try simp only [cnd] at c12
   refine sr ?_
   refine qr 4 ?_
   refine rb ?_
   simp only [openOk]
   grind only
  try simp only [cnd] at c12
  refine jd (sr2 ?_)
  refine qq (fA fl130_1) ?_
  refine nm ?_
  refine ql ag3 ?_
  refine nl ?_
  refine AW.block (sr ?_)
  refine qb ?_
  refine qn ?_
  refine cd (fun c13 => ?_) fun c13 => ?_
  ·try simp only [cnd] at c13
   refine sr ?_
   refine qq (fA fl130_2) ?_
   refine nm ?_
   refine ql ag3 ?_
   refine qb ?_
   refine mn ?_
   apply AWL.cut 3
   ·intro Kg14
    refine AWL.split 31 rfl (fun g14 => ?_) (fun g14 => ?_)
    ·refine qg g14 (fA fl130_3) ?_
     refine qg g14 (Qt.load1 rfl rfl rfl ag3) ?_
     refine qg g14 (Qt.binOp rfl rfl rfl) ?_
     refine nm ?_
     exact wj 34 [32, 33, 34] (ifT g14 _ undef) (by simp only [go_sem, reduceIte, Nat.reduceEqDiff, Nat.reduceBEq, reduceCtorEq]; rfl) Kg14
    ·refine og g14 ?_
     refine og g14 ?_
     refine og g14 ?_
     exact wj 34 [32, 33, 34] (ifF g14 undef _) (by simp only [go_sem, reduceIte, Nat.reduceEqDiff, Nat.reduceBEq, reduceCtorEq]) Kg14
   refine qq (Qt.pickAnd rfl rfl rfl) ?_
   refine qr 4 ?_
   refine rb ?_
   simp only [openOk]
   grind only
  try simp only [cnd] at c13
  refine sr ?_
  refine qb ?_
  refine nm ?_
  refine qn ?_
  refine cd (fun c15 => ?_) fun c15 => ?_
  ·try simp only [cnd] at c15
   refine sr ?_
   refine qG ag31 sz31 ?_
   refine qq (fA fl130_2) ?_
   refine nm ?_
   refine ql ag3 ?_
   refine cv Tryz.call197 rfl rfl (fileAtI_con u _) ?_
   refine nm ?_
   refine qn ?_
   refine AW.seq ?_
   refine AW.draw [0, 1, 2, 3, 4, 5, 6, 7, 8, 9, 10, 11, 13, 14] rfl (by decide +kernel) ?_
   refine tk 0 rfl Qt.move ?_
   refine tk 1 rfl (Qt.binOp rfl rfl rfl) ?_
   refine na ?_
   refine tk 2 rfl Qt.move ?_
   refine AWA.split 44 rfl (fun g16 => ?_) (fun g16 => ?_)
   ·refine tg 3 rfl g16 (fA fl130_3) ?_
    refine tg 4 rfl g16 (Qt.load1 rfl rfl rfl ag3) ?_
    refine na ?_
    refine tg 5 rfl g16 (fA fl31_6) ?_
    refine tg 6 rfl g16 (Qt.load1 rfl rfl rfl ag28) ?_
    refine tg 7 rfl g16 Qt.move ?_
    refine na ?_
    refine tg 8 rfl g16 (ix sl28 sz155) ?_
    refine tg 9 rfl g16 (fA fl155_1) ?_
    refine tg 10 rfl g16 (Qt.load1 rfl rfl rfl ag29) ?_
    refine na ?_
    refine tg 11 rfl g16 (Qt.lenH rfl rfl rfl sl29) ?_
    refine a1 12 [] [11, 4, 2, 10, 3, 1, 9, 0, 8, 7, 6, 5] rfl g16 (Stp.callV rfl (by decide) Tryz.call102 rfl rfl (in_con _ _ _)) ?_
    refine na ?_
    refine na ?_
    refine tk 13 rfl (Qt.pickT rfl g16) ?_
    refine tk 14 rfl Qt.assign ?_
    refine nz ?_
    refine rt1 4 ?_
    refine rb ?_
    simp only [openOk]
    grind only
   refine tf 3 g16 ?_
   refine na ?_
   refine tf 4 g16 ?_
   refine tf 5 g16 ?_
   refine tf 6 g16 ?_
   refine na ?_
   refine tf 7 g16 ?_
   refine tf 8 g16 ?_
   refine tf 9 g16 ?_
   refine na ?_
   refine tf 10 g16 ?_
   refine tf 11 g16 ?_
   refine o1 12 [] [11, 4, 2, 10, 3, 1, 9, 0, 8, 7, 6, 5] rfl g16 ?_
   refine na ?_
   refine na ?_
   refine tk 13 rfl (Qt.pickF rfl g16) ?_
   refine tk 14 rfl Qt.assign ?_
   refine nz ?_
   refine rt1 4 ?_
   refine rb ?_
   simp only [openOk]
   grind only
  try simp only [cnd] at c15
  refine sr2 ?_
  refine qb ?_
  refine nm ?_
  refine qn ?_
  refine cd (fun c17 => ?_) fun c17 => ?_
  ·have k17 := c17
   try simp only [cnd] at c17
   refine jd ?_
   refine AW.condT rfl k17 ?_
   refine sr ?_
   refine qG ag31 sz31 ?_
   refine qq (fA fl130_2) ?_
   refine nm ?_
   refine ql ag3 ?_
   refine cv Tryz.call128 rfl rfl (pipeAtI_con u _) ?_
   refine nm ?_
   refine qb ?_
   refine qm ?_
   apply AWL.cut 3
   ·intro Kg18
    refine AWL.split 64 rfl (fun g18 => ?_) (fun g18 => ?_)
    ·refine qg g18 (fA fl130_3) ?_
     refine nm ?_
     refine qg g18 (Qt.load1 rfl rfl rfl ag3) ?_
     refine qg g18 (Qt.binOp rfl rfl rfl) ?_
     exact wj 67 [65, 66, 67] (ifT g18 _ undef) (by simp only [go_sem, reduceIte, Nat.reduceEqDiff, Nat.reduceBEq, reduceCtorEq]; rfl) Kg18
    ·refine og g18 ?_
     refine og g18 ?_
     refine og g18 ?_
     exact wj 67 [65, 66, 67] (ifF g18 undef _) (by simp only [go_sem, reduceIte, Nat.reduceEqDiff, Nat.reduceBEq, reduceCtorEq]) Kg18
   refine qq (Qt.pickAnd rfl rfl rfl) ?_
   refine nm ?_
   refine qr 4 ?_
   refine rb ?_
   simp only [openOk]
   grind only
  have k17 := c17
  try simp only [cnd] at c17
  refine AW.region ?_
  refine qb ?_
  refine qn ?_
  refine cd (fun c19 => ?_) fun c19 => ?_
  ·try simp only [cnd] at c19
   refine sr ?_
   refine qG ag31 sz31 ?_
   refine nm ?_
   refine qq (fA fl130_2) ?_
   refine ql ag3 ?_
   refine cv Tryz.call128 rfl rfl (pipeAtI_con u _) ?_
   refine nm ?_
   refine qb ?_
   refine qm ?_
   apply AWL.cut 3
   ·intro Kg20
    refine AWL.split 64 rfl (fun g20 => ?_) (fun g20 => ?_)
    ·refine qg g20 (fA fl130_3) ?_
     refine nm ?_
     refine qg g20 (Qt.load1 rfl rfl rfl ag3) ?_
     refine qg g20 (Qt.binOp rfl rfl rfl) ?_
     exact wj 67 [65, 66, 67] (ifT g20 _ undef) (by simp only [go_sem, reduceIte, Nat.reduceEqDiff, Nat.reduceBEq, reduceCtorEq]; rfl) Kg20
    ·refine og g20 ?_
     refine og g20 ?_
     refine og g20 ?_
     exact wj 67 [65, 66, 67] (ifF g20 undef _) (by simp only [go_sem, reduceIte, Nat.reduceEqDiff, Nat.reduceBEq, reduceCtorEq]) Kg20
   refine qq (Qt.pickAnd rfl rfl rfl) ?_
   refine nm ?_
   refine qr 4 ?_
   refine rb ?_
   simp only [openOk]
   grind only
  try simp only [cnd] at c19
  refine jd (sr ?_)
  refine qr 4 ?_
  refine rb ?_
  simp only [openOk]
  grind only
 refine tg 5 rfl (nF g1) (fA fl130_4) ?_
 refine na ?_
 refine tg 6 rfl (nF g1) (Qt.load1 rfl rfl rfl ag3) ?_
 refine tg 7 rfl (nF g1) (Qt.binOp rfl rfl rfl) ?_
 refine tk 8 rfl (Qt.pickF rfl g1) ?_
 refine na ?_
 refine tk 9 rfl Qt.move ?_
 refine AWA.split 15 rfl (fun g21 => ?_) (fun g21 => ?_)
 ·refine tf 10 (nT g21) ?_
  refine tf 11 (nT g21) ?_
  refine na ?_
  refine tf 12 (nT g21) ?_
  refine tf 13 (nT g21) ?_
  refine tf 14 (nT g21) ?_
  refine na ?_
  refine o1 15 [10, 11] [14, 12, 9, 13, 8, 4, 7, 3, 2, 6, 1, 5, 0] rfl (nT g21) ?_
  refine na ?_
  refine AWA.againE rfl rfl (by decide +kernel) (.off rfl (nT g21)) rfl ?_
  refine AWA.againE rfl rfl (by decide +kernel) (.off rfl (nT g21)) rfl ?_
  refine na ?_
  refine tf 16 (nT g21) ?_
  refine tk 17 rfl (Qt.pickT rfl g21) ?_
  refine nz ?_
  refine cd (fun c22 => ?_) fun c22 => ?_
  ·try simp only [cnd] at c22
   refine sr ?_
   refine qr 4 ?_
   refine rb ?_
   simp only [openOk]
   grind only
  try simp only [cnd] at c22
  refine jd (sr2 ?_)
  refine qq (fA fl130_1) ?_
  refine nm ?_
  refine ql ag3 ?_
  refine nl ?_
  refine AW.block (sr ?_)
  refine qb ?_
  refine qn ?_
  refine cd (fun c23 => ?_) fun c23 => ?_
  ·try simp only [cnd] at c23
   refine sr ?_
   refine qq (fA fl130_2) ?_
   refine nm ?_
   refine ql ag3 ?_
   refine qb ?_
   refine mn ?_
   apply AWL.cut 3
   ·intro Kg24
    refine AWL.split 31 rfl (fun g24 => ?_) (fun g24 => ?_)
    ·refine qg g24 (fA fl130_3) ?_
     refine qg g24 (Qt.load1 rfl rfl rfl ag3) ?_
     refine qg g24 (Qt.binOp rfl rfl rfl) ?_
     refine nm ?_
     exact wj 34 [32, 33, 34] (ifT g24 _ undef) (by simp only [go_sem, reduceIte, Nat.reduceEqDiff, Nat.reduceBEq, reduceCtorEq]; rfl) Kg24
    ·refine og g24 ?_
     refine og g24 ?_
     refine og g24 ?_
     exact wj 34 [32, 33, 34] (ifF g24 undef _) (by simp only [go_sem, reduceIte, Nat.reduceEqDiff, Nat.reduceBEq, reduceCtorEq]) Kg24
   refine qq (Qt.pickAnd rfl rfl rfl) ?_
   refine qr 4 ?_
   refine rb ?_
   simp only [openOk]
   grind only
  try simp only [cnd] at c23
  refine sr ?_
  refine qb ?_
  refine nm ?_
  refine qn ?_
  refine cd (fun c25 => ?_) fun c25 => ?_
  ·try simp only [cnd] at c25
   refine sr ?_
   refine qG ag31 sz31 ?_
   refine qq (fA fl130_2) ?_
   refine nm ?_
   refine ql ag3 ?_
   refine cv Tryz.call197 rfl rfl (fileAtI_con u _) ?_
   refine nm ?_
   refine qn ?_
   refine AW.seq ?_
   refine AW.draw [0, 1, 2, 3, 4, 5, 6, 7, 8, 9, 10, 11, 13, 14] rfl (by decide +kernel) ?_
   refine tk 0 rfl Qt.move ?_
   refine tk 1 rfl (Qt.binOp rfl rfl rfl) ?_
   refine na ?_
   refine tk 2 rfl Qt.move ?_
   refine AWA.split 44 rfl (fun g26 => ?_) (fun g26 => ?_)
   ·refine tg 3 rfl g26 (fA fl130_3) ?_
    refine tg 4 rfl g26 (Qt.load1 rfl rfl rfl ag3) ?_
    refine na ?_
    refine tg 5 rfl g26 (fA fl31_6) ?_
    refine tg 6 rfl g26 (Qt.load1 rfl rfl rfl ag28) ?_
    refine tg 7 rfl g26 Qt.move ?_
    refine na ?_
    refine tg 8 rfl g26 (ix sl28 sz155) ?_
    refine tg 9 rfl g26 (fA fl155_1) ?_
    refine tg 10 rfl g26 (Qt.load1 rfl rfl rfl ag29) ?_
    refine na ?_
    refine tg 11 rfl g26 (Qt.lenH rfl rfl rfl sl29) ?_
    refine a1 12 [] [11, 4, 2, 10, 3, 1, 9, 0, 8, 7, 6, 5] rfl g26 (Stp.callV rfl (by decide) Tryz.call102 rfl rfl (in_con _ _ _)) ?_
    refine na ?_
    refine na ?_
    refine tk 13 rfl (Qt.pickT rfl g26) ?_
    refine tk 14 rfl Qt.assign ?_
    refine nz ?_
    refine rt1 4 ?_
    refine rb ?_
    simp only [openOk]
    grind only
   refine tf 3 g26 ?_
   refine na ?_
   refine tf 4 g26 ?_
   refine tf 5 g26 ?_
   refine tf 6 g26 ?_
   refine na ?_
   refine tf 7 g26 ?_
   refine tf 8 g26 ?_
   refine tf 9 g26 ?_
   refine na ?_
   refine tf 10 g26 ?_
   refine tf 11 g26 ?_
   refine o1 12 [] [11, 4, 2, 10, 3, 1, 9, 0, 8, 7, 6, 5] rfl g26 ?_
   refine na ?_
   refine na ?_
   refine tk 13 rfl (Qt.pickF rfl g26) ?_
   refine tk 14 rfl Qt.assign ?_
   refine nz ?_
   refine rt1 4 ?_
   refine rb ?_
   simp only [openOk]
   grind only
  try simp only [cnd] at c25
  refine sr2 ?_
  refine qb ?_
  refine nm ?_
  refine qn ?_
  refine cd (fun c27 => ?_) fun c27 => ?_
  ·have k27 := c27
   try simp only [cnd] at c27
   refine jd ?_
   refine AW.condT rfl k27 ?_
   refine sr ?_
   refine qG ag31 sz31 ?_
   refine qq (fA fl130_2) ?_
   refine nm ?_
   refine ql ag3 ?_
   refine cv Tryz.call128 rfl rfl (pipeAtI_con u _) ?_
   refine nm ?_
   refine qb ?_
   refine qm ?_
   apply AWL.cut 3
   ·intro Kg28
    refine AWL.split 64 rfl (fun g28 => ?_) (fun g28 => ?_)
    ·refine qg g28 (fA fl130_3) ?_
     refine nm ?_
     refine qg g28 (Qt.load1 rfl rfl rfl ag3) ?_
     refine qg g28 (Qt.binOp rfl rfl rfl) ?_
     exact wj 67 [65, 66, 67] (ifT g28 _ undef) (by simp only [go_sem, reduceIte, Nat.reduceEqDiff, Nat.reduceBEq, reduceCtorEq]; rfl) Kg28
    ·refine og g28 ?_
     refine og g28 ?_
     refine og g28 ?_
     exact wj 67 [65, 66, 67] (ifF g28 undef _) (by simp only [go_sem, reduceIte, Nat.reduceEqDiff, Nat.reduceBEq, reduceCtorEq]) Kg28
   refine qq (Qt.pickAnd rfl rfl rfl) ?_
   refine nm ?_
   refine qr 4 ?_
   refine rb ?_
   simp only [openOk]
   grind only
  have k27 := c27
  try simp only [cnd] at c27
  refine AW.region ?_
  refine qb ?_
  refine qn ?_
  refine cd (fun c29 => ?_) fun c29 => ?_
  ·try simp only [cnd] at c29
   refine sr ?_
   refine qG ag31 sz31 ?_
   refine nm ?_
   refine qq (fA fl130_2) ?_
   refine ql ag3 ?_
   refine cv Tryz.call128 rfl rfl (pipeAtI_con u _) ?_
   refine nm ?_
   refine qb ?_
   refine qm ?_
   apply AWL.cut 3
   ·intro Kg30
    refine AWL.split 64 rfl (fun g30 => ?_) (fun g30 => ?_)
    ·refine qg g30 (fA fl130_3) ?_
     refine nm ?_
     refine qg g30 (Qt.load1 rfl rfl rfl ag3) ?_
     refine qg g30 (Qt.binOp rfl rfl rfl) ?_
     exact wj 67 [65, 66, 67] (ifT g30 _ undef) (by simp only [go_sem, reduceIte, Nat.reduceEqDiff, Nat.reduceBEq, reduceCtorEq]; rfl) Kg30
    ·refine og g30 ?_
     refine og g30 ?_
     refine og g30 ?_
     exact wj 67 [65, 66, 67] (ifF g30 undef _) (by simp only [go_sem, reduceIte, Nat.reduceEqDiff, Nat.reduceBEq, reduceCtorEq]) Kg30
   refine qq (Qt.pickAnd rfl rfl rfl) ?_
   refine nm ?_
   refine qr 4 ?_
   refine rb ?_
   simp only [openOk]
   grind only
  try simp only [cnd] at c29
  refine jd (sr ?_)
  refine qr 4 ?_
  refine rb ?_
  simp only [openOk]
  grind only
 refine tg 10 rfl (nF g21) (fA fl130_4) ?_
 refine na ?_
 refine tg 11 rfl (nF g21) (Qt.load1 rfl rfl rfl ag3) ?_
 refine tg 12 rfl (nF g21) (Qt.loadG rfl rfl rfl ag31 sz31 (by decide)) ?_
 refine tg 13 rfl (nF g21) (fA fl130_0) ?_
 refine na ?_
 refine tg 14 rfl (nF g21) (Qt.load1 rfl rfl rfl ag3) ?_
 refine a1 15 [10, 11] [14, 12, 9, 13, 8, 4, 7, 3, 2, 6, 1, 5, 0] rfl (nF g21) (Stp.callV rfl (by decide) Tryz.call196 rfl rfl (refsOfI_con u _ hb)) ?_
 refine na ?_
 refine AWA.againE rfl rfl (by decide +kernel) (.on rfl (nF g21) (fA fl130_4)) rfl ?_
 refine AWA.againE rfl rfl (by decide +kernel) (.on rfl (nF g21) (Qt.load1 rfl rfl rfl ag3)) rfl ?_
 refine na ?_
 refine tg 16 rfl (nF g21) (Qt.binOp rfl rfl rfl) ?_
 refine tk 17 rfl (Qt.pickF rfl g21) ?_
 refine nz ?_
 refine cd (fun c31 => ?_) fun c31 => ?_
 ·try simp only [cnd] at c31
  refine sr ?_
  refine qr 4 ?_
  refine rb ?_
  simp only [openOk]
  grind only
 try simp only [cnd] at c31
 refine jd (sr2 ?_)
 refine qq (fA fl130_1) ?_
 refine nm ?_
 refine ql ag3 ?_
 refine nl ?_
 refine AW.block (sr ?_)
 refine qb ?_
 refine qn ?_
 refine cd (fun c32 => ?_) fun c32 => ?_
 ·try simp only [cnd] at c32
  refine sr ?_
  refine qq (fA fl130_2) ?_
  refine nm ?_
  refine ql ag3 ?_
  refine qb ?_
  refine mn ?_
  apply AWL.cut 3
  ·intro Kg33
   refine AWL.split 31 rfl (fun g33 => ?_) (fun g33 => ?_)
   ·refine qg g33 (fA fl130_3) ?_
    refine qg g33 (Qt.load1 rfl rfl rfl ag3) ?_
    refine qg g33 (Qt.binOp rfl rfl rfl) ?_
    refine nm ?_
    exact wj 34 [32, 33, 34] (ifT g33 _ undef) (by simp only [go_sem, reduceIte, Nat.reduceEqDiff, Nat.reduceBEq, reduceCtorEq]; rfl) Kg33
   ·refine og g33 ?_
    refine og g33 ?_
    refine og g33 ?_
    exact wj 34 [32, 33, 34] (ifF g33 undef _) (by simp only [go_sem, reduceIte, Nat.reduceEqDiff, Nat.reduceBEq, reduceCtorEq]) Kg33
  refine qq (Qt.pickAnd rfl rfl rfl) ?_
  refine qr 4 ?_
  refine rb ?_
  simp only [openOk]
  grind only
 try simp only [cnd] at c32
 refine sr ?_
 refine qb ?_
 refine nm ?_
 refine qn ?_
 refine cd (fun c34 => ?_) fun c34 => ?_
 ·try simp only [cnd] at c34
  refine sr ?_
  refine qG ag31 sz31 ?_
  refine qq (fA fl130_2) ?_
  refine nm ?_
  refine ql ag3 ?_
  refine cv Tryz.call197 rfl rfl (fileAtI_con u _) ?_
  refine nm ?_
  refine qn ?_
  refine AW.seq ?_
  refine AW.draw [0, 1, 2, 3, 4, 5, 6, 7, 8, 9, 10, 11, 13, 14] rfl (by decide +kernel) ?_
  refine tk 0 rfl Qt.move ?_
  refine tk 1 rfl (Qt.binOp rfl rfl rfl) ?_
  refine na ?_
  refine tk 2 rfl Qt.move ?_
  refine AWA.split 44 rfl (fun g35 => ?_) (fun g35 => ?_)
  ·refine tg 3 rfl g35 (fA fl130_3) ?_
   refine tg 4 rfl g35 (Qt.load1 rfl rfl rfl ag3) ?_
   refine na ?_
   refine tg 5 rfl g35 (fA fl31_6) ?_
   refine tg 6 rfl g35 (Qt.load1 rfl rfl rfl ag28) ?_
   refine tg 7 rfl g35 Qt.move ?_
   refine na ?_
   refine tg 8 rfl g35 (ix sl28 sz155) ?_
   refine tg 9 rfl g35 (fA fl155_1) ?_
   refine tg 10 rfl g35 (Qt.load1 rfl rfl rfl ag29) ?_
   refine na ?_
   refine tg 11 rfl g35 (Qt.lenH rfl rfl rfl sl29) ?_
   refine a1 12 [] [11, 4, 2, 10, 3, 1, 9, 0, 8, 7, 6, 5] rfl g35 (Stp.callV rfl (by decide) Tryz.call102 rfl rfl (in_con _ _ _)) ?_
   refine na ?_
   refine na ?_
   refine tk 13 rfl (Qt.pickT rfl g35) ?_
   refine tk 14 rfl Qt.assign ?_
   refine nz ?_
   refine rt1 4 ?_
   refine rb ?_
   simp only [openOk]
   grind only
  refine tf 3 g35 ?_
  refine na ?_
  refine tf 4 g35 ?_
  refine tf 5 g35 ?_
  refine tf 6 g35 ?_
  refine na ?_
  refine tf 7 g35 ?_
  refine tf 8 g35 ?_
  refine tf 9 g35 ?_
  refine na ?_
  refine tf 10 g35 ?_
  refine tf 11 g35 ?_
  refine o1 12 [] [11, 4, 2, 10, 3, 1, 9, 0, 8, 7, 6, 5] rfl g35 ?_
  refine na ?_
  refine na ?_
  refine tk 13 rfl (Qt.pickF rfl g35) ?_
  refine tk 14 rfl Qt.assign ?_
  refine nz ?_
  refine rt1 4 ?_
  refine rb ?_
  simp only [openOk]
  grind only
 try simp only [cnd] at c34
 refine sr2 ?_
 refine qb ?_
 refine nm ?_
 refine qn ?_
 refine cd (fun c36 => ?_) fun c36 => ?_
 ·have k36 := c36
  try simp only [cnd] at c36
  refine jd ?_
  refine AW.condT rfl k36 ?_
  refine sr ?_
  refine qG ag31 sz31 ?_
  refine qq (fA fl130_2) ?_
  refine nm ?_
  refine ql ag3 ?_
  refine cv Tryz.call128 rfl rfl (pipeAtI_con u _) ?_
  refine nm ?_
  refine qb ?_
  refine qm ?_
  apply AWL.cut 3
  ·intro Kg37
   refine AWL.split 64 rfl (fun g37 => ?_) (fun g37 => ?_)
   ·refine qg g37 (fA fl130_3) ?_
    refine nm ?_
    refine qg g37 (Qt.load1 rfl rfl rfl ag3) ?_
    refine qg g37 (Qt.binOp rfl rfl rfl) ?_
    exact wj 67 [65, 66, 67] (ifT g37 _ undef) (by simp only [go_sem, reduceIte, Nat.reduceEqDiff, Nat.reduceBEq, reduceCtorEq]; rfl) Kg37
   ·refine og g37 ?_
    refine og g37 ?_
    refine og g37 ?_
    exact wj 67 [65, 66, 67] (ifF g37 undef _) (by simp only [go_sem, reduceIte, Nat.reduceEqDiff, Nat.reduceBEq, reduceCtorEq]) Kg37
  refine qq (Qt.pickAnd rfl rfl rfl) ?_
  refine nm ?_
  refine qr 4 ?_
  refine rb ?_
  simp only [openOk]
  grind only
 have k36 := c36
 try simp only [cnd] at c36
 refine AW.region ?_
 refine qb ?_
 refine qn ?_
 refine cd (fun c38 => ?_) fun c38 => ?_
 ·try simp only [cnd] at c38
  refine sr ?_
  refine qG ag31 sz31 ?_
  refine nm ?_
  refine qq (fA fl130_2) ?_
  refine ql ag3 ?_
  refine cv Tryz.call128 rfl rfl (pipeAtI_con u _) ?_
  refine nm ?_
  refine qb ?_
  refine qm ?_
  apply AWL.cut 3
  ·intro Kg39
   refine AWL.split 64 rfl (fun g39 => ?_) (fun g39 => ?_)
   ·refine qg g39 (fA fl130_3) ?_
    refine nm ?_
    refine qg g39 (Qt.load1 rfl rfl rfl ag3) ?_
    refine qg g39 (Qt.binOp rfl rfl rfl) ?_
    exact wj 67 [65, 66, 67] (ifT g39 _ undef) (by simp only [go_sem, reduceIte, Nat.reduceEqDiff, Nat.reduceBEq, reduceCtorEq]; rfl) Kg39
   ·refine og g39 ?_
    refine og g39 ?_
    refine og g39 ?_
    exact wj 67 [65, 66, 67] (ifF g39 undef _) (by simp only [go_sem, reduceIte, Nat.reduceEqDiff, Nat.reduceBEq, reduceCtorEq]) Kg39
  refine qq (Qt.pickAnd rfl rfl rfl) ?_
  refine nm ?_
  refine qr 4 ?_
  refine rb ?_
  simp only [openOk]
  grind only
 try simp only [cnd] at c38
 refine jd (sr ?_)
 refine qr 4 ?_
 refine rb ?_
 simp only [openOk]
 grind only
theorem filesOkI_con (l : List DFile) : Con Tryz.prog 111 [.h base []] [.rt base .ro (tr l)] (fun y _ => y = .v (.bool (filesOk l))) := by
 refine ob Tryz.func111 Tryz.ntmps111 ?_
 refine AW.len (base) [] rfl (by simp [Okp]) rfl (fun hl => ?_)
 refine sr ?_
 refine qn ?_
 refine sr2 ?_
 refine qm ?_
 refine qh sl28 ?_
 refine nm ?_
 refine qm ?_
 refine nl ?_
 refine AW.block ?_
 refine AW.loopW (fun i : AIx (fileP l) l.length => [.sl 7 (.v (iv i.k)), .sl 0 (.h base []), .sl 5 (.h base []), .sl 6 (.v (iv l.length)), .rt base .ro (tr l)]) (fun i => l.length - i.k) ⟨0, Nat.zero_le _, fun _ h => absurd h (Nat.not_lt_zero _)⟩ (Weak.sim ⟨rfl, rfl, rfl, rfl, Rf rfl, trivial⟩ rfl rfl) ?_
 intro i
 have hle := i.le
 have hTi : ((i.k : Int) - 1).toNat = i.k - 1 := by omega
 refine sr ?_
 refine qb ?_
 refine nl ?_
 refine AW.seq ?_
 refine cd (fun c1 => ?_) fun c1 => ?_
 ·try simp only [cnd] at c1
  refine jd (AW.seq (AW.block (sr ?_)))
  refine mn ?_
  refine qq (ix sl28 sz155) ?_
  refine qG ag155 sz155 ?_
  refine sp sA ?_
  refine nm ?_
  refine qa ?_
  refine ss ?_
  refine nl ?_
  refine AW.seq ?_
  refine AW.draw [0, 1, 3, 4, 5, 6, 7, 8, 9, 10, 11, 12, 13, 14, 15, 16, 17, 18, 19, 20, 21, 22, 23, 24, 25, 26, 27, 29, 30] rfl (by decide +kernel) ?_
  refine tk 0 rfl (fA fl155_0) ?_
  refine na ?_
  refine tk 1 rfl (Qt.load1 rfl rfl rfl ag3) ?_
  refine a1 2 [] [1, 0] rfl rfl (Stp.callV rfl (by decide) Tryz.call102 rfl rfl (in_con _ _ _)) ?_
  refine na ?_
  refine na ?_
  refine tk 3 rfl (Qt.notB rfl) ?_
  refine tk 4 rfl Qt.move ?_
  refine AWA.split 16 rfl (fun g2 => ?_) (fun g2 => ?_)
  ·refine tf 5 (nT g2) ?_
   refine na ?_
   refine tf 6 (nT g2) ?_
   refine tf 7 (nT g2) ?_
   refine tf 8 rfl ?_
   refine na ?_
   refine tf 9 rfl ?_
   refine tf 10 rfl ?_
   refine tf 11 rfl ?_
   refine na ?_
   refine tf 12 rfl ?_
   refine tf 13 rfl ?_
   refine tf 14 rfl ?_
   refine na ?_
   refine tf 15 rfl ?_
   refine tf 16 rfl ?_
   refine tf 17 (nT g2) ?_
   refine na ?_
   refine tk 18 rfl (Qt.pickT rfl g2) ?_
   refine tk 19 rfl Qt.move ?_
   refine AWA.split 31 rfl (fun g3 => ?_) (fun g3 => ?_)
   ·refine tf 20 (nT g3) ?_
    refine na ?_
    refine tf 21 (nT g3) ?_
    refine tf 22 (nT g3) ?_
    refine tf 23 (nT g3) ?_
    refine na ?_
    refine tk 24 rfl (Qt.pickT rfl g3) ?_
    refine tk 25 rfl Qt.move ?_
    refine AWA.split 37 rfl (fun g4 => ?_) (fun g4 => ?_)
    ·refine tf 26 (nT g4) ?_
     refine na ?_
     refine tf 27 (nT g4) ?_
     refine o1 28 [] [27, 25, 26, 24, 19, 23, 18, 7, 22, 17, 4, 6, 21, 16, 3, 2, 5, 20, 15, 13, 1, 14, 12, 0, 11, 10, 8, 9] rfl (nT g4) ?_
     refine na ?_
     refine na ?_
     refine tf 29 (nT g4) ?_
     refine tk 30 rfl (Qt.pickT rfl g4) ?_
     refine nz ?_
     refine cd (fun c5 => ?_) fun c5 => ?_
     ·try simp only [cnd] at c5
      have hS := i.stop (by omega) (show (fileP l) i.k = false by simp only [fileP, rises, fileOk]; grind only)
      refine sr ?_
      refine qr 2 ?_
      refine rb ?_
      simp only [filesOk_eq]
      grind only
     try simp only [cnd] at c5
     refine jd (AW.region ?_)
     refine ba ?_
     refine nm ?_
     refine qm ?_
     refine nl ?_
     refine ⟨⟨i.k + 1, by omega, i.next (show (fileP l) i.k = true by simp only [fileP, rises, fileOk]; grind only)⟩, Weak.sim ⟨st1, rfl, rfl, rfl, Rf rfl, trivial⟩ rfl rfl, ?_⟩
     show l.length - (i.k + 1) < l.length - i.k
     omega
    refine tg 26 rfl (nF g4) (fA fl155_1) ?_
    refine tg 27 rfl (nF g4) (Qt.load1 rfl rfl rfl ag29) ?_
    refine na ?_
    refine a1 28 [] [27, 25, 26, 24, 19, 23, 18, 7, 22, 17, 4, 6, 21, 16, 3, 2, 5, 20, 15, 13, 1, 14, 12, 0, 11, 10, 8, 9] rfl (nF g4) (Stp.callV rfl (by decide) Tryz.call103 rfl rfl (wordsOk_con _)) ?_
    refine na ?_
    refine na ?_
    refine tg 29 rfl (nF g4) (Qt.notB rfl) ?_
    refine tk 30 rfl (Qt.pickF rfl g4) ?_
    refine nz ?_
    refine cd (fun c6 => ?_) fun c6 => ?_
    ·try simp only [cnd] at c6
     have hS := i.stop (by omega) (show (fileP l) i.k = false by simp only [fileP, rises, fileOk]; grind only)
     refine sr ?_
     refine qr 2 ?_
     refine rb ?_
     simp only [filesOk_eq]
     grind only
    try simp only [cnd] at c6
    refine jd (AW.region ?_)
    refine ba ?_
    refine nm ?_
    refine qm ?_
    refine nl ?_
    refine ⟨⟨i.k + 1, by omega, i.next (show (fileP l) i.k = true by simp only [fileP, rises, fileOk]; grind only)⟩, Weak.sim ⟨st1, rfl, rfl, rfl, Rf rfl, trivial⟩ rfl rfl, ?_⟩
    show l.length - (i.k + 1) < l.length - i.k
    omega
   refine tg 20 rfl (nF g3) (fA fl155_1) ?_
   refine tg 21 rfl (nF g3) (Qt.load1 rfl rfl rfl ag29) ?_
   refine na ?_
   refine tg 22 rfl (nF g3) (Qt.lenH rfl rfl rfl sl29) ?_
   refine tg 23 rfl (nF g3) (Qt.binOp rfl rfl rfl) ?_
   refine tk 24 rfl (Qt.pickF rfl g3) ?_
   refine na ?_
   refine tk 25 rfl Qt.move ?_
   refine AWA.split 37 rfl (fun g7 => ?_) (fun g7 => ?_)
   ·refine tf 26 (nT g7) ?_
    refine tf 27 (nT g7) ?_
    refine na ?_
    refine o1 28 [] [27, 25, 26, 24, 19, 23, 18, 7, 22, 17, 4, 6, 21, 16, 3, 2, 5, 20, 15, 13, 1, 14, 12, 0, 11, 10, 8, 9] rfl (nT g7) ?_
    refine na ?_
    refine na ?_
    refine tf 29 (nT g7) ?_
    refine tk 30 rfl (Qt.pickT rfl g7) ?_
    refine nz ?_
    refine cd (fun c8 => ?_) fun c8 => ?_
    ·try simp only [cnd] at c8
     have hS := i.stop (by omega) (show (fileP l) i.k = false by simp only [fileP, rises, fileOk]; grind only)
     refine sr ?_
     refine qr 2 ?_
     refine rb ?_
     simp only [filesOk_eq]
     grind only
    try simp only [cnd] at c8
    refine jd (AW.region ?_)
    refine ba ?_
    refine nm ?_
    refine qm ?_
    refine nl ?_
    refine ⟨⟨i.k + 1, by omega, i.next (show (fileP l) i.k = true by simp only [fileP, rises, fileOk]; grind only)⟩, Weak.sim ⟨st1, rfl, rfl, rfl, Rf rfl, trivial⟩ rfl rfl, ?_⟩
    show l.length - (i.k + 1) < l.length - i.k
    omega
   refine tg 26 rfl (nF g7) (fA fl155_1) ?_
   refine tg 27 rfl (nF g7) (Qt.load1 rfl rfl rfl ag29) ?_
   refine na ?_
   refine a1 28 [] [27, 25, 26, 24, 19, 23, 18, 7, 22, 17, 4, 6, 21, 16, 3, 2, 5, 20, 15, 13, 1, 14, 12, 0, 11, 10, 8, 9] rfl (nF g7) (Stp.callV rfl (by decide) Tryz.call103 rfl rfl (wordsOk_con _)) ?_
   refine na ?_
   refine na ?_
   refine tg 29 rfl (nF g7) (Qt.notB rfl) ?_
   refine tk 30 rfl (Qt.pickF rfl g7) ?_
   refine nz ?_
   refine cd (fun c9 => ?_) fun c9 => ?_
   ·try simp only [cnd] at c9
    have hS := i.stop (by omega) (show (fileP l) i.k = false by simp only [fileP, rises, fileOk]; grind only)
    refine sr ?_
    refine qr 2 ?_
    refine rb ?_
    simp only [filesOk_eq]
    grind only
   try simp only [cnd] at c9
   refine jd (AW.region ?_)
   refine ba ?_
   refine nm ?_
   refine qm ?_
   refine nl ?_
   refine ⟨⟨i.k + 1, by omega, i.next (show (fileP l) i.k = true by simp only [fileP, rises, fileOk]; grind only)⟩, Weak.sim ⟨st1, rfl, rfl, rfl, Rf rfl, trivial⟩ rfl rfl, ?_⟩
   show l.length - (i.k + 1) < l.length - i.k
   omega
  refine tg 5 rfl (nF g2) Qt.move ?_
  refine tg 6 rfl (nF g2) (Qt.binOp rfl rfl rfl) ?_
  refine na ?_
  refine tg 7 rfl (nF g2) Qt.move ?_
  refine AWA.split 19 rfl (fun g10 => ?_) (fun g10 => ?_)
  ·refine tg 8 rfl g10 Qt.move ?_
   refine tg 9 rfl g10 Qt.move ?_
   refine na ?_
   refine tg 10 rfl g10 (Qt.binOp rfl rfl (by first | exact pbSub (by omega) | rfl)) ?_
   refine tg 11 rfl g10 (ix sl28 sz155) ?_
   refine tg 12 rfl g10 (fA fl155_0) ?_
   refine na ?_
   refine tg 13 rfl g10 (Qt.load1 rfl rfl rfl ag3) ?_
   refine tg 14 rfl g10 (fA fl155_0) ?_
   refine tg 15 rfl g10 (Qt.load1 rfl rfl rfl ag3) ?_
   refine na ?_
   refine tg 16 rfl g10 (Qt.binOp rfl rfl rfl) ?_
   refine tg 17 rfl (nF g2) (Qt.pickT rfl g10) ?_
   refine tk 18 rfl (Qt.pickF rfl g2) ?_
   refine na ?_
   refine tk 19 rfl Qt.move ?_
   refine AWA.split 31 rfl (fun g11 => ?_) (fun g11 => ?_)
   ·refine tf 20 (nT g11) ?_
    refine tf 21 (nT g11) ?_
    refine na ?_
    refine tf 22 (nT g11) ?_
    refine tf 23 (nT g11) ?_
    refine tk 24 rfl (Qt.pickT rfl g11) ?_
    refine na ?_
    refine tk 25 rfl Qt.move ?_
    refine AWA.split 37 rfl (fun g12 => ?_) (fun g12 => ?_)
    ·refine tf 26 (nT g12) ?_
     refine tf 27 (nT g12) ?_
     refine na ?_
     refine o1 28 [] [27, 25, 26, 24, 19, 23, 18, 7, 22, 17, 4, 6, 21, 16, 3, 2, 5, 20, 15, 13, 1, 14, 12, 0, 11, 10, 8, 9] rfl (nT g12) ?_
     refine na ?_
     refine na ?_
     refine tf 29 (nT g12) ?_
     refine tk 30 rfl (Qt.pickT rfl g12) ?_
     refine nz ?_
     refine cd (fun c13 => ?_) fun c13 => ?_
     ·try simp only [cnd] at c13
      have hS := i.stop (by omega) (show (fileP l) i.k = false by simp only [fileP, rises, fileOk]; grind only)
      refine sr ?_
      refine qr 2 ?_
      refine rb ?_
      simp only [filesOk_eq]
      grind only
     try simp only [cnd] at c13
     refine jd (AW.region ?_)
     refine ba ?_
     refine nm ?_
     refine qm ?_
     refine nl ?_
     refine ⟨⟨i.k + 1, by omega, i.next (show (fileP l) i.k = true by simp only [fileP, rises, fileOk]; grind only)⟩, Weak.sim ⟨st1, rfl, rfl, rfl, Rf rfl, trivial⟩ rfl rfl, ?_⟩
     show l.length - (i.k + 1) < l.length - i.k
     omega
    refine tg 26 rfl (nF g12) (fA fl155_1) ?_
    refine tg 27 rfl (nF g12) (Qt.load1 rfl rfl rfl ag29) ?_
    refine na ?_
    refine a1 28 [] [27, 25, 26, 24, 19, 23, 18, 7, 22, 17, 4, 6, 21, 16, 3, 2, 5, 20, 15, 13, 1, 14, 12, 0, 11, 10, 8, 9] rfl (nF g12) (Stp.callV rfl (by decide) Tryz.call103 rfl rfl (wordsOk_con _)) ?_
    refine na ?_
    refine na ?_
    refine tg 29 rfl (nF g12) (Qt.notB rfl) ?_
    refine tk 30 rfl (Qt.pickF rfl g12) ?_
    refine nz ?_
    refine cd (fun c14 => ?_) fun c14 => ?_
    ·try simp only [cnd] at c14
     have hS := i.stop (by omega) (show (fileP l) i.k = false by simp only [fileP, rises, fileOk]; grind only)
     refine sr ?_
     refine qr 2 ?_
     refine rb ?_
     simp only [filesOk_eq]
     grind only
    try simp only [cnd] at c14
    refine jd (AW.region ?_)
    refine ba ?_
    refine nm ?_
    refine qm ?_
    refine nl ?_
    refine ⟨⟨i.k + 1, by omega, i.next (show (fileP l) i.k = true by simp only [fileP, rises, fileOk]; grind only)⟩, Weak.sim ⟨st1, rfl, rfl, rfl, Rf rfl, trivial⟩ rfl rfl, ?_⟩
    show l.length - (i.k + 1) < l.length - i.k
    omega
   refine tg 20 rfl (nF g11) (fA fl155_1) ?_
   refine tg 21 rfl (nF g11) (Qt.load1 rfl rfl rfl ag29) ?_
   refine na ?_
   refine tg 22 rfl (nF g11) (Qt.lenH rfl rfl rfl sl29) ?_
   refine tg 23 rfl (nF g11) (Qt.binOp rfl rfl rfl) ?_
   refine tk 24 rfl (Qt.pickF rfl g11) ?_
   refine na ?_
   refine tk 25 rfl Qt.move ?_
   refine AWA.split 37 rfl (fun g15 => ?_) (fun g15 => ?_)
   ·refine tf 26 (nT g15) ?_
    refine tf 27 (nT g15) ?_
    refine na ?_
    refine o1 28 [] [27, 25, 26, 24, 19, 23, 18, 7, 22, 17, 4, 6, 21, 16, 3, 2, 5, 20, 15, 13, 1, 14, 12, 0, 11, 10, 8, 9] rfl (nT g15) ?_
    refine na ?_
    refine na ?_
    refine tf 29 (nT g15) ?_
    refine tk 30 rfl (Qt.pickT rfl g15) ?_
    refine nz ?_
    refine cd (fun c16 => ?_) fun c16 => ?_
    ·try simp only [cnd] at c16
     have hS := i.stop (by omega) (show (fileP l) i.k = false by simp only [fileP, rises, fileOk]; grind only)
     refine sr ?_
     refine qr 2 ?_
     refine rb ?_
     simp only [filesOk_eq]
     grind only
    try simp only [cnd] at c16
    refine jd (AW.region ?_)
    refine ba ?_
    refine nm ?_
    refine qm ?_
    refine nl ?_
    refine ⟨⟨i.k + 1, by omega, i.next (show (fileP l) i.k = true by simp only [fileP, rises, fileOk]; grind only)⟩, Weak.sim ⟨st1, rfl, rfl, rfl, Rf rfl, trivial⟩ rfl rfl, ?_⟩
    show l.length - (i.k + 1) < l.length - i.k
    omega
   refine tg 26 rfl (nF g15) (fA fl155_1) ?_
   refine tg 27 rfl (nF g15) (Qt.load1 rfl rfl rfl ag29) ?_
   refine na ?_
   refine a1 28 [] [27, 25, 26, 24, 19, 23, 18, 7, 22, 17, 4, 6, 21, 16, 3, 2, 5, 20, 15, 13, 1, 14, 12, 0, 11, 10, 8, 9] rfl (nF g15) (Stp.callV rfl (by decide) Tryz.call103 rfl rfl (wordsOk_con _)) ?_
   refine na ?_
   refine na ?_
   refine tg 29 rfl (nF g15) (Qt.notB rfl) ?_
   refine tk 30 rfl (Qt.pickF rfl g15) ?_
   refine nz ?_
   refine cd (fun c17 => ?_) fun c17 => ?_
   ·try simp only [cnd] at c17
    have hS := i.stop (by omega) (show (fileP l) i.k = false by simp only [fileP, rises, fileOk]; grind only)
    refine sr ?_
    refine qr 2 ?_
    refine rb ?_
    simp only [filesOk_eq]
    grind only
   try simp only [cnd] at c17
   refine jd (AW.region ?_)
   refine ba ?_
   refine nm ?_
   refine qm ?_
   refine nl ?_
   refine ⟨⟨i.k + 1, by omega, i.next (show (fileP l) i.k = true by simp only [fileP, rises, fileOk]; grind only)⟩, Weak.sim ⟨st1, rfl, rfl, rfl, Rf rfl, trivial⟩ rfl rfl, ?_⟩
   show l.length - (i.k + 1) < l.length - i.k
   omega
  refine tf 8 g10 ?_
  refine tf 9 g10 ?_
  refine na ?_
  refine tf 10 g10 ?_
  refine tf 11 g10 ?_
  refine tf 12 g10 ?_
  refine na ?_
  refine tf 13 g10 ?_
  refine tf 14 g10 ?_
  refine tf 15 g10 ?_
  refine na ?_
  refine tf 16 g10 ?_
  refine tg 17 rfl (nF g2) (Qt.pickF rfl g10) ?_
  refine tk 18 rfl (Qt.pickF rfl g2) ?_
  refine na ?_
  refine tk 19 rfl Qt.move ?_
  refine AWA.split 31 rfl (fun g18 => ?_) (fun g18 => ?_)
  ·refine tf 20 (nT g18) ?_
   refine tf 21 (nT g18) ?_
   refine na ?_
   refine tf 22 (nT g18) ?_
   refine tf 23 (nT g18) ?_
   refine tk 24 rfl (Qt.pickT rfl g18) ?_
   refine na ?_
   refine tk 25 rfl Qt.move ?_
   refine AWA.split 37 rfl (fun g19 => ?_) (fun g19 => ?_)
   ·refine tf 26 (nT g19) ?_
    refine tf 27 (nT g19) ?_
    refine na ?_
    refine o1 28 [] [27, 25, 26, 24, 19, 23, 18, 7, 22, 17, 4, 6, 21, 16, 3, 2, 5, 20, 15, 13, 1, 14, 12, 0, 11, 10, 8, 9] rfl (nT g19) ?_
    refine na ?_
    refine na ?_
    refine tf 29 (nT g19) ?_
    refine tk 30 rfl (Qt.pickT rfl g19) ?_
    refine nz ?_
    refine cd (fun c20 => ?_) fun c20 => ?_
    ·try simp only [cnd] at c20
     have hS := i.stop (by omega) (show (fileP l) i.k = false by simp only [fileP, rises, fileOk]; grind only)
     refine sr ?_
     refine qr 2 ?_
     refine rb ?_
     simp only [filesOk_eq]
     grind only
    try simp only [cnd] at c20
    refine jd (AW.region ?_)
    refine ba ?_
    refine nm ?_
    refine qm ?_
    refine nl ?_
    refine ⟨⟨i.k + 1, by omega, i.next (show (fileP l) i.k = true by simp only [fileP, rises, fileOk]; grind only)⟩, Weak.sim ⟨st1, rfl, rfl, rfl, Rf rfl, trivial⟩ rfl rfl, ?_⟩
    show l.length - (i.k + 1) < l.length - i.k
    omega
   refine tg 26 rfl (nF g19) (fA fl155_1) ?_
   refine tg 27 rfl (nF g19) (Qt.load1 rfl rfl rfl ag29) ?_
   refine na ?_
   refine a1 28 [] [27, 25, 26, 24, 19, 23, 18, 7, 22, 17, 4, 6, 21, 16, 3, 2, 5, 20, 15, 13, 1, 14, 12, 0, 11, 10, 8, 9] rfl (nF g19) (Stp.callV rfl (by decide) Tryz.call103 rfl rfl (wordsOk_con _)) ?_
   refine na ?_
   refine na ?_
   refine tg 29 rfl (nF g19) (Qt.notB rfl) ?_
   refine tk 30 rfl (Qt.pickF rfl g19) ?_
   refine nz ?_
   refine cd (fun c21 => ?_) fun c21 => ?_
   ·try simp only [cnd] at c21
    have hS := i.stop (by omega) (show (fileP l) i.k = false by simp only [fileP, rises, fileOk]; grind only)
    refine sr ?_
    refine qr 2 ?_
    refine rb ?_
    simp only [filesOk_eq]
    grind only
   try simp only [cnd] at c21
   refine jd (AW.region ?_)
   refine ba ?_
   refine nm ?_
   refine qm ?_
   refine nl ?_
   refine ⟨⟨i.k + 1, by omega, i.next (show (fileP l) i.k = true by simp only [fileP, rises, fileOk]; grind only)⟩, Weak.sim ⟨st1, rfl, rfl, rfl, Rf rfl, trivial⟩ rfl rfl, ?_⟩
   show l.length - (i.k + 1) < l.length - i.k
   omega
  refine tg 20 rfl (nF g18) (fA fl155_1) ?_
  refine tg 21 rfl (nF g18) (Qt.load1 rfl rfl rfl ag29) ?_
  refine na ?_
  refine tg 22 rfl (nF g18) (Qt.lenH rfl rfl rfl sl29) ?_
  refine tg 23 rfl (nF g18) (Qt.binOp rfl rfl rfl) ?_
  refine tk 24 rfl (Qt.pickF rfl g18) ?_
  refine na ?_
  refine tk 25 rfl Qt.move ?_
  refine AWA.split 37 rfl (fun g22 => ?_) (fun g22 => ?_)
  ·refine tf 26 (nT g22) ?_
   refine tf 27 (nT g22) ?_
   refine na ?_
   refine o1 28 [] [27, 25, 26, 24, 19, 23, 18, 7, 22, 17, 4, 6, 21, 16, 3, 2, 5, 20, 15, 13, 1, 14, 12, 0, 11, 10, 8, 9] rfl (nT g22) ?_
   refine na ?_
   refine na ?_
   refine tf 29 (nT g22) ?_
   refine tk 30 rfl (Qt.pickT rfl g22) ?_
   refine nz ?_
   refine cd (fun c23 => ?_) fun c23 => ?_
   ·try simp only [cnd] at c23
    have hS := i.stop (by omega) (show (fileP l) i.k = false by simp only [fileP, rises, fileOk]; grind only)
    refine sr ?_
    refine qr 2 ?_
    refine rb ?_
    simp only [filesOk_eq]
    grind only
   try simp only [cnd] at c23
   refine jd (AW.region ?_)
   refine ba ?_
   refine nm ?_
   refine qm ?_
   refine nl ?_
   refine ⟨⟨i.k + 1, by omega, i.next (show (fileP l) i.k = true by simp only [fileP, rises, fileOk]; grind only)⟩, Weak.sim ⟨st1, rfl, rfl, rfl, Rf rfl, trivial⟩ rfl rfl, ?_⟩
   show l.length - (i.k + 1) < l.length - i.k
   omega
  refine tg 26 rfl (nF g22) (fA fl155_1) ?_
  refine tg 27 rfl (nF g22) (Qt.load1 rfl rfl rfl ag29) ?_
  refine na ?_
  refine a1 28 [] [27, 25, 26, 24, 19, 23, 18, 7, 22, 17, 4, 6, 21, 16, 3, 2, 5, 20, 15, 13, 1, 14, 12, 0, 11, 10, 8, 9] rfl (nF g22) (Stp.callV rfl (by decide) Tryz.call103 rfl rfl (wordsOk_con _)) ?_
  refine na ?_
  refine na ?_
  refine tg 29 rfl (nF g22) (Qt.notB rfl) ?_
  refine tk 30 rfl (Qt.pickF rfl g22) ?_
  refine nz ?_
  refine cd (fun c24 => ?_) fun c24 => ?_
  ·try simp only [cnd] at c24
   have hS := i.stop (by omega) (show (fileP l) i.k = false by simp only [fileP, rises, fileOk]; grind only)
   refine sr ?_
   refine qr 2 ?_
   refine rb ?_
   simp only [filesOk_eq]
   grind only
  try simp only [cnd] at c24
  refine jd (AW.region ?_)
  refine ba ?_
  refine nm ?_
  refine qm ?_
  refine nl ?_
  refine ⟨⟨i.k + 1, by omega, i.next (show (fileP l) i.k = true by simp only [fileP, rises, fileOk]; grind only)⟩, Weak.sim ⟨st1, rfl, rfl, rfl, Rf rfl, trivial⟩ rfl rfl, ?_⟩
  show l.length - (i.k + 1) < l.length - i.k
  omega
 try simp only [cnd] at c1
 have hA := i.full (by omega)
 refine AW.exit ?_
 dsimp only [thenQ, blockQ, reduceIte]
 refine sr ?_
 refine qm ?_
 refine qh sl28 ?_
 refine nm ?_
 refine qb ?_
 refine qr 2 ?_
 refine rb ?_
 simp only [filesOk_eq]
 grind only
theorem pipesOk1_con (p : DPipe) (o : DOpen) : Con Tryz.prog 198 [.g [.v (iv o.Id), .v (iv o.Kind), .v (iv o.Target), .v (iv o.Off), .v (iv o.Refs)], .p base [] 2 0 0] [.rt base .ro (tr [p])] (fun y _ => y = .v (.bool (isEnd p.Id o))) := by
 refine ob Tryz.func198 Tryz.ntmps198 ?_
 refine sr ?_
 refine bx ?_
 refine nm ?_
 refine qs' ?_
 refine qG ag130 sz130 ?_
 refine qq (fA fl153_0) ?_
 refine nm ?_
 refine ql ag3 ?_
 refine cv Tryz.call199 rfl rfl (isEnd_con _ _) ?_
 refine nm ?_
 refine qr 3 ?_
 rfl
theorem ixOC_con {fid : FuncId} {p : DOpen → Bool} (u0 : DPipe) (hE : Ent Tryz.prog fid) (hp : ∀ x : DOpen, Con Tryz.prog fid [.g [.v (iv x.Id), .v (iv x.Kind), .v (iv x.Target), .v (iv x.Off), .v (iv x.Refs)], .p base [] 2 0 0] [.rt base .ro (tr [u0])] (fun y _ => y = .v (.bool (p x)))) (l : List DOpen) : Con Tryz.prog 223 [.h base [], .f fid [.p (base + 1) [] 2 0 0]] [.rt base .ro (tr l), .rt (base + 1) .ro (tr [u0])] (fun y _ => y = .v (iv (ixOf p l))) := by
 refine ob Tryz.func223 Tryz.ntmps223 ?_
 refine AW.len base [] rfl (by simp [Okp]) rfl (fun hl => ?_)
 refine sr ?_
 refine qn ?_
 refine sr2 ?_
 refine qm ?_
 refine qh sl26 ?_
 refine nm ?_
 refine qm ?_
 refine nl ?_
 refine AW.block ?_
 refine AW.loopW (fun i : IxInv p l => [.sl 8 (.v (iv i.k)), .sl 7 (.v (iv l.length)), .sl 0 (.h base []), .sl 1 (.f fid [.p (base + 1) [] 2 0 0]), .rt base .ro (tr l), .rt (base + 1) .ro (tr [u0])]) (fun i => l.length - i.k) ⟨0, Nat.zero_le _, rfl⟩ (Weak.sim ⟨rfl, rfl, rfl, rfl, Rf rfl, Rf rfl, trivial⟩ rfl rfl) ?_
 intro i
 have hle := i.le
 refine sr ?_
 refine qb ?_
 refine nl ?_
 refine AW.seq ?_
 refine cd (fun c1 => ?_) fun c1 => ?_
 ·try simp only [cnd] at c1
  refine jd (AW.seq (AW.block (sr ?_)))
  refine mn ?_
  refine qs' ?_
  refine qm ?_
  refine mn ?_
  refine qm ?_
  refine qq (ix sl26 sz130) ?_
  refine qG ag130 sz130 ?_
  refine nm ?_
  refine cv hE rfl rfl (Con.simH (hp (l.getD i.k En.dflt)) ⟨⟨_, rfl, (sim_one (fun c hc => match c, hc with | 0, _ => T.sim_refl _ | 1, _ => T.sim_refl _ | c + 2, hc => absurd hc (by simp only [En.n]; omega)))⟩, trivial⟩ rfl rfl rfl) ?_
  refine nc (fun c2 => ?_) fun c2 => ?_
  ·try simp only [cnd] at c2
   refine sr ?_
   refine mn ?_
   refine qr 4 ?_
   rw [ixOf_hit i En.dflt (by omega) c2]
   rfl
  try simp only [cnd] at c2
  refine jd (AW.region ?_)
  refine ba ?_
  refine qm ?_
  refine nl ?_
  refine ⟨⟨i.k + 1, by omega, i.next En.dflt (by omega) c2⟩, Weak.sim ⟨st1, rfl, rfl, rfl, Rf rfl, Rf rfl, trivial⟩ rfl rfl, ?_⟩
  show l.length - (i.k + 1) < l.length - i.k
  omega
 try simp only [cnd] at c1
 refine AW.exit ?_
 dsimp only [thenQ, blockQ, reduceIte]
 refine sr ?_
 refine qr 4 ?_
 rw [ixOf_none i (by omega)]
 rfl
theorem hasOC_con {fid : FuncId} {p : DOpen → Bool} (u0 : DPipe) (hE : Ent Tryz.prog fid) (hp : ∀ x : DOpen, Con Tryz.prog fid [.g [.v (iv x.Id), .v (iv x.Kind), .v (iv x.Target), .v (iv x.Off), .v (iv x.Refs)], .p base [] 2 0 0] [.rt base .ro (tr [u0])] (fun y _ => y = .v (.bool (p x)))) (l : List DOpen) : Con Tryz.prog 129 [.h base [], .f fid [.p (base + 1) [] 2 0 0]] [.rt base .ro (tr l), .rt (base + 1) .ro (tr [u0])] (fun y _ => y = .v (.bool (l.any p))) := by
 refine ob Tryz.func129 Tryz.ntmps129 ?_
 refine sr ?_
 refine qs' ?_
 refine qm ?_
 refine mn ?_
 refine cv Tryz.call223 rfl rfl (Con.simH (ixOC_con u0 hE hp l) ⟨⟨_, rfl, T.sim_refl _⟩, ⟨_, rfl, (sim_one (fun c hc => match c, hc with | 0, _ => T.sim_refl _ | 1, _ => T.sim_refl _ | c + 2, hc => absurd hc (by simp only [En.n]; omega)))⟩, trivial⟩ rfl rfl rfl) ?_
 refine nm ?_
 refine qb ?_
 refine qr 4 ?_
 rw [← ixOf_ge]
 rfl
theorem pipesOkI_con (u : DUnix) : Con Tryz.prog 110 [.g [.v (iv u.Next), .v (iv u.Tick), .h base [], .h (base + 1) [], .h (base + 2) [], .h (base + 3) [], .h (base + 4) [], .h (base + 5) [], .h (base + 6) []]] [.rt base .ro (tr u.Progs), .rt (base + 1) .ro (tr u.Procs), .rt (base + 2) .ro (tr u.Opens), .rt (base + 3) .ro (tr u.Pipes), .rt (base + 4) .ro (tr u.Files), .rt (base + 5) .ro (tr u.Ready), .rt (base + 6) .ro (tr u.Out)] (fun y _ => y = .v (.bool (pipesOk u))) := by
 refine ob Tryz.func110 Tryz.ntmps110 ?_
 refine AW.len (base + 3) [] rfl (by simp [Okp]) rfl (fun hl => ?_)
 refine sr ?_
 refine bx ?_
 refine nm ?_
 refine qn ?_
 refine sr2 ?_
 refine qq (fA fl31_5) ?_
 refine ql ag27 ?_
 refine nm ?_
 refine qh sl27 ?_
 refine qm ?_
 refine nl ?_
 refine AW.block ?_
 refine AW.loopW (fun i : AIx (pipeP u) u.Pipes.length => [.sl 8 (.v (iv i.k)), .rt 1 .box (T.s 9 1 fun k c => ([(T.v (iv u.Next), none), (T.v (iv u.Tick), none), (T.j, none), (T.j, none), (T.j, none), (T.j, none), (T.j, none), (T.j, none), (T.j, none)].getD (k * 9 + c) (T.j, none)).fst), .al 1 2 (.h base []), .al 1 3 (.h (base + 1) []), .al 1 4 (.h (base + 2) []), .al 1 5 (.h (base + 3) []), .al 1 6 (.h (base + 4) []), .al 1 7 (.h (base + 5) []), .al 1 8 (.h (base + 6) []), .rt base .ro (tr u.Progs), .rt (base + 1) .ro (tr u.Procs), .rt (base + 2) .ro (tr u.Opens), .rt (base + 3) .ro (tr u.Pipes), .rt (base + 4) .ro (tr u.Files), .rt (base + 5) .ro (tr u.Ready), .rt (base + 6) .ro (tr u.Out), .sl 1 (.p 1 [] 9 0 0), .sl 6 (.h (base + 3) []), .sl 7 (.v (iv u.Pipes.length))]) (fun i => u.Pipes.length - i.k) ⟨0, Nat.zero_le _, fun _ h => absurd h (Nat.not_lt_zero _)⟩ (Weak.sim ⟨rfl, Rf rfl, ⟨rfl, rfl⟩, ⟨rfl, rfl⟩, ⟨rfl, rfl⟩, ⟨rfl, rfl⟩, ⟨rfl, rfl⟩, ⟨rfl, rfl⟩, ⟨rfl, rfl⟩, Rf rfl, Rf rfl, Rf rfl, Rf rfl, Rf rfl, Rf rfl, Rf rfl, rfl, rfl, rfl, trivial⟩ rfl rfl) ?_
 intro i
 have hle := i.le
 have hTi : ((i.k : Int) - 1).toNat = i.k - 1 := by omega
 refine sr ?_
 refine qb ?_
 refine nl ?_
 refine AW.seq ?_
 refine cd (fun c1 => ?_) fun c1 => ?_
 ·try simp only [cnd] at c1
  refine jd (AW.seq (AW.block (sr ?_)))
  refine mn ?_
  refine qq (ix sl27 sz153) ?_
  refine qG ag153 sz153 ?_
  refine sp sA ?_
  refine nm ?_
  refine qa ?_
  refine ss ?_
  refine nl ?_
  refine AW.seq (AW.seq ?_)
  refine AW.draw [0, 1, 3, 4, 5, 6, 7, 8, 9, 10, 11, 12, 13, 14, 15, 16, 17, 18, 19, 20, 21, 22, 23, 24, 25, 26, 27, 28, 30, 31] rfl (by decide +kernel) ?_
  refine tk 0 rfl (fA fl153_0) ?_
  refine na ?_
  refine tk 1 rfl (Qt.load1 rfl rfl rfl ag3) ?_
  refine a1 2 [] [1, 0] rfl rfl (Stp.callV rfl (by decide) Tryz.call102 rfl rfl (in_con _ _ _)) ?_
  refine na ?_
  refine na ?_
  refine tk 3 rfl (Qt.notB rfl) ?_
  refine tk 4 rfl Qt.move ?_
  refine AWA.split 17 rfl (fun g2 => ?_) (fun g2 => ?_)
  ·refine tf 5 (nT g2) ?_
   refine na ?_
   refine tf 6 (nT g2) ?_
   refine tf 7 (nT g2) ?_
   refine tf 8 rfl ?_
   refine na ?_
   refine tf 9 rfl ?_
   refine tf 10 rfl ?_
   refine tf 11 rfl ?_
   refine na ?_
   refine tf 12 rfl ?_
   refine tf 13 rfl ?_
   refine tf 14 rfl ?_
   refine na ?_
   refine tf 15 rfl ?_
   refine tf 16 rfl ?_
   refine tf 17 rfl ?_
   refine na ?_
   refine tf 18 (nT g2) ?_
   refine tk 19 rfl (Qt.pickT rfl g2) ?_
   refine tk 20 rfl Qt.move ?_
   refine na ?_
   refine AWA.split 33 rfl (fun g3 => ?_) (fun g3 => ?_)
   ·refine tf 21 (nT g3) ?_
    refine tf 22 (nT g3) ?_
    refine tf 23 (nT g3) ?_
    refine na ?_
    refine tf 24 (nT g3) ?_
    refine tk 25 rfl (Qt.pickT rfl g3) ?_
    refine tk 26 rfl Qt.move ?_
    refine na ?_
    refine AWA.split 39 rfl (fun g4 => ?_) (fun g4 => ?_)
    ·refine tf 27 (nT g4) ?_
     refine tf 28 (nT g4) ?_
     refine o1 29 [] [28, 26, 27, 25, 20, 24, 19, 7, 23, 18, 4, 6, 22, 17, 3, 2, 5, 21, 16, 14, 1, 15, 13, 0, 12, 11, 9, 10, 8] rfl (nT g4) ?_
     refine na ?_
     refine na ?_
     refine tf 30 (nT g4) ?_
     refine tk 31 rfl (Qt.pickT rfl g4) ?_
     refine nz ?_
     refine cd (fun c5 => ?_) fun c5 => ?_
     ·try simp only [cnd] at c5
      have hS := i.stop (by omega) (show (pipeP u) i.k = false by simp only [pipeP, rises, pipeOk]; grind only)
      refine sr ?_
      refine qr 2 ?_
      refine rb ?_
      simp only [pipesOk_eq]
      grind only
     try simp only [cnd] at c5
     refine jd (sr ?_)
     refine qq (fA fl31_4) ?_
     refine nm ?_
     refine ql ag26 ?_
     refine qq Qt.makeFunc ?_
     refine cv Tryz.call129 rfl rfl (Con.simH (hasOC_con (u.Pipes.getD i.k En.dflt) Tryz.call198 (fun x => pipesOk1_con (u.Pipes.getD i.k En.dflt) x) u.Opens) ⟨⟨_, rfl, T.sim_refl _⟩, ⟨_, rfl, (sim_one (fun c hc => match c, hc with | 0, _ => T.sim_refl _ | 1, _ => T.sim_refl _ | c + 2, hc => absurd hc (by simp only [En.n]; omega)))⟩, trivial⟩ rfl rfl rfl) ?_
     refine nm ?_
     refine qq (Qt.notB rfl) ?_
     refine nc (fun c6 => ?_) fun c6 => ?_
     ·try simp only [cnd] at c6
      have hS := i.stop (by omega) (show (pipeP u) i.k = false by simp only [pipeP, rises, pipeOk]; grind only)
      refine sr ?_
      refine qr 2 ?_
      refine rb ?_
      simp only [pipesOk_eq]
      grind only
     try simp only [cnd] at c6
     refine jd (AW.region ?_)
     refine ba ?_
     refine nm ?_
     refine qm ?_
     refine nl ?_
     refine ⟨⟨i.k + 1, by omega, i.next (show (pipeP u) i.k = true by simp only [pipeP, rises, pipeOk]; grind only)⟩, Weak.sim ⟨st1, Rf rfl, ⟨rfl, rfl⟩, ⟨rfl, rfl⟩, ⟨rfl, rfl⟩, ⟨rfl, rfl⟩, ⟨rfl, rfl⟩, ⟨rfl, rfl⟩, ⟨rfl, rfl⟩, Rf rfl, Rf rfl, Rf rfl, Rf rfl, Rf rfl, Rf rfl, Rf rfl, rfl, rfl, rfl, trivial⟩ rfl rfl, ?_⟩
     show u.Pipes.length - (i.k + 1) < u.Pipes.length - i.k
     omega
    refine tg 27 rfl (nF g4) (fA fl153_1) ?_
    refine tg 28 rfl (nF g4) (Qt.load1 rfl rfl rfl ag29) ?_
    refine na ?_
    refine a1 29 [] [28, 26, 27, 25, 20, 24, 19, 7, 23, 18, 4, 6, 22, 17, 3, 2, 5, 21, 16, 14, 1, 15, 13, 0, 12, 11, 9, 10, 8] rfl (nF g4) (Stp.callV rfl (by decide) Tryz.call103 rfl rfl (wordsOk_con _)) ?_
    refine na ?_
    refine na ?_
    refine tg 30 rfl (nF g4) (Qt.notB rfl) ?_
    refine tk 31 rfl (Qt.pickF rfl g4) ?_
    refine nz ?_
    refine cd (fun c7 => ?_) fun c7 => ?_
    ·try simp only [cnd] at c7
     have hS := i.stop (by omega) (show (pipeP u) i.k = false by simp only [pipeP, rises, pipeOk]; grind only)
     refine sr ?_
     refine qr 2 ?_
     refine rb ?_
     simp only [pipesOk_eq]
     grind only
    try simp only [cnd] at c7
    refine jd (sr ?_)
    refine qq (fA fl31_4) ?_
    refine nm ?_
    refine ql ag26 ?_
    refine qq Qt.makeFunc ?_
    refine cv Tryz.call129 rfl rfl (Con.simH (hasOC_con (u.Pipes.getD i.k En.dflt) Tryz.call198 (fun x => pipesOk1_con (u.Pipes.getD i.k En.dflt) x) u.Opens) ⟨⟨_, rfl, T.sim_refl _⟩, ⟨_, rfl, (sim_one (fun c hc => match c, hc with | 0, _ => T.sim_refl _ | 1, _ => T.sim_refl _ | c + 2, hc => absurd hc (by simp only [En.n]; omega)))⟩, trivial⟩ rfl rfl rfl) ?_
    refine nm ?_
    refine qq (Qt.notB rfl) ?_
    refine nc (fun c8 => ?_) fun c8 => ?_
    ·try simp only [cnd] at c8
     have hS := i.stop (by omega) (show (pipeP u) i.k = false by simp only [pipeP, rises, pipeOk]; grind only)
     refine sr ?_
     refine qr 2 ?_
     refine rb ?_
     simp only [pipesOk_eq]
     grind only
    try simp only [cnd] at c8
    refine jd (AW.region ?_)
    refine ba ?_
    refine nm ?_
    refine qm ?_
    refine nl ?_
    refine ⟨⟨i.k + 1, by omega, i.next (show (pipeP u) i.k = true by simp only [pipeP, rises, pipeOk]; grind only)⟩, Weak.sim ⟨st1, Rf rfl, ⟨rfl, rfl⟩, ⟨rfl, rfl⟩, ⟨rfl, rfl⟩, ⟨rfl, rfl⟩, ⟨rfl, rfl⟩, ⟨rfl, rfl⟩, ⟨rfl, rfl⟩, Rf rfl, Rf rfl, Rf rfl, Rf rfl, Rf rfl, Rf rfl, Rf rfl, rfl, rfl, rfl, trivial⟩ rfl rfl, ?_⟩
    show u.Pipes.length - (i.k + 1) < u.Pipes.length - i.k
    omega
   refine tg 21 rfl (nF g3) (fA fl153_1) ?_
   refine tg 22 rfl (nF g3) (Qt.load1 rfl rfl rfl ag29) ?_
   refine na ?_
   refine tg 23 rfl (nF g3) (Qt.lenH rfl rfl rfl sl29) ?_
   refine tg 24 rfl (nF g3) (Qt.binOp rfl rfl rfl) ?_
   refine tk 25 rfl (Qt.pickF rfl g3) ?_
   refine na ?_
   refine tk 26 rfl Qt.move ?_
   refine AWA.split 39 rfl (fun g9 => ?_) (fun g9 => ?_)
   ·refine tf 27 (nT g9) ?_
    refine tf 28 (nT g9) ?_
    refine na ?_
    refine o1 29 [] [28, 26, 27, 25, 20, 24, 19, 7, 23, 18, 4, 6, 22, 17, 3, 2, 5, 21, 16, 14, 1, 15, 13, 0, 12, 11, 9, 10, 8] rfl (nT g9) ?_
    refine na ?_
    refine na ?_
    refine tf 30 (nT g9) ?_
    refine tk 31 rfl (Qt.pickT rfl g9) ?_
    refine nz ?_
    refine cd (fun c10 => ?_) fun c10 => ?_
    ·try simp only [cnd] at c10
     have hS := i.stop (by omega) (show (pipeP u) i.k = false by simp only [pipeP, rises, pipeOk]; grind only)
     refine sr ?_
     refine qr 2 ?_
     refine rb ?_
     simp only [pipesOk_eq]
     grind only
    try simp only [cnd] at c10
    refine jd (sr ?_)
    refine qq (fA fl31_4) ?_
    refine nm ?_
    refine ql ag26 ?_
    refine qq Qt.makeFunc ?_
    refine cv Tryz.call129 rfl rfl (Con.simH (hasOC_con (u.Pipes.getD i.k En.dflt) Tryz.call198 (fun x => pipesOk1_con (u.Pipes.getD i.k En.dflt) x) u.Opens) ⟨⟨_, rfl, T.sim_refl _⟩, ⟨_, rfl, (sim_one (fun c hc => match c, hc with | 0, _ => T.sim_refl _ | 1, _ => T.sim_refl _ | c + 2, hc => absurd hc (by simp only [En.n]; omega)))⟩, trivial⟩ rfl rfl rfl) ?_
    refine nm ?_
    refine qq (Qt.notB rfl) ?_
    refine nc (fun c11 => ?_) fun c11 => ?_
    ·try simp only [cnd] at c11
     have hS := i.stop (by omega) (show (pipeP u) i.k = false by simp only [pipeP, rises, pipeOk]; grind only)
     refine sr ?_
     refine qr 2 ?_
     refine rb ?_
     simp only [pipesOk_eq]
     grind only
    try simp only [cnd] at c11
    refine jd (AW.region ?_)
    refine ba ?_
    refine nm ?_
    refine qm ?_
    refine nl ?_
    refine ⟨⟨i.k + 1, by omega, i.next (show (pipeP u) i.k = true by simp only [pipeP, rises, pipeOk]; grind only)⟩, Weak.sim ⟨st1, Rf rfl, ⟨rfl, rfl⟩, ⟨rfl, rfl⟩, ⟨rfl, rfl⟩, ⟨rfl, rfl⟩, ⟨rfl, rfl⟩, ⟨rfl, rfl⟩, ⟨rfl, rfl⟩, Rf rfl, Rf rfl, Rf rfl, Rf rfl, Rf rfl, Rf rfl, Rf rfl, rfl, rfl, rfl, trivial⟩ rfl rfl, ?_⟩
    show u.Pipes.length - (i.k + 1) < u.Pipes.length - i.k
    omega
   refine tg 27 rfl (nF g9) (fA fl153_1) ?_
   refine tg 28 rfl (nF g9) (Qt.load1 rfl rfl rfl ag29) ?_
   refine na ?_
   refine a1 29 [] [28, 26, 27, 25, 20, 24, 19, 7, 23, 18, 4, 6, 22, 17, 3, 2, 5, 21, 16, 14, 1, 15, 13, 0, 12, 11, 9, 10, 8] rfl (nF g9) (Stp.callV rfl (by decide) Tryz.call103 rfl rfl (wordsOk_con _)) ?_
   refine na ?_
   refine na ?_
   refine tg 30 rfl (nF g9) (Qt.notB rfl) ?_
   refine tk 31 rfl (Qt.pickF rfl g9) ?_
   refine nz ?_
   refine cd (fun c12 => ?_) fun c12 => ?_
   ·try simp only [cnd] at c12
    have hS := i.stop (by omega) (show (pipeP u) i.k = false by simp only [pipeP, rises, pipeOk]; grind only)
    refine sr ?_
    refine qr 2 ?_
    refine rb ?_
    simp only [pipesOk_eq]
    grind only
   try simp only [cnd] at c12
   refine jd (sr ?_)
   refine qq (fA fl31_4) ?_
   refine nm ?_
   refine ql ag26 ?_
   refine qq Qt.makeFunc ?_
   refine cv Tryz.call129 rfl rfl (Con.simH (hasOC_con (u.Pipes.getD i.k En.dflt) Tryz.call198 (fun x => pipesOk1_con (u.Pipes.getD i.k En.dflt) x) u.Opens) ⟨⟨_, rfl, T.sim_refl _⟩, ⟨_, rfl, (sim_one (fun c hc => match c, hc with | 0, _ => T.sim_refl _ | 1, _ => T.sim_refl _ | c + 2, hc => absurd hc (by simp only [En.n]; omega)))⟩, trivial⟩ rfl rfl rfl) ?_
   refine nm ?_
   refine qq (Qt.notB rfl) ?_
   refine nc (fun c13 => ?_) fun c13 => ?_
   ·try simp only [cnd] at c13
    have hS := i.stop (by omega) (show (pipeP u) i.k = false by simp only [pipeP, rises, pipeOk]; grind only)
    refine sr ?_
    refine qr 2 ?_
    refine rb ?_
    simp only [pipesOk_eq]
    grind only
   try simp only [cnd] at c13
   refine jd (AW.region ?_)
   refine ba ?_
   refine nm ?_
   refine qm ?_
   refine nl ?_
   refine ⟨⟨i.k + 1, by omega, i.next (show (pipeP u) i.k = true by simp only [pipeP, rises, pipeOk]; grind only)⟩, Weak.sim ⟨st1, Rf rfl, ⟨rfl, rfl⟩, ⟨rfl, rfl⟩, ⟨rfl, rfl⟩, ⟨rfl, rfl⟩, ⟨rfl, rfl⟩, ⟨rfl, rfl⟩, ⟨rfl, rfl⟩, Rf rfl, Rf rfl, Rf rfl, Rf rfl, Rf rfl, Rf rfl, Rf rfl, rfl, rfl, rfl, trivial⟩ rfl rfl, ?_⟩
   show u.Pipes.length - (i.k + 1) < u.Pipes.length - i.k
   omega
  refine tg 5 rfl (nF g2) Qt.move ?_
  refine tg 6 rfl (nF g2) (Qt.binOp rfl rfl rfl) ?_
  refine na ?_
  refine tg 7 rfl (nF g2) Qt.move ?_
  refine AWA.split 20 rfl (fun g14 => ?_) (fun g14 => ?_)
  ·refine tg 8 rfl g14 (fA fl31_5) ?_
   refine tg 9 rfl g14 (Qt.load1 rfl rfl rfl ag27) ?_
   refine na ?_
   refine tg 10 rfl g14 Qt.move ?_
   refine tg 11 rfl g14 (Qt.binOp rfl rfl (by first | exact pbSub (by omega) | rfl)) ?_
   refine tg 12 rfl g14 (ix sl27 sz153) ?_
   refine na ?_
   refine tg 13 rfl g14 (fA fl153_0) ?_
   refine tg 14 rfl g14 (Qt.load1 rfl rfl rfl ag3) ?_
   refine tg 15 rfl g14 (fA fl153_0) ?_
   refine na ?_
   refine tg 16 rfl g14 (Qt.load1 rfl rfl rfl ag3) ?_
   refine tg 17 rfl g14 (Qt.binOp rfl rfl rfl) ?_
   refine tg 18 rfl (nF g2) (Qt.pickT rfl g14) ?_
   refine na ?_
   refine tk 19 rfl (Qt.pickF rfl g2) ?_
   refine tk 20 rfl Qt.move ?_
   refine AWA.split 33 rfl (fun g15 => ?_) (fun g15 => ?_)
   ·refine tf 21 (nT g15) ?_
    refine na ?_
    refine tf 22 (nT g15) ?_
    refine tf 23 (nT g15) ?_
    refine tf 24 (nT g15) ?_
    refine na ?_
    refine tk 25 rfl (Qt.pickT rfl g15) ?_
    refine tk 26 rfl Qt.move ?_
    refine AWA.split 39 rfl (fun g16 => ?_) (fun g16 => ?_)
    ·refine tf 27 (nT g16) ?_
     refine na ?_
     refine tf 28 (nT g16) ?_
     refine o1 29 [] [28, 26, 27, 25, 20, 24, 19, 7, 23, 18, 4, 6, 22, 17, 3, 2, 5, 21, 16, 14, 1, 15, 13, 0, 12, 11, 9, 10, 8] rfl (nT g16) ?_
     refine na ?_
     refine na ?_
     refine tf 30 (nT g16) ?_
     refine tk 31 rfl (Qt.pickT rfl g16) ?_
     refine nz ?_
     refine cd (fun c17 => ?_) fun c17 => ?_
     ·try simp only [cnd] at c17
      have hS := i.stop (by omega) (show (pipeP u) i.k = false by simp only [pipeP, rises, pipeOk]; grind only)
      refine sr ?_
      refine qr 2 ?_
      refine rb ?_
      simp only [pipesOk_eq]
      grind only
     try simp only [cnd] at c17
     refine jd (sr ?_)
     refine qq (fA fl31_4) ?_
     refine nm ?_
     refine ql ag26 ?_
     refine qq Qt.makeFunc ?_
     refine cv Tryz.call129 rfl rfl (Con.simH (hasOC_con (u.Pipes.getD i.k En.dflt) Tryz.call198 (fun x => pipesOk1_con (u.Pipes.getD i.k En.dflt) x) u.Opens) ⟨⟨_, rfl, T.sim_refl _⟩, ⟨_, rfl, (sim_one (fun c hc => match c, hc with | 0, _ => T.sim_refl _ | 1, _ => T.sim_refl _ | c + 2, hc => absurd hc (by simp only [En.n]; omega)))⟩, trivial⟩ rfl rfl rfl) ?_
     refine nm ?_
     refine qq (Qt.notB rfl) ?_
     refine nc (fun c18 => ?_) fun c18 => ?_
     ·try simp only [cnd] at c18
      have hS := i.stop (by omega) (show (pipeP u) i.k = false by simp only [pipeP, rises, pipeOk]; grind only)
      refine sr ?_
      refine qr 2 ?_
      refine rb ?_
      simp only [pipesOk_eq]
      grind only
     try simp only [cnd] at c18
     refine jd (AW.region ?_)
     refine ba ?_
     refine nm ?_
     refine qm ?_
     refine nl ?_
     refine ⟨⟨i.k + 1, by omega, i.next (show (pipeP u) i.k = true by simp only [pipeP, rises, pipeOk]; grind only)⟩, Weak.sim ⟨st1, Rf rfl, ⟨rfl, rfl⟩, ⟨rfl, rfl⟩, ⟨rfl, rfl⟩, ⟨rfl, rfl⟩, ⟨rfl, rfl⟩, ⟨rfl, rfl⟩, ⟨rfl, rfl⟩, Rf rfl, Rf rfl, Rf rfl, Rf rfl, Rf rfl, Rf rfl, Rf rfl, rfl, rfl, rfl, trivial⟩ rfl rfl, ?_⟩
     show u.Pipes.length - (i.k + 1) < u.Pipes.length - i.k
     omega
    refine tg 27 rfl (nF g16) (fA fl153_1) ?_
    refine tg 28 rfl (nF g16) (Qt.load1 rfl rfl rfl ag29) ?_
    refine na ?_
    refine a1 29 [] [28, 26, 27, 25, 20, 24, 19, 7, 23, 18, 4, 6, 22, 17, 3, 2, 5, 21, 16, 14, 1, 15, 13, 0, 12, 11, 9, 10, 8] rfl (nF g16) (Stp.callV rfl (by decide) Tryz.call103 rfl rfl (wordsOk_con _)) ?_
    refine na ?_
    refine na ?_
    refine tg 30 rfl (nF g16) (Qt.notB rfl) ?_
    refine tk 31 rfl (Qt.pickF rfl g16) ?_
    refine nz ?_
    refine cd (fun c19 => ?_) fun c19 => ?_
    ·try simp only [cnd] at c19
     have hS := i.stop (by omega) (show (pipeP u) i.k = false by simp only [pipeP, rises, pipeOk]; grind only)
     refine sr ?_
     refine qr 2 ?_
     refine rb ?_
     simp only [pipesOk_eq]
     grind only
    try simp only [cnd] at c19
    refine jd (sr ?_)
    refine qq (fA fl31_4) ?_
    refine nm ?_
    refine ql ag26 ?_
    refine qq Qt.makeFunc ?_
    refine cv Tryz.call129 rfl rfl (Con.simH (hasOC_con (u.Pipes.getD i.k En.dflt) Tryz.call198 (fun x => pipesOk1_con (u.Pipes.getD i.k En.dflt) x) u.Opens) ⟨⟨_, rfl, T.sim_refl _⟩, ⟨_, rfl, (sim_one (fun c hc => match c, hc with | 0, _ => T.sim_refl _ | 1, _ => T.sim_refl _ | c + 2, hc => absurd hc (by simp only [En.n]; omega)))⟩, trivial⟩ rfl rfl rfl) ?_
    refine nm ?_
    refine qq (Qt.notB rfl) ?_
    refine nc (fun c20 => ?_) fun c20 => ?_
    ·try simp only [cnd] at c20
     have hS := i.stop (by omega) (show (pipeP u) i.k = false by simp only [pipeP, rises, pipeOk]; grind only)
     refine sr ?_
     refine qr 2 ?_
     refine rb ?_
     simp only [pipesOk_eq]
     grind only
    try simp only [cnd] at c20
    refine jd (AW.region ?_)
    refine ba ?_
    refine nm ?_
    refine qm ?_
    refine nl ?_
    refine ⟨⟨i.k + 1, by omega, i.next (show (pipeP u) i.k = true by simp only [pipeP, rises, pipeOk]; grind only)⟩, Weak.sim ⟨st1, Rf rfl, ⟨rfl, rfl⟩, ⟨rfl, rfl⟩, ⟨rfl, rfl⟩, ⟨rfl, rfl⟩, ⟨rfl, rfl⟩, ⟨rfl, rfl⟩, ⟨rfl, rfl⟩, Rf rfl, Rf rfl, Rf rfl, Rf rfl, Rf rfl, Rf rfl, Rf rfl, rfl, rfl, rfl, trivial⟩ rfl rfl, ?_⟩
    show u.Pipes.length - (i.k + 1) < u.Pipes.length - i.k
    omega
   refine tg 21 rfl (nF g15) (fA fl153_1) ?_
   refine tg 22 rfl (nF g15) (Qt.load1 rfl rfl rfl ag29) ?_
   refine na ?_
   refine tg 23 rfl (nF g15) (Qt.lenH rfl rfl rfl sl29) ?_
   refine tg 24 rfl (nF g15) (Qt.binOp rfl rfl rfl) ?_
   refine tk 25 rfl (Qt.pickF rfl g15) ?_
   refine na ?_
   refine tk 26 rfl Qt.move ?_
   refine AWA.split 39 rfl (fun g21 => ?_) (fun g21 => ?_)
   ·refine tf 27 (nT g21) ?_
    refine tf 28 (nT g21) ?_
    refine na ?_
    refine o1 29 [] [28, 26, 27, 25, 20, 24, 19, 7, 23, 18, 4, 6, 22, 17, 3, 2, 5, 21, 16, 14, 1, 15, 13, 0, 12, 11, 9, 10, 8] rfl (nT g21) ?_
    refine na ?_
    refine na ?_
    refine tf 30 (nT g21) ?_
    refine tk 31 rfl (Qt.pickT rfl g21) ?_
    refine nz ?_
    refine cd (fun c22 => ?_) fun c22 => ?_
    ·try simp only [cnd] at c22
     have hS := i.stop (by omega) (show (pipeP u) i.k = false by simp only [pipeP, rises, pipeOk]; grind only)
     refine sr ?_
     refine qr 2 ?_
     refine rb ?_
     simp only [pipesOk_eq]
     grind only
    try simp only [cnd] at c22
    refine jd (sr ?_)
    refine qq (fA fl31_4) ?_
    refine nm ?_
    refine ql ag26 ?_
    refine qq Qt.makeFunc ?_
    refine cv Tryz.call129 rfl rfl (Con.simH (hasOC_con (u.Pipes.getD i.k En.dflt) Tryz.call198 (fun x => pipesOk1_con (u.Pipes.getD i.k En.dflt) x) u.Opens) ⟨⟨_, rfl, T.sim_refl _⟩, ⟨_, rfl, (sim_one (fun c hc => match c, hc with | 0, _ => T.sim_refl _ | 1, _ => T.sim_refl _ | c + 2, hc => absurd hc (by simp only [En.n]; omega)))⟩, trivial⟩ rfl rfl rfl) ?_
    refine nm ?_
    refine qq (Qt.notB rfl) ?_
    refine nc (fun c23 => ?_) fun c23 => ?_
    ·try simp only [cnd] at c23
     have hS := i.stop (by omega) (show (pipeP u) i.k = false by simp only [pipeP, rises, pipeOk]; grind only)
     refine sr ?_
     refine qr 2 ?_
     refine rb ?_
     simp only [pipesOk_eq]
     grind only
    try simp only [cnd] at c23
    refine jd (AW.region ?_)
    refine ba ?_
    refine nm ?_
    refine qm ?_
    refine nl ?_
    refine ⟨⟨i.k + 1, by omega, i.next (show (pipeP u) i.k = true by simp only [pipeP, rises, pipeOk]; grind only)⟩, Weak.sim ⟨st1, Rf rfl, ⟨rfl, rfl⟩, ⟨rfl, rfl⟩, ⟨rfl, rfl⟩, ⟨rfl, rfl⟩, ⟨rfl, rfl⟩, ⟨rfl, rfl⟩, ⟨rfl, rfl⟩, Rf rfl, Rf rfl, Rf rfl, Rf rfl, Rf rfl, Rf rfl, Rf rfl, rfl, rfl, rfl, trivial⟩ rfl rfl, ?_⟩
    show u.Pipes.length - (i.k + 1) < u.Pipes.length - i.k
    omega
   refine tg 27 rfl (nF g21) (fA fl153_1) ?_
   refine tg 28 rfl (nF g21) (Qt.load1 rfl rfl rfl ag29) ?_
   refine na ?_
   refine a1 29 [] [28, 26, 27, 25, 20, 24, 19, 7, 23, 18, 4, 6, 22, 17, 3, 2, 5, 21, 16, 14, 1, 15, 13, 0, 12, 11, 9, 10, 8] rfl (nF g21) (Stp.callV rfl (by decide) Tryz.call103 rfl rfl (wordsOk_con _)) ?_
   refine na ?_
   refine na ?_
   refine tg 30 rfl (nF g21) (Qt.notB rfl) ?_
   refine tk 31 rfl (Qt.pickF rfl g21) ?_
   refine nz ?_
   refine cd (fun c24 => ?_) fun c24 => ?_
   ·try simp only [cnd] at c24
    have hS := i.stop (by omega) (show (pipeP u) i.k = false by simp only [pipeP, rises, pipeOk]; grind only)
    refine sr ?_
    refine qr 2 ?_
    refine rb ?_
    simp only [pipesOk_eq]
    grind only
   try simp only [cnd] at c24
   refine jd (sr ?_)
   refine qq (fA fl31_4) ?_
   refine nm ?_
   refine ql ag26 ?_
   refine qq Qt.makeFunc ?_
   refine cv Tryz.call129 rfl rfl (Con.simH (hasOC_con (u.Pipes.getD i.k En.dflt) Tryz.call198 (fun x => pipesOk1_con (u.Pipes.getD i.k En.dflt) x) u.Opens) ⟨⟨_, rfl, T.sim_refl _⟩, ⟨_, rfl, (sim_one (fun c hc => match c, hc with | 0, _ => T.sim_refl _ | 1, _ => T.sim_refl _ | c + 2, hc => absurd hc (by simp only [En.n]; omega)))⟩, trivial⟩ rfl rfl rfl) ?_
   refine nm ?_
   refine qq (Qt.notB rfl) ?_
   refine nc (fun c25 => ?_) fun c25 => ?_
   ·try simp only [cnd] at c25
    have hS := i.stop (by omega) (show (pipeP u) i.k = false by simp only [pipeP, rises, pipeOk]; grind only)
    refine sr ?_
    refine qr 2 ?_
    refine rb ?_
    simp only [pipesOk_eq]
    grind only
   try simp only [cnd] at c25
   refine jd (AW.region ?_)
   refine ba ?_
   refine nm ?_
   refine qm ?_
   refine nl ?_
   refine ⟨⟨i.k + 1, by omega, i.next (show (pipeP u) i.k = true by simp only [pipeP, rises, pipeOk]; grind only)⟩, Weak.sim ⟨st1, Rf rfl, ⟨rfl, rfl⟩, ⟨rfl, rfl⟩, ⟨rfl, rfl⟩, ⟨rfl, rfl⟩, ⟨rfl, rfl⟩, ⟨rfl, rfl⟩, ⟨rfl, rfl⟩, Rf rfl, Rf rfl, Rf rfl, Rf rfl, Rf rfl, Rf rfl, Rf rfl, rfl, rfl, rfl, trivial⟩ rfl rfl, ?_⟩
   show u.Pipes.length - (i.k + 1) < u.Pipes.length - i.k
   omega
  refine tf 8 g14 ?_
  refine tf 9 g14 ?_
  refine na ?_
  refine tf 10 g14 ?_
  refine tf 11 g14 ?_
  refine tf 12 g14 ?_
  refine na ?_
  refine tf 13 g14 ?_
  refine tf 14 g14 ?_
  refine tf 15 g14 ?_
  refine na ?_
  refine tf 16 g14 ?_
  refine tf 17 g14 ?_
  refine tg 18 rfl (nF g2) (Qt.pickF rfl g14) ?_
  refine na ?_
  refine tk 19 rfl (Qt.pickF rfl g2) ?_
  refine tk 20 rfl Qt.move ?_
  refine AWA.split 33 rfl (fun g26 => ?_) (fun g26 => ?_)
  ·refine tf 21 (nT g26) ?_
   refine na ?_
   refine tf 22 (nT g26) ?_
   refine tf 23 (nT g26) ?_
   refine tf 24 (nT g26) ?_
   refine na ?_
   refine tk 25 rfl (Qt.pickT rfl g26) ?_
   refine tk 26 rfl Qt.move ?_
   refine AWA.split 39 rfl (fun g27 => ?_) (fun g27 => ?_)
   ·refine tf 27 (nT g27) ?_
    refine na ?_
    refine tf 28 (nT g27) ?_
    refine o1 29 [] [28, 26, 27, 25, 20, 24, 19, 7, 23, 18, 4, 6, 22, 17, 3, 2, 5, 21, 16, 14, 1, 15, 13, 0, 12, 11, 9, 10, 8] rfl (nT g27) ?_
    refine na ?_
    refine na ?_
    refine tf 30 (nT g27) ?_
    refine tk 31 rfl (Qt.pickT rfl g27) ?_
    refine nz ?_
    refine cd (fun c28 => ?_) fun c28 => ?_
    ·try simp only [cnd] at c28
     have hS := i.stop (by omega) (show (pipeP u) i.k = false by simp only [pipeP, rises, pipeOk]; grind only)
     refine sr ?_
     refine qr 2 ?_
     refine rb ?_
     simp only [pipesOk_eq]
     grind only
    try simp only [cnd] at c28
    refine jd (sr ?_)
    refine qq (fA fl31_4) ?_
    refine nm ?_
    refine ql ag26 ?_
    refine qq Qt.makeFunc ?_
    refine cv Tryz.call129 rfl rfl (Con.simH (hasOC_con (u.Pipes.getD i.k En.dflt) Tryz.call198 (fun x => pipesOk1_con (u.Pipes.getD i.k En.dflt) x) u.Opens) ⟨⟨_, rfl, T.sim_refl _⟩, ⟨_, rfl, (sim_one (fun c hc => match c, hc with | 0, _ => T.sim_refl _ | 1, _ => T.sim_refl _ | c + 2, hc => absurd hc (by simp only [En.n]; omega)))⟩, trivial⟩ rfl rfl rfl) ?_
    refine nm ?_
    refine qq (Qt.notB rfl) ?_
    refine nc (fun c29 => ?_) fun c29 => ?_
    ·try simp only [cnd] at c29
     have hS := i.stop (by omega) (show (pipeP u) i.k = false by simp only [pipeP, rises, pipeOk]; grind only)
     refine sr ?_
     refine qr 2 ?_
     refine rb ?_
     simp only [pipesOk_eq]
     grind only
    try simp only [cnd] at c29
    refine jd (AW.region ?_)
    refine ba ?_
    refine nm ?_
    refine qm ?_
    refine nl ?_
    refine ⟨⟨i.k + 1, by omega, i.next (show (pipeP u) i.k = true by simp only [pipeP, rises, pipeOk]; grind only)⟩, Weak.sim ⟨st1, Rf rfl, ⟨rfl, rfl⟩, ⟨rfl, rfl⟩, ⟨rfl, rfl⟩, ⟨rfl, rfl⟩, ⟨rfl, rfl⟩, ⟨rfl, rfl⟩, ⟨rfl, rfl⟩, Rf rfl, Rf rfl, Rf rfl, Rf rfl, Rf rfl, Rf rfl, Rf rfl, rfl, rfl, rfl, trivial⟩ rfl rfl, ?_⟩
    show u.Pipes.length - (i.k + 1) < u.Pipes.length - i.k
    omega
   refine tg 27 rfl (nF g27) (fA fl153_1) ?_
   refine tg 28 rfl (nF g27) (Qt.load1 rfl rfl rfl ag29) ?_
   refine na ?_
   refine a1 29 [] [28, 26, 27, 25, 20, 24, 19, 7, 23, 18, 4, 6, 22, 17, 3, 2, 5, 21, 16, 14, 1, 15, 13, 0, 12, 11, 9, 10, 8] rfl (nF g27) (Stp.callV rfl (by decide) Tryz.call103 rfl rfl (wordsOk_con _)) ?_
   refine na ?_
   refine na ?_
   refine tg 30 rfl (nF g27) (Qt.notB rfl) ?_
   refine tk 31 rfl (Qt.pickF rfl g27) ?_
   refine nz ?_
   refine cd (fun c30 => ?_) fun c30 => ?_
   ·try simp only [cnd] at c30
    have hS := i.stop (by omega) (show (pipeP u) i.k = false by simp only [pipeP, rises, pipeOk]; grind only)
    refine sr ?_
    refine qr 2 ?_
    refine rb ?_
    simp only [pipesOk_eq]
    grind only
   try simp only [cnd] at c30
   refine jd (sr ?_)
   refine qq (fA fl31_4) ?_
   refine nm ?_
   refine ql ag26 ?_
   refine qq Qt.makeFunc ?_
   refine cv Tryz.call129 rfl rfl (Con.simH (hasOC_con (u.Pipes.getD i.k En.dflt) Tryz.call198 (fun x => pipesOk1_con (u.Pipes.getD i.k En.dflt) x) u.Opens) ⟨⟨_, rfl, T.sim_refl _⟩, ⟨_, rfl, (sim_one (fun c hc => match c, hc with | 0, _ => T.sim_refl _ | 1, _ => T.sim_refl _ | c + 2, hc => absurd hc (by simp only [En.n]; omega)))⟩, trivial⟩ rfl rfl rfl) ?_
   refine nm ?_
   refine qq (Qt.notB rfl) ?_
   refine nc (fun c31 => ?_) fun c31 => ?_
   ·try simp only [cnd] at c31
    have hS := i.stop (by omega) (show (pipeP u) i.k = false by simp only [pipeP, rises, pipeOk]; grind only)
    refine sr ?_
    refine qr 2 ?_
    refine rb ?_
    simp only [pipesOk_eq]
    grind only
   try simp only [cnd] at c31
   refine jd (AW.region ?_)
   refine ba ?_
   refine nm ?_
   refine qm ?_
   refine nl ?_
   refine ⟨⟨i.k + 1, by omega, i.next (show (pipeP u) i.k = true by simp only [pipeP, rises, pipeOk]; grind only)⟩, Weak.sim ⟨st1, Rf rfl, ⟨rfl, rfl⟩, ⟨rfl, rfl⟩, ⟨rfl, rfl⟩, ⟨rfl, rfl⟩, ⟨rfl, rfl⟩, ⟨rfl, rfl⟩, ⟨rfl, rfl⟩, Rf rfl, Rf rfl, Rf rfl, Rf rfl, Rf rfl, Rf rfl, Rf rfl, rfl, rfl, rfl, trivial⟩ rfl rfl, ?_⟩
   show u.Pipes.length - (i.k + 1) < u.Pipes.length - i.k
   omega
  refine tg 21 rfl (nF g26) (fA fl153_1) ?_
  refine tg 22 rfl (nF g26) (Qt.load1 rfl rfl rfl ag29) ?_
  refine na ?_
  refine tg 23 rfl (nF g26) (Qt.lenH rfl rfl rfl sl29) ?_
  refine tg 24 rfl (nF g26) (Qt.binOp rfl rfl rfl) ?_
  refine tk 25 rfl (Qt.pickF rfl g26) ?_
  refine na ?_
  refine tk 26 rfl Qt.move ?_
  refine AWA.split 39 rfl (fun g32 => ?_) (fun g32 => ?_)
  ·refine tf 27 (nT g32) ?_
   refine tf 28 (nT g32) ?_
   refine na ?_
   refine o1 29 [] [28, 26, 27, 25, 20, 24, 19, 7, 23, 18, 4, 6, 22, 17, 3, 2, 5, 21, 16, 14, 1, 15, 13, 0, 12, 11, 9, 10, 8] rfl (nT g32) ?_
   refine na ?_
   refine na ?_
   refine tf 30 (nT g32) ?_
   refine tk 31 rfl (Qt.pickT rfl g32) ?_
   refine nz ?_
   refine cd (fun c33 => ?_) fun c33 => ?_
   ·try simp only [cnd] at c33
    have hS := i.stop (by omega) (show (pipeP u) i.k = false by simp only [pipeP, rises, pipeOk]; grind only)
    refine sr ?_
    refine qr 2 ?_
    refine rb ?_
    simp only [pipesOk_eq]
    grind only
   try simp only [cnd] at c33
   refine jd (sr ?_)
   refine qq (fA fl31_4) ?_
   refine nm ?_
   refine ql ag26 ?_
   refine qq Qt.makeFunc ?_
   refine cv Tryz.call129 rfl rfl (Con.simH (hasOC_con (u.Pipes.getD i.k En.dflt) Tryz.call198 (fun x => pipesOk1_con (u.Pipes.getD i.k En.dflt) x) u.Opens) ⟨⟨_, rfl, T.sim_refl _⟩, ⟨_, rfl, (sim_one (fun c hc => match c, hc with | 0, _ => T.sim_refl _ | 1, _ => T.sim_refl _ | c + 2, hc => absurd hc (by simp only [En.n]; omega)))⟩, trivial⟩ rfl rfl rfl) ?_
   refine nm ?_
   refine qq (Qt.notB rfl) ?_
   refine nc (fun c34 => ?_) fun c34 => ?_
   ·try simp only [cnd] at c34
    have hS := i.stop (by omega) (show (pipeP u) i.k = false by simp only [pipeP, rises, pipeOk]; grind only)
    refine sr ?_
    refine qr 2 ?_
    refine rb ?_
    simp only [pipesOk_eq]
    grind only
   try simp only [cnd] at c34
   refine jd (AW.region ?_)
   refine ba ?_
   refine nm ?_
   refine qm ?_
   refine nl ?_
   refine ⟨⟨i.k + 1, by omega, i.next (show (pipeP u) i.k = true by simp only [pipeP, rises, pipeOk]; grind only)⟩, Weak.sim ⟨st1, Rf rfl, ⟨rfl, rfl⟩, ⟨rfl, rfl⟩, ⟨rfl, rfl⟩, ⟨rfl, rfl⟩, ⟨rfl, rfl⟩, ⟨rfl, rfl⟩, ⟨rfl, rfl⟩, Rf rfl, Rf rfl, Rf rfl, Rf rfl, Rf rfl, Rf rfl, Rf rfl, rfl, rfl, rfl, trivial⟩ rfl rfl, ?_⟩
   show u.Pipes.length - (i.k + 1) < u.Pipes.length - i.k
   omega
  refine tg 27 rfl (nF g32) (fA fl153_1) ?_
  refine tg 28 rfl (nF g32) (Qt.load1 rfl rfl rfl ag29) ?_
  refine na ?_
  refine a1 29 [] [28, 26, 27, 25, 20, 24, 19, 7, 23, 18, 4, 6, 22, 17, 3, 2, 5, 21, 16, 14, 1, 15, 13, 0, 12, 11, 9, 10, 8] rfl (nF g32) (Stp.callV rfl (by decide) Tryz.call103 rfl rfl (wordsOk_con _)) ?_
  refine na ?_
  refine na ?_
  refine tg 30 rfl (nF g32) (Qt.notB rfl) ?_
  refine tk 31 rfl (Qt.pickF rfl g32) ?_
  refine nz ?_
  refine cd (fun c35 => ?_) fun c35 => ?_
  ·try simp only [cnd] at c35
   have hS := i.stop (by omega) (show (pipeP u) i.k = false by simp only [pipeP, rises, pipeOk]; grind only)
   refine sr ?_
   refine qr 2 ?_
   refine rb ?_
   simp only [pipesOk_eq]
   grind only
  try simp only [cnd] at c35
  refine jd (sr ?_)
  refine qq (fA fl31_4) ?_
  refine nm ?_
  refine ql ag26 ?_
  refine qq Qt.makeFunc ?_
  refine cv Tryz.call129 rfl rfl (Con.simH (hasOC_con (u.Pipes.getD i.k En.dflt) Tryz.call198 (fun x => pipesOk1_con (u.Pipes.getD i.k En.dflt) x) u.Opens) ⟨⟨_, rfl, T.sim_refl _⟩, ⟨_, rfl, (sim_one (fun c hc => match c, hc with | 0, _ => T.sim_refl _ | 1, _ => T.sim_refl _ | c + 2, hc => absurd hc (by simp only [En.n]; omega)))⟩, trivial⟩ rfl rfl rfl) ?_
  refine nm ?_
  refine qq (Qt.notB rfl) ?_
  refine nc (fun c36 => ?_) fun c36 => ?_
  ·try simp only [cnd] at c36
   have hS := i.stop (by omega) (show (pipeP u) i.k = false by simp only [pipeP, rises, pipeOk]; grind only)
   refine sr ?_
   refine qr 2 ?_
   refine rb ?_
   simp only [pipesOk_eq]
   grind only
  try simp only [cnd] at c36
  refine jd (AW.region ?_)
  refine ba ?_
  refine nm ?_
  refine qm ?_
  refine nl ?_
  refine ⟨⟨i.k + 1, by omega, i.next (show (pipeP u) i.k = true by simp only [pipeP, rises, pipeOk]; grind only)⟩, Weak.sim ⟨st1, Rf rfl, ⟨rfl, rfl⟩, ⟨rfl, rfl⟩, ⟨rfl, rfl⟩, ⟨rfl, rfl⟩, ⟨rfl, rfl⟩, ⟨rfl, rfl⟩, ⟨rfl, rfl⟩, Rf rfl, Rf rfl, Rf rfl, Rf rfl, Rf rfl, Rf rfl, Rf rfl, rfl, rfl, rfl, trivial⟩ rfl rfl, ?_⟩
  show u.Pipes.length - (i.k + 1) < u.Pipes.length - i.k
  omega
 try simp only [cnd] at c1
 have hA := i.full (by omega)
 refine AW.exit ?_
 dsimp only [thenQ, blockQ, reduceIte]
 refine sr ?_
 refine qq (fA fl31_5) ?_
 refine ql ag27 ?_
 refine nm ?_
 refine qh sl27 ?_
 refine qb ?_
 refine qr 2 ?_
 refine rb ?_
 simp only [pipesOk_eq]
 grind only
end Go.Proofs.YtfbefcmeghpalaaGreat.VM
