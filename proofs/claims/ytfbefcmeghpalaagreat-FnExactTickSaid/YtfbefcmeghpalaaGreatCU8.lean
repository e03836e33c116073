/- Contracts of functions of the program. No conditions beyond those that each states. -/
import Derived.Test.YtfbefcmeghpalaaGreatCU6
set_option linter.all false
set_option maxHeartbeats 8000000
set_option maxRecDepth 10000
namespace Go.Proofs.YtfbefcmeghpalaaGreat.VM
open Go Go.RowKit Go.Proofs
theorem l6Things_con (u : DUnix) (hb : unixB u) : Con Tryz.prog 136 [.g [.v (iv u.Next), .v (iv u.Tick), .h base [], .h (base + 1) [], .h (base + 2) [], .h (base + 3) [], .h (base + 4) [], .h (base + 5) [], .h (base + 6) []]] [.rt base .ro (tr u.Progs), .rt (base + 1) .ro (tr u.Procs), .rt (base + 2) .ro (tr u.Opens), .rt (base + 3) .ro (tr u.Pipes), .rt (base + 4) .ro (tr u.Files), .rt (base + 5) .ro (tr u.Ready), .rt (base + 6) .ro (tr u.Out)] (fun y _ => y = .v (.bool (thingsOk u))) := by
 refine ob Tryz.func136 Tryz.ntmps136 ?_
 refine AW.len (base + 2) [] rfl (by simp [Okp]) rfl (fun hl2 => ?_)
 refine AW.len (base + 3) [] rfl (by simp [Okp]) rfl (fun hl3 => ?_)
 refine AW.len (base + 4) [] rfl (by simp [Okp]) rfl (fun hl4 => ?_)
 have hob := hb.opens
 refine sr ?_
 refine bx ?_
 refine nm ?_
 refine qn ?_
 refine sr2 ?_
 refine qq (fA fl31_4) ?_
 refine ql ag26 ?_
 refine nm ?_
 refine qh sl26 ?_
 refine qb ?_
 refine mn ?_
 apply AWL.cut 4
 ·intro Kg1
  refine AWL.splitF 12 rfl (fun g1 => ?_) (fun g1 => ?_)
  ·refine qg (nF g1) (fA fl31_5) ?_
   refine qg (nF g1) (Qt.load1 rfl rfl rfl ag27) ?_
   refine qg (nF g1) (Qt.lenH rfl rfl rfl sl27) ?_
   refine nm ?_
   refine qg (nF g1) (Qt.binOp rfl rfl rfl) ?_
   exact wj 16 [13, 14, 15, 16] (ifF g1 _ undef) (by simp only [go_sem, reduceIte, Nat.reduceEqDiff, Nat.reduceBEq, reduceCtorEq]; rfl) Kg1
  ·refine og (nT g1) ?_
   refine og (nT g1) ?_
   refine og (nT g1) ?_
   refine og (nT g1) ?_
   exact wj 16 [13, 14, 15, 16] (ifT g1 undef _) (by simp only [go_sem, reduceIte, Nat.reduceEqDiff, Nat.reduceBEq, reduceCtorEq]) Kg1
 refine qq (Qt.pickOr rfl rfl rfl) ?_
 refine mn ?_
 apply AWL.cut 4
 ·intro Kg2
  refine AWL.splitF 18 rfl (fun g2 => ?_) (fun g2 => ?_)
  ·refine qg (nF g2) (fA fl31_6) ?_
   refine qg (nF g2) (Qt.load1 rfl rfl rfl ag28) ?_
   refine qg (nF g2) (Qt.lenH rfl rfl rfl sl28) ?_
   refine nm ?_
   refine qg (nF g2) (Qt.binOp rfl rfl rfl) ?_
   exact wj 22 [19, 20, 21, 22] (ifF g2 _ undef) (by simp only [go_sem, reduceIte, Nat.reduceEqDiff, Nat.reduceBEq, reduceCtorEq]; rfl) Kg2
  ·refine og (nT g2) ?_
   refine og (nT g2) ?_
   refine og (nT g2) ?_
   refine og (nT g2) ?_
   exact wj 22 [19, 20, 21, 22] (ifT g2 undef _) (by simp only [go_sem, reduceIte, Nat.reduceEqDiff, Nat.reduceBEq, reduceCtorEq]) Kg2
 refine qq (Qt.pickOr rfl rfl rfl) ?_
 refine nc (fun c3 => ?_) fun c3 => ?_
 ·try simp only [cnd] at c3
  refine sr ?_
  refine qr 2 ?_
  refine rb ?_
  simp only [thingsOk, opensOk_eq, pipesOk_eq, filesOk_eq]
  grind only
 try simp only [cnd] at c3
 refine jd (sr2 ?_)
 refine qn ?_
 refine AW.block ?_
 refine AW.loopW (fun i : AIx (openP u) u.Opens.length => [.sl 3 (.v (iv i.k)), .rt 1 .box (T.s 9 1 fun k c => ([(T.v (iv u.Next), none), (T.v (iv u.Tick), none), (T.j, none), (T.j, none), (T.j, none), (T.j, none), (T.j, none), (T.j, none), (T.j, none)].getD (k * 9 + c) (T.j, none)).fst), .al 1 2 (.h base []), .al 1 3 (.h (base + 1) []), .al 1 4 (.h (base + 2) []), .al 1 5 (.h (base + 3) []), .al 1 6 (.h (base + 4) []), .al 1 7 (.h (base + 5) []), .al 1 8 (.h (base + 6) []), .rt base .ro (tr u.Progs), .rt (base + 1) .ro (tr u.Procs), .rt (base + 2) .ro (tr u.Opens), .rt (base + 3) .ro (tr u.Pipes), .rt (base + 4) .ro (tr u.Files), .rt (base + 5) .ro (tr u.Ready), .rt (base + 6) .ro (tr u.Out), .sl 1 (.p 1 [] 9 0 0)]) (fun i => u.Opens.length - i.k) ⟨0, Nat.zero_le _, fun _ h => absurd h (Nat.not_lt_zero _)⟩ (Weak.sim ⟨rfl, Rf rfl, ⟨rfl, rfl⟩, ⟨rfl, rfl⟩, ⟨rfl, rfl⟩, ⟨rfl, rfl⟩, ⟨rfl, rfl⟩, ⟨rfl, rfl⟩, ⟨rfl, rfl⟩, Rf rfl, Rf rfl, Rf rfl, Rf rfl, Rf rfl, Rf rfl, Rf rfl, rfl, trivial⟩ rfl rfl) ?_
 intro i
 have hle := i.le
 have hTi : ((i.k : Int) - 1).toNat = i.k - 1 := by omega
 refine sr2 ?_
 refine mn ?_
 refine qq (fA fl31_4) ?_
 refine ql ag26 ?_
 refine qh sl26 ?_
 refine nm ?_
 refine qb ?_
 refine nc (fun c4 => ?_) fun c4 => ?_
 ·try simp only [cnd] at c4
  refine jd (AW.seq (AW.block (AW.seq ?_)))
  refine AW.draw [0, 1, 2, 3, 4, 5, 7, 8, 9, 10, 11, 12, 13, 14, 15, 16, 17, 18, 19, 20, 21, 22, 23, 24, 25, 26, 27] rfl (by decide +kernel) ?_
  refine tk 0 rfl (Qt.loadG rfl rfl rfl ag31 sz31 (by decide)) ?_
  refine tk 1 rfl (fA fl31_4) ?_
  refine na ?_
  refine tk 2 rfl (Qt.load1 rfl rfl rfl ag26) ?_
  refine tk 3 rfl Qt.move ?_
  refine tk 4 rfl (ix sl26 sz130) ?_
  refine na ?_
  refine tk 5 rfl (Qt.loadG rfl rfl rfl ag130 sz130 (by decide)) ?_
  refine a1 6 [] [5, 0, 4, 3, 2, 1] rfl rfl (Stp.callV rfl (by decide) Tryz.call231 rfl rfl (l6OpenOk_con u _ hb)) ?_
  refine na ?_
  refine na ?_
  refine tk 7 rfl (Qt.notB rfl) ?_
  refine tk 8 rfl Qt.move ?_
  refine AWA.split 39 rfl (fun g5 => ?_) (fun g5 => ?_)
  ·refine tf 9 (nT g5) ?_
   refine na ?_
   refine tf 10 (nT g5) ?_
   refine tf 11 (nT g5) ?_
   refine tf 12 rfl ?_
   refine na ?_
   refine tf 13 rfl ?_
   refine tf 14 rfl ?_
   refine tf 15 rfl ?_
   refine na ?_
   refine tf 16 rfl ?_
   refine tf 17 rfl ?_
   refine tf 18 rfl ?_
   refine na ?_
   refine tf 19 rfl ?_
   refine tf 20 rfl ?_
   refine tf 21 rfl ?_
   refine na ?_
   refine tf 22 rfl ?_
   refine tf 23 rfl ?_
   refine tf 24 rfl ?_
   refine na ?_
   refine tf 25 rfl ?_
   refine tf 26 (nT g5) ?_
   refine tk 27 rfl (Qt.pickT rfl g5) ?_
   refine na ?_
   refine nz ?_
   refine cd (fun c6 => ?_) fun c6 => ?_
   ·try simp only [cnd] at c6
    have hS := i.stop (by omega) (show (openP u) i.k = false by simp only [openP, rises]; grind only)
    refine sr ?_
    refine qr 2 ?_
    refine rb ?_
    simp only [thingsOk, opensOk_eq, pipesOk_eq, filesOk_eq]
    grind only
   try simp only [cnd] at c6
   refine jd (AW.region ?_)
   refine qm ?_
   refine ba ?_
   refine nm ?_
   refine qn ?_
   refine ⟨⟨i.k + 1, by omega, i.next (show (openP u) i.k = true by simp only [openP, rises]; grind only)⟩, Weak.sim ⟨st1, Rf rfl, ⟨rfl, rfl⟩, ⟨rfl, rfl⟩, ⟨rfl, rfl⟩, ⟨rfl, rfl⟩, ⟨rfl, rfl⟩, ⟨rfl, rfl⟩, ⟨rfl, rfl⟩, Rf rfl, Rf rfl, Rf rfl, Rf rfl, Rf rfl, Rf rfl, Rf rfl, rfl, trivial⟩ rfl rfl, ?_⟩
   show u.Opens.length - (i.k + 1) < u.Opens.length - i.k
   omega
  refine tg 9 rfl (nF g5) Qt.move ?_
  refine tg 10 rfl (nF g5) (Qt.binOp rfl rfl rfl) ?_
  refine na ?_
  refine tg 11 rfl (nF g5) Qt.move ?_
  refine AWA.split 42 rfl (fun g7 => ?_) (fun g7 => ?_)
  ·refine tg 12 rfl g7 (fA fl31_4) ?_
   refine tg 13 rfl g7 (Qt.load1 rfl rfl rfl ag26) ?_
   refine na ?_
   refine tg 14 rfl g7 Qt.move ?_
   refine tg 15 rfl g7 (Qt.binOp rfl rfl (by first | exact pbSub (by omega) | rfl)) ?_
   refine tg 16 rfl g7 (ix sl26 sz130) ?_
   refine na ?_
   refine tg 17 rfl g7 (fA fl130_0) ?_
   refine tg 18 rfl g7 (Qt.load1 rfl rfl rfl ag3) ?_
   refine tg 19 rfl g7 (fA fl31_4) ?_
   refine na ?_
   refine tg 20 rfl g7 (Qt.load1 rfl rfl rfl ag26) ?_
   refine tg 21 rfl g7 Qt.move ?_
   refine tg 22 rfl g7 (ix sl26 sz130) ?_
   refine na ?_
   refine tg 23 rfl g7 (fA fl130_0) ?_
   refine tg 24 rfl g7 (Qt.load1 rfl rfl rfl ag3) ?_
   refine tg 25 rfl g7 (Qt.binOp rfl rfl rfl) ?_
   refine na ?_
   refine tg 26 rfl (nF g5) (Qt.pickT rfl g7) ?_
   refine tk 27 rfl (Qt.pickF rfl g5) ?_
   refine nz ?_
   refine cd (fun c8 => ?_) fun c8 => ?_
   ·try simp only [cnd] at c8
    have hS := i.stop (by omega) (show (openP u) i.k = false by simp only [openP, rises]; grind only)
    refine sr ?_
    refine qr 2 ?_
    refine rb ?_
    simp only [thingsOk, opensOk_eq, pipesOk_eq, filesOk_eq]
    grind only
   try simp only [cnd] at c8
   refine jd (AW.region ?_)
   refine mn ?_
   refine ba ?_
   refine qn ?_
   refine ⟨⟨i.k + 1, by omega, i.next (show (openP u) i.k = true by simp only [openP, rises]; grind only)⟩, Weak.sim ⟨st1, Rf rfl, ⟨rfl, rfl⟩, ⟨rfl, rfl⟩, ⟨rfl, rfl⟩, ⟨rfl, rfl⟩, ⟨rfl, rfl⟩, ⟨rfl, rfl⟩, ⟨rfl, rfl⟩, Rf rfl, Rf rfl, Rf rfl, Rf rfl, Rf rfl, Rf rfl, Rf rfl, rfl, trivial⟩ rfl rfl, ?_⟩
   show u.Opens.length - (i.k + 1) < u.Opens.length - i.k
   omega
  refine tf 12 g7 ?_
  refine na ?_
  refine tf 13 g7 ?_
  refine tf 14 g7 ?_
  refine tf 15 g7 ?_
  refine na ?_
  refine tf 16 g7 ?_
  refine tf 17 g7 ?_
  refine tf 18 g7 ?_
  refine na ?_
  refine tf 19 g7 ?_
  refine tf 20 g7 ?_
  refine tf 21 g7 ?_
  refine na ?_
  refine tf 22 g7 ?_
  refine tf 23 g7 ?_
  refine tf 24 g7 ?_
  refine na ?_
  refine tf 25 g7 ?_
  refine tg 26 rfl (nF g5) (Qt.pickF rfl g7) ?_
  refine tk 27 rfl (Qt.pickF rfl g5) ?_
  refine na ?_
  refine nz ?_
  refine cd (fun c9 => ?_) fun c9 => ?_
  ·try simp only [cnd] at c9
   have hS := i.stop (by omega) (show (openP u) i.k = false by simp only [openP, rises]; grind only)
   refine sr ?_
   refine qr 2 ?_
   refine rb ?_
   simp only [thingsOk, opensOk_eq, pipesOk_eq, filesOk_eq]
   grind only
  try simp only [cnd] at c9
  refine jd (AW.region ?_)
  refine qm ?_
  refine ba ?_
  refine nm ?_
  refine qn ?_
  refine ⟨⟨i.k + 1, by omega, i.next (show (openP u) i.k = true by simp only [openP, rises]; grind only)⟩, Weak.sim ⟨st1, Rf rfl, ⟨rfl, rfl⟩, ⟨rfl, rfl⟩, ⟨rfl, rfl⟩, ⟨rfl, rfl⟩, ⟨rfl, rfl⟩, ⟨rfl, rfl⟩, ⟨rfl, rfl⟩, Rf rfl, Rf rfl, Rf rfl, Rf rfl, Rf rfl, Rf rfl, Rf rfl, rfl, trivial⟩ rfl rfl, ?_⟩
  show u.Opens.length - (i.k + 1) < u.Opens.length - i.k
  omega
 try simp only [cnd] at c4
 have hA := i.full (by omega)
 refine AW.exit ?_
 dsimp only [thenQ, blockQ, reduceIte]
 refine sr2 ?_
 refine qn ?_
 refine AW.block ?_
 refine AW.loopW (fun j : AIx (pipeP u) u.Pipes.length => [.sl 4 (.v (iv j.k)), .rt 1 .box (T.s 9 1 fun k c => ([(T.v (iv u.Next), none), (T.v (iv u.Tick), none), (T.j, none), (T.j, none), (T.j, none), (T.j, none), (T.j, none), (T.j, none), (T.j, none)].getD (k * 9 + c) (T.j, none)).fst), .al 1 2 (.h base []), .al 1 3 (.h (base + 1) []), .al 1 4 (.h (base + 2) []), .al 1 5 (.h (base + 3) []), .al 1 6 (.h (base + 4) []), .al 1 7 (.h (base + 5) []), .al 1 8 (.h (base + 6) []), .rt base .ro (tr u.Progs), .rt (base + 1) .ro (tr u.Procs), .rt (base + 2) .ro (tr u.Opens), .rt (base + 3) .ro (tr u.Pipes), .rt (base + 4) .ro (tr u.Files), .rt (base + 5) .ro (tr u.Ready), .rt (base + 6) .ro (tr u.Out), .sl 1 (.p 1 [] 9 0 0)]) (fun j => u.Pipes.length - j.k) ⟨0, Nat.zero_le _, fun _ h => absurd h (Nat.not_lt_zero _)⟩ (Weak.sim ⟨rfl, Rf rfl, ⟨rfl, rfl⟩, ⟨rfl, rfl⟩, ⟨rfl, rfl⟩, ⟨rfl, rfl⟩, ⟨rfl, rfl⟩, ⟨rfl, rfl⟩, ⟨rfl, rfl⟩, Rf rfl, Rf rfl, Rf rfl, Rf rfl, Rf rfl, Rf rfl, Rf rfl, rfl, trivial⟩ rfl rfl) ?_
 intro j
 have hlej := j.le
 have hTj : ((j.k : Int) - 1).toNat = j.k - 1 := by omega
 have hEn := ends_zero u (u.Pipes.getD j.k En.dflt).Id
 have hE3 := endsN_le u (u.Pipes.getD j.k En.dflt).Id 3 u.Opens.length
 have hE4 := endsN_le u (u.Pipes.getD j.k En.dflt).Id 4 u.Opens.length
 refine sr2 ?_
 refine mn ?_
 refine qq (fA fl31_5) ?_
 refine ql ag27 ?_
 refine qh sl27 ?_
 refine nm ?_
 refine qb ?_
 refine nc (fun c10 => ?_) fun c10 => ?_
 ·try simp only [cnd] at c10
  refine jd (AW.seq (AW.block (sr ?_)))
  refine qq (fA fl31_5) ?_
  refine ql ag27 ?_
  refine nm ?_
  refine qm ?_
  refine qq (ix sl27 sz153) ?_
  refine qG ag153 sz153 ?_
  refine nm ?_
  refine sp sA ?_
  refine nm ?_
  refine ss ?_
  refine nl ?_
  refine AW.seq ?_
  refine AW.draw [0, 1, 3, 4, 5, 6, 7, 8, 9, 10, 11, 12, 14, 15, 16, 17, 18, 19, 20, 21, 22, 23, 24, 25, 26, 27, 28, 29, 30, 31, 32, 33, 34, 35, 37, 38, 39, 41, 42, 43] rfl (by decide +kernel) ?_
  refine tk 0 rfl (fA fl153_0) ?_
  refine na ?_
  refine tk 1 rfl (Qt.load1 rfl rfl rfl ag3) ?_
  refine a1 2 [] [1, 0] rfl rfl (Stp.callV rfl (by decide) Tryz.call131 rfl rfl (l1In_con _ _ _)) ?_
  refine na ?_
  refine na ?_
  refine tk 3 rfl (Qt.notB rfl) ?_
  refine tk 4 rfl Qt.move ?_
  refine AWA.split 75 rfl (fun g11 => ?_) (fun g11 => ?_)
  ·refine tf 5 (nT g11) ?_
   refine na ?_
   refine tf 6 (nT g11) ?_
   refine tf 7 (nT g11) ?_
   refine tf 8 (nT g11) ?_
   refine na ?_
   refine tk 9 rfl (Qt.pickT rfl g11) ?_
   refine tk 10 rfl Qt.move ?_
   refine AWA.split 81 rfl (fun g12 => ?_) (fun g12 => ?_)
   ·refine tf 11 (nT g12) ?_
    refine na ?_
    refine tf 12 (nT g12) ?_
    refine o1 13 [] [12, 10, 11, 9, 4, 8, 3, 2, 7, 1, 6, 0, 5] rfl (nT g12) ?_
    refine na ?_
    refine na ?_
    refine tf 14 (nT g12) ?_
    refine tk 15 rfl (Qt.pickT rfl g12) ?_
    refine tk 16 rfl Qt.move ?_
    refine na ?_
    refine AWA.split 87 rfl (fun g13 => ?_) (fun g13 => ?_)
    ·refine tf 17 (nT g13) ?_
     refine tf 18 (nT g13) ?_
     refine tf 19 (nT g13) ?_
     refine na ?_
     refine tf 20 rfl ?_
     refine tf 21 rfl ?_
     refine tf 22 rfl ?_
     refine na ?_
     refine tf 23 rfl ?_
     refine tf 24 rfl ?_
     refine tf 25 rfl ?_
     refine na ?_
     refine tf 26 rfl ?_
     refine tf 27 rfl ?_
     refine tf 28 rfl ?_
     refine na ?_
     refine tf 29 rfl ?_
     refine tf 30 (nT g13) ?_
     refine tk 31 rfl (Qt.pickT rfl g13) ?_
     refine na ?_
     refine tk 32 rfl Qt.move ?_
     refine AWA.split 103 rfl (fun g14 => ?_) (fun g14 => ?_)
     ·refine tf 33 (nT g14) ?_
      refine tf 34 (nT g14) ?_
      refine na ?_
      refine tf 35 (nT g14) ?_
      refine tf 37 (nT g14) ?_
      refine tf 38 (nT g14) ?_
      refine na ?_
      refine tf 39 (nT g14) ?_
      refine o1 36 [37, 38, 39] [35, 33, 32, 34, 31, 19, 30, 16, 18, 29, 15, 13, 17, 28, 26, 14, 10, 12, 27, 25, 9, 4, 11, 24, 8, 3, 2, 23, 21, 7, 1, 22, 20, 6, 0, 5] rfl (nT g14) ?_
      refine na ?_
      refine AWA.againE rfl rfl (by decide +kernel) (.off rfl (nT g14)) rfl ?_
      refine AWA.againE rfl rfl (by decide +kernel) (.off rfl (nT g14)) rfl ?_
      refine AWA.againE rfl rfl (by decide +kernel) (.off rfl (nT g14)) rfl ?_
      refine na ?_
      refine o1 40 [] [39, 37, 36, 32, 38, 35, 33, 31, 19, 34, 30, 16, 18, 29, 15, 13, 17, 28, 26, 14, 10, 12, 27, 25, 9, 4, 11, 24, 8, 3, 2, 23, 21, 7, 1, 22, 20, 6, 0, 5] rfl (nT g14) ?_
      refine na ?_
      refine na ?_
      refine tf 41 (nT g14) ?_
      refine tf 42 (nT g14) ?_
      refine tk 43 rfl (Qt.pickT rfl g14) ?_
      refine na ?_
      refine nz ?_
      refine cd (fun c15 => ?_) fun c15 => ?_
      ·try simp only [cnd] at c15
       have hS := j.stop (by omega) (show (pipeP u) j.k = false by simp only [pipeP, rises, pipeOk]; grind only)
       refine sr ?_
       refine qr 2 ?_
       refine rb ?_
       simp only [thingsOk, opensOk_eq, pipesOk_eq, filesOk_eq]
       grind only
      try simp only [cnd] at c15
      refine jd (AW.region ?_)
      refine qm ?_
      refine ba ?_
      refine nm ?_
      refine qn ?_
      refine ⟨⟨j.k + 1, by omega, j.next (show (pipeP u) j.k = true by simp only [pipeP, rises, pipeOk]; grind only)⟩, Weak.sim ⟨st1, Rf rfl, ⟨rfl, rfl⟩, ⟨rfl, rfl⟩, ⟨rfl, rfl⟩, ⟨rfl, rfl⟩, ⟨rfl, rfl⟩, ⟨rfl, rfl⟩, ⟨rfl, rfl⟩, Rf rfl, Rf rfl, Rf rfl, Rf rfl, Rf rfl, Rf rfl, Rf rfl, rfl, trivial⟩ rfl rfl, ?_⟩
      show u.Pipes.length - (j.k + 1) < u.Pipes.length - j.k
      omega
     refine tg 33 rfl (nF g14) (Qt.loadG rfl rfl rfl ag31 sz31 (by decide)) ?_
     refine tg 34 rfl (nF g14) (fA fl153_0) ?_
     refine na ?_
     refine tg 35 rfl (nF g14) (Qt.load1 rfl rfl rfl ag3) ?_
     refine tg 37 rfl (nF g14) (Qt.loadG rfl rfl rfl ag31 sz31 (by decide)) ?_
     refine tg 38 rfl (nF g14) (fA fl153_0) ?_
     refine na ?_
     refine tg 39 rfl (nF g14) (Qt.load1 rfl rfl rfl ag3) ?_
     refine a1 36 [37, 38, 39] [35, 33, 32, 34, 31, 19, 30, 16, 18, 29, 15, 13, 17, 28, 26, 14, 10, 12, 27, 25, 9, 4, 11, 24, 8, 3, 2, 23, 21, 7, 1, 22, 20, 6, 0, 5] rfl (nF g14) (Stp.callV rfl (by decide) Tryz.call141 rfl rfl (l6Ends_con u _ _ hb)) ?_
     refine na ?_
     refine AWA.againE rfl rfl (by decide +kernel) (.on rfl (nF g14) (Qt.loadG rfl rfl rfl ag31 sz31 (by decide))) rfl ?_
     refine AWA.againE rfl rfl (by decide +kernel) (.on rfl (nF g14) (fA fl153_0)) rfl ?_
     refine AWA.againE rfl rfl (by decide +kernel) (.on rfl (nF g14) (Qt.load1 rfl rfl rfl ag3)) rfl ?_
     refine na ?_
     refine a1 40 [] [39, 37, 36, 32, 38, 35, 33, 31, 19, 34, 30, 16, 18, 29, 15, 13, 17, 28, 26, 14, 10, 12, 27, 25, 9, 4, 11, 24, 8, 3, 2, 23, 21, 7, 1, 22, 20, 6, 0, 5] rfl (nF g14) (Stp.callV rfl (by decide) Tryz.call141 rfl rfl (l6Ends_con u _ _ hb)) ?_
     refine na ?_
     refine na ?_
     refine tg 41 rfl (nF g14) (Qt.binOp rfl rfl (by first | exact pbAdd (by omega) | rfl)) ?_
     refine tg 42 rfl (nF g14) (Qt.binOp rfl rfl rfl) ?_
     refine tk 43 rfl (Qt.pickF rfl g14) ?_
     refine na ?_
     refine nz ?_
     refine cd (fun c16 => ?_) fun c16 => ?_
     ·try simp only [cnd] at c16
      have hS := j.stop (by omega) (show (pipeP u) j.k = false by simp only [pipeP, rises, pipeOk]; grind only)
      refine sr ?_
      refine qr 2 ?_
      refine rb ?_
      simp only [thingsOk, opensOk_eq, pipesOk_eq, filesOk_eq]
      grind only
     try simp only [cnd] at c16
     refine jd (AW.region ?_)
     refine qm ?_
     refine ba ?_
     refine nm ?_
     refine qn ?_
     refine ⟨⟨j.k + 1, by omega, j.next (show (pipeP u) j.k = true by simp only [pipeP, rises, pipeOk]; grind only)⟩, Weak.sim ⟨st1, Rf rfl, ⟨rfl, rfl⟩, ⟨rfl, rfl⟩, ⟨rfl, rfl⟩, ⟨rfl, rfl⟩, ⟨rfl, rfl⟩, ⟨rfl, rfl⟩, ⟨rfl, rfl⟩, Rf rfl, Rf rfl, Rf rfl, Rf rfl, Rf rfl, Rf rfl, Rf rfl, rfl, trivial⟩ rfl rfl, ?_⟩
     show u.Pipes.length - (j.k + 1) < u.Pipes.length - j.k
     omega
    refine tg 17 rfl (nF g13) Qt.move ?_
    refine tg 18 rfl (nF g13) (Qt.binOp rfl rfl rfl) ?_
    refine na ?_
    refine tg 19 rfl (nF g13) Qt.move ?_
    refine AWA.split 90 rfl (fun g17 => ?_) (fun g17 => ?_)
    ·refine tg 20 rfl g17 (fA fl31_5) ?_
     refine tg 21 rfl g17 (Qt.load1 rfl rfl rfl ag27) ?_
     refine na ?_
     refine tg 22 rfl g17 Qt.move ?_
     refine tg 23 rfl g17 (Qt.binOp rfl rfl (by first | exact pbSub (by omega) | rfl)) ?_
     refine tg 24 rfl g17 (ix sl27 sz153) ?_
     refine na ?_
     refine tg 25 rfl g17 (fA fl153_0) ?_
     refine tg 26 rfl g17 (Qt.load1 rfl rfl rfl ag3) ?_
     refine tg 27 rfl g17 (fA fl153_0) ?_
     refine na ?_
     refine tg 28 rfl g17 (Qt.load1 rfl rfl rfl ag3) ?_
     refine tg 29 rfl g17 (Qt.binOp rfl rfl rfl) ?_
     refine tg 30 rfl (nF g13) (Qt.pickT rfl g17) ?_
     refine na ?_
     refine tk 31 rfl (Qt.pickF rfl g13) ?_
     refine tk 32 rfl Qt.move ?_
     refine AWA.split 103 rfl (fun g18 => ?_) (fun g18 => ?_)
     ·refine tf 33 (nT g18) ?_
      refine na ?_
      refine tf 34 (nT g18) ?_
      refine tf 35 (nT g18) ?_
      refine tf 37 (nT g18) ?_
      refine na ?_
      refine tf 38 (nT g18) ?_
      refine tf 39 (nT g18) ?_
      refine o1 36 [37, 38, 39] [35, 33, 32, 34, 31, 19, 30, 16, 18, 29, 15, 13, 17, 28, 26, 14, 10, 12, 27, 25, 9, 4, 11, 24, 8, 3, 2, 23, 21, 7, 1, 22, 20, 6, 0, 5] rfl (nT g18) ?_
      refine na ?_
      refine AWA.againE rfl rfl (by decide +kernel) (.off rfl (nT g18)) rfl ?_
      refine AWA.againE rfl rfl (by decide +kernel) (.off rfl (nT g18)) rfl ?_
      refine AWA.againE rfl rfl (by decide +kernel) (.off rfl (nT g18)) rfl ?_
      refine na ?_
      refine o1 40 [] [39, 37, 36, 32, 38, 35, 33, 31, 19, 34, 30, 16, 18, 29, 15, 13, 17, 28, 26, 14, 10, 12, 27, 25, 9, 4, 11, 24, 8, 3, 2, 23, 21, 7, 1, 22, 20, 6, 0, 5] rfl (nT g18) ?_
      refine na ?_
      refine na ?_
      refine tf 41 (nT g18) ?_
      refine tf 42 (nT g18) ?_
      refine tk 43 rfl (Qt.pickT rfl g18) ?_
      refine na ?_
      refine nz ?_
      refine cd (fun c19 => ?_) fun c19 => ?_
      ·try simp only [cnd] at c19
       have hS := j.stop (by omega) (show (pipeP u) j.k = false by simp only [pipeP, rises, pipeOk]; grind only)
       refine sr ?_
       refine qr 2 ?_
       refine rb ?_
       simp only [thingsOk, opensOk_eq, pipesOk_eq, filesOk_eq]
       grind only
      try simp only [cnd] at c19
      refine jd (AW.region ?_)
      refine qm ?_
      refine ba ?_
      refine nm ?_
      refine qn ?_
      refine ⟨⟨j.k + 1, by omega, j.next (show (pipeP u) j.k = true by simp only [pipeP, rises, pipeOk]; grind only)⟩, Weak.sim ⟨st1, Rf rfl, ⟨rfl, rfl⟩, ⟨rfl, rfl⟩, ⟨rfl, rfl⟩, ⟨rfl, rfl⟩, ⟨rfl, rfl⟩, ⟨rfl, rfl⟩, ⟨rfl, rfl⟩, Rf rfl, Rf rfl, Rf rfl, Rf rfl, Rf rfl, Rf rfl, Rf rfl, rfl, trivial⟩ rfl rfl, ?_⟩
      show u.Pipes.length - (j.k + 1) < u.Pipes.length - j.k
      omega
     refine tg 33 rfl (nF g18) (Qt.loadG rfl rfl rfl ag31 sz31 (by decide)) ?_
     refine tg 34 rfl (nF g18) (fA fl153_0) ?_
     refine na ?_
     refine tg 35 rfl (nF g18) (Qt.load1 rfl rfl rfl ag3) ?_
     refine tg 37 rfl (nF g18) (Qt.loadG rfl rfl rfl ag31 sz31 (by decide)) ?_
     refine tg 38 rfl (nF g18) (fA fl153_0) ?_
     refine na ?_
     refine tg 39 rfl (nF g18) (Qt.load1 rfl rfl rfl ag3) ?_
     refine a1 36 [37, 38, 39] [35, 33, 32, 34, 31, 19, 30, 16, 18, 29, 15, 13, 17, 28, 26, 14, 10, 12, 27, 25, 9, 4, 11, 24, 8, 3, 2, 23, 21, 7, 1, 22, 20, 6, 0, 5] rfl (nF g18) (Stp.callV rfl (by decide) Tryz.call141 rfl rfl (l6Ends_con u _ _ hb)) ?_
     refine na ?_
     refine AWA.againE rfl rfl (by decide +kernel) (.on rfl (nF g18) (Qt.loadG rfl rfl rfl ag31 sz31 (by decide))) rfl ?_
     refine AWA.againE rfl rfl (by decide +kernel) (.on rfl (nF g18) (fA fl153_0)) rfl ?_
     refine AWA.againE rfl rfl (by decide +kernel) (.on rfl (nF g18) (Qt.load1 rfl rfl rfl ag3)) rfl ?_
     refine na ?_
     refine a1 40 [] [39, 37, 36, 32, 38, 35, 33, 31, 19, 34, 30, 16, 18, 29, 15, 13, 17, 28, 26, 14, 10, 12, 27, 25, 9, 4, 11, 24, 8, 3, 2, 23, 21, 7, 1, 22, 20, 6, 0, 5] rfl (nF g18) (Stp.callV rfl (by decide) Tryz.call141 rfl rfl (l6Ends_con u _ _ hb)) ?_
     refine na ?_
     refine na ?_
     refine tg 41 rfl (nF g18) (Qt.binOp rfl rfl (by first | exact pbAdd (by omega) | rfl)) ?_
     refine tg 42 rfl (nF g18) (Qt.binOp rfl rfl rfl) ?_
     refine tk 43 rfl (Qt.pickF rfl g18) ?_
     refine na ?_
     refine nz ?_
     refine cd (fun c20 => ?_) fun c20 => ?_
     ·try simp only [cnd] at c20
      have hS := j.stop (by omega) (show (pipeP u) j.k = false by simp only [pipeP, rises, pipeOk]; grind only)
      refine sr ?_
      refine qr 2 ?_
      refine rb ?_
      simp only [thingsOk, opensOk_eq, pipesOk_eq, filesOk_eq]
      grind only
     try simp only [cnd] at c20
     refine jd (AW.region ?_)
     refine qm ?_
     refine ba ?_
     refine nm ?_
     refine qn ?_
     refine ⟨⟨j.k + 1, by omega, j.next (show (pipeP u) j.k = true by simp only [pipeP, rises, pipeOk]; grind only)⟩, Weak.sim ⟨st1, Rf rfl, ⟨rfl, rfl⟩, ⟨rfl, rfl⟩, ⟨rfl, rfl⟩, ⟨rfl, rfl⟩, ⟨rfl, rfl⟩, ⟨rfl, rfl⟩, ⟨rfl, rfl⟩, Rf rfl, Rf rfl, Rf rfl, Rf rfl, Rf rfl, Rf rfl, Rf rfl, rfl, trivial⟩ rfl rfl, ?_⟩
     show u.Pipes.length - (j.k + 1) < u.Pipes.length - j.k
     omega
    refine tf 20 g17 ?_
    refine tf 21 g17 ?_
    refine na ?_
    refine tf 22 g17 ?_
    refine tf 23 g17 ?_
    refine tf 24 g17 ?_
    refine na ?_
    refine tf 25 g17 ?_
    refine tf 26 g17 ?_
    refine tf 27 g17 ?_
    refine na ?_
    refine tf 28 g17 ?_
    refine tf 29 g17 ?_
    refine tg 30 rfl (nF g13) (Qt.pickF rfl g17) ?_
    refine na ?_
    refine tk 31 rfl (Qt.pickF rfl g13) ?_
    refine tk 32 rfl Qt.move ?_
    refine AWA.split 103 rfl (fun g21 => ?_) (fun g21 => ?_)
    ·refine tf 33 (nT g21) ?_
     refine na ?_
     refine tf 34 (nT g21) ?_
     refine tf 35 (nT g21) ?_
     refine tf 37 (nT g21) ?_
     refine na ?_
     refine tf 38 (nT g21) ?_
     refine tf 39 (nT g21) ?_
     refine o1 36 [37, 38, 39] [35, 33, 32, 34, 31, 19, 30, 16, 18, 29, 15, 13, 17, 28, 26, 14, 10, 12, 27, 25, 9, 4, 11, 24, 8, 3, 2, 23, 21, 7, 1, 22, 20, 6, 0, 5] rfl (nT g21) ?_
     refine na ?_
     refine AWA.againE rfl rfl (by decide +kernel) (.off rfl (nT g21)) rfl ?_
     refine AWA.againE rfl rfl (by decide +kernel) (.off rfl (nT g21)) rfl ?_
     refine AWA.againE rfl rfl (by decide +kernel) (.off rfl (nT g21)) rfl ?_
     refine na ?_
     refine o1 40 [] [39, 37, 36, 32, 38, 35, 33, 31, 19, 34, 30, 16, 18, 29, 15, 13, 17, 28, 26, 14, 10, 12, 27, 25, 9, 4, 11, 24, 8, 3, 2, 23, 21, 7, 1, 22, 20, 6, 0, 5] rfl (nT g21) ?_
     refine na ?_
     refine na ?_
     refine tf 41 (nT g21) ?_
     refine tf 42 (nT g21) ?_
     refine tk 43 rfl (Qt.pickT rfl g21) ?_
     refine na ?_
     refine nz ?_
     refine cd (fun c22 => ?_) fun c22 => ?_
     ·try simp only [cnd] at c22
      have hS := j.stop (by omega) (show (pipeP u) j.k = false by simp only [pipeP, rises, pipeOk]; grind only)
      refine sr ?_
      refine qr 2 ?_
      refine rb ?_
      simp only [thingsOk, opensOk_eq, pipesOk_eq, filesOk_eq]
      grind only
     try simp only [cnd] at c22
     refine jd (AW.region ?_)
     refine qm ?_
     refine ba ?_
     refine nm ?_
     refine qn ?_
     refine ⟨⟨j.k + 1, by omega, j.next (show (pipeP u) j.k = true by simp only [pipeP, rises, pipeOk]; grind only)⟩, Weak.sim ⟨st1, Rf rfl, ⟨rfl, rfl⟩, ⟨rfl, rfl⟩, ⟨rfl, rfl⟩, ⟨rfl, rfl⟩, ⟨rfl, rfl⟩, ⟨rfl, rfl⟩, ⟨rfl, rfl⟩, Rf rfl, Rf rfl, Rf rfl, Rf rfl, Rf rfl, Rf rfl, Rf rfl, rfl, trivial⟩ rfl rfl, ?_⟩
     show u.Pipes.length - (j.k + 1) < u.Pipes.length - j.k
     omega
    refine tg 33 rfl (nF g21) (Qt.loadG rfl rfl rfl ag31 sz31 (by decide)) ?_
    refine tg 34 rfl (nF g21) (fA fl153_0) ?_
    refine na ?_
    refine tg 35 rfl (nF g21) (Qt.load1 rfl rfl rfl ag3) ?_
    refine tg 37 rfl (nF g21) (Qt.loadG rfl rfl rfl ag31 sz31 (by decide)) ?_
    refine tg 38 rfl (nF g21) (fA fl153_0) ?_
    refine na ?_
    refine tg 39 rfl (nF g21) (Qt.load1 rfl rfl rfl ag3) ?_
    refine a1 36 [37, 38, 39] [35, 33, 32, 34, 31, 19, 30, 16, 18, 29, 15, 13, 17, 28, 26, 14, 10, 12, 27, 25, 9, 4, 11, 24, 8, 3, 2, 23, 21, 7, 1, 22, 20, 6, 0, 5] rfl (nF g21) (Stp.callV rfl (by decide) Tryz.call141 rfl rfl (l6Ends_con u _ _ hb)) ?_
    refine na ?_
    refine AWA.againE rfl rfl (by decide +kernel) (.on rfl (nF g21) (Qt.loadG rfl rfl rfl ag31 sz31 (by decide))) rfl ?_
    refine AWA.againE rfl rfl (by decide +kernel) (.on rfl (nF g21) (fA fl153_0)) rfl ?_
    refine AWA.againE rfl rfl (by decide +kernel) (.on rfl (nF g21) (Qt.load1 rfl rfl rfl ag3)) rfl ?_
    refine na ?_
    refine a1 40 [] [39, 37, 36, 32, 38, 35, 33, 31, 19, 34, 30, 16, 18, 29, 15, 13, 17, 28, 26, 14, 10, 12, 27, 25, 9, 4, 11, 24, 8, 3, 2, 23, 21, 7, 1, 22, 20, 6, 0, 5] rfl (nF g21) (Stp.callV rfl (by decide) Tryz.call141 rfl rfl (l6Ends_con u _ _ hb)) ?_
    refine na ?_
    refine na ?_
    refine tg 41 rfl (nF g21) (Qt.binOp rfl rfl (by first | exact pbAdd (by omega) | rfl)) ?_
    refine tg 42 rfl (nF g21) (Qt.binOp rfl rfl rfl) ?_
    refine tk 43 rfl (Qt.pickF rfl g21) ?_
    refine na ?_
    refine nz ?_
    refine cd (fun c23 => ?_) fun c23 => ?_
    ·try simp only [cnd] at c23
     have hS := j.stop (by omega) (show (pipeP u) j.k = false by simp only [pipeP, rises, pipeOk]; grind only)
     refine sr ?_
     refine qr 2 ?_
     refine rb ?_
     simp only [thingsOk, opensOk_eq, pipesOk_eq, filesOk_eq]
     grind only
    try simp only [cnd] at c23
    refine jd (AW.region ?_)
    refine qm ?_
    refine ba ?_
    refine nm ?_
    refine qn ?_
    refine ⟨⟨j.k + 1, by omega, j.next (show (pipeP u) j.k = true by simp only [pipeP, rises, pipeOk]; grind only)⟩, Weak.sim ⟨st1, Rf rfl, ⟨rfl, rfl⟩, ⟨rfl, rfl⟩, ⟨rfl, rfl⟩, ⟨rfl, rfl⟩, ⟨rfl, rfl⟩, ⟨rfl, rfl⟩, ⟨rfl, rfl⟩, Rf rfl, Rf rfl, Rf rfl, Rf rfl, Rf rfl, Rf rfl, Rf rfl, rfl, trivial⟩ rfl rfl, ?_⟩
    show u.Pipes.length - (j.k + 1) < u.Pipes.length - j.k
    omega
   refine tg 11 rfl (nF g12) (fA fl153_1) ?_
   refine tg 12 rfl (nF g12) (Qt.load1 rfl rfl rfl ag29) ?_
   refine na ?_
   refine a1 13 [] [12, 10, 11, 9, 4, 8, 3, 2, 7, 1, 6, 0, 5] rfl (nF g12) (Stp.callV rfl (by decide) Tryz.call133 rfl rfl (l5Words_con _)) ?_
   refine na ?_
   refine na ?_
   refine tg 14 rfl (nF g12) (Qt.notB rfl) ?_
   refine tk 15 rfl (Qt.pickF rfl g12) ?_
   refine tk 16 rfl Qt.move ?_
   refine na ?_
   refine AWA.split 87 rfl (fun g24 => ?_) (fun g24 => ?_)
   ·refine tf 17 (nT g24) ?_
    refine tf 18 (nT g24) ?_
    refine tf 19 (nT g24) ?_
    refine na ?_
    refine tf 20 rfl ?_
    refine tf 21 rfl ?_
    refine tf 22 rfl ?_
    refine na ?_
    refine tf 23 rfl ?_
    refine tf 24 rfl ?_
    refine tf 25 rfl ?_
    refine na ?_
    refine tf 26 rfl ?_
    refine tf 27 rfl ?_
    refine tf 28 rfl ?_
    refine na ?_
    refine tf 29 rfl ?_
    refine tf 30 (nT g24) ?_
    refine tk 31 rfl (Qt.pickT rfl g24) ?_
    refine na ?_
    refine tk 32 rfl Qt.move ?_
    refine AWA.split 103 rfl (fun g25 => ?_) (fun g25 => ?_)
    ·refine tf 33 (nT g25) ?_
     refine tf 34 (nT g25) ?_
     refine na ?_
     refine tf 35 (nT g25) ?_
     refine tf 37 (nT g25) ?_
     refine tf 38 (nT g25) ?_
     refine na ?_
     refine tf 39 (nT g25) ?_
     refine o1 36 [37, 38, 39] [35, 33, 32, 34, 31, 19, 30, 16, 18, 29, 15, 13, 17, 28, 26, 14, 10, 12, 27, 25, 9, 4, 11, 24, 8, 3, 2, 23, 21, 7, 1, 22, 20, 6, 0, 5] rfl (nT g25) ?_
     refine na ?_
     refine AWA.againE rfl rfl (by decide +kernel) (.off rfl (nT g25)) rfl ?_
     refine AWA.againE rfl rfl (by decide +kernel) (.off rfl (nT g25)) rfl ?_
     refine AWA.againE rfl rfl (by decide +kernel) (.off rfl (nT g25)) rfl ?_
     refine na ?_
     refine o1 40 [] [39, 37, 36, 32, 38, 35, 33, 31, 19, 34, 30, 16, 18, 29, 15, 13, 17, 28, 26, 14, 10, 12, 27, 25, 9, 4, 11, 24, 8, 3, 2, 23, 21, 7, 1, 22, 20, 6, 0, 5] rfl (nT g25) ?_
     refine na ?_
     refine na ?_
     refine tf 41 (nT g25) ?_
     refine tf 42 (nT g25) ?_
     refine tk 43 rfl (Qt.pickT rfl g25) ?_
     refine na ?_
     refine nz ?_
     refine cd (fun c26 => ?_) fun c26 => ?_
     ·try simp only [cnd] at c26
      have hS := j.stop (by omega) (show (pipeP u) j.k = false by simp only [pipeP, rises, pipeOk]; grind only)
      refine sr ?_
      refine qr 2 ?_
      refine rb ?_
      simp only [thingsOk, opensOk_eq, pipesOk_eq, filesOk_eq]
      grind only
     try simp only [cnd] at c26
     refine jd (AW.region ?_)
     refine qm ?_
     refine ba ?_
     refine nm ?_
     refine qn ?_
     refine ⟨⟨j.k + 1, by omega, j.next (show (pipeP u) j.k = true by simp only [pipeP, rises, pipeOk]; grind only)⟩, Weak.sim ⟨st1, Rf rfl, ⟨rfl, rfl⟩, ⟨rfl, rfl⟩, ⟨rfl, rfl⟩, ⟨rfl, rfl⟩, ⟨rfl, rfl⟩, ⟨rfl, rfl⟩, ⟨rfl, rfl⟩, Rf rfl, Rf rfl, Rf rfl, Rf rfl, Rf rfl, Rf rfl, Rf rfl, rfl, trivial⟩ rfl rfl, ?_⟩
     show u.Pipes.length - (j.k + 1) < u.Pipes.length - j.k
     omega
    refine tg 33 rfl (nF g25) (Qt.loadG rfl rfl rfl ag31 sz31 (by decide)) ?_
    refine tg 34 rfl (nF g25) (fA fl153_0) ?_
    refine na ?_
    refine tg 35 rfl (nF g25) (Qt.load1 rfl rfl rfl ag3) ?_
    refine tg 37 rfl (nF g25) (Qt.loadG rfl rfl rfl ag31 sz31 (by decide)) ?_
    refine tg 38 rfl (nF g25) (fA fl153_0) ?_
    refine na ?_
    refine tg 39 rfl (nF g25) (Qt.load1 rfl rfl rfl ag3) ?_
    refine a1 36 [37, 38, 39] [35, 33, 32, 34, 31, 19, 30, 16, 18, 29, 15, 13, 17, 28, 26, 14, 10, 12, 27, 25, 9, 4, 11, 24, 8, 3, 2, 23, 21, 7, 1, 22, 20, 6, 0, 5] rfl (nF g25) (Stp.callV rfl (by decide) Tryz.call141 rfl rfl (l6Ends_con u _ _ hb)) ?_
    refine na ?_
    refine AWA.againE rfl rfl (by decide +kernel) (.on rfl (nF g25) (Qt.loadG rfl rfl rfl ag31 sz31 (by decide))) rfl ?_
    refine AWA.againE rfl rfl (by decide +kernel) (.on rfl (nF g25) (fA fl153_0)) rfl ?_
    refine AWA.againE rfl rfl (by decide +kernel) (.on rfl (nF g25) (Qt.load1 rfl rfl rfl ag3)) rfl ?_
    refine na ?_
    refine a1 40 [] [39, 37, 36, 32, 38, 35, 33, 31, 19, 34, 30, 16, 18, 29, 15, 13, 17, 28, 26, 14, 10, 12, 27, 25, 9, 4, 11, 24, 8, 3, 2, 23, 21, 7, 1, 22, 20, 6, 0, 5] rfl (nF g25) (Stp.callV rfl (by decide) Tryz.call141 rfl rfl (l6Ends_con u _ _ hb)) ?_
    refine na ?_
    refine na ?_
    refine tg 41 rfl (nF g25) (Qt.binOp rfl rfl (by first | exact pbAdd (by omega) | rfl)) ?_
    refine tg 42 rfl (nF g25) (Qt.binOp rfl rfl rfl) ?_
    refine tk 43 rfl (Qt.pickF rfl g25) ?_
    refine na ?_
    refine nz ?_
    refine cd (fun c27 => ?_) fun c27 => ?_
    ·try simp only [cnd] at c27
     have hS := j.stop (by omega) (show (pipeP u) j.k = false by simp only [pipeP, rises, pipeOk]; grind only)
     refine sr ?_
     refine qr 2 ?_
     refine rb ?_
     simp only [thingsOk, opensOk_eq, pipesOk_eq, filesOk_eq]
     grind only
    try simp only [cnd] at c27
    refine jd (AW.region ?_)
    refine qm ?_
    refine ba ?_
    refine nm ?_
    refine qn ?_
    refine ⟨⟨j.k + 1, by omega, j.next (show (pipeP u) j.k = true by simp only [pipeP, rises, pipeOk]; grind only)⟩, Weak.sim ⟨st1, Rf rfl, ⟨rfl, rfl⟩, ⟨rfl, rfl⟩, ⟨rfl, rfl⟩, ⟨rfl, rfl⟩, ⟨rfl, rfl⟩, ⟨rfl, rfl⟩, ⟨rfl, rfl⟩, Rf rfl, Rf rfl, Rf rfl, Rf rfl, Rf rfl, Rf rfl, Rf rfl, rfl, trivial⟩ rfl rfl, ?_⟩
    show u.Pipes.length - (j.k + 1) < u.Pipes.length - j.k
    omega
   refine tg 17 rfl (nF g24) Qt.move ?_
   refine tg 18 rfl (nF g24) (Qt.binOp rfl rfl rfl) ?_
   refine na ?_
   refine tg 19 rfl (nF g24) Qt.move ?_
   refine AWA.split 90 rfl (fun g28 => ?_) (fun g28 => ?_)
   ·refine tg 20 rfl g28 (fA fl31_5) ?_
    refine tg 21 rfl g28 (Qt.load1 rfl rfl rfl ag27) ?_
    refine na ?_
    refine tg 22 rfl g28 Qt.move ?_
    refine tg 23 rfl g28 (Qt.binOp rfl rfl (by first | exact pbSub (by omega) | rfl)) ?_
    refine tg 24 rfl g28 (ix sl27 sz153) ?_
    refine na ?_
    refine tg 25 rfl g28 (fA fl153_0) ?_
    refine tg 26 rfl g28 (Qt.load1 rfl rfl rfl ag3) ?_
    refine tg 27 rfl g28 (fA fl153_0) ?_
    refine na ?_
    refine tg 28 rfl g28 (Qt.load1 rfl rfl rfl ag3) ?_
    refine tg 29 rfl g28 (Qt.binOp rfl rfl rfl) ?_
    refine tg 30 rfl (nF g24) (Qt.pickT rfl g28) ?_
    refine na ?_
    refine tk 31 rfl (Qt.pickF rfl g24) ?_
    refine tk 32 rfl Qt.move ?_
    refine AWA.split 103 rfl (fun g29 => ?_) (fun g29 => ?_)
    ·refine tf 33 (nT g29) ?_
     refine na ?_
     refine tf 34 (nT g29) ?_
     refine tf 35 (nT g29) ?_
     refine tf 37 (nT g29) ?_
     refine na ?_
     refine tf 38 (nT g29) ?_
     refine tf 39 (nT g29) ?_
     refine o1 36 [37, 38, 39] [35, 33, 32, 34, 31, 19, 30, 16, 18, 29, 15, 13, 17, 28, 26, 14, 10, 12, 27, 25, 9, 4, 11, 24, 8, 3, 2, 23, 21, 7, 1, 22, 20, 6, 0, 5] rfl (nT g29) ?_
     refine na ?_
     refine AWA.againE rfl rfl (by decide +kernel) (.off rfl (nT g29)) rfl ?_
     refine AWA.againE rfl rfl (by decide +kernel) (.off rfl (nT g29)) rfl ?_
     refine AWA.againE rfl rfl (by decide +kernel) (.off rfl (nT g29)) rfl ?_
     refine na ?_
     refine o1 40 [] [39, 37, 36, 32, 38, 35, 33, 31, 19, 34, 30, 16, 18, 29, 15, 13, 17, 28, 26, 14, 10, 12, 27, 25, 9, 4, 11, 24, 8, 3, 2, 23, 21, 7, 1, 22, 20, 6, 0, 5] rfl (nT g29) ?_
     refine na ?_
     refine na ?_
     refine tf 41 (nT g29) ?_
     refine tf 42 (nT g29) ?_
     refine tk 43 rfl (Qt.pickT rfl g29) ?_
     refine na ?_
     refine nz ?_
     refine cd (fun c30 => ?_) fun c30 => ?_
     ·try simp only [cnd] at c30
      have hS := j.stop (by omega) (show (pipeP u) j.k = false by simp only [pipeP, rises, pipeOk]; grind only)
      refine sr ?_
      refine qr 2 ?_
      refine rb ?_
      simp only [thingsOk, opensOk_eq, pipesOk_eq, filesOk_eq]
      grind only
     try simp only [cnd] at c30
     refine jd (AW.region ?_)
     refine qm ?_
     refine ba ?_
     refine nm ?_
     refine qn ?_
     refine ⟨⟨j.k + 1, by omega, j.next (show (pipeP u) j.k = true by simp only [pipeP, rises, pipeOk]; grind only)⟩, Weak.sim ⟨st1, Rf rfl, ⟨rfl, rfl⟩, ⟨rfl, rfl⟩, ⟨rfl, rfl⟩, ⟨rfl, rfl⟩, ⟨rfl, rfl⟩, ⟨rfl, rfl⟩, ⟨rfl, rfl⟩, Rf rfl, Rf rfl, Rf rfl, Rf rfl, Rf rfl, Rf rfl, Rf rfl, rfl, trivial⟩ rfl rfl, ?_⟩
     show u.Pipes.length - (j.k + 1) < u.Pipes.length - j.k
     omega
    refine tg 33 rfl (nF g29) (Qt.loadG rfl rfl rfl ag31 sz31 (by decide)) ?_
    refine tg 34 rfl (nF g29) (fA fl153_0) ?_
    refine na ?_
    refine tg 35 rfl (nF g29) (Qt.load1 rfl rfl rfl ag3) ?_
    refine tg 37 rfl (nF g29) (Qt.loadG rfl rfl rfl ag31 sz31 (by decide)) ?_
    refine tg 38 rfl (nF g29) (fA fl153_0) ?_
    refine na ?_
    refine tg 39 rfl (nF g29) (Qt.load1 rfl rfl rfl ag3) ?_
    refine a1 36 [37, 38, 39] [35, 33, 32, 34, 31, 19, 30, 16, 18, 29, 15, 13, 17, 28, 26, 14, 10, 12, 27, 25, 9, 4, 11, 24, 8, 3, 2, 23, 21, 7, 1, 22, 20, 6, 0, 5] rfl (nF g29) (Stp.callV rfl (by decide) Tryz.call141 rfl rfl (l6Ends_con u _ _ hb)) ?_
    refine na ?_
    refine AWA.againE rfl rfl (by decide +kernel) (.on rfl (nF g29) (Qt.loadG rfl rfl rfl ag31 sz31 (by decide))) rfl ?_
    refine AWA.againE rfl rfl (by decide +kernel) (.on rfl (nF g29) (fA fl153_0)) rfl ?_
    refine AWA.againE rfl rfl (by decide +kernel) (.on rfl (nF g29) (Qt.load1 rfl rfl rfl ag3)) rfl ?_
    refine na ?_
    refine a1 40 [] [39, 37, 36, 32, 38, 35, 33, 31, 19, 34, 30, 16, 18, 29, 15, 13, 17, 28, 26, 14, 10, 12, 27, 25, 9, 4, 11, 24, 8, 3, 2, 23, 21, 7, 1, 22, 20, 6, 0, 5] rfl (nF g29) (Stp.callV rfl (by decide) Tryz.call141 rfl rfl (l6Ends_con u _ _ hb)) ?_
    refine na ?_
    refine na ?_
    refine tg 41 rfl (nF g29) (Qt.binOp rfl rfl (by first | exact pbAdd (by omega) | rfl)) ?_
    refine tg 42 rfl (nF g29) (Qt.binOp rfl rfl rfl) ?_
    refine tk 43 rfl (Qt.pickF rfl g29) ?_
    refine na ?_
    refine nz ?_
    refine cd (fun c31 => ?_) fun c31 => ?_
    ·try simp only [cnd] at c31
     have hS := j.stop (by omega) (show (pipeP u) j.k = false by simp only [pipeP, rises, pipeOk]; grind only)
     refine sr ?_
     refine qr 2 ?_
     refine rb ?_
     simp only [thingsOk, opensOk_eq, pipesOk_eq, filesOk_eq]
     grind only
    try simp only [cnd] at c31
    refine jd (AW.region ?_)
    refine qm ?_
    refine ba ?_
    refine nm ?_
    refine qn ?_
    refine ⟨⟨j.k + 1, by omega, j.next (show (pipeP u) j.k = true by simp only [pipeP, rises, pipeOk]; grind only)⟩, Weak.sim ⟨st1, Rf rfl, ⟨rfl, rfl⟩, ⟨rfl, rfl⟩, ⟨rfl, rfl⟩, ⟨rfl, rfl⟩, ⟨rfl, rfl⟩, ⟨rfl, rfl⟩, ⟨rfl, rfl⟩, Rf rfl, Rf rfl, Rf rfl, Rf rfl, Rf rfl, Rf rfl, Rf rfl, rfl, trivial⟩ rfl rfl, ?_⟩
    show u.Pipes.length - (j.k + 1) < u.Pipes.length - j.k
    omega
   refine tf 20 g28 ?_
   refine tf 21 g28 ?_
   refine na ?_
   refine tf 22 g28 ?_
   refine tf 23 g28 ?_
   refine tf 24 g28 ?_
   refine na ?_
   refine tf 25 g28 ?_
   refine tf 26 g28 ?_
   refine tf 27 g28 ?_
   refine na ?_
   refine tf 28 g28 ?_
   refine tf 29 g28 ?_
   refine tg 30 rfl (nF g24) (Qt.pickF rfl g28) ?_
   refine na ?_
   refine tk 31 rfl (Qt.pickF rfl g24) ?_
   refine tk 32 rfl Qt.move ?_
   refine AWA.split 103 rfl (fun g32 => ?_) (fun g32 => ?_)
   ·refine tf 33 (nT g32) ?_
    refine na ?_
    refine tf 34 (nT g32) ?_
    refine tf 35 (nT g32) ?_
    refine tf 37 (nT g32) ?_
    refine na ?_
    refine tf 38 (nT g32) ?_
    refine tf 39 (nT g32) ?_
    refine o1 36 [37, 38, 39] [35, 33, 32, 34, 31, 19, 30, 16, 18, 29, 15, 13, 17, 28, 26, 14, 10, 12, 27, 25, 9, 4, 11, 24, 8, 3, 2, 23, 21, 7, 1, 22, 20, 6, 0, 5] rfl (nT g32) ?_
    refine na ?_
    refine AWA.againE rfl rfl (by decide +kernel) (.off rfl (nT g32)) rfl ?_
    refine AWA.againE rfl rfl (by decide +kernel) (.off rfl (nT g32)) rfl ?_
    refine AWA.againE rfl rfl (by decide +kernel) (.off rfl (nT g32)) rfl ?_
    refine na ?_
    refine o1 40 [] [39, 37, 36, 32, 38, 35, 33, 31, 19, 34, 30, 16, 18, 29, 15, 13, 17, 28, 26, 14, 10, 12, 27, 25, 9, 4, 11, 24, 8, 3, 2, 23, 21, 7, 1, 22, 20, 6, 0, 5] rfl (nT g32) ?_
    refine na ?_
    refine na ?_
    refine tf 41 (nT g32) ?_
    refine tf 42 (nT g32) ?_
    refine tk 43 rfl (Qt.pickT rfl g32) ?_
    refine na ?_
    refine nz ?_
    refine cd (fun c33 => ?_) fun c33 => ?_
    ·try simp only [cnd] at c33
     have hS := j.stop (by omega) (show (pipeP u) j.k = false by simp only [pipeP, rises, pipeOk]; grind only)
     refine sr ?_
     refine qr 2 ?_
     refine rb ?_
     simp only [thingsOk, opensOk_eq, pipesOk_eq, filesOk_eq]
     grind only
    try simp only [cnd] at c33
    refine jd (AW.region ?_)
    refine qm ?_
    refine ba ?_
    refine nm ?_
    refine qn ?_
    refine ⟨⟨j.k + 1, by omega, j.next (show (pipeP u) j.k = true by simp only [pipeP, rises, pipeOk]; grind only)⟩, Weak.sim ⟨st1, Rf rfl, ⟨rfl, rfl⟩, ⟨rfl, rfl⟩, ⟨rfl, rfl⟩, ⟨rfl, rfl⟩, ⟨rfl, rfl⟩, ⟨rfl, rfl⟩, ⟨rfl, rfl⟩, Rf rfl, Rf rfl, Rf rfl, Rf rfl, Rf rfl, Rf rfl, Rf rfl, rfl, trivial⟩ rfl rfl, ?_⟩
    show u.Pipes.length - (j.k + 1) < u.Pipes.length - j.k
    omega
   refine tg 33 rfl (nF g32) (Qt.loadG rfl rfl rfl ag31 sz31 (by decide)) ?_
   refine tg 34 rfl (nF g32) (fA fl153_0) ?_
   refine na ?_
   refine tg 35 rfl (nF g32) (Qt.load1 rfl rfl rfl ag3) ?_
   refine tg 37 rfl (nF g32) (Qt.loadG rfl rfl rfl ag31 sz31 (by decide)) ?_
   refine tg 38 rfl (nF g32) (fA fl153_0) ?_
   refine na ?_
   refine tg 39 rfl (nF g32) (Qt.load1 rfl rfl rfl ag3) ?_
   refine a1 36 [37, 38, 39] [35, 33, 32, 34, 31, 19, 30, 16, 18, 29, 15, 13, 17, 28, 26, 14, 10, 12, 27, 25, 9, 4, 11, 24, 8, 3, 2, 23, 21, 7, 1, 22, 20, 6, 0, 5] rfl (nF g32) (Stp.callV rfl (by decide) Tryz.call141 rfl rfl (l6Ends_con u _ _ hb)) ?_
   refine na ?_
   refine AWA.againE rfl rfl (by decide +kernel) (.on rfl (nF g32) (Qt.loadG rfl rfl rfl ag31 sz31 (by decide))) rfl ?_
   refine AWA.againE rfl rfl (by decide +kernel) (.on rfl (nF g32) (fA fl153_0)) rfl ?_
   refine AWA.againE rfl rfl (by decide +kernel) (.on rfl (nF g32) (Qt.load1 rfl rfl rfl ag3)) rfl ?_
   refine na ?_
   refine a1 40 [] [39, 37, 36, 32, 38, 35, 33, 31, 19, 34, 30, 16, 18, 29, 15, 13, 17, 28, 26, 14, 10, 12, 27, 25, 9, 4, 11, 24, 8, 3, 2, 23, 21, 7, 1, 22, 20, 6, 0, 5] rfl (nF g32) (Stp.callV rfl (by decide) Tryz.call141 rfl rfl (l6Ends_con u _ _ hb)) ?_
   refine na ?_
   refine na ?_
   refine tg 41 rfl (nF g32) (Qt.binOp rfl rfl (by first | exact pbAdd (by omega) | rfl)) ?_
   refine tg 42 rfl (nF g32) (Qt.binOp rfl rfl rfl) ?_
   refine tk 43 rfl (Qt.pickF rfl g32) ?_
   refine na ?_
   refine nz ?_
   refine cd (fun c34 => ?_) fun c34 => ?_
   ·try simp only [cnd] at c34
    have hS := j.stop (by omega) (show (pipeP u) j.k = false by simp only [pipeP, rises, pipeOk]; grind only)
    refine sr ?_
    refine qr 2 ?_
    refine rb ?_
    simp only [thingsOk, opensOk_eq, pipesOk_eq, filesOk_eq]
    grind only
   try simp only [cnd] at c34
   refine jd (AW.region ?_)
   refine qm ?_
   refine ba ?_
   refine nm ?_
   refine qn ?_
   refine ⟨⟨j.k + 1, by omega, j.next (show (pipeP u) j.k = true by simp only [pipeP, rises, pipeOk]; grind only)⟩, Weak.sim ⟨st1, Rf rfl, ⟨rfl, rfl⟩, ⟨rfl, rfl⟩, ⟨rfl, rfl⟩, ⟨rfl, rfl⟩, ⟨rfl, rfl⟩, ⟨rfl, rfl⟩, ⟨rfl, rfl⟩, Rf rfl, Rf rfl, Rf rfl, Rf rfl, Rf rfl, Rf rfl, Rf rfl, rfl, trivial⟩ rfl rfl, ?_⟩
   show u.Pipes.length - (j.k + 1) < u.Pipes.length - j.k
   omega
  refine tg 5 rfl (nF g11) (fA fl153_1) ?_
  refine tg 6 rfl (nF g11) (Qt.load1 rfl rfl rfl ag29) ?_
  refine na ?_
  refine tg 7 rfl (nF g11) (Qt.lenH rfl rfl rfl sl29) ?_
  refine tg 8 rfl (nF g11) (Qt.binOp rfl rfl rfl) ?_
  refine tk 9 rfl (Qt.pickF rfl g11) ?_
  refine na ?_
  refine tk 10 rfl Qt.move ?_
  refine AWA.split 81 rfl (fun g35 => ?_) (fun g35 => ?_)
  ·refine tf 11 (nT g35) ?_
   refine tf 12 (nT g35) ?_
   refine na ?_
   refine o1 13 [] [12, 10, 11, 9, 4, 8, 3, 2, 7, 1, 6, 0, 5] rfl (nT g35) ?_
   refine na ?_
   refine na ?_
   refine tf 14 (nT g35) ?_
   refine tk 15 rfl (Qt.pickT rfl g35) ?_
   refine tk 16 rfl Qt.move ?_
   refine na ?_
   refine AWA.split 87 rfl (fun g36 => ?_) (fun g36 => ?_)
   ·refine tf 17 (nT g36) ?_
    refine tf 18 (nT g36) ?_
    refine tf 19 (nT g36) ?_
    refine na ?_
    refine tf 20 rfl ?_
    refine tf 21 rfl ?_
    refine tf 22 rfl ?_
    refine na ?_
    refine tf 23 rfl ?_
    refine tf 24 rfl ?_
    refine tf 25 rfl ?_
    refine na ?_
    refine tf 26 rfl ?_
    refine tf 27 rfl ?_
    refine tf 28 rfl ?_
    refine na ?_
    refine tf 29 rfl ?_
    refine tf 30 (nT g36) ?_
    refine tk 31 rfl (Qt.pickT rfl g36) ?_
    refine na ?_
    refine tk 32 rfl Qt.move ?_
    refine AWA.split 103 rfl (fun g37 => ?_) (fun g37 => ?_)
    ·refine tf 33 (nT g37) ?_
     refine tf 34 (nT g37) ?_
     refine na ?_
     refine tf 35 (nT g37) ?_
     refine tf 37 (nT g37) ?_
     refine tf 38 (nT g37) ?_
     refine na ?_
     refine tf 39 (nT g37) ?_
     refine o1 36 [37, 38, 39] [35, 33, 32, 34, 31, 19, 30, 16, 18, 29, 15, 13, 17, 28, 26, 14, 10, 12, 27, 25, 9, 4, 11, 24, 8, 3, 2, 23, 21, 7, 1, 22, 20, 6, 0, 5] rfl (nT g37) ?_
     refine na ?_
     refine AWA.againE rfl rfl (by decide +kernel) (.off rfl (nT g37)) rfl ?_
     refine AWA.againE rfl rfl (by decide +kernel) (.off rfl (nT g37)) rfl ?_
     refine AWA.againE rfl rfl (by decide +kernel) (.off rfl (nT g37)) rfl ?_
     refine na ?_
     refine o1 40 [] [39, 37, 36, 32, 38, 35, 33, 31, 19, 34, 30, 16, 18, 29, 15, 13, 17, 28, 26, 14, 10, 12, 27, 25, 9, 4, 11, 24, 8, 3, 2, 23, 21, 7, 1, 22, 20, 6, 0, 5] rfl (nT g37) ?_
     refine na ?_
     refine na ?_
     refine tf 41 (nT g37) ?_
     refine tf 42 (nT g37) ?_
     refine tk 43 rfl (Qt.pickT rfl g37) ?_
     refine na ?_
     refine nz ?_
     refine cd (fun c38 => ?_) fun c38 => ?_
     ·try simp only [cnd] at c38
      have hS := j.stop (by omega) (show (pipeP u) j.k = false by simp only [pipeP, rises, pipeOk]; grind only)
      refine sr ?_
      refine qr 2 ?_
      refine rb ?_
      simp only [thingsOk, opensOk_eq, pipesOk_eq, filesOk_eq]
      grind only
     try simp only [cnd] at c38
     refine jd (AW.region ?_)
     refine qm ?_
     refine ba ?_
     refine nm ?_
     refine qn ?_
     refine ⟨⟨j.k + 1, by omega, j.next (show (pipeP u) j.k = true by simp only [pipeP, rises, pipeOk]; grind only)⟩, Weak.sim ⟨st1, Rf rfl, ⟨rfl, rfl⟩, ⟨rfl, rfl⟩, ⟨rfl, rfl⟩, ⟨rfl, rfl⟩, ⟨rfl, rfl⟩, ⟨rfl, rfl⟩, ⟨rfl, rfl⟩, Rf rfl, Rf rfl, Rf rfl, Rf rfl, Rf rfl, Rf rfl, Rf rfl, rfl, trivial⟩ rfl rfl, ?_⟩
     show u.Pipes.length - (j.k + 1) < u.Pipes.length - j.k
     omega
    refine tg 33 rfl (nF g37) (Qt.loadG rfl rfl rfl ag31 sz31 (by decide)) ?_
    refine tg 34 rfl (nF g37) (fA fl153_0) ?_
    refine na ?_
    refine tg 35 rfl (nF g37) (Qt.load1 rfl rfl rfl ag3) ?_
    refine tg 37 rfl (nF g37) (Qt.loadG rfl rfl rfl ag31 sz31 (by decide)) ?_
    refine tg 38 rfl (nF g37) (fA fl153_0) ?_
    refine na ?_
    refine tg 39 rfl (nF g37) (Qt.load1 rfl rfl rfl ag3) ?_
    refine a1 36 [37, 38, 39] [35, 33, 32, 34, 31, 19, 30, 16, 18, 29, 15, 13, 17, 28, 26, 14, 10, 12, 27, 25, 9, 4, 11, 24, 8, 3, 2, 23, 21, 7, 1, 22, 20, 6, 0, 5] rfl (nF g37) (Stp.callV rfl (by decide) Tryz.call141 rfl rfl (l6Ends_con u _ _ hb)) ?_
    refine na ?_
    refine AWA.againE rfl rfl (by decide +kernel) (.on rfl (nF g37) (Qt.loadG rfl rfl rfl ag31 sz31 (by decide))) rfl ?_
    refine AWA.againE rfl rfl (by decide +kernel) (.on rfl (nF g37) (fA fl153_0)) rfl ?_
    refine AWA.againE rfl rfl (by decide +kernel) (.on rfl (nF g37) (Qt.load1 rfl rfl rfl ag3)) rfl ?_
    refine na ?_
    refine a1 40 [] [39, 37, 36, 32, 38, 35, 33, 31, 19, 34, 30, 16, 18, 29, 15, 13, 17, 28, 26, 14, 10, 12, 27, 25, 9, 4, 11, 24, 8, 3, 2, 23, 21, 7, 1, 22, 20, 6, 0, 5] rfl (nF g37) (Stp.callV rfl (by decide) Tryz.call141 rfl rfl (l6Ends_con u _ _ hb)) ?_
    refine na ?_
    refine na ?_
    refine tg 41 rfl (nF g37) (Qt.binOp rfl rfl (by first | exact pbAdd (by omega) | rfl)) ?_
    refine tg 42 rfl (nF g37) (Qt.binOp rfl rfl rfl) ?_
    refine tk 43 rfl (Qt.pickF rfl g37) ?_
    refine na ?_
    refine nz ?_
    refine cd (fun c39 => ?_) fun c39 => ?_
    ·try simp only [cnd] at c39
     have hS := j.stop (by omega) (show (pipeP u) j.k = false by simp only [pipeP, rises, pipeOk]; grind only)
     refine sr ?_
     refine qr 2 ?_
     refine rb ?_
     simp only [thingsOk, opensOk_eq, pipesOk_eq, filesOk_eq]
     grind only
    try simp only [cnd] at c39
    refine jd (AW.region ?_)
    refine qm ?_
    refine ba ?_
    refine nm ?_
    refine qn ?_
    refine ⟨⟨j.k + 1, by omega, j.next (show (pipeP u) j.k = true by simp only [pipeP, rises, pipeOk]; grind only)⟩, Weak.sim ⟨st1, Rf rfl, ⟨rfl, rfl⟩, ⟨rfl, rfl⟩, ⟨rfl, rfl⟩, ⟨rfl, rfl⟩, ⟨rfl, rfl⟩, ⟨rfl, rfl⟩, ⟨rfl, rfl⟩, Rf rfl, Rf rfl, Rf rfl, Rf rfl, Rf rfl, Rf rfl, Rf rfl, rfl, trivial⟩ rfl rfl, ?_⟩
    show u.Pipes.length - (j.k + 1) < u.Pipes.length - j.k
    omega
   refine tg 17 rfl (nF g36) Qt.move ?_
   refine tg 18 rfl (nF g36) (Qt.binOp rfl rfl rfl) ?_
   refine na ?_
   refine tg 19 rfl (nF g36) Qt.move ?_
   refine AWA.split 90 rfl (fun g40 => ?_) (fun g40 => ?_)
   ·refine tg 20 rfl g40 (fA fl31_5) ?_
    refine tg 21 rfl g40 (Qt.load1 rfl rfl rfl ag27) ?_
    refine na ?_
    refine tg 22 rfl g40 Qt.move ?_
    refine tg 23 rfl g40 (Qt.binOp rfl rfl (by first | exact pbSub (by omega) | rfl)) ?_
    refine tg 24 rfl g40 (ix sl27 sz153) ?_
    refine na ?_
    refine tg 25 rfl g40 (fA fl153_0) ?_
    refine tg 26 rfl g40 (Qt.load1 rfl rfl rfl ag3) ?_
    refine tg 27 rfl g40 (fA fl153_0) ?_
    refine na ?_
    refine tg 28 rfl g40 (Qt.load1 rfl rfl rfl ag3) ?_
    refine tg 29 rfl g40 (Qt.binOp rfl rfl rfl) ?_
    refine tg 30 rfl (nF g36) (Qt.pickT rfl g40) ?_
    refine na ?_
    refine tk 31 rfl (Qt.pickF rfl g36) ?_
    refine tk 32 rfl Qt.move ?_
    refine AWA.split 103 rfl (fun g41 => ?_) (fun g41 => ?_)
    ·refine tf 33 (nT g41) ?_
     refine na ?_
     refine tf 34 (nT g41) ?_
     refine tf 35 (nT g41) ?_
     refine tf 37 (nT g41) ?_
     refine na ?_
     refine tf 38 (nT g41) ?_
     refine tf 39 (nT g41) ?_
     refine o1 36 [37, 38, 39] [35, 33, 32, 34, 31, 19, 30, 16, 18, 29, 15, 13, 17, 28, 26, 14, 10, 12, 27, 25, 9, 4, 11, 24, 8, 3, 2, 23, 21, 7, 1, 22, 20, 6, 0, 5] rfl (nT g41) ?_
     refine na ?_
     refine AWA.againE rfl rfl (by decide +kernel) (.off rfl (nT g41)) rfl ?_
     refine AWA.againE rfl rfl (by decide +kernel) (.off rfl (nT g41)) rfl ?_
     refine AWA.againE rfl rfl (by decide +kernel) (.off rfl (nT g41)) rfl ?_
     refine na ?_
     refine o1 40 [] [39, 37, 36, 32, 38, 35, 33, 31, 19, 34, 30, 16, 18, 29, 15, 13, 17, 28, 26, 14, 10, 12, 27, 25, 9, 4, 11, 24, 8, 3, 2, 23, 21, 7, 1, 22, 20, 6, 0, 5] rfl (nT g41) ?_
     refine na ?_
     refine na ?_
     refine tf 41 (nT g41) ?_
     refine tf 42 (nT g41) ?_
     refine tk 43 rfl (Qt.pickT rfl g41) ?_
     refine na ?_
     refine nz ?_
     refine cd (fun c42 => ?_) fun c42 => ?_
     ·try simp only [cnd] at c42
      have hS := j.stop (by omega) (show (pipeP u) j.k = false by simp only [pipeP, rises, pipeOk]; grind only)
      refine sr ?_
      refine qr 2 ?_
      refine rb ?_
      simp only [thingsOk, opensOk_eq, pipesOk_eq, filesOk_eq]
      grind only
     try simp only [cnd] at c42
     refine jd (AW.region ?_)
     refine qm ?_
     refine ba ?_
     refine nm ?_
     refine qn ?_
     refine ⟨⟨j.k + 1, by omega, j.next (show (pipeP u) j.k = true by simp only [pipeP, rises, pipeOk]; grind only)⟩, Weak.sim ⟨st1, Rf rfl, ⟨rfl, rfl⟩, ⟨rfl, rfl⟩, ⟨rfl, rfl⟩, ⟨rfl, rfl⟩, ⟨rfl, rfl⟩, ⟨rfl, rfl⟩, ⟨rfl, rfl⟩, Rf rfl, Rf rfl, Rf rfl, Rf rfl, Rf rfl, Rf rfl, Rf rfl, rfl, trivial⟩ rfl rfl, ?_⟩
     show u.Pipes.length - (j.k + 1) < u.Pipes.length - j.k
     omega
    refine tg 33 rfl (nF g41) (Qt.loadG rfl rfl rfl ag31 sz31 (by decide)) ?_
    refine tg 34 rfl (nF g41) (fA fl153_0) ?_
    refine na ?_
    refine tg 35 rfl (nF g41) (Qt.load1 rfl rfl rfl ag3) ?_
    refine tg 37 rfl (nF g41) (Qt.loadG rfl rfl rfl ag31 sz31 (by decide)) ?_
    refine tg 38 rfl (nF g41) (fA fl153_0) ?_
    refine na ?_
    refine tg 39 rfl (nF g41) (Qt.load1 rfl rfl rfl ag3) ?_
    refine a1 36 [37, 38, 39] [35, 33, 32, 34, 31, 19, 30, 16, 18, 29, 15, 13, 17, 28, 26, 14, 10, 12, 27, 25, 9, 4, 11, 24, 8, 3, 2, 23, 21, 7, 1, 22, 20, 6, 0, 5] rfl (nF g41) (Stp.callV rfl (by decide) Tryz.call141 rfl rfl (l6Ends_con u _ _ hb)) ?_
    refine na ?_
    refine AWA.againE rfl rfl (by decide +kernel) (.on rfl (nF g41) (Qt.loadG rfl rfl rfl ag31 sz31 (by decide))) rfl ?_
    refine AWA.againE rfl rfl (by decide +kernel) (.on rfl (nF g41) (fA fl153_0)) rfl ?_
    refine AWA.againE rfl rfl (by decide +kernel) (.on rfl (nF g41) (Qt.load1 rfl rfl rfl ag3)) rfl ?_
    refine na ?_
    refine a1 40 [] [39, 37, 36, 32, 38, 35, 33, 31, 19, 34, 30, 16, 18, 29, 15, 13, 17, 28, 26, 14, 10, 12, 27, 25, 9, 4, 11, 24, 8, 3, 2, 23, 21, 7, 1, 22, 20, 6, 0, 5] rfl (nF g41) (Stp.callV rfl (by decide) Tryz.call141 rfl rfl (l6Ends_con u _ _ hb)) ?_
    refine na ?_
    refine na ?_
    refine tg 41 rfl (nF g41) (Qt.binOp rfl rfl (by first | exact pbAdd (by omega) | rfl)) ?_
    refine tg 42 rfl (nF g41) (Qt.binOp rfl rfl rfl) ?_
    refine tk 43 rfl (Qt.pickF rfl g41) ?_
    refine na ?_
    refine nz ?_
    refine cd (fun c43 => ?_) fun c43 => ?_
    ·try simp only [cnd] at c43
     have hS := j.stop (by omega) (show (pipeP u) j.k = false by simp only [pipeP, rises, pipeOk]; grind only)
     refine sr ?_
     refine qr 2 ?_
     refine rb ?_
     simp only [thingsOk, opensOk_eq, pipesOk_eq, filesOk_eq]
     grind only
    try simp only [cnd] at c43
    refine jd (AW.region ?_)
    refine qm ?_
    refine ba ?_
    refine nm ?_
    refine qn ?_
    refine ⟨⟨j.k + 1, by omega, j.next (show (pipeP u) j.k = true by simp only [pipeP, rises, pipeOk]; grind only)⟩, Weak.sim ⟨st1, Rf rfl, ⟨rfl, rfl⟩, ⟨rfl, rfl⟩, ⟨rfl, rfl⟩, ⟨rfl, rfl⟩, ⟨rfl, rfl⟩, ⟨rfl, rfl⟩, ⟨rfl, rfl⟩, Rf rfl, Rf rfl, Rf rfl, Rf rfl, Rf rfl, Rf rfl, Rf rfl, rfl, trivial⟩ rfl rfl, ?_⟩
    show u.Pipes.length - (j.k + 1) < u.Pipes.length - j.k
    omega
   refine tf 20 g40 ?_
   refine tf 21 g40 ?_
   refine na ?_
   refine tf 22 g40 ?_
   refine tf 23 g40 ?_
   refine tf 24 g40 ?_
   refine na ?_
   refine tf 25 g40 ?_
   refine tf 26 g40 ?_
   refine tf 27 g40 ?_
   refine na ?_
   refine tf 28 g40 ?_
   refine tf 29 g40 ?_
   refine tg 30 rfl (nF g36) (Qt.pickF rfl g40) ?_
   refine na ?_
   refine tk 31 rfl (Qt.pickF rfl g36) ?_
   refine tk 32 rfl Qt.move ?_
   refine AWA.split 103 rfl (fun g44 => ?_) (fun g44 => ?_)
   ·refine tf 33 (nT g44) ?_
    refine na ?_
    refine tf 34 (nT g44) ?_
    refine tf 35 (nT g44) ?_
    refine tf 37 (nT g44) ?_
    refine na ?_
    refine tf 38 (nT g44) ?_
    refine tf 39 (nT g44) ?_
    refine o1 36 [37, 38, 39] [35, 33, 32, 34, 31, 19, 30, 16, 18, 29, 15, 13, 17, 28, 26, 14, 10, 12, 27, 25, 9, 4, 11, 24, 8, 3, 2, 23, 21, 7, 1, 22, 20, 6, 0, 5] rfl (nT g44) ?_
    refine na ?_
    refine AWA.againE rfl rfl (by decide +kernel) (.off rfl (nT g44)) rfl ?_
    refine AWA.againE rfl rfl (by decide +kernel) (.off rfl (nT g44)) rfl ?_
    refine AWA.againE rfl rfl (by decide +kernel) (.off rfl (nT g44)) rfl ?_
    refine na ?_
    refine o1 40 [] [39, 37, 36, 32, 38, 35, 33, 31, 19, 34, 30, 16, 18, 29, 15, 13, 17, 28, 26, 14, 10, 12, 27, 25, 9, 4, 11, 24, 8, 3, 2, 23, 21, 7, 1, 22, 20, 6, 0, 5] rfl (nT g44) ?_
    refine na ?_
    refine na ?_
    refine tf 41 (nT g44) ?_
    refine tf 42 (nT g44) ?_
    refine tk 43 rfl (Qt.pickT rfl g44) ?_
    refine na ?_
    refine nz ?_
    refine cd (fun c45 => ?_) fun c45 => ?_
    ·try simp only [cnd] at c45
     have hS := j.stop (by omega) (show (pipeP u) j.k = false by simp only [pipeP, rises, pipeOk]; grind only)
     refine sr ?_
     refine qr 2 ?_
     refine rb ?_
     simp only [thingsOk, opensOk_eq, pipesOk_eq, filesOk_eq]
     grind only
    try simp only [cnd] at c45
    refine jd (AW.region ?_)
    refine qm ?_
    refine ba ?_
    refine nm ?_
    refine qn ?_
    refine ⟨⟨j.k + 1, by omega, j.next (show (pipeP u) j.k = true by simp only [pipeP, rises, pipeOk]; grind only)⟩, Weak.sim ⟨st1, Rf rfl, ⟨rfl, rfl⟩, ⟨rfl, rfl⟩, ⟨rfl, rfl⟩, ⟨rfl, rfl⟩, ⟨rfl, rfl⟩, ⟨rfl, rfl⟩, ⟨rfl, rfl⟩, Rf rfl, Rf rfl, Rf rfl, Rf rfl, Rf rfl, Rf rfl, Rf rfl, rfl, trivial⟩ rfl rfl, ?_⟩
    show u.Pipes.length - (j.k + 1) < u.Pipes.length - j.k
    omega
   refine tg 33 rfl (nF g44) (Qt.loadG rfl rfl rfl ag31 sz31 (by decide)) ?_
   refine tg 34 rfl (nF g44) (fA fl153_0) ?_
   refine na ?_
   refine tg 35 rfl (nF g44) (Qt.load1 rfl rfl rfl ag3) ?_
   refine tg 37 rfl (nF g44) (Qt.loadG rfl rfl rfl ag31 sz31 (by decide)) ?_
   refine tg 38 rfl (nF g44) (fA fl153_0) ?_
   refine na ?_
   refine tg 39 rfl (nF g44) (Qt.load1 rfl rfl rfl ag3) ?_
   refine a1 36 [37, 38, 39] [35, 33, 32, 34, 31, 19, 30, 16, 18, 29, 15, 13, 17, 28, 26, 14, 10, 12, 27, 25, 9, 4, 11, 24, 8, 3, 2, 23, 21, 7, 1, 22, 20, 6, 0, 5] rfl (nF g44) (Stp.callV rfl (by decide) Tryz.call141 rfl rfl (l6Ends_con u _ _ hb)) ?_
   refine na ?_
   refine AWA.againE rfl rfl (by decide +kernel) (.on rfl (nF g44) (Qt.loadG rfl rfl rfl ag31 sz31 (by decide))) rfl ?_
   refine AWA.againE rfl rfl (by decide +kernel) (.on rfl (nF g44) (fA fl153_0)) rfl ?_
   refine AWA.againE rfl rfl (by decide +kernel) (.on rfl (nF g44) (Qt.load1 rfl rfl rfl ag3)) rfl ?_
   refine na ?_
   refine a1 40 [] [39, 37, 36, 32, 38, 35, 33, 31, 19, 34, 30, 16, 18, 29, 15, 13, 17, 28, 26, 14, 10, 12, 27, 25, 9, 4, 11, 24, 8, 3, 2, 23, 21, 7, 1, 22, 20, 6, 0, 5] rfl (nF g44) (Stp.callV rfl (by decide) Tryz.call141 rfl rfl (l6Ends_con u _ _ hb)) ?_
   refine na ?_
   refine na ?_
   refine tg 41 rfl (nF g44) (Qt.binOp rfl rfl (by first | exact pbAdd (by omega) | rfl)) ?_
   refine tg 42 rfl (nF g44) (Qt.binOp rfl rfl rfl) ?_
   refine tk 43 rfl (Qt.pickF rfl g44) ?_
   refine na ?_
   refine nz ?_
   refine cd (fun c46 => ?_) fun c46 => ?_
   ·try simp only [cnd] at c46
    have hS := j.stop (by omega) (show (pipeP u) j.k = false by simp only [pipeP, rises, pipeOk]; grind only)
    refine sr ?_
    refine qr 2 ?_
    refine rb ?_
    simp only [thingsOk, opensOk_eq, pipesOk_eq, filesOk_eq]
    grind only
   try simp only [cnd] at c46
   refine jd (AW.region ?_)
   refine qm ?_
   refine ba ?_
   refine nm ?_
   refine qn ?_
   refine ⟨⟨j.k + 1, by omega, j.next (show (pipeP u) j.k = true by simp only [pipeP, rises, pipeOk]; grind only)⟩, Weak.sim ⟨st1, Rf rfl, ⟨rfl, rfl⟩, ⟨rfl, rfl⟩, ⟨rfl, rfl⟩, ⟨rfl, rfl⟩, ⟨rfl, rfl⟩, ⟨rfl, rfl⟩, ⟨rfl, rfl⟩, Rf rfl, Rf rfl, Rf rfl, Rf rfl, Rf rfl, Rf rfl, Rf rfl, rfl, trivial⟩ rfl rfl, ?_⟩
   show u.Pipes.length - (j.k + 1) < u.Pipes.length - j.k
   omega
  refine tg 11 rfl (nF g35) (fA fl153_1) ?_
  refine tg 12 rfl (nF g35) (Qt.load1 rfl rfl rfl ag29) ?_
  refine na ?_
  refine a1 13 [] [12, 10, 11, 9, 4, 8, 3, 2, 7, 1, 6, 0, 5] rfl (nF g35) (Stp.callV rfl (by decide) Tryz.call133 rfl rfl (l5Words_con _)) ?_
  refine na ?_
  refine na ?_
  refine tg 14 rfl (nF g35) (Qt.notB rfl) ?_
  refine tk 15 rfl (Qt.pickF rfl g35) ?_
  refine tk 16 rfl Qt.move ?_
  refine na ?_
  refine AWA.split 87 rfl (fun g47 => ?_) (fun g47 => ?_)
  ·refine tf 17 (nT g47) ?_
   refine tf 18 (nT g47) ?_
   refine tf 19 (nT g47) ?_
   refine na ?_
   refine tf 20 rfl ?_
   refine tf 21 rfl ?_
   refine tf 22 rfl ?_
   refine na ?_
   refine tf 23 rfl ?_
   refine tf 24 rfl ?_
   refine tf 25 rfl ?_
   refine na ?_
   refine tf 26 rfl ?_
   refine tf 27 rfl ?_
   refine tf 28 rfl ?_
   refine na ?_
   refine tf 29 rfl ?_
   refine tf 30 (nT g47) ?_
   refine tk 31 rfl (Qt.pickT rfl g47) ?_
   refine na ?_
   refine tk 32 rfl Qt.move ?_
   refine AWA.split 103 rfl (fun g48 => ?_) (fun g48 => ?_)
   ·refine tf 33 (nT g48) ?_
    refine tf 34 (nT g48) ?_
    refine na ?_
    refine tf 35 (nT g48) ?_
    refine tf 37 (nT g48) ?_
    refine tf 38 (nT g48) ?_
    refine na ?_
    refine tf 39 (nT g48) ?_
    refine o1 36 [37, 38, 39] [35, 33, 32, 34, 31, 19, 30, 16, 18, 29, 15, 13, 17, 28, 26, 14, 10, 12, 27, 25, 9, 4, 11, 24, 8, 3, 2, 23, 21, 7, 1, 22, 20, 6, 0, 5] rfl (nT g48) ?_
    refine na ?_
    refine AWA.againE rfl rfl (by decide +kernel) (.off rfl (nT g48)) rfl ?_
    refine AWA.againE rfl rfl (by decide +kernel) (.off rfl (nT g48)) rfl ?_
    refine AWA.againE rfl rfl (by decide +kernel) (.off rfl (nT g48)) rfl ?_
    refine na ?_
    refine o1 40 [] [39, 37, 36, 32, 38, 35, 33, 31, 19, 34, 30, 16, 18, 29, 15, 13, 17, 28, 26, 14, 10, 12, 27, 25, 9, 4, 11, 24, 8, 3, 2, 23, 21, 7, 1, 22, 20, 6, 0, 5] rfl (nT g48) ?_
    refine na ?_
    refine na ?_
    refine tf 41 (nT g48) ?_
    refine tf 42 (nT g48) ?_
    refine tk 43 rfl (Qt.pickT rfl g48) ?_
    refine na ?_
    refine nz ?_
    refine cd (fun c49 => ?_) fun c49 => ?_
    ·try simp only [cnd] at c49
     have hS := j.stop (by omega) (show (pipeP u) j.k = false by simp only [pipeP, rises, pipeOk]; grind only)
     refine sr ?_
     refine qr 2 ?_
     refine rb ?_
     simp only [thingsOk, opensOk_eq, pipesOk_eq, filesOk_eq]
     grind only
    try simp only [cnd] at c49
    refine jd (AW.region ?_)
    refine qm ?_
    refine ba ?_
    refine nm ?_
    refine qn ?_
    refine ⟨⟨j.k + 1, by omega, j.next (show (pipeP u) j.k = true by simp only [pipeP, rises, pipeOk]; grind only)⟩, Weak.sim ⟨st1, Rf rfl, ⟨rfl, rfl⟩, ⟨rfl, rfl⟩, ⟨rfl, rfl⟩, ⟨rfl, rfl⟩, ⟨rfl, rfl⟩, ⟨rfl, rfl⟩, ⟨rfl, rfl⟩, Rf rfl, Rf rfl, Rf rfl, Rf rfl, Rf rfl, Rf rfl, Rf rfl, rfl, trivial⟩ rfl rfl, ?_⟩
    show u.Pipes.length - (j.k + 1) < u.Pipes.length - j.k
    omega
   refine tg 33 rfl (nF g48) (Qt.loadG rfl rfl rfl ag31 sz31 (by decide)) ?_
   refine tg 34 rfl (nF g48) (fA fl153_0) ?_
   refine na ?_
   refine tg 35 rfl (nF g48) (Qt.load1 rfl rfl rfl ag3) ?_
   refine tg 37 rfl (nF g48) (Qt.loadG rfl rfl rfl ag31 sz31 (by decide)) ?_
   refine tg 38 rfl (nF g48) (fA fl153_0) ?_
   refine na ?_
   refine tg 39 rfl (nF g48) (Qt.load1 rfl rfl rfl ag3) ?_
   refine a1 36 [37, 38, 39] [35, 33, 32, 34, 31, 19, 30, 16, 18, 29, 15, 13, 17, 28, 26, 14, 10, 12, 27, 25, 9, 4, 11, 24, 8, 3, 2, 23, 21, 7, 1, 22, 20, 6, 0, 5] rfl (nF g48) (Stp.callV rfl (by decide) Tryz.call141 rfl rfl (l6Ends_con u _ _ hb)) ?_
   refine na ?_
   refine AWA.againE rfl rfl (by decide +kernel) (.on rfl (nF g48) (Qt.loadG rfl rfl rfl ag31 sz31 (by decide))) rfl ?_
   refine AWA.againE rfl rfl (by decide +kernel) (.on rfl (nF g48) (fA fl153_0)) rfl ?_
   refine AWA.againE rfl rfl (by decide +kernel) (.on rfl (nF g48) (Qt.load1 rfl rfl rfl ag3)) rfl ?_
   refine na ?_
   refine a1 40 [] [39, 37, 36, 32, 38, 35, 33, 31, 19, 34, 30, 16, 18, 29, 15, 13, 17, 28, 26, 14, 10, 12, 27, 25, 9, 4, 11, 24, 8, 3, 2, 23, 21, 7, 1, 22, 20, 6, 0, 5] rfl (nF g48) (Stp.callV rfl (by decide) Tryz.call141 rfl rfl (l6Ends_con u _ _ hb)) ?_
   refine na ?_
   refine na ?_
   refine tg 41 rfl (nF g48) (Qt.binOp rfl rfl (by first | exact pbAdd (by omega) | rfl)) ?_
   refine tg 42 rfl (nF g48) (Qt.binOp rfl rfl rfl) ?_
   refine tk 43 rfl (Qt.pickF rfl g48) ?_
   refine na ?_
   refine nz ?_
   refine cd (fun c50 => ?_) fun c50 => ?_
   ·try simp only [cnd] at c50
    have hS := j.stop (by omega) (show (pipeP u) j.k = false by simp only [pipeP, rises, pipeOk]; grind only)
    refine sr ?_
    refine qr 2 ?_
    refine rb ?_
    simp only [thingsOk, opensOk_eq, pipesOk_eq, filesOk_eq]
    grind only
   try simp only [cnd] at c50
   refine jd (AW.region ?_)
   refine qm ?_
   refine ba ?_
   refine nm ?_
   refine qn ?_
   refine ⟨⟨j.k + 1, by omega, j.next (show (pipeP u) j.k = true by simp only [pipeP, rises, pipeOk]; grind only)⟩, Weak.sim ⟨st1, Rf rfl, ⟨rfl, rfl⟩, ⟨rfl, rfl⟩, ⟨rfl, rfl⟩, ⟨rfl, rfl⟩, ⟨rfl, rfl⟩, ⟨rfl, rfl⟩, ⟨rfl, rfl⟩, Rf rfl, Rf rfl, Rf rfl, Rf rfl, Rf rfl, Rf rfl, Rf rfl, rfl, trivial⟩ rfl rfl, ?_⟩
   show u.Pipes.length - (j.k + 1) < u.Pipes.length - j.k
   omega
  refine tg 17 rfl (nF g47) Qt.move ?_
  refine tg 18 rfl (nF g47) (Qt.binOp rfl rfl rfl) ?_
  refine na ?_
  refine tg 19 rfl (nF g47) Qt.move ?_
  refine AWA.split 90 rfl (fun g51 => ?_) (fun g51 => ?_)
  ·refine tg 20 rfl g51 (fA fl31_5) ?_
   refine tg 21 rfl g51 (Qt.load1 rfl rfl rfl ag27) ?_
   refine na ?_
   refine tg 22 rfl g51 Qt.move ?_
   refine tg 23 rfl g51 (Qt.binOp rfl rfl (by first | exact pbSub (by omega) | rfl)) ?_
   refine tg 24 rfl g51 (ix sl27 sz153) ?_
   refine na ?_
   refine tg 25 rfl g51 (fA fl153_0) ?_
   refine tg 26 rfl g51 (Qt.load1 rfl rfl rfl ag3) ?_
   refine tg 27 rfl g51 (fA fl153_0) ?_
   refine na ?_
   refine tg 28 rfl g51 (Qt.load1 rfl rfl rfl ag3) ?_
   refine tg 29 rfl g51 (Qt.binOp rfl rfl rfl) ?_
   refine tg 30 rfl (nF g47) (Qt.pickT rfl g51) ?_
   refine na ?_
   refine tk 31 rfl (Qt.pickF rfl g47) ?_
   refine tk 32 rfl Qt.move ?_
   refine AWA.split 103 rfl (fun g52 => ?_) (fun g52 => ?_)
   ·refine tf 33 (nT g52) ?_
    refine na ?_
    refine tf 34 (nT g52) ?_
    refine tf 35 (nT g52) ?_
    refine tf 37 (nT g52) ?_
    refine na ?_
    refine tf 38 (nT g52) ?_
    refine tf 39 (nT g52) ?_
    refine o1 36 [37, 38, 39] [35, 33, 32, 34, 31, 19, 30, 16, 18, 29, 15, 13, 17, 28, 26, 14, 10, 12, 27, 25, 9, 4, 11, 24, 8, 3, 2, 23, 21, 7, 1, 22, 20, 6, 0, 5] rfl (nT g52) ?_
    refine na ?_
    refine AWA.againE rfl rfl (by decide +kernel) (.off rfl (nT g52)) rfl ?_
    refine AWA.againE rfl rfl (by decide +kernel) (.off rfl (nT g52)) rfl ?_
    refine AWA.againE rfl rfl (by decide +kernel) (.off rfl (nT g52)) rfl ?_
    refine na ?_
    refine o1 40 [] [39, 37, 36, 32, 38, 35, 33, 31, 19, 34, 30, 16, 18, 29, 15, 13, 17, 28, 26, 14, 10, 12, 27, 25, 9, 4, 11, 24, 8, 3, 2, 23, 21, 7, 1, 22, 20, 6, 0, 5] rfl (nT g52) ?_
    refine na ?_
    refine na ?_
    refine tf 41 (nT g52) ?_
    refine tf 42 (nT g52) ?_
    refine tk 43 rfl (Qt.pickT rfl g52) ?_
    refine na ?_
    refine nz ?_
    refine cd (fun c53 => ?_) fun c53 => ?_
    ·try simp only [cnd] at c53
     have hS := j.stop (by omega) (show (pipeP u) j.k = false by simp only [pipeP, rises, pipeOk]; grind only)
     refine sr ?_
     refine qr 2 ?_
     refine rb ?_
     simp only [thingsOk, opensOk_eq, pipesOk_eq, filesOk_eq]
     grind only
    try simp only [cnd] at c53
    refine jd (AW.region ?_)
    refine qm ?_
    refine ba ?_
    refine nm ?_
    refine qn ?_
    refine ⟨⟨j.k + 1, by omega, j.next (show (pipeP u) j.k = true by simp only [pipeP, rises, pipeOk]; grind only)⟩, Weak.sim ⟨st1, Rf rfl, ⟨rfl, rfl⟩, ⟨rfl, rfl⟩, ⟨rfl, rfl⟩, ⟨rfl, rfl⟩, ⟨rfl, rfl⟩, ⟨rfl, rfl⟩, ⟨rfl, rfl⟩, Rf rfl, Rf rfl, Rf rfl, Rf rfl, Rf rfl, Rf rfl, Rf rfl, rfl, trivial⟩ rfl rfl, ?_⟩
    show u.Pipes.length - (j.k + 1) < u.Pipes.length - j.k
    omega
   refine tg 33 rfl (nF g52) (Qt.loadG rfl rfl rfl ag31 sz31 (by decide)) ?_
   refine tg 34 rfl (nF g52) (fA fl153_0) ?_
   refine na ?_
   refine tg 35 rfl (nF g52) (Qt.load1 rfl rfl rfl ag3) ?_
   refine tg 37 rfl (nF g52) (Qt.loadG rfl rfl rfl ag31 sz31 (by decide)) ?_
   refine tg 38 rfl (nF g52) (fA fl153_0) ?_
   refine na ?_
   refine tg 39 rfl (nF g52) (Qt.load1 rfl rfl rfl ag3) ?_
   refine a1 36 [37, 38, 39] [35, 33, 32, 34, 31, 19, 30, 16, 18, 29, 15, 13, 17, 28, 26, 14, 10, 12, 27, 25, 9, 4, 11, 24, 8, 3, 2, 23, 21, 7, 1, 22, 20, 6, 0, 5] rfl (nF g52) (Stp.callV rfl (by decide) Tryz.call141 rfl rfl (l6Ends_con u _ _ hb)) ?_
   refine na ?_
   refine AWA.againE rfl rfl (by decide +kernel) (.on rfl (nF g52) (Qt.loadG rfl rfl rfl ag31 sz31 (by decide))) rfl ?_
   refine AWA.againE rfl rfl (by decide +kernel) (.on rfl (nF g52) (fA fl153_0)) rfl ?_
   refine AWA.againE rfl rfl (by decide +kernel) (.on rfl (nF g52) (Qt.load1 rfl rfl rfl ag3)) rfl ?_
   refine na ?_
   refine a1 40 [] [39, 37, 36, 32, 38, 35, 33, 31, 19, 34, 30, 16, 18, 29, 15, 13, 17, 28, 26, 14, 10, 12, 27, 25, 9, 4, 11, 24, 8, 3, 2, 23, 21, 7, 1, 22, 20, 6, 0, 5] rfl (nF g52) (Stp.callV rfl (by decide) Tryz.call141 rfl rfl (l6Ends_con u _ _ hb)) ?_
   refine na ?_
   refine na ?_
   refine tg 41 rfl (nF g52) (Qt.binOp rfl rfl (by first | exact pbAdd (by omega) | rfl)) ?_
   refine tg 42 rfl (nF g52) (Qt.binOp rfl rfl rfl) ?_
   refine tk 43 rfl (Qt.pickF rfl g52) ?_
   refine na ?_
   refine nz ?_
   refine cd (fun c54 => ?_) fun c54 => ?_
   ·try simp only [cnd] at c54
    have hS := j.stop (by omega) (show (pipeP u) j.k = false by simp only [pipeP, rises, pipeOk]; grind only)
    refine sr ?_
    refine qr 2 ?_
    refine rb ?_
    simp only [thingsOk, opensOk_eq, pipesOk_eq, filesOk_eq]
    grind only
   try simp only [cnd] at c54
   refine jd (AW.region ?_)
   refine qm ?_
   refine ba ?_
   refine nm ?_
   refine qn ?_
   refine ⟨⟨j.k + 1, by omega, j.next (show (pipeP u) j.k = true by simp only [pipeP, rises, pipeOk]; grind only)⟩, Weak.sim ⟨st1, Rf rfl, ⟨rfl, rfl⟩, ⟨rfl, rfl⟩, ⟨rfl, rfl⟩, ⟨rfl, rfl⟩, ⟨rfl, rfl⟩, ⟨rfl, rfl⟩, ⟨rfl, rfl⟩, Rf rfl, Rf rfl, Rf rfl, Rf rfl, Rf rfl, Rf rfl, Rf rfl, rfl, trivial⟩ rfl rfl, ?_⟩
   show u.Pipes.length - (j.k + 1) < u.Pipes.length - j.k
   omega
  refine tf 20 g51 ?_
  refine tf 21 g51 ?_
  refine na ?_
  refine tf 22 g51 ?_
  refine tf 23 g51 ?_
  refine tf 24 g51 ?_
  refine na ?_
  refine tf 25 g51 ?_
  refine tf 26 g51 ?_
  refine tf 27 g51 ?_
  refine na ?_
  refine tf 28 g51 ?_
  refine tf 29 g51 ?_
  refine tg 30 rfl (nF g47) (Qt.pickF rfl g51) ?_
  refine na ?_
  refine tk 31 rfl (Qt.pickF rfl g47) ?_
  refine tk 32 rfl Qt.move ?_
  refine AWA.split 103 rfl (fun g55 => ?_) (fun g55 => ?_)
  ·refine tf 33 (nT g55) ?_
   refine na ?_
   refine tf 34 (nT g55) ?_
   refine tf 35 (nT g55) ?_
   refine tf 37 (nT g55) ?_
   refine na ?_
   refine tf 38 (nT g55) ?_
   refine tf 39 (nT g55) ?_
   refine o1 36 [37, 38, 39] [35, 33, 32, 34, 31, 19, 30, 16, 18, 29, 15, 13, 17, 28, 26, 14, 10, 12, 27, 25, 9, 4, 11, 24, 8, 3, 2, 23, 21, 7, 1, 22, 20, 6, 0, 5] rfl (nT g55) ?_
   refine na ?_
   refine AWA.againE rfl rfl (by decide +kernel) (.off rfl (nT g55)) rfl ?_
   refine AWA.againE rfl rfl (by decide +kernel) (.off rfl (nT g55)) rfl ?_
   refine AWA.againE rfl rfl (by decide +kernel) (.off rfl (nT g55)) rfl ?_
   refine na ?_
   refine o1 40 [] [39, 37, 36, 32, 38, 35, 33, 31, 19, 34, 30, 16, 18, 29, 15, 13, 17, 28, 26, 14, 10, 12, 27, 25, 9, 4, 11, 24, 8, 3, 2, 23, 21, 7, 1, 22, 20, 6, 0, 5] rfl (nT g55) ?_
   refine na ?_
   refine na ?_
   refine tf 41 (nT g55) ?_
   refine tf 42 (nT g55) ?_
   refine tk 43 rfl (Qt.pickT rfl g55) ?_
   refine na ?_
   refine nz ?_
   refine cd (fun c56 => ?_) fun c56 => ?_
   ·try simp only [cnd] at c56
    have hS := j.stop (by omega) (show (pipeP u) j.k = false by simp only [pipeP, rises, pipeOk]; grind only)
    refine sr ?_
    refine qr 2 ?_
    refine rb ?_
    simp only [thingsOk, opensOk_eq, pipesOk_eq, filesOk_eq]
    grind only
   try simp only [cnd] at c56
   refine jd (AW.region ?_)
   refine qm ?_
   refine ba ?_
   refine nm ?_
   refine qn ?_
   refine ⟨⟨j.k + 1, by omega, j.next (show (pipeP u) j.k = true by simp only [pipeP, rises, pipeOk]; grind only)⟩, Weak.sim ⟨st1, Rf rfl, ⟨rfl, rfl⟩, ⟨rfl, rfl⟩, ⟨rfl, rfl⟩, ⟨rfl, rfl⟩, ⟨rfl, rfl⟩, ⟨rfl, rfl⟩, ⟨rfl, rfl⟩, Rf rfl, Rf rfl, Rf rfl, Rf rfl, Rf rfl, Rf rfl, Rf rfl, rfl, trivial⟩ rfl rfl, ?_⟩
   show u.Pipes.length - (j.k + 1) < u.Pipes.length - j.k
   omega
  refine tg 33 rfl (nF g55) (Qt.loadG rfl rfl rfl ag31 sz31 (by decide)) ?_
  refine tg 34 rfl (nF g55) (fA fl153_0) ?_
  refine na ?_
  refine tg 35 rfl (nF g55) (Qt.load1 rfl rfl rfl ag3) ?_
  refine tg 37 rfl (nF g55) (Qt.loadG rfl rfl rfl ag31 sz31 (by decide)) ?_
  refine tg 38 rfl (nF g55) (fA fl153_0) ?_
  refine na ?_
  refine tg 39 rfl (nF g55) (Qt.load1 rfl rfl rfl ag3) ?_
  refine a1 36 [37, 38, 39] [35, 33, 32, 34, 31, 19, 30, 16, 18, 29, 15, 13, 17, 28, 26, 14, 10, 12, 27, 25, 9, 4, 11, 24, 8, 3, 2, 23, 21, 7, 1, 22, 20, 6, 0, 5] rfl (nF g55) (Stp.callV rfl (by decide) Tryz.call141 rfl rfl (l6Ends_con u _ _ hb)) ?_
  refine na ?_
  refine AWA.againE rfl rfl (by decide +kernel) (.on rfl (nF g55) (Qt.loadG rfl rfl rfl ag31 sz31 (by decide))) rfl ?_
  refine AWA.againE rfl rfl (by decide +kernel) (.on rfl (nF g55) (fA fl153_0)) rfl ?_
  refine AWA.againE rfl rfl (by decide +kernel) (.on rfl (nF g55) (Qt.load1 rfl rfl rfl ag3)) rfl ?_
  refine na ?_
  refine a1 40 [] [39, 37, 36, 32, 38, 35, 33, 31, 19, 34, 30, 16, 18, 29, 15, 13, 17, 28, 26, 14, 10, 12, 27, 25, 9, 4, 11, 24, 8, 3, 2, 23, 21, 7, 1, 22, 20, 6, 0, 5] rfl (nF g55) (Stp.callV rfl (by decide) Tryz.call141 rfl rfl (l6Ends_con u _ _ hb)) ?_
  refine na ?_
  refine na ?_
  refine tg 41 rfl (nF g55) (Qt.binOp rfl rfl (by first | exact pbAdd (by omega) | rfl)) ?_
  refine tg 42 rfl (nF g55) (Qt.binOp rfl rfl rfl) ?_
  refine tk 43 rfl (Qt.pickF rfl g55) ?_
  refine na ?_
  refine nz ?_
  refine cd (fun c57 => ?_) fun c57 => ?_
  ·try simp only [cnd] at c57
   have hS := j.stop (by omega) (show (pipeP u) j.k = false by simp only [pipeP, rises, pipeOk]; grind only)
   refine sr ?_
   refine qr 2 ?_
   refine rb ?_
   simp only [thingsOk, opensOk_eq, pipesOk_eq, filesOk_eq]
   grind only
  try simp only [cnd] at c57
  refine jd (AW.region ?_)
  refine qm ?_
  refine ba ?_
  refine nm ?_
  refine qn ?_
  refine ⟨⟨j.k + 1, by omega, j.next (show (pipeP u) j.k = true by simp only [pipeP, rises, pipeOk]; grind only)⟩, Weak.sim ⟨st1, Rf rfl, ⟨rfl, rfl⟩, ⟨rfl, rfl⟩, ⟨rfl, rfl⟩, ⟨rfl, rfl⟩, ⟨rfl, rfl⟩, ⟨rfl, rfl⟩, ⟨rfl, rfl⟩, Rf rfl, Rf rfl, Rf rfl, Rf rfl, Rf rfl, Rf rfl, Rf rfl, rfl, trivial⟩ rfl rfl, ?_⟩
  show u.Pipes.length - (j.k + 1) < u.Pipes.length - j.k
  omega
 try simp only [cnd] at c10
 have hB := j.full (by omega)
 refine AW.exit ?_
 dsimp only [thenQ, blockQ, reduceIte]
 refine sr2 ?_
 refine qn ?_
 refine AW.block ?_
 refine AW.loopW (fun m : AIx (fileP u.Files) u.Files.length => [.sl 6 (.v (iv m.k)), .rt 1 .box (T.s 9 1 fun k c => ([(T.v (iv u.Next), none), (T.v (iv u.Tick), none), (T.j, none), (T.j, none), (T.j, none), (T.j, none), (T.j, none), (T.j, none), (T.j, none)].getD (k * 9 + c) (T.j, none)).fst), .al 1 2 (.h base []), .al 1 3 (.h (base + 1) []), .al 1 4 (.h (base + 2) []), .al 1 5 (.h (base + 3) []), .al 1 6 (.h (base + 4) []), .al 1 7 (.h (base + 5) []), .al 1 8 (.h (base + 6) []), .rt base .ro (tr u.Progs), .rt (base + 1) .ro (tr u.Procs), .rt (base + 2) .ro (tr u.Opens), .rt (base + 3) .ro (tr u.Pipes), .rt (base + 4) .ro (tr u.Files), .rt (base + 5) .ro (tr u.Ready), .rt (base + 6) .ro (tr u.Out), .sl 1 (.p 1 [] 9 0 0)]) (fun m => u.Files.length - m.k) ⟨0, Nat.zero_le _, fun _ h => absurd h (Nat.not_lt_zero _)⟩ (Weak.sim ⟨rfl, Rf rfl, ⟨rfl, rfl⟩, ⟨rfl, rfl⟩, ⟨rfl, rfl⟩, ⟨rfl, rfl⟩, ⟨rfl, rfl⟩, ⟨rfl, rfl⟩, ⟨rfl, rfl⟩, Rf rfl, Rf rfl, Rf rfl, Rf rfl, Rf rfl, Rf rfl, Rf rfl, rfl, trivial⟩ rfl rfl) ?_
 intro m
 have hlem := m.le
 have hTm : ((m.k : Int) - 1).toNat = m.k - 1 := by omega
 refine sr2 ?_
 refine mn ?_
 refine qq (fA fl31_6) ?_
 refine ql ag28 ?_
 refine qh sl28 ?_
 refine nm ?_
 refine qb ?_
 refine nc (fun c58 => ?_) fun c58 => ?_
 ·try simp only [cnd] at c58
  refine jd (AW.seq (AW.block (sr ?_)))
  refine qq (fA fl31_6) ?_
  refine ql ag28 ?_
  refine nm ?_
  refine qm ?_
  refine qq (ix sl28 sz155) ?_
  refine qG ag155 sz155 ?_
  refine nm ?_
  refine sp sA ?_
  refine nm ?_
  refine ss ?_
  refine nl ?_
  refine AW.seq ?_
  refine AW.draw [0, 1, 3, 4, 5, 6, 7, 8, 9, 10, 11, 12, 14, 15, 16, 17, 18, 19, 20, 21, 22, 23, 24, 25, 26, 27, 28, 29, 30, 31] rfl (by decide +kernel) ?_
  refine tk 0 rfl (fA fl155_0) ?_
  refine na ?_
  refine tk 1 rfl (Qt.load1 rfl rfl rfl ag3) ?_
  refine a1 2 [] [1, 0] rfl rfl (Stp.callV rfl (by decide) Tryz.call131 rfl rfl (l1In_con _ _ _)) ?_
  refine na ?_
  refine na ?_
  refine tk 3 rfl (Qt.notB rfl) ?_
  refine tk 4 rfl Qt.move ?_
  refine AWA.split 131 rfl (fun g59 => ?_) (fun g59 => ?_)
  ·refine tf 5 (nT g59) ?_
   refine na ?_
   refine tf 6 (nT g59) ?_
   refine tf 7 (nT g59) ?_
   refine tf 8 (nT g59) ?_
   refine na ?_
   refine tk 9 rfl (Qt.pickT rfl g59) ?_
   refine tk 10 rfl Qt.move ?_
   refine AWA.split 137 rfl (fun g60 => ?_) (fun g60 => ?_)
   ·refine tf 11 (nT g60) ?_
    refine na ?_
    refine tf 12 (nT g60) ?_
    refine o1 13 [] [12, 10, 11, 9, 4, 8, 3, 2, 7, 1, 6, 0, 5] rfl (nT g60) ?_
    refine na ?_
    refine na ?_
    refine tf 14 (nT g60) ?_
    refine tk 15 rfl (Qt.pickT rfl g60) ?_
    refine tk 16 rfl Qt.move ?_
    refine na ?_
    refine AWA.split 143 rfl (fun g61 => ?_) (fun g61 => ?_)
    ·refine tf 17 (nT g61) ?_
     refine tf 18 (nT g61) ?_
     refine tf 19 (nT g61) ?_
     refine na ?_
     refine tf 20 rfl ?_
     refine tf 21 rfl ?_
     refine tf 22 rfl ?_
     refine na ?_
     refine tf 23 rfl ?_
     refine tf 24 rfl ?_
     refine tf 25 rfl ?_
     refine na ?_
     refine tf 26 rfl ?_
     refine tf 27 rfl ?_
     refine tf 28 rfl ?_
     refine na ?_
     refine tf 29 rfl ?_
     refine tf 30 (nT g61) ?_
     refine tk 31 rfl (Qt.pickT rfl g61) ?_
     refine na ?_
     refine nz ?_
     refine cd (fun c62 => ?_) fun c62 => ?_
     ·try simp only [cnd] at c62
      have hS := m.stop (by omega) (show (fileP u.Files) m.k = false by simp only [fileP, rises, fileOk]; grind only)
      refine sr ?_
      refine qr 2 ?_
      refine rb ?_
      simp only [thingsOk, opensOk_eq, pipesOk_eq, filesOk_eq]
      grind only
     try simp only [cnd] at c62
     refine jd (AW.region ?_)
     refine qm ?_
     refine ba ?_
     refine nm ?_
     refine qn ?_
     refine ⟨⟨m.k + 1, by omega, m.next (show (fileP u.Files) m.k = true by simp only [fileP, rises, fileOk]; grind only)⟩, Weak.sim ⟨st1, Rf rfl, ⟨rfl, rfl⟩, ⟨rfl, rfl⟩, ⟨rfl, rfl⟩, ⟨rfl, rfl⟩, ⟨rfl, rfl⟩, ⟨rfl, rfl⟩, ⟨rfl, rfl⟩, Rf rfl, Rf rfl, Rf rfl, Rf rfl, Rf rfl, Rf rfl, Rf rfl, rfl, trivial⟩ rfl rfl, ?_⟩
     show u.Files.length - (m.k + 1) < u.Files.length - m.k
     omega
    refine tg 17 rfl (nF g61) Qt.move ?_
    refine tg 18 rfl (nF g61) (Qt.binOp rfl rfl rfl) ?_
    refine na ?_
    refine tg 19 rfl (nF g61) Qt.move ?_
    refine AWA.split 146 rfl (fun g63 => ?_) (fun g63 => ?_)
    ·refine tg 20 rfl g63 (fA fl31_6) ?_
     refine tg 21 rfl g63 (Qt.load1 rfl rfl rfl ag28) ?_
     refine na ?_
     refine tg 22 rfl g63 Qt.move ?_
     refine tg 23 rfl g63 (Qt.binOp rfl rfl (by first | exact pbSub (by omega) | rfl)) ?_
     refine tg 24 rfl g63 (ix sl28 sz155) ?_
     refine na ?_
     refine tg 25 rfl g63 (fA fl155_0) ?_
     refine tg 26 rfl g63 (Qt.load1 rfl rfl rfl ag3) ?_
     refine tg 27 rfl g63 (fA fl155_0) ?_
     refine na ?_
     refine tg 28 rfl g63 (Qt.load1 rfl rfl rfl ag3) ?_
     refine tg 29 rfl g63 (Qt.binOp rfl rfl rfl) ?_
     refine tg 30 rfl (nF g61) (Qt.pickT rfl g63) ?_
     refine na ?_
     refine tk 31 rfl (Qt.pickF rfl g61) ?_
     refine nz ?_
     refine cd (fun c64 => ?_) fun c64 => ?_
     ·try simp only [cnd] at c64
      have hS := m.stop (by omega) (show (fileP u.Files) m.k = false by simp only [fileP, rises, fileOk]; grind only)
      refine sr ?_
      refine qr 2 ?_
      refine rb ?_
      simp only [thingsOk, opensOk_eq, pipesOk_eq, filesOk_eq]
      grind only
     try simp only [cnd] at c64
     refine jd (AW.region ?_)
     refine mn ?_
     refine ba ?_
     refine qn ?_
     refine ⟨⟨m.k + 1, by omega, m.next (show (fileP u.Files) m.k = true by simp only [fileP, rises, fileOk]; grind only)⟩, Weak.sim ⟨st1, Rf rfl, ⟨rfl, rfl⟩, ⟨rfl, rfl⟩, ⟨rfl, rfl⟩, ⟨rfl, rfl⟩, ⟨rfl, rfl⟩, ⟨rfl, rfl⟩, ⟨rfl, rfl⟩, Rf rfl, Rf rfl, Rf rfl, Rf rfl, Rf rfl, Rf rfl, Rf rfl, rfl, trivial⟩ rfl rfl, ?_⟩
     show u.Files.length - (m.k + 1) < u.Files.length - m.k
     omega
    refine tf 20 g63 ?_
    refine na ?_
    refine tf 21 g63 ?_
    refine tf 22 g63 ?_
    refine tf 23 g63 ?_
    refine na ?_
    refine tf 24 g63 ?_
    refine tf 25 g63 ?_
    refine tf 26 g63 ?_
    refine na ?_
    refine tf 27 g63 ?_
    refine tf 28 g63 ?_
    refine tf 29 g63 ?_
    refine na ?_
    refine tg 30 rfl (nF g61) (Qt.pickF rfl g63) ?_
    refine tk 31 rfl (Qt.pickF rfl g61) ?_
    refine nz ?_
    refine cd (fun c65 => ?_) fun c65 => ?_
    ·try simp only [cnd] at c65
     have hS := m.stop (by omega) (show (fileP u.Files) m.k = false by simp only [fileP, rises, fileOk]; grind only)
     refine sr ?_
     refine qr 2 ?_
     refine rb ?_
     simp only [thingsOk, opensOk_eq, pipesOk_eq, filesOk_eq]
     grind only
    try simp only [cnd] at c65
    refine jd (AW.region ?_)
    refine mn ?_
    refine ba ?_
    refine qn ?_
    refine ⟨⟨m.k + 1, by omega, m.next (show (fileP u.Files) m.k = true by simp only [fileP, rises, fileOk]; grind only)⟩, Weak.sim ⟨st1, Rf rfl, ⟨rfl, rfl⟩, ⟨rfl, rfl⟩, ⟨rfl, rfl⟩, ⟨rfl, rfl⟩, ⟨rfl, rfl⟩, ⟨rfl, rfl⟩, ⟨rfl, rfl⟩, Rf rfl, Rf rfl, Rf rfl, Rf rfl, Rf rfl, Rf rfl, Rf rfl, rfl, trivial⟩ rfl rfl, ?_⟩
    show u.Files.length - (m.k + 1) < u.Files.length - m.k
    omega
   refine tg 11 rfl (nF g60) (fA fl155_1) ?_
   refine na ?_
   refine tg 12 rfl (nF g60) (Qt.load1 rfl rfl rfl ag29) ?_
   refine a1 13 [] [12, 10, 11, 9, 4, 8, 3, 2, 7, 1, 6, 0, 5] rfl (nF g60) (Stp.callV rfl (by decide) Tryz.call133 rfl rfl (l5Words_con _)) ?_
   refine na ?_
   refine na ?_
   refine tg 14 rfl (nF g60) (Qt.notB rfl) ?_
   refine tk 15 rfl (Qt.pickF rfl g60) ?_
   refine tk 16 rfl Qt.move ?_
   refine na ?_
   refine AWA.split 143 rfl (fun g66 => ?_) (fun g66 => ?_)
   ·refine tf 17 (nT g66) ?_
    refine tf 18 (nT g66) ?_
    refine tf 19 (nT g66) ?_
    refine na ?_
    refine tf 20 rfl ?_
    refine tf 21 rfl ?_
    refine tf 22 rfl ?_
    refine na ?_
    refine tf 23 rfl ?_
    refine tf 24 rfl ?_
    refine tf 25 rfl ?_
    refine na ?_
    refine tf 26 rfl ?_
    refine tf 27 rfl ?_
    refine tf 28 rfl ?_
    refine na ?_
    refine tf 29 rfl ?_
    refine tf 30 (nT g66) ?_
    refine tk 31 rfl (Qt.pickT rfl g66) ?_
    refine na ?_
    refine nz ?_
    refine cd (fun c67 => ?_) fun c67 => ?_
    ·try simp only [cnd] at c67
     have hS := m.stop (by omega) (show (fileP u.Files) m.k = false by simp only [fileP, rises, fileOk]; grind only)
     refine sr ?_
     refine qr 2 ?_
     refine rb ?_
     simp only [thingsOk, opensOk_eq, pipesOk_eq, filesOk_eq]
     grind only
    try simp only [cnd] at c67
    refine jd (AW.region ?_)
    refine qm ?_
    refine ba ?_
    refine nm ?_
    refine qn ?_
    refine ⟨⟨m.k + 1, by omega, m.next (show (fileP u.Files) m.k = true by simp only [fileP, rises, fileOk]; grind only)⟩, Weak.sim ⟨st1, Rf rfl, ⟨rfl, rfl⟩, ⟨rfl, rfl⟩, ⟨rfl, rfl⟩, ⟨rfl, rfl⟩, ⟨rfl, rfl⟩, ⟨rfl, rfl⟩, ⟨rfl, rfl⟩, Rf rfl, Rf rfl, Rf rfl, Rf rfl, Rf rfl, Rf rfl, Rf rfl, rfl, trivial⟩ rfl rfl, ?_⟩
    show u.Files.length - (m.k + 1) < u.Files.length - m.k
    omega
   refine tg 17 rfl (nF g66) Qt.move ?_
   refine tg 18 rfl (nF g66) (Qt.binOp rfl rfl rfl) ?_
   refine na ?_
   refine tg 19 rfl (nF g66) Qt.move ?_
   refine AWA.split 146 rfl (fun g68 => ?_) (fun g68 => ?_)
   ·refine tg 20 rfl g68 (fA fl31_6) ?_
    refine tg 21 rfl g68 (Qt.load1 rfl rfl rfl ag28) ?_
    refine na ?_
    refine tg 22 rfl g68 Qt.move ?_
    refine tg 23 rfl g68 (Qt.binOp rfl rfl (by first | exact pbSub (by omega) | rfl)) ?_
    refine tg 24 rfl g68 (ix sl28 sz155) ?_
    refine na ?_
    refine tg 25 rfl g68 (fA fl155_0) ?_
    refine tg 26 rfl g68 (Qt.load1 rfl rfl rfl ag3) ?_
    refine tg 27 rfl g68 (fA fl155_0) ?_
    refine na ?_
    refine tg 28 rfl g68 (Qt.load1 rfl rfl rfl ag3) ?_
    refine tg 29 rfl g68 (Qt.binOp rfl rfl rfl) ?_
    refine tg 30 rfl (nF g66) (Qt.pickT rfl g68) ?_
    refine na ?_
    refine tk 31 rfl (Qt.pickF rfl g66) ?_
    refine nz ?_
    refine cd (fun c69 => ?_) fun c69 => ?_
    ·try simp only [cnd] at c69
     have hS := m.stop (by omega) (show (fileP u.Files) m.k = false by simp only [fileP, rises, fileOk]; grind only)
     refine sr ?_
     refine qr 2 ?_
     refine rb ?_
     simp only [thingsOk, opensOk_eq, pipesOk_eq, filesOk_eq]
     grind only
    try simp only [cnd] at c69
    refine jd (AW.region ?_)
    refine mn ?_
    refine ba ?_
    refine qn ?_
    refine ⟨⟨m.k + 1, by omega, m.next (show (fileP u.Files) m.k = true by simp only [fileP, rises, fileOk]; grind only)⟩, Weak.sim ⟨st1, Rf rfl, ⟨rfl, rfl⟩, ⟨rfl, rfl⟩, ⟨rfl, rfl⟩, ⟨rfl, rfl⟩, ⟨rfl, rfl⟩, ⟨rfl, rfl⟩, ⟨rfl, rfl⟩, Rf rfl, Rf rfl, Rf rfl, Rf rfl, Rf rfl, Rf rfl, Rf rfl, rfl, trivial⟩ rfl rfl, ?_⟩
    show u.Files.length - (m.k + 1) < u.Files.length - m.k
    omega
   refine tf 20 g68 ?_
   refine na ?_
   refine tf 21 g68 ?_
   refine tf 22 g68 ?_
   refine tf 23 g68 ?_
   refine na ?_
   refine tf 24 g68 ?_
   refine tf 25 g68 ?_
   refine tf 26 g68 ?_
   refine na ?_
   refine tf 27 g68 ?_
   refine tf 28 g68 ?_
   refine tf 29 g68 ?_
   refine na ?_
   refine tg 30 rfl (nF g66) (Qt.pickF rfl g68) ?_
   refine tk 31 rfl (Qt.pickF rfl g66) ?_
   refine nz ?_
   refine cd (fun c70 => ?_) fun c70 => ?_
   ·try simp only [cnd] at c70
    have hS := m.stop (by omega) (show (fileP u.Files) m.k = false by simp only [fileP, rises, fileOk]; grind only)
    refine sr ?_
    refine qr 2 ?_
    refine rb ?_
    simp only [thingsOk, opensOk_eq, pipesOk_eq, filesOk_eq]
    grind only
   try simp only [cnd] at c70
   refine jd (AW.region ?_)
   refine mn ?_
   refine ba ?_
   refine qn ?_
   refine ⟨⟨m.k + 1, by omega, m.next (show (fileP u.Files) m.k = true by simp only [fileP, rises, fileOk]; grind only)⟩, Weak.sim ⟨st1, Rf rfl, ⟨rfl, rfl⟩, ⟨rfl, rfl⟩, ⟨rfl, rfl⟩, ⟨rfl, rfl⟩, ⟨rfl, rfl⟩, ⟨rfl, rfl⟩, ⟨rfl, rfl⟩, Rf rfl, Rf rfl, Rf rfl, Rf rfl, Rf rfl, Rf rfl, Rf rfl, rfl, trivial⟩ rfl rfl, ?_⟩
   show u.Files.length - (m.k + 1) < u.Files.length - m.k
   omega
  refine tg 5 rfl (nF g59) (fA fl155_1) ?_
  refine na ?_
  refine tg 6 rfl (nF g59) (Qt.load1 rfl rfl rfl ag29) ?_
  refine tg 7 rfl (nF g59) (Qt.lenH rfl rfl rfl sl29) ?_
  refine tg 8 rfl (nF g59) (Qt.binOp rfl rfl rfl) ?_
  refine na ?_
  refine tk 9 rfl (Qt.pickF rfl g59) ?_
  refine tk 10 rfl Qt.move ?_
  refine AWA.split 137 rfl (fun g71 => ?_) (fun g71 => ?_)
  ·refine tf 11 (nT g71) ?_
   refine na ?_
   refine tf 12 (nT g71) ?_
   refine o1 13 [] [12, 10, 11, 9, 4, 8, 3, 2, 7, 1, 6, 0, 5] rfl (nT g71) ?_
   refine na ?_
   refine na ?_
   refine tf 14 (nT g71) ?_
   refine tk 15 rfl (Qt.pickT rfl g71) ?_
   refine tk 16 rfl Qt.move ?_
   refine na ?_
   refine AWA.split 143 rfl (fun g72 => ?_) (fun g72 => ?_)
   ·refine tf 17 (nT g72) ?_
    refine tf 18 (nT g72) ?_
    refine tf 19 (nT g72) ?_
    refine na ?_
    refine tf 20 rfl ?_
    refine tf 21 rfl ?_
    refine tf 22 rfl ?_
    refine na ?_
    refine tf 23 rfl ?_
    refine tf 24 rfl ?_
    refine tf 25 rfl ?_
    refine na ?_
    refine tf 26 rfl ?_
    refine tf 27 rfl ?_
    refine tf 28 rfl ?_
    refine na ?_
    refine tf 29 rfl ?_
    refine tf 30 (nT g72) ?_
    refine tk 31 rfl (Qt.pickT rfl g72) ?_
    refine na ?_
    refine nz ?_
    refine cd (fun c73 => ?_) fun c73 => ?_
    ·try simp only [cnd] at c73
     have hS := m.stop (by omega) (show (fileP u.Files) m.k = false by simp only [fileP, rises, fileOk]; grind only)
     refine sr ?_
     refine qr 2 ?_
     refine rb ?_
     simp only [thingsOk, opensOk_eq, pipesOk_eq, filesOk_eq]
     grind only
    try simp only [cnd] at c73
    refine jd (AW.region ?_)
    refine qm ?_
    refine ba ?_
    refine nm ?_
    refine qn ?_
    refine ⟨⟨m.k + 1, by omega, m.next (show (fileP u.Files) m.k = true by simp only [fileP, rises, fileOk]; grind only)⟩, Weak.sim ⟨st1, Rf rfl, ⟨rfl, rfl⟩, ⟨rfl, rfl⟩, ⟨rfl, rfl⟩, ⟨rfl, rfl⟩, ⟨rfl, rfl⟩, ⟨rfl, rfl⟩, ⟨rfl, rfl⟩, Rf rfl, Rf rfl, Rf rfl, Rf rfl, Rf rfl, Rf rfl, Rf rfl, rfl, trivial⟩ rfl rfl, ?_⟩
    show u.Files.length - (m.k + 1) < u.Files.length - m.k
    omega
   refine tg 17 rfl (nF g72) Qt.move ?_
   refine tg 18 rfl (nF g72) (Qt.binOp rfl rfl rfl) ?_
   refine na ?_
   refine tg 19 rfl (nF g72) Qt.move ?_
   refine AWA.split 146 rfl (fun g74 => ?_) (fun g74 => ?_)
   ·refine tg 20 rfl g74 (fA fl31_6) ?_
    refine tg 21 rfl g74 (Qt.load1 rfl rfl rfl ag28) ?_
    refine na ?_
    refine tg 22 rfl g74 Qt.move ?_
    refine tg 23 rfl g74 (Qt.binOp rfl rfl (by first | exact pbSub (by omega) | rfl)) ?_
    refine tg 24 rfl g74 (ix sl28 sz155) ?_
    refine na ?_
    refine tg 25 rfl g74 (fA fl155_0) ?_
    refine tg 26 rfl g74 (Qt.load1 rfl rfl rfl ag3) ?_
    refine tg 27 rfl g74 (fA fl155_0) ?_
    refine na ?_
    refine tg 28 rfl g74 (Qt.load1 rfl rfl rfl ag3) ?_
    refine tg 29 rfl g74 (Qt.binOp rfl rfl rfl) ?_
    refine tg 30 rfl (nF g72) (Qt.pickT rfl g74) ?_
    refine na ?_
    refine tk 31 rfl (Qt.pickF rfl g72) ?_
    refine nz ?_
    refine cd (fun c75 => ?_) fun c75 => ?_
    ·try simp only [cnd] at c75
     have hS := m.stop (by omega) (show (fileP u.Files) m.k = false by simp only [fileP, rises, fileOk]; grind only)
     refine sr ?_
     refine qr 2 ?_
     refine rb ?_
     simp only [thingsOk, opensOk_eq, pipesOk_eq, filesOk_eq]
     grind only
    try simp only [cnd] at c75
    refine jd (AW.region ?_)
    refine mn ?_
    refine ba ?_
    refine qn ?_
    refine ⟨⟨m.k + 1, by omega, m.next (show (fileP u.Files) m.k = true by simp only [fileP, rises, fileOk]; grind only)⟩, Weak.sim ⟨st1, Rf rfl, ⟨rfl, rfl⟩, ⟨rfl, rfl⟩, ⟨rfl, rfl⟩, ⟨rfl, rfl⟩, ⟨rfl, rfl⟩, ⟨rfl, rfl⟩, ⟨rfl, rfl⟩, Rf rfl, Rf rfl, Rf rfl, Rf rfl, Rf rfl, Rf rfl, Rf rfl, rfl, trivial⟩ rfl rfl, ?_⟩
    show u.Files.length - (m.k + 1) < u.Files.length - m.k
    omega
   refine tf 20 g74 ?_
   refine na ?_
   refine tf 21 g74 ?_
   refine tf 22 g74 ?_
   refine tf 23 g74 ?_
   refine na ?_
   refine tf 24 g74 ?_
   refine tf 25 g74 ?_
   refine tf 26 g74 ?_
   refine na ?_
   refine tf 27 g74 ?_
   refine tf 28 g74 ?_
   refine tf 29 g74 ?_
   refine na ?_
   refine tg 30 rfl (nF g72) (Qt.pickF rfl g74) ?_
   refine tk 31 rfl (Qt.pickF rfl g72) ?_
   refine nz ?_
   refine cd (fun c76 => ?_) fun c76 => ?_
   ·try simp only [cnd] at c76
    have hS := m.stop (by omega) (show (fileP u.Files) m.k = false by simp only [fileP, rises, fileOk]; grind only)
    refine sr ?_
    refine qr 2 ?_
    refine rb ?_
    simp only [thingsOk, opensOk_eq, pipesOk_eq, filesOk_eq]
    grind only
   try simp only [cnd] at c76
   refine jd (AW.region ?_)
   refine mn ?_
   refine ba ?_
   refine qn ?_
   refine ⟨⟨m.k + 1, by omega, m.next (show (fileP u.Files) m.k = true by simp only [fileP, rises, fileOk]; grind only)⟩, Weak.sim ⟨st1, Rf rfl, ⟨rfl, rfl⟩, ⟨rfl, rfl⟩, ⟨rfl, rfl⟩, ⟨rfl, rfl⟩, ⟨rfl, rfl⟩, ⟨rfl, rfl⟩, ⟨rfl, rfl⟩, Rf rfl, Rf rfl, Rf rfl, Rf rfl, Rf rfl, Rf rfl, Rf rfl, rfl, trivial⟩ rfl rfl, ?_⟩
   show u.Files.length - (m.k + 1) < u.Files.length - m.k
   omega
  refine tg 11 rfl (nF g71) (fA fl155_1) ?_
  refine na ?_
  refine tg 12 rfl (nF g71) (Qt.load1 rfl rfl rfl ag29) ?_
  refine a1 13 [] [12, 10, 11, 9, 4, 8, 3, 2, 7, 1, 6, 0, 5] rfl (nF g71) (Stp.callV rfl (by decide) Tryz.call133 rfl rfl (l5Words_con _)) ?_
  refine na ?_
  refine na ?_
  refine tg 14 rfl (nF g71) (Qt.notB rfl) ?_
  refine tk 15 rfl (Qt.pickF rfl g71) ?_
  refine tk 16 rfl Qt.move ?_
  refine na ?_
  refine AWA.split 143 rfl (fun g77 => ?_) (fun g77 => ?_)
  ·refine tf 17 (nT g77) ?_
   refine tf 18 (nT g77) ?_
   refine tf 19 (nT g77) ?_
   refine na ?_
   refine tf 20 rfl ?_
   refine tf 21 rfl ?_
   refine tf 22 rfl ?_
   refine na ?_
   refine tf 23 rfl ?_
   refine tf 24 rfl ?_
   refine tf 25 rfl ?_
   refine na ?_
   refine tf 26 rfl ?_
   refine tf 27 rfl ?_
   refine tf 28 rfl ?_
   refine na ?_
   refine tf 29 rfl ?_
   refine tf 30 (nT g77) ?_
   refine tk 31 rfl (Qt.pickT rfl g77) ?_
   refine na ?_
   refine nz ?_
   refine cd (fun c78 => ?_) fun c78 => ?_
   ·try simp only [cnd] at c78
    have hS := m.stop (by omega) (show (fileP u.Files) m.k = false by simp only [fileP, rises, fileOk]; grind only)
    refine sr ?_
    refine qr 2 ?_
    refine rb ?_
    simp only [thingsOk, opensOk_eq, pipesOk_eq, filesOk_eq]
    grind only
   try simp only [cnd] at c78
   refine jd (AW.region ?_)
   refine qm ?_
   refine ba ?_
   refine nm ?_
   refine qn ?_
   refine ⟨⟨m.k + 1, by omega, m.next (show (fileP u.Files) m.k = true by simp only [fileP, rises, fileOk]; grind only)⟩, Weak.sim ⟨st1, Rf rfl, ⟨rfl, rfl⟩, ⟨rfl, rfl⟩, ⟨rfl, rfl⟩, ⟨rfl, rfl⟩, ⟨rfl, rfl⟩, ⟨rfl, rfl⟩, ⟨rfl, rfl⟩, Rf rfl, Rf rfl, Rf rfl, Rf rfl, Rf rfl, Rf rfl, Rf rfl, rfl, trivial⟩ rfl rfl, ?_⟩
   show u.Files.length - (m.k + 1) < u.Files.length - m.k
   omega
  refine tg 17 rfl (nF g77) Qt.move ?_
  refine tg 18 rfl (nF g77) (Qt.binOp rfl rfl rfl) ?_
  refine na ?_
  refine tg 19 rfl (nF g77) Qt.move ?_
  refine AWA.split 146 rfl (fun g79 => ?_) (fun g79 => ?_)
  ·refine tg 20 rfl g79 (fA fl31_6) ?_
   refine tg 21 rfl g79 (Qt.load1 rfl rfl rfl ag28) ?_
   refine na ?_
   refine tg 22 rfl g79 Qt.move ?_
   refine tg 23 rfl g79 (Qt.binOp rfl rfl (by first | exact pbSub (by omega) | rfl)) ?_
   refine tg 24 rfl g79 (ix sl28 sz155) ?_
   refine na ?_
   refine tg 25 rfl g79 (fA fl155_0) ?_
   refine tg 26 rfl g79 (Qt.load1 rfl rfl rfl ag3) ?_
   refine tg 27 rfl g79 (fA fl155_0) ?_
   refine na ?_
   refine tg 28 rfl g79 (Qt.load1 rfl rfl rfl ag3) ?_
   refine tg 29 rfl g79 (Qt.binOp rfl rfl rfl) ?_
   refine tg 30 rfl (nF g77) (Qt.pickT rfl g79) ?_
   refine na ?_
   refine tk 31 rfl (Qt.pickF rfl g77) ?_
   refine nz ?_
   refine cd (fun c80 => ?_) fun c80 => ?_
   ·try simp only [cnd] at c80
    have hS := m.stop (by omega) (show (fileP u.Files) m.k = false by simp only [fileP, rises, fileOk]; grind only)
    refine sr ?_
    refine qr 2 ?_
    refine rb ?_
    simp only [thingsOk, opensOk_eq, pipesOk_eq, filesOk_eq]
    grind only
   try simp only [cnd] at c80
   refine jd (AW.region ?_)
   refine mn ?_
   refine ba ?_
   refine qn ?_
   refine ⟨⟨m.k + 1, by omega, m.next (show (fileP u.Files) m.k = true by simp only [fileP, rises, fileOk]; grind only)⟩, Weak.sim ⟨st1, Rf rfl, ⟨rfl, rfl⟩, ⟨rfl, rfl⟩, ⟨rfl, rfl⟩, ⟨rfl, rfl⟩, ⟨rfl, rfl⟩, ⟨rfl, rfl⟩, ⟨rfl, rfl⟩, Rf rfl, Rf rfl, Rf rfl, Rf rfl, Rf rfl, Rf rfl, Rf rfl, rfl, trivial⟩ rfl rfl, ?_⟩
   show u.Files.length - (m.k + 1) < u.Files.length - m.k
   omega
  refine tf 20 g79 ?_
  refine na ?_
  refine tf 21 g79 ?_
  refine tf 22 g79 ?_
  refine tf 23 g79 ?_
  refine na ?_
  refine tf 24 g79 ?_
  refine tf 25 g79 ?_
  refine tf 26 g79 ?_
  refine na ?_
  refine tf 27 g79 ?_
  refine tf 28 g79 ?_
  refine tf 29 g79 ?_
  refine na ?_
  refine tg 30 rfl (nF g77) (Qt.pickF rfl g79) ?_
  refine tk 31 rfl (Qt.pickF rfl g77) ?_
  refine nz ?_
  refine cd (fun c81 => ?_) fun c81 => ?_
  ·try simp only [cnd] at c81
   have hS := m.stop (by omega) (show (fileP u.Files) m.k = false by simp only [fileP, rises, fileOk]; grind only)
   refine sr ?_
   refine qr 2 ?_
   refine rb ?_
   simp only [thingsOk, opensOk_eq, pipesOk_eq, filesOk_eq]
   grind only
  try simp only [cnd] at c81
  refine jd (AW.region ?_)
  refine mn ?_
  refine ba ?_
  refine qn ?_
  refine ⟨⟨m.k + 1, by omega, m.next (show (fileP u.Files) m.k = true by simp only [fileP, rises, fileOk]; grind only)⟩, Weak.sim ⟨st1, Rf rfl, ⟨rfl, rfl⟩, ⟨rfl, rfl⟩, ⟨rfl, rfl⟩, ⟨rfl, rfl⟩, ⟨rfl, rfl⟩, ⟨rfl, rfl⟩, ⟨rfl, rfl⟩, Rf rfl, Rf rfl, Rf rfl, Rf rfl, Rf rfl, Rf rfl, Rf rfl, rfl, trivial⟩ rfl rfl, ?_⟩
  show u.Files.length - (m.k + 1) < u.Files.length - m.k
  omega
 try simp only [cnd] at c58
 have hCC := m.full (by omega)
 refine AW.exit ?_
 dsimp only [thenQ, blockQ, reduceIte]
 refine sr ?_
 refine qr 2 ?_
 refine rb ?_
 simp only [thingsOk, opensOk_eq, pipesOk_eq, filesOk_eq]
 grind only
end Go.Proofs.YtfbefcmeghpalaaGreat.VM
