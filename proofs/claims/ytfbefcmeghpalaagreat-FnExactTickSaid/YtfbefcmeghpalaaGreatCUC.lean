/- Contracts of functions of the program. No conditions beyond those that each states. -/
import Derived.Test.YtfbefcmeghpalaaGreatCUB
set_option linter.all false
set_option maxHeartbeats 8000000
set_option maxRecDepth 10000
namespace Go.Proofs.YtfbefcmeghpalaaGreat.VM
open Go Go.RowKit Go.Proofs
theorem procOk_con (u : DUnix) (p : DProc) (hn : 1 ≤ u.Next) (hn2 : u.Next ≤ 100000) (hpl : (u.Progs.length : Int) ≤ 4) : Con Tryz.prog 107 [.g [.v (iv u.Next), .v (iv u.Tick), .h base [], .h (base + 1) [], .h (base + 2) [], .h (base + 3) [], .h (base + 4) [], .h (base + 5) [], .h (base + 6) []], .g [.v (iv p.Pid), .v (iv p.Parent), .v (iv p.State), .v (iv p.Prog), .v (iv p.Cpu.Pc), .h (base + 7) [], .h (base + 8) [], .h (base + 9) [], .v (iv p.Until), .v (iv p.Code)]] [.rt base .ro (tr u.Progs), .rt (base + 1) .ro (tr u.Procs), .rt (base + 2) .ro (tr u.Opens), .rt (base + 3) .ro (tr u.Pipes), .rt (base + 4) .ro (tr u.Files), .rt (base + 5) .ro (tr u.Ready), .rt (base + 6) .ro (tr u.Out), .rt (base + 7) .ro (tr p.Cpu.Regs), .rt (base + 8) .ro (tr p.Mem), .rt (base + 9) .ro (tr p.Fds)] (fun y _ => y = .v (.bool (procOk u p))) := by
 refine ob Tryz.func107 Tryz.ntmps107 ?_
 have hpb : procAt u p.Parent < u.Procs.length := (ixOf_bd _ _).2
 have hA1 := any_fd p.Fds (fdOk u)
 have hA2 := any_fd p.Fds (fun x => x == -1)
 refine AW.len (base + 8) [] rfl (by simp [Okp]) rfl (fun hlm => ?_)
 refine sr ?_
 refine bx ?_
 refine nm ?_
 refine bx ?_
 refine nm ?_
 refine qn ?_
 refine sr2 ?_
 refine qq (fA fl72_0) ?_
 refine ql ag3 ?_
 refine nm ?_
 refine qq (fA fl31_0) ?_
 refine ql ag3 ?_
 refine qq (Qt.binOp rfl rfl (by first | exact pbSub (by omega) | rfl)) ?_
 refine nm ?_
 refine cv Tryz.call102 rfl rfl (in_con _ _ _) ?_
 refine nm ?_
 refine qq (Qt.notB rfl) ?_
 refine qm ?_
 apply AWL.cut 4
 ·intro Kg1
  refine AWL.splitF 13 rfl (fun g1 => ?_) (fun g1 => ?_)
  ·have eg1 := g1
   try simp only [cnd] at eg1
   refine qg (nF g1) (fA fl72_2) ?_
   refine nm ?_
   refine qg (nF g1) (Qt.load1 rfl rfl rfl ag3) ?_
   refine AWL.step rfl (nF g1) (Stp.callV rfl (by decide) Tryz.call102 rfl rfl (in_con _ _ _)) ?_
   refine nm ?_
   refine qg (nF g1) (Qt.notB rfl) ?_
   exact wj 17 [14, 15, 16, 17] (ifF g1 _ undef) (by simp only [go_sem, reduceIte, Nat.reduceEqDiff, Nat.reduceBEq, reduceCtorEq]; rfl) Kg1
  ·refine og (nT g1) ?_
   refine og (nT g1) ?_
   refine og (nT g1) ?_
   refine og (nT g1) ?_
   exact wj 17 [14, 15, 16, 17] (ifT g1 undef _) (by simp only [go_sem, reduceIte, Nat.reduceEqDiff, Nat.reduceBEq, reduceCtorEq]) Kg1
 refine qq (Qt.pickOr rfl rfl rfl) ?_
 refine mn ?_
 apply AWL.cut 8
 ·intro Kg2
  refine AWL.splitF 19 rfl (fun g2 => ?_) (fun g2 => ?_)
  ·have eg2 := g2
   try simp only [cnd] at eg2
   refine qg (nF g2) (fA fl72_3) ?_
   refine qg (nF g2) (Qt.load1 rfl rfl rfl ag3) ?_
   refine qg (nF g2) (fA fl31_2) ?_
   refine nm ?_
   refine qg (nF g2) (Qt.load1 rfl rfl rfl ag24) ?_
   refine qg (nF g2) (Qt.lenH rfl rfl rfl sl24) ?_
   refine qg (nF g2) (Qt.binOp rfl rfl (by first | exact pbSub (by omega) | rfl)) ?_
   refine nm ?_
   refine AWL.step rfl (nF g2) (Stp.callV rfl (by decide) Tryz.call102 rfl rfl (in_con _ _ _)) ?_
   refine nm ?_
   refine qg (nF g2) (Qt.notB rfl) ?_
   exact wj 27 [20, 21, 22, 23, 24, 25, 26, 27] (ifF g2 _ undef) (by simp only [go_sem, reduceIte, Nat.reduceEqDiff, Nat.reduceBEq, reduceCtorEq]; rfl) Kg2
  ·refine og (nT g2) ?_
   refine og (nT g2) ?_
   refine og (nT g2) ?_
   refine og (nT g2) ?_
   refine nm ?_
   refine og (nT g2) ?_
   refine og (nT g2) ?_
   refine og (nT g2) ?_
   refine og (nT g2) ?_
   exact wj 27 [20, 21, 22, 23, 24, 25, 26, 27] (ifT g2 undef _) (by simp only [go_sem, reduceIte, Nat.reduceEqDiff, Nat.reduceBEq, reduceCtorEq]) Kg2
 refine qq (Qt.pickOr rfl rfl rfl) ?_
 refine mn ?_
 apply AWL.cut 4
 ·intro Kg3
  refine AWL.splitF 29 rfl (fun g3 => ?_) (fun g3 => ?_)
  ·have eg3 := g3
   try simp only [cnd] at eg3
   refine qg (nF g3) (fA fl72_4) ?_
   refine qg (nF g3) (Qt.loadG rfl rfl rfl ag70 sz70 (by decide)) ?_
   refine AWL.step rfl (nF g3) (Stp.callV rfl (by decide) Tryz.call192 rfl rfl (CpuOkI_con _ _)) ?_
   refine nm ?_
   refine qg (nF g3) (Qt.notB rfl) ?_
   exact wj 33 [30, 31, 32, 33] (ifF g3 _ undef) (by simp only [go_sem, reduceIte, Nat.reduceEqDiff, Nat.reduceBEq, reduceCtorEq]; rfl) Kg3
  ·refine og (nT g3) ?_
   refine og (nT g3) ?_
   refine og (nT g3) ?_
   refine og (nT g3) ?_
   exact wj 33 [30, 31, 32, 33] (ifT g3 undef _) (by simp only [go_sem, reduceIte, Nat.reduceEqDiff, Nat.reduceBEq, reduceCtorEq]) Kg3
 refine qq (Qt.pickOr rfl rfl rfl) ?_
 refine mn ?_
 apply AWL.cut 4
 ·intro Kg4
  refine AWL.splitF 35 rfl (fun g4 => ?_) (fun g4 => ?_)
  ·have eg4 := g4
   try simp only [cnd] at eg4
   refine qg (nF g4) (fA fl72_8) ?_
   refine qg (nF g4) (Qt.load1 rfl rfl rfl ag3) ?_
   refine AWL.step rfl (nF g4) (Stp.callV rfl (by decide) Tryz.call187 rfl rfl (isWord_con _)) ?_
   refine nm ?_
   refine qg (nF g4) (Qt.notB rfl) ?_
   exact wj 39 [36, 37, 38, 39] (ifF g4 _ undef) (by simp only [go_sem, reduceIte, Nat.reduceEqDiff, Nat.reduceBEq, reduceCtorEq]; rfl) Kg4
  ·refine og (nT g4) ?_
   refine og (nT g4) ?_
   refine og (nT g4) ?_
   refine og (nT g4) ?_
   exact wj 39 [36, 37, 38, 39] (ifT g4 undef _) (by simp only [go_sem, reduceIte, Nat.reduceEqDiff, Nat.reduceBEq, reduceCtorEq]) Kg4
 refine qq (Qt.pickOr rfl rfl rfl) ?_
 refine nc (fun c5 => ?_) fun c5 => ?_
 ·try simp only [cnd] at c5
  refine sr ?_
  refine qr 4 ?_
  refine rb ?_
  simp only [procOk, procS, parentOk, endOk, cpuOk]
  grind only
 try simp only [cnd] at c5
 refine jd (sr2 ?_)
 refine qq (fA fl72_1) ?_
 refine nm ?_
 refine ql ag3 ?_
 refine qb ?_
 refine nc (fun c6 => ?_) fun c6 => ?_
 ·try simp only [cnd] at c6
  refine sr ?_
  refine qG ag31 sz31 ?_
  refine nm ?_
  refine qq (fA fl72_1) ?_
  refine ql ag3 ?_
  refine cv Tryz.call167 rfl rfl (procAtI_con u _) ?_
  refine nm ?_
  refine qs' ?_
  refine qm ?_
  refine qb ?_
  refine nm ?_
  refine qm ?_
  apply AWL.cut 5
  ·intro Kg7
   refine AWL.splitF 50 rfl (fun g7 => ?_) (fun g7 => ?_)
   ·have eg7 := g7
    try simp only [cnd] at eg7
    refine qg (nF g7) (fA fl72_1) ?_
    refine qg (nF g7) (Qt.load1 rfl rfl rfl ag3) ?_
    refine nm ?_
    refine qg (nF g7) (fA fl72_0) ?_
    refine qg (nF g7) (Qt.load1 rfl rfl rfl ag3) ?_
    refine qg (nF g7) (Qt.binOp rfl rfl rfl) ?_
    refine nm ?_
    exact wj 55 [51, 52, 53, 54, 55] (ifF g7 _ undef) (by simp only [go_sem, reduceIte, Nat.reduceEqDiff, Nat.reduceBEq, reduceCtorEq]; rfl) Kg7
   ·refine og (nT g7) ?_
    refine og (nT g7) ?_
    refine og (nT g7) ?_
    refine og (nT g7) ?_
    refine nm ?_
    refine og (nT g7) ?_
    exact wj 55 [51, 52, 53, 54, 55] (ifT g7 undef _) (by simp only [go_sem, reduceIte, Nat.reduceEqDiff, Nat.reduceBEq, reduceCtorEq]) Kg7
  refine qq (Qt.pickOr rfl rfl rfl) ?_
  refine qm ?_
  apply AWL.cut 7
  ·intro Kg8
   refine AWL.splitF 57 rfl (fun g8 => ?_) (fun g8 => ?_)
   ·have eg8 := g8
    try simp only [cnd] at eg8
    refine qg (nF g8) (fA fl31_3) ?_
    refine nm ?_
    refine qg (nF g8) (Qt.load1 rfl rfl rfl ag25) ?_
    refine qg (nF g8) Qt.move ?_
    refine qg (nF g8) (ix sl25 sz72) ?_
    refine nm ?_
    refine qg (nF g8) (fA fl72_2) ?_
    refine qg (nF g8) (Qt.load1 rfl rfl rfl ag3) ?_
    refine qg (nF g8) (Qt.binOp rfl rfl rfl) ?_
    refine nm ?_
    exact wj 64 [58, 59, 60, 61, 62, 63, 64] (ifF g8 _ undef) (by simp only [go_sem, reduceIte, Nat.reduceEqDiff, Nat.reduceBEq, reduceCtorEq]; rfl) Kg8
   ·refine og (nT g8) ?_
    refine og (nT g8) ?_
    refine og (nT g8) ?_
    refine og (nT g8) ?_
    refine nm ?_
    refine og (nT g8) ?_
    refine og (nT g8) ?_
    refine og (nT g8) ?_
    exact wj 64 [58, 59, 60, 61, 62, 63, 64] (ifT g8 undef _) (by simp only [go_sem, reduceIte, Nat.reduceEqDiff, Nat.reduceBEq, reduceCtorEq]) Kg8
  refine qq (Qt.pickOr rfl rfl rfl) ?_
  refine nc (fun c9 => ?_) fun c9 => ?_
  ·try simp only [cnd] at c9
   refine sr ?_
   refine qr 4 ?_
   refine rb ?_
   simp only [procOk, procS, parentOk, endOk, cpuOk]
   grind only
  try simp only [cnd] at c9
  refine jd (sr2 ?_)
  refine qq (fA fl72_5) ?_
  refine nm ?_
  refine ql ag29 ?_
  refine qh sl29 ?_
  refine qb ?_
  refine nm ?_
  refine qm ?_
  apply AWL.cut 5
  ·intro Kg10
   refine AWL.splitF 70 rfl (fun g10 => ?_) (fun g10 => ?_)
   ·have eg10 := g10
    try simp only [cnd] at eg10
    refine qg (nF g10) (fA fl72_5) ?_
    refine qg (nF g10) (Qt.load1 rfl rfl rfl ag29) ?_
    refine nm ?_
    refine qg (nF g10) (Qt.lenH rfl rfl rfl sl29) ?_
    refine qg (nF g10) (Qt.binOp rfl rfl (by first | exact pbRem4 _ | rfl | exact pbRemI (by omega))) ?_
    refine qg (nF g10) (Qt.binOp rfl rfl rfl) ?_
    refine nm ?_
    exact wj 75 [71, 72, 73, 74, 75] (ifF g10 _ undef) (by simp only [go_sem, reduceIte, Nat.reduceEqDiff, Nat.reduceBEq, reduceCtorEq]; rfl) Kg10
   ·refine og (nT g10) ?_
    refine og (nT g10) ?_
    refine og (nT g10) ?_
    refine og (nT g10) ?_
    refine nm ?_
    refine og (nT g10) ?_
    exact wj 75 [71, 72, 73, 74, 75] (ifT g10 undef _) (by simp only [go_sem, reduceIte, Nat.reduceEqDiff, Nat.reduceBEq, reduceCtorEq]) Kg10
  refine qq (Qt.pickOr rfl rfl rfl) ?_
  refine qm ?_
  apply AWL.cut 4
  ·intro Kg11
   refine AWL.splitF 77 rfl (fun g11 => ?_) (fun g11 => ?_)
   ·have eg11 := g11
    try simp only [cnd] at eg11
    refine qg (nF g11) (fA fl72_5) ?_
    refine nm ?_
    refine qg (nF g11) (Qt.load1 rfl rfl rfl ag29) ?_
    refine AWL.step rfl (nF g11) (Stp.callV rfl (by decide) Tryz.call103 rfl rfl (wordsOk_con _)) ?_
    refine nm ?_
    refine qg (nF g11) (Qt.notB rfl) ?_
    exact wj 81 [78, 79, 80, 81] (ifF g11 _ undef) (by simp only [go_sem, reduceIte, Nat.reduceEqDiff, Nat.reduceBEq, reduceCtorEq]; rfl) Kg11
   ·refine og (nT g11) ?_
    refine og (nT g11) ?_
    refine og (nT g11) ?_
    refine og (nT g11) ?_
    exact wj 81 [78, 79, 80, 81] (ifT g11 undef _) (by simp only [go_sem, reduceIte, Nat.reduceEqDiff, Nat.reduceBEq, reduceCtorEq]) Kg11
  refine qq (Qt.pickOr rfl rfl rfl) ?_
  refine mn ?_
  apply AWL.cut 4
  ·intro Kg12
   refine AWL.splitF 83 rfl (fun g12 => ?_) (fun g12 => ?_)
   ·have eg12 := g12
    try simp only [cnd] at eg12
    refine qg (nF g12) (fA fl72_6) ?_
    refine qg (nF g12) (Qt.load1 rfl rfl rfl ag29) ?_
    refine qg (nF g12) (Qt.lenH rfl rfl rfl sl29) ?_
    refine nm ?_
    refine qg (nF g12) (Qt.binOp rfl rfl rfl) ?_
    exact wj 87 [84, 85, 86, 87] (ifF g12 _ undef) (by simp only [go_sem, reduceIte, Nat.reduceEqDiff, Nat.reduceBEq, reduceCtorEq]; rfl) Kg12
   ·refine og (nT g12) ?_
    refine og (nT g12) ?_
    refine og (nT g12) ?_
    refine og (nT g12) ?_
    exact wj 87 [84, 85, 86, 87] (ifT g12 undef _) (by simp only [go_sem, reduceIte, Nat.reduceEqDiff, Nat.reduceBEq, reduceCtorEq]) Kg12
  refine qq (Qt.pickOr rfl rfl rfl) ?_
  refine mn ?_
  apply AWL.cut 4
  ·intro Kg13
   refine AWL.splitF 89 rfl (fun g13 => ?_) (fun g13 => ?_)
   ·have eg13 := g13
    try simp only [cnd] at eg13
    refine qg (nF g13) (Qt.loadG rfl rfl rfl ag31 sz31 (by decide)) ?_
    refine qg (nF g13) (Qt.loadG rfl rfl rfl ag72 sz72 (by decide)) ?_
    refine AWL.step rfl (nF g13) (Stp.callV rfl (by decide) Tryz.call193 rfl rfl (untilOk_con u p)) ?_
    refine nm ?_
    refine qg (nF g13) (Qt.notB rfl) ?_
    exact wj 93 [90, 91, 92, 93] (ifF g13 _ undef) (by simp only [go_sem, reduceIte, Nat.reduceEqDiff, Nat.reduceBEq, reduceCtorEq]; rfl) Kg13
   ·refine og (nT g13) ?_
    refine og (nT g13) ?_
    refine og (nT g13) ?_
    refine og (nT g13) ?_
    exact wj 93 [90, 91, 92, 93] (ifT g13 undef _) (by simp only [go_sem, reduceIte, Nat.reduceEqDiff, Nat.reduceBEq, reduceCtorEq]) Kg13
  refine qq (Qt.pickOr rfl rfl rfl) ?_
  refine nc (fun c14 => ?_) fun c14 => ?_
  ·try simp only [cnd] at c14
   refine sr ?_
   refine qr 4 ?_
   refine rb ?_
   simp only [procOk, procS, parentOk, endOk, cpuOk]
   grind only
  try simp only [cnd] at c14
  refine jd (sr2 ?_)
  refine qq (fA fl72_6) ?_
  refine nm ?_
  refine ql ag29 ?_
  refine qq Qt.makeFunc ?_
  refine cv Tryz.call185 rfl rfl (Con.simH (hasIU_con u Tryz.call194 (fun x => procOk1_con u x) p.Fds) ⟨⟨_, rfl, T.sim_refl _⟩, ⟨_, rfl, (sim_one (fun c hc => match c, hc with | 0, _ => T.sim_refl _ | 1, _ => T.sim_refl _ | 2, _ => T.sim_refl _ | 3, _ => T.sim_refl _ | 4, _ => T.sim_refl _ | 5, _ => T.sim_refl _ | 6, _ => T.sim_refl _ | 7, _ => T.sim_refl _ | 8, _ => T.sim_refl _ | c + 9, hc => absurd hc (by simp only [En.n]; omega)))⟩, trivial⟩ rfl rfl rfl) ?_
  refine nc (fun c15 => ?_) fun c15 => ?_
  ·try simp only [cnd] at c15
   refine sr ?_
   refine qr 4 ?_
   refine rb ?_
   simp only [procOk, procS, parentOk, endOk, cpuOk]
   grind only
  try simp only [cnd] at c15
  refine jd (sr2 ?_)
  refine qq (fA fl72_2) ?_
  refine nm ?_
  refine ql ag3 ?_
  refine qb ?_
  refine nc (fun c16 => ?_) fun c16 => ?_
  ·try simp only [cnd] at c16
   refine sr ?_
   refine qq (fA fl72_5) ?_
   refine nm ?_
   refine ql ag29 ?_
   refine qh sl29 ?_
   refine qb ?_
   refine nm ?_
   refine qm ?_
   apply AWL.cut 3
   ·intro Kg17
    refine AWL.split 106 rfl (fun g17 => ?_) (fun g17 => ?_)
    ·have eg17 := g17
     try simp only [cnd] at eg17
     refine qg g17 (fA fl72_1) ?_
     refine qg g17 (Qt.load1 rfl rfl rfl ag3) ?_
     refine nm ?_
     refine qg g17 (Qt.binOp rfl rfl rfl) ?_
     exact wj 109 [107, 108, 109] (ifT g17 _ undef) (by simp only [go_sem, reduceIte, Nat.reduceEqDiff, Nat.reduceBEq, reduceCtorEq]; rfl) Kg17
    ·refine og g17 ?_
     refine og g17 ?_
     refine og g17 ?_
     exact wj 109 [107, 108, 109] (ifF g17 undef _) (by simp only [go_sem, reduceIte, Nat.reduceEqDiff, Nat.reduceBEq, reduceCtorEq]) Kg17
   refine qq (Qt.pickAnd rfl rfl rfl) ?_
   refine mn ?_
   apply AWL.cut 4
   ·intro Kg18
    refine AWL.split 111 rfl (fun g18 => ?_) (fun g18 => ?_)
    ·have eg18 := g18
     try simp only [cnd] at eg18
     refine qg g18 (fA fl72_6) ?_
     refine qg g18 (Qt.load1 rfl rfl rfl ag29) ?_
     refine AWL.step rfl g18 (Stp.callV rfl (by decide) Tryz.call185 rfl rfl (hasI_con Tryz.call195 (fun x => procOk2_con x) p.Fds)) ?_
     refine nm ?_
     refine qg g18 (Qt.notB rfl) ?_
     exact wj 115 [112, 113, 114, 115] (ifT g18 _ undef) (by simp only [go_sem, reduceIte, Nat.reduceEqDiff, Nat.reduceBEq, reduceCtorEq]; rfl) Kg18
    ·refine og g18 ?_
     refine og g18 ?_
     refine og g18 ?_
     refine og g18 ?_
     exact wj 115 [112, 113, 114, 115] (ifF g18 undef _) (by simp only [go_sem, reduceIte, Nat.reduceEqDiff, Nat.reduceBEq, reduceCtorEq]) Kg18
   refine qq (Qt.pickAnd rfl rfl rfl) ?_
   refine qr 4 ?_
   refine rb ?_
   simp only [procOk, procS, parentOk, endOk, cpuOk]
   grind only
  try simp only [cnd] at c16
  refine jd (sr ?_)
  refine qq (fA fl72_5) ?_
  refine nm ?_
  refine ql ag29 ?_
  refine qh sl29 ?_
  refine qb ?_
  refine nm ?_
  refine qm ?_
  apply AWL.cut 3
  ·intro Kg19
   refine AWL.split 121 rfl (fun g19 => ?_) (fun g19 => ?_)
   ·have eg19 := g19
    try simp only [cnd] at eg19
    refine qg g19 (fA fl72_8) ?_
    refine qg g19 (Qt.load1 rfl rfl rfl ag3) ?_
    refine nm ?_
    refine qg g19 (Qt.binOp rfl rfl rfl) ?_
    exact wj 124 [122, 123, 124] (ifT g19 _ undef) (by simp only [go_sem, reduceIte, Nat.reduceEqDiff, Nat.reduceBEq, reduceCtorEq]; rfl) Kg19
   ·refine og g19 ?_
    refine og g19 ?_
    refine og g19 ?_
    exact wj 124 [122, 123, 124] (ifF g19 undef _) (by simp only [go_sem, reduceIte, Nat.reduceEqDiff, Nat.reduceBEq, reduceCtorEq]) Kg19
  refine qq (Qt.pickAnd rfl rfl rfl) ?_
  refine qr 4 ?_
  refine rb ?_
  simp only [procOk, procS, parentOk, endOk, cpuOk]
  grind only
 try simp only [cnd] at c6
 refine jd (sr2 ?_)
 refine qq (fA fl72_5) ?_
 refine nm ?_
 refine ql ag29 ?_
 refine qh sl29 ?_
 refine qb ?_
 refine nm ?_
 refine qm ?_
 apply AWL.cut 5
 ·intro Kg20
  refine AWL.splitF 70 rfl (fun g20 => ?_) (fun g20 => ?_)
  ·have eg20 := g20
   try simp only [cnd] at eg20
   refine qg (nF g20) (fA fl72_5) ?_
   refine qg (nF g20) (Qt.load1 rfl rfl rfl ag29) ?_
   refine nm ?_
   refine qg (nF g20) (Qt.lenH rfl rfl rfl sl29) ?_
   refine qg (nF g20) (Qt.binOp rfl rfl (by first | exact pbRem4 _ | rfl | exact pbRemI (by omega))) ?_
   refine qg (nF g20) (Qt.binOp rfl rfl rfl) ?_
   refine nm ?_
   exact wj 75 [71, 72, 73, 74, 75] (ifF g20 _ undef) (by simp only [go_sem, reduceIte, Nat.reduceEqDiff, Nat.reduceBEq, reduceCtorEq]; rfl) Kg20
  ·refine og (nT g20) ?_
   refine og (nT g20) ?_
   refine og (nT g20) ?_
   refine og (nT g20) ?_
   refine nm ?_
   refine og (nT g20) ?_
   exact wj 75 [71, 72, 73, 74, 75] (ifT g20 undef _) (by simp only [go_sem, reduceIte, Nat.reduceEqDiff, Nat.reduceBEq, reduceCtorEq]) Kg20
 refine qq (Qt.pickOr rfl rfl rfl) ?_
 refine qm ?_
 apply AWL.cut 4
 ·intro Kg21
  refine AWL.splitF 77 rfl (fun g21 => ?_) (fun g21 => ?_)
  ·have eg21 := g21
   try simp only [cnd] at eg21
   refine qg (nF g21) (fA fl72_5) ?_
   refine nm ?_
   refine qg (nF g21) (Qt.load1 rfl rfl rfl ag29) ?_
   refine AWL.step rfl (nF g21) (Stp.callV rfl (by decide) Tryz.call103 rfl rfl (wordsOk_con _)) ?_
   refine nm ?_
   refine qg (nF g21) (Qt.notB rfl) ?_
   exact wj 81 [78, 79, 80, 81] (ifF g21 _ undef) (by simp only [go_sem, reduceIte, Nat.reduceEqDiff, Nat.reduceBEq, reduceCtorEq]; rfl) Kg21
  ·refine og (nT g21) ?_
   refine og (nT g21) ?_
   refine og (nT g21) ?_
   refine og (nT g21) ?_
   exact wj 81 [78, 79, 80, 81] (ifT g21 undef _) (by simp only [go_sem, reduceIte, Nat.reduceEqDiff, Nat.reduceBEq, reduceCtorEq]) Kg21
 refine qq (Qt.pickOr rfl rfl rfl) ?_
 refine mn ?_
 apply AWL.cut 4
 ·intro Kg22
  refine AWL.splitF 83 rfl (fun g22 => ?_) (fun g22 => ?_)
  ·have eg22 := g22
   try simp only [cnd] at eg22
   refine qg (nF g22) (fA fl72_6) ?_
   refine qg (nF g22) (Qt.load1 rfl rfl rfl ag29) ?_
   refine qg (nF g22) (Qt.lenH rfl rfl rfl sl29) ?_
   refine nm ?_
   refine qg (nF g22) (Qt.binOp rfl rfl rfl) ?_
   exact wj 87 [84, 85, 86, 87] (ifF g22 _ undef) (by simp only [go_sem, reduceIte, Nat.reduceEqDiff, Nat.reduceBEq, reduceCtorEq]; rfl) Kg22
  ·refine og (nT g22) ?_
   refine og (nT g22) ?_
   refine og (nT g22) ?_
   refine og (nT g22) ?_
   exact wj 87 [84, 85, 86, 87] (ifT g22 undef _) (by simp only [go_sem, reduceIte, Nat.reduceEqDiff, Nat.reduceBEq, reduceCtorEq]) Kg22
 refine qq (Qt.pickOr rfl rfl rfl) ?_
 refine mn ?_
 apply AWL.cut 4
 ·intro Kg23
  refine AWL.splitF 89 rfl (fun g23 => ?_) (fun g23 => ?_)
  ·have eg23 := g23
   try simp only [cnd] at eg23
   refine qg (nF g23) (Qt.loadG rfl rfl rfl ag31 sz31 (by decide)) ?_
   refine qg (nF g23) (Qt.loadG rfl rfl rfl ag72 sz72 (by decide)) ?_
   refine AWL.step rfl (nF g23) (Stp.callV rfl (by decide) Tryz.call193 rfl rfl (untilOk_con u p)) ?_
   refine nm ?_
   refine qg (nF g23) (Qt.notB rfl) ?_
   exact wj 93 [90, 91, 92, 93] (ifF g23 _ undef) (by simp only [go_sem, reduceIte, Nat.reduceEqDiff, Nat.reduceBEq, reduceCtorEq]; rfl) Kg23
  ·refine og (nT g23) ?_
   refine og (nT g23) ?_
   refine og (nT g23) ?_
   refine og (nT g23) ?_
   exact wj 93 [90, 91, 92, 93] (ifT g23 undef _) (by simp only [go_sem, reduceIte, Nat.reduceEqDiff, Nat.reduceBEq, reduceCtorEq]) Kg23
 refine qq (Qt.pickOr rfl rfl rfl) ?_
 refine nc (fun c24 => ?_) fun c24 => ?_
 ·try simp only [cnd] at c24
  refine sr ?_
  refine qr 4 ?_
  refine rb ?_
  simp only [procOk, procS, parentOk, endOk, cpuOk]
  grind only
 try simp only [cnd] at c24
 refine jd (sr2 ?_)
 refine qq (fA fl72_6) ?_
 refine nm ?_
 refine ql ag29 ?_
 refine qq Qt.makeFunc ?_
 refine cv Tryz.call185 rfl rfl (Con.simH (hasIU_con u Tryz.call194 (fun x => procOk1_con u x) p.Fds) ⟨⟨_, rfl, T.sim_refl _⟩, ⟨_, rfl, (sim_one (fun c hc => match c, hc with | 0, _ => T.sim_refl _ | 1, _ => T.sim_refl _ | 2, _ => T.sim_refl _ | 3, _ => T.sim_refl _ | 4, _ => T.sim_refl _ | 5, _ => T.sim_refl _ | 6, _ => T.sim_refl _ | 7, _ => T.sim_refl _ | 8, _ => T.sim_refl _ | c + 9, hc => absurd hc (by simp only [En.n]; omega)))⟩, trivial⟩ rfl rfl rfl) ?_
 refine nc (fun c25 => ?_) fun c25 => ?_
 ·try simp only [cnd] at c25
  refine sr ?_
  refine qr 4 ?_
  refine rb ?_
  simp only [procOk, procS, parentOk, endOk, cpuOk]
  grind only
 try simp only [cnd] at c25
 refine jd (sr2 ?_)
 refine qq (fA fl72_2) ?_
 refine nm ?_
 refine ql ag3 ?_
 refine qb ?_
 refine nc (fun c26 => ?_) fun c26 => ?_
 ·try simp only [cnd] at c26
  refine sr ?_
  refine qq (fA fl72_5) ?_
  refine nm ?_
  refine ql ag29 ?_
  refine qh sl29 ?_
  refine qb ?_
  refine nm ?_
  refine qm ?_
  apply AWL.cut 3
  ·intro Kg27
   refine AWL.split 106 rfl (fun g27 => ?_) (fun g27 => ?_)
   ·have eg27 := g27
    try simp only [cnd] at eg27
    refine qg g27 (fA fl72_1) ?_
    refine qg g27 (Qt.load1 rfl rfl rfl ag3) ?_
    refine nm ?_
    refine qg g27 (Qt.binOp rfl rfl rfl) ?_
    exact wj 109 [107, 108, 109] (ifT g27 _ undef) (by simp only [go_sem, reduceIte, Nat.reduceEqDiff, Nat.reduceBEq, reduceCtorEq]; rfl) Kg27
   ·refine og g27 ?_
    refine og g27 ?_
    refine og g27 ?_
    exact wj 109 [107, 108, 109] (ifF g27 undef _) (by simp only [go_sem, reduceIte, Nat.reduceEqDiff, Nat.reduceBEq, reduceCtorEq]) Kg27
  refine qq (Qt.pickAnd rfl rfl rfl) ?_
  refine mn ?_
  apply AWL.cut 4
  ·intro Kg28
   refine AWL.split 111 rfl (fun g28 => ?_) (fun g28 => ?_)
   ·have eg28 := g28
    try simp only [cnd] at eg28
    refine qg g28 (fA fl72_6) ?_
    refine qg g28 (Qt.load1 rfl rfl rfl ag29) ?_
    refine AWL.step rfl g28 (Stp.callV rfl (by decide) Tryz.call185 rfl rfl (hasI_con Tryz.call195 (fun x => procOk2_con x) p.Fds)) ?_
    refine nm ?_
    refine qg g28 (Qt.notB rfl) ?_
    exact wj 115 [112, 113, 114, 115] (ifT g28 _ undef) (by simp only [go_sem, reduceIte, Nat.reduceEqDiff, Nat.reduceBEq, reduceCtorEq]; rfl) Kg28
   ·refine og g28 ?_
    refine og g28 ?_
    refine og g28 ?_
    refine og g28 ?_
    exact wj 115 [112, 113, 114, 115] (ifF g28 undef _) (by simp only [go_sem, reduceIte, Nat.reduceEqDiff, Nat.reduceBEq, reduceCtorEq]) Kg28
  refine qq (Qt.pickAnd rfl rfl rfl) ?_
  refine qr 4 ?_
  refine rb ?_
  simp only [procOk, procS, parentOk, endOk, cpuOk]
  grind only
 try simp only [cnd] at c26
 refine jd (sr ?_)
 refine qq (fA fl72_5) ?_
 refine nm ?_
 refine ql ag29 ?_
 refine qh sl29 ?_
 refine qb ?_
 refine nm ?_
 refine qm ?_
 apply AWL.cut 3
 ·intro Kg29
  refine AWL.split 121 rfl (fun g29 => ?_) (fun g29 => ?_)
  ·have eg29 := g29
   try simp only [cnd] at eg29
   refine qg g29 (fA fl72_8) ?_
   refine qg g29 (Qt.load1 rfl rfl rfl ag3) ?_
   refine nm ?_
   refine qg g29 (Qt.binOp rfl rfl rfl) ?_
   exact wj 124 [122, 123, 124] (ifT g29 _ undef) (by simp only [go_sem, reduceIte, Nat.reduceEqDiff, Nat.reduceBEq, reduceCtorEq]; rfl) Kg29
  ·refine og g29 ?_
   refine og g29 ?_
   refine og g29 ?_
   exact wj 124 [122, 123, 124] (ifF g29 undef _) (by simp only [go_sem, reduceIte, Nat.reduceEqDiff, Nat.reduceBEq, reduceCtorEq]) Kg29
 refine qq (Qt.pickAnd rfl rfl rfl) ?_
 refine qr 4 ?_
 refine rb ?_
 simp only [procOk, procS, parentOk, endOk, cpuOk]
 grind only
end Go.Proofs.YtfbefcmeghpalaaGreat.VM
