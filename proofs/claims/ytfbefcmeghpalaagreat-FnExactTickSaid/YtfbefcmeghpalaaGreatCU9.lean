/- Contracts of functions of the program. No conditions beyond those that each states. -/
import Derived.Test.YtfbefcmeghpalaaGreatCU7
import Derived.Test.YtfbefcmeghpalaaGreatCU8
set_option linter.all false
set_option maxHeartbeats 8000000
set_option maxRecDepth 10000
namespace Go.Proofs.YtfbefcmeghpalaaGreat.VM
open Go Go.RowKit Go.Proofs
theorem l6Ready_con (u : DUnix) : Con Tryz.prog 137 [.g [.v (iv u.Next), .v (iv u.Tick), .h base [], .h (base + 1) [], .h (base + 2) [], .h (base + 3) [], .h (base + 4) [], .h (base + 5) [], .h (base + 6) []]] [.rt base .ro (tr u.Progs), .rt (base + 1) .ro (tr u.Procs), .rt (base + 2) .ro (tr u.Opens), .rt (base + 3) .ro (tr u.Pipes), .rt (base + 4) .ro (tr u.Files), .rt (base + 5) .ro (tr u.Ready), .rt (base + 6) .ro (tr u.Out)] (fun y _ => y = .v (.bool (readyOk u))) := by
 refine ob Tryz.func137 Tryz.ntmps137 ?_
 refine AW.len (base + 1) [] rfl (by simp [Okp]) rfl (fun hl1 => ?_)
 rw [readyOk_eq]
 refine sr ?_
 refine bx ?_
 refine nm ?_
 refine qs' ?_
 refine qn ?_
 refine sr2 ?_
 refine qn ?_
 refine AW.block ?_
 refine AW.loopW (fun i : AIx (readyP u) u.Procs.length => [.sl 4 (.v (iv i.k)), .sl 3 (.v (iv (readyN u.Procs i.k : Nat))), .rt 1 .box (T.s 9 1 fun k c => ([(T.v (iv u.Next), none), (T.v (iv u.Tick), none), (T.j, none), (T.j, none), (T.j, none), (T.j, none), (T.j, none), (T.j, none), (T.j, none)].getD (k * 9 + c) (T.j, none)).fst), .al 1 2 (.h base []), .al 1 3 (.h (base + 1) []), .al 1 4 (.h (base + 2) []), .al 1 5 (.h (base + 3) []), .al 1 6 (.h (base + 4) []), .al 1 7 (.h (base + 5) []), .al 1 8 (.h (base + 6) []), .rt base .ro (tr u.Progs), .rt (base + 1) .ro (tr u.Procs), .rt (base + 2) .ro (tr u.Opens), .rt (base + 3) .ro (tr u.Pipes), .rt (base + 4) .ro (tr u.Files), .rt (base + 5) .ro (tr u.Ready), .rt (base + 6) .ro (tr u.Out), .sl 1 (.p 1 [] 9 0 0)]) (fun i => u.Procs.length - i.k) ⟨0, Nat.zero_le _, fun _ h => absurd h (Nat.not_lt_zero _)⟩ (Weak.sim ⟨rfl, rfl, Rf rfl, ⟨rfl, rfl⟩, ⟨rfl, rfl⟩, ⟨rfl, rfl⟩, ⟨rfl, rfl⟩, ⟨rfl, rfl⟩, ⟨rfl, rfl⟩, ⟨rfl, rfl⟩, Rf rfl, Rf rfl, Rf rfl, Rf rfl, Rf rfl, Rf rfl, Rf rfl, rfl, trivial⟩ rfl rfl) ?_
 intro i
 have hle := i.le
 have hTi : ((i.k : Int) - 1).toNat = i.k - 1 := by omega
 have hm := readyN_le u.Procs i.k
 have hs1 := readyN_succ u.Procs i.k
 refine sr2 ?_
 refine mn ?_
 refine qq (fA fl31_3) ?_
 refine ql ag25 ?_
 refine qh sl25 ?_
 refine nm ?_
 refine qb ?_
 refine nc (fun c1 => ?_) fun c1 => ?_
 ·try simp only [cnd] at c1
  refine jd (AW.seq (AW.block (sr ?_)))
  refine qq (fA fl31_3) ?_
  refine ql ag25 ?_
  refine nm ?_
  refine qm ?_
  refine qq (ix sl25 sz72) ?_
  refine qq (fA fl72_2) ?_
  refine nm ?_
  refine ql ag3 ?_
  refine qb ?_
  refine nc (fun c2 => ?_) fun c2 => ?_
  ·try simp only [cnd] at c2
   refine sr ?_
   refine mn ?_
   refine ba ?_
   refine qn ?_
   refine AW.seq ?_
   refine AW.draw [0, 1, 2, 3, 4, 5, 6, 7, 9] rfl (by decide +kernel) ?_
   refine tk 0 rfl (fA fl31_7) ?_
   refine na ?_
   refine tk 1 rfl (Qt.load1 rfl rfl rfl ag29) ?_
   refine tk 2 rfl (fA fl31_3) ?_
   refine tk 3 rfl (Qt.load1 rfl rfl rfl ag25) ?_
   refine na ?_
   refine tk 4 rfl Qt.move ?_
   refine tk 5 rfl (ix sl25 sz72) ?_
   refine tk 6 rfl (fA fl72_0) ?_
   refine na ?_
   refine tk 7 rfl (Qt.load1 rfl rfl rfl ag3) ?_
   refine a1 8 [] [7, 1, 6, 0, 5, 4, 3, 2] rfl rfl (Stp.callV rfl (by decide) Tryz.call139 rfl rfl (l6Has_con _ _)) ?_
   refine na ?_
   refine na ?_
   refine tk 9 rfl (Qt.notB rfl) ?_
   refine nz ?_
   refine cd (fun c3 => ?_) fun c3 => ?_
   ·try simp only [cnd] at c3
    have hS := i.stop (by omega) (show (readyP u) i.k = false by simp only [readyP]; grind only)
    refine sr ?_
    refine qr 2 ?_
    refine rb ?_
    grind only
   try simp only [cnd] at c3
   refine jd (AW.region ?_)
   refine mn ?_
   refine ba ?_
   refine qn ?_
   refine ⟨⟨i.k + 1, by omega, i.next (show (readyP u) i.k = true by simp only [readyP]; grind only)⟩, Weak.sim ⟨st1, by simp only [slotL, reduceIte, Nat.reduceEqDiff]; congr 2; rw [hs1]; grind only, Rf rfl, ⟨rfl, rfl⟩, ⟨rfl, rfl⟩, ⟨rfl, rfl⟩, ⟨rfl, rfl⟩, ⟨rfl, rfl⟩, ⟨rfl, rfl⟩, ⟨rfl, rfl⟩, Rf rfl, Rf rfl, Rf rfl, Rf rfl, Rf rfl, Rf rfl, Rf rfl, rfl, trivial⟩ rfl rfl, ?_⟩
   show u.Procs.length - (i.k + 1) < u.Procs.length - i.k
   omega
  try simp only [cnd] at c2
  refine jd (AW.region ?_)
  refine mn ?_
  refine ba ?_
  refine qn ?_
  refine ⟨⟨i.k + 1, by omega, i.next (show (readyP u) i.k = true by simp only [readyP]; grind only)⟩, Weak.sim ⟨st1, by simp only [slotL, reduceIte, Nat.reduceEqDiff]; congr 2; rw [hs1]; grind only, Rf rfl, ⟨rfl, rfl⟩, ⟨rfl, rfl⟩, ⟨rfl, rfl⟩, ⟨rfl, rfl⟩, ⟨rfl, rfl⟩, ⟨rfl, rfl⟩, ⟨rfl, rfl⟩, Rf rfl, Rf rfl, Rf rfl, Rf rfl, Rf rfl, Rf rfl, Rf rfl, rfl, trivial⟩ rfl rfl, ?_⟩
  show u.Procs.length - (i.k + 1) < u.Procs.length - i.k
  omega
 try simp only [cnd] at c1
 have hA := i.full (by omega)
 have hR : readyN u.Procs i.k = readyN u.Procs u.Procs.length := congrArg (readyN u.Procs) (show i.k = u.Procs.length by omega)
 refine AW.exit ?_
 dsimp only [thenQ, blockQ, reduceIte]
 refine sr ?_
 refine mn ?_
 refine qq (fA fl31_7) ?_
 refine ql ag29 ?_
 refine qh sl29 ?_
 refine nm ?_
 refine qb ?_
 refine qr 2 ?_
 refine rb ?_
 grind only
theorem UnixOkS_con (u : DUnix) (hb : unixB u) : Con Tryz.prog 60 [.g [.v (iv u.Next), .v (iv u.Tick), .h base [], .h (base + 1) [], .h (base + 2) [], .h (base + 3) [], .h (base + 4) [], .h (base + 5) [], .h (base + 6) []]] [.rt base .ro (tr u.Progs), .rt (base + 1) .ro (tr u.Procs), .rt (base + 2) .ro (tr u.Opens), .rt (base + 3) .ro (tr u.Pipes), .rt (base + 4) .ro (tr u.Files), .rt (base + 5) .ro (tr u.Ready), .rt (base + 6) .ro (tr u.Out)] (fun y _ => y = .v (.bool (unixOk u))) := by
 refine ob Tryz.func60 Tryz.ntmps60 ?_
 refine AW.len (base + 1) [] rfl (by simp [Okp]) rfl (fun hl1 => ?_)
 have hpb := pages_bd hb
 refine sr ?_
 refine bx ?_
 refine nm ?_
 refine qn ?_
 refine sr2 ?_
 refine qq (fA fl31_0) ?_
 refine ql ag3 ?_
 refine nm ?_
 refine cv Tryz.call131 rfl rfl (l1In_con _ _ _) ?_
 refine nm ?_
 refine qq (Qt.notB rfl) ?_
 refine qm ?_
 apply AWL.cut 4
 ·intro Kg1
  refine AWL.splitF 9 rfl (fun g1 => ?_) (fun g1 => ?_)
  ·refine qg (nF g1) (fA fl31_1) ?_
   refine nm ?_
   refine qg (nF g1) (Qt.load1 rfl rfl rfl ag3) ?_
   refine AWL.step rfl (nF g1) (Stp.callV rfl (by decide) Tryz.call131 rfl rfl (l1In_con _ _ _)) ?_
   refine nm ?_
   refine qg (nF g1) (Qt.notB rfl) ?_
   exact wj 13 [10, 11, 12, 13] (ifF g1 _ undef) (by simp only [go_sem, reduceIte, Nat.reduceEqDiff, Nat.reduceBEq, reduceCtorEq]; rfl) Kg1
  ·refine og (nT g1) ?_
   refine og (nT g1) ?_
   refine og (nT g1) ?_
   refine og (nT g1) ?_
   exact wj 13 [10, 11, 12, 13] (ifT g1 undef _) (by simp only [go_sem, reduceIte, Nat.reduceEqDiff, Nat.reduceBEq, reduceCtorEq]) Kg1
 refine qq (Qt.pickOr rfl rfl rfl) ?_
 refine mn ?_
 apply AWL.cut 4
 ·intro Kg2
  refine AWL.splitF 15 rfl (fun g2 => ?_) (fun g2 => ?_)
  ·refine qg (nF g2) (fA fl31_2) ?_
   refine qg (nF g2) (Qt.load1 rfl rfl rfl ag24) ?_
   refine AWL.step rfl (nF g2) (Stp.callV rfl (by decide) Tryz.call132 rfl rfl (l6Progs_con _)) ?_
   refine nm ?_
   refine qg (nF g2) (Qt.notB rfl) ?_
   exact wj 19 [16, 17, 18, 19] (ifF g2 _ undef) (by simp only [go_sem, reduceIte, Nat.reduceEqDiff, Nat.reduceBEq, reduceCtorEq]; rfl) Kg2
  ·refine og (nT g2) ?_
   refine og (nT g2) ?_
   refine og (nT g2) ?_
   refine og (nT g2) ?_
   exact wj 19 [16, 17, 18, 19] (ifT g2 undef _) (by simp only [go_sem, reduceIte, Nat.reduceEqDiff, Nat.reduceBEq, reduceCtorEq]) Kg2
 refine qq (Qt.pickOr rfl rfl rfl) ?_
 refine mn ?_
 apply AWL.cut 4
 ·intro Kg3
  refine AWL.splitF 21 rfl (fun g3 => ?_) (fun g3 => ?_)
  ·refine qg (nF g3) (fA fl31_8) ?_
   refine qg (nF g3) (Qt.load1 rfl rfl rfl ag29) ?_
   refine qg (nF g3) (Qt.lenH rfl rfl rfl sl29) ?_
   refine nm ?_
   refine qg (nF g3) (Qt.binOp rfl rfl rfl) ?_
   exact wj 25 [22, 23, 24, 25] (ifF g3 _ undef) (by simp only [go_sem, reduceIte, Nat.reduceEqDiff, Nat.reduceBEq, reduceCtorEq]; rfl) Kg3
  ·refine og (nT g3) ?_
   refine og (nT g3) ?_
   refine og (nT g3) ?_
   refine og (nT g3) ?_
   exact wj 25 [22, 23, 24, 25] (ifT g3 undef _) (by simp only [go_sem, reduceIte, Nat.reduceEqDiff, Nat.reduceBEq, reduceCtorEq]) Kg3
 refine qq (Qt.pickOr rfl rfl rfl) ?_
 refine mn ?_
 apply AWL.cut 4
 ·intro Kg4
  refine AWL.splitF 27 rfl (fun g4 => ?_) (fun g4 => ?_)
  ·refine qg (nF g4) (fA fl31_8) ?_
   refine qg (nF g4) (Qt.load1 rfl rfl rfl ag29) ?_
   refine AWL.step rfl (nF g4) (Stp.callV rfl (by decide) Tryz.call133 rfl rfl (l5Words_con _)) ?_
   refine nm ?_
   refine qg (nF g4) (Qt.notB rfl) ?_
   exact wj 31 [28, 29, 30, 31] (ifF g4 _ undef) (by simp only [go_sem, reduceIte, Nat.reduceEqDiff, Nat.reduceBEq, reduceCtorEq]; rfl) Kg4
  ·refine og (nT g4) ?_
   refine og (nT g4) ?_
   refine og (nT g4) ?_
   refine og (nT g4) ?_
   exact wj 31 [28, 29, 30, 31] (ifT g4 undef _) (by simp only [go_sem, reduceIte, Nat.reduceEqDiff, Nat.reduceBEq, reduceCtorEq]) Kg4
 refine qq (Qt.pickOr rfl rfl rfl) ?_
 refine mn ?_
 apply AWL.cut 4
 ·intro Kg5
  refine AWL.splitF 33 rfl (fun g5 => ?_) (fun g5 => ?_)
  ·refine qg (nF g5) (fA fl31_3) ?_
   refine qg (nF g5) (Qt.load1 rfl rfl rfl ag25) ?_
   refine qg (nF g5) (Qt.lenH rfl rfl rfl sl25) ?_
   refine nm ?_
   refine qg (nF g5) (Qt.binOp rfl rfl rfl) ?_
   exact wj 37 [34, 35, 36, 37] (ifF g5 _ undef) (by simp only [go_sem, reduceIte, Nat.reduceEqDiff, Nat.reduceBEq, reduceCtorEq]; rfl) Kg5
  ·refine og (nT g5) ?_
   refine og (nT g5) ?_
   refine og (nT g5) ?_
   refine og (nT g5) ?_
   exact wj 37 [34, 35, 36, 37] (ifT g5 undef _) (by simp only [go_sem, reduceIte, Nat.reduceEqDiff, Nat.reduceBEq, reduceCtorEq]) Kg5
 refine qq (Qt.pickOr rfl rfl rfl) ?_
 refine mn ?_
 apply AWL.cut 3
 ·intro Kg6
  refine AWL.splitF 39 rfl (fun g6 => ?_) (fun g6 => ?_)
  ·refine qg (nF g6) (Qt.loadG rfl rfl rfl ag31 sz31 (by decide)) ?_
   refine AWL.step rfl (nF g6) (Stp.callV rfl (by decide) Tryz.call134 rfl rfl (l6Pages_con u hb)) ?_
   refine nm ?_
   refine qg (nF g6) (Qt.binOp rfl rfl rfl) ?_
   exact wj 42 [40, 41, 42] (ifF g6 _ undef) (by simp only [go_sem, reduceIte, Nat.reduceEqDiff, Nat.reduceBEq, reduceCtorEq]; rfl) Kg6
  ·refine og (nT g6) ?_
   refine og (nT g6) ?_
   refine og (nT g6) ?_
   exact wj 42 [40, 41, 42] (ifT g6 undef _) (by simp only [go_sem, reduceIte, Nat.reduceEqDiff, Nat.reduceBEq, reduceCtorEq]) Kg6
 refine qq (Qt.pickOr rfl rfl rfl) ?_
 refine nc (fun c7 => ?_) fun c7 => ?_
 ·try simp only [cnd] at c7
  refine sr ?_
  refine qr 2 ?_
  refine rb ?_
  simp only [unixOk, headOk, thingsOk, procsOk_eq]
  grind only
 try simp only [cnd] at c7
 refine jd (sr2 ?_)
 refine qn ?_
 refine AW.block ?_
 refine AW.loopW (fun i : AIx (procP u) u.Procs.length => [.sl 3 (.v (iv i.k)), .rt 1 .box (T.s 9 1 fun k c => ([(T.v (iv u.Next), none), (T.v (iv u.Tick), none), (T.j, none), (T.j, none), (T.j, none), (T.j, none), (T.j, none), (T.j, none), (T.j, none)].getD (k * 9 + c) (T.j, none)).fst), .al 1 2 (.h base []), .al 1 3 (.h (base + 1) []), .al 1 4 (.h (base + 2) []), .al 1 5 (.h (base + 3) []), .al 1 6 (.h (base + 4) []), .al 1 7 (.h (base + 5) []), .al 1 8 (.h (base + 6) []), .rt base .ro (tr u.Progs), .rt (base + 1) .ro (tr u.Procs), .rt (base + 2) .ro (tr u.Opens), .rt (base + 3) .ro (tr u.Pipes), .rt (base + 4) .ro (tr u.Files), .rt (base + 5) .ro (tr u.Ready), .rt (base + 6) .ro (tr u.Out), .sl 1 (.p 1 [] 9 0 0)]) (fun i => u.Procs.length - i.k) ⟨0, Nat.zero_le _, fun _ h => absurd h (Nat.not_lt_zero _)⟩ (Weak.sim ⟨rfl, Rf rfl, ⟨rfl, rfl⟩, ⟨rfl, rfl⟩, ⟨rfl, rfl⟩, ⟨rfl, rfl⟩, ⟨rfl, rfl⟩, ⟨rfl, rfl⟩, ⟨rfl, rfl⟩, Rf rfl, Rf rfl, Rf rfl, Rf rfl, Rf rfl, Rf rfl, Rf rfl, rfl, trivial⟩ rfl rfl) ?_
 intro i
 have hle := i.le
 have hTi : ((i.k : Int) - 1).toNat = i.k - 1 := by omega
 refine sr2 ?_
 refine mn ?_
 refine qq (fA fl31_3) ?_
 refine ql ag25 ?_
 refine qh sl25 ?_
 refine nm ?_
 refine qb ?_
 refine nc (fun c8 => ?_) fun c8 => ?_
 ·try simp only [cnd] at c8
  refine jd (AW.seq (AW.block (sr ?_)))
  refine qq (fA fl31_3) ?_
  refine ql ag25 ?_
  refine nm ?_
  refine qm ?_
  refine qq (ix sl25 sz72) ?_
  refine qG ag72 sz72 ?_
  refine nm ?_
  refine sp sA ?_
  refine nm ?_
  refine ss ?_
  refine nl ?_
  refine AW.seq ?_
  refine AW.draw [0, 1, 2, 3, 4, 6, 7, 8, 9, 10, 11, 12, 13, 14, 15, 16, 17, 18, 19, 20, 21, 22, 23, 24, 25, 27, 28] rfl (by decide +kernel) ?_
  refine tk 0 rfl (fA fl72_0) ?_
  refine na ?_
  refine tk 1 rfl (Qt.load1 rfl rfl rfl ag3) ?_
  refine tk 2 rfl (fA fl31_0) ?_
  refine tk 3 rfl (Qt.load1 rfl rfl rfl ag3) ?_
  refine na ?_
  refine tk 4 rfl (Qt.binOp rfl rfl (by first | exact pbSub (by omega) | rfl)) ?_
  refine a1 5 [] [4, 1, 3, 0, 2] rfl rfl (Stp.callV rfl (by decide) Tryz.call131 rfl rfl (l1In_con _ _ _)) ?_
  refine na ?_
  refine na ?_
  refine tk 6 rfl (Qt.notB rfl) ?_
  refine tk 7 rfl Qt.move ?_
  refine AWA.split 63 rfl (fun g9 => ?_) (fun g9 => ?_)
  ·refine tf 8 (nT g9) ?_
   refine na ?_
   refine tf 9 (nT g9) ?_
   refine tf 10 (nT g9) ?_
   refine tf 11 rfl ?_
   refine na ?_
   refine tf 12 rfl ?_
   refine tf 13 rfl ?_
   refine tf 14 rfl ?_
   refine na ?_
   refine tf 15 rfl ?_
   refine tf 16 rfl ?_
   refine tf 17 rfl ?_
   refine na ?_
   refine tf 18 rfl ?_
   refine tf 19 rfl ?_
   refine tf 20 rfl ?_
   refine na ?_
   refine tf 21 (nT g9) ?_
   refine tk 22 rfl (Qt.pickT rfl g9) ?_
   refine tk 23 rfl Qt.move ?_
   refine na ?_
   refine AWA.split 79 rfl (fun g10 => ?_) (fun g10 => ?_)
   ·refine tf 24 (nT g10) ?_
    refine tf 25 (nT g10) ?_
    refine o1 26 [] [25, 24, 23, 22, 10, 21, 7, 9, 20, 6, 5, 8, 19, 17, 4, 1, 18, 16, 3, 0, 15, 2, 14, 12, 13, 11] rfl (nT g10) ?_
    refine na ?_
    refine na ?_
    refine tf 27 (nT g10) ?_
    refine tk 28 rfl (Qt.pickT rfl g10) ?_
    refine nz ?_
    refine cd (fun c11 => ?_) fun c11 => ?_
    ·try simp only [cnd] at c11
     have hS := i.stop (by omega) (show (procP u) i.k = false by simp only [procP, rises, pidOf, procOk]; grind only)
     refine sr ?_
     refine qr 2 ?_
     refine rb ?_
     simp only [unixOk, headOk, thingsOk, procsOk_eq]
     grind only
    try simp only [cnd] at c11
    refine jd (AW.region ?_)
    refine mn ?_
    refine ba ?_
    refine qn ?_
    refine ⟨⟨i.k + 1, by omega, i.next (show (procP u) i.k = true by simp only [procP, rises, pidOf, procOk]; grind only)⟩, Weak.sim ⟨st1, Rf rfl, ⟨rfl, rfl⟩, ⟨rfl, rfl⟩, ⟨rfl, rfl⟩, ⟨rfl, rfl⟩, ⟨rfl, rfl⟩, ⟨rfl, rfl⟩, ⟨rfl, rfl⟩, Rf rfl, Rf rfl, Rf rfl, Rf rfl, Rf rfl, Rf rfl, Rf rfl, rfl, trivial⟩ rfl rfl, ?_⟩
    show u.Procs.length - (i.k + 1) < u.Procs.length - i.k
    omega
   refine tg 24 rfl (nF g10) (Qt.loadG rfl rfl rfl ag31 sz31 (by decide)) ?_
   refine na ?_
   refine tg 25 rfl (nF g10) (Qt.loadG rfl rfl rfl ag72 sz72 (by decide)) ?_
   refine a1 26 [] [25, 24, 23, 22, 10, 21, 7, 9, 20, 6, 5, 8, 19, 17, 4, 1, 18, 16, 3, 0, 15, 2, 14, 12, 13, 11] rfl (nF g10) (Stp.callV rfl (by decide) Tryz.call135 rfl rfl (l6ProcOk_con u _)) ?_
   refine na ?_
   refine na ?_
   refine tg 27 rfl (nF g10) (Qt.notB rfl) ?_
   refine tk 28 rfl (Qt.pickF rfl g10) ?_
   refine nz ?_
   refine cd (fun c12 => ?_) fun c12 => ?_
   ·try simp only [cnd] at c12
    have hS := i.stop (by omega) (show (procP u) i.k = false by simp only [procP, rises, pidOf, procOk]; grind only)
    refine sr ?_
    refine qr 2 ?_
    refine rb ?_
    simp only [unixOk, headOk, thingsOk, procsOk_eq]
    grind only
   try simp only [cnd] at c12
   refine jd (AW.region ?_)
   refine mn ?_
   refine ba ?_
   refine qn ?_
   refine ⟨⟨i.k + 1, by omega, i.next (show (procP u) i.k = true by simp only [procP, rises, pidOf, procOk]; grind only)⟩, Weak.sim ⟨st1, Rf rfl, ⟨rfl, rfl⟩, ⟨rfl, rfl⟩, ⟨rfl, rfl⟩, ⟨rfl, rfl⟩, ⟨rfl, rfl⟩, ⟨rfl, rfl⟩, ⟨rfl, rfl⟩, Rf rfl, Rf rfl, Rf rfl, Rf rfl, Rf rfl, Rf rfl, Rf rfl, rfl, trivial⟩ rfl rfl, ?_⟩
   show u.Procs.length - (i.k + 1) < u.Procs.length - i.k
   omega
  refine tg 8 rfl (nF g9) Qt.move ?_
  refine na ?_
  refine tg 9 rfl (nF g9) (Qt.binOp rfl rfl rfl) ?_
  refine tg 10 rfl (nF g9) Qt.move ?_
  refine AWA.split 66 rfl (fun g13 => ?_) (fun g13 => ?_)
  ·refine tg 11 rfl g13 (fA fl31_3) ?_
   refine na ?_
   refine tg 12 rfl g13 (Qt.load1 rfl rfl rfl ag25) ?_
   refine tg 13 rfl g13 Qt.move ?_
   refine tg 14 rfl g13 (Qt.binOp rfl rfl (by first | exact pbSub (by omega) | rfl)) ?_
   refine na ?_
   refine tg 15 rfl g13 (ix sl25 sz72) ?_
   refine tg 16 rfl g13 (fA fl72_0) ?_
   refine tg 17 rfl g13 (Qt.load1 rfl rfl rfl ag3) ?_
   refine na ?_
   refine tg 18 rfl g13 (fA fl72_0) ?_
   refine tg 19 rfl g13 (Qt.load1 rfl rfl rfl ag3) ?_
   refine tg 20 rfl g13 (Qt.binOp rfl rfl rfl) ?_
   refine na ?_
   refine tg 21 rfl (nF g9) (Qt.pickT rfl g13) ?_
   refine tk 22 rfl (Qt.pickF rfl g9) ?_
   refine tk 23 rfl Qt.move ?_
   refine na ?_
   refine AWA.split 79 rfl (fun g14 => ?_) (fun g14 => ?_)
   ·refine tf 24 (nT g14) ?_
    refine tf 25 (nT g14) ?_
    refine o1 26 [] [25, 24, 23, 22, 10, 21, 7, 9, 20, 6, 5, 8, 19, 17, 4, 1, 18, 16, 3, 0, 15, 2, 14, 12, 13, 11] rfl (nT g14) ?_
    refine na ?_
    refine na ?_
    refine tf 27 (nT g14) ?_
    refine tk 28 rfl (Qt.pickT rfl g14) ?_
    refine nz ?_
    refine cd (fun c15 => ?_) fun c15 => ?_
    ·try simp only [cnd] at c15
     have hS := i.stop (by omega) (show (procP u) i.k = false by simp only [procP, rises, pidOf, procOk]; grind only)
     refine sr ?_
     refine qr 2 ?_
     refine rb ?_
     simp only [unixOk, headOk, thingsOk, procsOk_eq]
     grind only
    try simp only [cnd] at c15
    refine jd (AW.region ?_)
    refine mn ?_
    refine ba ?_
    refine qn ?_
    refine ⟨⟨i.k + 1, by omega, i.next (show (procP u) i.k = true by simp only [procP, rises, pidOf, procOk]; grind only)⟩, Weak.sim ⟨st1, Rf rfl, ⟨rfl, rfl⟩, ⟨rfl, rfl⟩, ⟨rfl, rfl⟩, ⟨rfl, rfl⟩, ⟨rfl, rfl⟩, ⟨rfl, rfl⟩, ⟨rfl, rfl⟩, Rf rfl, Rf rfl, Rf rfl, Rf rfl, Rf rfl, Rf rfl, Rf rfl, rfl, trivial⟩ rfl rfl, ?_⟩
    show u.Procs.length - (i.k + 1) < u.Procs.length - i.k
    omega
   refine tg 24 rfl (nF g14) (Qt.loadG rfl rfl rfl ag31 sz31 (by decide)) ?_
   refine na ?_
   refine tg 25 rfl (nF g14) (Qt.loadG rfl rfl rfl ag72 sz72 (by decide)) ?_
   refine a1 26 [] [25, 24, 23, 22, 10, 21, 7, 9, 20, 6, 5, 8, 19, 17, 4, 1, 18, 16, 3, 0, 15, 2, 14, 12, 13, 11] rfl (nF g14) (Stp.callV rfl (by decide) Tryz.call135 rfl rfl (l6ProcOk_con u _)) ?_
   refine na ?_
   refine na ?_
   refine tg 27 rfl (nF g14) (Qt.notB rfl) ?_
   refine tk 28 rfl (Qt.pickF rfl g14) ?_
   refine nz ?_
   refine cd (fun c16 => ?_) fun c16 => ?_
   ·try simp only [cnd] at c16
    have hS := i.stop (by omega) (show (procP u) i.k = false by simp only [procP, rises, pidOf, procOk]; grind only)
    refine sr ?_
    refine qr 2 ?_
    refine rb ?_
    simp only [unixOk, headOk, thingsOk, procsOk_eq]
    grind only
   try simp only [cnd] at c16
   refine jd (AW.region ?_)
   refine mn ?_
   refine ba ?_
   refine qn ?_
   refine ⟨⟨i.k + 1, by omega, i.next (show (procP u) i.k = true by simp only [procP, rises, pidOf, procOk]; grind only)⟩, Weak.sim ⟨st1, Rf rfl, ⟨rfl, rfl⟩, ⟨rfl, rfl⟩, ⟨rfl, rfl⟩, ⟨rfl, rfl⟩, ⟨rfl, rfl⟩, ⟨rfl, rfl⟩, ⟨rfl, rfl⟩, Rf rfl, Rf rfl, Rf rfl, Rf rfl, Rf rfl, Rf rfl, Rf rfl, rfl, trivial⟩ rfl rfl, ?_⟩
   show u.Procs.length - (i.k + 1) < u.Procs.length - i.k
   omega
  refine tf 11 g13 ?_
  refine na ?_
  refine tf 12 g13 ?_
  refine tf 13 g13 ?_
  refine tf 14 g13 ?_
  refine na ?_
  refine tf 15 g13 ?_
  refine tf 16 g13 ?_
  refine tf 17 g13 ?_
  refine na ?_
  refine tf 18 g13 ?_
  refine tf 19 g13 ?_
  refine tf 20 g13 ?_
  refine na ?_
  refine tg 21 rfl (nF g9) (Qt.pickF rfl g13) ?_
  refine tk 22 rfl (Qt.pickF rfl g9) ?_
  refine tk 23 rfl Qt.move ?_
  refine na ?_
  refine AWA.split 79 rfl (fun g17 => ?_) (fun g17 => ?_)
  ·refine tf 24 (nT g17) ?_
   refine tf 25 (nT g17) ?_
   refine o1 26 [] [25, 24, 23, 22, 10, 21, 7, 9, 20, 6, 5, 8, 19, 17, 4, 1, 18, 16, 3, 0, 15, 2, 14, 12, 13, 11] rfl (nT g17) ?_
   refine na ?_
   refine na ?_
   refine tf 27 (nT g17) ?_
   refine tk 28 rfl (Qt.pickT rfl g17) ?_
   refine nz ?_
   refine cd (fun c18 => ?_) fun c18 => ?_
   ·try simp only [cnd] at c18
    have hS := i.stop (by omega) (show (procP u) i.k = false by simp only [procP, rises, pidOf, procOk]; grind only)
    refine sr ?_
    refine qr 2 ?_
    refine rb ?_
    simp only [unixOk, headOk, thingsOk, procsOk_eq]
    grind only
   try simp only [cnd] at c18
   refine jd (AW.region ?_)
   refine mn ?_
   refine ba ?_
   refine qn ?_
   refine ⟨⟨i.k + 1, by omega, i.next (show (procP u) i.k = true by simp only [procP, rises, pidOf, procOk]; grind only)⟩, Weak.sim ⟨st1, Rf rfl, ⟨rfl, rfl⟩, ⟨rfl, rfl⟩, ⟨rfl, rfl⟩, ⟨rfl, rfl⟩, ⟨rfl, rfl⟩, ⟨rfl, rfl⟩, ⟨rfl, rfl⟩, Rf rfl, Rf rfl, Rf rfl, Rf rfl, Rf rfl, Rf rfl, Rf rfl, rfl, trivial⟩ rfl rfl, ?_⟩
   show u.Procs.length - (i.k + 1) < u.Procs.length - i.k
   omega
  refine tg 24 rfl (nF g17) (Qt.loadG rfl rfl rfl ag31 sz31 (by decide)) ?_
  refine na ?_
  refine tg 25 rfl (nF g17) (Qt.loadG rfl rfl rfl ag72 sz72 (by decide)) ?_
  refine a1 26 [] [25, 24, 23, 22, 10, 21, 7, 9, 20, 6, 5, 8, 19, 17, 4, 1, 18, 16, 3, 0, 15, 2, 14, 12, 13, 11] rfl (nF g17) (Stp.callV rfl (by decide) Tryz.call135 rfl rfl (l6ProcOk_con u _)) ?_
  refine na ?_
  refine na ?_
  refine tg 27 rfl (nF g17) (Qt.notB rfl) ?_
  refine tk 28 rfl (Qt.pickF rfl g17) ?_
  refine nz ?_
  refine cd (fun c19 => ?_) fun c19 => ?_
  ·try simp only [cnd] at c19
   have hS := i.stop (by omega) (show (procP u) i.k = false by simp only [procP, rises, pidOf, procOk]; grind only)
   refine sr ?_
   refine qr 2 ?_
   refine rb ?_
   simp only [unixOk, headOk, thingsOk, procsOk_eq]
   grind only
  try simp only [cnd] at c19
  refine jd (AW.region ?_)
  refine mn ?_
  refine ba ?_
  refine qn ?_
  refine ⟨⟨i.k + 1, by omega, i.next (show (procP u) i.k = true by simp only [procP, rises, pidOf, procOk]; grind only)⟩, Weak.sim ⟨st1, Rf rfl, ⟨rfl, rfl⟩, ⟨rfl, rfl⟩, ⟨rfl, rfl⟩, ⟨rfl, rfl⟩, ⟨rfl, rfl⟩, ⟨rfl, rfl⟩, ⟨rfl, rfl⟩, Rf rfl, Rf rfl, Rf rfl, Rf rfl, Rf rfl, Rf rfl, Rf rfl, rfl, trivial⟩ rfl rfl, ?_⟩
  show u.Procs.length - (i.k + 1) < u.Procs.length - i.k
  omega
 try simp only [cnd] at c8
 have hA := i.full (by omega)
 refine AW.exit ?_
 dsimp only [thenQ, blockQ, reduceIte]
 refine sr ?_
 refine qG ag31 sz31 ?_
 refine nm ?_
 refine cv Tryz.call136 rfl rfl (l6Things_con u hb) ?_
 refine nm ?_
 refine qm ?_
 apply AWL.cut 2
 ·intro Kg20
  refine AWL.split 87 rfl (fun g20 => ?_) (fun g20 => ?_)
  ·refine qg g20 (Qt.loadG rfl rfl rfl ag31 sz31 (by decide)) ?_
   refine AWL.step rfl g20 (Stp.callV rfl (by decide) Tryz.call137 rfl rfl (l6Ready_con u)) ?_
   refine nm ?_
   exact wj 89 [88, 89] (ifT g20 _ undef) (by simp only [go_sem, reduceIte, Nat.reduceEqDiff, Nat.reduceBEq, reduceCtorEq]; rfl) Kg20
  ·refine og g20 ?_
   refine og g20 ?_
   exact wj 89 [88, 89] (ifF g20 undef _) (by simp only [go_sem, reduceIte, Nat.reduceEqDiff, Nat.reduceBEq, reduceCtorEq]) Kg20
 refine qq (Qt.pickAnd rfl rfl rfl) ?_
 refine qr 2 ?_
 refine rb ?_
 simp only [unixOk, headOk, thingsOk, procsOk_eq]
 grind only
end Go.Proofs.YtfbefcmeghpalaaGreat.VM
