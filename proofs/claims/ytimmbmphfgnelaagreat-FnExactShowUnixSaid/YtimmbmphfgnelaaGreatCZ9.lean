/- Contracts of functions of the program. No conditions beyond those that each states. -/
import Derived.Test.YtimmbmphfgnelaaGreatCZ7
import Derived.Test.YtimmbmphfgnelaaGreatCZ8
set_option linter.all false
namespace Go.Proofs.YtimmbmphfgnelaaGreat.VM
open Go Go.RowKit Go.Proofs
set_option maxHeartbeats 8000000 in
set_option maxRecDepth 10000 in
theorem l6Ready_con (u : DUnix) : Con Tryz.prog 49 [.g [.v (iv u.Next), .v (iv u.Tick), .h base [], .h (base + 1) [], .h (base + 2) [], .h (base + 3) [], .h (base + 4) [], .h (base + 5) [], .h (base + 6) []]] [.rt base .ro (tr u.Progs), .rt (base + 1) .ro (tr u.Procs), .rt (base + 2) .ro (tr u.Opens), .rt (base + 3) .ro (tr u.Pipes), .rt (base + 4) .ro (tr u.Files), .rt (base + 5) .ro (tr u.Ready), .rt (base + 6) .ro (tr u.Out)] (fun y _ => y = .v (.bool (readyOk u))) := by
 refine Con.of_body Tryz.func49 rfl (by simp) ?_
 rw [Tryz.ntmps49]
 refine AW.len (base + 1) [] rfl (by simp [Okp]) rfl (fun hl1 => ?_)
 rw [readyOk_eq]
 refine AW.seq (AW.region ?_)
 refine sp (Stp.boxB rfl (by decide) (by decide) rfl rfl rfl rfl) ?_
 refine nm ?_
 refine qq Qt.assign ?_
 refine nl ?_
 refine AW.seq (AW.region ?_)
 refine qq Qt.assign ?_
 refine nl ?_
 refine AW.seq (AW.seq (AW.region ?_))
 refine qq Qt.assign ?_
 refine nl ?_
 refine AW.block ?_
 refine AW.loopW (fun i : AIx (readyP u) u.Procs.length => [.sl 4 (.v (iv i.k)), .sl 3 (.v (iv (readyN u.Procs i.k : Nat))), .rt 1 .box (T.s 9 1 fun k c => ([(T.v (iv u.Next), none), (T.v (iv u.Tick), none), (T.j, none), (T.j, none), (T.j, none), (T.j, none), (T.j, none), (T.j, none), (T.j, none)].getD (k * 9 + c) (T.j, none)).fst), .al 1 2 (.h base []), .al 1 3 (.h (base + 1) []), .al 1 4 (.h (base + 2) []), .al 1 5 (.h (base + 3) []), .al 1 6 (.h (base + 4) []), .al 1 7 (.h (base + 5) []), .al 1 8 (.h (base + 6) []), .rt base .ro (tr u.Progs), .rt (base + 1) .ro (tr u.Procs), .rt (base + 2) .ro (tr u.Opens), .rt (base + 3) .ro (tr u.Pipes), .rt (base + 4) .ro (tr u.Files), .rt (base + 5) .ro (tr u.Ready), .rt (base + 6) .ro (tr u.Out), .sl 1 (.p 1 [] 9 0 0)]) (fun i => u.Procs.length - i.k) ⟨0, Nat.zero_le _, fun _ h => absurd h (Nat.not_lt_zero _)⟩ (Weak.sim ⟨rfl, rfl, Rf rfl, ⟨rfl, rfl⟩, ⟨rfl, rfl⟩, ⟨rfl, rfl⟩, ⟨rfl, rfl⟩, ⟨rfl, rfl⟩, ⟨rfl, rfl⟩, ⟨rfl, rfl⟩, Rf rfl, Rf rfl, Rf rfl, Rf rfl, Rf rfl, Rf rfl, Rf rfl, rfl, trivial⟩ rfl rfl) ?_
 intro i
 have hle := i.le
 have hTi : ((i.k : Int) - 1).toNat = i.k - 1 := by omega
 have hm := readyN_le u.Procs i.k
 have hs1 := readyN_succ u.Procs i.k
 refine AW.seq (AW.seq (AW.region ?_))
 refine qq Qt.move ?_
 refine nm ?_
 refine qq (fA fl38_3) ?_
 refine qq (Qt.load1 rfl rfl rfl ag33) ?_
 refine qq (Qt.lenH rfl rfl rfl sl33) ?_
 refine nm ?_
 refine qq (Qt.binOp rfl rfl rfl) ?_
 refine nl ?_
 refine AW.cond rfl (fun c1 => ?_) (fun c1 => ?_)
 ·have k1 := c1
  try simp only [cnd] at c1
  refine jd (AW.seq (AW.block (AW.seq (AW.region ?_))))
  refine qq (fA fl38_3) ?_
  refine qq (Qt.load1 rfl rfl rfl ag33) ?_
  refine nm ?_
  refine qq Qt.move ?_
  refine qq (Qt.indexAddr rfl rfl rfl rfl sl33 sz97 (by decide) (by omega)) ?_
  refine qq (fA fl97_2) ?_
  refine nm ?_
  refine qq (Qt.load1 rfl rfl rfl ag3) ?_
  refine qq (Qt.binOp rfl rfl rfl) ?_
  refine nl ?_
  refine AW.cond rfl (fun c2 => ?_) (fun c2 => ?_)
  ·have k2 := c2
   try simp only [cnd] at c2
   refine AW.seq (AW.region ?_)
   refine qq Qt.move ?_
   refine nm ?_
   refine qq (Qt.binOp rfl rfl (by first | exact pbAdd (by omega) | rfl)) ?_
   refine qq Qt.assign ?_
   refine nl ?_
   refine AW.seq ?_
   refine AW.draw [0, 1, 2, 3, 4, 5, 6, 7, 9] rfl (by decide +kernel) ?_
   refine tk 0 rfl (fA fl38_7) ?_
   refine na ?_
   refine tk 1 rfl (Qt.load1 rfl rfl rfl ag27) ?_
   refine tk 2 rfl (fA fl38_3) ?_
   refine tk 3 rfl (Qt.load1 rfl rfl rfl ag33) ?_
   refine na ?_
   refine tk 4 rfl Qt.move ?_
   refine tk 5 rfl (Qt.indexAddr rfl rfl rfl rfl sl33 sz97 (by decide) (by omega)) ?_
   refine tk 6 rfl (fA fl97_0) ?_
   refine na ?_
   refine tk 7 rfl (Qt.load1 rfl rfl rfl ag3) ?_
   refine a1 8 [] [7, 1, 6, 0, 5, 4, 3, 2] rfl rfl (Stp.callV rfl (by decide) Tryz.call167 rfl rfl (l6Has_con _ _)) ?_
   refine na ?_
   refine na ?_
   refine tk 9 rfl (Qt.notB rfl) ?_
   refine nz ?_
   refine AW.cond rfl (fun c3 => ?_) (fun c3 => ?_)
   ·have k3 := c3
    try simp only [cnd] at c3
    have hS := i.stop (by omega) (show (readyP u) i.k = false by simp only [readyP]; grind only)
    refine AW.seq (AW.region ?_)
    refine qq Qt.assign ?_
    refine nl ?_
    refine AW.ret (endQ_ret (.cons (.tmp 2) .nil) ?_)
    refine rb ?_
    grind only
   have k3 := c3
   try simp only [cnd] at c3
   refine jd (AW.region ?_)
   refine qq Qt.move ?_
   refine nm ?_
   refine qq (Qt.binOp rfl rfl (by first | exact pbAdd (by omega) | rfl)) ?_
   refine qq Qt.assign ?_
   refine nl ?_
   refine ⟨⟨i.k + 1, by omega, i.next (show (readyP u) i.k = true by simp only [readyP]; grind only)⟩, Weak.sim ⟨st1, by simp only [slotL, reduceIte, Nat.reduceEqDiff]; congr 2; rw [hs1]; grind only, Rf rfl, ⟨rfl, rfl⟩, ⟨rfl, rfl⟩, ⟨rfl, rfl⟩, ⟨rfl, rfl⟩, ⟨rfl, rfl⟩, ⟨rfl, rfl⟩, ⟨rfl, rfl⟩, Rf rfl, Rf rfl, Rf rfl, Rf rfl, Rf rfl, Rf rfl, Rf rfl, rfl, trivial⟩ rfl rfl, ?_⟩
   show u.Procs.length - (i.k + 1) < u.Procs.length - i.k
   omega
  have k2 := c2
  try simp only [cnd] at c2
  refine jd (AW.region ?_)
  refine qq Qt.move ?_
  refine nm ?_
  refine qq (Qt.binOp rfl rfl (by first | exact pbAdd (by omega) | rfl)) ?_
  refine qq Qt.assign ?_
  refine nl ?_
  refine ⟨⟨i.k + 1, by omega, i.next (show (readyP u) i.k = true by simp only [readyP]; grind only)⟩, Weak.sim ⟨st1, by simp only [slotL, reduceIte, Nat.reduceEqDiff]; congr 2; rw [hs1]; grind only, Rf rfl, ⟨rfl, rfl⟩, ⟨rfl, rfl⟩, ⟨rfl, rfl⟩, ⟨rfl, rfl⟩, ⟨rfl, rfl⟩, ⟨rfl, rfl⟩, ⟨rfl, rfl⟩, Rf rfl, Rf rfl, Rf rfl, Rf rfl, Rf rfl, Rf rfl, Rf rfl, rfl, trivial⟩ rfl rfl, ?_⟩
  show u.Procs.length - (i.k + 1) < u.Procs.length - i.k
  omega
 have k1 := c1
 try simp only [cnd] at c1
 have hA := i.full (by omega)
 have hR : readyN u.Procs i.k = readyN u.Procs u.Procs.length := congrArg (readyN u.Procs) (show i.k = u.Procs.length by omega)
 refine AW.exit ?_
 dsimp only [thenQ, blockQ, reduceIte]
 refine AW.seq (AW.region ?_)
 refine qq Qt.move ?_
 refine nm ?_
 refine qq (fA fl38_7) ?_
 refine qq (Qt.load1 rfl rfl rfl ag27) ?_
 refine qq (Qt.lenH rfl rfl rfl sl27) ?_
 refine nm ?_
 refine qq (Qt.binOp rfl rfl rfl) ?_
 refine qq Qt.assign ?_
 refine nl ?_
 refine AW.ret (endQ_ret (.cons (.tmp 2) .nil) ?_)
 refine rb ?_
 grind only
set_option maxHeartbeats 8000000 in
set_option maxRecDepth 10000 in
theorem UnixOkS_con (u : DUnix) (hb : unixB u) : Con Tryz.prog 11 [.g [.v (iv u.Next), .v (iv u.Tick), .h base [], .h (base + 1) [], .h (base + 2) [], .h (base + 3) [], .h (base + 4) [], .h (base + 5) [], .h (base + 6) []]] [.rt base .ro (tr u.Progs), .rt (base + 1) .ro (tr u.Procs), .rt (base + 2) .ro (tr u.Opens), .rt (base + 3) .ro (tr u.Pipes), .rt (base + 4) .ro (tr u.Files), .rt (base + 5) .ro (tr u.Ready), .rt (base + 6) .ro (tr u.Out)] (fun y _ => y = .v (.bool (unixOk u))) := by
 refine Con.of_body Tryz.func11 rfl (by simp) ?_
 rw [Tryz.ntmps11]
 refine AW.len (base + 1) [] rfl (by simp [Okp]) rfl (fun hl1 => ?_)
 have hpb := pages_bd hb
 refine AW.seq (AW.region ?_)
 refine sp (Stp.boxB rfl (by decide) (by decide) rfl rfl rfl rfl) ?_
 refine nm ?_
 refine qq Qt.assign ?_
 refine nl ?_
 refine AW.seq (AW.seq (AW.region ?_))
 refine qq (fA fl38_0) ?_
 refine qq (Qt.load1 rfl rfl rfl ag3) ?_
 refine nm ?_
 refine cv Tryz.call43 rfl rfl (l1In_con _ _ _) ?_
 refine nm ?_
 refine qq (Qt.notB rfl) ?_
 refine qq Qt.move ?_
 apply AWL.cut 4
 ·intro Kg1
  refine AWL.splitF 9 rfl (fun g1 => ?_) (fun g1 => ?_)
  ·refine qg (nF g1) (fA fl38_1) ?_
   refine nm ?_
   refine qg (nF g1) (Qt.load1 rfl rfl rfl ag3) ?_
   refine AWL.step rfl (nF g1) (Stp.callV rfl (by decide) Tryz.call43 rfl rfl (l1In_con _ _ _)) ?_
   refine nm ?_
   refine qg (nF g1) (Qt.notB rfl) ?_
   exact wj 13 [10, 11, 12, 13] (ifF g1 _ undef) (by simp only [go_sem, Int.reduceToNat, Nat.reduceLT, reduceIte, Nat.reduceEqDiff, Nat.reduceAdd, Nat.reduceMul, Nat.reduceBEq, reduceCtorEq]; rfl) Kg1
  ·refine og (nT g1) ?_
   refine og (nT g1) ?_
   refine og (nT g1) ?_
   refine og (nT g1) ?_
   exact wj 13 [10, 11, 12, 13] (ifT g1 undef _) (by simp only [go_sem, Int.reduceToNat, Nat.reduceLT, reduceIte, Nat.reduceEqDiff, Nat.reduceAdd, Nat.reduceMul, Nat.reduceBEq, reduceCtorEq]) Kg1
 refine qq (Qt.pickOr rfl rfl rfl) ?_
 refine qq Qt.move ?_
 refine nm ?_
 apply AWL.cut 4
 ·intro Kg2
  refine AWL.splitF 15 rfl (fun g2 => ?_) (fun g2 => ?_)
  ·refine qg (nF g2) (fA fl38_2) ?_
   refine qg (nF g2) (Qt.load1 rfl rfl rfl ag32) ?_
   refine AWL.step rfl (nF g2) (Stp.callV rfl (by decide) Tryz.call44 rfl rfl (l6Progs_con _)) ?_
   refine nm ?_
   refine qg (nF g2) (Qt.notB rfl) ?_
   exact wj 19 [16, 17, 18, 19] (ifF g2 _ undef) (by simp only [go_sem, Int.reduceToNat, Nat.reduceLT, reduceIte, Nat.reduceEqDiff, Nat.reduceAdd, Nat.reduceMul, Nat.reduceBEq, reduceCtorEq]; rfl) Kg2
  ·refine og (nT g2) ?_
   refine og (nT g2) ?_
   refine og (nT g2) ?_
   refine og (nT g2) ?_
   exact wj 19 [16, 17, 18, 19] (ifT g2 undef _) (by simp only [go_sem, Int.reduceToNat, Nat.reduceLT, reduceIte, Nat.reduceEqDiff, Nat.reduceAdd, Nat.reduceMul, Nat.reduceBEq, reduceCtorEq]) Kg2
 refine qq (Qt.pickOr rfl rfl rfl) ?_
 refine qq Qt.move ?_
 refine nm ?_
 apply AWL.cut 4
 ·intro Kg3
  refine AWL.splitF 21 rfl (fun g3 => ?_) (fun g3 => ?_)
  ·refine qg (nF g3) (fA fl38_8) ?_
   refine qg (nF g3) (Qt.load1 rfl rfl rfl ag27) ?_
   refine qg (nF g3) (Qt.lenH rfl rfl rfl sl27) ?_
   refine nm ?_
   refine qg (nF g3) (Qt.binOp rfl rfl rfl) ?_
   exact wj 25 [22, 23, 24, 25] (ifF g3 _ undef) (by simp only [go_sem, Int.reduceToNat, Nat.reduceLT, reduceIte, Nat.reduceEqDiff, Nat.reduceAdd, Nat.reduceMul, Nat.reduceBEq, reduceCtorEq]; rfl) Kg3
  ·refine og (nT g3) ?_
   refine og (nT g3) ?_
   refine og (nT g3) ?_
   refine og (nT g3) ?_
   exact wj 25 [22, 23, 24, 25] (ifT g3 undef _) (by simp only [go_sem, Int.reduceToNat, Nat.reduceLT, reduceIte, Nat.reduceEqDiff, Nat.reduceAdd, Nat.reduceMul, Nat.reduceBEq, reduceCtorEq]) Kg3
 refine qq (Qt.pickOr rfl rfl rfl) ?_
 refine qq Qt.move ?_
 refine nm ?_
 apply AWL.cut 4
 ·intro Kg4
  refine AWL.splitF 27 rfl (fun g4 => ?_) (fun g4 => ?_)
  ·refine qg (nF g4) (fA fl38_8) ?_
   refine qg (nF g4) (Qt.load1 rfl rfl rfl ag27) ?_
   refine AWL.step rfl (nF g4) (Stp.callV rfl (by decide) Tryz.call45 rfl rfl (l5Words_con _)) ?_
   refine nm ?_
   refine qg (nF g4) (Qt.notB rfl) ?_
   exact wj 31 [28, 29, 30, 31] (ifF g4 _ undef) (by simp only [go_sem, Int.reduceToNat, Nat.reduceLT, reduceIte, Nat.reduceEqDiff, Nat.reduceAdd, Nat.reduceMul, Nat.reduceBEq, reduceCtorEq]; rfl) Kg4
  ·refine og (nT g4) ?_
   refine og (nT g4) ?_
   refine og (nT g4) ?_
   refine og (nT g4) ?_
   exact wj 31 [28, 29, 30, 31] (ifT g4 undef _) (by simp only [go_sem, Int.reduceToNat, Nat.reduceLT, reduceIte, Nat.reduceEqDiff, Nat.reduceAdd, Nat.reduceMul, Nat.reduceBEq, reduceCtorEq]) Kg4
 refine qq (Qt.pickOr rfl rfl rfl) ?_
 refine qq Qt.move ?_
 refine nm ?_
 apply AWL.cut 4
 ·intro Kg5
  refine AWL.splitF 33 rfl (fun g5 => ?_) (fun g5 => ?_)
  ·refine qg (nF g5) (fA fl38_3) ?_
   refine qg (nF g5) (Qt.load1 rfl rfl rfl ag33) ?_
   refine qg (nF g5) (Qt.lenH rfl rfl rfl sl33) ?_
   refine nm ?_
   refine qg (nF g5) (Qt.binOp rfl rfl rfl) ?_
   exact wj 37 [34, 35, 36, 37] (ifF g5 _ undef) (by simp only [go_sem, Int.reduceToNat, Nat.reduceLT, reduceIte, Nat.reduceEqDiff, Nat.reduceAdd, Nat.reduceMul, Nat.reduceBEq, reduceCtorEq]; rfl) Kg5
  ·refine og (nT g5) ?_
   refine og (nT g5) ?_
   refine og (nT g5) ?_
   refine og (nT g5) ?_
   exact wj 37 [34, 35, 36, 37] (ifT g5 undef _) (by simp only [go_sem, Int.reduceToNat, Nat.reduceLT, reduceIte, Nat.reduceEqDiff, Nat.reduceAdd, Nat.reduceMul, Nat.reduceBEq, reduceCtorEq]) Kg5
 refine qq (Qt.pickOr rfl rfl rfl) ?_
 refine qq Qt.move ?_
 refine nm ?_
 apply AWL.cut 3
 ·intro Kg6
  refine AWL.splitF 39 rfl (fun g6 => ?_) (fun g6 => ?_)
  ·refine qg (nF g6) (Qt.loadG rfl rfl rfl ag38 sz38 (by decide)) ?_
   refine AWL.step rfl (nF g6) (Stp.callV rfl (by decide) Tryz.call46 rfl rfl (l6Pages_con u hb)) ?_
   refine nm ?_
   refine qg (nF g6) (Qt.binOp rfl rfl rfl) ?_
   exact wj 42 [40, 41, 42] (ifF g6 _ undef) (by simp only [go_sem, Int.reduceToNat, Nat.reduceLT, reduceIte, Nat.reduceEqDiff, Nat.reduceAdd, Nat.reduceMul, Nat.reduceBEq, reduceCtorEq]; rfl) Kg6
  ·refine og (nT g6) ?_
   refine og (nT g6) ?_
   refine og (nT g6) ?_
   exact wj 42 [40, 41, 42] (ifT g6 undef _) (by simp only [go_sem, Int.reduceToNat, Nat.reduceLT, reduceIte, Nat.reduceEqDiff, Nat.reduceAdd, Nat.reduceMul, Nat.reduceBEq, reduceCtorEq]) Kg6
 refine qq (Qt.pickOr rfl rfl rfl) ?_
 refine nl ?_
 refine AW.cond rfl (fun c7 => ?_) (fun c7 => ?_)
 ·have k7 := c7
  try simp only [cnd] at c7
  refine AW.seq (AW.region ?_)
  refine qq Qt.assign ?_
  refine nl ?_
  refine AW.ret (endQ_ret (.cons (.tmp 2) .nil) ?_)
  refine rb ?_
  simp only [unixOk, headOk, thingsOk, procsOk_eq]
  grind only
 have k7 := c7
 try simp only [cnd] at c7
 refine jd (AW.seq (AW.seq (AW.region ?_)))
 refine qq Qt.assign ?_
 refine nl ?_
 refine AW.block ?_
 refine AW.loopW (fun i : AIx (procP u) u.Procs.length => [.sl 3 (.v (iv i.k)), .rt 1 .box (T.s 9 1 fun k c => ([(T.v (iv u.Next), none), (T.v (iv u.Tick), none), (T.j, none), (T.j, none), (T.j, none), (T.j, none), (T.j, none), (T.j, none), (T.j, none)].getD (k * 9 + c) (T.j, none)).fst), .al 1 2 (.h base []), .al 1 3 (.h (base + 1) []), .al 1 4 (.h (base + 2) []), .al 1 5 (.h (base + 3) []), .al 1 6 (.h (base + 4) []), .al 1 7 (.h (base + 5) []), .al 1 8 (.h (base + 6) []), .rt base .ro (tr u.Progs), .rt (base + 1) .ro (tr u.Procs), .rt (base + 2) .ro (tr u.Opens), .rt (base + 3) .ro (tr u.Pipes), .rt (base + 4) .ro (tr u.Files), .rt (base + 5) .ro (tr u.Ready), .rt (base + 6) .ro (tr u.Out), .sl 1 (.p 1 [] 9 0 0)]) (fun i => u.Procs.length - i.k) ⟨0, Nat.zero_le _, fun _ h => absurd h (Nat.not_lt_zero _)⟩ (Weak.sim ⟨rfl, Rf rfl, ⟨rfl, rfl⟩, ⟨rfl, rfl⟩, ⟨rfl, rfl⟩, ⟨rfl, rfl⟩, ⟨rfl, rfl⟩, ⟨rfl, rfl⟩, ⟨rfl, rfl⟩, Rf rfl, Rf rfl, Rf rfl, Rf rfl, Rf rfl, Rf rfl, Rf rfl, rfl, trivial⟩ rfl rfl) ?_
 intro i
 have hle := i.le
 have hTi : ((i.k : Int) - 1).toNat = i.k - 1 := by omega
 refine AW.seq (AW.seq (AW.region ?_))
 refine qq Qt.move ?_
 refine nm ?_
 refine qq (fA fl38_3) ?_
 refine qq (Qt.load1 rfl rfl rfl ag33) ?_
 refine qq (Qt.lenH rfl rfl rfl sl33) ?_
 refine nm ?_
 refine qq (Qt.binOp rfl rfl rfl) ?_
 refine nl ?_
 refine AW.cond rfl (fun c8 => ?_) (fun c8 => ?_)
 ·have k8 := c8
  try simp only [cnd] at c8
  refine jd (AW.seq (AW.block (AW.seq (AW.region ?_))))
  refine qq (fA fl38_3) ?_
  refine qq (Qt.load1 rfl rfl rfl ag33) ?_
  refine nm ?_
  refine qq Qt.move ?_
  refine qq (Qt.indexAddr rfl rfl rfl rfl sl33 sz97 (by decide) (by first | omega | grind only)) ?_
  refine qq (Qt.loadG rfl rfl rfl ag97 sz97 (by decide)) ?_
  refine nm ?_
  refine sp (Stp.alloc rfl (by decide) (by decide)) ?_
  refine nm ?_
  refine ss ?_
  refine nl ?_
  refine AW.seq ?_
  refine AW.draw [0, 1, 2, 3, 4, 6, 7, 8, 9, 10, 11, 12, 13, 14, 15, 16, 17, 18, 19, 20, 21, 22, 23, 24, 25, 27, 28] rfl (by decide +kernel) ?_
  refine tk 0 rfl (fA fl97_0) ?_
  refine na ?_
  refine tk 1 rfl (Qt.load1 rfl rfl rfl ag3) ?_
  refine tk 2 rfl (fA fl38_0) ?_
  refine tk 3 rfl (Qt.load1 rfl rfl rfl ag3) ?_
  refine na ?_
  refine tk 4 rfl (Qt.binOp rfl rfl (by first | exact pbSub (by omega) | rfl)) ?_
  refine a1 5 [] [4, 1, 3, 0, 2] rfl rfl (Stp.callV rfl (by decide) Tryz.call43 rfl rfl (l1In_con _ _ _)) ?_
  refine na ?_
  refine na ?_
  refine tk 6 rfl (Qt.notB rfl) ?_
  refine tk 7 rfl Qt.move ?_
  refine AWA.split 63 rfl (fun g9 => ?_) (fun g9 => ?_)
  ·refine tf 8 (nT g9) ?_
   refine na ?_
   refine tf 9 (nT g9) ?_
   refine tf 10 (nT g9) ?_
   refine tf 11 rfl ?_
   refine na ?_
   refine tf 12 rfl ?_
   refine tf 13 rfl ?_
   refine tf 14 rfl ?_
   refine na ?_
   refine tf 15 rfl ?_
   refine tf 16 rfl ?_
   refine tf 17 rfl ?_
   refine na ?_
   refine tf 18 rfl ?_
   refine tf 19 rfl ?_
   refine tf 20 rfl ?_
   refine na ?_
   refine tf 21 (nT g9) ?_
   refine tk 22 rfl (Qt.pickT rfl g9) ?_
   refine tk 23 rfl Qt.move ?_
   refine na ?_
   refine AWA.split 79 rfl (fun g10 => ?_) (fun g10 => ?_)
   ·refine tf 24 (nT g10) ?_
    refine tf 25 (nT g10) ?_
    refine o1 26 [] [25, 24, 23, 22, 10, 21, 7, 9, 20, 6, 5, 8, 19, 17, 4, 1, 18, 16, 3, 0, 15, 2, 14, 12, 13, 11] rfl (nT g10) ?_
    refine na ?_
    refine na ?_
    refine tf 27 (nT g10) ?_
    refine tk 28 rfl (Qt.pickT rfl g10) ?_
    refine nz ?_
    refine AW.cond rfl (fun c11 => ?_) (fun c11 => ?_)
    ·have k11 := c11
     try simp only [cnd] at c11
     have hS := i.stop (by omega) (show (procP u) i.k = false by simp only [procP, rises, pidOf, procOk]; grind only)
     refine AW.seq (AW.region ?_)
     refine qq Qt.assign ?_
     refine nl ?_
     refine AW.ret (endQ_ret (.cons (.tmp 2) .nil) ?_)
     refine rb ?_
     simp only [unixOk, headOk, thingsOk, procsOk_eq]
     grind only
    have k11 := c11
    try simp only [cnd] at c11
    refine jd (AW.region ?_)
    refine qq Qt.move ?_
    refine nm ?_
    refine qq (Qt.binOp rfl rfl (by first | exact pbAdd (by omega) | rfl)) ?_
    refine qq Qt.assign ?_
    refine nl ?_
    refine ⟨⟨i.k + 1, by omega, i.next (show (procP u) i.k = true by simp only [procP, rises, pidOf, procOk]; grind only)⟩, Weak.sim ⟨st1, Rf rfl, ⟨rfl, rfl⟩, ⟨rfl, rfl⟩, ⟨rfl, rfl⟩, ⟨rfl, rfl⟩, ⟨rfl, rfl⟩, ⟨rfl, rfl⟩, ⟨rfl, rfl⟩, Rf rfl, Rf rfl, Rf rfl, Rf rfl, Rf rfl, Rf rfl, Rf rfl, rfl, trivial⟩ rfl rfl, ?_⟩
    show u.Procs.length - (i.k + 1) < u.Procs.length - i.k
    omega
   refine tg 24 rfl (nF g10) (Qt.loadG rfl rfl rfl ag38 sz38 (by decide)) ?_
   refine na ?_
   refine tg 25 rfl (nF g10) (Qt.loadG rfl rfl rfl ag97 sz97 (by decide)) ?_
   refine a1 26 [] [25, 24, 23, 22, 10, 21, 7, 9, 20, 6, 5, 8, 19, 17, 4, 1, 18, 16, 3, 0, 15, 2, 14, 12, 13, 11] rfl (nF g10) (Stp.callV rfl (by decide) Tryz.call47 rfl rfl (l6ProcOk_con u _)) ?_
   refine na ?_
   refine na ?_
   refine tg 27 rfl (nF g10) (Qt.notB rfl) ?_
   refine tk 28 rfl (Qt.pickF rfl g10) ?_
   refine nz ?_
   refine AW.cond rfl (fun c12 => ?_) (fun c12 => ?_)
   ·have k12 := c12
    try simp only [cnd] at c12
    have hS := i.stop (by omega) (show (procP u) i.k = false by simp only [procP, rises, pidOf, procOk]; grind only)
    refine AW.seq (AW.region ?_)
    refine qq Qt.assign ?_
    refine nl ?_
    refine AW.ret (endQ_ret (.cons (.tmp 2) .nil) ?_)
    refine rb ?_
    simp only [unixOk, headOk, thingsOk, procsOk_eq]
    grind only
   have k12 := c12
   try simp only [cnd] at c12
   refine jd (AW.region ?_)
   refine qq Qt.move ?_
   refine nm ?_
   refine qq (Qt.binOp rfl rfl (by first | exact pbAdd (by omega) | rfl)) ?_
   refine qq Qt.assign ?_
   refine nl ?_
   refine ⟨⟨i.k + 1, by omega, i.next (show (procP u) i.k = true by simp only [procP, rises, pidOf, procOk]; grind only)⟩, Weak.sim ⟨st1, Rf rfl, ⟨rfl, rfl⟩, ⟨rfl, rfl⟩, ⟨rfl, rfl⟩, ⟨rfl, rfl⟩, ⟨rfl, rfl⟩, ⟨rfl, rfl⟩, ⟨rfl, rfl⟩, Rf rfl, Rf rfl, Rf rfl, Rf rfl, Rf rfl, Rf rfl, Rf rfl, rfl, trivial⟩ rfl rfl, ?_⟩
   show u.Procs.length - (i.k + 1) < u.Procs.length - i.k
   omega
  refine tg 8 rfl (nF g9) Qt.move ?_
  refine na ?_
  refine tg 9 rfl (nF g9) (Qt.binOp rfl rfl rfl) ?_
  refine tg 10 rfl (nF g9) Qt.move ?_
  refine AWA.split 66 rfl (fun g13 => ?_) (fun g13 => ?_)
  ·refine tg 11 rfl g13 (fA fl38_3) ?_
   refine na ?_
   refine tg 12 rfl g13 (Qt.load1 rfl rfl rfl ag33) ?_
   refine tg 13 rfl g13 Qt.move ?_
   refine tg 14 rfl g13 (Qt.binOp rfl rfl (by first | exact pbSub (by omega) | rfl)) ?_
   refine na ?_
   refine tg 15 rfl g13 (Qt.indexAddr rfl rfl rfl rfl sl33 sz97 (by decide) (by first | omega | grind only)) ?_
   refine tg 16 rfl g13 (fA fl97_0) ?_
   refine tg 17 rfl g13 (Qt.load1 rfl rfl rfl ag3) ?_
   refine na ?_
   refine tg 18 rfl g13 (fA fl97_0) ?_
   refine tg 19 rfl g13 (Qt.load1 rfl rfl rfl ag3) ?_
   refine tg 20 rfl g13 (Qt.binOp rfl rfl rfl) ?_
   refine na ?_
   refine tg 21 rfl (nF g9) (Qt.pickT rfl g13) ?_
   refine tk 22 rfl (Qt.pickF rfl g9) ?_
   refine tk 23 rfl Qt.move ?_
   refine na ?_
   refine AWA.split 79 rfl (fun g14 => ?_) (fun g14 => ?_)
   ·refine tf 24 (nT g14) ?_
    refine tf 25 (nT g14) ?_
    refine o1 26 [] [25, 24, 23, 22, 10, 21, 7, 9, 20, 6, 5, 8, 19, 17, 4, 1, 18, 16, 3, 0, 15, 2, 14, 12, 13, 11] rfl (nT g14) ?_
    refine na ?_
    refine na ?_
    refine tf 27 (nT g14) ?_
    refine tk 28 rfl (Qt.pickT rfl g14) ?_
    refine nz ?_
    refine AW.cond rfl (fun c15 => ?_) (fun c15 => ?_)
    ·have k15 := c15
     try simp only [cnd] at c15
     have hS := i.stop (by omega) (show (procP u) i.k = false by simp only [procP, rises, pidOf, procOk]; grind only)
     refine AW.seq (AW.region ?_)
     refine qq Qt.assign ?_
     refine nl ?_
     refine AW.ret (endQ_ret (.cons (.tmp 2) .nil) ?_)
     refine rb ?_
     simp only [unixOk, headOk, thingsOk, procsOk_eq]
     grind only
    have k15 := c15
    try simp only [cnd] at c15
    refine jd (AW.region ?_)
    refine qq Qt.move ?_
    refine nm ?_
    refine qq (Qt.binOp rfl rfl (by first | exact pbAdd (by omega) | rfl)) ?_
    refine qq Qt.assign ?_
    refine nl ?_
    refine ⟨⟨i.k + 1, by omega, i.next (show (procP u) i.k = true by simp only [procP, rises, pidOf, procOk]; grind only)⟩, Weak.sim ⟨st1, Rf rfl, ⟨rfl, rfl⟩, ⟨rfl, rfl⟩, ⟨rfl, rfl⟩, ⟨rfl, rfl⟩, ⟨rfl, rfl⟩, ⟨rfl, rfl⟩, ⟨rfl, rfl⟩, Rf rfl, Rf rfl, Rf rfl, Rf rfl, Rf rfl, Rf rfl, Rf rfl, rfl, trivial⟩ rfl rfl, ?_⟩
    show u.Procs.length - (i.k + 1) < u.Procs.length - i.k
    omega
   refine tg 24 rfl (nF g14) (Qt.loadG rfl rfl rfl ag38 sz38 (by decide)) ?_
   refine na ?_
   refine tg 25 rfl (nF g14) (Qt.loadG rfl rfl rfl ag97 sz97 (by decide)) ?_
   refine a1 26 [] [25, 24, 23, 22, 10, 21, 7, 9, 20, 6, 5, 8, 19, 17, 4, 1, 18, 16, 3, 0, 15, 2, 14, 12, 13, 11] rfl (nF g14) (Stp.callV rfl (by decide) Tryz.call47 rfl rfl (l6ProcOk_con u _)) ?_
   refine na ?_
   refine na ?_
   refine tg 27 rfl (nF g14) (Qt.notB rfl) ?_
   refine tk 28 rfl (Qt.pickF rfl g14) ?_
   refine nz ?_
   refine AW.cond rfl (fun c16 => ?_) (fun c16 => ?_)
   ·have k16 := c16
    try simp only [cnd] at c16
    have hS := i.stop (by omega) (show (procP u) i.k = false by simp only [procP, rises, pidOf, procOk]; grind only)
    refine AW.seq (AW.region ?_)
    refine qq Qt.assign ?_
    refine nl ?_
    refine AW.ret (endQ_ret (.cons (.tmp 2) .nil) ?_)
    refine rb ?_
    simp only [unixOk, headOk, thingsOk, procsOk_eq]
    grind only
   have k16 := c16
   try simp only [cnd] at c16
   refine jd (AW.region ?_)
   refine qq Qt.move ?_
   refine nm ?_
   refine qq (Qt.binOp rfl rfl (by first | exact pbAdd (by omega) | rfl)) ?_
   refine qq Qt.assign ?_
   refine nl ?_
   refine ⟨⟨i.k + 1, by omega, i.next (show (procP u) i.k = true by simp only [procP, rises, pidOf, procOk]; grind only)⟩, Weak.sim ⟨st1, Rf rfl, ⟨rfl, rfl⟩, ⟨rfl, rfl⟩, ⟨rfl, rfl⟩, ⟨rfl, rfl⟩, ⟨rfl, rfl⟩, ⟨rfl, rfl⟩, ⟨rfl, rfl⟩, Rf rfl, Rf rfl, Rf rfl, Rf rfl, Rf rfl, Rf rfl, Rf rfl, rfl, trivial⟩ rfl rfl, ?_⟩
   show u.Procs.length - (i.k + 1) < u.Procs.length - i.k
   omega
  refine tf 11 g13 ?_
  refine na ?_
  refine tf 12 g13 ?_
  refine tf 13 g13 ?_
  refine tf 14 g13 ?_
  refine na ?_
  refine tf 15 g13 ?_
  refine tf 16 g13 ?_
  refine tf 17 g13 ?_
  refine na ?_
  refine tf 18 g13 ?_
  refine tf 19 g13 ?_
  refine tf 20 g13 ?_
  refine na ?_
  refine tg 21 rfl (nF g9) (Qt.pickF rfl g13) ?_
  refine tk 22 rfl (Qt.pickF rfl g9) ?_
  refine tk 23 rfl Qt.move ?_
  refine na ?_
  refine AWA.split 79 rfl (fun g17 => ?_) (fun g17 => ?_)
  ·refine tf 24 (nT g17) ?_
   refine tf 25 (nT g17) ?_
   refine o1 26 [] [25, 24, 23, 22, 10, 21, 7, 9, 20, 6, 5, 8, 19, 17, 4, 1, 18, 16, 3, 0, 15, 2, 14, 12, 13, 11] rfl (nT g17) ?_
   refine na ?_
   refine na ?_
   refine tf 27 (nT g17) ?_
   refine tk 28 rfl (Qt.pickT rfl g17) ?_
   refine nz ?_
   refine AW.cond rfl (fun c18 => ?_) (fun c18 => ?_)
   ·have k18 := c18
    try simp only [cnd] at c18
    have hS := i.stop (by omega) (show (procP u) i.k = false by simp only [procP, rises, pidOf, procOk]; grind only)
    refine AW.seq (AW.region ?_)
    refine qq Qt.assign ?_
    refine nl ?_
    refine AW.ret (endQ_ret (.cons (.tmp 2) .nil) ?_)
    refine rb ?_
    simp only [unixOk, headOk, thingsOk, procsOk_eq]
    grind only
   have k18 := c18
   try simp only [cnd] at c18
   refine jd (AW.region ?_)
   refine qq Qt.move ?_
   refine nm ?_
   refine qq (Qt.binOp rfl rfl (by first | exact pbAdd (by omega) | rfl)) ?_
   refine qq Qt.assign ?_
   refine nl ?_
   refine ⟨⟨i.k + 1, by omega, i.next (show (procP u) i.k = true by simp only [procP, rises, pidOf, procOk]; grind only)⟩, Weak.sim ⟨st1, Rf rfl, ⟨rfl, rfl⟩, ⟨rfl, rfl⟩, ⟨rfl, rfl⟩, ⟨rfl, rfl⟩, ⟨rfl, rfl⟩, ⟨rfl, rfl⟩, ⟨rfl, rfl⟩, Rf rfl, Rf rfl, Rf rfl, Rf rfl, Rf rfl, Rf rfl, Rf rfl, rfl, trivial⟩ rfl rfl, ?_⟩
   show u.Procs.length - (i.k + 1) < u.Procs.length - i.k
   omega
  refine tg 24 rfl (nF g17) (Qt.loadG rfl rfl rfl ag38 sz38 (by decide)) ?_
  refine na ?_
  refine tg 25 rfl (nF g17) (Qt.loadG rfl rfl rfl ag97 sz97 (by decide)) ?_
  refine a1 26 [] [25, 24, 23, 22, 10, 21, 7, 9, 20, 6, 5, 8, 19, 17, 4, 1, 18, 16, 3, 0, 15, 2, 14, 12, 13, 11] rfl (nF g17) (Stp.callV rfl (by decide) Tryz.call47 rfl rfl (l6ProcOk_con u _)) ?_
  refine na ?_
  refine na ?_
  refine tg 27 rfl (nF g17) (Qt.notB rfl) ?_
  refine tk 28 rfl (Qt.pickF rfl g17) ?_
  refine nz ?_
  refine AW.cond rfl (fun c19 => ?_) (fun c19 => ?_)
  ·have k19 := c19
   try simp only [cnd] at c19
   have hS := i.stop (by omega) (show (procP u) i.k = false by simp only [procP, rises, pidOf, procOk]; grind only)
   refine AW.seq (AW.region ?_)
   refine qq Qt.assign ?_
   refine nl ?_
   refine AW.ret (endQ_ret (.cons (.tmp 2) .nil) ?_)
   refine rb ?_
   simp only [unixOk, headOk, thingsOk, procsOk_eq]
   grind only
  have k19 := c19
  try simp only [cnd] at c19
  refine jd (AW.region ?_)
  refine qq Qt.move ?_
  refine nm ?_
  refine qq (Qt.binOp rfl rfl (by first | exact pbAdd (by omega) | rfl)) ?_
  refine qq Qt.assign ?_
  refine nl ?_
  refine ⟨⟨i.k + 1, by omega, i.next (show (procP u) i.k = true by simp only [procP, rises, pidOf, procOk]; grind only)⟩, Weak.sim ⟨st1, Rf rfl, ⟨rfl, rfl⟩, ⟨rfl, rfl⟩, ⟨rfl, rfl⟩, ⟨rfl, rfl⟩, ⟨rfl, rfl⟩, ⟨rfl, rfl⟩, ⟨rfl, rfl⟩, Rf rfl, Rf rfl, Rf rfl, Rf rfl, Rf rfl, Rf rfl, Rf rfl, rfl, trivial⟩ rfl rfl, ?_⟩
  show u.Procs.length - (i.k + 1) < u.Procs.length - i.k
  omega
 have k8 := c8
 try simp only [cnd] at c8
 have hA := i.full (by omega)
 refine AW.exit ?_
 dsimp only [thenQ, blockQ, reduceIte]
 refine AW.seq (AW.region ?_)
 refine qq (Qt.loadG rfl rfl rfl ag38 sz38 (by decide)) ?_
 refine nm ?_
 refine cv Tryz.call48 rfl rfl (l6Things_con u hb) ?_
 refine nm ?_
 refine qq Qt.move ?_
 apply AWL.cut 2
 ·intro Kg20
  refine AWL.split 87 rfl (fun g20 => ?_) (fun g20 => ?_)
  ·refine qg g20 (Qt.loadG rfl rfl rfl ag38 sz38 (by decide)) ?_
   refine AWL.step rfl g20 (Stp.callV rfl (by decide) Tryz.call49 rfl rfl (l6Ready_con u)) ?_
   refine nm ?_
   exact wj 89 [88, 89] (ifT g20 _ undef) (by simp only [go_sem, Int.reduceToNat, Nat.reduceLT, reduceIte, Nat.reduceEqDiff, Nat.reduceAdd, Nat.reduceMul, Nat.reduceBEq, reduceCtorEq]; rfl) Kg20
  ·refine og g20 ?_
   refine og g20 ?_
   exact wj 89 [88, 89] (ifF g20 undef _) (by simp only [go_sem, Int.reduceToNat, Nat.reduceLT, reduceIte, Nat.reduceEqDiff, Nat.reduceAdd, Nat.reduceMul, Nat.reduceBEq, reduceCtorEq]) Kg20
 refine qq (Qt.pickAnd rfl rfl rfl) ?_
 refine qq Qt.assign ?_
 refine nl ?_
 refine AW.ret (endQ_ret (.cons (.tmp 2) .nil) ?_)
 refine rb ?_
 simp only [unixOk, headOk, thingsOk, procsOk_eq]
 grind only
end Go.Proofs.YtimmbmphfgnelaaGreat.VM
