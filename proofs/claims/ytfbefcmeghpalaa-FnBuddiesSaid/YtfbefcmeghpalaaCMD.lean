/- Contracts of functions of the program. No conditions beyond those that each states. -/
import Derived.Test.YtfbefcmeghpalaaCMC
import Derived.Test.YtfbefcmeghpalaaCMF
set_option linter.all false
namespace Go.Proofs.Ytfbefcmeghpalaa.VM
open Go Go.RowKit Go.Proofs
set_option maxRecDepth 10000 in
theorem BuddyOkS_con (a : DBuddy) : Con Try.prog 8 [.g [.h base []]] [.rt base .ro (tr a.Free)] (fun y _ => y = .v (.bool (okS a.Free))) := by
 refine Con.of_body Try.func8 rfl (by simp) ?_
 rw [Try.ntmps8]
 refine AW.seq (AW.region ?_)
 refine sp (Stp.boxB rfl (by decide) (by decide) rfl rfl rfl rfl) ?_
 refine nm ?_
 refine qq Qt.assign ?_
 refine nl ?_
 refine AW.seq (AW.seq (AW.region ?_))
 refine qq (fA fl26_0) ?_
 refine qq (Qt.load1 rfl rfl rfl ag24) ?_
 refine nm ?_
 refine qq (Qt.lenH rfl rfl rfl sl24) ?_
 refine qq (Qt.binOp rfl rfl rfl) ?_
 refine nl ?_
 refine AW.cond rfl (fun c1 => ?_) (fun c1 => ?_)
 ·have k1 := c1
  try simp only [cnd] at c1
  refine AW.seq (AW.region ?_)
  refine qq Qt.assign ?_
  refine nl ?_
  refine AW.ret (endQ_ret (.cons (.tmp 2) .nil) ?_)
  rw [show okS a.Free = false by unfold okS; exact if_neg (by omega)]
  rfl
 have k1 := c1
 try simp only [cnd] at c1
 have hlen : a.Free.length = 5 := by omega
 refine jd (AW.seq (AW.region ?_))
 refine sp (Stp.makeSlice rfl (by decide) (by decide) rfl rfl (by omega) (by omega) (by omega)) ?_
 refine nm ?_
 refine qq Qt.assign ?_
 refine nl ?_
 refine AW.seq (AW.seq (AW.region ?_))
 refine qq Qt.assign ?_
 refine nl ?_
 refine AW.block ?_
 refine AW.weak (L' := [.sl 4 (.v (iv (0 : Nat))), .sl 3 (.h 13 []), .rt 1 .box (T.s 1 1 fun k c => ([(T.j, none)].getD (k * 1 + c) (T.j, none)).fst), .al 1 0 (.h base []), .rt base .ro (tr a.Free), .sl 1 (.p 1 [] 1 0 0), .rt 13 .row (tr (List.replicate 16 false))]) (Weak.sim ⟨rfl, rfl, Rf rfl, ⟨rfl, rfl⟩, Rf rfl, rfl, ⟨_, rfl, sim_rep 16⟩, trivial⟩ rfl rfl) ?_
 refine AW.loop (fun o : OutB (rowS a.Free) (okS a.Free) => [.sl 4 (.v (iv o.k)), .sl 3 (.h 13 []), .rt 1 .box (T.s 1 1 fun k c => ([(T.j, none)].getD (k * 1 + c) (T.j, none)).fst), .al 1 0 (.h base []), .rt base .ro (tr a.Free), .sl 1 (.p 1 [] 1 0 0), .rt 13 .row (tr o.u)]) (fun o => 5 - o.k) ⟨0, by omega, List.replicate 16 false, by simp, by unfold okS; rw [if_pos hlen]⟩ ?_
 intro o
 have hleo := o.le
 refine AW.seq (AW.seq (AW.region ?_))
 refine qq Qt.move ?_
 refine nm ?_
 refine qq (Qt.binOp rfl rfl rfl) ?_
 refine nl ?_
 refine AW.cond rfl (fun c2 => ?_) (fun c2 => ?_)
 ·have k2 := c2
  try simp only [cnd] at c2
  refine jd (AW.seq (AW.block (AW.seq (AW.region ?_))))
  refine qq Qt.move ?_
  refine cv Try.call32 rfl rfl (l15Len_con o.k (by omega)) ?_
  refine nm ?_
  refine qq Qt.assign ?_
  refine nl ?_
  refine AW.seq (AW.region ?_)
  refine qq Qt.assign ?_
  refine nl ?_
  refine AW.block ?_
  refine AW.weak (L' := [.sl 6 (.v (iv (0 : Nat))), .sl 4 (.v (iv o.k)), .sl 5 (.v (iv ((2 ^ o.k : Nat) : Int))), .sl 3 (.h 13 []), .rt 1 .box (T.s 1 1 fun k c => ([(T.j, none)].getD (k * 1 + c) (T.j, none)).fst), .al 1 0 (.h base []), .rt base .ro (tr a.Free), .sl 1 (.p 1 [] 1 0 0), .rt 13 .row (tr o.u)]) (Weak.sim ⟨rfl, rfl, rfl, rfl, Rf rfl, ⟨rfl, rfl⟩, Rf rfl, rfl, Rf rfl, trivial⟩ rfl rfl) ?_
  refine AW.loop (fun m : MidB (a.Free.getD o.k En.dflt) (budS o.k (a.Free.getD o.k En.dflt)) o.k (rowS a.Free o.k o.u) => [.sl 6 (.v (iv m.k)), .sl 4 (.v (iv o.k)), .sl 5 (.v (iv ((2 ^ o.k : Nat) : Int))), .sl 3 (.h 13 []), .rt 1 .box (T.s 1 1 fun k c => ([(T.j, none)].getD (k * 1 + c) (T.j, none)).fst), .al 1 0 (.h base []), .rt base .ro (tr a.Free), .sl 1 (.p 1 [] 1 0 0), .rt 13 .row (tr m.u)]) (fun m => (a.Free.getD o.k En.dflt).length - m.k) ⟨0, Nat.zero_le _, o.u, o.ul, rfl⟩ ?_
  intro m
  have hlem := m.le
  have hpw := pow5 (k := o.k) (by omega)
  refine AW.len base [(1, o.k, 0)] rfl (by refine ⟨rfl, ?_, Nat.lt_succ_self 0, trivial⟩; show o.k < a.Free.length; omega) rfl (fun hl => ?_)
  refine AW.seq (AW.seq (AW.region ?_))
  refine qq Qt.move ?_
  refine nm ?_
  refine qq (fA fl26_0) ?_
  refine qq (Qt.load1 rfl rfl rfl ag24) ?_
  refine qq Qt.move ?_
  refine nm ?_
  refine qq (Qt.indexAddr rfl rfl rfl rfl sl24 sz35 (by decide) (by omega)) ?_
  refine qq (Qt.load1 rfl rfl rfl ag35) ?_
  refine qq (Qt.lenH rfl rfl rfl sl35) ?_
  refine nm ?_
  refine qq (Qt.binOp rfl rfl rfl) ?_
  refine nl ?_
  refine AW.cond rfl (fun c3 => ?_) (fun c3 => ?_)
  ·have k3 := c3
   try simp only [cnd] at c3
   refine jd (AW.seq (AW.block (AW.seq (AW.region ?_))))
   refine qq (fA fl26_0) ?_
   refine qq (Qt.load1 rfl rfl rfl ag24) ?_
   refine nm ?_
   refine qq Qt.move ?_
   refine qq (Qt.indexAddr rfl rfl rfl rfl sl24 sz35 (by decide) (by omega)) ?_
   refine qq (Qt.load1 rfl rfl rfl ag35) ?_
   refine nm ?_
   refine qq Qt.move ?_
   refine qq (Qt.indexAddr rfl rfl rfl rfl sl35 sz3 (by decide) (by omega)) ?_
   refine qq (Qt.load1 rfl rfl rfl ag3) ?_
   refine nm ?_
   refine qq Qt.assign ?_
   refine nl ?_
   refine AW.seq (AW.seq (AW.region ?_))
   refine qq Qt.move ?_
   refine qq (Qt.binOp rfl rfl rfl) ?_
   refine nm ?_
   refine qq Qt.move ?_
   apply AWL.cut 2
   ·intro Kg4
    refine AWL.splitF 40 rfl (fun g4 => ?_) (fun g4 => ?_)
    ·have eg4 := g4
     try simp only [cnd] at eg4
     refine qg (nF g4) Qt.move ?_
     refine qg (nF g4) (Qt.binOp rfl rfl rfl) ?_
     refine nm ?_
     exact wj 42 [41, 42] (ifF g4 _ undef) (by simp only [go_sem, Int.reduceToNat, Nat.reduceLT, reduceIte, Nat.reduceEqDiff, Nat.reduceAdd, Nat.reduceMul, Nat.reduceBEq, reduceCtorEq]; rfl) Kg4
    ·refine og (nT g4) ?_
     refine og (nT g4) ?_
     exact wj 42 [41, 42] (ifT g4 undef _) (by simp only [go_sem, Int.reduceToNat, Nat.reduceLT, reduceIte, Nat.reduceEqDiff, Nat.reduceAdd, Nat.reduceMul, Nat.reduceBEq, reduceCtorEq]) Kg4
   refine qq (Qt.pickOr rfl rfl rfl) ?_
   refine qq Qt.move ?_
   apply AWL.cut 4
   ·intro Kg5
    refine AWL.splitF 44 rfl (fun g5 => ?_) (fun g5 => ?_)
    ·have eg5 := g5
     try simp only [cnd] at eg5
     refine qg (nF g5) Qt.move ?_
     refine nm ?_
     refine qg (nF g5) Qt.move ?_
     refine qg (nF g5) (Qt.binOp rfl rfl (by first | exact pbRem4 _ | rfl | exact pbRemI (by omega))) ?_
     refine qg (nF g5) (Qt.binOp rfl rfl rfl) ?_
     refine nm ?_
     exact wj 48 [45, 46, 47, 48] (ifF g5 _ undef) (by simp only [go_sem, Int.reduceToNat, Nat.reduceLT, reduceIte, Nat.reduceEqDiff, Nat.reduceAdd, Nat.reduceMul, Nat.reduceBEq, reduceCtorEq]; rfl) Kg5
    ·refine og (nT g5) ?_
     refine og (nT g5) ?_
     refine og (nT g5) ?_
     refine og (nT g5) ?_
     exact wj 48 [45, 46, 47, 48] (ifT g5 undef _) (by simp only [go_sem, Int.reduceToNat, Nat.reduceLT, reduceIte, Nat.reduceEqDiff, Nat.reduceAdd, Nat.reduceMul, Nat.reduceBEq, reduceCtorEq]) Kg5
   refine qq (Qt.pickOr rfl rfl rfl) ?_
   refine qq Qt.move ?_
   apply AWL.cut 15
   ·intro Kg6
    refine AWL.splitF 50 rfl (fun g6 => ?_) (fun g6 => ?_)
    ·have eg6 := g6
     try simp only [cnd] at eg6
     refine qg (nF g6) Qt.move ?_
     refine nm ?_
     refine qg (nF g6) (Qt.binOp rfl rfl rfl) ?_
     refine qg (nF g6) Qt.move ?_
     apply AWL.cut 11
     ·intro Kg7
      refine AWL.split 53 rfl (fun g7 => ?_) (fun g7 => ?_)
      ·have eg7 := g7
       try simp only [cnd] at eg7
       refine qg g7 (fA fl26_0) ?_
       refine nm ?_
       refine qg g7 (Qt.load1 rfl rfl rfl ag24) ?_
       refine qg g7 Qt.move ?_
       refine qg g7 (Qt.indexAddr rfl rfl rfl rfl sl24 sz35 (by decide) (by omega)) ?_
       refine nm ?_
       refine qg g7 (Qt.load1 rfl rfl rfl ag35) ?_
       refine qg g7 Qt.move ?_
       refine qg g7 (Qt.binOp rfl rfl (by first | exact pbSub (by omega) | rfl)) ?_
       refine nm ?_
       refine qg g7 (Qt.indexAddr rfl rfl rfl rfl sl35 sz3 (by decide) (by omega)) ?_
       refine qg g7 (Qt.load1 rfl rfl rfl ag3) ?_
       refine qg g7 Qt.move ?_
       refine nm ?_
       refine qg g7 (Qt.binOp rfl rfl rfl) ?_
       exact wj 64 [54, 55, 56, 57, 58, 59, 60, 61, 62, 63, 64] (ifT g7 _ undef) (by simp only [go_sem, Int.reduceToNat, Nat.reduceLT, reduceIte, Nat.reduceEqDiff, Nat.reduceAdd, Nat.reduceMul, Nat.reduceBEq, reduceCtorEq]; rfl) Kg7
      ·refine og g7 ?_
       refine og g7 ?_
       refine og g7 ?_
       refine og g7 ?_
       refine nm ?_
       refine og g7 ?_
       refine og g7 ?_
       refine og g7 ?_
       refine og g7 ?_
       refine nm ?_
       refine og g7 ?_
       refine og g7 ?_
       refine og g7 ?_
       exact wj 64 [54, 55, 56, 57, 58, 59, 60, 61, 62, 63, 64] (ifF g7 undef _) (by simp only [go_sem, Int.reduceToNat, Nat.reduceLT, reduceIte, Nat.reduceEqDiff, Nat.reduceAdd, Nat.reduceMul, Nat.reduceBEq, reduceCtorEq]) Kg7
     refine qg (nF g6) (Qt.pickAnd rfl rfl rfl) ?_
     exact wj 65 [51, 52, 53, 54, 55, 56, 57, 58, 59, 60, 61, 62, 63, 64, 65] (ifF g6 _ undef) (by simp only [go_sem, Int.reduceToNat, Nat.reduceLT, reduceIte, Nat.reduceEqDiff, Nat.reduceAdd, Nat.reduceMul, Nat.reduceBEq, reduceCtorEq]; rfl) Kg6
    ·refine og (nT g6) ?_
     refine og (nT g6) ?_
     refine og (nT g6) ?_
     refine og rfl ?_
     refine nm ?_
     refine og rfl ?_
     refine og rfl ?_
     refine og rfl ?_
     refine og rfl ?_
     refine nm ?_
     refine og rfl ?_
     refine og rfl ?_
     refine og rfl ?_
     refine og rfl ?_
     refine nm ?_
     refine og rfl ?_
     refine og rfl ?_
     refine og (nT g6) ?_
     exact wj 65 [51, 52, 53, 54, 55, 56, 57, 58, 59, 60, 61, 62, 63, 64, 65] (ifT g6 undef _) (by simp only [go_sem, Int.reduceToNat, Nat.reduceLT, reduceIte, Nat.reduceEqDiff, Nat.reduceAdd, Nat.reduceMul, Nat.reduceBEq, reduceCtorEq]) Kg6
   refine qq (Qt.pickOr rfl rfl rfl) ?_
   refine nl ?_
   refine AW.cond rfl (fun c8 => ?_) (fun c8 => ?_)
   ·have k8 := c8
    try simp only [cnd] at c8
    refine AW.seq (AW.region ?_)
    refine qq Qt.assign ?_
    refine nl ?_
    refine AW.ret (endQ_ret (.cons (.tmp 2) .nil) ?_)
    have hz : okS a.Free = false := o.eq.trans (rows_none (m.eq.trans (row_bad ((bad_S (k := o.k) (l := (a.Free.getD o.k En.dflt)) (j := m.k)).symm.trans k8) (by omega))) (by omega))
    exact (congrArg (fun z => X.v (Value.bool z)) hz).symm
   have k8 := c8
   try simp only [cnd] at c8
   have hbad : bad o.k (a.Free.getD o.k En.dflt) m.k = false := (bad_S (k := o.k) (l := (a.Free.getD o.k En.dflt)) (j := m.k)).symm.trans k8
   have hnb : 0 ≤ (a.Free.getD o.k En.dflt).getD m.k En.dflt ∧ (a.Free.getD o.k En.dflt).getD m.k En.dflt < 16 ∧ (a.Free.getD o.k En.dflt).getD m.k En.dflt % (2 ^ o.k : Nat) = 0 := notBad hbad
   have hf : (a.Free.getD o.k En.dflt).getD m.k En.dflt = ((posL (a.Free.getD o.k En.dflt) m.k : Nat) : Int) := (Int.toNat_of_nonneg hnb.1).symm
   have hnm : posL (a.Free.getD o.k En.dflt) m.k % 2 ^ o.k = 0 := by have h3 := hnb.2.2; rw [hf] at h3; exact_mod_cast h3
   have hbi := block_in (n := posL (a.Free.getD o.k En.dflt) m.k) (k := o.k) (by omega) (by omega) hnm
   refine jd (AW.seq (AW.seq (AW.region ?_)))
   refine qq Qt.move ?_
   refine nm ?_
   refine qq Qt.assign ?_
   refine nl ?_
   refine AW.block ?_
   refine AW.weak (L' := [.sl 8 (.v (iv (posL (a.Free.getD o.k En.dflt) m.k : Nat))), .sl 6 (.v (iv m.k)), .sl 4 (.v (iv o.k)), .sl 7 (.v (iv ((a.Free.getD o.k En.dflt).getD m.k En.dflt))), .sl 5 (.v (iv ((2 ^ o.k : Nat) : Int))), .sl 3 (.h 13 []), .rt 1 .box (T.s 1 1 fun k c => ([(T.j, none)].getD (k * 1 + c) (T.j, none)).fst), .al 1 0 (.h base []), .rt base .ro (tr a.Free), .sl 1 (.p 1 [] 1 0 0), .rt 13 .row (tr m.u)]) (Weak.sim ⟨(congrArg (fun z => X.v (iv z)) hf), rfl, rfl, rfl, rfl, rfl, Rf rfl, ⟨rfl, rfl⟩, Rf rfl, rfl, Rf rfl, trivial⟩ rfl rfl) ?_
   refine AW.loop (fun x : InB (paint m.u (posL (a.Free.getD o.k En.dflt) m.k) (2 ^ o.k)) (posL (a.Free.getD o.k En.dflt) m.k) (posL (a.Free.getD o.k En.dflt) m.k + 2 ^ o.k) => [.sl 8 (.v (iv x.k)), .sl 6 (.v (iv m.k)), .sl 4 (.v (iv o.k)), .sl 7 (.v (iv ((a.Free.getD o.k En.dflt).getD m.k En.dflt))), .sl 5 (.v (iv ((2 ^ o.k : Nat) : Int))), .sl 3 (.h 13 []), .rt 1 .box (T.s 1 1 fun k c => ([(T.j, none)].getD (k * 1 + c) (T.j, none)).fst), .al 1 0 (.h base []), .rt base .ro (tr a.Free), .sl 1 (.p 1 [] 1 0 0), .rt 13 .row (tr x.u)]) (fun x => posL (a.Free.getD o.k En.dflt) m.k + 2 ^ o.k - x.k) ⟨posL (a.Free.getD o.k En.dflt) m.k, by omega, Nat.le_refl _, m.u, m.ul, by rw [Nat.add_sub_cancel_left]⟩ ?_
   intro x
   have hlex := x.le
   have hxl := x.ul
   have hxg := x.ge
   refine AW.seq (AW.seq (AW.region ?_))
   refine qq Qt.move ?_
   refine qq Qt.move ?_
   refine nm ?_
   refine qq Qt.move ?_
   refine qq (Qt.binOp rfl rfl (by first | exact pbAdd (by omega) | rfl)) ?_
   refine qq (Qt.binOp rfl rfl rfl) ?_
   refine nl ?_
   refine AW.cond rfl (fun c9 => ?_) (fun c9 => ?_)
   ·have k9 := c9
    try simp only [cnd] at c9
    refine jd (AW.seq (AW.block (AW.seq (AW.seq (AW.region ?_)))))
    refine qq Qt.move ?_
    refine nm ?_
    refine qq Qt.move ?_
    refine qq (Qt.indexAddr rfl rfl rfl rfl sl62 sz4 (by decide) (by omega)) ?_
    refine qq (Qt.load1 rfl rfl rfl ag4) ?_
    refine nl ?_
    refine AW.cond rfl (fun c10 => ?_) (fun c10 => ?_)
    ·have k10 := c10
     try simp only [cnd] at c10
     refine AW.seq (AW.region ?_)
     refine qq Qt.assign ?_
     refine nl ?_
     refine AW.ret (endQ_ret (.cons (.tmp 2) .nil) ?_)
     have hz : okS a.Free = false := o.eq.trans (rows_none (m.eq.trans (row_paint (x.eq.trans (by rw [paint_hit k10 (by omega)])) (by omega))) (by omega))
     exact (congrArg (fun z => X.v (Value.bool z)) hz).symm
    have k10 := c10
    try simp only [cnd] at c10
    refine jd (AW.region ?_)
    refine qq Qt.move ?_
    refine nm ?_
    refine qq Qt.move ?_
    refine qq (Qt.indexAddr rfl rfl rfl rfl sl62 sz4 (by decide) (by omega)) ?_
    refine ss ?_
    refine nl ?_
    refine AW.region ?_
    refine qq Qt.move ?_
    refine nm ?_
    refine qq (Qt.binOp rfl rfl (by first | exact pbAdd (by omega) | rfl)) ?_
    refine qq Qt.assign ?_
    refine nl ?_
    refine ⟨⟨x.k + 1, by omega, by omega, x.u.set x.k true, by simp [x.ul], x.eq.trans (by rw [paint_next k10 (by omega), Nat.sub_sub])⟩, Weak.sim ⟨st1, rfl, rfl, rfl, rfl, rfl, Rf rfl, ⟨rfl, rfl⟩, Rf rfl, rfl, ⟨_, rfl, (set_sim (fun k c hk => by simp only [upd_app, hk, false_and, if_false]; try rfl) (fun c hc => match c, hc with | 0, _ => (by simp only [upd_app, eq_self, and_self, if_true]; exact T.sim_refl _) | c + 1, hc => absurd hc (by simp only [En.n]; omega)))⟩, trivial⟩ rfl rfl, ?_⟩
    show posL (a.Free.getD o.k En.dflt) m.k + 2 ^ o.k - (x.k + 1) < posL (a.Free.getD o.k En.dflt) m.k + 2 ^ o.k - x.k
    omega
   have k9 := c9
   try simp only [cnd] at c9
   have hpaint : paint m.u (posL (a.Free.getD o.k En.dflt) m.k) (2 ^ o.k) = some x.u := x.eq.trans (by rw [show posL (a.Free.getD o.k En.dflt) m.k + 2 ^ o.k - x.k = 0 by omega]; rfl)
   refine AW.exit ?_
   dsimp only [thenQ, blockQ, reduceIte]
   refine AW.seq (AW.region ?_)
   refine qq Qt.move ?_
   refine nm ?_
   refine qq (Qt.binOp rfl rfl rfl) ?_
   refine qq Qt.move ?_
   apply AWL.cut 5
   ·intro Kg11
    refine AWL.split 84 rfl (fun g11 => ?_) (fun g11 => ?_)
    ·have eg11 := g11
     try simp only [cnd] at eg11
     refine qg g11 Qt.move ?_
     refine nm ?_
     refine qg g11 Qt.move ?_
     refine qg g11 (Qt.binOp rfl rfl (by first | exact pbMul (by omega) | rfl)) ?_
     refine qg g11 (Qt.binOp rfl rfl (by first | exact pbRem4 _ | rfl | exact pbRemI (by omega))) ?_
     refine nm ?_
     refine qg g11 (Qt.binOp rfl rfl rfl) ?_
     exact wj 89 [85, 86, 87, 88, 89] (ifT g11 _ undef) (by simp only [go_sem, Int.reduceToNat, Nat.reduceLT, reduceIte, Nat.reduceEqDiff, Nat.reduceAdd, Nat.reduceMul, Nat.reduceBEq, reduceCtorEq]; rfl) Kg11
    ·refine og g11 ?_
     refine og g11 ?_
     refine og g11 ?_
     refine og g11 ?_
     refine nm ?_
     refine og g11 ?_
     exact wj 89 [85, 86, 87, 88, 89] (ifF g11 undef _) (by simp only [go_sem, Int.reduceToNat, Nat.reduceLT, reduceIte, Nat.reduceEqDiff, Nat.reduceAdd, Nat.reduceMul, Nat.reduceBEq, reduceCtorEq]) Kg11
   refine qq (Qt.pickAnd rfl rfl rfl) ?_
   refine qq Qt.move ?_
   refine nm ?_
   apply AWL.cut 9
   ·intro Kg12
    refine AWL.split 91 rfl (fun g12 => ?_) (fun g12 => ?_)
    ·have eg12 := g12
     try simp only [cnd] at eg12
     refine qg g12 (fA fl26_0) ?_
     refine qg g12 (Qt.load1 rfl rfl rfl ag24) ?_
     refine qg g12 Qt.move ?_
     refine nm ?_
     refine qg g12 (Qt.indexAddr rfl rfl rfl rfl sl24 sz35 (by decide) (by omega)) ?_
     refine qg g12 (Qt.load1 rfl rfl rfl ag35) ?_
     refine qg g12 Qt.move ?_
     refine nm ?_
     refine qg g12 Qt.move ?_
     refine qg g12 (Qt.binOp rfl rfl (by first | exact pbAdd (by omega) | rfl)) ?_
     refine AWL.step rfl g12 (Stp.callV rfl (by decide) Try.call33 rfl rfl (l6Has_con _ _)) ?_
     refine nm ?_
     exact wj 100 [92, 93, 94, 95, 96, 97, 98, 99, 100] (ifT g12 _ undef) (by simp only [go_sem, Int.reduceToNat, Nat.reduceLT, reduceIte, Nat.reduceEqDiff, Nat.reduceAdd, Nat.reduceMul, Nat.reduceBEq, reduceCtorEq]; rfl) Kg12
    ·refine og g12 ?_
     refine og g12 ?_
     refine og g12 ?_
     refine og g12 ?_
     refine nm ?_
     refine og g12 ?_
     refine og g12 ?_
     refine og g12 ?_
     refine og g12 ?_
     refine nm ?_
     refine og g12 ?_
     exact wj 100 [92, 93, 94, 95, 96, 97, 98, 99, 100] (ifF g12 undef _) (by simp only [go_sem, Int.reduceToNat, Nat.reduceLT, reduceIte, Nat.reduceEqDiff, Nat.reduceAdd, Nat.reduceMul, Nat.reduceBEq, reduceCtorEq]) Kg12
   refine qq (Qt.pickAnd rfl rfl rfl) ?_
   refine nl ?_
   refine AW.cond rfl (fun c13 => ?_) (fun c13 => ?_)
   ·have k13 := c13
    try simp only [cnd] at c13
    refine AW.seq (AW.region ?_)
    refine qq Qt.assign ?_
    refine nl ?_
    refine AW.ret (endQ_ret (.cons (.tmp 2) .nil) ?_)
    have hz : okS a.Free = false := o.eq.trans (rows_none (m.eq.trans (row_bud hpaint ((bud_S (k := o.k) (l := (a.Free.getD o.k En.dflt)) (j := m.k) hnb.1).symm.trans k13) (by omega))) (by omega))
    exact (congrArg (fun z => X.v (Value.bool z)) hz).symm
   have k13 := c13
   try simp only [cnd] at c13
   have hbud := (bud_S (k := o.k) (l := (a.Free.getD o.k En.dflt)) (j := m.k) hnb.1).symm.trans k13
   refine jd (AW.region ?_)
   refine qq Qt.move ?_
   refine nm ?_
   refine qq (Qt.binOp rfl rfl (by first | exact pbAdd (by omega) | rfl)) ?_
   refine qq Qt.assign ?_
   refine nl ?_
   refine ⟨⟨m.k + 1, by omega, x.u, x.ul, m.eq.trans (by rw [row_next hbad hpaint hbud (by omega), Nat.sub_sub])⟩, Weak.sim ⟨st1, rfl, rfl, rfl, Rf rfl, ⟨rfl, rfl⟩, Rf rfl, rfl, Rf rfl, trivial⟩ rfl rfl, ?_⟩
   show (a.Free.getD o.k En.dflt).length - (m.k + 1) < (a.Free.getD o.k En.dflt).length - m.k
   omega
  have k3 := c3
  try simp only [cnd] at c3
  refine AW.exit ?_
  dsimp only [thenQ, blockQ, reduceIte]
  refine AW.region ?_
  refine qq Qt.move ?_
  refine nm ?_
  refine qq (Qt.binOp rfl rfl (by first | exact pbAdd (by omega) | rfl)) ?_
  refine qq Qt.assign ?_
  refine nl ?_
  refine ⟨⟨o.k + 1, by omega, m.u, m.ul, o.eq.trans (by rw [rows_next (u' := m.u) (m.eq.trans (by rw [show (a.Free.getD o.k En.dflt).length - m.k = 0 by omega]; rfl)) (by omega), Nat.sub_sub])⟩, Weak.sim ⟨st1, rfl, Rf rfl, ⟨rfl, rfl⟩, Rf rfl, rfl, Rf rfl, trivial⟩ rfl rfl, ?_⟩
  show 5 - (o.k + 1) < 5 - o.k
  omega
 have k2 := c2
 try simp only [cnd] at c2
 refine AW.exit ?_
 dsimp only [thenQ, blockQ, reduceIte]
 refine AW.seq (AW.region ?_)
 refine qq Qt.assign ?_
 refine nl ?_
 refine AW.ret (endQ_ret (.cons (.tmp 2) .nil) ?_)
 have hz : okS a.Free = true := o.eq.trans (by rw [show 5 - o.k = 0 by omega]; rfl)
 exact (congrArg (fun z => X.v (Value.bool z)) hz).symm
end Go.Proofs.Ytfbefcmeghpalaa.VM
