/- Contracts of functions of the program. No conditions beyond those that each states. -/
import Derived.Test.YtfbefcmeghpalaaCMC
import Derived.Test.YtfbefcmeghpalaaCMF
set_option linter.all false
namespace Go.Proofs.Ytfbefcmeghpalaa.VM
open Go Go.RowKit Go.Proofs
set_option maxRecDepth 10000 in
theorem BuddyOkI_con (a : DBuddy) : Con Try.prog 26 [.g [.h base []]] [.rt base .ro (tr a.Free)] (fun y _ => y = .v (.bool (okI a.Free))) := by
 refine Con.of_body Try.func26 rfl (by simp) ?_
 rw [Try.ntmps26]
 refine AW.seq (AW.region ?_)
 refine sp (Stp.boxB rfl (by decide) (by decide) rfl rfl rfl rfl) ?_
 refine nm ?_
 refine qq Qt.assign ?_
 refine nl ?_
 refine AW.seq (AW.seq (AW.region ?_))
 refine qq (fA fl26_0) ?_
 refine qq (Qt.load1 rfl rfl rfl ag24) ?_
 refine nm ?_
 refine qq (Qt.lenH rfl rfl rfl sl24) ?_
 refine qq (Qt.binOp rfl rfl rfl) ?_
 refine nl ?_
 refine AW.cond rfl (fun c1 => ?_) (fun c1 => ?_)
 ·have k1 := c1
  try simp only [cnd] at c1
  refine AW.seq (AW.region ?_)
  refine qq Qt.assign ?_
  refine nl ?_
  refine AW.ret (endQ_ret (.cons (.tmp 2) .nil) ?_)
  rw [show okI a.Free = false by unfold okI; exact if_neg (by omega)]
  rfl
 have k1 := c1
 try simp only [cnd] at c1
 have hlen : a.Free.length = 5 := by omega
 refine jd (AW.seq (AW.region ?_))
 refine sp (Stp.makeSlice rfl (by decide) (by decide) rfl rfl (by omega) (by omega) (by omega)) ?_
 refine nm ?_
 refine qq Qt.assign ?_
 refine nl ?_
 refine AW.seq (AW.seq (AW.region ?_))
 refine qq (fA fl26_0) ?_
 refine qq (Qt.load1 rfl rfl rfl ag24) ?_
 refine nm ?_
 refine qq (Qt.lenH rfl rfl rfl sl24) ?_
 refine qq Qt.move ?_
 refine nl ?_
 refine AW.block ?_
 refine AW.weak (L' := [.sl 18 (.v (iv (0 : Nat))), .sl 17 (.v (iv a.Free.length)), .sl 16 (.h base []), .sl 3 (.h 14 []), .rt 1 .box (T.s 1 1 fun k c => ([(T.j, none)].getD (k * 1 + c) (T.j, none)).fst), .al 1 0 (.h base []), .rt base .ro (tr a.Free), .sl 1 (.p 1 [] 1 0 0), .rt 14 .row (tr (List.replicate 16 false))]) (Weak.sim ⟨rfl, rfl, rfl, rfl, Rf rfl, ⟨rfl, rfl⟩, Rf rfl, rfl, ⟨_, rfl, sim_rep 16⟩, trivial⟩ rfl rfl) ?_
 refine AW.loop (fun o : OutB (rowI a.Free) (okI a.Free) => [.sl 18 (.v (iv o.k)), .sl 17 (.v (iv a.Free.length)), .sl 16 (.h base []), .sl 3 (.h 14 []), .rt 1 .box (T.s 1 1 fun k c => ([(T.j, none)].getD (k * 1 + c) (T.j, none)).fst), .al 1 0 (.h base []), .rt base .ro (tr a.Free), .sl 1 (.p 1 [] 1 0 0), .rt 14 .row (tr o.u)]) (fun o => 5 - o.k) ⟨0, by omega, List.replicate 16 false, by simp, by unfold okI; rw [if_pos hlen]⟩ ?_
 intro o
 have hleo := o.le
 refine AW.seq (AW.region ?_)
 refine qq (Qt.binOp rfl rfl rfl) ?_
 refine nl ?_
 refine AW.seq ?_
 refine AW.cond rfl (fun c2 => ?_) (fun c2 => ?_)
 ·have k2 := c2
  try simp only [cnd] at c2
  refine jd (AW.seq (AW.block (AW.seq (AW.region ?_))))
  refine qq Qt.move ?_
  refine nm ?_
  refine qq (Qt.indexAddr rfl rfl rfl rfl sl24 sz35 (by decide) (by omega)) ?_
  refine qq (Qt.load1 rfl rfl rfl ag35) ?_
  refine qq Qt.assign ?_
  refine nm ?_
  refine qq Qt.assign ?_
  refine nl ?_
  refine AW.seq (AW.region ?_)
  refine qq Qt.assign ?_
  refine nl ?_
  refine AW.seq (AW.region ?_)
  refine qq Qt.move ?_
  refine nm ?_
  refine qq (Qt.lenH rfl rfl rfl sl35) ?_
  refine qq Qt.move ?_
  refine nl ?_
  refine AW.block ?_
  refine AW.weak (L' := [.sl 25 (.v (iv (0 : Nat))), .sl 18 (.v (iv o.k)), .sl 24 (.v (iv (a.Free.getD o.k En.dflt).length)), .sl 23 (.h base [(1, o.k, 0)]), .sl 4 (.v (iv o.k)), .sl 5 (.h base [(1, o.k, 0)]), .sl 6 (.v (iv (lastL (a.Free.getD o.k En.dflt) 0))), .sl 17 (.v (iv a.Free.length)), .sl 16 (.h base []), .sl 3 (.h 14 []), .rt 1 .box (T.s 1 1 fun k c => ([(T.j, none)].getD (k * 1 + c) (T.j, none)).fst), .al 1 0 (.h base []), .rt base .ro (tr a.Free), .sl 1 (.p 1 [] 1 0 0), .rt 14 .row (tr o.u)]) (Weak.sim ⟨rfl, rfl, rfl, rfl, rfl, rfl, rfl, rfl, rfl, rfl, Rf rfl, ⟨rfl, rfl⟩, Rf rfl, rfl, Rf rfl, trivial⟩ rfl rfl) ?_
  refine AW.loop (fun m : MidB (a.Free.getD o.k En.dflt) (budI o.k (a.Free.getD o.k En.dflt)) o.k (rowI a.Free o.k o.u) => [.sl 25 (.v (iv m.k)), .sl 18 (.v (iv o.k)), .sl 24 (.v (iv (a.Free.getD o.k En.dflt).length)), .sl 23 (.h base [(1, o.k, 0)]), .sl 4 (.v (iv o.k)), .sl 5 (.h base [(1, o.k, 0)]), .sl 6 (.v (iv (lastL (a.Free.getD o.k En.dflt) m.k))), .sl 17 (.v (iv a.Free.length)), .sl 16 (.h base []), .sl 3 (.h 14 []), .rt 1 .box (T.s 1 1 fun k c => ([(T.j, none)].getD (k * 1 + c) (T.j, none)).fst), .al 1 0 (.h base []), .rt base .ro (tr a.Free), .sl 1 (.p 1 [] 1 0 0), .rt 14 .row (tr m.u)]) (fun m => (a.Free.getD o.k En.dflt).length - m.k) ⟨0, Nat.zero_le _, o.u, o.ul, rfl⟩ ?_
  intro m
  have hlem := m.le
  have hpw := pow5 (k := o.k) (by omega)
  refine AW.len base [(1, o.k, 0)] rfl (by refine ⟨rfl, ?_, Nat.lt_succ_self 0, trivial⟩; show o.k < a.Free.length; omega) rfl (fun hl => ?_)
  refine AW.seq (AW.region ?_)
  refine qq (Qt.binOp rfl rfl rfl) ?_
  refine nl ?_
  refine AW.seq ?_
  refine AW.cond rfl (fun c3 => ?_) (fun c3 => ?_)
  ·have k3 := c3
   try simp only [cnd] at c3
   refine jd (AW.seq (AW.block (AW.seq (AW.region ?_))))
   refine qq (Qt.indexAddr rfl rfl rfl rfl sl35 sz3 (by decide) (by omega)) ?_
   refine nm ?_
   refine qq (Qt.load1 rfl rfl rfl ag3) ?_
   refine qq Qt.assign ?_
   refine nl ?_
   refine AW.seq (AW.seq (AW.region ?_))
   refine qq Qt.move ?_
   refine nm ?_
   refine cv Try.call34 rfl rfl (isFrame_con _) ?_
   refine nm ?_
   refine qq (Qt.notB rfl) ?_
   refine qq Qt.move ?_
   apply AWL.cut 3
   ·intro Kg4
    refine AWL.splitF 32 rfl (fun g4 => ?_) (fun g4 => ?_)
    ·have eg4 := g4
     try simp only [cnd] at eg4
     refine qg (nF g4) Qt.move ?_
     refine nm ?_
     refine qg (nF g4) Qt.move ?_
     refine qg (nF g4) (Qt.binOp rfl rfl rfl) ?_
     exact wj 35 [33, 34, 35] (ifF g4 _ undef) (by simp only [go_sem, Int.reduceToNat, Nat.reduceLT, reduceIte, Nat.reduceEqDiff, Nat.reduceAdd, Nat.reduceMul, Nat.reduceBEq, reduceCtorEq]; rfl) Kg4
    ·refine og (nT g4) ?_
     refine og (nT g4) ?_
     refine og (nT g4) ?_
     exact wj 35 [33, 34, 35] (ifT g4 undef _) (by simp only [go_sem, Int.reduceToNat, Nat.reduceLT, reduceIte, Nat.reduceEqDiff, Nat.reduceAdd, Nat.reduceMul, Nat.reduceBEq, reduceCtorEq]) Kg4
   refine qq (Qt.pickOr rfl rfl rfl) ?_
   refine nm ?_
   refine qq Qt.move ?_
   apply AWL.cut 5
   ·intro Kg5
    refine AWL.splitF 37 rfl (fun g5 => ?_) (fun g5 => ?_)
    ·have eg5 := g5
     try simp only [cnd] at eg5
     refine qg (nF g5) Qt.move ?_
     refine qg (nF g5) Qt.move ?_
     refine nm ?_
     refine qg (nF g5) (Qt.binOp rfl rfl (by first | exact pbShl1i (by omega) | rfl)) ?_
     refine qg (nF g5) (Qt.binOp rfl rfl (by first | exact pbRem4 _ | rfl | exact pbRemI (by omega))) ?_
     refine qg (nF g5) (Qt.binOp rfl rfl rfl) ?_
     refine nm ?_
     exact wj 42 [38, 39, 40, 41, 42] (ifF g5 _ undef) (by simp only [go_sem, Int.reduceToNat, Nat.reduceLT, reduceIte, Nat.reduceEqDiff, Nat.reduceAdd, Nat.reduceMul, Nat.reduceBEq, reduceCtorEq]; rfl) Kg5
    ·refine og (nT g5) ?_
     refine og (nT g5) ?_
     refine og (nT g5) ?_
     refine og (nT g5) ?_
     refine nm ?_
     refine og (nT g5) ?_
     exact wj 42 [38, 39, 40, 41, 42] (ifT g5 undef _) (by simp only [go_sem, Int.reduceToNat, Nat.reduceLT, reduceIte, Nat.reduceEqDiff, Nat.reduceAdd, Nat.reduceMul, Nat.reduceBEq, reduceCtorEq]) Kg5
   refine qq (Qt.pickOr rfl rfl rfl) ?_
   refine nl ?_
   refine AW.cond rfl (fun c6 => ?_) (fun c6 => ?_)
   ·have k6 := c6
    try simp only [cnd] at c6
    refine AW.seq (AW.region ?_)
    refine qq Qt.assign ?_
    refine nl ?_
    refine AW.ret (endQ_ret (.cons (.tmp 2) .nil) ?_)
    have hz : okI a.Free = false := o.eq.trans (rows_none (m.eq.trans (row_bad ((bad_I (k := o.k) (l := (a.Free.getD o.k En.dflt)) (j := m.k)).symm.trans k6) (by omega))) (by omega))
    exact (congrArg (fun z => X.v (Value.bool z)) hz).symm
   have k6 := c6
   try simp only [cnd] at c6
   have hbad : bad o.k (a.Free.getD o.k En.dflt) m.k = false := (bad_I (k := o.k) (l := (a.Free.getD o.k En.dflt)) (j := m.k)).symm.trans k6
   have hnb : 0 ≤ (a.Free.getD o.k En.dflt).getD m.k En.dflt ∧ (a.Free.getD o.k En.dflt).getD m.k En.dflt < 16 ∧ (a.Free.getD o.k En.dflt).getD m.k En.dflt % (2 ^ o.k : Nat) = 0 := notBad hbad
   have hf : (a.Free.getD o.k En.dflt).getD m.k En.dflt = ((posL (a.Free.getD o.k En.dflt) m.k : Nat) : Int) := (Int.toNat_of_nonneg hnb.1).symm
   have hnm : posL (a.Free.getD o.k En.dflt) m.k % 2 ^ o.k = 0 := by have h3 := hnb.2.2; rw [hf] at h3; exact_mod_cast h3
   have hbi := block_in (n := posL (a.Free.getD o.k En.dflt) m.k) (k := o.k) (by omega) (by omega) hnm
   refine jd (AW.seq (AW.region ?_))
   refine qq Qt.move ?_
   refine nm ?_
   refine qq Qt.assign ?_
   refine nl ?_
   refine AW.seq (AW.seq (AW.region ?_))
   refine qq Qt.move ?_
   refine qq Qt.assign ?_
   refine nl ?_
   refine AW.block ?_
   refine AW.weak (L' := [.sl 9 (.v (iv (posL (a.Free.getD o.k En.dflt) m.k : Nat))), .sl 25 (.v (iv m.k)), .sl 18 (.v (iv o.k)), .sl 8 (.v (iv (posL (a.Free.getD o.k En.dflt) m.k : Nat))), .sl 24 (.v (iv (a.Free.getD o.k En.dflt).length)), .sl 23 (.h base [(1, o.k, 0)]), .sl 4 (.v (iv o.k)), .sl 5 (.h base [(1, o.k, 0)]), .sl 6 (.v (iv ((a.Free.getD o.k En.dflt).getD m.k En.dflt))), .sl 17 (.v (iv a.Free.length)), .sl 16 (.h base []), .sl 3 (.h 14 []), .rt 1 .box (T.s 1 1 fun k c => ([(T.j, none)].getD (k * 1 + c) (T.j, none)).fst), .al 1 0 (.h base []), .rt base .ro (tr a.Free), .sl 1 (.p 1 [] 1 0 0), .rt 14 .row (tr m.u)]) (Weak.sim ⟨(congrArg (fun z => X.v (iv z)) hf), rfl, rfl, (congrArg (fun z => X.v (iv z)) hf), rfl, rfl, rfl, rfl, rfl, rfl, rfl, rfl, Rf rfl, ⟨rfl, rfl⟩, Rf rfl, rfl, Rf rfl, trivial⟩ rfl rfl) ?_
   refine AW.loop (fun x : InB (paint m.u (posL (a.Free.getD o.k En.dflt) m.k) (2 ^ o.k)) (posL (a.Free.getD o.k En.dflt) m.k) (posL (a.Free.getD o.k En.dflt) m.k + 2 ^ o.k) => [.sl 9 (.v (iv x.k)), .sl 25 (.v (iv m.k)), .sl 18 (.v (iv o.k)), .sl 8 (.v (iv (posL (a.Free.getD o.k En.dflt) m.k : Nat))), .sl 24 (.v (iv (a.Free.getD o.k En.dflt).length)), .sl 23 (.h base [(1, o.k, 0)]), .sl 4 (.v (iv o.k)), .sl 5 (.h base [(1, o.k, 0)]), .sl 6 (.v (iv ((a.Free.getD o.k En.dflt).getD m.k En.dflt))), .sl 17 (.v (iv a.Free.length)), .sl 16 (.h base []), .sl 3 (.h 14 []), .rt 1 .box (T.s 1 1 fun k c => ([(T.j, none)].getD (k * 1 + c) (T.j, none)).fst), .al 1 0 (.h base []), .rt base .ro (tr a.Free), .sl 1 (.p 1 [] 1 0 0), .rt 14 .row (tr x.u)]) (fun x => posL (a.Free.getD o.k En.dflt) m.k + 2 ^ o.k - x.k) ⟨posL (a.Free.getD o.k En.dflt) m.k, by omega, Nat.le_refl _, m.u, m.ul, by rw [Nat.add_sub_cancel_left]⟩ ?_
   intro x
   have hlex := x.le
   have hxl := x.ul
   have hxg := x.ge
   refine AW.seq (AW.seq (AW.region ?_))
   refine qq Qt.move ?_
   refine nm ?_
   refine qq Qt.move ?_
   refine qq Qt.move ?_
   refine qq (Qt.binOp rfl rfl (by first | exact pbShl1i (by omega) | rfl)) ?_
   refine nm ?_
   refine qq (Qt.binOp rfl rfl (by first | exact pbAdd (by omega) | rfl)) ?_
   refine qq (Qt.binOp rfl rfl rfl) ?_
   refine nl ?_
   refine AW.cond rfl (fun c7 => ?_) (fun c7 => ?_)
   ·have k7 := c7
    try simp only [cnd] at c7
    refine jd (AW.seq (AW.block (AW.seq (AW.seq (AW.region ?_)))))
    refine qq Qt.move ?_
    refine nm ?_
    refine qq Qt.move ?_
    refine qq (Qt.indexAddr rfl rfl rfl rfl sl62 sz4 (by decide) (by omega)) ?_
    refine qq (Qt.load1 rfl rfl rfl ag4) ?_
    refine nl ?_
    refine AW.cond rfl (fun c8 => ?_) (fun c8 => ?_)
    ·have k8 := c8
     try simp only [cnd] at c8
     refine AW.seq (AW.region ?_)
     refine qq Qt.assign ?_
     refine nl ?_
     refine AW.ret (endQ_ret (.cons (.tmp 2) .nil) ?_)
     have hz : okI a.Free = false := o.eq.trans (rows_none (m.eq.trans (row_paint (x.eq.trans (by rw [paint_hit k8 (by omega)])) (by omega))) (by omega))
     exact (congrArg (fun z => X.v (Value.bool z)) hz).symm
    have k8 := c8
    try simp only [cnd] at c8
    refine jd (AW.region ?_)
    refine qq Qt.move ?_
    refine nm ?_
    refine qq Qt.move ?_
    refine qq (Qt.indexAddr rfl rfl rfl rfl sl62 sz4 (by decide) (by omega)) ?_
    refine ss ?_
    refine nl ?_
    refine AW.region ?_
    refine qq Qt.move ?_
    refine nm ?_
    refine qq (Qt.binOp rfl rfl (by first | exact pbAdd (by omega) | rfl)) ?_
    refine qq Qt.assign ?_
    refine nl ?_
    refine ⟨⟨x.k + 1, by omega, by omega, x.u.set x.k true, by simp [x.ul], x.eq.trans (by rw [paint_next k8 (by omega), Nat.sub_sub])⟩, Weak.sim ⟨st1, rfl, rfl, rfl, rfl, rfl, rfl, rfl, rfl, rfl, rfl, rfl, Rf rfl, ⟨rfl, rfl⟩, Rf rfl, rfl, ⟨_, rfl, (set_sim (fun k c hk => by simp only [upd_app, hk, false_and, if_false]; try rfl) (fun c hc => match c, hc with | 0, _ => (by simp only [upd_app, eq_self, and_self, if_true]; exact T.sim_refl _) | c + 1, hc => absurd hc (by simp only [En.n]; omega)))⟩, trivial⟩ rfl rfl, ?_⟩
    show posL (a.Free.getD o.k En.dflt) m.k + 2 ^ o.k - (x.k + 1) < posL (a.Free.getD o.k En.dflt) m.k + 2 ^ o.k - x.k
    omega
   have k7 := c7
   try simp only [cnd] at c7
   have hpaint : paint m.u (posL (a.Free.getD o.k En.dflt) m.k) (2 ^ o.k) = some x.u := x.eq.trans (by rw [show posL (a.Free.getD o.k En.dflt) m.k + 2 ^ o.k - x.k = 0 by omega]; rfl)
   refine AW.exit ?_
   dsimp only [thenQ, blockQ, reduceIte]
   refine AW.seq (AW.region ?_)
   refine qq Qt.move ?_
   refine nm ?_
   refine qq (Qt.binOp rfl rfl rfl) ?_
   refine qq Qt.move ?_
   apply AWL.cut 5
   ·intro Kg9
    refine AWL.split 63 rfl (fun g9 => ?_) (fun g9 => ?_)
    ·have eg9 := g9
     try simp only [cnd] at eg9
     refine qg g9 Qt.move ?_
     refine nm ?_
     refine qg g9 Qt.move ?_
     refine qg g9 Qt.move ?_
     refine AWL.step rfl g9 (Stp.callV rfl (by decide) Try.call37 rfl rfl (buddyOf_con (posL (a.Free.getD o.k En.dflt) m.k) o.k (by omega) (by omega))) ?_
     refine nm ?_
     refine AWL.step rfl g9 (Stp.callV rfl (by decide) Try.call71 rfl rfl (containsI_con _ _)) ?_
     refine nm ?_
     exact wj 68 [64, 65, 66, 67, 68] (ifT g9 _ undef) (by simp only [go_sem, Int.reduceToNat, Nat.reduceLT, reduceIte, Nat.reduceEqDiff, Nat.reduceAdd, Nat.reduceMul, Nat.reduceBEq, reduceCtorEq]; rfl) Kg9
    ·refine og g9 ?_
     refine og g9 ?_
     refine og g9 ?_
     refine og g9 ?_
     refine nm ?_
     refine og g9 ?_
     exact wj 68 [64, 65, 66, 67, 68] (ifF g9 undef _) (by simp only [go_sem, Int.reduceToNat, Nat.reduceLT, reduceIte, Nat.reduceEqDiff, Nat.reduceAdd, Nat.reduceMul, Nat.reduceBEq, reduceCtorEq]) Kg9
   refine qq (Qt.pickAnd rfl rfl rfl) ?_
   refine nl ?_
   refine AW.cond rfl (fun c10 => ?_) (fun c10 => ?_)
   ·have k10 := c10
    try simp only [cnd] at c10
    refine AW.seq (AW.region ?_)
    refine qq Qt.assign ?_
    refine nl ?_
    refine AW.ret (endQ_ret (.cons (.tmp 2) .nil) ?_)
    have hz : okI a.Free = false := o.eq.trans (rows_none (m.eq.trans (row_bud hpaint ((bud_I (k := o.k) (l := (a.Free.getD o.k En.dflt)) (j := m.k)).symm.trans k10) (by omega))) (by omega))
    exact (congrArg (fun z => X.v (Value.bool z)) hz).symm
   have k10 := c10
   try simp only [cnd] at c10
   have hbud := (bud_I (k := o.k) (l := (a.Free.getD o.k En.dflt)) (j := m.k)).symm.trans k10
   refine jd (AW.region ?_)
   refine qq (Qt.binOp rfl rfl (by first | exact pbAdd (by omega) | rfl)) ?_
   refine nm ?_
   refine qq Qt.move ?_
   refine nl ?_
   refine ⟨⟨m.k + 1, by omega, x.u, x.ul, m.eq.trans (by rw [row_next hbad hpaint hbud (by omega), Nat.sub_sub])⟩, Weak.sim ⟨st1, rfl, rfl, rfl, rfl, rfl, st1, rfl, rfl, rfl, Rf rfl, ⟨rfl, rfl⟩, Rf rfl, rfl, Rf rfl, trivial⟩ rfl rfl, ?_⟩
   show (a.Free.getD o.k En.dflt).length - (m.k + 1) < (a.Free.getD o.k En.dflt).length - m.k
   omega
  have k3 := c3
  try simp only [cnd] at c3
  refine AW.exit ?_
  dsimp only [thenQ, blockQ, reduceIte]
  refine AW.region ?_
  refine qq (Qt.binOp rfl rfl (by first | exact pbAdd (by omega) | rfl)) ?_
  refine qq Qt.move ?_
  refine nl ?_
  refine ⟨⟨o.k + 1, by omega, m.u, m.ul, o.eq.trans (by rw [rows_next (u' := m.u) (m.eq.trans (by rw [show (a.Free.getD o.k En.dflt).length - m.k = 0 by omega]; rfl)) (by omega), Nat.sub_sub])⟩, Weak.sim ⟨st1, rfl, rfl, rfl, Rf rfl, ⟨rfl, rfl⟩, Rf rfl, rfl, Rf rfl, trivial⟩ rfl rfl, ?_⟩
  show 5 - (o.k + 1) < 5 - o.k
  omega
 have k2 := c2
 try simp only [cnd] at c2
 refine AW.exit ?_
 dsimp only [thenQ, blockQ, reduceIte]
 refine AW.seq (AW.region ?_)
 refine qq Qt.assign ?_
 refine nl ?_
 refine AW.ret (endQ_ret (.cons (.tmp 2) .nil) ?_)
 have hz : okI a.Free = true := o.eq.trans (by rw [show 5 - o.k = 0 by omega]; rfl)
 exact (congrArg (fun z => X.v (Value.bool z)) hz).symm
end Go.Proofs.Ytfbefcmeghpalaa.VM
