/- Contracts of functions of the program. No conditions beyond those that each states. -/
import Derived.Test.YtbchjcapphclgaaCJZ
import Derived.Test.YtbchjcapphclgaaCJT
import Derived.Test.YtbchjcapphclgaaVmE
import Derived.Test.YtbchjcapphclgaaCJY
set_option linter.all false
namespace Go.Proofs.Ytbchjcapphclgaa.VM
open Go Go.RowKit Go.Proofs
theorem xI' {a b : Int} (h : a = b) : X.v (iv a) = X.v (iv b) := by rw [h]
structure DfI where
 k : Nat
 le : k ≤ 4
theorem view_takeI {l : List Int} {n : Nat} (h : n ≤ l.length) : (T.s 1 n fun k c => (En.cs (l.getD (0 + k) En.dflt)).getD c .j).sim (tr (l.take n)) := by
 refine ⟨fun k c => (En.cs ((l.take n).getD k En.dflt)).getD c .j, by rw [tr, List.length_take, Nat.min_eq_left h]; rfl, fun k c hk hc => ?_⟩
 have : (l.take n).getD k En.dflt = l.getD (0 + k) En.dflt := by
  rw [Nat.zero_add, List.getD_eq_getElem?_getD, List.getD_eq_getElem?_getD, List.getElem?_take, if_pos hk]
 show ((En.cs (l.getD (0 + k) En.dflt)).getD c .j).sim ((En.cs ((l.take n).getD k En.dflt)).getD c .j)
 rw [this]
 exact T.sim_refl _
set_option maxHeartbeats 8000000 in
set_option maxRecDepth 10000 in
theorem big_con (code : List UInt8) : Con Try.prog 5 [.h base []] [.rt base .ro (tr code)] (fun y _ => y = .v (.bool (decide ((code.length : Int) > 1048576)))) := by
 refine Con.of_body Try.func5 rfl (by simp) ?_
 rw [Try.ntmps5]
 refine AW.seq (AW.region ?_)
 refine qq Qt.assign ?_
 refine nl ?_
 refine AW.seq (AW.region ?_)
 refine qq Qt.move ?_
 refine qq (Qt.lenH rfl rfl rfl sl22) ?_
 refine nm ?_
 refine qq (Qt.binOp rfl rfl rfl) ?_
 refine qq Qt.assign ?_
 refine nl ?_
 refine AW.ret (endQ_ret (.cons (.tmp 2) .nil) ?_)
 rfl
set_option maxHeartbeats 8000000 in
set_option maxRecDepth 10000 in
theorem FnExec_con (code : List UInt8) : Con Try.prog 4 [.h base []] [.rt base .ro (tr code)] (fun y _ => y = .v (.bool true)) := by
 refine Con.of_body Try.func4 rfl (by simp) ?_
 rw [Try.ntmps4]
 refine AW.seq (AW.region ?_)
 refine qq Qt.assign ?_
 refine nl ?_
 refine AW.seq (AW.seq (AW.region ?_))
 refine qq Qt.move ?_
 refine cv Try.call5 rfl rfl (big_con code) ?_
 refine nl ?_
 refine AW.cond rfl (fun c1 => ?_) (fun c1 => ?_)
 ·have k1 := c1
  try simp only [cnd] at c1
  refine AW.seq (AW.region ?_)
  refine qq Qt.assign ?_
  refine nl ?_
  refine AW.ret (endQ_ret (.cons (.tmp 2) .nil) ?_)
  rfl
 have k1 := c1
 try simp only [cnd] at c1
 refine jd (AW.seq (AW.region ?_))
 refine qq Qt.move ?_
 refine nm ?_
 refine spK (StpK.callC false rfl (by decide) Try.call13 rfl rfl rfl rfl (DrawExec_con code (by omega)) (fun _ => nodup_of rfl) (fun _ => rfl) (fun _ => rfl) (fun _ => rfl) (fun h => by cases h)) ?_
 rintro _ ⟨d3_1, hd3_1, rfl⟩
 try dsimp only at hd3_1
 have hLR : (d3_1.2.1.2.1.take d3_1.2.1.2.2).length = d3_1.2.1.2.2 := by rw [List.length_take]; omega
 refine nm ?_
 refine qq Qt.move ?_
 refine qq (Qt.extract rfl (of_decide_eq_true rfl)) ?_
 refine qq (Qt.extract rfl (of_decide_eq_true rfl)) ?_
 refine nm ?_
 refine AWL.weak (Weak.frz 1017 rfl) ?_
 refine nm ?_
 refine AWL.weak (Weak.viewG 19 901 rfl rfl (.inr (by omega)) rfl (by decide)) ?_
 refine AWL.rep 901 (tr (d3_1.2.1.2.1.take d3_1.2.1.2.2)) rfl (view_takeI (by omega)) ?_
 obtain ⟨cc, hcc1, hcc2⟩ : ∃ cc : DCpu, cc.Pc = d3_1.2.1.1 ∧ cc.Regs = d3_1.2.1.2.1.take d3_1.2.1.2.2 := ⟨⟨_, _⟩, rfl, rfl⟩
 rw [← hcc1, ← hcc2]
 refine nm ?_
 refine qq (Qt.extract rfl (of_decide_eq_true rfl)) ?_
 refine sp (Stp.alloc rfl (by decide) (by decide)) ?_
 refine nm ?_
 refine qq Qt.assign ?_
 refine ss ?_
 refine nm ?_
 refine qq Qt.assign ?_
 refine nl ?_
 refine AW.seq (AW.region ?_)
 refine qq Qt.move ?_
 refine qq (Qt.loadG rfl rfl rfl ag36 sz36 (by decide)) ?_
 refine nm ?_
 refine qq Qt.move ?_
 refine sp (Stp.callR rfl (by decide) Try.call14 rfl rfl (ExecI_con d3_1.1 cc d3_1.2.2) (nodup_of rfl) rfl rfl) ?_
 refine nm ?_
 refine qq Qt.move ?_
 refine qq (Qt.extract rfl (of_decide_eq_true rfl)) ?_
 refine qq (Qt.extract rfl (of_decide_eq_true rfl)) ?_
 refine nm ?_
 refine sp (Stp.alloc rfl (by decide) (by decide)) ?_
 refine nm ?_
 refine sp (Stp.alloc rfl (by decide) (by decide)) ?_
 refine nm ?_
 refine ss ?_
 refine nm ?_
 refine ss ?_
 refine nl ?_
 refine AW.seq (AW.region ?_)
 refine qq Qt.move ?_
 refine nm ?_
 refine qq (Qt.loadG rfl rfl rfl ag36 sz36 (by decide)) ?_
 refine qq Qt.move ?_
 refine sp (Stp.callR rfl (by decide) Try.call15 rfl rfl (ExecS_con d3_1.1 cc d3_1.2.2) (nodup_of rfl) rfl rfl) ?_
 refine nm ?_
 refine qq Qt.move ?_
 refine qq (Qt.extract rfl (of_decide_eq_true rfl)) ?_
 refine qq (Qt.extract rfl (of_decide_eq_true rfl)) ?_
 refine nm ?_
 refine sp (Stp.alloc rfl (by decide) (by decide)) ?_
 refine nm ?_
 refine sp (Stp.alloc rfl (by decide) (by decide)) ?_
 refine nm ?_
 refine ss ?_
 refine nm ?_
 refine ss ?_
 refine nl ?_
 refine AW.seq (AW.seq (AW.region ?_))
 refine qq (Qt.loadG rfl rfl rfl ag40 sz40 (by decide)) ?_
 refine nm ?_
 refine qq (Qt.loadG rfl rfl rfl ag40 sz40 (by decide)) ?_
 refine qq (Qt.neS (ne40 _ _ _ _ _ _ _ _) rfl rfl) ?_
 refine qq Qt.move ?_
 refine nm ?_
 apply AWL.cut 5
 ·intro Kg2
  refine AWL.splitF 38 rfl (fun g2 => ?_) (fun g2 => ?_)
  ·have eg2 := g2
   try simp only [cnd] at eg2
   refine qg (nF g2) (fA fl36_0) ?_
   refine qg (nF g2) (Qt.load1 rfl rfl rfl ag3) ?_
   refine qg (nF g2) (fA fl36_0) ?_
   refine nm ?_
   refine qg (nF g2) (Qt.load1 rfl rfl rfl ag3) ?_
   refine qg (nF g2) (Qt.binOp rfl rfl rfl) ?_
   exact wj 43 [39, 40, 41, 42, 43] (ifF g2 _ undef) (by simp only [go_sem, Int.reduceToNat, Nat.reduceLT, reduceIte, Nat.reduceEqDiff, Nat.reduceAdd, Nat.reduceMul, Nat.reduceBEq, reduceCtorEq]; rfl) Kg2
  ·refine og (nT g2) ?_
   refine og (nT g2) ?_
   refine og (nT g2) ?_
   refine og (nT g2) ?_
   refine nm ?_
   refine og (nT g2) ?_
   exact wj 43 [39, 40, 41, 42, 43] (ifT g2 undef _) (by simp only [go_sem, Int.reduceToNat, Nat.reduceLT, reduceIte, Nat.reduceEqDiff, Nat.reduceAdd, Nat.reduceMul, Nat.reduceBEq, reduceCtorEq]) Kg2
 refine qq (Qt.pickOr rfl rfl rfl) ?_
 refine nm ?_
 refine qq Qt.move ?_
 apply AWL.cut 6
 ·intro Kg3
  refine AWL.splitF 45 rfl (fun g3 => ?_) (fun g3 => ?_)
  ·have eg3 := g3
   try simp only [cnd] at eg3
   refine qg (nF g3) (fA fl36_1) ?_
   refine qg (nF g3) (Qt.load1 rfl rfl rfl ag34) ?_
   refine nm ?_
   refine qg (nF g3) (fA fl36_1) ?_
   refine qg (nF g3) (Qt.load1 rfl rfl rfl ag34) ?_
   refine AWL.step rfl (nF g3) (Stp.callV rfl (by decide) Try.call16 rfl rfl (sameInts_con _ _)) ?_
   refine nm ?_
   refine qg (nF g3) (Qt.notB rfl) ?_
   exact wj 51 [46, 47, 48, 49, 50, 51] (ifF g3 _ undef) (by simp only [go_sem, Int.reduceToNat, Nat.reduceLT, reduceIte, Nat.reduceEqDiff, Nat.reduceAdd, Nat.reduceMul, Nat.reduceBEq, reduceCtorEq]; rfl) Kg3
  ·refine og (nT g3) ?_
   refine og (nT g3) ?_
   refine og (nT g3) ?_
   refine og (nT g3) ?_
   refine nm ?_
   refine og (nT g3) ?_
   refine og (nT g3) ?_
   exact wj 51 [46, 47, 48, 49, 50, 51] (ifT g3 undef _) (by simp only [go_sem, Int.reduceToNat, Nat.reduceLT, reduceIte, Nat.reduceEqDiff, Nat.reduceAdd, Nat.reduceMul, Nat.reduceBEq, reduceCtorEq]) Kg3
 refine qq (Qt.pickOr rfl rfl rfl) ?_
 refine nl ?_
 refine AW.cond rfl (fun c4 => ?_) (fun c4 => ?_)
 ·have k4 := c4
  try simp only [cnd] at c4
  refine AW.seq (AW.region ?_)
  refine qq Qt.assign ?_
  refine nl ?_
  refine AW.ret (endQ_ret (.cons (.tmp 2) .nil) ?_)
  exact absurd k4 (by simp)
 have k4 := c4
 try simp only [cnd] at c4
 refine jd (AW.seq (AW.seq (AW.region ?_)))
 refine qq (fA fl36_1) ?_
 refine nm ?_
 refine qq (Qt.load1 rfl rfl rfl ag34) ?_
 refine qq (Qt.lenH rfl rfl rfl sl34) ?_
 refine qq (Qt.binOp rfl rfl rfl) ?_
 refine nl ?_
 refine AW.cond rfl (fun c5 => ?_) (fun c5 => ?_)
 ·have k5 := c5
  try simp only [cnd] at c5
  refine AW.seq (AW.region ?_)
  refine qq (fA fl40_0) ?_
  refine nm ?_
  refine qq (Qt.load1 rfl rfl rfl ag3) ?_
  refine qq (Qt.binOp rfl rfl rfl) ?_
  refine qq Qt.assign ?_
  refine nl ?_
  refine AW.ret (endQ_ret (.cons (.tmp 2) .nil) ?_)
  simp only [retX, slotL, reduceIte, Nat.reduceEqDiff]
  rw [execM_bad (p := d3_1.1) (c := cc) (m := d3_1.2.2) (by omega)]
  rfl
 have k5 := c5
 try simp only [cnd] at c5
 have hxo := execM_ok c5
 obtain ⟨hxl, hcl⟩ := execM_len hxo
 have hL := execLaw hxo
 refine jd (AW.seq (AW.region ?_))
 refine qq Qt.assign ?_
 refine nl ?_
 refine AW.seq (AW.seq (AW.region ?_))
 refine qq Qt.assign ?_
 refine nl ?_
 refine AW.block ?_
 refine AW.loopW (fun i : DfI => [.sl 11 (.v (iv i.k)), .sl 10 (.v (iv (diffN (execM d3_1.1 cc d3_1.2.2).1.Regs cc.Regs i.k : Nat))), .sl 6 (.p 6 [] 2 0 0), .rt 6 .box (T.s 2 1 fun _ c => [T.v (iv (execM d3_1.1 cc d3_1.2.2).1.Pc), T.j].getD c T.j), .al 6 1 (.h 25 []), .rt 25 .row (tr (execM d3_1.1 cc d3_1.2.2).1.Regs), .sl 4 (.p 4 [] 2 0 0), .rt 4 .box (T.s 2 1 fun _ c => [T.v (iv cc.Pc), T.j].getD c T.j), .al 4 1 (.h 901 []), .rt 901 .ro (tr cc.Regs), .sl 7 (.p 7 [] 4 0 0), .rt 7 .box (T.s 4 1 fun _ c => [T.v (iv (execM d3_1.1 cc d3_1.2.2).2.Kind), T.v (iv (execM d3_1.1 cc d3_1.2.2).2.Addr), T.v (iv (execM d3_1.1 cc d3_1.2.2).2.Val), T.v (iv (execM d3_1.1 cc d3_1.2.2).2.Sys)].getD c T.j), .sl 3 (.h 17 []), .rt 17 .row (tr d3_1.1), .sl 5 (.h 2017 []), .rt 2017 .row (tr d3_1.2.2), .sl 0 (.h base []), .rt base .ro (tr code)]) (fun i => 4 - i.k) ⟨0, by omega⟩ (Weak.sim ⟨rfl, rfl, rfl, ⟨_, rfl, cpu_sim rfl rfl⟩, ⟨rfl, rfl⟩, Rf rfl, rfl, ⟨_, rfl, cpu_sim rfl rfl⟩, ⟨rfl, rfl⟩, Rf rfl, rfl, ⟨_, rfl, did_sim rfl rfl rfl rfl⟩, rfl, Rf rfl, rfl, Rf rfl, rfl, Rf rfl, trivial⟩ rfl rfl) ?_
 intro i
 have hle := i.le
 have hdn := diffN_le (execM d3_1.1 cc d3_1.2.2).1.Regs cc.Regs i.k
 refine AW.seq (AW.seq (AW.region ?_))
 refine qq Qt.move ?_
 refine nm ?_
 refine qq (Qt.binOp rfl rfl rfl) ?_
 refine nl ?_
 refine AW.cond rfl (fun c6 => ?_) (fun c6 => ?_)
 ·have k6 := c6
  try simp only [cnd] at c6
  refine jd (AW.seq (AW.block (AW.seq ?_)))
  refine AW.draw [0, 1, 2, 3, 4, 5, 6, 7, 8, 9, 10] rfl (by decide +kernel) ?_
  refine tk 0 rfl (fA fl36_1) ?_
  refine tk 1 rfl (Qt.load1 rfl rfl rfl ag34) ?_
  refine na ?_
  refine tk 2 rfl Qt.move ?_
  refine tk 3 rfl (Qt.indexAddr rfl rfl rfl rfl sl34 sz3 (by decide) (by first | omega | grind only)) ?_
  refine tk 4 rfl (Qt.load1 rfl rfl rfl ag3) ?_
  refine na ?_
  refine tk 5 rfl (fA fl36_1) ?_
  refine tk 6 rfl (Qt.load1 rfl rfl rfl ag34) ?_
  refine tk 7 rfl Qt.move ?_
  refine na ?_
  refine tk 8 rfl (Qt.indexAddr rfl rfl rfl rfl sl34 sz3 (by decide) (by first | omega | grind only)) ?_
  refine tk 9 rfl (Qt.load1 rfl rfl rfl ag3) ?_
  refine tk 10 rfl (Qt.binOp rfl rfl rfl) ?_
  refine na ?_
  refine nz ?_
  refine AW.cond rfl (fun c7 => ?_) (fun c7 => ?_)
  ·have k7 := c7
   try simp only [cnd] at c7
   refine AW.region ?_
   refine qq Qt.move ?_
   refine qq (Qt.binOp rfl rfl (by first | exact pbAdd (by omega) | rfl)) ?_
   refine qq Qt.assign ?_
   refine nl ?_
   refine AW.region ?_
   refine qq Qt.move ?_
   refine nm ?_
   refine qq (Qt.binOp rfl rfl (by first | exact pbAdd (by omega) | rfl)) ?_
   refine qq Qt.assign ?_
   refine nl ?_
   refine ⟨⟨i.k + 1, by omega⟩, Weak.sim ⟨st1, (xI' (by rw [diffN_yes (by grind only)]; rfl)), rfl, Rf rfl, ⟨rfl, rfl⟩, Rf rfl, rfl, Rf rfl, ⟨rfl, rfl⟩, Rf rfl, rfl, Rf rfl, rfl, Rf rfl, rfl, Rf rfl, rfl, Rf rfl, trivial⟩ rfl rfl, ?_⟩
   show 4 - (i.k + 1) < 4 - i.k
   omega
  have k7 := c7
  try simp only [cnd] at c7
  refine jd (AW.region ?_)
  refine qq Qt.move ?_
  refine nm ?_
  refine qq (Qt.binOp rfl rfl (by first | exact pbAdd (by omega) | rfl)) ?_
  refine qq Qt.assign ?_
  refine nl ?_
  refine ⟨⟨i.k + 1, by omega⟩, Weak.sim ⟨st1, (xI' (by rw [diffN_no (by grind only)])), rfl, Rf rfl, ⟨rfl, rfl⟩, Rf rfl, rfl, Rf rfl, ⟨rfl, rfl⟩, Rf rfl, rfl, Rf rfl, rfl, Rf rfl, rfl, Rf rfl, rfl, Rf rfl, trivial⟩ rfl rfl, ?_⟩
  show 4 - (i.k + 1) < 4 - i.k
  omega
 have k6 := c6
 try simp only [cnd] at c6
 refine AW.exit ?_
 dsimp only [thenQ, blockQ, reduceIte]
 refine AW.seq (AW.seq (AW.region ?_))
 refine qq (fA fl40_0) ?_
 refine nm ?_
 refine qq (Qt.load1 rfl rfl rfl ag3) ?_
 refine qq (Qt.binOp rfl rfl rfl) ?_
 refine nl ?_
 refine AW.cond rfl (fun c8 => ?_) (fun c8 => ?_)
 ·have k8 := c8
  try simp only [cnd] at c8
  refine AW.seq (AW.region ?_)
  refine qq Qt.move ?_
  refine nm ?_
  refine qq (Qt.binOp rfl rfl rfl) ?_
  refine qq Qt.move ?_
  apply AWL.cut 5
  ·intro Kg9
   refine AWL.split 82 rfl (fun g9 => ?_) (fun g9 => ?_)
   ·have eg9 := g9
    try simp only [cnd] at eg9
    refine qg g9 (fA fl36_0) ?_
    refine nm ?_
    refine qg g9 (Qt.load1 rfl rfl rfl ag3) ?_
    refine qg g9 (fA fl36_0) ?_
    refine qg g9 (Qt.load1 rfl rfl rfl ag3) ?_
    refine nm ?_
    refine qg g9 (Qt.binOp rfl rfl rfl) ?_
    exact wj 87 [83, 84, 85, 86, 87] (ifT g9 _ undef) (by simp only [go_sem, Int.reduceToNat, Nat.reduceLT, reduceIte, Nat.reduceEqDiff, Nat.reduceAdd, Nat.reduceMul, Nat.reduceBEq, reduceCtorEq]; rfl) Kg9
   ·refine og g9 ?_
    refine og g9 ?_
    refine og g9 ?_
    refine og g9 ?_
    refine nm ?_
    refine og g9 ?_
    exact wj 87 [83, 84, 85, 86, 87] (ifF g9 undef _) (by simp only [go_sem, Int.reduceToNat, Nat.reduceLT, reduceIte, Nat.reduceEqDiff, Nat.reduceAdd, Nat.reduceMul, Nat.reduceBEq, reduceCtorEq]) Kg9
  refine qq (Qt.pickAnd rfl rfl rfl) ?_
  refine qq Qt.assign ?_
  refine nl ?_
  refine AW.ret (endQ_ret (.cons (.tmp 2) .nil) ?_)
  simp only [retX, slotL, reduceIte, Nat.reduceEqDiff]
  have hf := hL.fault c8
  rw [hf, diffN_self]
  simp
 have k8 := c8
 try simp only [cnd] at c8
 have hP1 := hL.one c8
 have hP0 := (execFacts hxo).1
 refine jd (AW.seq (AW.region ?_))
 refine qq Qt.move ?_
 refine nm ?_
 refine qq (fA fl36_0) ?_
 refine qq (Qt.load1 rfl rfl rfl ag3) ?_
 refine qq (Qt.indexAddr rfl rfl rfl rfl sl33 sz45 (by decide) (by first | omega | grind only)) ?_
 refine nm ?_
 refine qq (Qt.loadG rfl rfl rfl ag45 sz45 (by decide)) ?_
 refine sp (Stp.alloc rfl (by decide) (by decide)) ?_
 refine nm ?_
 refine ss ?_
 refine nl ?_
 refine AW.seq (AW.region ?_)
 refine qq Qt.move ?_
 refine nm ?_
 refine qq (Qt.binOp rfl rfl rfl) ?_
 refine qq Qt.move ?_
 apply AWL.cut 2
 ·intro Kg10
  refine AWL.split 96 rfl (fun g10 => ?_) (fun g10 => ?_)
  ·have eg10 := g10
   try simp only [cnd] at eg10
   refine qg g10 (Qt.loadG rfl rfl rfl ag36 sz36 (by decide)) ?_
   refine nm ?_
   refine AWL.step rfl g10 (Stp.callV rfl (by decide) Try.call17 rfl rfl (CpuOkS_con (execM d3_1.1 cc d3_1.2.2).1.Pc (execM d3_1.1 cc d3_1.2.2).1.Regs (by omega))) ?_
   refine nm ?_
   exact wj 98 [97, 98] (ifT g10 _ undef) (by simp only [go_sem, Int.reduceToNat, Nat.reduceLT, reduceIte, Nat.reduceEqDiff, Nat.reduceAdd, Nat.reduceMul, Nat.reduceBEq, reduceCtorEq]; rfl) Kg10
  ·refine og g10 ?_
   refine og g10 ?_
   exact wj 98 [97, 98] (ifF g10 undef _) (by simp only [go_sem, Int.reduceToNat, Nat.reduceLT, reduceIte, Nat.reduceEqDiff, Nat.reduceAdd, Nat.reduceMul, Nat.reduceBEq, reduceCtorEq]) Kg10
 refine qq (Qt.pickAnd rfl rfl rfl) ?_
 refine qq Qt.move ?_
 apply AWL.cut 16
 ·intro Kg11
  refine AWL.split 100 rfl (fun g11 => ?_) (fun g11 => ?_)
  ·have eg11 := g11
   try simp only [cnd] at eg11
   refine qg g11 (fA fl36_0) ?_
   refine nm ?_
   refine qg g11 (Qt.load1 rfl rfl rfl ag3) ?_
   refine qg g11 (fA fl36_0) ?_
   refine qg g11 (Qt.load1 rfl rfl rfl ag3) ?_
   refine nm ?_
   refine qg g11 (Qt.binOp rfl rfl (by first | exact pbAdd (by omega) | rfl)) ?_
   refine qg g11 (Qt.binOp rfl rfl rfl) ?_
   refine qg g11 Qt.move ?_
   refine nm ?_
   apply AWL.cut 3
   ·intro Kg12
    refine AWL.splitF 107 rfl (fun g12 => ?_) (fun g12 => ?_)
    ·have eg12 := g12
     try simp only [cnd] at eg12
     refine qg (nF g12) (fA fl45_0) ?_
     refine qg (nF g12) (Qt.load1 rfl rfl rfl ag3) ?_
     refine qg (nF g12) (Qt.binOp rfl rfl rfl) ?_
     refine nm ?_
     exact wj 110 [108, 109, 110] (ifF g12 _ undef) (by simp only [go_sem, Int.reduceToNat, Nat.reduceLT, reduceIte, Nat.reduceEqDiff, Nat.reduceAdd, Nat.reduceMul, Nat.reduceBEq, reduceCtorEq]; rfl) Kg12
    ·refine og (nT g12) ?_
     refine og (nT g12) ?_
     refine og (nT g12) ?_
     exact wj 110 [108, 109, 110] (ifT g12 undef _) (by simp only [go_sem, Int.reduceToNat, Nat.reduceLT, reduceIte, Nat.reduceEqDiff, Nat.reduceAdd, Nat.reduceMul, Nat.reduceBEq, reduceCtorEq]) Kg12
   refine qg g11 (Qt.pickOr rfl rfl rfl) ?_
   refine qg g11 Qt.move ?_
   apply AWL.cut 3
   ·intro Kg13
    refine AWL.splitF 112 rfl (fun g13 => ?_) (fun g13 => ?_)
    ·have eg13 := g13
     try simp only [cnd] at eg13
     refine qg (nF g13) (fA fl45_0) ?_
     refine nm ?_
     refine qg (nF g13) (Qt.load1 rfl rfl rfl ag3) ?_
     refine qg (nF g13) (Qt.binOp rfl rfl rfl) ?_
     exact wj 115 [113, 114, 115] (ifF g13 _ undef) (by simp only [go_sem, Int.reduceToNat, Nat.reduceLT, reduceIte, Nat.reduceEqDiff, Nat.reduceAdd, Nat.reduceMul, Nat.reduceBEq, reduceCtorEq]; rfl) Kg13
    ·refine og (nT g13) ?_
     refine og (nT g13) ?_
     refine og (nT g13) ?_
     exact wj 115 [113, 114, 115] (ifT g13 undef _) (by simp only [go_sem, Int.reduceToNat, Nat.reduceLT, reduceIte, Nat.reduceEqDiff, Nat.reduceAdd, Nat.reduceMul, Nat.reduceBEq, reduceCtorEq]) Kg13
   refine qg g11 (Qt.pickOr rfl rfl rfl) ?_
   refine nm ?_
   exact wj 116 [101, 102, 103, 104, 105, 106, 107, 108, 109, 110, 111, 112, 113, 114, 115, 116] (ifT g11 _ undef) (by simp only [go_sem, Int.reduceToNat, Nat.reduceLT, reduceIte, Nat.reduceEqDiff, Nat.reduceAdd, Nat.reduceMul, Nat.reduceBEq, reduceCtorEq]; rfl) Kg11
  ·refine og g11 ?_
   refine og g11 ?_
   refine og g11 ?_
   refine og g11 ?_
   refine nm ?_
   refine og g11 ?_
   refine og g11 ?_
   refine og g11 ?_
   refine og rfl ?_
   refine nm ?_
   refine og rfl ?_
   refine og rfl ?_
   refine og g11 ?_
   refine og g11 ?_
   refine nm ?_
   refine og rfl ?_
   refine og rfl ?_
   refine og rfl ?_
   refine og g11 ?_
   exact wj 116 [101, 102, 103, 104, 105, 106, 107, 108, 109, 110, 111, 112, 113, 114, 115, 116] (ifF g11 undef _) (by simp only [go_sem, Int.reduceToNat, Nat.reduceLT, reduceIte, Nat.reduceEqDiff, Nat.reduceAdd, Nat.reduceMul, Nat.reduceBEq, reduceCtorEq]) Kg11
 refine qq (Qt.pickAnd rfl rfl rfl) ?_
 refine qq Qt.move ?_
 apply AWL.cut 15
 ·intro Kg14
  refine AWL.split 118 rfl (fun g14 => ?_) (fun g14 => ?_)
  ·have eg14 := g14
   try simp only [cnd] at eg14
   refine qg g14 (fA fl40_1) ?_
   refine nm ?_
   refine qg g14 (Qt.load1 rfl rfl rfl ag3) ?_
   refine qg g14 (Qt.binOp rfl rfl rfl) ?_
   refine qg g14 Qt.move ?_
   refine nm ?_
   apply AWL.cut 10
   ·intro Kg15
    refine AWL.splitF 122 rfl (fun g15 => ?_) (fun g15 => ?_)
    ·have eg15 := g15
     try simp only [cnd] at eg15
     refine qg (nF g15) (fA fl45_0) ?_
     refine qg (nF g15) (Qt.load1 rfl rfl rfl ag3) ?_
     refine qg (nF g15) (Qt.binOp rfl rfl rfl) ?_
     refine nm ?_
     refine qg (nF g15) Qt.move ?_
     apply AWL.cut 5
     ·intro Kg16
      refine AWL.split 126 rfl (fun g16 => ?_) (fun g16 => ?_)
      ·have eg16 := g16
       try simp only [cnd] at eg16
       refine qg g16 (fA fl40_1) ?_
       refine qg g16 (Qt.load1 rfl rfl rfl ag3) ?_
       refine nm ?_
       refine qg g16 Qt.move ?_
       refine qg g16 (Qt.lenH rfl rfl rfl sl34) ?_
       refine qg g16 (Qt.binOp rfl rfl rfl) ?_
       refine nm ?_
       exact wj 131 [127, 128, 129, 130, 131] (ifT g16 _ undef) (by simp only [go_sem, Int.reduceToNat, Nat.reduceLT, reduceIte, Nat.reduceEqDiff, Nat.reduceAdd, Nat.reduceMul, Nat.reduceBEq, reduceCtorEq]; rfl) Kg16
      ·refine og g16 ?_
       refine og g16 ?_
       refine og g16 ?_
       refine og g16 ?_
       refine nm ?_
       refine og g16 ?_
       exact wj 131 [127, 128, 129, 130, 131] (ifF g16 undef _) (by simp only [go_sem, Int.reduceToNat, Nat.reduceLT, reduceIte, Nat.reduceEqDiff, Nat.reduceAdd, Nat.reduceMul, Nat.reduceBEq, reduceCtorEq]) Kg16
     refine qg (nF g15) (Qt.pickAnd rfl rfl rfl) ?_
     exact wj 132 [123, 124, 125, 126, 127, 128, 129, 130, 131, 132] (ifF g15 _ undef) (by simp only [go_sem, Int.reduceToNat, Nat.reduceLT, reduceIte, Nat.reduceEqDiff, Nat.reduceAdd, Nat.reduceMul, Nat.reduceBEq, reduceCtorEq]; rfl) Kg15
    ·refine og (nT g15) ?_
     refine og (nT g15) ?_
     refine og (nT g15) ?_
     refine og (nT g15) ?_
     refine nm ?_
     refine og rfl ?_
     refine og rfl ?_
     refine og rfl ?_
     refine og rfl ?_
     refine nm ?_
     refine og rfl ?_
     refine og (nT g15) ?_
     exact wj 132 [123, 124, 125, 126, 127, 128, 129, 130, 131, 132] (ifT g15 undef _) (by simp only [go_sem, Int.reduceToNat, Nat.reduceLT, reduceIte, Nat.reduceEqDiff, Nat.reduceAdd, Nat.reduceMul, Nat.reduceBEq, reduceCtorEq]) Kg15
   refine qg g14 (Qt.pickOr rfl rfl rfl) ?_
   exact wj 133 [119, 120, 121, 122, 123, 124, 125, 126, 127, 128, 129, 130, 131, 132, 133] (ifT g14 _ undef) (by simp only [go_sem, Int.reduceToNat, Nat.reduceLT, reduceIte, Nat.reduceEqDiff, Nat.reduceAdd, Nat.reduceMul, Nat.reduceBEq, reduceCtorEq]; rfl) Kg14
  ·refine og g14 ?_
   refine og g14 ?_
   refine og g14 ?_
   refine og g14 ?_
   refine nm ?_
   refine og rfl ?_
   refine og rfl ?_
   refine og rfl ?_
   refine og rfl ?_
   refine nm ?_
   refine og rfl ?_
   refine og rfl ?_
   refine og rfl ?_
   refine og rfl ?_
   refine nm ?_
   refine og rfl ?_
   refine og rfl ?_
   refine og g14 ?_
   exact wj 133 [119, 120, 121, 122, 123, 124, 125, 126, 127, 128, 129, 130, 131, 132, 133] (ifF g14 undef _) (by simp only [go_sem, Int.reduceToNat, Nat.reduceLT, reduceIte, Nat.reduceEqDiff, Nat.reduceAdd, Nat.reduceMul, Nat.reduceBEq, reduceCtorEq]) Kg14
 refine qq (Qt.pickAnd rfl rfl rfl) ?_
 refine nm ?_
 refine qq Qt.assign ?_
 refine nl ?_
 refine AW.ret (endQ_ret (.cons (.tmp 2) .nil) ?_)
 simp only [retX, slotL, reduceIte, Nat.reduceEqDiff]
 rw [show i.k = 4 from by omega]
 have h1 : decide (((diffN (execM d3_1.1 cc d3_1.2.2).1.Regs cc.Regs 4 : Nat) : Int) ≤ 1) = true := decide_eq_true (by have := hL.df; omega)
 have h2 := hL.ok
 have h3 := hL.pc c8
 have h4 := hL.ad
 simp only [cpuOk] at h2
 rw [h1, h2]
 congr 2
 rw [Bool.true_and, Bool.true_and, Bool.and_eq_true]
 refine ⟨?_, ?_⟩
 ·simp only [Bool.or_eq_true, beq_iff_eq]
  omega
 ·simp only [Bool.or_eq_true, Bool.and_eq_true, beq_iff_eq, decide_eq_true_eq]
  exact h4
end Go.Proofs.Ytbchjcapphclgaa.VM
