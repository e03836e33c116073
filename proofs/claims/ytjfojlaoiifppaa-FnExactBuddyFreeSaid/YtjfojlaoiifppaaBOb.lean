/- Contracts of functions of the program. No conditions beyond those that each states. -/
import Derived.Test.YtjfojlaoiifppaaBOa
import Derived.Test.YtjfojlaoiifppaaHn
set_option linter.all false
namespace Go.Proofs.Ytjfojlaoiifppaa.VM
open Go Go.RowKit Go.Proofs
set_option maxRecDepth 10000 in
theorem BuddyOkS_con (a : DBuddy) : Con Try.prog 42 [.g [.h base []]] [.rt base .ro (tr a.Free)] (fun y _ => y = .v (.bool (okS a.Free))) := by
  refine Con.of_body Try.func42 rfl (by simp) ?_
  rw [Try.ntmps42]
  refine AW.seq ?_
  refine AW.region ?_
  refine AWL.step rfl rfl (Stp.boxB rfl (by decide) (by decide) rfl rfl rfl rfl) ?_
  refine AWL.nrm (by simp only [go_sem, Int.reduceToNat, Nat.reduceLT, reduceIte, Nat.reduceEqDiff, Nat.reduceAdd, Nat.reduceMul, Nat.reduceBEq, reduceCtorEq]; rfl) ?_
  refine AWL.q rfl rfl rfl (by decide) Qt.assign ?_
  refine AWL.nilE (by simp only [go_sem, Int.reduceToNat, Nat.reduceLT, reduceIte, Nat.reduceEqDiff, Nat.reduceAdd, Nat.reduceMul, Nat.reduceBEq, reduceCtorEq]; rfl) ?_
  try dsimp only [thenQ, blockQ]
  refine AW.seq ?_
  refine AW.seq ?_
  refine AW.region ?_
  refine AWL.q rfl rfl rfl (by decide) (Qt.fieldAddr rfl fl54_0 rfl rfl (by decide)) ?_
  refine AWL.q rfl rfl rfl (by decide) (Qt.load1 rfl rfl rfl ag52) ?_
  refine AWL.nrm (by simp only [go_sem, Int.reduceToNat, Nat.reduceLT, reduceIte, Nat.reduceEqDiff, Nat.reduceAdd, Nat.reduceMul, Nat.reduceBEq, reduceCtorEq]; rfl) ?_
  refine AWL.q rfl rfl rfl (by decide) (Qt.lenH rfl rfl rfl sl52) ?_
  refine AWL.q rfl rfl rfl (by decide) (Qt.binOp rfl rfl rfl) ?_
  refine AWL.nilE (by simp only [go_sem, Int.reduceToNat, Nat.reduceLT, reduceIte, Nat.reduceEqDiff, Nat.reduceAdd, Nat.reduceMul, Nat.reduceBEq, reduceCtorEq]; rfl) ?_
  try dsimp only [thenQ, blockQ]
  refine AW.cond rfl (fun c1 => ?_) (fun c1 => ?_)
  · have k1 := c1
    try simp only [decide_eq_true_eq, decide_eq_false_iff_not, bne_iff_ne, ne_eq, beq_iff_eq, beq_eq_false_iff_ne, bne_eq_false_iff_eq, Bool.not_eq_true', Bool.not_eq_false', Bool.and_eq_true, Bool.or_eq_true, Bool.and_eq_false_iff, Bool.or_eq_false_iff, Int.not_lt, Int.not_le, Int.toNat_natCast] at c1
    refine AW.seq ?_
    refine AW.region ?_
    refine AWL.q rfl rfl rfl (by decide) Qt.assign ?_
    refine AWL.nilE (by simp only [go_sem, Int.reduceToNat, Nat.reduceLT, reduceIte, Nat.reduceEqDiff, Nat.reduceAdd, Nat.reduceMul, Nat.reduceBEq, reduceCtorEq]; rfl) ?_
    try dsimp only [thenQ, blockQ]
    refine AW.ret ?_
    try dsimp only [thenQ, blockQ]
    refine endQ_ret (.cons (.tmp 2) .nil) ?_
    rw [show okS a.Free = false by unfold okS; exact if_neg (by omega)]
    rfl
  · have k1 := c1
    try simp only [decide_eq_true_eq, decide_eq_false_iff_not, bne_iff_ne, ne_eq, beq_iff_eq, beq_eq_false_iff_ne, bne_eq_false_iff_eq, Bool.not_eq_true', Bool.not_eq_false', Bool.and_eq_true, Bool.or_eq_true, Bool.and_eq_false_iff, Bool.or_eq_false_iff, Int.not_lt, Int.not_le, Int.toNat_natCast] at c1
    have hlen : a.Free.length = 5 := by omega
    refine AW.skip ?_
    dsimp only [thenQ, blockQ]
    refine AW.seq ?_
    refine AW.region ?_
    refine AWL.step rfl rfl (Stp.makeSlice rfl (by decide) (by decide) rfl rfl (by omega) (by omega) (by omega)) ?_
    refine AWL.nrm (by simp only [go_sem, Int.reduceToNat, Nat.reduceLT, reduceIte, Nat.reduceEqDiff, Nat.reduceAdd, Nat.reduceMul, Nat.reduceBEq, reduceCtorEq]; rfl) ?_
    refine AWL.q rfl rfl rfl (by decide) Qt.assign ?_
    refine AWL.nilE (by simp only [go_sem, Int.reduceToNat, Nat.reduceLT, reduceIte, Nat.reduceEqDiff, Nat.reduceAdd, Nat.reduceMul, Nat.reduceBEq, reduceCtorEq]; rfl) ?_
    try dsimp only [thenQ, blockQ]
    refine AW.seq ?_
    refine AW.seq ?_
    refine AW.region ?_
    refine AWL.q rfl rfl rfl (by decide) Qt.assign ?_
    refine AWL.nilE (by simp only [go_sem, Int.reduceToNat, Nat.reduceLT, reduceIte, Nat.reduceEqDiff, Nat.reduceAdd, Nat.reduceMul, Nat.reduceBEq, reduceCtorEq]; rfl) ?_
    try dsimp only [thenQ, blockQ]
    refine AW.block ?_
    refine AW.weak (L' := [.sl 4 (.v (iv (0 : Nat))), .sl 3 (.h 13 []), .rt 1 .box (T.s 1 1 fun k c => ([(T.j, none)].getD (k * 1 + c) (T.j, none)).fst), .al 1 0 (.h base []), .rt base .ro (tr a.Free), .sl 1 (.p 1 [] 1 0 0), .rt 13 .row (tr (List.replicate 16 false))]) (Weak.sim ⟨rfl, rfl, ⟨_, rfl, T.sim_refl _⟩, ⟨rfl, rfl⟩, ⟨_, rfl, T.sim_refl _⟩, rfl, ⟨_, rfl, sim_rep 16⟩, trivial⟩ rfl rfl) ?_
    refine AW.loop (fun o : OutB (rowS a.Free) (okS a.Free) => [.sl 4 (.v (iv o.k)), .sl 3 (.h 13 []), .rt 1 .box (T.s 1 1 fun k c => ([(T.j, none)].getD (k * 1 + c) (T.j, none)).fst), .al 1 0 (.h base []), .rt base .ro (tr a.Free), .sl 1 (.p 1 [] 1 0 0), .rt 13 .row (tr o.u)]) (fun o => 5 - o.k) ⟨0, by omega, List.replicate 16 false, by simp, by unfold okS; rw [if_pos hlen]⟩ ?_
    intro o
    have hleo := o.le
    refine AW.seq ?_
    refine AW.seq ?_
    refine AW.region ?_
    refine AWL.q rfl rfl rfl (by decide) Qt.move ?_
    refine AWL.nrm (by simp only [go_sem, Int.reduceToNat, Nat.reduceLT, reduceIte, Nat.reduceEqDiff, Nat.reduceAdd, Nat.reduceMul, Nat.reduceBEq, reduceCtorEq]; rfl) ?_
    refine AWL.q rfl rfl rfl (by decide) (Qt.binOp rfl rfl rfl) ?_
    refine AWL.nilE (by simp only [go_sem, Int.reduceToNat, Nat.reduceLT, reduceIte, Nat.reduceEqDiff, Nat.reduceAdd, Nat.reduceMul, Nat.reduceBEq, reduceCtorEq]; rfl) ?_
    try dsimp only [thenQ, blockQ]
    refine AW.cond rfl (fun c2 => ?_) (fun c2 => ?_)
    · have k2 := c2
      try simp only [decide_eq_true_eq, decide_eq_false_iff_not, bne_iff_ne, ne_eq, beq_iff_eq, beq_eq_false_iff_ne, bne_eq_false_iff_eq, Bool.not_eq_true', Bool.not_eq_false', Bool.and_eq_true, Bool.or_eq_true, Bool.and_eq_false_iff, Bool.or_eq_false_iff, Int.not_lt, Int.not_le, Int.toNat_natCast] at c2
      refine AW.skip ?_
      dsimp only [thenQ, blockQ]
      refine AW.seq ?_
      refine AW.block ?_
      refine AW.seq ?_
      refine AW.region ?_
      refine AWL.q rfl rfl rfl (by decide) Qt.move ?_
      refine AWL.step rfl rfl (Stp.callV rfl (by decide) Try.call82 rfl rfl (l15Len_con o.k (by omega))) ?_
      refine AWL.nrm (by simp only [go_sem, Int.reduceToNat, Nat.reduceLT, reduceIte, Nat.reduceEqDiff, Nat.reduceAdd, Nat.reduceMul, Nat.reduceBEq, reduceCtorEq]; rfl) ?_
      refine AWL.q rfl rfl rfl (by decide) Qt.assign ?_
      refine AWL.nilE (by simp only [go_sem, Int.reduceToNat, Nat.reduceLT, reduceIte, Nat.reduceEqDiff, Nat.reduceAdd, Nat.reduceMul, Nat.reduceBEq, reduceCtorEq]; rfl) ?_
      try dsimp only [thenQ, blockQ]
      refine AW.seq ?_
      refine AW.region ?_
      refine AWL.q rfl rfl rfl (by decide) Qt.assign ?_
      refine AWL.nilE (by simp only [go_sem, Int.reduceToNat, Nat.reduceLT, reduceIte, Nat.reduceEqDiff, Nat.reduceAdd, Nat.reduceMul, Nat.reduceBEq, reduceCtorEq]; rfl) ?_
      try dsimp only [thenQ, blockQ]
      refine AW.block ?_
      refine AW.weak (L' := [.sl 6 (.v (iv (0 : Nat))), .sl 4 (.v (iv o.k)), .sl 5 (.v (iv ((2 ^ o.k : Nat) : Int))), .sl 3 (.h 13 []), .rt 1 .box (T.s 1 1 fun k c => ([(T.j, none)].getD (k * 1 + c) (T.j, none)).fst), .al 1 0 (.h base []), .rt base .ro (tr a.Free), .sl 1 (.p 1 [] 1 0 0), .rt 13 .row (tr o.u)]) (Weak.sim ⟨rfl, rfl, rfl, rfl, ⟨_, rfl, T.sim_refl _⟩, ⟨rfl, rfl⟩, ⟨_, rfl, T.sim_refl _⟩, rfl, ⟨_, rfl, T.sim_refl _⟩, trivial⟩ rfl rfl) ?_
      refine AW.loop (fun m : MidB (a.Free.getD o.k En.dflt) (budS o.k (a.Free.getD o.k En.dflt)) o.k (rowS a.Free o.k o.u) => [.sl 6 (.v (iv m.k)), .sl 4 (.v (iv o.k)), .sl 5 (.v (iv ((2 ^ o.k : Nat) : Int))), .sl 3 (.h 13 []), .rt 1 .box (T.s 1 1 fun k c => ([(T.j, none)].getD (k * 1 + c) (T.j, none)).fst), .al 1 0 (.h base []), .rt base .ro (tr a.Free), .sl 1 (.p 1 [] 1 0 0), .rt 13 .row (tr m.u)]) (fun m => (a.Free.getD o.k En.dflt).length - m.k) ⟨0, Nat.zero_le _, o.u, o.ul, rfl⟩ ?_
      intro m
      have hlem := m.le
      have hpw := pow5 (k := o.k) (by omega)
      refine AW.len base [(1, o.k, 0)] rfl (by refine ⟨rfl, ?_, Nat.lt_succ_self 0, trivial⟩; show o.k < a.Free.length; omega) rfl (fun hl => ?_)
      refine AW.seq ?_
      refine AW.seq ?_
      refine AW.region ?_
      refine AWL.q rfl rfl rfl (by decide) Qt.move ?_
      refine AWL.nrm (by simp only [go_sem, Int.reduceToNat, Nat.reduceLT, reduceIte, Nat.reduceEqDiff, Nat.reduceAdd, Nat.reduceMul, Nat.reduceBEq, reduceCtorEq]; rfl) ?_
      refine AWL.q rfl rfl rfl (by decide) (Qt.fieldAddr rfl fl54_0 rfl rfl (by decide)) ?_
      refine AWL.q rfl rfl rfl (by decide) (Qt.load1 rfl rfl rfl ag52) ?_
      refine AWL.q rfl rfl rfl (by decide) Qt.move ?_
      refine AWL.nrm (by simp only [go_sem, Int.reduceToNat, Nat.reduceLT, reduceIte, Nat.reduceEqDiff, Nat.reduceAdd, Nat.reduceMul, Nat.reduceBEq, reduceCtorEq]; rfl) ?_
      refine AWL.q rfl rfl rfl (by decide) (Qt.indexAddr rfl rfl rfl rfl sl52 sz22 (by decide) (by omega)) ?_
      refine AWL.q rfl rfl rfl (by decide) (Qt.load1 rfl rfl rfl ag22) ?_
      refine AWL.q rfl rfl rfl (by decide) (Qt.lenH rfl rfl rfl sl22) ?_
      refine AWL.nrm (by simp only [go_sem, Int.reduceToNat, Nat.reduceLT, reduceIte, Nat.reduceEqDiff, Nat.reduceAdd, Nat.reduceMul, Nat.reduceBEq, reduceCtorEq]; rfl) ?_
      refine AWL.q rfl rfl rfl (by decide) (Qt.binOp rfl rfl rfl) ?_
      refine AWL.nilE (by simp only [go_sem, Int.reduceToNat, Nat.reduceLT, reduceIte, Nat.reduceEqDiff, Nat.reduceAdd, Nat.reduceMul, Nat.reduceBEq, reduceCtorEq]; rfl) ?_
      try dsimp only [thenQ, blockQ]
      refine AW.cond rfl (fun c3 => ?_) (fun c3 => ?_)
      · have k3 := c3
        try simp only [decide_eq_true_eq, decide_eq_false_iff_not, bne_iff_ne, ne_eq, beq_iff_eq, beq_eq_false_iff_ne, bne_eq_false_iff_eq, Bool.not_eq_true', Bool.not_eq_false', Bool.and_eq_true, Bool.or_eq_true, Bool.and_eq_false_iff, Bool.or_eq_false_iff, Int.not_lt, Int.not_le, Int.toNat_natCast] at c3
        refine AW.skip ?_
        dsimp only [thenQ, blockQ]
        refine AW.seq ?_
        refine AW.block ?_
        refine AW.seq ?_
        refine AW.region ?_
        refine AWL.q rfl rfl rfl (by decide) (Qt.fieldAddr rfl fl54_0 rfl rfl (by decide)) ?_
        refine AWL.q rfl rfl rfl (by decide) (Qt.load1 rfl rfl rfl ag52) ?_
        refine AWL.nrm (by simp only [go_sem, Int.reduceToNat, Nat.reduceLT, reduceIte, Nat.reduceEqDiff, Nat.reduceAdd, Nat.reduceMul, Nat.reduceBEq, reduceCtorEq]; rfl) ?_
        refine AWL.q rfl rfl rfl (by decide) Qt.move ?_
        refine AWL.q rfl rfl rfl (by decide) (Qt.indexAddr rfl rfl rfl rfl sl52 sz22 (by decide) (by omega)) ?_
        refine AWL.q rfl rfl rfl (by decide) (Qt.load1 rfl rfl rfl ag22) ?_
        refine AWL.nrm (by simp only [go_sem, Int.reduceToNat, Nat.reduceLT, reduceIte, Nat.reduceEqDiff, Nat.reduceAdd, Nat.reduceMul, Nat.reduceBEq, reduceCtorEq]; rfl) ?_
        refine AWL.q rfl rfl rfl (by decide) Qt.move ?_
        refine AWL.q rfl rfl rfl (by decide) (Qt.indexAddr rfl rfl rfl rfl sl22 sz3 (by decide) (by omega)) ?_
        refine AWL.q rfl rfl rfl (by decide) (Qt.load1 rfl rfl rfl ag3) ?_
        refine AWL.nrm (by simp only [go_sem, Int.reduceToNat, Nat.reduceLT, reduceIte, Nat.reduceEqDiff, Nat.reduceAdd, Nat.reduceMul, Nat.reduceBEq, reduceCtorEq]; rfl) ?_
        refine AWL.q rfl rfl rfl (by decide) Qt.assign ?_
        refine AWL.nilE (by simp only [go_sem, Int.reduceToNat, Nat.reduceLT, reduceIte, Nat.reduceEqDiff, Nat.reduceAdd, Nat.reduceMul, Nat.reduceBEq, reduceCtorEq]; rfl) ?_
        try dsimp only [thenQ, blockQ]
        refine AW.seq ?_
        refine AW.seq ?_
        refine AW.region ?_
        refine AWL.q rfl rfl rfl (by decide) Qt.move ?_
        refine AWL.q rfl rfl rfl (by decide) (Qt.binOp rfl rfl rfl) ?_
        refine AWL.nrm (by simp only [go_sem, Int.reduceToNat, Nat.reduceLT, reduceIte, Nat.reduceEqDiff, Nat.reduceAdd, Nat.reduceMul, Nat.reduceBEq, reduceCtorEq]; rfl) ?_
        refine AWL.q rfl rfl rfl (by decide) Qt.move ?_
        apply AWL.cut 2
        · intro Kg4
          refine AWL.splitF 40 rfl (fun g4 => ?_) (fun g4 => ?_)
          · have eg4 := g4
            try simp only [decide_eq_true_eq, decide_eq_false_iff_not, bne_iff_ne, ne_eq, beq_iff_eq, beq_eq_false_iff_ne, bne_eq_false_iff_eq, Bool.not_eq_true', Bool.not_eq_false', Bool.and_eq_true, Bool.or_eq_true, Bool.and_eq_false_iff, Bool.or_eq_false_iff, Int.not_lt, Int.not_le, Int.toNat_natCast] at eg4
            refine AWL.q rfl (nF g4) rfl (by decide) Qt.move ?_
            refine AWL.q rfl (nF g4) rfl (by decide) (Qt.binOp rfl rfl rfl) ?_
            refine AWL.nrm (by simp only [go_sem, Int.reduceToNat, Nat.reduceLT, reduceIte, Nat.reduceEqDiff, Nat.reduceAdd, Nat.reduceMul, Nat.reduceBEq, reduceCtorEq]; rfl) ?_
            exact AWL.weak (Weak.join (d := 42) (ds := [41, 42]) rfl (ifF g4 _ undef) (by simp only [go_sem, Int.reduceToNat, Nat.reduceLT, reduceIte, Nat.reduceEqDiff, Nat.reduceAdd, Nat.reduceMul, Nat.reduceBEq, reduceCtorEq]; rfl)) Kg4
          · refine AWL.out rfl (nT g4) rfl (by decide) ?_
            refine AWL.out rfl (nT g4) rfl (by decide) ?_
            exact AWL.weak (Weak.join (d := 42) (ds := [41, 42]) rfl (ifT g4 undef _) (by simp only [go_sem, Int.reduceToNat, Nat.reduceLT, reduceIte, Nat.reduceEqDiff, Nat.reduceAdd, Nat.reduceMul, Nat.reduceBEq, reduceCtorEq])) Kg4
        refine AWL.q rfl rfl rfl (by decide) (Qt.pickOr rfl rfl rfl) ?_
        refine AWL.q rfl rfl rfl (by decide) Qt.move ?_
        apply AWL.cut 4
        · intro Kg5
          refine AWL.splitF 44 rfl (fun g5 => ?_) (fun g5 => ?_)
          · have eg5 := g5
            try simp only [decide_eq_true_eq, decide_eq_false_iff_not, bne_iff_ne, ne_eq, beq_iff_eq, beq_eq_false_iff_ne, bne_eq_false_iff_eq, Bool.not_eq_true', Bool.not_eq_false', Bool.and_eq_true, Bool.or_eq_true, Bool.and_eq_false_iff, Bool.or_eq_false_iff, Int.not_lt, Int.not_le, Int.toNat_natCast] at eg5
            refine AWL.q rfl (nF g5) rfl (by decide) Qt.move ?_
            refine AWL.nrm (by simp only [go_sem, Int.reduceToNat, Nat.reduceLT, reduceIte, Nat.reduceEqDiff, Nat.reduceAdd, Nat.reduceMul, Nat.reduceBEq, reduceCtorEq]; rfl) ?_
            refine AWL.q rfl (nF g5) rfl (by decide) Qt.move ?_
            refine AWL.q rfl (nF g5) rfl (by decide) (Qt.binOp rfl rfl (by first | rfl | exact pbRemI (by omega))) ?_
            refine AWL.q rfl (nF g5) rfl (by decide) (Qt.binOp rfl rfl rfl) ?_
            refine AWL.nrm (by simp only [go_sem, Int.reduceToNat, Nat.reduceLT, reduceIte, Nat.reduceEqDiff, Nat.reduceAdd, Nat.reduceMul, Nat.reduceBEq, reduceCtorEq]; rfl) ?_
            exact AWL.weak (Weak.join (d := 48) (ds := [45, 46, 47, 48]) rfl (ifF g5 _ undef) (by simp only [go_sem, Int.reduceToNat, Nat.reduceLT, reduceIte, Nat.reduceEqDiff, Nat.reduceAdd, Nat.reduceMul, Nat.reduceBEq, reduceCtorEq]; rfl)) Kg5
          · refine AWL.out rfl (nT g5) rfl (by decide) ?_
            refine AWL.out rfl (nT g5) rfl (by decide) ?_
            refine AWL.out rfl (nT g5) rfl (by decide) ?_
            refine AWL.out rfl (nT g5) rfl (by decide) ?_
            exact AWL.weak (Weak.join (d := 48) (ds := [45, 46, 47, 48]) rfl (ifT g5 undef _) (by simp only [go_sem, Int.reduceToNat, Nat.reduceLT, reduceIte, Nat.reduceEqDiff, Nat.reduceAdd, Nat.reduceMul, Nat.reduceBEq, reduceCtorEq])) Kg5
        refine AWL.q rfl rfl rfl (by decide) (Qt.pickOr rfl rfl rfl) ?_
        refine AWL.q rfl rfl rfl (by decide) Qt.move ?_
        apply AWL.cut 15
        · intro Kg6
          refine AWL.splitF 50 rfl (fun g6 => ?_) (fun g6 => ?_)
          · have eg6 := g6
            try simp only [decide_eq_true_eq, decide_eq_false_iff_not, bne_iff_ne, ne_eq, beq_iff_eq, beq_eq_false_iff_ne, bne_eq_false_iff_eq, Bool.not_eq_true', Bool.not_eq_false', Bool.and_eq_true, Bool.or_eq_true, Bool.and_eq_false_iff, Bool.or_eq_false_iff, Int.not_lt, Int.not_le, Int.toNat_natCast] at eg6
            refine AWL.q rfl (nF g6) rfl (by decide) Qt.move ?_
            refine AWL.nrm (by simp only [go_sem, Int.reduceToNat, Nat.reduceLT, reduceIte, Nat.reduceEqDiff, Nat.reduceAdd, Nat.reduceMul, Nat.reduceBEq, reduceCtorEq]; rfl) ?_
            refine AWL.q rfl (nF g6) rfl (by decide) (Qt.binOp rfl rfl rfl) ?_
            refine AWL.q rfl (nF g6) rfl (by decide) Qt.move ?_
            apply AWL.cut 11
            · intro Kg7
              refine AWL.split 53 rfl (fun g7 => ?_) (fun g7 => ?_)
              · have eg7 := g7
                try simp only [decide_eq_true_eq, decide_eq_false_iff_not, bne_iff_ne, ne_eq, beq_iff_eq, beq_eq_false_iff_ne, bne_eq_false_iff_eq, Bool.not_eq_true', Bool.not_eq_false', Bool.and_eq_true, Bool.or_eq_true, Bool.and_eq_false_iff, Bool.or_eq_false_iff, Int.not_lt, Int.not_le, Int.toNat_natCast] at eg7
                refine AWL.q rfl g7 rfl (by decide) (Qt.fieldAddr rfl fl54_0 rfl rfl (by decide)) ?_
                refine AWL.nrm (by simp only [go_sem, Int.reduceToNat, Nat.reduceLT, reduceIte, Nat.reduceEqDiff, Nat.reduceAdd, Nat.reduceMul, Nat.reduceBEq, reduceCtorEq]; rfl) ?_
                refine AWL.q rfl g7 rfl (by decide) (Qt.load1 rfl rfl rfl ag52) ?_
                refine AWL.q rfl g7 rfl (by decide) Qt.move ?_
                refine AWL.q rfl g7 rfl (by decide) (Qt.indexAddr rfl rfl rfl rfl sl52 sz22 (by decide) (by omega)) ?_
                refine AWL.nrm (by simp only [go_sem, Int.reduceToNat, Nat.reduceLT, reduceIte, Nat.reduceEqDiff, Nat.reduceAdd, Nat.reduceMul, Nat.reduceBEq, reduceCtorEq]; rfl) ?_
                refine AWL.q rfl g7 rfl (by decide) (Qt.load1 rfl rfl rfl ag22) ?_
                refine AWL.q rfl g7 rfl (by decide) Qt.move ?_
                refine AWL.q rfl g7 rfl (by decide) (Qt.binOp rfl rfl (by first | exact pbSub (by omega) | rfl)) ?_
                refine AWL.nrm (by simp only [go_sem, Int.reduceToNat, Nat.reduceLT, reduceIte, Nat.reduceEqDiff, Nat.reduceAdd, Nat.reduceMul, Nat.reduceBEq, reduceCtorEq]; rfl) ?_
                refine AWL.q rfl g7 rfl (by decide) (Qt.indexAddr rfl rfl rfl rfl sl22 sz3 (by decide) (by omega)) ?_
                refine AWL.q rfl g7 rfl (by decide) (Qt.load1 rfl rfl rfl ag3) ?_
                refine AWL.q rfl g7 rfl (by decide) Qt.move ?_
                refine AWL.nrm (by simp only [go_sem, Int.reduceToNat, Nat.reduceLT, reduceIte, Nat.reduceEqDiff, Nat.reduceAdd, Nat.reduceMul, Nat.reduceBEq, reduceCtorEq]; rfl) ?_
                refine AWL.q rfl g7 rfl (by decide) (Qt.binOp rfl rfl rfl) ?_
                exact AWL.weak (Weak.join (d := 64) (ds := [54, 55, 56, 57, 58, 59, 60, 61, 62, 63, 64]) rfl (ifT g7 _ undef) (by simp only [go_sem, Int.reduceToNat, Nat.reduceLT, reduceIte, Nat.reduceEqDiff, Nat.reduceAdd, Nat.reduceMul, Nat.reduceBEq, reduceCtorEq]; rfl)) Kg7
              · refine AWL.out rfl g7 rfl (by decide) ?_
                refine AWL.out rfl g7 rfl (by decide) ?_
                refine AWL.out rfl g7 rfl (by decide) ?_
                refine AWL.out rfl g7 rfl (by decide) ?_
                refine AWL.nrm (by simp only [go_sem, Int.reduceToNat, Nat.reduceLT, reduceIte, Nat.reduceEqDiff, Nat.reduceAdd, Nat.reduceMul, Nat.reduceBEq, reduceCtorEq]; rfl) ?_
                refine AWL.out rfl g7 rfl (by decide) ?_
                refine AWL.out rfl g7 rfl (by decide) ?_
                refine AWL.out rfl g7 rfl (by decide) ?_
                refine AWL.out rfl g7 rfl (by decide) ?_
                refine AWL.nrm (by simp only [go_sem, Int.reduceToNat, Nat.reduceLT, reduceIte, Nat.reduceEqDiff, Nat.reduceAdd, Nat.reduceMul, Nat.reduceBEq, reduceCtorEq]; rfl) ?_
                refine AWL.out rfl g7 rfl (by decide) ?_
                refine AWL.out rfl g7 rfl (by decide) ?_
                refine AWL.out rfl g7 rfl (by decide) ?_
                exact AWL.weak (Weak.join (d := 64) (ds := [54, 55, 56, 57, 58, 59, 60, 61, 62, 63, 64]) rfl (ifF g7 undef _) (by simp only [go_sem, Int.reduceToNat, Nat.reduceLT, reduceIte, Nat.reduceEqDiff, Nat.reduceAdd, Nat.reduceMul, Nat.reduceBEq, reduceCtorEq])) Kg7
            refine AWL.q rfl (nF g6) rfl (by decide) (Qt.pickAnd rfl rfl rfl) ?_
            exact AWL.weak (Weak.join (d := 65) (ds := [51, 52, 53, 54, 55, 56, 57, 58, 59, 60, 61, 62, 63, 64, 65]) rfl (ifF g6 _ undef) (by simp only [go_sem, Int.reduceToNat, Nat.reduceLT, reduceIte, Nat.reduceEqDiff, Nat.reduceAdd, Nat.reduceMul, Nat.reduceBEq, reduceCtorEq]; rfl)) Kg6
          · refine AWL.out rfl (nT g6) rfl (by decide) ?_
            refine AWL.out rfl (nT g6) rfl (by decide) ?_
            refine AWL.out rfl (nT g6) rfl (by decide) ?_
            refine AWL.out rfl rfl rfl (by decide) ?_
            refine AWL.nrm (by simp only [go_sem, Int.reduceToNat, Nat.reduceLT, reduceIte, Nat.reduceEqDiff, Nat.reduceAdd, Nat.reduceMul, Nat.reduceBEq, reduceCtorEq]; rfl) ?_
            refine AWL.out rfl rfl rfl (by decide) ?_
            refine AWL.out rfl rfl rfl (by decide) ?_
            refine AWL.out rfl rfl rfl (by decide) ?_
            refine AWL.out rfl rfl rfl (by decide) ?_
            refine AWL.nrm (by simp only [go_sem, Int.reduceToNat, Nat.reduceLT, reduceIte, Nat.reduceEqDiff, Nat.reduceAdd, Nat.reduceMul, Nat.reduceBEq, reduceCtorEq]; rfl) ?_
            refine AWL.out rfl rfl rfl (by decide) ?_
            refine AWL.out rfl rfl rfl (by decide) ?_
            refine AWL.out rfl rfl rfl (by decide) ?_
            refine AWL.out rfl rfl rfl (by decide) ?_
            refine AWL.nrm (by simp only [go_sem, Int.reduceToNat, Nat.reduceLT, reduceIte, Nat.reduceEqDiff, Nat.reduceAdd, Nat.reduceMul, Nat.reduceBEq, reduceCtorEq]; rfl) ?_
            refine AWL.out rfl rfl rfl (by decide) ?_
            refine AWL.out rfl rfl rfl (by decide) ?_
            refine AWL.out rfl (nT g6) rfl (by decide) ?_
            exact AWL.weak (Weak.join (d := 65) (ds := [51, 52, 53, 54, 55, 56, 57, 58, 59, 60, 61, 62, 63, 64, 65]) rfl (ifT g6 undef _) (by simp only [go_sem, Int.reduceToNat, Nat.reduceLT, reduceIte, Nat.reduceEqDiff, Nat.reduceAdd, Nat.reduceMul, Nat.reduceBEq, reduceCtorEq])) Kg6
        refine AWL.q rfl rfl rfl (by decide) (Qt.pickOr rfl rfl rfl) ?_
        refine AWL.nilE (by simp only [go_sem, Int.reduceToNat, Nat.reduceLT, reduceIte, Nat.reduceEqDiff, Nat.reduceAdd, Nat.reduceMul, Nat.reduceBEq, reduceCtorEq]; rfl) ?_
        try dsimp only [thenQ, blockQ]
        refine AW.cond rfl (fun c8 => ?_) (fun c8 => ?_)
        · have k8 := c8
          try simp only [decide_eq_true_eq, decide_eq_false_iff_not, bne_iff_ne, ne_eq, beq_iff_eq, beq_eq_false_iff_ne, bne_eq_false_iff_eq, Bool.not_eq_true', Bool.not_eq_false', Bool.and_eq_true, Bool.or_eq_true, Bool.and_eq_false_iff, Bool.or_eq_false_iff, Int.not_lt, Int.not_le, Int.toNat_natCast] at c8
          refine AW.seq ?_
          refine AW.region ?_
          refine AWL.q rfl rfl rfl (by decide) Qt.assign ?_
          refine AWL.nilE (by simp only [go_sem, Int.reduceToNat, Nat.reduceLT, reduceIte, Nat.reduceEqDiff, Nat.reduceAdd, Nat.reduceMul, Nat.reduceBEq, reduceCtorEq]; rfl) ?_
          try dsimp only [thenQ, blockQ]
          refine AW.ret ?_
          try dsimp only [thenQ, blockQ]
          refine endQ_ret (.cons (.tmp 2) .nil) ?_
          have hz : okS a.Free = false := o.eq.trans (rows_none (m.eq.trans (row_bad ((bad_S (k := o.k) (l := (a.Free.getD o.k En.dflt)) (j := m.k)).symm.trans k8) (by omega))) (by omega))
          exact (congrArg (fun z => X.v (Value.bool z)) hz).symm
        · have k8 := c8
          try simp only [decide_eq_true_eq, decide_eq_false_iff_not, bne_iff_ne, ne_eq, beq_iff_eq, beq_eq_false_iff_ne, bne_eq_false_iff_eq, Bool.not_eq_true', Bool.not_eq_false', Bool.and_eq_true, Bool.or_eq_true, Bool.and_eq_false_iff, Bool.or_eq_false_iff, Int.not_lt, Int.not_le, Int.toNat_natCast] at c8
          have hbad : bad o.k (a.Free.getD o.k En.dflt) m.k = false := (bad_S (k := o.k) (l := (a.Free.getD o.k En.dflt)) (j := m.k)).symm.trans k8
          have hnb : 0 ≤ (a.Free.getD o.k En.dflt).getD m.k En.dflt ∧ (a.Free.getD o.k En.dflt).getD m.k En.dflt < 16 ∧ (a.Free.getD o.k En.dflt).getD m.k En.dflt % (2 ^ o.k : Nat) = 0 := notBad hbad
          have hf : (a.Free.getD o.k En.dflt).getD m.k En.dflt = ((posL (a.Free.getD o.k En.dflt) m.k : Nat) : Int) := (Int.toNat_of_nonneg hnb.1).symm
          have hnm : posL (a.Free.getD o.k En.dflt) m.k % 2 ^ o.k = 0 := by have h3 := hnb.2.2; rw [hf] at h3; exact_mod_cast h3
          have hbi := block_in (n := posL (a.Free.getD o.k En.dflt) m.k) (k := o.k) (by omega) (by omega) hnm
          refine AW.skip ?_
          dsimp only [thenQ, blockQ]
          refine AW.seq ?_
          refine AW.seq ?_
          refine AW.region ?_
          refine AWL.q rfl rfl rfl (by decide) Qt.move ?_
          refine AWL.nrm (by simp only [go_sem, Int.reduceToNat, Nat.reduceLT, reduceIte, Nat.reduceEqDiff, Nat.reduceAdd, Nat.reduceMul, Nat.reduceBEq, reduceCtorEq]; rfl) ?_
          refine AWL.q rfl rfl rfl (by decide) Qt.assign ?_
          refine AWL.nilE (by simp only [go_sem, Int.reduceToNat, Nat.reduceLT, reduceIte, Nat.reduceEqDiff, Nat.reduceAdd, Nat.reduceMul, Nat.reduceBEq, reduceCtorEq]; rfl) ?_
          try dsimp only [thenQ, blockQ]
          refine AW.block ?_
          refine AW.weak (L' := [.sl 8 (.v (iv (posL (a.Free.getD o.k En.dflt) m.k : Nat))), .sl 6 (.v (iv m.k)), .sl 4 (.v (iv o.k)), .sl 7 (.v (iv ((a.Free.getD o.k En.dflt).getD m.k En.dflt))), .sl 5 (.v (iv ((2 ^ o.k : Nat) : Int))), .sl 3 (.h 13 []), .rt 1 .box (T.s 1 1 fun k c => ([(T.j, none)].getD (k * 1 + c) (T.j, none)).fst), .al 1 0 (.h base []), .rt base .ro (tr a.Free), .sl 1 (.p 1 [] 1 0 0), .rt 13 .row (tr m.u)]) (Weak.sim ⟨(congrArg (fun z => X.v (iv z)) hf), rfl, rfl, rfl, rfl, rfl, ⟨_, rfl, T.sim_refl _⟩, ⟨rfl, rfl⟩, ⟨_, rfl, T.sim_refl _⟩, rfl, ⟨_, rfl, T.sim_refl _⟩, trivial⟩ rfl rfl) ?_
          refine AW.loop (fun x : InB (paint m.u (posL (a.Free.getD o.k En.dflt) m.k) (2 ^ o.k)) (posL (a.Free.getD o.k En.dflt) m.k) (posL (a.Free.getD o.k En.dflt) m.k + 2 ^ o.k) => [.sl 8 (.v (iv x.k)), .sl 6 (.v (iv m.k)), .sl 4 (.v (iv o.k)), .sl 7 (.v (iv ((a.Free.getD o.k En.dflt).getD m.k En.dflt))), .sl 5 (.v (iv ((2 ^ o.k : Nat) : Int))), .sl 3 (.h 13 []), .rt 1 .box (T.s 1 1 fun k c => ([(T.j, none)].getD (k * 1 + c) (T.j, none)).fst), .al 1 0 (.h base []), .rt base .ro (tr a.Free), .sl 1 (.p 1 [] 1 0 0), .rt 13 .row (tr x.u)]) (fun x => posL (a.Free.getD o.k En.dflt) m.k + 2 ^ o.k - x.k) ⟨posL (a.Free.getD o.k En.dflt) m.k, by omega, Nat.le_refl _, m.u, m.ul, by rw [Nat.add_sub_cancel_left]⟩ ?_
          intro x
          have hlex := x.le
          have hxl := x.ul
          have hxg := x.ge
          refine AW.seq ?_
          refine AW.seq ?_
          refine AW.region ?_
          refine AWL.q rfl rfl rfl (by decide) Qt.move ?_
          refine AWL.q rfl rfl rfl (by decide) Qt.move ?_
          refine AWL.nrm (by simp only [go_sem, Int.reduceToNat, Nat.reduceLT, reduceIte, Nat.reduceEqDiff, Nat.reduceAdd, Nat.reduceMul, Nat.reduceBEq, reduceCtorEq]; rfl) ?_
          refine AWL.q rfl rfl rfl (by decide) Qt.move ?_
          refine AWL.q rfl rfl rfl (by decide) (Qt.binOp rfl rfl (by first | exact pbAdd (by omega) | rfl)) ?_
          refine AWL.q rfl rfl rfl (by decide) (Qt.binOp rfl rfl rfl) ?_
          refine AWL.nilE (by simp only [go_sem, Int.reduceToNat, Nat.reduceLT, reduceIte, Nat.reduceEqDiff, Nat.reduceAdd, Nat.reduceMul, Nat.reduceBEq, reduceCtorEq]; rfl) ?_
          try dsimp only [thenQ, blockQ]
          refine AW.cond rfl (fun c9 => ?_) (fun c9 => ?_)
          · have k9 := c9
            try simp only [decide_eq_true_eq, decide_eq_false_iff_not, bne_iff_ne, ne_eq, beq_iff_eq, beq_eq_false_iff_ne, bne_eq_false_iff_eq, Bool.not_eq_true', Bool.not_eq_false', Bool.and_eq_true, Bool.or_eq_true, Bool.and_eq_false_iff, Bool.or_eq_false_iff, Int.not_lt, Int.not_le, Int.toNat_natCast] at c9
            refine AW.skip ?_
            dsimp only [thenQ, blockQ]
            refine AW.seq ?_
            refine AW.block ?_
            refine AW.seq ?_
            refine AW.seq ?_
            refine AW.region ?_
            refine AWL.q rfl rfl rfl (by decide) Qt.move ?_
            refine AWL.nrm (by simp only [go_sem, Int.reduceToNat, Nat.reduceLT, reduceIte, Nat.reduceEqDiff, Nat.reduceAdd, Nat.reduceMul, Nat.reduceBEq, reduceCtorEq]; rfl) ?_
            refine AWL.q rfl rfl rfl (by decide) Qt.move ?_
            refine AWL.q rfl rfl rfl (by decide) (Qt.indexAddr rfl rfl rfl rfl sl31 sz4 (by decide) (by omega)) ?_
            refine AWL.q rfl rfl rfl (by decide) (Qt.load1 rfl rfl rfl ag4) ?_
            refine AWL.nilE (by simp only [go_sem, Int.reduceToNat, Nat.reduceLT, reduceIte, Nat.reduceEqDiff, Nat.reduceAdd, Nat.reduceMul, Nat.reduceBEq, reduceCtorEq]; rfl) ?_
            try dsimp only [thenQ, blockQ]
            refine AW.cond rfl (fun c10 => ?_) (fun c10 => ?_)
            · have k10 := c10
              try simp only [decide_eq_true_eq, decide_eq_false_iff_not, bne_iff_ne, ne_eq, beq_iff_eq, beq_eq_false_iff_ne, bne_eq_false_iff_eq, Bool.not_eq_true', Bool.not_eq_false', Bool.and_eq_true, Bool.or_eq_true, Bool.and_eq_false_iff, Bool.or_eq_false_iff, Int.not_lt, Int.not_le, Int.toNat_natCast] at c10
              refine AW.seq ?_
              refine AW.region ?_
              refine AWL.q rfl rfl rfl (by decide) Qt.assign ?_
              refine AWL.nilE (by simp only [go_sem, Int.reduceToNat, Nat.reduceLT, reduceIte, Nat.reduceEqDiff, Nat.reduceAdd, Nat.reduceMul, Nat.reduceBEq, reduceCtorEq]; rfl) ?_
              try dsimp only [thenQ, blockQ]
              refine AW.ret ?_
              try dsimp only [thenQ, blockQ]
              refine endQ_ret (.cons (.tmp 2) .nil) ?_
              have hz : okS a.Free = false := o.eq.trans (rows_none (m.eq.trans (row_paint (x.eq.trans (by rw [paint_hit k10 (by omega)])) (by omega))) (by omega))
              exact (congrArg (fun z => X.v (Value.bool z)) hz).symm
            · have k10 := c10
              try simp only [decide_eq_true_eq, decide_eq_false_iff_not, bne_iff_ne, ne_eq, beq_iff_eq, beq_eq_false_iff_ne, bne_eq_false_iff_eq, Bool.not_eq_true', Bool.not_eq_false', Bool.and_eq_true, Bool.or_eq_true, Bool.and_eq_false_iff, Bool.or_eq_false_iff, Int.not_lt, Int.not_le, Int.toNat_natCast] at c10
              refine AW.skip ?_
              dsimp only [thenQ, blockQ]
              refine AW.region ?_
              refine AWL.q rfl rfl rfl (by decide) Qt.move ?_
              refine AWL.nrm (by simp only [go_sem, Int.reduceToNat, Nat.reduceLT, reduceIte, Nat.reduceEqDiff, Nat.reduceAdd, Nat.reduceMul, Nat.reduceBEq, reduceCtorEq]; rfl) ?_
              refine AWL.q rfl rfl rfl (by decide) Qt.move ?_
              refine AWL.q rfl rfl rfl (by decide) (Qt.indexAddr rfl rfl rfl rfl sl31 sz4 (by decide) (by omega)) ?_
              refine AWL.step rfl rfl (by first | exact Stp.storeA rfl rfl rfl rfl (by decide) rfl | exact Stp.store rfl rfl (by simp) rfl rfl rfl (by decide) rfl) ?_
              refine AWL.nilE (by simp only [go_sem, Int.reduceToNat, Nat.reduceLT, reduceIte, Nat.reduceEqDiff, Nat.reduceAdd, Nat.reduceMul, Nat.reduceBEq, reduceCtorEq]; rfl) ?_
              try dsimp only [thenQ, blockQ]
              refine AW.region ?_
              refine AWL.q rfl rfl rfl (by decide) Qt.move ?_
              refine AWL.nrm (by simp only [go_sem, Int.reduceToNat, Nat.reduceLT, reduceIte, Nat.reduceEqDiff, Nat.reduceAdd, Nat.reduceMul, Nat.reduceBEq, reduceCtorEq]; rfl) ?_
              refine AWL.q rfl rfl rfl (by decide) (Qt.binOp rfl rfl (by first | exact pbAdd (by omega) | rfl)) ?_
              refine AWL.q rfl rfl rfl (by decide) Qt.assign ?_
              refine AWL.nilE (by simp only [go_sem, Int.reduceToNat, Nat.reduceLT, reduceIte, Nat.reduceEqDiff, Nat.reduceAdd, Nat.reduceMul, Nat.reduceBEq, reduceCtorEq]; rfl) ?_
              try dsimp only [thenQ, blockQ]
              refine ⟨⟨x.k + 1, by omega, by omega, x.u.set x.k true, by simp [x.ul], x.eq.trans (by rw [paint_next k10 (by omega), Nat.sub_sub])⟩, Weak.sim ⟨(by simp only [slotL, reduceIte, Nat.reduceEqDiff]; first | rfl | (rw [IntWalk.i64_in _ (by omega)]; rfl)), rfl, rfl, rfl, rfl, rfl, ⟨_, rfl, T.sim_refl _⟩, ⟨rfl, rfl⟩, ⟨_, rfl, T.sim_refl _⟩, rfl, ⟨_, rfl, (set_sim (fun k c hk => by simp only [upd_app, hk, false_and, if_false]; try rfl) (fun c hc => match c, hc with | 0, _ => (by simp only [upd_app, eq_self, and_self, if_true]; exact T.sim_refl _) | c + 1, hc => absurd hc (by simp only [En.n]; omega)))⟩, trivial⟩ rfl rfl, ?_⟩
              show posL (a.Free.getD o.k En.dflt) m.k + 2 ^ o.k - (x.k + 1) < posL (a.Free.getD o.k En.dflt) m.k + 2 ^ o.k - x.k
              omega
          · have k9 := c9
            try simp only [decide_eq_true_eq, decide_eq_false_iff_not, bne_iff_ne, ne_eq, beq_iff_eq, beq_eq_false_iff_ne, bne_eq_false_iff_eq, Bool.not_eq_true', Bool.not_eq_false', Bool.and_eq_true, Bool.or_eq_true, Bool.and_eq_false_iff, Bool.or_eq_false_iff, Int.not_lt, Int.not_le, Int.toNat_natCast] at c9
            have hpaint : paint m.u (posL (a.Free.getD o.k En.dflt) m.k) (2 ^ o.k) = some x.u := x.eq.trans (by rw [show posL (a.Free.getD o.k En.dflt) m.k + 2 ^ o.k - x.k = 0 by omega]; rfl)
            refine AW.exit ?_
            dsimp only [thenQ, blockQ, reduceIte]
            refine AW.seq ?_
            refine AW.region ?_
            refine AWL.q rfl rfl rfl (by decide) Qt.move ?_
            refine AWL.nrm (by simp only [go_sem, Int.reduceToNat, Nat.reduceLT, reduceIte, Nat.reduceEqDiff, Nat.reduceAdd, Nat.reduceMul, Nat.reduceBEq, reduceCtorEq]; rfl) ?_
            refine AWL.q rfl rfl rfl (by decide) (Qt.binOp rfl rfl rfl) ?_
            refine AWL.q rfl rfl rfl (by decide) Qt.move ?_
            apply AWL.cut 5
            · intro Kg11
              refine AWL.split 84 rfl (fun g11 => ?_) (fun g11 => ?_)
              · have eg11 := g11
                try simp only [decide_eq_true_eq, decide_eq_false_iff_not, bne_iff_ne, ne_eq, beq_iff_eq, beq_eq_false_iff_ne, bne_eq_false_iff_eq, Bool.not_eq_true', Bool.not_eq_false', Bool.and_eq_true, Bool.or_eq_true, Bool.and_eq_false_iff, Bool.or_eq_false_iff, Int.not_lt, Int.not_le, Int.toNat_natCast] at eg11
                refine AWL.q rfl g11 rfl (by decide) Qt.move ?_
                refine AWL.nrm (by simp only [go_sem, Int.reduceToNat, Nat.reduceLT, reduceIte, Nat.reduceEqDiff, Nat.reduceAdd, Nat.reduceMul, Nat.reduceBEq, reduceCtorEq]; rfl) ?_
                refine AWL.q rfl g11 rfl (by decide) Qt.move ?_
                refine AWL.q rfl g11 rfl (by decide) (Qt.binOp rfl rfl (by first | exact pbMul (by omega) | rfl)) ?_
                refine AWL.q rfl g11 rfl (by decide) (Qt.binOp rfl rfl (by first | rfl | exact pbRemI (by omega))) ?_
                refine AWL.nrm (by simp only [go_sem, Int.reduceToNat, Nat.reduceLT, reduceIte, Nat.reduceEqDiff, Nat.reduceAdd, Nat.reduceMul, Nat.reduceBEq, reduceCtorEq]; rfl) ?_
                refine AWL.q rfl g11 rfl (by decide) (Qt.binOp rfl rfl rfl) ?_
                exact AWL.weak (Weak.join (d := 89) (ds := [85, 86, 87, 88, 89]) rfl (ifT g11 _ undef) (by simp only [go_sem, Int.reduceToNat, Nat.reduceLT, reduceIte, Nat.reduceEqDiff, Nat.reduceAdd, Nat.reduceMul, Nat.reduceBEq, reduceCtorEq]; rfl)) Kg11
              · refine AWL.out rfl g11 rfl (by decide) ?_
                refine AWL.out rfl g11 rfl (by decide) ?_
                refine AWL.out rfl g11 rfl (by decide) ?_
                refine AWL.out rfl g11 rfl (by decide) ?_
                refine AWL.nrm (by simp only [go_sem, Int.reduceToNat, Nat.reduceLT, reduceIte, Nat.reduceEqDiff, Nat.reduceAdd, Nat.reduceMul, Nat.reduceBEq, reduceCtorEq]; rfl) ?_
                refine AWL.out rfl g11 rfl (by decide) ?_
                exact AWL.weak (Weak.join (d := 89) (ds := [85, 86, 87, 88, 89]) rfl (ifF g11 undef _) (by simp only [go_sem, Int.reduceToNat, Nat.reduceLT, reduceIte, Nat.reduceEqDiff, Nat.reduceAdd, Nat.reduceMul, Nat.reduceBEq, reduceCtorEq])) Kg11
            refine AWL.q rfl rfl rfl (by decide) (Qt.pickAnd rfl rfl rfl) ?_
            refine AWL.q rfl rfl rfl (by decide) Qt.move ?_
            refine AWL.nrm (by simp only [go_sem, Int.reduceToNat, Nat.reduceLT, reduceIte, Nat.reduceEqDiff, Nat.reduceAdd, Nat.reduceMul, Nat.reduceBEq, reduceCtorEq]; rfl) ?_
            apply AWL.cut 9
            · intro Kg12
              refine AWL.split 91 rfl (fun g12 => ?_) (fun g12 => ?_)
              · have eg12 := g12
                try simp only [decide_eq_true_eq, decide_eq_false_iff_not, bne_iff_ne, ne_eq, beq_iff_eq, beq_eq_false_iff_ne, bne_eq_false_iff_eq, Bool.not_eq_true', Bool.not_eq_false', Bool.and_eq_true, Bool.or_eq_true, Bool.and_eq_false_iff, Bool.or_eq_false_iff, Int.not_lt, Int.not_le, Int.toNat_natCast] at eg12
                refine AWL.q rfl g12 rfl (by decide) (Qt.fieldAddr rfl fl54_0 rfl rfl (by decide)) ?_
                refine AWL.q rfl g12 rfl (by decide) (Qt.load1 rfl rfl rfl ag52) ?_
                refine AWL.q rfl g12 rfl (by decide) Qt.move ?_
                refine AWL.nrm (by simp only [go_sem, Int.reduceToNat, Nat.reduceLT, reduceIte, Nat.reduceEqDiff, Nat.reduceAdd, Nat.reduceMul, Nat.reduceBEq, reduceCtorEq]; rfl) ?_
                refine AWL.q rfl g12 rfl (by decide) (Qt.indexAddr rfl rfl rfl rfl sl52 sz22 (by decide) (by omega)) ?_
                refine AWL.q rfl g12 rfl (by decide) (Qt.load1 rfl rfl rfl ag22) ?_
                refine AWL.q rfl g12 rfl (by decide) Qt.move ?_
                refine AWL.nrm (by simp only [go_sem, Int.reduceToNat, Nat.reduceLT, reduceIte, Nat.reduceEqDiff, Nat.reduceAdd, Nat.reduceMul, Nat.reduceBEq, reduceCtorEq]; rfl) ?_
                refine AWL.q rfl g12 rfl (by decide) Qt.move ?_
                refine AWL.q rfl g12 rfl (by decide) (Qt.binOp rfl rfl (by first | exact pbAdd (by omega) | rfl)) ?_
                refine AWL.step rfl g12 (Stp.callV rfl (by decide) Try.call83 rfl rfl (l6Has_con _ _)) ?_
                refine AWL.nrm (by simp only [go_sem, Int.reduceToNat, Nat.reduceLT, reduceIte, Nat.reduceEqDiff, Nat.reduceAdd, Nat.reduceMul, Nat.reduceBEq, reduceCtorEq]; rfl) ?_
                exact AWL.weak (Weak.join (d := 100) (ds := [92, 93, 94, 95, 96, 97, 98, 99, 100]) rfl (ifT g12 _ undef) (by simp only [go_sem, Int.reduceToNat, Nat.reduceLT, reduceIte, Nat.reduceEqDiff, Nat.reduceAdd, Nat.reduceMul, Nat.reduceBEq, reduceCtorEq]; rfl)) Kg12
              · refine AWL.out rfl g12 rfl (by decide) ?_
                refine AWL.out rfl g12 rfl (by decide) ?_
                refine AWL.out rfl g12 rfl (by decide) ?_
                refine AWL.out rfl g12 rfl (by decide) ?_
                refine AWL.nrm (by simp only [go_sem, Int.reduceToNat, Nat.reduceLT, reduceIte, Nat.reduceEqDiff, Nat.reduceAdd, Nat.reduceMul, Nat.reduceBEq, reduceCtorEq]; rfl) ?_
                refine AWL.out rfl g12 rfl (by decide) ?_
                refine AWL.out rfl g12 rfl (by decide) ?_
                refine AWL.out rfl g12 rfl (by decide) ?_
                refine AWL.out rfl g12 rfl (by decide) ?_
                refine AWL.nrm (by simp only [go_sem, Int.reduceToNat, Nat.reduceLT, reduceIte, Nat.reduceEqDiff, Nat.reduceAdd, Nat.reduceMul, Nat.reduceBEq, reduceCtorEq]; rfl) ?_
                refine AWL.out rfl g12 rfl (by decide) ?_
                exact AWL.weak (Weak.join (d := 100) (ds := [92, 93, 94, 95, 96, 97, 98, 99, 100]) rfl (ifF g12 undef _) (by simp only [go_sem, Int.reduceToNat, Nat.reduceLT, reduceIte, Nat.reduceEqDiff, Nat.reduceAdd, Nat.reduceMul, Nat.reduceBEq, reduceCtorEq])) Kg12
            refine AWL.q rfl rfl rfl (by decide) (Qt.pickAnd rfl rfl rfl) ?_
            refine AWL.nilE (by simp only [go_sem, Int.reduceToNat, Nat.reduceLT, reduceIte, Nat.reduceEqDiff, Nat.reduceAdd, Nat.reduceMul, Nat.reduceBEq, reduceCtorEq]; rfl) ?_
            try dsimp only [thenQ, blockQ]
            refine AW.cond rfl (fun c13 => ?_) (fun c13 => ?_)
            · have k13 := c13
              try simp only [decide_eq_true_eq, decide_eq_false_iff_not, bne_iff_ne, ne_eq, beq_iff_eq, beq_eq_false_iff_ne, bne_eq_false_iff_eq, Bool.not_eq_true', Bool.not_eq_false', Bool.and_eq_true, Bool.or_eq_true, Bool.and_eq_false_iff, Bool.or_eq_false_iff, Int.not_lt, Int.not_le, Int.toNat_natCast] at c13
              refine AW.seq ?_
              refine AW.region ?_
              refine AWL.q rfl rfl rfl (by decide) Qt.assign ?_
              refine AWL.nilE (by simp only [go_sem, Int.reduceToNat, Nat.reduceLT, reduceIte, Nat.reduceEqDiff, Nat.reduceAdd, Nat.reduceMul, Nat.reduceBEq, reduceCtorEq]; rfl) ?_
              try dsimp only [thenQ, blockQ]
              refine AW.ret ?_
              try dsimp only [thenQ, blockQ]
              refine endQ_ret (.cons (.tmp 2) .nil) ?_
              have hz : okS a.Free = false := o.eq.trans (rows_none (m.eq.trans (row_bud hpaint ((bud_S (k := o.k) (l := (a.Free.getD o.k En.dflt)) (j := m.k) hnb.1).symm.trans k13) (by omega))) (by omega))
              exact (congrArg (fun z => X.v (Value.bool z)) hz).symm
            · have k13 := c13
              try simp only [decide_eq_true_eq, decide_eq_false_iff_not, bne_iff_ne, ne_eq, beq_iff_eq, beq_eq_false_iff_ne, bne_eq_false_iff_eq, Bool.not_eq_true', Bool.not_eq_false', Bool.and_eq_true, Bool.or_eq_true, Bool.and_eq_false_iff, Bool.or_eq_false_iff, Int.not_lt, Int.not_le, Int.toNat_natCast] at c13
              have hbud := (bud_S (k := o.k) (l := (a.Free.getD o.k En.dflt)) (j := m.k) hnb.1).symm.trans k13
              refine AW.skip ?_
              dsimp only [thenQ, blockQ]
              refine AW.region ?_
              refine AWL.q rfl rfl rfl (by decide) Qt.move ?_
              refine AWL.nrm (by simp only [go_sem, Int.reduceToNat, Nat.reduceLT, reduceIte, Nat.reduceEqDiff, Nat.reduceAdd, Nat.reduceMul, Nat.reduceBEq, reduceCtorEq]; rfl) ?_
              refine AWL.q rfl rfl rfl (by decide) (Qt.binOp rfl rfl (by first | exact pbAdd (by omega) | rfl)) ?_
              refine AWL.q rfl rfl rfl (by decide) Qt.assign ?_
              refine AWL.nilE (by simp only [go_sem, Int.reduceToNat, Nat.reduceLT, reduceIte, Nat.reduceEqDiff, Nat.reduceAdd, Nat.reduceMul, Nat.reduceBEq, reduceCtorEq]; rfl) ?_
              try dsimp only [thenQ, blockQ]
              refine ⟨⟨m.k + 1, by omega, x.u, x.ul, m.eq.trans (by rw [row_next hbad hpaint hbud (by omega), Nat.sub_sub])⟩, Weak.sim ⟨(by simp only [slotL, reduceIte, Nat.reduceEqDiff]; first | rfl | (rw [IntWalk.i64_in _ (by omega)]; rfl)), rfl, rfl, rfl, ⟨_, rfl, T.sim_refl _⟩, ⟨rfl, rfl⟩, ⟨_, rfl, T.sim_refl _⟩, rfl, ⟨_, rfl, T.sim_refl _⟩, trivial⟩ rfl rfl, ?_⟩
              show (a.Free.getD o.k En.dflt).length - (m.k + 1) < (a.Free.getD o.k En.dflt).length - m.k
              omega
      · have k3 := c3
        try simp only [decide_eq_true_eq, decide_eq_false_iff_not, bne_iff_ne, ne_eq, beq_iff_eq, beq_eq_false_iff_ne, bne_eq_false_iff_eq, Bool.not_eq_true', Bool.not_eq_false', Bool.and_eq_true, Bool.or_eq_true, Bool.and_eq_false_iff, Bool.or_eq_false_iff, Int.not_lt, Int.not_le, Int.toNat_natCast] at c3
        refine AW.exit ?_
        dsimp only [thenQ, blockQ, reduceIte]
        refine AW.region ?_
        refine AWL.q rfl rfl rfl (by decide) Qt.move ?_
        refine AWL.nrm (by simp only [go_sem, Int.reduceToNat, Nat.reduceLT, reduceIte, Nat.reduceEqDiff, Nat.reduceAdd, Nat.reduceMul, Nat.reduceBEq, reduceCtorEq]; rfl) ?_
        refine AWL.q rfl rfl rfl (by decide) (Qt.binOp rfl rfl (by first | exact pbAdd (by omega) | rfl)) ?_
        refine AWL.q rfl rfl rfl (by decide) Qt.assign ?_
        refine AWL.nilE (by simp only [go_sem, Int.reduceToNat, Nat.reduceLT, reduceIte, Nat.reduceEqDiff, Nat.reduceAdd, Nat.reduceMul, Nat.reduceBEq, reduceCtorEq]; rfl) ?_
        try dsimp only [thenQ, blockQ]
        refine ⟨⟨o.k + 1, by omega, m.u, m.ul, o.eq.trans (by rw [rows_next (u' := m.u) (m.eq.trans (by rw [show (a.Free.getD o.k En.dflt).length - m.k = 0 by omega]; rfl)) (by omega), Nat.sub_sub])⟩, Weak.sim ⟨(by simp only [slotL, reduceIte, Nat.reduceEqDiff]; first | rfl | (rw [IntWalk.i64_in _ (by omega)]; rfl)), rfl, ⟨_, rfl, T.sim_refl _⟩, ⟨rfl, rfl⟩, ⟨_, rfl, T.sim_refl _⟩, rfl, ⟨_, rfl, T.sim_refl _⟩, trivial⟩ rfl rfl, ?_⟩
        show 5 - (o.k + 1) < 5 - o.k
        omega
    · have k2 := c2
      try simp only [decide_eq_true_eq, decide_eq_false_iff_not, bne_iff_ne, ne_eq, beq_iff_eq, beq_eq_false_iff_ne, bne_eq_false_iff_eq, Bool.not_eq_true', Bool.not_eq_false', Bool.and_eq_true, Bool.or_eq_true, Bool.and_eq_false_iff, Bool.or_eq_false_iff, Int.not_lt, Int.not_le, Int.toNat_natCast] at c2
      refine AW.exit ?_
      dsimp only [thenQ, blockQ, reduceIte]
      refine AW.seq ?_
      refine AW.region ?_
      refine AWL.q rfl rfl rfl (by decide) Qt.assign ?_
      refine AWL.nilE (by simp only [go_sem, Int.reduceToNat, Nat.reduceLT, reduceIte, Nat.reduceEqDiff, Nat.reduceAdd, Nat.reduceMul, Nat.reduceBEq, reduceCtorEq]; rfl) ?_
      try dsimp only [thenQ, blockQ]
      refine AW.ret ?_
      try dsimp only [thenQ, blockQ]
      refine endQ_ret (.cons (.tmp 2) .nil) ?_
      have hz : okS a.Free = true := o.eq.trans (by rw [show 5 - o.k = 0 by omega]; rfl)
      exact (congrArg (fun z => X.v (Value.bool z)) hz).symm
end Go.Proofs.Ytjfojlaoiifppaa.VM
