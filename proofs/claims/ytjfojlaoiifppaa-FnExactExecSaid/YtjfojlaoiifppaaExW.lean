/- Contracts of functions of the program. No conditions beyond those that each states. -/
import Derived.Test.YtjfojlaoiifppaaExC
set_option linter.all false
namespace Go.Proofs.Ytjfojlaoiifppaa.VM
open Go Go.RowKit Go.Proofs

theorem execM_len (p : List DIns) (c : DCpu) (mem : List Int) : (execM p c mem).1.Regs.length ≤ 4 := by
  unfold execM
  split
  · rename_i hx
    obtain ⟨_, hl, _, _⟩ := execFacts hx
    unfold execC core
    repeat' (first | split | (simp only [List.length_set, hl]; done) | (simp [hl]; done))
    all_goals simp [hl]
  · simp

set_option maxHeartbeats 8000000 in
set_option maxRecDepth 10000 in
theorem FnExactExec_con (a : List DIns) (b : DCpu) (d : List Int) : Con Try.prog 12 [.h base [], .g [.v (iv b.Pc), .h (base + 1) []], .h (base + 2) []] [.rt base .ro (tr a), .rt (base + 1) .ro (tr b.Regs), .rt (base + 2) .ro (tr d)] (fun y _ => y = .v (.bool true)) := by
  refine Con.of_body Try.func12 rfl (by simp) ?_
  rw [Try.ntmps12]
  have hz1 := szd_cases (Mk.wt a) 1048576
  have hz2 := szd_cases (Mk.wt b) (szd (Mk.wt a) 1048576)
  have hwa : Mk.wt a = a.length := by rw [wt_list, wtL_zero (w := Mk.wt) (fun _ => rfl)]; rfl
  have hwb : Mk.wt b = b.Regs.length := wt_ints b.Regs
  have hwd := wt_ints d
  have hca := cnt_flat (n := 4) (fun _ => rfl) a
  have hcb := cnt_ints b.Regs
  have hcd := cnt_ints d
  have hcr := cnt_ints (execM a b d).1.Regs
  have hlr := execM_len a b d
  refine AW.seq ?_
  refine AW.region ?_
  refine AWL.step rfl rfl (Stp.boxB rfl (by decide) (by decide) rfl rfl rfl rfl) ?_
  refine AWL.nrm (by simp only [go_sem, Int.reduceToNat, Nat.reduceLT, reduceIte, Nat.reduceEqDiff, Nat.reduceAdd, Nat.reduceMul, Nat.reduceBEq, reduceCtorEq]; rfl) ?_
  refine AWL.q rfl rfl rfl (by decide) Qt.assign ?_
  refine AWL.nilE (by simp only [go_sem, Int.reduceToNat, Nat.reduceLT, reduceIte, Nat.reduceEqDiff, Nat.reduceAdd, Nat.reduceMul, Nat.reduceBEq, reduceCtorEq]; rfl) ?_
  try dsimp only [thenQ, blockQ]
  refine AW.seq ?_
  refine AW.seq ?_
  refine AW.region ?_
  refine AWL.q rfl rfl rfl (by decide) Qt.move ?_
  refine AWL.q rfl rfl rfl (by decide) (Qt.lenH rfl rfl rfl sl22) ?_
  refine AWL.nrm (by simp only [go_sem, Int.reduceToNat, Nat.reduceLT, reduceIte, Nat.reduceEqDiff, Nat.reduceAdd, Nat.reduceMul, Nat.reduceBEq, reduceCtorEq]; rfl) ?_
  refine AWL.q rfl rfl rfl (by decide) (Qt.binOp rfl rfl rfl) ?_
  refine AWL.nilE (by simp only [go_sem, Int.reduceToNat, Nat.reduceLT, reduceIte, Nat.reduceEqDiff, Nat.reduceAdd, Nat.reduceMul, Nat.reduceBEq, reduceCtorEq]; rfl) ?_
  try dsimp only [thenQ, blockQ]
  refine AW.cond rfl (fun c1 => ?_) (fun c1 => ?_)
  · have k1 := c1
    try simp only [decide_eq_true_eq, decide_eq_false_iff_not, bne_iff_ne, ne_eq, beq_iff_eq, beq_eq_false_iff_ne, bne_eq_false_iff_eq, Bool.not_eq_true', Bool.not_eq_false', Bool.and_eq_true, Bool.or_eq_true, Bool.and_eq_false_iff, Bool.or_eq_false_iff, Int.not_lt, Int.not_le, Int.toNat_natCast] at c1
    refine AW.seq ?_
    refine AW.region ?_
    refine AWL.q rfl rfl rfl (by decide) Qt.assign ?_
    refine AWL.nilE (by simp only [go_sem, Int.reduceToNat, Nat.reduceLT, reduceIte, Nat.reduceEqDiff, Nat.reduceAdd, Nat.reduceMul, Nat.reduceBEq, reduceCtorEq]; rfl) ?_
    try dsimp only [thenQ, blockQ]
    refine AW.ret ?_
    try dsimp only [thenQ, blockQ]
    refine endQ_ret (.cons (.tmp 6) .nil) ?_
    first | rfl | (exfalso; simp_all; done)
  · have k1 := c1
    try simp only [decide_eq_true_eq, decide_eq_false_iff_not, bne_iff_ne, ne_eq, beq_iff_eq, beq_eq_false_iff_ne, bne_eq_false_iff_eq, Bool.not_eq_true', Bool.not_eq_false', Bool.and_eq_true, Bool.or_eq_true, Bool.and_eq_false_iff, Bool.or_eq_false_iff, Int.not_lt, Int.not_le, Int.toNat_natCast] at c1
    refine AW.skip ?_
    dsimp only [thenQ, blockQ]
    refine AW.seq ?_
    refine AW.region ?_
    refine AWL.q rfl rfl rfl (by decide) Qt.assign ?_
    refine AWL.nilE (by simp only [go_sem, Int.reduceToNat, Nat.reduceLT, reduceIte, Nat.reduceEqDiff, Nat.reduceAdd, Nat.reduceMul, Nat.reduceBEq, reduceCtorEq]; rfl) ?_
    try dsimp only [thenQ, blockQ]
    refine AW.seq ?_
    refine AW.region ?_
    refine AWL.q rfl rfl rfl (by decide) Qt.move ?_
    refine AWL.nrm (by simp only [go_sem, Int.reduceToNat, Nat.reduceLT, reduceIte, Nat.reduceEqDiff, Nat.reduceAdd, Nat.reduceMul, Nat.reduceBEq, reduceCtorEq]; rfl) ?_
    refine AWL.q rfl rfl rfl (by decide) Qt.move ?_
    refine AWL.step rfl rfl (Stp.callV rfl (by decide) Try.call24 rfl rfl (szInsS_con _ _ (by omega) (by omega))) ?_
    refine AWL.nrm (by simp only [go_sem, Int.reduceToNat, Nat.reduceLT, reduceIte, Nat.reduceEqDiff, Nat.reduceAdd, Nat.reduceMul, Nat.reduceBEq, reduceCtorEq]; rfl) ?_
    refine AWL.q rfl rfl rfl (by decide) Qt.assign ?_
    refine AWL.nilE (by simp only [go_sem, Int.reduceToNat, Nat.reduceLT, reduceIte, Nat.reduceEqDiff, Nat.reduceAdd, Nat.reduceMul, Nat.reduceBEq, reduceCtorEq]; rfl) ?_
    try dsimp only [thenQ, blockQ]
    refine AW.seq ?_
    refine AW.seq ?_
    refine AW.region ?_
    refine AWL.q rfl rfl rfl (by decide) Qt.move ?_
    refine AWL.q rfl rfl rfl (by decide) (Qt.binOp rfl rfl rfl) ?_
    refine AWL.nilE (by simp only [go_sem, Int.reduceToNat, Nat.reduceLT, reduceIte, Nat.reduceEqDiff, Nat.reduceAdd, Nat.reduceMul, Nat.reduceBEq, reduceCtorEq]; rfl) ?_
    try dsimp only [thenQ, blockQ]
    refine AW.cond rfl (fun c2 => ?_) (fun c2 => ?_)
    · have k2 := c2
      try simp only [decide_eq_true_eq, decide_eq_false_iff_not, bne_iff_ne, ne_eq, beq_iff_eq, beq_eq_false_iff_ne, bne_eq_false_iff_eq, Bool.not_eq_true', Bool.not_eq_false', Bool.and_eq_true, Bool.or_eq_true, Bool.and_eq_false_iff, Bool.or_eq_false_iff, Int.not_lt, Int.not_le, Int.toNat_natCast] at c2
      refine AW.seq ?_
      refine AW.region ?_
      refine AWL.q rfl rfl rfl (by decide) Qt.assign ?_
      refine AWL.nilE (by simp only [go_sem, Int.reduceToNat, Nat.reduceLT, reduceIte, Nat.reduceEqDiff, Nat.reduceAdd, Nat.reduceMul, Nat.reduceBEq, reduceCtorEq]; rfl) ?_
      try dsimp only [thenQ, blockQ]
      refine AW.ret ?_
      try dsimp only [thenQ, blockQ]
      refine endQ_ret (.cons (.tmp 6) .nil) ?_
      first | rfl | (exfalso; simp_all; done)
    · have k2 := c2
      try simp only [decide_eq_true_eq, decide_eq_false_iff_not, bne_iff_ne, ne_eq, beq_iff_eq, beq_eq_false_iff_ne, bne_eq_false_iff_eq, Bool.not_eq_true', Bool.not_eq_false', Bool.and_eq_true, Bool.or_eq_true, Bool.and_eq_false_iff, Bool.or_eq_false_iff, Int.not_lt, Int.not_le, Int.toNat_natCast] at c2
      refine AW.skip ?_
      dsimp only [thenQ, blockQ]
      refine AW.seq ?_
      refine AW.region ?_
      refine AWL.q rfl rfl rfl (by decide) (Qt.loadG rfl rfl rfl ag24 sz24 (by decide)) ?_
      refine AWL.nrm (by simp only [go_sem, Int.reduceToNat, Nat.reduceLT, reduceIte, Nat.reduceEqDiff, Nat.reduceAdd, Nat.reduceMul, Nat.reduceBEq, reduceCtorEq]; rfl) ?_
      refine AWL.q rfl rfl rfl (by decide) Qt.move ?_
      refine AWL.step rfl rfl (Stp.callV rfl (by decide) Try.call13 rfl rfl (szCpu_con _ _ (by omega) (by omega))) ?_
      refine AWL.nrm (by simp only [go_sem, Int.reduceToNat, Nat.reduceLT, reduceIte, Nat.reduceEqDiff, Nat.reduceAdd, Nat.reduceMul, Nat.reduceBEq, reduceCtorEq]; rfl) ?_
      refine AWL.q rfl rfl rfl (by decide) Qt.assign ?_
      refine AWL.nilE (by simp only [go_sem, Int.reduceToNat, Nat.reduceLT, reduceIte, Nat.reduceEqDiff, Nat.reduceAdd, Nat.reduceMul, Nat.reduceBEq, reduceCtorEq]; rfl) ?_
      try dsimp only [thenQ, blockQ]
      refine AW.seq ?_
      refine AW.seq ?_
      refine AW.region ?_
      refine AWL.q rfl rfl rfl (by decide) Qt.move ?_
      refine AWL.q rfl rfl rfl (by decide) (Qt.binOp rfl rfl rfl) ?_
      refine AWL.nilE (by simp only [go_sem, Int.reduceToNat, Nat.reduceLT, reduceIte, Nat.reduceEqDiff, Nat.reduceAdd, Nat.reduceMul, Nat.reduceBEq, reduceCtorEq]; rfl) ?_
      try dsimp only [thenQ, blockQ]
      refine AW.cond rfl (fun c3 => ?_) (fun c3 => ?_)
      · have k3 := c3
        try simp only [decide_eq_true_eq, decide_eq_false_iff_not, bne_iff_ne, ne_eq, beq_iff_eq, beq_eq_false_iff_ne, bne_eq_false_iff_eq, Bool.not_eq_true', Bool.not_eq_false', Bool.and_eq_true, Bool.or_eq_true, Bool.and_eq_false_iff, Bool.or_eq_false_iff, Int.not_lt, Int.not_le, Int.toNat_natCast] at c3
        refine AW.seq ?_
        refine AW.region ?_
        refine AWL.q rfl rfl rfl (by decide) Qt.assign ?_
        refine AWL.nilE (by simp only [go_sem, Int.reduceToNat, Nat.reduceLT, reduceIte, Nat.reduceEqDiff, Nat.reduceAdd, Nat.reduceMul, Nat.reduceBEq, reduceCtorEq]; rfl) ?_
        try dsimp only [thenQ, blockQ]
        refine AW.ret ?_
        try dsimp only [thenQ, blockQ]
        refine endQ_ret (.cons (.tmp 6) .nil) ?_
        first | rfl | (exfalso; simp_all; done)
      · have k3 := c3
        try simp only [decide_eq_true_eq, decide_eq_false_iff_not, bne_iff_ne, ne_eq, beq_iff_eq, beq_eq_false_iff_ne, bne_eq_false_iff_eq, Bool.not_eq_true', Bool.not_eq_false', Bool.and_eq_true, Bool.or_eq_true, Bool.and_eq_false_iff, Bool.or_eq_false_iff, Int.not_lt, Int.not_le, Int.toNat_natCast] at c3
        refine AW.skip ?_
        dsimp only [thenQ, blockQ]
        refine AW.seq ?_
        refine AW.draw [0, 2, 4, 7, 8, 9] rfl (by decide +kernel) ?_
        refine AWA.take 0 rfl rfl rfl (by decide +kernel) (.on rfl rfl Qt.move) ?_
        refine AWA.nrm (by first | (simp only [go_sem, Int.reduceToNat, Nat.reduceLT, reduceIte, Nat.reduceEqDiff, Nat.reduceAdd, Nat.reduceMul, Nat.reduceBEq, reduceCtorEq]; rfl) | rfl) ?_
        refine AWA.take 2 rfl rfl rfl (by decide +kernel) (.on rfl rfl (Qt.loadG rfl rfl rfl ag24 sz24 (by decide))) ?_
        refine AWA.take 4 rfl rfl rfl (by decide +kernel) (.on rfl rfl Qt.move) ?_
        apply AWA.cutS #[true, true, true, true, true, true, true, true, true, true, true, true, false, false] [7, 8, 9]
        · intro K10_12
          apply AWA.cutS #[true, true, true, true, true, true, true, true, true, true, false, true, false, false] [7, 8, 9]
          · intro K10_11
            apply AWA.cutS #[true, true, true, true, true, true, true, true, true, true, true, false, false, false] [7, 8, 9]
            · intro K10_10
              apply AWA.cutS #[true, true, true, true, true, true, false, false, false, false, true, true, false, false] []
              · intro K10_9
                apply AWA.cutS #[true, true, true, true, true, false, false, false, false, false, true, true, false, false] [4]
                · intro K10_8
                  apply AWA.cutS #[true, true, true, true, true, true, false, false, false, false, false, true, false, false] []
                  · intro K10_7
                    apply AWA.cutS #[true, true, true, true, true, true, false, false, false, false, true, false, false, false] []
                    · intro K10_6
                      apply AWA.cutS #[true, true, true, false, true, false, false, false, false, false, true, true, false, false] [2, 4]
                      · intro K10_5
                        apply AWA.cutS #[true, true, true, true, true, false, false, false, false, false, false, true, false, false] [4]
                        · intro K10_4
                          apply AWA.cutS #[true, true, true, true, true, false, false, false, false, false, true, false, false, false] [4]
                          · intro K10_3
                            apply AWA.cutS #[true, false, true, false, true, false, false, false, false, false, true, true, false, false] [0, 2, 4]
                            · intro K10_2
                              apply AWA.cutS #[true, true, true, false, true, false, false, false, false, false, false, true, false, false] [2, 4]
                              · intro K10_1
                                apply AWA.cutS #[true, true, true, false, true, false, false, false, false, false, true, false, false, false] [2, 4]
                                · intro K10_0
                                  refine AWA.anyL [1, 10, 11] (by decide +kernel) rfl ⟨?_, ?_, ?_, trivial⟩
                                  · refine AWA.arm 1 [2, 4] [0] rfl rfl rfl (by decide +kernel) (by decide +kernel) (by decide +kernel) (Stp.callR rfl (by decide) Try.call26 rfl rfl (toInsS_con _ (by first | omega | (simp only [Int.toNat_natCast]; omega) | (simp only [Mk.wt] at *; omega))) (nodup_of rfl) rfl rfl) ?_
                                    refine AWA.nrm (by first | (simp only [go_sem, Int.reduceToNat, Nat.reduceLT, reduceIte, Nat.reduceEqDiff, Nat.reduceAdd, Nat.reduceMul, Nat.reduceBEq, reduceCtorEq]; rfl) | rfl) ?_
                                    refine AWA.againE rfl rfl (by decide +kernel) (.on rfl rfl (Qt.loadG rfl rfl rfl ag24 sz24 (by decide))) rfl ?_
                                    refine AWA.againE rfl rfl (by decide +kernel) (.on rfl rfl Qt.move) rfl ?_
                                    refine AWA.nrm (by first | (simp only [go_sem, Int.reduceToNat, Nat.reduceLT, reduceIte, Nat.reduceEqDiff, Nat.reduceAdd, Nat.reduceMul, Nat.reduceBEq, reduceCtorEq]; rfl) | rfl) ?_
                                    refine AWA.anyL [3, 10, 11] (by decide +kernel) rfl ⟨?_, ?_, ?_, trivial⟩
                                    · refine AWA.arm 3 [4] [2, 1, 0] rfl rfl rfl (by decide +kernel) (by decide +kernel) (by decide +kernel) (Stp.callR rfl (by decide) Try.call15 rfl rfl (toCpu_con _ (by first | omega | (simp only [Int.toNat_natCast]; omega) | (simp only [Mk.wt] at *; omega))) (nodup_of rfl) rfl rfl) ?_
                                      refine AWA.nrm (by first | (simp only [go_sem, Int.reduceToNat, Nat.reduceLT, reduceIte, Nat.reduceEqDiff, Nat.reduceAdd, Nat.reduceMul, Nat.reduceBEq, reduceCtorEq]; rfl) | rfl) ?_
                                      refine AWA.againE rfl rfl (by decide +kernel) (.on rfl rfl Qt.move) rfl ?_
                                      refine AWA.nrm (by first | (simp only [go_sem, Int.reduceToNat, Nat.reduceLT, reduceIte, Nat.reduceEqDiff, Nat.reduceAdd, Nat.reduceMul, Nat.reduceBEq, reduceCtorEq]; rfl) | rfl) ?_
                                      refine AWA.anyL [5, 10, 11] (by decide +kernel) rfl ⟨?_, ?_, ?_, trivial⟩
                                      · refine AWA.arm 5 [] [4, 3, 2, 1, 0] rfl rfl rfl (by decide +kernel) (by decide +kernel) (by decide +kernel) (Stp.callR rfl (by decide) Try.call53 rfl rfl (toIntS_con _ (by first | omega | (simp only [Int.toNat_natCast]; omega) | (simp only [Mk.wt] at *; omega))) (nodup_of rfl) rfl rfl) ?_
                                        refine AWA.nrm (by first | (simp only [go_sem, Int.reduceToNat, Nat.reduceLT, reduceIte, Nat.reduceEqDiff, Nat.reduceAdd, Nat.reduceMul, Nat.reduceBEq, reduceCtorEq]; rfl) | rfl) ?_
                                        refine AWA.anyL [6, 10, 11] (by decide +kernel) rfl ⟨?_, ?_, ?_, trivial⟩
                                        · refine AWA.arm 6 [] [5, 3, 1, 4, 2, 0] rfl rfl rfl (by decide +kernel) (by decide +kernel) (by decide +kernel) (Stp.callR rfl (by decide) Try.call51 rfl rfl (ExecS_con _ _ _) (nodup_of rfl) rfl rfl) ?_
                                          refine AWA.nrm (by first | (simp only [go_sem, Int.reduceToNat, Nat.reduceLT, reduceIte, Nat.reduceEqDiff, Nat.reduceAdd, Nat.reduceMul, Nat.reduceBEq, reduceCtorEq]; rfl) | rfl) ?_
                                          refine AWA.take 7 rfl rfl rfl (by decide +kernel) (.on rfl rfl Qt.move) ?_
                                          refine AWA.take 8 rfl rfl rfl (by decide +kernel) (.on rfl rfl (Qt.extract rfl (of_decide_eq_true rfl))) ?_
                                          refine AWA.take 9 rfl rfl rfl (by decide +kernel) (.on rfl rfl (Qt.extract rfl (of_decide_eq_true rfl))) ?_
                                          refine AWA.nrm (by first | (simp only [go_sem, Int.reduceToNat, Nat.reduceLT, reduceIte, Nat.reduceEqDiff, Nat.reduceAdd, Nat.reduceMul, Nat.reduceBEq, reduceCtorEq]; rfl) | rfl) ?_
                                          refine AWA.anyL [10, 11] (by decide +kernel) rfl ⟨?_, ?_, trivial⟩
                                          · refine AWA.arm 10 [7, 8, 9] [] rfl rfl rfl (by decide +kernel) (by decide +kernel) (by decide +kernel) (Stp.alloc rfl (by decide) (by decide)) ?_
                                            refine AWA.nrm (by first | (simp only [go_sem, Int.reduceToNat, Nat.reduceLT, reduceIte, Nat.reduceEqDiff, Nat.reduceAdd, Nat.reduceMul, Nat.reduceBEq, reduceCtorEq]; rfl) | rfl) ?_
                                            refine AWA.againE rfl rfl (by decide +kernel) (.on rfl rfl Qt.move) rfl ?_
                                            refine AWA.againE rfl rfl (by decide +kernel) (.on rfl rfl (Qt.extract rfl (of_decide_eq_true rfl))) rfl ?_
                                            refine AWA.againE rfl rfl (by decide +kernel) (.on rfl rfl (Qt.extract rfl (of_decide_eq_true rfl))) rfl ?_
                                            refine AWA.nrm (by first | (simp only [go_sem, Int.reduceToNat, Nat.reduceLT, reduceIte, Nat.reduceEqDiff, Nat.reduceAdd, Nat.reduceMul, Nat.reduceBEq, reduceCtorEq]; rfl) | rfl) ?_
                                            exact AWA.use (by decide +kernel) (by decide +kernel) Weak.refl K10_10
                                          · refine AWA.arm 11 [7, 8, 9] [] rfl rfl rfl (by decide +kernel) (by decide +kernel) (by decide +kernel) (Stp.alloc rfl (by decide) (by decide)) ?_
                                            refine AWA.nrm (by first | (simp only [go_sem, Int.reduceToNat, Nat.reduceLT, reduceIte, Nat.reduceEqDiff, Nat.reduceAdd, Nat.reduceMul, Nat.reduceBEq, reduceCtorEq]; rfl) | rfl) ?_
                                            refine AWA.againE rfl rfl (by decide +kernel) (.on rfl rfl Qt.move) rfl ?_
                                            refine AWA.againE rfl rfl (by decide +kernel) (.on rfl rfl (Qt.extract rfl (of_decide_eq_true rfl))) rfl ?_
                                            refine AWA.againE rfl rfl (by decide +kernel) (.on rfl rfl (Qt.extract rfl (of_decide_eq_true rfl))) rfl ?_
                                            refine AWA.nrm (by first | (simp only [go_sem, Int.reduceToNat, Nat.reduceLT, reduceIte, Nat.reduceEqDiff, Nat.reduceAdd, Nat.reduceMul, Nat.reduceBEq, reduceCtorEq]; rfl) | rfl) ?_
                                            exact AWA.use (by decide +kernel) (by decide +kernel) Weak.refl K10_11
                                        · refine AWA.arm 10 [] [] rfl rfl rfl (by decide +kernel) (by decide +kernel) (by decide +kernel) (Stp.alloc rfl (by decide) (by decide)) ?_
                                          refine AWA.nrm (by first | (simp only [go_sem, Int.reduceToNat, Nat.reduceLT, reduceIte, Nat.reduceEqDiff, Nat.reduceAdd, Nat.reduceMul, Nat.reduceBEq, reduceCtorEq]; rfl) | rfl) ?_
                                          exact AWA.use (by decide +kernel) (by decide +kernel) Weak.refl K10_6
                                        · refine AWA.arm 11 [] [] rfl rfl rfl (by decide +kernel) (by decide +kernel) (by decide +kernel) (Stp.alloc rfl (by decide) (by decide)) ?_
                                          refine AWA.nrm (by first | (simp only [go_sem, Int.reduceToNat, Nat.reduceLT, reduceIte, Nat.reduceEqDiff, Nat.reduceAdd, Nat.reduceMul, Nat.reduceBEq, reduceCtorEq]; rfl) | rfl) ?_
                                          exact AWA.use (by decide +kernel) (by decide +kernel) Weak.refl K10_7
                                      · refine AWA.arm 10 [4] [] rfl rfl rfl (by decide +kernel) (by decide +kernel) (by decide +kernel) (Stp.alloc rfl (by decide) (by decide)) ?_
                                        refine AWA.nrm (by first | (simp only [go_sem, Int.reduceToNat, Nat.reduceLT, reduceIte, Nat.reduceEqDiff, Nat.reduceAdd, Nat.reduceMul, Nat.reduceBEq, reduceCtorEq]; rfl) | rfl) ?_
                                        refine AWA.againE rfl rfl (by decide +kernel) (.on rfl rfl Qt.move) rfl ?_
                                        refine AWA.nrm (by first | (simp only [go_sem, Int.reduceToNat, Nat.reduceLT, reduceIte, Nat.reduceEqDiff, Nat.reduceAdd, Nat.reduceMul, Nat.reduceBEq, reduceCtorEq]; rfl) | rfl) ?_
                                        exact AWA.use (by decide +kernel) (by decide +kernel) Weak.refl K10_3
                                      · refine AWA.arm 11 [4] [] rfl rfl rfl (by decide +kernel) (by decide +kernel) (by decide +kernel) (Stp.alloc rfl (by decide) (by decide)) ?_
                                        refine AWA.nrm (by first | (simp only [go_sem, Int.reduceToNat, Nat.reduceLT, reduceIte, Nat.reduceEqDiff, Nat.reduceAdd, Nat.reduceMul, Nat.reduceBEq, reduceCtorEq]; rfl) | rfl) ?_
                                        refine AWA.againE rfl rfl (by decide +kernel) (.on rfl rfl Qt.move) rfl ?_
                                        refine AWA.nrm (by first | (simp only [go_sem, Int.reduceToNat, Nat.reduceLT, reduceIte, Nat.reduceEqDiff, Nat.reduceAdd, Nat.reduceMul, Nat.reduceBEq, reduceCtorEq]; rfl) | rfl) ?_
                                        exact AWA.use (by decide +kernel) (by decide +kernel) Weak.refl K10_4
                                    · refine AWA.arm 10 [2, 4] [] rfl rfl rfl (by decide +kernel) (by decide +kernel) (by decide +kernel) (Stp.alloc rfl (by decide) (by decide)) ?_
                                      refine AWA.nrm (by first | (simp only [go_sem, Int.reduceToNat, Nat.reduceLT, reduceIte, Nat.reduceEqDiff, Nat.reduceAdd, Nat.reduceMul, Nat.reduceBEq, reduceCtorEq]; rfl) | rfl) ?_
                                      refine AWA.againE rfl rfl (by decide +kernel) (.on rfl rfl (Qt.loadG rfl rfl rfl ag24 sz24 (by decide))) rfl ?_
                                      refine AWA.againE rfl rfl (by decide +kernel) (.on rfl rfl Qt.move) rfl ?_
                                      refine AWA.nrm (by first | (simp only [go_sem, Int.reduceToNat, Nat.reduceLT, reduceIte, Nat.reduceEqDiff, Nat.reduceAdd, Nat.reduceMul, Nat.reduceBEq, reduceCtorEq]; rfl) | rfl) ?_
                                      exact AWA.use (by decide +kernel) (by decide +kernel) Weak.refl K10_0
                                    · refine AWA.arm 11 [2, 4] [] rfl rfl rfl (by decide +kernel) (by decide +kernel) (by decide +kernel) (Stp.alloc rfl (by decide) (by decide)) ?_
                                      refine AWA.nrm (by first | (simp only [go_sem, Int.reduceToNat, Nat.reduceLT, reduceIte, Nat.reduceEqDiff, Nat.reduceAdd, Nat.reduceMul, Nat.reduceBEq, reduceCtorEq]; rfl) | rfl) ?_
                                      refine AWA.againE rfl rfl (by decide +kernel) (.on rfl rfl (Qt.loadG rfl rfl rfl ag24 sz24 (by decide))) rfl ?_
                                      refine AWA.againE rfl rfl (by decide +kernel) (.on rfl rfl Qt.move) rfl ?_
                                      refine AWA.nrm (by first | (simp only [go_sem, Int.reduceToNat, Nat.reduceLT, reduceIte, Nat.reduceEqDiff, Nat.reduceAdd, Nat.reduceMul, Nat.reduceBEq, reduceCtorEq]; rfl) | rfl) ?_
                                      exact AWA.use (by decide +kernel) (by decide +kernel) Weak.refl K10_1
                                  · refine AWA.arm 10 [0, 2, 4] [] rfl rfl rfl (by decide +kernel) (by decide +kernel) (by decide +kernel) (Stp.alloc rfl (by decide) (by decide)) ?_
                                    refine AWA.nrm (by first | (simp only [go_sem, Int.reduceToNat, Nat.reduceLT, reduceIte, Nat.reduceEqDiff, Nat.reduceAdd, Nat.reduceMul, Nat.reduceBEq, reduceCtorEq]; rfl) | rfl) ?_
                                    refine AWA.againE rfl rfl (by decide +kernel) (.on rfl rfl Qt.move) rfl ?_
                                    refine AWA.againE rfl rfl (by decide +kernel) (.on rfl rfl (Qt.loadG rfl rfl rfl ag24 sz24 (by decide))) rfl ?_
                                    refine AWA.againE rfl rfl (by decide +kernel) (.on rfl rfl Qt.move) rfl ?_
                                    refine AWA.nrm (by first | (simp only [go_sem, Int.reduceToNat, Nat.reduceLT, reduceIte, Nat.reduceEqDiff, Nat.reduceAdd, Nat.reduceMul, Nat.reduceBEq, reduceCtorEq]; rfl) | rfl) ?_
                                    refine AWA.anyL [1, 11] (by decide +kernel) rfl ⟨?_, ?_, trivial⟩
                                    · refine AWA.arm 1 [2, 4] [0] rfl rfl rfl (by decide +kernel) (by decide +kernel) (by decide +kernel) (Stp.callR rfl (by decide) Try.call26 rfl rfl (toInsS_con _ (by first | omega | (simp only [Int.toNat_natCast]; omega) | (simp only [Mk.wt] at *; omega))) (nodup_of rfl) rfl rfl) ?_
                                      refine AWA.nrm (by first | (simp only [go_sem, Int.reduceToNat, Nat.reduceLT, reduceIte, Nat.reduceEqDiff, Nat.reduceAdd, Nat.reduceMul, Nat.reduceBEq, reduceCtorEq]; rfl) | rfl) ?_
                                      refine AWA.againE rfl rfl (by decide +kernel) (.on rfl rfl (Qt.loadG rfl rfl rfl ag24 sz24 (by decide))) rfl ?_
                                      refine AWA.againE rfl rfl (by decide +kernel) (.on rfl rfl Qt.move) rfl ?_
                                      refine AWA.nrm (by first | (simp only [go_sem, Int.reduceToNat, Nat.reduceLT, reduceIte, Nat.reduceEqDiff, Nat.reduceAdd, Nat.reduceMul, Nat.reduceBEq, reduceCtorEq]; rfl) | rfl) ?_
                                      exact AWA.use (by decide +kernel) (by decide +kernel) (Weak.sim (by repeat (first | exact trivial | refine ⟨rfl, ?_⟩ | refine ⟨⟨_, rfl, T.sim_refl _⟩, ?_⟩ | refine ⟨⟨rfl, rfl⟩, ?_⟩)) rfl rfl) K10_0
                                    · refine AWA.arm 11 [0, 2, 4] [] rfl rfl rfl (by decide +kernel) (by decide +kernel) (by decide +kernel) (Stp.alloc rfl (by decide) (by decide)) ?_
                                      refine AWA.nrm (by first | (simp only [go_sem, Int.reduceToNat, Nat.reduceLT, reduceIte, Nat.reduceEqDiff, Nat.reduceAdd, Nat.reduceMul, Nat.reduceBEq, reduceCtorEq]; rfl) | rfl) ?_
                                      refine AWA.againE rfl rfl (by decide +kernel) (.on rfl rfl Qt.move) rfl ?_
                                      refine AWA.againE rfl rfl (by decide +kernel) (.on rfl rfl (Qt.loadG rfl rfl rfl ag24 sz24 (by decide))) rfl ?_
                                      refine AWA.againE rfl rfl (by decide +kernel) (.on rfl rfl Qt.move) rfl ?_
                                      refine AWA.nrm (by first | (simp only [go_sem, Int.reduceToNat, Nat.reduceLT, reduceIte, Nat.reduceEqDiff, Nat.reduceAdd, Nat.reduceMul, Nat.reduceBEq, reduceCtorEq]; rfl) | rfl) ?_
                                      exact AWA.use (by decide +kernel) (by decide +kernel) Weak.refl K10_2
                                  · refine AWA.arm 11 [0, 2, 4] [] rfl rfl rfl (by decide +kernel) (by decide +kernel) (by decide +kernel) (Stp.alloc rfl (by decide) (by decide)) ?_
                                    refine AWA.nrm (by first | (simp only [go_sem, Int.reduceToNat, Nat.reduceLT, reduceIte, Nat.reduceEqDiff, Nat.reduceAdd, Nat.reduceMul, Nat.reduceBEq, reduceCtorEq]; rfl) | rfl) ?_
                                    refine AWA.againE rfl rfl (by decide +kernel) (.on rfl rfl Qt.move) rfl ?_
                                    refine AWA.againE rfl rfl (by decide +kernel) (.on rfl rfl (Qt.loadG rfl rfl rfl ag24 sz24 (by decide))) rfl ?_
                                    refine AWA.againE rfl rfl (by decide +kernel) (.on rfl rfl Qt.move) rfl ?_
                                    refine AWA.nrm (by first | (simp only [go_sem, Int.reduceToNat, Nat.reduceLT, reduceIte, Nat.reduceEqDiff, Nat.reduceAdd, Nat.reduceMul, Nat.reduceBEq, reduceCtorEq]; rfl) | rfl) ?_
                                    refine AWA.anyL [1, 10] (by decide +kernel) rfl ⟨?_, ?_, trivial⟩
                                    · refine AWA.arm 1 [2, 4] [0] rfl rfl rfl (by decide +kernel) (by decide +kernel) (by decide +kernel) (Stp.callR rfl (by decide) Try.call26 rfl rfl (toInsS_con _ (by first | omega | (simp only [Int.toNat_natCast]; omega) | (simp only [Mk.wt] at *; omega))) (nodup_of rfl) rfl rfl) ?_
                                      refine AWA.nrm (by first | (simp only [go_sem, Int.reduceToNat, Nat.reduceLT, reduceIte, Nat.reduceEqDiff, Nat.reduceAdd, Nat.reduceMul, Nat.reduceBEq, reduceCtorEq]; rfl) | rfl) ?_
                                      refine AWA.againE rfl rfl (by decide +kernel) (.on rfl rfl (Qt.loadG rfl rfl rfl ag24 sz24 (by decide))) rfl ?_
                                      refine AWA.againE rfl rfl (by decide +kernel) (.on rfl rfl Qt.move) rfl ?_
                                      refine AWA.nrm (by first | (simp only [go_sem, Int.reduceToNat, Nat.reduceLT, reduceIte, Nat.reduceEqDiff, Nat.reduceAdd, Nat.reduceMul, Nat.reduceBEq, reduceCtorEq]; rfl) | rfl) ?_
                                      exact AWA.use (by decide +kernel) (by decide +kernel) (Weak.sim (by repeat (first | exact trivial | refine ⟨rfl, ?_⟩ | refine ⟨⟨_, rfl, T.sim_refl _⟩, ?_⟩ | refine ⟨⟨rfl, rfl⟩, ?_⟩)) rfl rfl) K10_1
                                    · refine AWA.arm 10 [0, 2, 4] [] rfl rfl rfl (by decide +kernel) (by decide +kernel) (by decide +kernel) (Stp.alloc rfl (by decide) (by decide)) ?_
                                      refine AWA.nrm (by first | (simp only [go_sem, Int.reduceToNat, Nat.reduceLT, reduceIte, Nat.reduceEqDiff, Nat.reduceAdd, Nat.reduceMul, Nat.reduceBEq, reduceCtorEq]; rfl) | rfl) ?_
                                      refine AWA.againE rfl rfl (by decide +kernel) (.on rfl rfl Qt.move) rfl ?_
                                      refine AWA.againE rfl rfl (by decide +kernel) (.on rfl rfl (Qt.loadG rfl rfl rfl ag24 sz24 (by decide))) rfl ?_
                                      refine AWA.againE rfl rfl (by decide +kernel) (.on rfl rfl Qt.move) rfl ?_
                                      refine AWA.nrm (by first | (simp only [go_sem, Int.reduceToNat, Nat.reduceLT, reduceIte, Nat.reduceEqDiff, Nat.reduceAdd, Nat.reduceMul, Nat.reduceBEq, reduceCtorEq]; rfl) | rfl) ?_
                                      exact AWA.use (by decide +kernel) (by decide +kernel) (Weak.sim (by repeat (first | exact trivial | refine ⟨rfl, ?_⟩ | refine ⟨⟨_, rfl, T.sim_refl _⟩, ?_⟩ | refine ⟨⟨rfl, rfl⟩, ?_⟩)) rfl rfl) K10_2
                                · refine AWA.anyL [3, 11] (by decide +kernel) rfl ⟨?_, ?_, trivial⟩
                                  · refine AWA.arm 3 [4] [2, 1, 0] rfl rfl rfl (by decide +kernel) (by decide +kernel) (by decide +kernel) (Stp.callR rfl (by decide) Try.call15 rfl rfl (toCpu_con _ (by first | omega | (simp only [Int.toNat_natCast]; omega) | (simp only [Mk.wt] at *; omega))) (nodup_of rfl) rfl rfl) ?_
                                    refine AWA.nrm (by first | (simp only [go_sem, Int.reduceToNat, Nat.reduceLT, reduceIte, Nat.reduceEqDiff, Nat.reduceAdd, Nat.reduceMul, Nat.reduceBEq, reduceCtorEq]; rfl) | rfl) ?_
                                    refine AWA.againE rfl rfl (by decide +kernel) (.on rfl rfl Qt.move) rfl ?_
                                    refine AWA.nrm (by first | (simp only [go_sem, Int.reduceToNat, Nat.reduceLT, reduceIte, Nat.reduceEqDiff, Nat.reduceAdd, Nat.reduceMul, Nat.reduceBEq, reduceCtorEq]; rfl) | rfl) ?_
                                    exact AWA.use (by decide +kernel) (by decide +kernel) (Weak.sim (by repeat (first | exact trivial | refine ⟨rfl, ?_⟩ | refine ⟨⟨_, rfl, T.sim_refl _⟩, ?_⟩ | refine ⟨⟨rfl, rfl⟩, ?_⟩)) rfl rfl) K10_3
                                  · refine AWA.arm 11 [2, 4] [] rfl rfl rfl (by decide +kernel) (by decide +kernel) (by decide +kernel) (Stp.alloc rfl (by decide) (by decide)) ?_
                                    refine AWA.nrm (by first | (simp only [go_sem, Int.reduceToNat, Nat.reduceLT, reduceIte, Nat.reduceEqDiff, Nat.reduceAdd, Nat.reduceMul, Nat.reduceBEq, reduceCtorEq]; rfl) | rfl) ?_
                                    refine AWA.againE rfl rfl (by decide +kernel) (.on rfl rfl (Qt.loadG rfl rfl rfl ag24 sz24 (by decide))) rfl ?_
                                    refine AWA.againE rfl rfl (by decide +kernel) (.on rfl rfl Qt.move) rfl ?_
                                    refine AWA.nrm (by first | (simp only [go_sem, Int.reduceToNat, Nat.reduceLT, reduceIte, Nat.reduceEqDiff, Nat.reduceAdd, Nat.reduceMul, Nat.reduceBEq, reduceCtorEq]; rfl) | rfl) ?_
                                    exact AWA.use (by decide +kernel) (by decide +kernel) Weak.refl K10_5
                              · refine AWA.anyL [3, 10] (by decide +kernel) rfl ⟨?_, ?_, trivial⟩
                                · refine AWA.arm 3 [4] [2, 1, 0] rfl rfl rfl (by decide +kernel) (by decide +kernel) (by decide +kernel) (Stp.callR rfl (by decide) Try.call15 rfl rfl (toCpu_con _ (by first | omega | (simp only [Int.toNat_natCast]; omega) | (simp only [Mk.wt] at *; omega))) (nodup_of rfl) rfl rfl) ?_
                                  refine AWA.nrm (by first | (simp only [go_sem, Int.reduceToNat, Nat.reduceLT, reduceIte, Nat.reduceEqDiff, Nat.reduceAdd, Nat.reduceMul, Nat.reduceBEq, reduceCtorEq]; rfl) | rfl) ?_
                                  refine AWA.againE rfl rfl (by decide +kernel) (.on rfl rfl Qt.move) rfl ?_
                                  refine AWA.nrm (by first | (simp only [go_sem, Int.reduceToNat, Nat.reduceLT, reduceIte, Nat.reduceEqDiff, Nat.reduceAdd, Nat.reduceMul, Nat.reduceBEq, reduceCtorEq]; rfl) | rfl) ?_
                                  exact AWA.use (by decide +kernel) (by decide +kernel) (Weak.sim (by repeat (first | exact trivial | refine ⟨rfl, ?_⟩ | refine ⟨⟨_, rfl, T.sim_refl _⟩, ?_⟩ | refine ⟨⟨rfl, rfl⟩, ?_⟩)) rfl rfl) K10_4
                                · refine AWA.arm 10 [2, 4] [] rfl rfl rfl (by decide +kernel) (by decide +kernel) (by decide +kernel) (Stp.alloc rfl (by decide) (by decide)) ?_
                                  refine AWA.nrm (by first | (simp only [go_sem, Int.reduceToNat, Nat.reduceLT, reduceIte, Nat.reduceEqDiff, Nat.reduceAdd, Nat.reduceMul, Nat.reduceBEq, reduceCtorEq]; rfl) | rfl) ?_
                                  refine AWA.againE rfl rfl (by decide +kernel) (.on rfl rfl (Qt.loadG rfl rfl rfl ag24 sz24 (by decide))) rfl ?_
                                  refine AWA.againE rfl rfl (by decide +kernel) (.on rfl rfl Qt.move) rfl ?_
                                  refine AWA.nrm (by first | (simp only [go_sem, Int.reduceToNat, Nat.reduceLT, reduceIte, Nat.reduceEqDiff, Nat.reduceAdd, Nat.reduceMul, Nat.reduceBEq, reduceCtorEq]; rfl) | rfl) ?_
                                  exact AWA.use (by decide +kernel) (by decide +kernel) (Weak.sim (by repeat (first | exact trivial | refine ⟨rfl, ?_⟩ | refine ⟨⟨_, rfl, T.sim_refl _⟩, ?_⟩ | refine ⟨⟨rfl, rfl⟩, ?_⟩)) rfl rfl) K10_5
                            · refine AWA.one 1 [2, 4] [0] (by decide +kernel) rfl rfl rfl (by decide +kernel) (by decide +kernel) (by decide +kernel) (Stp.callR rfl (by decide) Try.call26 rfl rfl (toInsS_con _ (by first | omega | (simp only [Int.toNat_natCast]; omega) | (simp only [Mk.wt] at *; omega))) (nodup_of rfl) rfl rfl) ?_
                              refine AWA.nrm (by first | (simp only [go_sem, Int.reduceToNat, Nat.reduceLT, reduceIte, Nat.reduceEqDiff, Nat.reduceAdd, Nat.reduceMul, Nat.reduceBEq, reduceCtorEq]; rfl) | rfl) ?_
                              refine AWA.againE rfl rfl (by decide +kernel) (.on rfl rfl (Qt.loadG rfl rfl rfl ag24 sz24 (by decide))) rfl ?_
                              refine AWA.againE rfl rfl (by decide +kernel) (.on rfl rfl Qt.move) rfl ?_
                              refine AWA.nrm (by first | (simp only [go_sem, Int.reduceToNat, Nat.reduceLT, reduceIte, Nat.reduceEqDiff, Nat.reduceAdd, Nat.reduceMul, Nat.reduceBEq, reduceCtorEq]; rfl) | rfl) ?_
                              exact AWA.use (by decide +kernel) (by decide +kernel) (Weak.sim (by repeat (first | exact trivial | refine ⟨rfl, ?_⟩ | refine ⟨⟨_, rfl, T.sim_refl _⟩, ?_⟩ | refine ⟨⟨rfl, rfl⟩, ?_⟩)) rfl rfl) K10_5
                          · refine AWA.anyL [5, 11] (by decide +kernel) rfl ⟨?_, ?_, trivial⟩
                            · refine AWA.arm 5 [] [4, 3, 2, 1, 0] rfl rfl rfl (by decide +kernel) (by decide +kernel) (by decide +kernel) (Stp.callR rfl (by decide) Try.call53 rfl rfl (toIntS_con _ (by first | omega | (simp only [Int.toNat_natCast]; omega) | (simp only [Mk.wt] at *; omega))) (nodup_of rfl) rfl rfl) ?_
                              refine AWA.nrm (by first | (simp only [go_sem, Int.reduceToNat, Nat.reduceLT, reduceIte, Nat.reduceEqDiff, Nat.reduceAdd, Nat.reduceMul, Nat.reduceBEq, reduceCtorEq]; rfl) | rfl) ?_
                              exact AWA.use (by decide +kernel) (by decide +kernel) (Weak.sim (by repeat (first | exact trivial | refine ⟨rfl, ?_⟩ | refine ⟨⟨_, rfl, T.sim_refl _⟩, ?_⟩ | refine ⟨⟨rfl, rfl⟩, ?_⟩)) rfl rfl) K10_6
                            · refine AWA.arm 11 [4] [] rfl rfl rfl (by decide +kernel) (by decide +kernel) (by decide +kernel) (Stp.alloc rfl (by decide) (by decide)) ?_
                              refine AWA.nrm (by first | (simp only [go_sem, Int.reduceToNat, Nat.reduceLT, reduceIte, Nat.reduceEqDiff, Nat.reduceAdd, Nat.reduceMul, Nat.reduceBEq, reduceCtorEq]; rfl) | rfl) ?_
                              refine AWA.againE rfl rfl (by decide +kernel) (.on rfl rfl Qt.move) rfl ?_
                              refine AWA.nrm (by first | (simp only [go_sem, Int.reduceToNat, Nat.reduceLT, reduceIte, Nat.reduceEqDiff, Nat.reduceAdd, Nat.reduceMul, Nat.reduceBEq, reduceCtorEq]; rfl) | rfl) ?_
                              exact AWA.use (by decide +kernel) (by decide +kernel) Weak.refl K10_8
                        · refine AWA.anyL [5, 10] (by decide +kernel) rfl ⟨?_, ?_, trivial⟩
                          · refine AWA.arm 5 [] [4, 3, 2, 1, 0] rfl rfl rfl (by decide +kernel) (by decide +kernel) (by decide +kernel) (Stp.callR rfl (by decide) Try.call53 rfl rfl (toIntS_con _ (by first | omega | (simp only [Int.toNat_natCast]; omega) | (simp only [Mk.wt] at *; omega))) (nodup_of rfl) rfl rfl) ?_
                            refine AWA.nrm (by first | (simp only [go_sem, Int.reduceToNat, Nat.reduceLT, reduceIte, Nat.reduceEqDiff, Nat.reduceAdd, Nat.reduceMul, Nat.reduceBEq, reduceCtorEq]; rfl) | rfl) ?_
                            exact AWA.use (by decide +kernel) (by decide +kernel) (Weak.sim (by repeat (first | exact trivial | refine ⟨rfl, ?_⟩ | refine ⟨⟨_, rfl, T.sim_refl _⟩, ?_⟩ | refine ⟨⟨rfl, rfl⟩, ?_⟩)) rfl rfl) K10_7
                          · refine AWA.arm 10 [4] [] rfl rfl rfl (by decide +kernel) (by decide +kernel) (by decide +kernel) (Stp.alloc rfl (by decide) (by decide)) ?_
                            refine AWA.nrm (by first | (simp only [go_sem, Int.reduceToNat, Nat.reduceLT, reduceIte, Nat.reduceEqDiff, Nat.reduceAdd, Nat.reduceMul, Nat.reduceBEq, reduceCtorEq]; rfl) | rfl) ?_
                            refine AWA.againE rfl rfl (by decide +kernel) (.on rfl rfl Qt.move) rfl ?_
                            refine AWA.nrm (by first | (simp only [go_sem, Int.reduceToNat, Nat.reduceLT, reduceIte, Nat.reduceEqDiff, Nat.reduceAdd, Nat.reduceMul, Nat.reduceBEq, reduceCtorEq]; rfl) | rfl) ?_
                            exact AWA.use (by decide +kernel) (by decide +kernel) (Weak.sim (by repeat (first | exact trivial | refine ⟨rfl, ?_⟩ | refine ⟨⟨_, rfl, T.sim_refl _⟩, ?_⟩ | refine ⟨⟨rfl, rfl⟩, ?_⟩)) rfl rfl) K10_8
                      · refine AWA.one 3 [4] [2, 1, 0] (by decide +kernel) rfl rfl rfl (by decide +kernel) (by decide +kernel) (by decide +kernel) (Stp.callR rfl (by decide) Try.call15 rfl rfl (toCpu_con _ (by first | omega | (simp only [Int.toNat_natCast]; omega) | (simp only [Mk.wt] at *; omega))) (nodup_of rfl) rfl rfl) ?_
                        refine AWA.nrm (by first | (simp only [go_sem, Int.reduceToNat, Nat.reduceLT, reduceIte, Nat.reduceEqDiff, Nat.reduceAdd, Nat.reduceMul, Nat.reduceBEq, reduceCtorEq]; rfl) | rfl) ?_
                        refine AWA.againE rfl rfl (by decide +kernel) (.on rfl rfl Qt.move) rfl ?_
                        refine AWA.nrm (by first | (simp only [go_sem, Int.reduceToNat, Nat.reduceLT, reduceIte, Nat.reduceEqDiff, Nat.reduceAdd, Nat.reduceMul, Nat.reduceBEq, reduceCtorEq]; rfl) | rfl) ?_
                        exact AWA.use (by decide +kernel) (by decide +kernel) (Weak.sim (by repeat (first | exact trivial | refine ⟨rfl, ?_⟩ | refine ⟨⟨_, rfl, T.sim_refl _⟩, ?_⟩ | refine ⟨⟨rfl, rfl⟩, ?_⟩)) rfl rfl) K10_8
                    · refine AWA.anyL [6, 11] (by decide +kernel) rfl ⟨?_, ?_, trivial⟩
                      · refine AWA.arm 6 [] [5, 3, 1, 4, 2, 0] rfl rfl rfl (by decide +kernel) (by decide +kernel) (by decide +kernel) (Stp.callR rfl (by decide) Try.call51 rfl rfl (ExecS_con _ _ _) (nodup_of rfl) rfl rfl) ?_
                        refine AWA.nrm (by first | (simp only [go_sem, Int.reduceToNat, Nat.reduceLT, reduceIte, Nat.reduceEqDiff, Nat.reduceAdd, Nat.reduceMul, Nat.reduceBEq, reduceCtorEq]; rfl) | rfl) ?_
                        refine AWA.take 7 rfl rfl rfl (by decide +kernel) (.on rfl rfl Qt.move) ?_
                        refine AWA.take 8 rfl rfl rfl (by decide +kernel) (.on rfl rfl (Qt.extract rfl (of_decide_eq_true rfl))) ?_
                        refine AWA.take 9 rfl rfl rfl (by decide +kernel) (.on rfl rfl (Qt.extract rfl (of_decide_eq_true rfl))) ?_
                        refine AWA.nrm (by first | (simp only [go_sem, Int.reduceToNat, Nat.reduceLT, reduceIte, Nat.reduceEqDiff, Nat.reduceAdd, Nat.reduceMul, Nat.reduceBEq, reduceCtorEq]; rfl) | rfl) ?_
                        refine AWA.nrm (by first | (simp only [go_sem, Int.reduceToNat, Nat.reduceLT, reduceIte, Nat.reduceEqDiff, Nat.reduceAdd, Nat.reduceMul, Nat.reduceBEq, reduceCtorEq]; rfl) | rfl) ?_
                        exact AWA.use (by decide +kernel) (by decide +kernel) (Weak.sim (by repeat (first | exact trivial | refine ⟨rfl, ?_⟩ | refine ⟨⟨_, rfl, T.sim_refl _⟩, ?_⟩ | refine ⟨⟨rfl, rfl⟩, ?_⟩)) rfl rfl) K10_10
                      · refine AWA.arm 11 [] [] rfl rfl rfl (by decide +kernel) (by decide +kernel) (by decide +kernel) (Stp.alloc rfl (by decide) (by decide)) ?_
                        refine AWA.nrm (by first | (simp only [go_sem, Int.reduceToNat, Nat.reduceLT, reduceIte, Nat.reduceEqDiff, Nat.reduceAdd, Nat.reduceMul, Nat.reduceBEq, reduceCtorEq]; rfl) | rfl) ?_
                        exact AWA.use (by decide +kernel) (by decide +kernel) Weak.refl K10_9
                  · refine AWA.anyL [6, 10] (by decide +kernel) rfl ⟨?_, ?_, trivial⟩
                    · refine AWA.arm 6 [] [5, 3, 1, 4, 2, 0] rfl rfl rfl (by decide +kernel) (by decide +kernel) (by decide +kernel) (Stp.callR rfl (by decide) Try.call51 rfl rfl (ExecS_con _ _ _) (nodup_of rfl) rfl rfl) ?_
                      refine AWA.nrm (by first | (simp only [go_sem, Int.reduceToNat, Nat.reduceLT, reduceIte, Nat.reduceEqDiff, Nat.reduceAdd, Nat.reduceMul, Nat.reduceBEq, reduceCtorEq]; rfl) | rfl) ?_
                      refine AWA.take 7 rfl rfl rfl (by decide +kernel) (.on rfl rfl Qt.move) ?_
                      refine AWA.take 8 rfl rfl rfl (by decide +kernel) (.on rfl rfl (Qt.extract rfl (of_decide_eq_true rfl))) ?_
                      refine AWA.take 9 rfl rfl rfl (by decide +kernel) (.on rfl rfl (Qt.extract rfl (of_decide_eq_true rfl))) ?_
                      refine AWA.nrm (by first | (simp only [go_sem, Int.reduceToNat, Nat.reduceLT, reduceIte, Nat.reduceEqDiff, Nat.reduceAdd, Nat.reduceMul, Nat.reduceBEq, reduceCtorEq]; rfl) | rfl) ?_
                      refine AWA.nrm (by first | (simp only [go_sem, Int.reduceToNat, Nat.reduceLT, reduceIte, Nat.reduceEqDiff, Nat.reduceAdd, Nat.reduceMul, Nat.reduceBEq, reduceCtorEq]; rfl) | rfl) ?_
                      exact AWA.use (by decide +kernel) (by decide +kernel) (Weak.sim (by repeat (first | exact trivial | refine ⟨rfl, ?_⟩ | refine ⟨⟨_, rfl, T.sim_refl _⟩, ?_⟩ | refine ⟨⟨rfl, rfl⟩, ?_⟩)) rfl rfl) K10_11
                    · refine AWA.arm 10 [] [] rfl rfl rfl (by decide +kernel) (by decide +kernel) (by decide +kernel) (Stp.alloc rfl (by decide) (by decide)) ?_
                      refine AWA.nrm (by first | (simp only [go_sem, Int.reduceToNat, Nat.reduceLT, reduceIte, Nat.reduceEqDiff, Nat.reduceAdd, Nat.reduceMul, Nat.reduceBEq, reduceCtorEq]; rfl) | rfl) ?_
                      exact AWA.use (by decide +kernel) (by decide +kernel) (Weak.sim (by repeat (first | exact trivial | refine ⟨rfl, ?_⟩ | refine ⟨⟨_, rfl, T.sim_refl _⟩, ?_⟩ | refine ⟨⟨rfl, rfl⟩, ?_⟩)) rfl rfl) K10_9
                · refine AWA.one 5 [] [4, 3, 2, 1, 0] (by decide +kernel) rfl rfl rfl (by decide +kernel) (by decide +kernel) (by decide +kernel) (Stp.callR rfl (by decide) Try.call53 rfl rfl (toIntS_con _ (by first | omega | (simp only [Int.toNat_natCast]; omega) | (simp only [Mk.wt] at *; omega))) (nodup_of rfl) rfl rfl) ?_
                  refine AWA.nrm (by first | (simp only [go_sem, Int.reduceToNat, Nat.reduceLT, reduceIte, Nat.reduceEqDiff, Nat.reduceAdd, Nat.reduceMul, Nat.reduceBEq, reduceCtorEq]; rfl) | rfl) ?_
                  exact AWA.use (by decide +kernel) (by decide +kernel) (Weak.sim (by repeat (first | exact trivial | refine ⟨rfl, ?_⟩ | refine ⟨⟨_, rfl, T.sim_refl _⟩, ?_⟩ | refine ⟨⟨rfl, rfl⟩, ?_⟩)) rfl rfl) K10_9
              · refine AWA.one 6 [] [5, 3, 1, 4, 2, 0] (by decide +kernel) rfl rfl rfl (by decide +kernel) (by decide +kernel) (by decide +kernel) (Stp.callR rfl (by decide) Try.call51 rfl rfl (ExecS_con _ _ _) (nodup_of rfl) rfl rfl) ?_
                refine AWA.nrm (by first | (simp only [go_sem, Int.reduceToNat, Nat.reduceLT, reduceIte, Nat.reduceEqDiff, Nat.reduceAdd, Nat.reduceMul, Nat.reduceBEq, reduceCtorEq]; rfl) | rfl) ?_
                refine AWA.take 7 rfl rfl rfl (by decide +kernel) (.on rfl rfl Qt.move) ?_
                refine AWA.take 8 rfl rfl rfl (by decide +kernel) (.on rfl rfl (Qt.extract rfl (of_decide_eq_true rfl))) ?_
                refine AWA.take 9 rfl rfl rfl (by decide +kernel) (.on rfl rfl (Qt.extract rfl (of_decide_eq_true rfl))) ?_
                refine AWA.nrm (by first | (simp only [go_sem, Int.reduceToNat, Nat.reduceLT, reduceIte, Nat.reduceEqDiff, Nat.reduceAdd, Nat.reduceMul, Nat.reduceBEq, reduceCtorEq]; rfl) | rfl) ?_
                refine AWA.nrm (by first | (simp only [go_sem, Int.reduceToNat, Nat.reduceLT, reduceIte, Nat.reduceEqDiff, Nat.reduceAdd, Nat.reduceMul, Nat.reduceBEq, reduceCtorEq]; rfl) | rfl) ?_
                exact AWA.use (by decide +kernel) (by decide +kernel) Weak.refl K10_12
            · refine AWA.one 11 [7, 8, 9] [] (by decide +kernel) rfl rfl rfl (by decide +kernel) (by decide +kernel) (by decide +kernel) (Stp.alloc rfl (by decide) (by decide)) ?_
              refine AWA.nrm (by first | (simp only [go_sem, Int.reduceToNat, Nat.reduceLT, reduceIte, Nat.reduceEqDiff, Nat.reduceAdd, Nat.reduceMul, Nat.reduceBEq, reduceCtorEq]; rfl) | rfl) ?_
              refine AWA.againE rfl rfl (by decide +kernel) (.on rfl rfl Qt.move) rfl ?_
              refine AWA.againE rfl rfl (by decide +kernel) (.on rfl rfl (Qt.extract rfl (of_decide_eq_true rfl))) rfl ?_
              refine AWA.againE rfl rfl (by decide +kernel) (.on rfl rfl (Qt.extract rfl (of_decide_eq_true rfl))) rfl ?_
              refine AWA.nrm (by first | (simp only [go_sem, Int.reduceToNat, Nat.reduceLT, reduceIte, Nat.reduceEqDiff, Nat.reduceAdd, Nat.reduceMul, Nat.reduceBEq, reduceCtorEq]; rfl) | rfl) ?_
              exact AWA.use (by decide +kernel) (by decide +kernel) (Weak.sim (by repeat (first | exact trivial | refine ⟨rfl, ?_⟩ | refine ⟨⟨_, rfl, T.sim_refl _⟩, ?_⟩ | refine ⟨⟨rfl, rfl⟩, ?_⟩)) rfl rfl) K10_12
          · refine AWA.one 10 [7, 8, 9] [] (by decide +kernel) rfl rfl rfl (by decide +kernel) (by decide +kernel) (by decide +kernel) (Stp.alloc rfl (by decide) (by decide)) ?_
            refine AWA.nrm (by first | (simp only [go_sem, Int.reduceToNat, Nat.reduceLT, reduceIte, Nat.reduceEqDiff, Nat.reduceAdd, Nat.reduceMul, Nat.reduceBEq, reduceCtorEq]; rfl) | rfl) ?_
            refine AWA.againE rfl rfl (by decide +kernel) (.on rfl rfl Qt.move) rfl ?_
            refine AWA.againE rfl rfl (by decide +kernel) (.on rfl rfl (Qt.extract rfl (of_decide_eq_true rfl))) rfl ?_
            refine AWA.againE rfl rfl (by decide +kernel) (.on rfl rfl (Qt.extract rfl (of_decide_eq_true rfl))) rfl ?_
            refine AWA.nrm (by first | (simp only [go_sem, Int.reduceToNat, Nat.reduceLT, reduceIte, Nat.reduceEqDiff, Nat.reduceAdd, Nat.reduceMul, Nat.reduceBEq, reduceCtorEq]; rfl) | rfl) ?_
            exact AWA.use (by decide +kernel) (by decide +kernel) (Weak.sim (by repeat (first | exact trivial | refine ⟨rfl, ?_⟩ | refine ⟨⟨_, rfl, T.sim_refl _⟩, ?_⟩ | refine ⟨⟨rfl, rfl⟩, ?_⟩)) rfl rfl) K10_12
        · refine AWA.one 12 [9] [11, 10, 8, 7, 6, 5, 4, 3, 2, 1, 0] (by decide +kernel) rfl rfl rfl (by decide +kernel) (by decide +kernel) (by decide +kernel) (by first | exact Stp.storeA rfl rfl rfl rfl (by decide) rfl | exact Stp.store rfl rfl (by simp) rfl rfl rfl (by decide) rfl) ?_
          refine AWA.nrm (by first | (simp only [go_sem, Int.reduceToNat, Nat.reduceLT, reduceIte, Nat.reduceEqDiff, Nat.reduceAdd, Nat.reduceMul, Nat.reduceBEq, reduceCtorEq]; rfl) | rfl) ?_
          refine AWA.againE rfl rfl (by decide +kernel) (.on rfl rfl (Qt.extract rfl (of_decide_eq_true rfl))) rfl ?_
          refine AWA.nrm (by first | (simp only [go_sem, Int.reduceToNat, Nat.reduceLT, reduceIte, Nat.reduceEqDiff, Nat.reduceAdd, Nat.reduceMul, Nat.reduceBEq, reduceCtorEq]; rfl) | rfl) ?_
          refine AWA.one 13 [] [12, 11, 10, 9, 8, 7, 6, 5, 4, 3, 2, 1, 0] (by decide +kernel) rfl rfl rfl (by decide +kernel) (by decide +kernel) (by decide +kernel) (by first | exact Stp.storeA rfl rfl rfl rfl (by decide) rfl | exact Stp.store rfl rfl (by simp) rfl rfl rfl (by decide) rfl) ?_
          refine AWA.nrm (by first | (simp only [go_sem, Int.reduceToNat, Nat.reduceLT, reduceIte, Nat.reduceEqDiff, Nat.reduceAdd, Nat.reduceMul, Nat.reduceBEq, reduceCtorEq]; rfl) | rfl) ?_
          refine AWA.nilE (by decide +kernel) (by first | (simp only [go_sem, Int.reduceToNat, Nat.reduceLT, reduceIte, Nat.reduceEqDiff, Nat.reduceAdd, Nat.reduceMul, Nat.reduceBEq, reduceCtorEq]; rfl) | rfl) ?_
          try dsimp only [thenQ, blockQ]
          refine AW.seq ?_
          refine AW.region ?_
          refine AWL.q rfl rfl rfl (by decide) Qt.move ?_
          refine AWL.nrm (by simp only [go_sem, Int.reduceToNat, Nat.reduceLT, reduceIte, Nat.reduceEqDiff, Nat.reduceAdd, Nat.reduceMul, Nat.reduceBEq, reduceCtorEq]; rfl) ?_
          refine AWL.step rfl rfl (Stp.callR rfl (by decide) Try.call26 rfl rfl (toInsS_con _ (by first | omega | (simp only [Int.toNat_natCast]; omega) | (simp only [Mk.wt] at *; omega))) (nodup_of rfl) rfl rfl) ?_
          refine AWL.nrm (by simp only [go_sem, Int.reduceToNat, Nat.reduceLT, reduceIte, Nat.reduceEqDiff, Nat.reduceAdd, Nat.reduceMul, Nat.reduceBEq, reduceCtorEq]; rfl) ?_
          refine AWL.q rfl rfl rfl (by decide) Qt.assign ?_
          refine AWL.nilE (by simp only [go_sem, Int.reduceToNat, Nat.reduceLT, reduceIte, Nat.reduceEqDiff, Nat.reduceAdd, Nat.reduceMul, Nat.reduceBEq, reduceCtorEq]; rfl) ?_
          try dsimp only [thenQ, blockQ]
          refine AW.seq ?_
          refine AW.region ?_
          refine AWL.q rfl rfl rfl (by decide) (Qt.loadG rfl rfl rfl ag24 sz24 (by decide)) ?_
          refine AWL.step rfl rfl (Stp.callR rfl (by decide) Try.call15 rfl rfl (toCpu_con _ (by first | omega | (simp only [Int.toNat_natCast]; omega) | (simp only [Mk.wt] at *; omega))) (nodup_of rfl) rfl rfl) ?_
          refine AWL.nrm (by simp only [go_sem, Int.reduceToNat, Nat.reduceLT, reduceIte, Nat.reduceEqDiff, Nat.reduceAdd, Nat.reduceMul, Nat.reduceBEq, reduceCtorEq]; rfl) ?_
          refine AWL.step rfl rfl (Stp.alloc rfl (by decide) (by decide)) ?_
          refine AWL.nrm (by simp only [go_sem, Int.reduceToNat, Nat.reduceLT, reduceIte, Nat.reduceEqDiff, Nat.reduceAdd, Nat.reduceMul, Nat.reduceBEq, reduceCtorEq]; rfl) ?_
          refine AWL.step rfl rfl (by first | exact Stp.storeA rfl rfl rfl rfl (by decide) rfl | exact Stp.store rfl rfl (by simp) rfl rfl rfl (by decide) rfl) ?_
          refine AWL.nilE (by simp only [go_sem, Int.reduceToNat, Nat.reduceLT, reduceIte, Nat.reduceEqDiff, Nat.reduceAdd, Nat.reduceMul, Nat.reduceBEq, reduceCtorEq]; rfl) ?_
          try dsimp only [thenQ, blockQ]
          refine AW.seq ?_
          refine AW.region ?_
          refine AWL.q rfl rfl rfl (by decide) Qt.move ?_
          refine AWL.nrm (by simp only [go_sem, Int.reduceToNat, Nat.reduceLT, reduceIte, Nat.reduceEqDiff, Nat.reduceAdd, Nat.reduceMul, Nat.reduceBEq, reduceCtorEq]; rfl) ?_
          refine AWL.step rfl rfl (Stp.callR rfl (by decide) Try.call53 rfl rfl (toIntS_con _ (by first | omega | (simp only [Int.toNat_natCast]; omega) | (simp only [Mk.wt] at *; omega))) (nodup_of rfl) rfl rfl) ?_
          refine AWL.nrm (by simp only [go_sem, Int.reduceToNat, Nat.reduceLT, reduceIte, Nat.reduceEqDiff, Nat.reduceAdd, Nat.reduceMul, Nat.reduceBEq, reduceCtorEq]; rfl) ?_
          refine AWL.q rfl rfl rfl (by decide) Qt.assign ?_
          refine AWL.nilE (by simp only [go_sem, Int.reduceToNat, Nat.reduceLT, reduceIte, Nat.reduceEqDiff, Nat.reduceAdd, Nat.reduceMul, Nat.reduceBEq, reduceCtorEq]; rfl) ?_
          try dsimp only [thenQ, blockQ]
          refine AW.seq ?_
          refine AW.region ?_
          refine AWL.q rfl rfl rfl (by decide) Qt.move ?_
          refine AWL.q rfl rfl rfl (by decide) (Qt.loadG rfl rfl rfl ag27 sz27 (by decide)) ?_
          refine AWL.nrm (by simp only [go_sem, Int.reduceToNat, Nat.reduceLT, reduceIte, Nat.reduceEqDiff, Nat.reduceAdd, Nat.reduceMul, Nat.reduceBEq, reduceCtorEq]; rfl) ?_
          refine AWL.q rfl rfl rfl (by decide) Qt.move ?_
          refine AWL.step rfl rfl (Stp.callR rfl (by decide) Try.call50 rfl rfl (ExecI_con _ _ _) (nodup_of rfl) rfl rfl) ?_
          refine AWL.nrm (by simp only [go_sem, Int.reduceToNat, Nat.reduceLT, reduceIte, Nat.reduceEqDiff, Nat.reduceAdd, Nat.reduceMul, Nat.reduceBEq, reduceCtorEq]; rfl) ?_
          refine AWL.q rfl rfl rfl (by decide) Qt.move ?_
          refine AWL.q rfl rfl rfl (by decide) (Qt.extract rfl (of_decide_eq_true rfl)) ?_
          refine AWL.q rfl rfl rfl (by decide) (Qt.extract rfl (of_decide_eq_true rfl)) ?_
          refine AWL.nrm (by simp only [go_sem, Int.reduceToNat, Nat.reduceLT, reduceIte, Nat.reduceEqDiff, Nat.reduceAdd, Nat.reduceMul, Nat.reduceBEq, reduceCtorEq]; rfl) ?_
          refine AWL.step rfl rfl (Stp.alloc rfl (by decide) (by decide)) ?_
          refine AWL.nrm (by simp only [go_sem, Int.reduceToNat, Nat.reduceLT, reduceIte, Nat.reduceEqDiff, Nat.reduceAdd, Nat.reduceMul, Nat.reduceBEq, reduceCtorEq]; rfl) ?_
          refine AWL.step rfl rfl (Stp.alloc rfl (by decide) (by decide)) ?_
          refine AWL.nrm (by simp only [go_sem, Int.reduceToNat, Nat.reduceLT, reduceIte, Nat.reduceEqDiff, Nat.reduceAdd, Nat.reduceMul, Nat.reduceBEq, reduceCtorEq]; rfl) ?_
          refine AWL.step rfl rfl (by first | exact Stp.storeA rfl rfl rfl rfl (by decide) rfl | exact Stp.store rfl rfl (by simp) rfl rfl rfl (by decide) rfl) ?_
          refine AWL.nrm (by simp only [go_sem, Int.reduceToNat, Nat.reduceLT, reduceIte, Nat.reduceEqDiff, Nat.reduceAdd, Nat.reduceMul, Nat.reduceBEq, reduceCtorEq]; rfl) ?_
          refine AWL.step rfl rfl (by first | exact Stp.storeA rfl rfl rfl rfl (by decide) rfl | exact Stp.store rfl rfl (by simp) rfl rfl rfl (by decide) rfl) ?_
          refine AWL.nilE (by simp only [go_sem, Int.reduceToNat, Nat.reduceLT, reduceIte, Nat.reduceEqDiff, Nat.reduceAdd, Nat.reduceMul, Nat.reduceBEq, reduceCtorEq]; rfl) ?_
          try dsimp only [thenQ, blockQ]
          refine AW.seq ?_
          refine AW.seq ?_
          refine AW.region ?_
          refine AWL.q rfl rfl rfl (by decide) (Qt.loadG rfl rfl rfl ag27 sz27 (by decide)) ?_
          refine AWL.nrm (by simp only [go_sem, Int.reduceToNat, Nat.reduceLT, reduceIte, Nat.reduceEqDiff, Nat.reduceAdd, Nat.reduceMul, Nat.reduceBEq, reduceCtorEq]; rfl) ?_
          refine AWL.q rfl rfl rfl (by decide) (Qt.loadG rfl rfl rfl ag27 sz27 (by decide)) ?_
          refine AWL.step rfl rfl (Stp.callV rfl (by decide) Try.call17 rfl rfl (eqCpu_con _ _)) ?_
          refine AWL.nrm (by simp only [go_sem, Int.reduceToNat, Nat.reduceLT, reduceIte, Nat.reduceEqDiff, Nat.reduceAdd, Nat.reduceMul, Nat.reduceBEq, reduceCtorEq]; rfl) ?_
          refine AWL.q rfl rfl rfl (by decide) (Qt.notB rfl) ?_
          refine AWL.q rfl rfl rfl (by decide) Qt.move ?_
          refine AWL.split 60 rfl (fun g4 => (by exfalso; first | (simp at g4; done) | (simp only [decide_eq_true_eq] at g4; omega))) (fun g4 => ?_)
          refine AWL.q rfl (nF g4) rfl (by decide) (Qt.loadG rfl rfl rfl ag69 sz69 (by decide)) ?_
          refine AWL.nrm (by simp only [go_sem, Int.reduceToNat, Nat.reduceLT, reduceIte, Nat.reduceEqDiff, Nat.reduceAdd, Nat.reduceMul, Nat.reduceBEq, reduceCtorEq]; rfl) ?_
          refine AWL.q rfl (nF g4) rfl (by decide) (Qt.loadG rfl rfl rfl ag69 sz69 (by decide)) ?_
          refine AWL.step rfl (nF g4) (Stp.callV rfl (by decide) Try.call54 rfl rfl (eqDid_con _ _)) ?_
          refine AWL.nrm (by simp only [go_sem, Int.reduceToNat, Nat.reduceLT, reduceIte, Nat.reduceEqDiff, Nat.reduceAdd, Nat.reduceMul, Nat.reduceBEq, reduceCtorEq]; rfl) ?_
          refine AWL.q rfl (nF g4) rfl (by decide) (Qt.notB rfl) ?_
          refine AWL.q rfl rfl rfl (by decide) (Qt.pickF rfl g4) ?_
          refine AWL.nilE (by simp only [go_sem, Int.reduceToNat, Nat.reduceLT, reduceIte, Nat.reduceEqDiff, Nat.reduceAdd, Nat.reduceMul, Nat.reduceBEq, reduceCtorEq]; rfl) ?_
          try dsimp only [thenQ, blockQ]
          refine AW.cond rfl (fun c5 => (by exfalso; first | (simp at c5; done) | (simp only [decide_eq_true_eq] at c5; omega))) (fun c5 => ?_)
          refine AW.skip ?_
          dsimp only [thenQ, blockQ]
          refine AW.seq ?_
          refine AW.seq ?_
          refine AW.region ?_
          refine AWL.q rfl rfl rfl (by decide) Qt.move ?_
          refine AWL.nrm (by simp only [go_sem, Int.reduceToNat, Nat.reduceLT, reduceIte, Nat.reduceEqDiff, Nat.reduceAdd, Nat.reduceMul, Nat.reduceBEq, reduceCtorEq]; rfl) ?_
          refine AWL.q rfl rfl rfl (by decide) Qt.move ?_
          refine AWL.step rfl rfl (Stp.callR rfl (by decide) Try.call26 rfl rfl (toInsS_con _ (by first | omega | (simp only [Int.toNat_natCast]; omega) | (simp only [Mk.wt] at *; omega))) (nodup_of rfl) rfl rfl) ?_
          refine AWL.nrm (by simp only [go_sem, Int.reduceToNat, Nat.reduceLT, reduceIte, Nat.reduceEqDiff, Nat.reduceAdd, Nat.reduceMul, Nat.reduceBEq, reduceCtorEq]; rfl) ?_
          refine AWL.step rfl rfl (Stp.callV rfl (by decide) Try.call28 rfl rfl (eqInsS_con _ _)) ?_
          refine AWL.nrm (by simp only [go_sem, Int.reduceToNat, Nat.reduceLT, reduceIte, Nat.reduceEqDiff, Nat.reduceAdd, Nat.reduceMul, Nat.reduceBEq, reduceCtorEq]; rfl) ?_
          refine AWL.q rfl rfl rfl (by decide) (Qt.notB rfl) ?_
          refine AWL.nilE (by simp only [go_sem, Int.reduceToNat, Nat.reduceLT, reduceIte, Nat.reduceEqDiff, Nat.reduceAdd, Nat.reduceMul, Nat.reduceBEq, reduceCtorEq]; rfl) ?_
          try dsimp only [thenQ, blockQ]
          refine AW.cond rfl (fun c6 => (by exfalso; first | (simp at c6; done) | (simp only [decide_eq_true_eq] at c6; omega))) (fun c6 => ?_)
          refine AW.skip ?_
          dsimp only [thenQ, blockQ]
          refine AW.seq ?_
          refine AW.seq ?_
          refine AW.draw [0, 1, 4] rfl (by decide +kernel) ?_
          refine AWA.take 0 rfl rfl rfl (by decide +kernel) (.on rfl rfl (Qt.loadG rfl rfl rfl ag27 sz27 (by decide))) ?_
          refine AWA.take 1 rfl rfl rfl (by decide +kernel) (.on rfl rfl (Qt.loadG rfl rfl rfl ag24 sz24 (by decide))) ?_
          refine AWA.nrm (by first | (simp only [go_sem, Int.reduceToNat, Nat.reduceLT, reduceIte, Nat.reduceEqDiff, Nat.reduceAdd, Nat.reduceMul, Nat.reduceBEq, reduceCtorEq]; rfl) | rfl) ?_
          refine AWA.one 2 [0] [1] (by decide +kernel) rfl rfl rfl (by decide +kernel) (by decide +kernel) (by decide +kernel) (Stp.callR rfl (by decide) Try.call15 rfl rfl (toCpu_con _ (by first | omega | (simp only [Int.toNat_natCast]; omega) | (simp only [Mk.wt] at *; omega))) (nodup_of rfl) rfl rfl) ?_
          refine AWA.nrm (by first | (simp only [go_sem, Int.reduceToNat, Nat.reduceLT, reduceIte, Nat.reduceEqDiff, Nat.reduceAdd, Nat.reduceMul, Nat.reduceBEq, reduceCtorEq]; rfl) | rfl) ?_
          refine AWA.againE rfl rfl (by decide +kernel) (.on rfl rfl (Qt.loadG rfl rfl rfl ag27 sz27 (by decide))) rfl ?_
          refine AWA.nrm (by first | (simp only [go_sem, Int.reduceToNat, Nat.reduceLT, reduceIte, Nat.reduceEqDiff, Nat.reduceAdd, Nat.reduceMul, Nat.reduceBEq, reduceCtorEq]; rfl) | rfl) ?_
          refine AWA.one 3 [] [2, 0, 1] (by decide +kernel) rfl rfl rfl (by decide +kernel) (by decide +kernel) (by decide +kernel) (Stp.callV rfl (by decide) Try.call17 rfl rfl (eqCpu_con _ _)) ?_
          refine AWA.nrm (by first | (simp only [go_sem, Int.reduceToNat, Nat.reduceLT, reduceIte, Nat.reduceEqDiff, Nat.reduceAdd, Nat.reduceMul, Nat.reduceBEq, reduceCtorEq]; rfl) | rfl) ?_
          refine AWA.nrm (by first | (simp only [go_sem, Int.reduceToNat, Nat.reduceLT, reduceIte, Nat.reduceEqDiff, Nat.reduceAdd, Nat.reduceMul, Nat.reduceBEq, reduceCtorEq]; rfl) | rfl) ?_
          refine AWA.take 4 rfl rfl rfl (by decide +kernel) (.on rfl rfl (Qt.notB rfl)) ?_
          refine AWA.nilE (by decide +kernel) (by first | (simp only [go_sem, Int.reduceToNat, Nat.reduceLT, reduceIte, Nat.reduceEqDiff, Nat.reduceAdd, Nat.reduceMul, Nat.reduceBEq, reduceCtorEq]; rfl) | rfl) ?_
          try dsimp only [thenQ, blockQ]
          refine AW.cond rfl (fun c7 => (by exfalso; first | (simp at c7; done) | (simp only [decide_eq_true_eq] at c7; omega))) (fun c7 => ?_)
          refine AW.skip ?_
          dsimp only [thenQ, blockQ]
          refine AW.seq ?_
          refine AW.seq ?_
          refine AW.region ?_
          refine AWL.q rfl rfl rfl (by decide) Qt.move ?_
          refine AWL.q rfl rfl rfl (by decide) Qt.move ?_
          refine AWL.nrm (by simp only [go_sem, Int.reduceToNat, Nat.reduceLT, reduceIte, Nat.reduceEqDiff, Nat.reduceAdd, Nat.reduceMul, Nat.reduceBEq, reduceCtorEq]; rfl) ?_
          refine AWL.step rfl rfl (Stp.callR rfl (by decide) Try.call53 rfl rfl (toIntS_con _ (by first | omega | (simp only [Int.toNat_natCast]; omega) | (simp only [Mk.wt] at *; omega))) (nodup_of rfl) rfl rfl) ?_
          refine AWL.nrm (by simp only [go_sem, Int.reduceToNat, Nat.reduceLT, reduceIte, Nat.reduceEqDiff, Nat.reduceAdd, Nat.reduceMul, Nat.reduceBEq, reduceCtorEq]; rfl) ?_
          refine AWL.step rfl rfl (Stp.callV rfl (by decide) Try.call55 rfl rfl (eqIntS_con _ _)) ?_
          refine AWL.nrm (by simp only [go_sem, Int.reduceToNat, Nat.reduceLT, reduceIte, Nat.reduceEqDiff, Nat.reduceAdd, Nat.reduceMul, Nat.reduceBEq, reduceCtorEq]; rfl) ?_
          refine AWL.q rfl rfl rfl (by decide) (Qt.notB rfl) ?_
          refine AWL.nilE (by simp only [go_sem, Int.reduceToNat, Nat.reduceLT, reduceIte, Nat.reduceEqDiff, Nat.reduceAdd, Nat.reduceMul, Nat.reduceBEq, reduceCtorEq]; rfl) ?_
          try dsimp only [thenQ, blockQ]
          refine AW.cond rfl (fun c8 => (by exfalso; first | (simp at c8; done) | (simp only [decide_eq_true_eq] at c8; omega))) (fun c8 => ?_)
          refine AW.skip ?_
          dsimp only [thenQ, blockQ]
          refine AW.seq ?_
          refine AW.region ?_
          refine AWL.q rfl rfl rfl (by decide) Qt.assign ?_
          refine AWL.nilE (by simp only [go_sem, Int.reduceToNat, Nat.reduceLT, reduceIte, Nat.reduceEqDiff, Nat.reduceAdd, Nat.reduceMul, Nat.reduceBEq, reduceCtorEq]; rfl) ?_
          try dsimp only [thenQ, blockQ]
          refine AW.seq ?_
          refine AW.region ?_
          refine AWL.q rfl rfl rfl (by decide) Qt.move ?_
          refine AWL.nrm (by simp only [go_sem, Int.reduceToNat, Nat.reduceLT, reduceIte, Nat.reduceEqDiff, Nat.reduceAdd, Nat.reduceMul, Nat.reduceBEq, reduceCtorEq]; rfl) ?_
          refine AWL.q rfl rfl rfl (by decide) Qt.move ?_
          refine AWL.step rfl rfl (Stp.callH rfl (by decide) Try.call56 rfl (markInsS_con _ _ (by omega) (by omega)) rfl rfl rfl (nodup_of rfl) rfl rfl) ?_
          refine AWL.nrm (by simp only [go_sem, Int.reduceToNat, Nat.reduceLT, reduceIte, Nat.reduceEqDiff, Nat.reduceAdd, Nat.reduceMul, Nat.reduceBEq, reduceCtorEq]; rfl) ?_
          refine AWL.q rfl rfl rfl (by decide) Qt.assign ?_
          refine AWL.nilE (by simp only [go_sem, Int.reduceToNat, Nat.reduceLT, reduceIte, Nat.reduceEqDiff, Nat.reduceAdd, Nat.reduceMul, Nat.reduceBEq, reduceCtorEq]; rfl) ?_
          try dsimp only [thenQ, blockQ]
          refine AW.seq ?_
          refine AW.region ?_
          refine AWL.q rfl rfl rfl (by decide) (Qt.loadG rfl rfl rfl ag27 sz27 (by decide)) ?_
          refine AWL.q rfl rfl rfl (by decide) Qt.move ?_
          refine AWL.nrm (by simp only [go_sem, Int.reduceToNat, Nat.reduceLT, reduceIte, Nat.reduceEqDiff, Nat.reduceAdd, Nat.reduceMul, Nat.reduceBEq, reduceCtorEq]; rfl) ?_
          refine AWL.step rfl rfl (Stp.callH rfl (by decide) Try.call57 rfl (markCpu_con _ _ (by omega) (by omega)) rfl rfl rfl (nodup_of rfl) rfl rfl) ?_
          refine AWL.nrm (by simp only [go_sem, Int.reduceToNat, Nat.reduceLT, reduceIte, Nat.reduceEqDiff, Nat.reduceAdd, Nat.reduceMul, Nat.reduceBEq, reduceCtorEq]; rfl) ?_
          refine AWL.q rfl rfl rfl (by decide) Qt.assign ?_
          refine AWL.nilE (by simp only [go_sem, Int.reduceToNat, Nat.reduceLT, reduceIte, Nat.reduceEqDiff, Nat.reduceAdd, Nat.reduceMul, Nat.reduceBEq, reduceCtorEq]; rfl) ?_
          try dsimp only [thenQ, blockQ]
          refine AW.seq ?_
          refine AW.region ?_
          refine AWL.q rfl rfl rfl (by decide) Qt.move ?_
          refine AWL.q rfl rfl rfl (by decide) Qt.move ?_
          refine AWL.nrm (by simp only [go_sem, Int.reduceToNat, Nat.reduceLT, reduceIte, Nat.reduceEqDiff, Nat.reduceAdd, Nat.reduceMul, Nat.reduceBEq, reduceCtorEq]; rfl) ?_
          refine AWL.step rfl rfl (Stp.callH rfl (by decide) Try.call58 rfl (markIntS_con _ _ (by omega) (by omega)) rfl rfl rfl (nodup_of rfl) rfl rfl) ?_
          refine AWL.nrm (by simp only [go_sem, Int.reduceToNat, Nat.reduceLT, reduceIte, Nat.reduceEqDiff, Nat.reduceAdd, Nat.reduceMul, Nat.reduceBEq, reduceCtorEq]; rfl) ?_
          refine AWL.q rfl rfl rfl (by decide) Qt.assign ?_
          refine AWL.nilE (by simp only [go_sem, Int.reduceToNat, Nat.reduceLT, reduceIte, Nat.reduceEqDiff, Nat.reduceAdd, Nat.reduceMul, Nat.reduceBEq, reduceCtorEq]; rfl) ?_
          try dsimp only [thenQ, blockQ]
          refine AW.seq ?_
          refine AW.seq ?_
          refine AW.region ?_
          refine AWL.q rfl rfl rfl (by decide) Qt.move ?_
          refine AWL.q rfl rfl rfl (by decide) (Qt.binOp rfl rfl rfl) ?_
          refine AWL.nrm (by simp only [go_sem, Int.reduceToNat, Nat.reduceLT, reduceIte, Nat.reduceEqDiff, Nat.reduceAdd, Nat.reduceMul, Nat.reduceBEq, reduceCtorEq]; rfl) ?_
          refine AWL.q rfl rfl rfl (by decide) Qt.move ?_
          refine AWL.split 92 rfl (fun g9 => (by exfalso; first | (simp at g9; done) | (simp only [decide_eq_true_eq] at g9; omega))) (fun g9 => ?_)
          refine AWL.q rfl (nF g9) rfl (by decide) (Qt.loadG rfl rfl rfl ag27 sz27 (by decide)) ?_
          refine AWL.q rfl (nF g9) rfl (by decide) (Qt.loadG rfl rfl rfl ag27 sz27 (by decide)) ?_
          refine AWL.nrm (by simp only [go_sem, Int.reduceToNat, Nat.reduceLT, reduceIte, Nat.reduceEqDiff, Nat.reduceAdd, Nat.reduceMul, Nat.reduceBEq, reduceCtorEq]; rfl) ?_
          refine AWL.step rfl (nF g9) (Stp.callV rfl (by decide) Try.call17 rfl rfl (eqCpu_con _ _)) ?_
          refine AWL.nrm (by simp only [go_sem, Int.reduceToNat, Nat.reduceLT, reduceIte, Nat.reduceEqDiff, Nat.reduceAdd, Nat.reduceMul, Nat.reduceBEq, reduceCtorEq]; rfl) ?_
          refine AWL.q rfl (nF g9) rfl (by decide) (Qt.notB rfl) ?_
          refine AWL.q rfl rfl rfl (by decide) (Qt.pickF rfl g9) ?_
          refine AWL.q rfl rfl rfl (by decide) Qt.move ?_
          refine AWL.nrm (by simp only [go_sem, Int.reduceToNat, Nat.reduceLT, reduceIte, Nat.reduceEqDiff, Nat.reduceAdd, Nat.reduceMul, Nat.reduceBEq, reduceCtorEq]; rfl) ?_
          refine AWL.split 98 rfl (fun g10 => (by exfalso; first | (simp at g10; done) | (simp only [decide_eq_true_eq] at g10; omega))) (fun g10 => ?_)
          refine AWL.q rfl (nF g10) rfl (by decide) (Qt.loadG rfl rfl rfl ag69 sz69 (by decide)) ?_
          refine AWL.q rfl (nF g10) rfl (by decide) (Qt.loadG rfl rfl rfl ag69 sz69 (by decide)) ?_
          refine AWL.step rfl (nF g10) (Stp.callV rfl (by decide) Try.call54 rfl rfl (eqDid_con _ _)) ?_
          refine AWL.nrm (by simp only [go_sem, Int.reduceToNat, Nat.reduceLT, reduceIte, Nat.reduceEqDiff, Nat.reduceAdd, Nat.reduceMul, Nat.reduceBEq, reduceCtorEq]; rfl) ?_
          refine AWL.q rfl (nF g10) rfl (by decide) (Qt.notB rfl) ?_
          refine AWL.q rfl rfl rfl (by decide) (Qt.pickF rfl g10) ?_
          refine AWL.nilE (by simp only [go_sem, Int.reduceToNat, Nat.reduceLT, reduceIte, Nat.reduceEqDiff, Nat.reduceAdd, Nat.reduceMul, Nat.reduceBEq, reduceCtorEq]; rfl) ?_
          try dsimp only [thenQ, blockQ]
          refine AW.cond rfl (fun c11 => (by exfalso; first | (simp at c11; done) | (simp only [decide_eq_true_eq] at c11; omega))) (fun c11 => ?_)
          refine AW.skip ?_
          dsimp only [thenQ, blockQ]
          refine AW.seq ?_
          refine AW.region ?_
          refine AWL.q rfl rfl rfl (by decide) Qt.assign ?_
          refine AWL.nilE (by simp only [go_sem, Int.reduceToNat, Nat.reduceLT, reduceIte, Nat.reduceEqDiff, Nat.reduceAdd, Nat.reduceMul, Nat.reduceBEq, reduceCtorEq]; rfl) ?_
          try dsimp only [thenQ, blockQ]
          refine AW.seq ?_
          refine AW.region ?_
          refine AWL.q rfl rfl rfl (by decide) (Qt.loadG rfl rfl rfl ag27 sz27 (by decide)) ?_
          refine AWL.nrm (by simp only [go_sem, Int.reduceToNat, Nat.reduceLT, reduceIte, Nat.reduceEqDiff, Nat.reduceAdd, Nat.reduceMul, Nat.reduceBEq, reduceCtorEq]; rfl) ?_
          refine AWL.q rfl rfl rfl (by decide) Qt.move ?_
          refine AWL.step rfl rfl (Stp.callH rfl (by decide) Try.call57 rfl (markCpu_con _ _ (by omega) (by omega)) rfl rfl rfl (nodup_of rfl) rfl rfl) ?_
          refine AWL.nrm (by simp only [go_sem, Int.reduceToNat, Nat.reduceLT, reduceIte, Nat.reduceEqDiff, Nat.reduceAdd, Nat.reduceMul, Nat.reduceBEq, reduceCtorEq]; rfl) ?_
          refine AWL.q rfl rfl rfl (by decide) Qt.assign ?_
          refine AWL.nilE (by simp only [go_sem, Int.reduceToNat, Nat.reduceLT, reduceIte, Nat.reduceEqDiff, Nat.reduceAdd, Nat.reduceMul, Nat.reduceBEq, reduceCtorEq]; rfl) ?_
          try dsimp only [thenQ, blockQ]
          refine AW.seq ?_
          refine AW.region ?_
          refine AWL.q rfl rfl rfl (by decide) Qt.assign ?_
          refine AWL.nilE (by simp only [go_sem, Int.reduceToNat, Nat.reduceLT, reduceIte, Nat.reduceEqDiff, Nat.reduceAdd, Nat.reduceMul, Nat.reduceBEq, reduceCtorEq]; rfl) ?_
          try dsimp only [thenQ, blockQ]
          refine AW.seq ?_
          refine AW.region ?_
          refine AWL.q rfl rfl rfl (by decide) (Qt.loadG rfl rfl rfl ag27 sz27 (by decide)) ?_
          refine AWL.nrm (by simp only [go_sem, Int.reduceToNat, Nat.reduceLT, reduceIte, Nat.reduceEqDiff, Nat.reduceAdd, Nat.reduceMul, Nat.reduceBEq, reduceCtorEq]; rfl) ?_
          refine AWL.q rfl rfl rfl (by decide) Qt.move ?_
          refine AWL.step rfl rfl (Stp.callV rfl (by decide) Try.call59 rfl rfl (heldCpu_con _ _ (by omega) (by omega))) ?_
          refine AWL.nrm (by simp only [go_sem, Int.reduceToNat, Nat.reduceLT, reduceIte, Nat.reduceEqDiff, Nat.reduceAdd, Nat.reduceMul, Nat.reduceBEq, reduceCtorEq]; rfl) ?_
          refine AWL.q rfl rfl rfl (by decide) Qt.assign ?_
          refine AWL.nilE (by simp only [go_sem, Int.reduceToNat, Nat.reduceLT, reduceIte, Nat.reduceEqDiff, Nat.reduceAdd, Nat.reduceMul, Nat.reduceBEq, reduceCtorEq]; rfl) ?_
          try dsimp only [thenQ, blockQ]
          refine AW.seq ?_
          refine AW.seq ?_
          refine AW.region ?_
          refine AWL.q rfl rfl rfl (by decide) Qt.move ?_
          refine AWL.q rfl rfl rfl (by decide) (Qt.binOp rfl rfl rfl) ?_
          refine AWL.nilE (by simp only [go_sem, Int.reduceToNat, Nat.reduceLT, reduceIte, Nat.reduceEqDiff, Nat.reduceAdd, Nat.reduceMul, Nat.reduceBEq, reduceCtorEq]; rfl) ?_
          try dsimp only [thenQ, blockQ]
          refine AW.cond rfl (fun c12 => (by exfalso; first | (simp at c12; done) | (simp only [decide_eq_true_eq] at c12; omega))) (fun c12 => ?_)
          refine AW.skip ?_
          dsimp only [thenQ, blockQ]
          refine AW.seq ?_
          refine AW.seq ?_
          refine AW.region ?_
          refine AWL.q rfl rfl rfl (by decide) Qt.move ?_
          refine AWL.nrm (by simp only [go_sem, Int.reduceToNat, Nat.reduceLT, reduceIte, Nat.reduceEqDiff, Nat.reduceAdd, Nat.reduceMul, Nat.reduceBEq, reduceCtorEq]; rfl) ?_
          refine AWL.q rfl rfl rfl (by decide) Qt.move ?_
          refine AWL.q rfl rfl rfl (by decide) (Qt.binOp rfl rfl rfl) ?_
          refine AWL.nilE (by simp only [go_sem, Int.reduceToNat, Nat.reduceLT, reduceIte, Nat.reduceEqDiff, Nat.reduceAdd, Nat.reduceMul, Nat.reduceBEq, reduceCtorEq]; rfl) ?_
          try dsimp only [thenQ, blockQ]
          refine AW.cond rfl (fun c13 => (by exfalso; first | (simp at c13; done) | (simp only [decide_eq_true_eq] at c13; omega))) (fun c13 => ?_)
          refine AW.skip ?_
          dsimp only [thenQ, blockQ]
          refine AW.seq ?_
          refine AW.draw [0, 2, 4, 7, 8, 9] rfl (by decide +kernel) ?_
          refine AWA.take 0 rfl rfl rfl (by decide +kernel) (.on rfl rfl Qt.move) ?_
          refine AWA.nrm (by first | (simp only [go_sem, Int.reduceToNat, Nat.reduceLT, reduceIte, Nat.reduceEqDiff, Nat.reduceAdd, Nat.reduceMul, Nat.reduceBEq, reduceCtorEq]; rfl) | rfl) ?_
          refine AWA.take 2 rfl rfl rfl (by decide +kernel) (.on rfl rfl (Qt.loadG rfl rfl rfl ag24 sz24 (by decide))) ?_
          refine AWA.take 4 rfl rfl rfl (by decide +kernel) (.on rfl rfl Qt.move) ?_
          apply AWA.cutS #[true, true, true, true, true, true, true, true, true, true, true, true, false, false] [7, 8, 9]
          · intro K37_12
            apply AWA.cutS #[true, true, true, true, true, true, true, true, true, true, false, true, false, false] [7, 8, 9]
            · intro K37_11
              apply AWA.cutS #[true, true, true, true, true, true, true, true, true, true, true, false, false, false] [7, 8, 9]
              · intro K37_10
                apply AWA.cutS #[true, true, true, true, true, true, false, false, false, false, true, true, false, false] []
                · intro K37_9
                  apply AWA.cutS #[true, true, true, true, true, false, false, false, false, false, true, true, false, false] [4]
                  · intro K37_8
                    apply AWA.cutS #[true, true, true, true, true, true, false, false, false, false, false, true, false, false] []
                    · intro K37_7
                      apply AWA.cutS #[true, true, true, true, true, true, false, false, false, false, true, false, false, false] []
                      · intro K37_6
                        apply AWA.cutS #[true, true, true, false, true, false, false, false, false, false, true, true, false, false] [2, 4]
                        · intro K37_5
                          apply AWA.cutS #[true, true, true, true, true, false, false, false, false, false, false, true, false, false] [4]
                          · intro K37_4
                            apply AWA.cutS #[true, true, true, true, true, false, false, false, false, false, true, false, false, false] [4]
                            · intro K37_3
                              apply AWA.cutS #[true, false, true, false, true, false, false, false, false, false, true, true, false, false] [0, 2, 4]
                              · intro K37_2
                                apply AWA.cutS #[true, true, true, false, true, false, false, false, false, false, false, true, false, false] [2, 4]
                                · intro K37_1
                                  apply AWA.cutS #[true, true, true, false, true, false, false, false, false, false, true, false, false, false] [2, 4]
                                  · intro K37_0
                                    refine AWA.anyL [1, 10, 11] (by decide +kernel) rfl ⟨?_, ?_, ?_, trivial⟩
                                    · refine AWA.arm 1 [2, 4] [0] rfl rfl rfl (by decide +kernel) (by decide +kernel) (by decide +kernel) (Stp.callR rfl (by decide) Try.call26 rfl rfl (toInsS_con _ (by first | omega | (simp only [Int.toNat_natCast]; omega) | (simp only [Mk.wt] at *; omega))) (nodup_of rfl) rfl rfl) ?_
                                      refine AWA.nrm (by first | (simp only [go_sem, Int.reduceToNat, Nat.reduceLT, reduceIte, Nat.reduceEqDiff, Nat.reduceAdd, Nat.reduceMul, Nat.reduceBEq, reduceCtorEq]; rfl) | rfl) ?_
                                      refine AWA.againE rfl rfl (by decide +kernel) (.on rfl rfl (Qt.loadG rfl rfl rfl ag24 sz24 (by decide))) rfl ?_
                                      refine AWA.againE rfl rfl (by decide +kernel) (.on rfl rfl Qt.move) rfl ?_
                                      refine AWA.nrm (by first | (simp only [go_sem, Int.reduceToNat, Nat.reduceLT, reduceIte, Nat.reduceEqDiff, Nat.reduceAdd, Nat.reduceMul, Nat.reduceBEq, reduceCtorEq]; rfl) | rfl) ?_
                                      refine AWA.anyL [3, 10, 11] (by decide +kernel) rfl ⟨?_, ?_, ?_, trivial⟩
                                      · refine AWA.arm 3 [4] [2, 1, 0] rfl rfl rfl (by decide +kernel) (by decide +kernel) (by decide +kernel) (Stp.callR rfl (by decide) Try.call15 rfl rfl (toCpu_con _ (by first | omega | (simp only [Int.toNat_natCast]; omega) | (simp only [Mk.wt] at *; omega))) (nodup_of rfl) rfl rfl) ?_
                                        refine AWA.nrm (by first | (simp only [go_sem, Int.reduceToNat, Nat.reduceLT, reduceIte, Nat.reduceEqDiff, Nat.reduceAdd, Nat.reduceMul, Nat.reduceBEq, reduceCtorEq]; rfl) | rfl) ?_
                                        refine AWA.againE rfl rfl (by decide +kernel) (.on rfl rfl Qt.move) rfl ?_
                                        refine AWA.nrm (by first | (simp only [go_sem, Int.reduceToNat, Nat.reduceLT, reduceIte, Nat.reduceEqDiff, Nat.reduceAdd, Nat.reduceMul, Nat.reduceBEq, reduceCtorEq]; rfl) | rfl) ?_
                                        refine AWA.anyL [5, 10, 11] (by decide +kernel) rfl ⟨?_, ?_, ?_, trivial⟩
                                        · refine AWA.arm 5 [] [4, 3, 2, 1, 0] rfl rfl rfl (by decide +kernel) (by decide +kernel) (by decide +kernel) (Stp.callR rfl (by decide) Try.call53 rfl rfl (toIntS_con _ (by first | omega | (simp only [Int.toNat_natCast]; omega) | (simp only [Mk.wt] at *; omega))) (nodup_of rfl) rfl rfl) ?_
                                          refine AWA.nrm (by first | (simp only [go_sem, Int.reduceToNat, Nat.reduceLT, reduceIte, Nat.reduceEqDiff, Nat.reduceAdd, Nat.reduceMul, Nat.reduceBEq, reduceCtorEq]; rfl) | rfl) ?_
                                          refine AWA.anyL [6, 10, 11] (by decide +kernel) rfl ⟨?_, ?_, ?_, trivial⟩
                                          · refine AWA.arm 6 [] [5, 3, 1, 4, 2, 0] rfl rfl rfl (by decide +kernel) (by decide +kernel) (by decide +kernel) (Stp.callR rfl (by decide) Try.call50 rfl rfl (ExecI_con _ _ _) (nodup_of rfl) rfl rfl) ?_
                                            refine AWA.nrm (by first | (simp only [go_sem, Int.reduceToNat, Nat.reduceLT, reduceIte, Nat.reduceEqDiff, Nat.reduceAdd, Nat.reduceMul, Nat.reduceBEq, reduceCtorEq]; rfl) | rfl) ?_
                                            refine AWA.take 7 rfl rfl rfl (by decide +kernel) (.on rfl rfl Qt.move) ?_
                                            refine AWA.take 8 rfl rfl rfl (by decide +kernel) (.on rfl rfl (Qt.extract rfl (of_decide_eq_true rfl))) ?_
                                            refine AWA.take 9 rfl rfl rfl (by decide +kernel) (.on rfl rfl (Qt.extract rfl (of_decide_eq_true rfl))) ?_
                                            refine AWA.nrm (by first | (simp only [go_sem, Int.reduceToNat, Nat.reduceLT, reduceIte, Nat.reduceEqDiff, Nat.reduceAdd, Nat.reduceMul, Nat.reduceBEq, reduceCtorEq]; rfl) | rfl) ?_
                                            refine AWA.anyL [10, 11] (by decide +kernel) rfl ⟨?_, ?_, trivial⟩
                                            · refine AWA.arm 10 [7, 8, 9] [] rfl rfl rfl (by decide +kernel) (by decide +kernel) (by decide +kernel) (Stp.alloc rfl (by decide) (by decide)) ?_
                                              refine AWA.nrm (by first | (simp only [go_sem, Int.reduceToNat, Nat.reduceLT, reduceIte, Nat.reduceEqDiff, Nat.reduceAdd, Nat.reduceMul, Nat.reduceBEq, reduceCtorEq]; rfl) | rfl) ?_
                                              refine AWA.againE rfl rfl (by decide +kernel) (.on rfl rfl Qt.move) rfl ?_
                                              refine AWA.againE rfl rfl (by decide +kernel) (.on rfl rfl (Qt.extract rfl (of_decide_eq_true rfl))) rfl ?_
                                              refine AWA.againE rfl rfl (by decide +kernel) (.on rfl rfl (Qt.extract rfl (of_decide_eq_true rfl))) rfl ?_
                                              refine AWA.nrm (by first | (simp only [go_sem, Int.reduceToNat, Nat.reduceLT, reduceIte, Nat.reduceEqDiff, Nat.reduceAdd, Nat.reduceMul, Nat.reduceBEq, reduceCtorEq]; rfl) | rfl) ?_
                                              exact AWA.use (by decide +kernel) (by decide +kernel) Weak.refl K37_10
                                            · refine AWA.arm 11 [7, 8, 9] [] rfl rfl rfl (by decide +kernel) (by decide +kernel) (by decide +kernel) (Stp.alloc rfl (by decide) (by decide)) ?_
                                              refine AWA.nrm (by first | (simp only [go_sem, Int.reduceToNat, Nat.reduceLT, reduceIte, Nat.reduceEqDiff, Nat.reduceAdd, Nat.reduceMul, Nat.reduceBEq, reduceCtorEq]; rfl) | rfl) ?_
                                              refine AWA.againE rfl rfl (by decide +kernel) (.on rfl rfl Qt.move) rfl ?_
                                              refine AWA.againE rfl rfl (by decide +kernel) (.on rfl rfl (Qt.extract rfl (of_decide_eq_true rfl))) rfl ?_
                                              refine AWA.againE rfl rfl (by decide +kernel) (.on rfl rfl (Qt.extract rfl (of_decide_eq_true rfl))) rfl ?_
                                              refine AWA.nrm (by first | (simp only [go_sem, Int.reduceToNat, Nat.reduceLT, reduceIte, Nat.reduceEqDiff, Nat.reduceAdd, Nat.reduceMul, Nat.reduceBEq, reduceCtorEq]; rfl) | rfl) ?_
                                              exact AWA.use (by decide +kernel) (by decide +kernel) Weak.refl K37_11
                                          · refine AWA.arm 10 [] [] rfl rfl rfl (by decide +kernel) (by decide +kernel) (by decide +kernel) (Stp.alloc rfl (by decide) (by decide)) ?_
                                            refine AWA.nrm (by first | (simp only [go_sem, Int.reduceToNat, Nat.reduceLT, reduceIte, Nat.reduceEqDiff, Nat.reduceAdd, Nat.reduceMul, Nat.reduceBEq, reduceCtorEq]; rfl) | rfl) ?_
                                            exact AWA.use (by decide +kernel) (by decide +kernel) Weak.refl K37_6
                                          · refine AWA.arm 11 [] [] rfl rfl rfl (by decide +kernel) (by decide +kernel) (by decide +kernel) (Stp.alloc rfl (by decide) (by decide)) ?_
                                            refine AWA.nrm (by first | (simp only [go_sem, Int.reduceToNat, Nat.reduceLT, reduceIte, Nat.reduceEqDiff, Nat.reduceAdd, Nat.reduceMul, Nat.reduceBEq, reduceCtorEq]; rfl) | rfl) ?_
                                            exact AWA.use (by decide +kernel) (by decide +kernel) Weak.refl K37_7
                                        · refine AWA.arm 10 [4] [] rfl rfl rfl (by decide +kernel) (by decide +kernel) (by decide +kernel) (Stp.alloc rfl (by decide) (by decide)) ?_
                                          refine AWA.nrm (by first | (simp only [go_sem, Int.reduceToNat, Nat.reduceLT, reduceIte, Nat.reduceEqDiff, Nat.reduceAdd, Nat.reduceMul, Nat.reduceBEq, reduceCtorEq]; rfl) | rfl) ?_
                                          refine AWA.againE rfl rfl (by decide +kernel) (.on rfl rfl Qt.move) rfl ?_
                                          refine AWA.nrm (by first | (simp only [go_sem, Int.reduceToNat, Nat.reduceLT, reduceIte, Nat.reduceEqDiff, Nat.reduceAdd, Nat.reduceMul, Nat.reduceBEq, reduceCtorEq]; rfl) | rfl) ?_
                                          exact AWA.use (by decide +kernel) (by decide +kernel) Weak.refl K37_3
                                        · refine AWA.arm 11 [4] [] rfl rfl rfl (by decide +kernel) (by decide +kernel) (by decide +kernel) (Stp.alloc rfl (by decide) (by decide)) ?_
                                          refine AWA.nrm (by first | (simp only [go_sem, Int.reduceToNat, Nat.reduceLT, reduceIte, Nat.reduceEqDiff, Nat.reduceAdd, Nat.reduceMul, Nat.reduceBEq, reduceCtorEq]; rfl) | rfl) ?_
                                          refine AWA.againE rfl rfl (by decide +kernel) (.on rfl rfl Qt.move) rfl ?_
                                          refine AWA.nrm (by first | (simp only [go_sem, Int.reduceToNat, Nat.reduceLT, reduceIte, Nat.reduceEqDiff, Nat.reduceAdd, Nat.reduceMul, Nat.reduceBEq, reduceCtorEq]; rfl) | rfl) ?_
                                          exact AWA.use (by decide +kernel) (by decide +kernel) Weak.refl K37_4
                                      · refine AWA.arm 10 [2, 4] [] rfl rfl rfl (by decide +kernel) (by decide +kernel) (by decide +kernel) (Stp.alloc rfl (by decide) (by decide)) ?_
                                        refine AWA.nrm (by first | (simp only [go_sem, Int.reduceToNat, Nat.reduceLT, reduceIte, Nat.reduceEqDiff, Nat.reduceAdd, Nat.reduceMul, Nat.reduceBEq, reduceCtorEq]; rfl) | rfl) ?_
                                        refine AWA.againE rfl rfl (by decide +kernel) (.on rfl rfl (Qt.loadG rfl rfl rfl ag24 sz24 (by decide))) rfl ?_
                                        refine AWA.againE rfl rfl (by decide +kernel) (.on rfl rfl Qt.move) rfl ?_
                                        refine AWA.nrm (by first | (simp only [go_sem, Int.reduceToNat, Nat.reduceLT, reduceIte, Nat.reduceEqDiff, Nat.reduceAdd, Nat.reduceMul, Nat.reduceBEq, reduceCtorEq]; rfl) | rfl) ?_
                                        exact AWA.use (by decide +kernel) (by decide +kernel) Weak.refl K37_0
                                      · refine AWA.arm 11 [2, 4] [] rfl rfl rfl (by decide +kernel) (by decide +kernel) (by decide +kernel) (Stp.alloc rfl (by decide) (by decide)) ?_
                                        refine AWA.nrm (by first | (simp only [go_sem, Int.reduceToNat, Nat.reduceLT, reduceIte, Nat.reduceEqDiff, Nat.reduceAdd, Nat.reduceMul, Nat.reduceBEq, reduceCtorEq]; rfl) | rfl) ?_
                                        refine AWA.againE rfl rfl (by decide +kernel) (.on rfl rfl (Qt.loadG rfl rfl rfl ag24 sz24 (by decide))) rfl ?_
                                        refine AWA.againE rfl rfl (by decide +kernel) (.on rfl rfl Qt.move) rfl ?_
                                        refine AWA.nrm (by first | (simp only [go_sem, Int.reduceToNat, Nat.reduceLT, reduceIte, Nat.reduceEqDiff, Nat.reduceAdd, Nat.reduceMul, Nat.reduceBEq, reduceCtorEq]; rfl) | rfl) ?_
                                        exact AWA.use (by decide +kernel) (by decide +kernel) Weak.refl K37_1
                                    · refine AWA.arm 10 [0, 2, 4] [] rfl rfl rfl (by decide +kernel) (by decide +kernel) (by decide +kernel) (Stp.alloc rfl (by decide) (by decide)) ?_
                                      refine AWA.nrm (by first | (simp only [go_sem, Int.reduceToNat, Nat.reduceLT, reduceIte, Nat.reduceEqDiff, Nat.reduceAdd, Nat.reduceMul, Nat.reduceBEq, reduceCtorEq]; rfl) | rfl) ?_
                                      refine AWA.againE rfl rfl (by decide +kernel) (.on rfl rfl Qt.move) rfl ?_
                                      refine AWA.againE rfl rfl (by decide +kernel) (.on rfl rfl (Qt.loadG rfl rfl rfl ag24 sz24 (by decide))) rfl ?_
                                      refine AWA.againE rfl rfl (by decide +kernel) (.on rfl rfl Qt.move) rfl ?_
                                      refine AWA.nrm (by first | (simp only [go_sem, Int.reduceToNat, Nat.reduceLT, reduceIte, Nat.reduceEqDiff, Nat.reduceAdd, Nat.reduceMul, Nat.reduceBEq, reduceCtorEq]; rfl) | rfl) ?_
                                      refine AWA.anyL [1, 11] (by decide +kernel) rfl ⟨?_, ?_, trivial⟩
                                      · refine AWA.arm 1 [2, 4] [0] rfl rfl rfl (by decide +kernel) (by decide +kernel) (by decide +kernel) (Stp.callR rfl (by decide) Try.call26 rfl rfl (toInsS_con _ (by first | omega | (simp only [Int.toNat_natCast]; omega) | (simp only [Mk.wt] at *; omega))) (nodup_of rfl) rfl rfl) ?_
                                        refine AWA.nrm (by first | (simp only [go_sem, Int.reduceToNat, Nat.reduceLT, reduceIte, Nat.reduceEqDiff, Nat.reduceAdd, Nat.reduceMul, Nat.reduceBEq, reduceCtorEq]; rfl) | rfl) ?_
                                        refine AWA.againE rfl rfl (by decide +kernel) (.on rfl rfl (Qt.loadG rfl rfl rfl ag24 sz24 (by decide))) rfl ?_
                                        refine AWA.againE rfl rfl (by decide +kernel) (.on rfl rfl Qt.move) rfl ?_
                                        refine AWA.nrm (by first | (simp only [go_sem, Int.reduceToNat, Nat.reduceLT, reduceIte, Nat.reduceEqDiff, Nat.reduceAdd, Nat.reduceMul, Nat.reduceBEq, reduceCtorEq]; rfl) | rfl) ?_
                                        exact AWA.use (by decide +kernel) (by decide +kernel) (Weak.sim (by repeat (first | exact trivial | refine ⟨rfl, ?_⟩ | refine ⟨⟨_, rfl, T.sim_refl _⟩, ?_⟩ | refine ⟨⟨rfl, rfl⟩, ?_⟩)) rfl rfl) K37_0
                                      · refine AWA.arm 11 [0, 2, 4] [] rfl rfl rfl (by decide +kernel) (by decide +kernel) (by decide +kernel) (Stp.alloc rfl (by decide) (by decide)) ?_
                                        refine AWA.nrm (by first | (simp only [go_sem, Int.reduceToNat, Nat.reduceLT, reduceIte, Nat.reduceEqDiff, Nat.reduceAdd, Nat.reduceMul, Nat.reduceBEq, reduceCtorEq]; rfl) | rfl) ?_
                                        refine AWA.againE rfl rfl (by decide +kernel) (.on rfl rfl Qt.move) rfl ?_
                                        refine AWA.againE rfl rfl (by decide +kernel) (.on rfl rfl (Qt.loadG rfl rfl rfl ag24 sz24 (by decide))) rfl ?_
                                        refine AWA.againE rfl rfl (by decide +kernel) (.on rfl rfl Qt.move) rfl ?_
                                        refine AWA.nrm (by first | (simp only [go_sem, Int.reduceToNat, Nat.reduceLT, reduceIte, Nat.reduceEqDiff, Nat.reduceAdd, Nat.reduceMul, Nat.reduceBEq, reduceCtorEq]; rfl) | rfl) ?_
                                        exact AWA.use (by decide +kernel) (by decide +kernel) Weak.refl K37_2
                                    · refine AWA.arm 11 [0, 2, 4] [] rfl rfl rfl (by decide +kernel) (by decide +kernel) (by decide +kernel) (Stp.alloc rfl (by decide) (by decide)) ?_
                                      refine AWA.nrm (by first | (simp only [go_sem, Int.reduceToNat, Nat.reduceLT, reduceIte, Nat.reduceEqDiff, Nat.reduceAdd, Nat.reduceMul, Nat.reduceBEq, reduceCtorEq]; rfl) | rfl) ?_
                                      refine AWA.againE rfl rfl (by decide +kernel) (.on rfl rfl Qt.move) rfl ?_
                                      refine AWA.againE rfl rfl (by decide +kernel) (.on rfl rfl (Qt.loadG rfl rfl rfl ag24 sz24 (by decide))) rfl ?_
                                      refine AWA.againE rfl rfl (by decide +kernel) (.on rfl rfl Qt.move) rfl ?_
                                      refine AWA.nrm (by first | (simp only [go_sem, Int.reduceToNat, Nat.reduceLT, reduceIte, Nat.reduceEqDiff, Nat.reduceAdd, Nat.reduceMul, Nat.reduceBEq, reduceCtorEq]; rfl) | rfl) ?_
                                      refine AWA.anyL [1, 10] (by decide +kernel) rfl ⟨?_, ?_, trivial⟩
                                      · refine AWA.arm 1 [2, 4] [0] rfl rfl rfl (by decide +kernel) (by decide +kernel) (by decide +kernel) (Stp.callR rfl (by decide) Try.call26 rfl rfl (toInsS_con _ (by first | omega | (simp only [Int.toNat_natCast]; omega) | (simp only [Mk.wt] at *; omega))) (nodup_of rfl) rfl rfl) ?_
                                        refine AWA.nrm (by first | (simp only [go_sem, Int.reduceToNat, Nat.reduceLT, reduceIte, Nat.reduceEqDiff, Nat.reduceAdd, Nat.reduceMul, Nat.reduceBEq, reduceCtorEq]; rfl) | rfl) ?_
                                        refine AWA.againE rfl rfl (by decide +kernel) (.on rfl rfl (Qt.loadG rfl rfl rfl ag24 sz24 (by decide))) rfl ?_
                                        refine AWA.againE rfl rfl (by decide +kernel) (.on rfl rfl Qt.move) rfl ?_
                                        refine AWA.nrm (by first | (simp only [go_sem, Int.reduceToNat, Nat.reduceLT, reduceIte, Nat.reduceEqDiff, Nat.reduceAdd, Nat.reduceMul, Nat.reduceBEq, reduceCtorEq]; rfl) | rfl) ?_
                                        exact AWA.use (by decide +kernel) (by decide +kernel) (Weak.sim (by repeat (first | exact trivial | refine ⟨rfl, ?_⟩ | refine ⟨⟨_, rfl, T.sim_refl _⟩, ?_⟩ | refine ⟨⟨rfl, rfl⟩, ?_⟩)) rfl rfl) K37_1
                                      · refine AWA.arm 10 [0, 2, 4] [] rfl rfl rfl (by decide +kernel) (by decide +kernel) (by decide +kernel) (Stp.alloc rfl (by decide) (by decide)) ?_
                                        refine AWA.nrm (by first | (simp only [go_sem, Int.reduceToNat, Nat.reduceLT, reduceIte, Nat.reduceEqDiff, Nat.reduceAdd, Nat.reduceMul, Nat.reduceBEq, reduceCtorEq]; rfl) | rfl) ?_
                                        refine AWA.againE rfl rfl (by decide +kernel) (.on rfl rfl Qt.move) rfl ?_
                                        refine AWA.againE rfl rfl (by decide +kernel) (.on rfl rfl (Qt.loadG rfl rfl rfl ag24 sz24 (by decide))) rfl ?_
                                        refine AWA.againE rfl rfl (by decide +kernel) (.on rfl rfl Qt.move) rfl ?_
                                        refine AWA.nrm (by first | (simp only [go_sem, Int.reduceToNat, Nat.reduceLT, reduceIte, Nat.reduceEqDiff, Nat.reduceAdd, Nat.reduceMul, Nat.reduceBEq, reduceCtorEq]; rfl) | rfl) ?_
                                        exact AWA.use (by decide +kernel) (by decide +kernel) (Weak.sim (by repeat (first | exact trivial | refine ⟨rfl, ?_⟩ | refine ⟨⟨_, rfl, T.sim_refl _⟩, ?_⟩ | refine ⟨⟨rfl, rfl⟩, ?_⟩)) rfl rfl) K37_2
                                  · refine AWA.anyL [3, 11] (by decide +kernel) rfl ⟨?_, ?_, trivial⟩
                                    · refine AWA.arm 3 [4] [2, 1, 0] rfl rfl rfl (by decide +kernel) (by decide +kernel) (by decide +kernel) (Stp.callR rfl (by decide) Try.call15 rfl rfl (toCpu_con _ (by first | omega | (simp only [Int.toNat_natCast]; omega) | (simp only [Mk.wt] at *; omega))) (nodup_of rfl) rfl rfl) ?_
                                      refine AWA.nrm (by first | (simp only [go_sem, Int.reduceToNat, Nat.reduceLT, reduceIte, Nat.reduceEqDiff, Nat.reduceAdd, Nat.reduceMul, Nat.reduceBEq, reduceCtorEq]; rfl) | rfl) ?_
                                      refine AWA.againE rfl rfl (by decide +kernel) (.on rfl rfl Qt.move) rfl ?_
                                      refine AWA.nrm (by first | (simp only [go_sem, Int.reduceToNat, Nat.reduceLT, reduceIte, Nat.reduceEqDiff, Nat.reduceAdd, Nat.reduceMul, Nat.reduceBEq, reduceCtorEq]; rfl) | rfl) ?_
                                      exact AWA.use (by decide +kernel) (by decide +kernel) (Weak.sim (by repeat (first | exact trivial | refine ⟨rfl, ?_⟩ | refine ⟨⟨_, rfl, T.sim_refl _⟩, ?_⟩ | refine ⟨⟨rfl, rfl⟩, ?_⟩)) rfl rfl) K37_3
                                    · refine AWA.arm 11 [2, 4] [] rfl rfl rfl (by decide +kernel) (by decide +kernel) (by decide +kernel) (Stp.alloc rfl (by decide) (by decide)) ?_
                                      refine AWA.nrm (by first | (simp only [go_sem, Int.reduceToNat, Nat.reduceLT, reduceIte, Nat.reduceEqDiff, Nat.reduceAdd, Nat.reduceMul, Nat.reduceBEq, reduceCtorEq]; rfl) | rfl) ?_
                                      refine AWA.againE rfl rfl (by decide +kernel) (.on rfl rfl (Qt.loadG rfl rfl rfl ag24 sz24 (by decide))) rfl ?_
                                      refine AWA.againE rfl rfl (by decide +kernel) (.on rfl rfl Qt.move) rfl ?_
                                      refine AWA.nrm (by first | (simp only [go_sem, Int.reduceToNat, Nat.reduceLT, reduceIte, Nat.reduceEqDiff, Nat.reduceAdd, Nat.reduceMul, Nat.reduceBEq, reduceCtorEq]; rfl) | rfl) ?_
                                      exact AWA.use (by decide +kernel) (by decide +kernel) Weak.refl K37_5
                                · refine AWA.anyL [3, 10] (by decide +kernel) rfl ⟨?_, ?_, trivial⟩
                                  · refine AWA.arm 3 [4] [2, 1, 0] rfl rfl rfl (by decide +kernel) (by decide +kernel) (by decide +kernel) (Stp.callR rfl (by decide) Try.call15 rfl rfl (toCpu_con _ (by first | omega | (simp only [Int.toNat_natCast]; omega) | (simp only [Mk.wt] at *; omega))) (nodup_of rfl) rfl rfl) ?_
                                    refine AWA.nrm (by first | (simp only [go_sem, Int.reduceToNat, Nat.reduceLT, reduceIte, Nat.reduceEqDiff, Nat.reduceAdd, Nat.reduceMul, Nat.reduceBEq, reduceCtorEq]; rfl) | rfl) ?_
                                    refine AWA.againE rfl rfl (by decide +kernel) (.on rfl rfl Qt.move) rfl ?_
                                    refine AWA.nrm (by first | (simp only [go_sem, Int.reduceToNat, Nat.reduceLT, reduceIte, Nat.reduceEqDiff, Nat.reduceAdd, Nat.reduceMul, Nat.reduceBEq, reduceCtorEq]; rfl) | rfl) ?_
                                    exact AWA.use (by decide +kernel) (by decide +kernel) (Weak.sim (by repeat (first | exact trivial | refine ⟨rfl, ?_⟩ | refine ⟨⟨_, rfl, T.sim_refl _⟩, ?_⟩ | refine ⟨⟨rfl, rfl⟩, ?_⟩)) rfl rfl) K37_4
                                  · refine AWA.arm 10 [2, 4] [] rfl rfl rfl (by decide +kernel) (by decide +kernel) (by decide +kernel) (Stp.alloc rfl (by decide) (by decide)) ?_
                                    refine AWA.nrm (by first | (simp only [go_sem, Int.reduceToNat, Nat.reduceLT, reduceIte, Nat.reduceEqDiff, Nat.reduceAdd, Nat.reduceMul, Nat.reduceBEq, reduceCtorEq]; rfl) | rfl) ?_
                                    refine AWA.againE rfl rfl (by decide +kernel) (.on rfl rfl (Qt.loadG rfl rfl rfl ag24 sz24 (by decide))) rfl ?_
                                    refine AWA.againE rfl rfl (by decide +kernel) (.on rfl rfl Qt.move) rfl ?_
                                    refine AWA.nrm (by first | (simp only [go_sem, Int.reduceToNat, Nat.reduceLT, reduceIte, Nat.reduceEqDiff, Nat.reduceAdd, Nat.reduceMul, Nat.reduceBEq, reduceCtorEq]; rfl) | rfl) ?_
                                    exact AWA.use (by decide +kernel) (by decide +kernel) (Weak.sim (by repeat (first | exact trivial | refine ⟨rfl, ?_⟩ | refine ⟨⟨_, rfl, T.sim_refl _⟩, ?_⟩ | refine ⟨⟨rfl, rfl⟩, ?_⟩)) rfl rfl) K37_5
                              · refine AWA.one 1 [2, 4] [0] (by decide +kernel) rfl rfl rfl (by decide +kernel) (by decide +kernel) (by decide +kernel) (Stp.callR rfl (by decide) Try.call26 rfl rfl (toInsS_con _ (by first | omega | (simp only [Int.toNat_natCast]; omega) | (simp only [Mk.wt] at *; omega))) (nodup_of rfl) rfl rfl) ?_
                                refine AWA.nrm (by first | (simp only [go_sem, Int.reduceToNat, Nat.reduceLT, reduceIte, Nat.reduceEqDiff, Nat.reduceAdd, Nat.reduceMul, Nat.reduceBEq, reduceCtorEq]; rfl) | rfl) ?_
                                refine AWA.againE rfl rfl (by decide +kernel) (.on rfl rfl (Qt.loadG rfl rfl rfl ag24 sz24 (by decide))) rfl ?_
                                refine AWA.againE rfl rfl (by decide +kernel) (.on rfl rfl Qt.move) rfl ?_
                                refine AWA.nrm (by first | (simp only [go_sem, Int.reduceToNat, Nat.reduceLT, reduceIte, Nat.reduceEqDiff, Nat.reduceAdd, Nat.reduceMul, Nat.reduceBEq, reduceCtorEq]; rfl) | rfl) ?_
                                exact AWA.use (by decide +kernel) (by decide +kernel) (Weak.sim (by repeat (first | exact trivial | refine ⟨rfl, ?_⟩ | refine ⟨⟨_, rfl, T.sim_refl _⟩, ?_⟩ | refine ⟨⟨rfl, rfl⟩, ?_⟩)) rfl rfl) K37_5
                            · refine AWA.anyL [5, 11] (by decide +kernel) rfl ⟨?_, ?_, trivial⟩
                              · refine AWA.arm 5 [] [4, 3, 2, 1, 0] rfl rfl rfl (by decide +kernel) (by decide +kernel) (by decide +kernel) (Stp.callR rfl (by decide) Try.call53 rfl rfl (toIntS_con _ (by first | omega | (simp only [Int.toNat_natCast]; omega) | (simp only [Mk.wt] at *; omega))) (nodup_of rfl) rfl rfl) ?_
                                refine AWA.nrm (by first | (simp only [go_sem, Int.reduceToNat, Nat.reduceLT, reduceIte, Nat.reduceEqDiff, Nat.reduceAdd, Nat.reduceMul, Nat.reduceBEq, reduceCtorEq]; rfl) | rfl) ?_
                                exact AWA.use (by decide +kernel) (by decide +kernel) (Weak.sim (by repeat (first | exact trivial | refine ⟨rfl, ?_⟩ | refine ⟨⟨_, rfl, T.sim_refl _⟩, ?_⟩ | refine ⟨⟨rfl, rfl⟩, ?_⟩)) rfl rfl) K37_6
                              · refine AWA.arm 11 [4] [] rfl rfl rfl (by decide +kernel) (by decide +kernel) (by decide +kernel) (Stp.alloc rfl (by decide) (by decide)) ?_
                                refine AWA.nrm (by first | (simp only [go_sem, Int.reduceToNat, Nat.reduceLT, reduceIte, Nat.reduceEqDiff, Nat.reduceAdd, Nat.reduceMul, Nat.reduceBEq, reduceCtorEq]; rfl) | rfl) ?_
                                refine AWA.againE rfl rfl (by decide +kernel) (.on rfl rfl Qt.move) rfl ?_
                                refine AWA.nrm (by first | (simp only [go_sem, Int.reduceToNat, Nat.reduceLT, reduceIte, Nat.reduceEqDiff, Nat.reduceAdd, Nat.reduceMul, Nat.reduceBEq, reduceCtorEq]; rfl) | rfl) ?_
                                exact AWA.use (by decide +kernel) (by decide +kernel) Weak.refl K37_8
                          · refine AWA.anyL [5, 10] (by decide +kernel) rfl ⟨?_, ?_, trivial⟩
                            · refine AWA.arm 5 [] [4, 3, 2, 1, 0] rfl rfl rfl (by decide +kernel) (by decide +kernel) (by decide +kernel) (Stp.callR rfl (by decide) Try.call53 rfl rfl (toIntS_con _ (by first | omega | (simp only [Int.toNat_natCast]; omega) | (simp only [Mk.wt] at *; omega))) (nodup_of rfl) rfl rfl) ?_
                              refine AWA.nrm (by first | (simp only [go_sem, Int.reduceToNat, Nat.reduceLT, reduceIte, Nat.reduceEqDiff, Nat.reduceAdd, Nat.reduceMul, Nat.reduceBEq, reduceCtorEq]; rfl) | rfl) ?_
                              exact AWA.use (by decide +kernel) (by decide +kernel) (Weak.sim (by repeat (first | exact trivial | refine ⟨rfl, ?_⟩ | refine ⟨⟨_, rfl, T.sim_refl _⟩, ?_⟩ | refine ⟨⟨rfl, rfl⟩, ?_⟩)) rfl rfl) K37_7
                            · refine AWA.arm 10 [4] [] rfl rfl rfl (by decide +kernel) (by decide +kernel) (by decide +kernel) (Stp.alloc rfl (by decide) (by decide)) ?_
                              refine AWA.nrm (by first | (simp only [go_sem, Int.reduceToNat, Nat.reduceLT, reduceIte, Nat.reduceEqDiff, Nat.reduceAdd, Nat.reduceMul, Nat.reduceBEq, reduceCtorEq]; rfl) | rfl) ?_
                              refine AWA.againE rfl rfl (by decide +kernel) (.on rfl rfl Qt.move) rfl ?_
                              refine AWA.nrm (by first | (simp only [go_sem, Int.reduceToNat, Nat.reduceLT, reduceIte, Nat.reduceEqDiff, Nat.reduceAdd, Nat.reduceMul, Nat.reduceBEq, reduceCtorEq]; rfl) | rfl) ?_
                              exact AWA.use (by decide +kernel) (by decide +kernel) (Weak.sim (by repeat (first | exact trivial | refine ⟨rfl, ?_⟩ | refine ⟨⟨_, rfl, T.sim_refl _⟩, ?_⟩ | refine ⟨⟨rfl, rfl⟩, ?_⟩)) rfl rfl) K37_8
                        · refine AWA.one 3 [4] [2, 1, 0] (by decide +kernel) rfl rfl rfl (by decide +kernel) (by decide +kernel) (by decide +kernel) (Stp.callR rfl (by decide) Try.call15 rfl rfl (toCpu_con _ (by first | omega | (simp only [Int.toNat_natCast]; omega) | (simp only [Mk.wt] at *; omega))) (nodup_of rfl) rfl rfl) ?_
                          refine AWA.nrm (by first | (simp only [go_sem, Int.reduceToNat, Nat.reduceLT, reduceIte, Nat.reduceEqDiff, Nat.reduceAdd, Nat.reduceMul, Nat.reduceBEq, reduceCtorEq]; rfl) | rfl) ?_
                          refine AWA.againE rfl rfl (by decide +kernel) (.on rfl rfl Qt.move) rfl ?_
                          refine AWA.nrm (by first | (simp only [go_sem, Int.reduceToNat, Nat.reduceLT, reduceIte, Nat.reduceEqDiff, Nat.reduceAdd, Nat.reduceMul, Nat.reduceBEq, reduceCtorEq]; rfl) | rfl) ?_
                          exact AWA.use (by decide +kernel) (by decide +kernel) (Weak.sim (by repeat (first | exact trivial | refine ⟨rfl, ?_⟩ | refine ⟨⟨_, rfl, T.sim_refl _⟩, ?_⟩ | refine ⟨⟨rfl, rfl⟩, ?_⟩)) rfl rfl) K37_8
                      · refine AWA.anyL [6, 11] (by decide +kernel) rfl ⟨?_, ?_, trivial⟩
                        · refine AWA.arm 6 [] [5, 3, 1, 4, 2, 0] rfl rfl rfl (by decide +kernel) (by decide +kernel) (by decide +kernel) (Stp.callR rfl (by decide) Try.call50 rfl rfl (ExecI_con _ _ _) (nodup_of rfl) rfl rfl) ?_
                          refine AWA.nrm (by first | (simp only [go_sem, Int.reduceToNat, Nat.reduceLT, reduceIte, Nat.reduceEqDiff, Nat.reduceAdd, Nat.reduceMul, Nat.reduceBEq, reduceCtorEq]; rfl) | rfl) ?_
                          refine AWA.take 7 rfl rfl rfl (by decide +kernel) (.on rfl rfl Qt.move) ?_
                          refine AWA.take 8 rfl rfl rfl (by decide +kernel) (.on rfl rfl (Qt.extract rfl (of_decide_eq_true rfl))) ?_
                          refine AWA.take 9 rfl rfl rfl (by decide +kernel) (.on rfl rfl (Qt.extract rfl (of_decide_eq_true rfl))) ?_
                          refine AWA.nrm (by first | (simp only [go_sem, Int.reduceToNat, Nat.reduceLT, reduceIte, Nat.reduceEqDiff, Nat.reduceAdd, Nat.reduceMul, Nat.reduceBEq, reduceCtorEq]; rfl) | rfl) ?_
                          refine AWA.nrm (by first | (simp only [go_sem, Int.reduceToNat, Nat.reduceLT, reduceIte, Nat.reduceEqDiff, Nat.reduceAdd, Nat.reduceMul, Nat.reduceBEq, reduceCtorEq]; rfl) | rfl) ?_
                          exact AWA.use (by decide +kernel) (by decide +kernel) (Weak.sim (by repeat (first | exact trivial | refine ⟨rfl, ?_⟩ | refine ⟨⟨_, rfl, T.sim_refl _⟩, ?_⟩ | refine ⟨⟨rfl, rfl⟩, ?_⟩)) rfl rfl) K37_10
                        · refine AWA.arm 11 [] [] rfl rfl rfl (by decide +kernel) (by decide +kernel) (by decide +kernel) (Stp.alloc rfl (by decide) (by decide)) ?_
                          refine AWA.nrm (by first | (simp only [go_sem, Int.reduceToNat, Nat.reduceLT, reduceIte, Nat.reduceEqDiff, Nat.reduceAdd, Nat.reduceMul, Nat.reduceBEq, reduceCtorEq]; rfl) | rfl) ?_
                          exact AWA.use (by decide +kernel) (by decide +kernel) Weak.refl K37_9
                    · refine AWA.anyL [6, 10] (by decide +kernel) rfl ⟨?_, ?_, trivial⟩
                      · refine AWA.arm 6 [] [5, 3, 1, 4, 2, 0] rfl rfl rfl (by decide +kernel) (by decide +kernel) (by decide +kernel) (Stp.callR rfl (by decide) Try.call50 rfl rfl (ExecI_con _ _ _) (nodup_of rfl) rfl rfl) ?_
                        refine AWA.nrm (by first | (simp only [go_sem, Int.reduceToNat, Nat.reduceLT, reduceIte, Nat.reduceEqDiff, Nat.reduceAdd, Nat.reduceMul, Nat.reduceBEq, reduceCtorEq]; rfl) | rfl) ?_
                        refine AWA.take 7 rfl rfl rfl (by decide +kernel) (.on rfl rfl Qt.move) ?_
                        refine AWA.take 8 rfl rfl rfl (by decide +kernel) (.on rfl rfl (Qt.extract rfl (of_decide_eq_true rfl))) ?_
                        refine AWA.take 9 rfl rfl rfl (by decide +kernel) (.on rfl rfl (Qt.extract rfl (of_decide_eq_true rfl))) ?_
                        refine AWA.nrm (by first | (simp only [go_sem, Int.reduceToNat, Nat.reduceLT, reduceIte, Nat.reduceEqDiff, Nat.reduceAdd, Nat.reduceMul, Nat.reduceBEq, reduceCtorEq]; rfl) | rfl) ?_
                        refine AWA.nrm (by first | (simp only [go_sem, Int.reduceToNat, Nat.reduceLT, reduceIte, Nat.reduceEqDiff, Nat.reduceAdd, Nat.reduceMul, Nat.reduceBEq, reduceCtorEq]; rfl) | rfl) ?_
                        exact AWA.use (by decide +kernel) (by decide +kernel) (Weak.sim (by repeat (first | exact trivial | refine ⟨rfl, ?_⟩ | refine ⟨⟨_, rfl, T.sim_refl _⟩, ?_⟩ | refine ⟨⟨rfl, rfl⟩, ?_⟩)) rfl rfl) K37_11
                      · refine AWA.arm 10 [] [] rfl rfl rfl (by decide +kernel) (by decide +kernel) (by decide +kernel) (Stp.alloc rfl (by decide) (by decide)) ?_
                        refine AWA.nrm (by first | (simp only [go_sem, Int.reduceToNat, Nat.reduceLT, reduceIte, Nat.reduceEqDiff, Nat.reduceAdd, Nat.reduceMul, Nat.reduceBEq, reduceCtorEq]; rfl) | rfl) ?_
                        exact AWA.use (by decide +kernel) (by decide +kernel) (Weak.sim (by repeat (first | exact trivial | refine ⟨rfl, ?_⟩ | refine ⟨⟨_, rfl, T.sim_refl _⟩, ?_⟩ | refine ⟨⟨rfl, rfl⟩, ?_⟩)) rfl rfl) K37_9
                  · refine AWA.one 5 [] [4, 3, 2, 1, 0] (by decide +kernel) rfl rfl rfl (by decide +kernel) (by decide +kernel) (by decide +kernel) (Stp.callR rfl (by decide) Try.call53 rfl rfl (toIntS_con _ (by first | omega | (simp only [Int.toNat_natCast]; omega) | (simp only [Mk.wt] at *; omega))) (nodup_of rfl) rfl rfl) ?_
                    refine AWA.nrm (by first | (simp only [go_sem, Int.reduceToNat, Nat.reduceLT, reduceIte, Nat.reduceEqDiff, Nat.reduceAdd, Nat.reduceMul, Nat.reduceBEq, reduceCtorEq]; rfl) | rfl) ?_
                    exact AWA.use (by decide +kernel) (by decide +kernel) (Weak.sim (by repeat (first | exact trivial | refine ⟨rfl, ?_⟩ | refine ⟨⟨_, rfl, T.sim_refl _⟩, ?_⟩ | refine ⟨⟨rfl, rfl⟩, ?_⟩)) rfl rfl) K37_9
                · refine AWA.one 6 [] [5, 3, 1, 4, 2, 0] (by decide +kernel) rfl rfl rfl (by decide +kernel) (by decide +kernel) (by decide +kernel) (Stp.callR rfl (by decide) Try.call50 rfl rfl (ExecI_con _ _ _) (nodup_of rfl) rfl rfl) ?_
                  refine AWA.nrm (by first | (simp only [go_sem, Int.reduceToNat, Nat.reduceLT, reduceIte, Nat.reduceEqDiff, Nat.reduceAdd, Nat.reduceMul, Nat.reduceBEq, reduceCtorEq]; rfl) | rfl) ?_
                  refine AWA.take 7 rfl rfl rfl (by decide +kernel) (.on rfl rfl Qt.move) ?_
                  refine AWA.take 8 rfl rfl rfl (by decide +kernel) (.on rfl rfl (Qt.extract rfl (of_decide_eq_true rfl))) ?_
                  refine AWA.take 9 rfl rfl rfl (by decide +kernel) (.on rfl rfl (Qt.extract rfl (of_decide_eq_true rfl))) ?_
                  refine AWA.nrm (by first | (simp only [go_sem, Int.reduceToNat, Nat.reduceLT, reduceIte, Nat.reduceEqDiff, Nat.reduceAdd, Nat.reduceMul, Nat.reduceBEq, reduceCtorEq]; rfl) | rfl) ?_
                  refine AWA.nrm (by first | (simp only [go_sem, Int.reduceToNat, Nat.reduceLT, reduceIte, Nat.reduceEqDiff, Nat.reduceAdd, Nat.reduceMul, Nat.reduceBEq, reduceCtorEq]; rfl) | rfl) ?_
                  exact AWA.use (by decide +kernel) (by decide +kernel) Weak.refl K37_12
              · refine AWA.one 11 [7, 8, 9] [] (by decide +kernel) rfl rfl rfl (by decide +kernel) (by decide +kernel) (by decide +kernel) (Stp.alloc rfl (by decide) (by decide)) ?_
                refine AWA.nrm (by first | (simp only [go_sem, Int.reduceToNat, Nat.reduceLT, reduceIte, Nat.reduceEqDiff, Nat.reduceAdd, Nat.reduceMul, Nat.reduceBEq, reduceCtorEq]; rfl) | rfl) ?_
                refine AWA.againE rfl rfl (by decide +kernel) (.on rfl rfl Qt.move) rfl ?_
                refine AWA.againE rfl rfl (by decide +kernel) (.on rfl rfl (Qt.extract rfl (of_decide_eq_true rfl))) rfl ?_
                refine AWA.againE rfl rfl (by decide +kernel) (.on rfl rfl (Qt.extract rfl (of_decide_eq_true rfl))) rfl ?_
                refine AWA.nrm (by first | (simp only [go_sem, Int.reduceToNat, Nat.reduceLT, reduceIte, Nat.reduceEqDiff, Nat.reduceAdd, Nat.reduceMul, Nat.reduceBEq, reduceCtorEq]; rfl) | rfl) ?_
                exact AWA.use (by decide +kernel) (by decide +kernel) (Weak.sim (by repeat (first | exact trivial | refine ⟨rfl, ?_⟩ | refine ⟨⟨_, rfl, T.sim_refl _⟩, ?_⟩ | refine ⟨⟨rfl, rfl⟩, ?_⟩)) rfl rfl) K37_12
            · refine AWA.one 10 [7, 8, 9] [] (by decide +kernel) rfl rfl rfl (by decide +kernel) (by decide +kernel) (by decide +kernel) (Stp.alloc rfl (by decide) (by decide)) ?_
              refine AWA.nrm (by first | (simp only [go_sem, Int.reduceToNat, Nat.reduceLT, reduceIte, Nat.reduceEqDiff, Nat.reduceAdd, Nat.reduceMul, Nat.reduceBEq, reduceCtorEq]; rfl) | rfl) ?_
              refine AWA.againE rfl rfl (by decide +kernel) (.on rfl rfl Qt.move) rfl ?_
              refine AWA.againE rfl rfl (by decide +kernel) (.on rfl rfl (Qt.extract rfl (of_decide_eq_true rfl))) rfl ?_
              refine AWA.againE rfl rfl (by decide +kernel) (.on rfl rfl (Qt.extract rfl (of_decide_eq_true rfl))) rfl ?_
              refine AWA.nrm (by first | (simp only [go_sem, Int.reduceToNat, Nat.reduceLT, reduceIte, Nat.reduceEqDiff, Nat.reduceAdd, Nat.reduceMul, Nat.reduceBEq, reduceCtorEq]; rfl) | rfl) ?_
              exact AWA.use (by decide +kernel) (by decide +kernel) (Weak.sim (by repeat (first | exact trivial | refine ⟨rfl, ?_⟩ | refine ⟨⟨_, rfl, T.sim_refl _⟩, ?_⟩ | refine ⟨⟨rfl, rfl⟩, ?_⟩)) rfl rfl) K37_12
          · refine AWA.one 12 [9] [11, 10, 8, 7, 6, 5, 4, 3, 2, 1, 0] (by decide +kernel) rfl rfl rfl (by decide +kernel) (by decide +kernel) (by decide +kernel) (by first | exact Stp.storeA rfl rfl rfl rfl (by decide) rfl | exact Stp.store rfl rfl (by simp) rfl rfl rfl (by decide) rfl) ?_
            refine AWA.nrm (by first | (simp only [go_sem, Int.reduceToNat, Nat.reduceLT, reduceIte, Nat.reduceEqDiff, Nat.reduceAdd, Nat.reduceMul, Nat.reduceBEq, reduceCtorEq]; rfl) | rfl) ?_
            refine AWA.againE rfl rfl (by decide +kernel) (.on rfl rfl (Qt.extract rfl (of_decide_eq_true rfl))) rfl ?_
            refine AWA.nrm (by first | (simp only [go_sem, Int.reduceToNat, Nat.reduceLT, reduceIte, Nat.reduceEqDiff, Nat.reduceAdd, Nat.reduceMul, Nat.reduceBEq, reduceCtorEq]; rfl) | rfl) ?_
            refine AWA.one 13 [] [12, 11, 10, 9, 8, 7, 6, 5, 4, 3, 2, 1, 0] (by decide +kernel) rfl rfl rfl (by decide +kernel) (by decide +kernel) (by decide +kernel) (by first | exact Stp.storeA rfl rfl rfl rfl (by decide) rfl | exact Stp.store rfl rfl (by simp) rfl rfl rfl (by decide) rfl) ?_
            refine AWA.nrm (by first | (simp only [go_sem, Int.reduceToNat, Nat.reduceLT, reduceIte, Nat.reduceEqDiff, Nat.reduceAdd, Nat.reduceMul, Nat.reduceBEq, reduceCtorEq]; rfl) | rfl) ?_
            refine AWA.nilE (by decide +kernel) (by first | (simp only [go_sem, Int.reduceToNat, Nat.reduceLT, reduceIte, Nat.reduceEqDiff, Nat.reduceAdd, Nat.reduceMul, Nat.reduceBEq, reduceCtorEq]; rfl) | rfl) ?_
            try dsimp only [thenQ, blockQ]
            refine AW.seq ?_
            refine AW.seq ?_
            refine AW.region ?_
            refine AWL.q rfl rfl rfl (by decide) (Qt.loadG rfl rfl rfl ag27 sz27 (by decide)) ?_
            refine AWL.nrm (by simp only [go_sem, Int.reduceToNat, Nat.reduceLT, reduceIte, Nat.reduceEqDiff, Nat.reduceAdd, Nat.reduceMul, Nat.reduceBEq, reduceCtorEq]; rfl) ?_
            refine AWL.q rfl rfl rfl (by decide) (Qt.loadG rfl rfl rfl ag27 sz27 (by decide)) ?_
            refine AWL.step rfl rfl (Stp.callV rfl (by decide) Try.call17 rfl rfl (eqCpu_con _ _)) ?_
            refine AWL.nrm (by simp only [go_sem, Int.reduceToNat, Nat.reduceLT, reduceIte, Nat.reduceEqDiff, Nat.reduceAdd, Nat.reduceMul, Nat.reduceBEq, reduceCtorEq]; rfl) ?_
            refine AWL.q rfl rfl rfl (by decide) (Qt.notB rfl) ?_
            refine AWL.q rfl rfl rfl (by decide) Qt.move ?_
            refine AWL.split 129 rfl (fun g14 => (by exfalso; first | (simp at g14; done) | (simp only [decide_eq_true_eq] at g14; omega))) (fun g14 => ?_)
            refine AWL.q rfl (nF g14) rfl (by decide) (Qt.loadG rfl rfl rfl ag69 sz69 (by decide)) ?_
            refine AWL.nrm (by simp only [go_sem, Int.reduceToNat, Nat.reduceLT, reduceIte, Nat.reduceEqDiff, Nat.reduceAdd, Nat.reduceMul, Nat.reduceBEq, reduceCtorEq]; rfl) ?_
            refine AWL.q rfl (nF g14) rfl (by decide) (Qt.loadG rfl rfl rfl ag69 sz69 (by decide)) ?_
            refine AWL.step rfl (nF g14) (Stp.callV rfl (by decide) Try.call54 rfl rfl (eqDid_con _ _)) ?_
            refine AWL.nrm (by simp only [go_sem, Int.reduceToNat, Nat.reduceLT, reduceIte, Nat.reduceEqDiff, Nat.reduceAdd, Nat.reduceMul, Nat.reduceBEq, reduceCtorEq]; rfl) ?_
            refine AWL.q rfl (nF g14) rfl (by decide) (Qt.notB rfl) ?_
            refine AWL.q rfl rfl rfl (by decide) (Qt.pickF rfl g14) ?_
            refine AWL.nilE (by simp only [go_sem, Int.reduceToNat, Nat.reduceLT, reduceIte, Nat.reduceEqDiff, Nat.reduceAdd, Nat.reduceMul, Nat.reduceBEq, reduceCtorEq]; rfl) ?_
            try dsimp only [thenQ, blockQ]
            refine AW.cond rfl (fun c15 => (by exfalso; first | (simp at c15; done) | (simp only [decide_eq_true_eq] at c15; omega))) (fun c15 => ?_)
            refine AW.skip ?_
            dsimp only [thenQ, blockQ]
            refine AW.seq ?_
            refine AW.region ?_
            refine AWL.q rfl rfl rfl (by decide) Qt.assign ?_
            refine AWL.nilE (by simp only [go_sem, Int.reduceToNat, Nat.reduceLT, reduceIte, Nat.reduceEqDiff, Nat.reduceAdd, Nat.reduceMul, Nat.reduceBEq, reduceCtorEq]; rfl) ?_
            try dsimp only [thenQ, blockQ]
            refine AW.seq ?_
            refine AW.region ?_
            refine AWL.q rfl rfl rfl (by decide) (Qt.loadG rfl rfl rfl ag27 sz27 (by decide)) ?_
            refine AWL.nrm (by simp only [go_sem, Int.reduceToNat, Nat.reduceLT, reduceIte, Nat.reduceEqDiff, Nat.reduceAdd, Nat.reduceMul, Nat.reduceBEq, reduceCtorEq]; rfl) ?_
            refine AWL.q rfl rfl rfl (by decide) Qt.move ?_
            refine AWL.step rfl rfl (Stp.callV rfl (by decide) Try.call59 rfl rfl (heldCpu_con _ _ (by omega) (by omega))) ?_
            refine AWL.nrm (by simp only [go_sem, Int.reduceToNat, Nat.reduceLT, reduceIte, Nat.reduceEqDiff, Nat.reduceAdd, Nat.reduceMul, Nat.reduceBEq, reduceCtorEq]; rfl) ?_
            refine AWL.q rfl rfl rfl (by decide) Qt.assign ?_
            refine AWL.nilE (by simp only [go_sem, Int.reduceToNat, Nat.reduceLT, reduceIte, Nat.reduceEqDiff, Nat.reduceAdd, Nat.reduceMul, Nat.reduceBEq, reduceCtorEq]; rfl) ?_
            try dsimp only [thenQ, blockQ]
            refine AW.seq ?_
            refine AW.seq ?_
            refine AW.region ?_
            refine AWL.q rfl rfl rfl (by decide) Qt.move ?_
            refine AWL.q rfl rfl rfl (by decide) (Qt.binOp rfl rfl rfl) ?_
            refine AWL.nilE (by simp only [go_sem, Int.reduceToNat, Nat.reduceLT, reduceIte, Nat.reduceEqDiff, Nat.reduceAdd, Nat.reduceMul, Nat.reduceBEq, reduceCtorEq]; rfl) ?_
            try dsimp only [thenQ, blockQ]
            refine AW.cond rfl (fun c16 => (by exfalso; first | (simp at c16; done) | (simp only [decide_eq_true_eq] at c16; omega))) (fun c16 => ?_)
            refine AW.skip ?_
            dsimp only [thenQ, blockQ]
            refine AW.seq ?_
            refine AW.seq ?_
            refine AW.region ?_
            refine AWL.q rfl rfl rfl (by decide) Qt.move ?_
            refine AWL.nrm (by simp only [go_sem, Int.reduceToNat, Nat.reduceLT, reduceIte, Nat.reduceEqDiff, Nat.reduceAdd, Nat.reduceMul, Nat.reduceBEq, reduceCtorEq]; rfl) ?_
            refine AWL.q rfl rfl rfl (by decide) Qt.move ?_
            refine AWL.q rfl rfl rfl (by decide) (Qt.binOp rfl rfl rfl) ?_
            refine AWL.nilE (by simp only [go_sem, Int.reduceToNat, Nat.reduceLT, reduceIte, Nat.reduceEqDiff, Nat.reduceAdd, Nat.reduceMul, Nat.reduceBEq, reduceCtorEq]; rfl) ?_
            try dsimp only [thenQ, blockQ]
            refine AW.cond rfl (fun c17 => (by exfalso; first | (simp at c17; done) | (simp only [decide_eq_true_eq] at c17; omega))) (fun c17 => ?_)
            refine AW.skip ?_
            dsimp only [thenQ, blockQ]
            refine AW.seq ?_
            refine AW.region ?_
            refine AWL.q rfl rfl rfl (by decide) Qt.assign ?_
            refine AWL.nilE (by simp only [go_sem, Int.reduceToNat, Nat.reduceLT, reduceIte, Nat.reduceEqDiff, Nat.reduceAdd, Nat.reduceMul, Nat.reduceBEq, reduceCtorEq]; rfl) ?_
            try dsimp only [thenQ, blockQ]
            refine AW.ret ?_
            try dsimp only [thenQ, blockQ]
            refine endQ_ret (.cons (.tmp 6) .nil) ?_
            first | rfl | (exfalso; simp_all; done)
end Go.Proofs.Ytjfojlaoiifppaa.VM
