/- Contracts of functions of the program. No conditions beyond those that each states. -/
import Derived.Test.YtjfojlaoiifppaaExB
set_option linter.all false
namespace Go.Proofs.Ytjfojlaoiifppaa.VM
open Go Go.RowKit Go.Proofs
set_option maxHeartbeats 4000000 in
set_option maxRecDepth 10000 in
theorem cloneI_con (l : List Int) (hs : l.length ≤ 4194304) : Con Try.prog 113 [.h base []] [.rt base .ro (tr l)] (Ret (.h 0 []) [(0, .row, tr l)]) := by
  refine Con.of_body Try.func113 rfl (by simp) ?_
  rw [Try.ntmps113]
  refine AW.seq ?_
  refine AW.region ?_
  refine AWL.q rfl rfl rfl (by decide) Qt.assign ?_
  refine AWL.nilE (by simp only [go_sem, Int.reduceToNat, Nat.reduceLT, reduceIte, Nat.reduceEqDiff, Nat.reduceAdd, Nat.reduceMul, Nat.reduceBEq, reduceCtorEq]; rfl) ?_
  try dsimp only [thenQ, blockQ]
  refine AW.seq ?_
  refine AW.seq ?_
  refine AW.region ?_
  refine AWL.q rfl rfl rfl (by decide) Qt.move ?_
  refine AWL.nilTest rfl rfl rfl (by decide) rfl rfl rfl sl22 ?_
  intro b1 hb1
  refine AWL.nilE (by simp only [go_sem, Int.reduceToNat, Nat.reduceLT, reduceIte, Nat.reduceEqDiff, Nat.reduceAdd, Nat.reduceMul, Nat.reduceBEq, reduceCtorEq]; rfl) ?_
  try dsimp only [thenQ, blockQ]
  refine AW.cond rfl (fun c2 => ?_) (fun c2 => ?_)
  · have k2 := c2
    try simp only [decide_eq_true_eq, decide_eq_false_iff_not, bne_iff_ne, ne_eq, beq_iff_eq, beq_eq_false_iff_ne, bne_eq_false_iff_eq, Bool.not_eq_true', Bool.not_eq_false', Bool.and_eq_true, Bool.or_eq_true, Bool.and_eq_false_iff, Bool.or_eq_false_iff, Int.not_lt, Int.not_le, Int.toNat_natCast] at c2
    refine AW.seq ?_
    refine AW.region ?_
    refine AWL.q rfl rfl rfl (by decide) Qt.assign ?_
    refine AWL.nilE (by simp only [go_sem, Int.reduceToNat, Nat.reduceLT, reduceIte, Nat.reduceEqDiff, Nat.reduceAdd, Nat.reduceMul, Nat.reduceBEq, reduceCtorEq]; rfl) ?_
    try dsimp only [thenQ, blockQ]
    have hl0 : l = [] := List.eq_nil_of_length_eq_zero (hb1 c2)
    subst hl0
    refine AW.nilRow 2 900 1 (by omega) rfl rfl (by decide) ?_
    refine AW.rep 900 (tr ([] : List Int)) rfl sim_nil ?_
    refine AW.ret ?_
    try dsimp only [thenQ, blockQ]
    refine endQ_ret (.cons (.tmp 2) .nil) ?_
    refine ⟨fun _ => 900, rfl, nodup_of rfl, ?_⟩
    intro r hr
    cases List.mem_singleton.1 hr
    exact ⟨by simp, rootL_mem rfl⟩
  · have k2 := c2
    try simp only [decide_eq_true_eq, decide_eq_false_iff_not, bne_iff_ne, ne_eq, beq_iff_eq, beq_eq_false_iff_ne, bne_eq_false_iff_eq, Bool.not_eq_true', Bool.not_eq_false', Bool.and_eq_true, Bool.or_eq_true, Bool.and_eq_false_iff, Bool.or_eq_false_iff, Int.not_lt, Int.not_le, Int.toNat_natCast] at c2
    refine AW.skip ?_
    dsimp only [thenQ, blockQ]
    refine AW.seq ?_
    refine AW.region ?_
    refine AWL.step rfl rfl (Stp.buildSlice rfl (by decide) (by decide) rfl (by decide) rfl rfl rfl (nodup_of rfl)) ?_
    refine AWL.nrm (by simp only [go_sem, Int.reduceToNat, Nat.reduceLT, reduceIte, Nat.reduceEqDiff, Nat.reduceAdd, Nat.reduceMul, Nat.reduceBEq, reduceCtorEq]; rfl) ?_
    refine AWL.q rfl rfl rfl (by decide) Qt.move ?_
    refine AWL.step rfl rfl (by first | exact Stp.appendC rfl (by decide) (by decide) rfl rfl (by omega) | exact Stp.appendM rfl (by decide) (by decide) rfl rfl rfl (by omega)) ?_
    refine AWL.nrm (by simp only [go_sem, Int.reduceToNat, Nat.reduceLT, reduceIte, Nat.reduceEqDiff, Nat.reduceAdd, Nat.reduceMul, Nat.reduceBEq, reduceCtorEq]; rfl) ?_
    refine AWL.q rfl rfl rfl (by decide) Qt.assign ?_
    refine AWL.nilE (by simp only [go_sem, Int.reduceToNat, Nat.reduceLT, reduceIte, Nat.reduceEqDiff, Nat.reduceAdd, Nat.reduceMul, Nat.reduceBEq, reduceCtorEq]; rfl) ?_
    try dsimp only [thenQ, blockQ]
    refine AW.rep 7 (tr l) rfl (app_nil (α := Int)) ?_
    refine AW.ret ?_
    try dsimp only [thenQ, blockQ]
    refine endQ_ret (.cons (.tmp 2) .nil) ?_
    refine ⟨fun _ => 7, rfl, nodup_of rfl, ?_⟩
    intro r hr
    cases List.mem_singleton.1 hr
    exact ⟨by simp, rootL_mem rfl⟩
set_option maxHeartbeats 4000000 in
set_option maxRecDepth 10000 in
theorem cloneCpu_con (c : DCpu) (hs : c.Regs.length ≤ 4194304) : Con Try.prog 95 [.g [.v (iv c.Pc), .h base []]] [.rt base .ro (tr c.Regs)] (Ret (.g [.v (iv c.Pc), .h 0 []]) [(0, .row, tr c.Regs)]) := by
  refine Con.of_body Try.func95 rfl (by simp) ?_
  rw [Try.ntmps95]
  refine AW.seq ?_
  refine AW.region ?_
  refine AWL.step rfl rfl (Stp.boxB rfl (by decide) (by decide) rfl rfl rfl rfl) ?_
  refine AWL.nrm (by simp only [go_sem, Int.reduceToNat, Nat.reduceLT, reduceIte, Nat.reduceEqDiff, Nat.reduceAdd, Nat.reduceMul, Nat.reduceBEq, reduceCtorEq]; rfl) ?_
  refine AWL.step rfl rfl (Stp.alloc rfl (by decide) (by decide)) ?_
  refine AWL.nilE (by simp only [go_sem, Int.reduceToNat, Nat.reduceLT, reduceIte, Nat.reduceEqDiff, Nat.reduceAdd, Nat.reduceMul, Nat.reduceBEq, reduceCtorEq]; rfl) ?_
  try dsimp only [thenQ, blockQ]
  refine AW.seq ?_
  refine AW.draw [0, 1, 2, 3, 5] rfl (by decide +kernel) ?_
  refine AWA.take 0 rfl rfl rfl (by decide +kernel) (.on rfl rfl (Qt.fieldAddr rfl fl27_0 rfl rfl (by decide))) ?_
  refine AWA.nrm (by first | (simp only [go_sem, Int.reduceToNat, Nat.reduceLT, reduceIte, Nat.reduceEqDiff, Nat.reduceAdd, Nat.reduceMul, Nat.reduceBEq, reduceCtorEq]; rfl) | rfl) ?_
  refine AWA.take 1 rfl rfl rfl (by decide +kernel) (.on rfl rfl (Qt.load1 rfl rfl rfl ag3)) ?_
  refine AWA.take 2 rfl rfl rfl (by decide +kernel) (.on rfl rfl (Qt.fieldAddr rfl fl27_1 rfl rfl (by decide))) ?_
  refine AWA.take 3 rfl rfl rfl (by decide +kernel) (.on rfl rfl (Qt.load1 rfl rfl rfl ag22)) ?_
  refine AWA.nrm (by first | (simp only [go_sem, Int.reduceToNat, Nat.reduceLT, reduceIte, Nat.reduceEqDiff, Nat.reduceAdd, Nat.reduceMul, Nat.reduceBEq, reduceCtorEq]; rfl) | rfl) ?_
  refine AWA.one 4 [0, 1] [3, 2] (by decide +kernel) rfl rfl rfl (by decide +kernel) (by decide +kernel) (by decide +kernel) (Stp.callR rfl (by decide) Try.call113 rfl rfl (cloneI_con _ (by omega)) (nodup_of rfl) rfl rfl) ?_
  refine AWA.nrm (by first | (simp only [go_sem, Int.reduceToNat, Nat.reduceLT, reduceIte, Nat.reduceEqDiff, Nat.reduceAdd, Nat.reduceMul, Nat.reduceBEq, reduceCtorEq]; rfl) | rfl) ?_
  refine AWA.againE rfl rfl (by decide +kernel) (.on rfl rfl (Qt.fieldAddr rfl fl27_0 rfl rfl (by decide))) rfl ?_
  refine AWA.againE rfl rfl (by decide +kernel) (.on rfl rfl (Qt.load1 rfl rfl rfl ag3)) rfl ?_
  refine AWA.nrm (by first | (simp only [go_sem, Int.reduceToNat, Nat.reduceLT, reduceIte, Nat.reduceEqDiff, Nat.reduceAdd, Nat.reduceMul, Nat.reduceBEq, reduceCtorEq]; rfl) | rfl) ?_
  refine AWA.take 5 rfl rfl rfl (by decide +kernel) (.on rfl rfl (Qt.build rfl)) ?_
  refine AWA.one 6 [] [5, 4, 3, 2, 1, 0] (by decide +kernel) rfl rfl rfl (by decide +kernel) (by decide +kernel) (by decide +kernel) (by first | exact Stp.storeA rfl rfl rfl rfl (by decide) rfl | exact Stp.store rfl rfl (by simp) rfl rfl rfl (by decide) rfl) ?_
  refine AWA.nrm (by first | (simp only [go_sem, Int.reduceToNat, Nat.reduceLT, reduceIte, Nat.reduceEqDiff, Nat.reduceAdd, Nat.reduceMul, Nat.reduceBEq, reduceCtorEq]; rfl) | rfl) ?_
  refine AWA.nrm (by first | (simp only [go_sem, Int.reduceToNat, Nat.reduceLT, reduceIte, Nat.reduceEqDiff, Nat.reduceAdd, Nat.reduceMul, Nat.reduceBEq, reduceCtorEq]; rfl) | rfl) ?_
  refine AWA.nilE (by decide +kernel) (by first | (simp only [go_sem, Int.reduceToNat, Nat.reduceLT, reduceIte, Nat.reduceEqDiff, Nat.reduceAdd, Nat.reduceMul, Nat.reduceBEq, reduceCtorEq]; rfl) | rfl) ?_
  try dsimp only [thenQ, blockQ]
  refine AW.ret ?_
  try dsimp only [thenQ, blockQ]
  refine endQ_ret (.cons (.cellG 2 27 rfl rfl rfl ag27 sz27 (by decide)) .nil) ?_
  refine ⟨fun _ => 7, rfl, nodup_of rfl, ?_⟩
  intro r hr
  cases List.mem_singleton.1 hr
  exact ⟨by simp, rootL_mem rfl⟩
set_option maxHeartbeats 4000000 in
set_option maxRecDepth 10000 in
theorem ExecI_con (p : List DIns) (c : DCpu) (mem : List Int) : Con Try.prog 50 [.h base [], .g [.v (iv c.Pc), .h (base + 1) []], .h (base + 2) []] [.rt base .ro (tr p), .rt (base + 1) .ro (tr c.Regs), .rt (base + 2) .ro (tr mem)] (Ret (.t [.g [.v (iv (execM p c mem).1.Pc), .h 0 []], .g [.v (iv (execM p c mem).2.Kind), .v (iv (execM p c mem).2.Addr), .v (iv (execM p c mem).2.Val), .v (iv (execM p c mem).2.Sys)]]) [(0, .row, tr (execM p c mem).1.Regs)]) := by
  refine Con.of_body Try.func50 rfl (by simp) ?_
  rw [Try.ntmps50]
  refine AW.len base [] rfl (by simp [Okp]) rfl (fun hl => ?_)
  refine AW.len (base + 1) [] rfl (by simp [Okp]) rfl (fun hcl => ?_)
  refine AW.len (base + 2) [] rfl (by simp [Okp]) rfl (fun hml => ?_)
  refine AW.seq ?_
  refine AW.region ?_
  refine AWL.step rfl rfl (Stp.boxB rfl (by decide) (by decide) rfl rfl rfl rfl) ?_
  refine AWL.nrm (by simp only [go_sem, Int.reduceToNat, Nat.reduceLT, reduceIte, Nat.reduceEqDiff, Nat.reduceAdd, Nat.reduceMul, Nat.reduceBEq, reduceCtorEq]; rfl) ?_
  refine AWL.step rfl rfl (Stp.alloc rfl (by decide) (by decide)) ?_
  refine AWL.nrm (by simp only [go_sem, Int.reduceToNat, Nat.reduceLT, reduceIte, Nat.reduceEqDiff, Nat.reduceAdd, Nat.reduceMul, Nat.reduceBEq, reduceCtorEq]; rfl) ?_
  refine AWL.step rfl rfl (Stp.alloc rfl (by decide) (by decide)) ?_
  refine AWL.nilE (by simp only [go_sem, Int.reduceToNat, Nat.reduceLT, reduceIte, Nat.reduceEqDiff, Nat.reduceAdd, Nat.reduceMul, Nat.reduceBEq, reduceCtorEq]; rfl) ?_
  try dsimp only [thenQ, blockQ]
  refine AW.seq ?_
  refine AW.region ?_
  refine AWL.q rfl rfl rfl (by decide) (Qt.build rfl) ?_
  refine AWL.nrm (by simp only [go_sem, Int.reduceToNat, Nat.reduceLT, reduceIte, Nat.reduceEqDiff, Nat.reduceAdd, Nat.reduceMul, Nat.reduceBEq, reduceCtorEq]; rfl) ?_
  refine AWL.step rfl rfl (Stp.alloc rfl (by decide) (by decide)) ?_
  refine AWL.nrm (by simp only [go_sem, Int.reduceToNat, Nat.reduceLT, reduceIte, Nat.reduceEqDiff, Nat.reduceAdd, Nat.reduceMul, Nat.reduceBEq, reduceCtorEq]; rfl) ?_
  refine AWL.step rfl rfl (by first | exact Stp.storeA rfl rfl rfl rfl (by decide) rfl | exact Stp.store rfl rfl (by simp) rfl rfl rfl (by decide) rfl) ?_
  refine AWL.nilE (by simp only [go_sem, Int.reduceToNat, Nat.reduceLT, reduceIte, Nat.reduceEqDiff, Nat.reduceAdd, Nat.reduceMul, Nat.reduceBEq, reduceCtorEq]; rfl) ?_
  try dsimp only [thenQ, blockQ]
  refine AW.seq ?_
  refine AW.seq ?_
  refine AW.region ?_
  refine AWL.q rfl rfl rfl (by decide) Qt.move ?_
  refine AWL.nrm (by simp only [go_sem, Int.reduceToNat, Nat.reduceLT, reduceIte, Nat.reduceEqDiff, Nat.reduceAdd, Nat.reduceMul, Nat.reduceBEq, reduceCtorEq]; rfl) ?_
  refine AWL.step rfl rfl (Stp.callV rfl (by decide) Try.call27 rfl rfl (ProgOkI_con _)) ?_
  refine AWL.nrm (by simp only [go_sem, Int.reduceToNat, Nat.reduceLT, reduceIte, Nat.reduceEqDiff, Nat.reduceAdd, Nat.reduceMul, Nat.reduceBEq, reduceCtorEq]; rfl) ?_
  refine AWL.q rfl rfl rfl (by decide) (Qt.notB rfl) ?_
  refine AWL.q rfl rfl rfl (by decide) Qt.move ?_
  apply AWL.cut 3
  · intro Kg1
    refine AWL.splitF 18 rfl (fun g1 => ?_) (fun g1 => ?_)
    · refine AWL.q rfl (nF g1) rfl (by decide) (Qt.loadG rfl rfl rfl ag27 sz27 (by decide)) ?_
      refine AWL.step rfl (nF g1) (Stp.callV rfl (by decide) Try.call16 rfl rfl (CpuOkI_con _ _ hcl)) ?_
      refine AWL.nrm (by simp only [go_sem, Int.reduceToNat, Nat.reduceLT, reduceIte, Nat.reduceEqDiff, Nat.reduceAdd, Nat.reduceMul, Nat.reduceBEq, reduceCtorEq]; rfl) ?_
      refine AWL.q rfl (nF g1) rfl (by decide) (Qt.notB rfl) ?_
      exact AWL.weak (Weak.join (d := 21) (ds := [19, 20, 21]) rfl (ifF g1 _ undef) (by simp only [go_sem, Int.reduceToNat, Nat.reduceLT, reduceIte, Nat.reduceEqDiff, Nat.reduceAdd, Nat.reduceMul, Nat.reduceBEq, reduceCtorEq]; rfl)) Kg1
    · refine AWL.out rfl (nT g1) rfl (by decide) ?_
      refine AWL.out rfl (nT g1) rfl (by decide) ?_
      refine AWL.out rfl (nT g1) rfl (by decide) ?_
      exact AWL.weak (Weak.join (d := 21) (ds := [19, 20, 21]) rfl (ifT g1 undef _) (by simp only [go_sem, Int.reduceToNat, Nat.reduceLT, reduceIte, Nat.reduceEqDiff, Nat.reduceAdd, Nat.reduceMul, Nat.reduceBEq, reduceCtorEq])) Kg1
  refine AWL.q rfl rfl rfl (by decide) (Qt.pickOr rfl rfl rfl) ?_
  refine AWL.nrm (by simp only [go_sem, Int.reduceToNat, Nat.reduceLT, reduceIte, Nat.reduceEqDiff, Nat.reduceAdd, Nat.reduceMul, Nat.reduceBEq, reduceCtorEq]; rfl) ?_
  refine AWL.q rfl rfl rfl (by decide) Qt.move ?_
  apply AWL.cut 3
  · intro Kg2
    refine AWL.splitF 23 rfl (fun g2 => ?_) (fun g2 => ?_)
    · refine AWL.q rfl (nF g2) rfl (by decide) Qt.move ?_
      refine AWL.q rfl (nF g2) rfl (by decide) (Qt.lenH rfl rfl rfl sl22) ?_
      refine AWL.q rfl (nF g2) rfl (by decide) (Qt.binOp rfl rfl rfl) ?_
      exact AWL.weak (Weak.join (d := 26) (ds := [24, 25, 26]) rfl (ifF g2 _ undef) (by simp only [go_sem, Int.reduceToNat, Nat.reduceLT, reduceIte, Nat.reduceEqDiff, Nat.reduceAdd, Nat.reduceMul, Nat.reduceBEq, reduceCtorEq]; rfl)) Kg2
    · refine AWL.out rfl (nT g2) rfl (by decide) ?_
      refine AWL.out rfl (nT g2) rfl (by decide) ?_
      refine AWL.out rfl (nT g2) rfl (by decide) ?_
      exact AWL.weak (Weak.join (d := 26) (ds := [24, 25, 26]) rfl (ifT g2 undef _) (by simp only [go_sem, Int.reduceToNat, Nat.reduceLT, reduceIte, Nat.reduceEqDiff, Nat.reduceAdd, Nat.reduceMul, Nat.reduceBEq, reduceCtorEq])) Kg2
  refine AWL.q rfl rfl rfl (by decide) (Qt.pickOr rfl rfl rfl) ?_
  refine AWL.q rfl rfl rfl (by decide) Qt.move ?_
  refine AWL.nrm (by simp only [go_sem, Int.reduceToNat, Nat.reduceLT, reduceIte, Nat.reduceEqDiff, Nat.reduceAdd, Nat.reduceMul, Nat.reduceBEq, reduceCtorEq]; rfl) ?_
  apply AWL.cut 3
  · intro Kg3
    refine AWL.splitF 28 rfl (fun g3 => ?_) (fun g3 => ?_)
    · refine AWL.q rfl (nF g3) rfl (by decide) Qt.move ?_
      refine AWL.step rfl (nF g3) (Stp.callV rfl (by decide) Try.call64 rfl rfl (wordsOk_con _ hml)) ?_
      refine AWL.nrm (by simp only [go_sem, Int.reduceToNat, Nat.reduceLT, reduceIte, Nat.reduceEqDiff, Nat.reduceAdd, Nat.reduceMul, Nat.reduceBEq, reduceCtorEq]; rfl) ?_
      refine AWL.q rfl (nF g3) rfl (by decide) (Qt.notB rfl) ?_
      exact AWL.weak (Weak.join (d := 31) (ds := [29, 30, 31]) rfl (ifF g3 _ undef) (by simp only [go_sem, Int.reduceToNat, Nat.reduceLT, reduceIte, Nat.reduceEqDiff, Nat.reduceAdd, Nat.reduceMul, Nat.reduceBEq, reduceCtorEq]; rfl)) Kg3
    · refine AWL.out rfl (nT g3) rfl (by decide) ?_
      refine AWL.out rfl (nT g3) rfl (by decide) ?_
      refine AWL.out rfl (nT g3) rfl (by decide) ?_
      exact AWL.weak (Weak.join (d := 31) (ds := [29, 30, 31]) rfl (ifT g3 undef _) (by simp only [go_sem, Int.reduceToNat, Nat.reduceLT, reduceIte, Nat.reduceEqDiff, Nat.reduceAdd, Nat.reduceMul, Nat.reduceBEq, reduceCtorEq])) Kg3
  refine AWL.q rfl rfl rfl (by decide) (Qt.pickOr rfl rfl rfl) ?_
  refine AWL.nilE (by simp only [go_sem, Int.reduceToNat, Nat.reduceLT, reduceIte, Nat.reduceEqDiff, Nat.reduceAdd, Nat.reduceMul, Nat.reduceBEq, reduceCtorEq]; rfl) ?_
  try dsimp only [thenQ, blockQ]
  refine AW.cond rfl (fun c4 => ?_) (fun c4 => ?_)
  · have k4 := c4
    have hx : execOk p c mem = false := (execOk_eq p c mem).trans (congrArg not c4)
    have hm : execM p c mem = (⟨0, []⟩, didFault) := by unfold execM; rw [hx]; rfl
    refine AW.seq ?_
    refine AW.draw [0, 1] rfl (by decide +kernel) ?_
    refine AWA.take 0 rfl rfl rfl (by decide +kernel) (.on rfl rfl (Qt.build rfl)) ?_
    refine AWA.take 1 rfl rfl rfl (by decide +kernel) (.on rfl rfl (Qt.loadG rfl rfl rfl ag69 sz69 (by decide))) ?_
    refine AWA.nrm (by first | (simp only [go_sem, Int.reduceToNat, Nat.reduceLT, reduceIte, Nat.reduceEqDiff, Nat.reduceAdd, Nat.reduceMul, Nat.reduceBEq, reduceCtorEq]; rfl) | rfl) ?_
    refine AWA.one 2 [1] [0] (by decide +kernel) rfl rfl rfl (by decide +kernel) (by decide +kernel) (by decide +kernel) (by first | exact Stp.storeA rfl rfl rfl rfl (by decide) rfl | exact Stp.store rfl rfl (by simp) rfl rfl rfl (by decide) rfl) ?_
    refine AWA.nrm (by first | (simp only [go_sem, Int.reduceToNat, Nat.reduceLT, reduceIte, Nat.reduceEqDiff, Nat.reduceAdd, Nat.reduceMul, Nat.reduceBEq, reduceCtorEq]; rfl) | rfl) ?_
    refine AWA.againE rfl rfl (by decide +kernel) (.on rfl rfl (Qt.loadG rfl rfl rfl ag69 sz69 (by decide))) rfl ?_
    refine AWA.nrm (by first | (simp only [go_sem, Int.reduceToNat, Nat.reduceLT, reduceIte, Nat.reduceEqDiff, Nat.reduceAdd, Nat.reduceMul, Nat.reduceBEq, reduceCtorEq]; rfl) | rfl) ?_
    refine AWA.one 3 [] [2, 1, 0] (by decide +kernel) rfl rfl rfl (by decide +kernel) (by decide +kernel) (by decide +kernel) (by first | exact Stp.storeA rfl rfl rfl rfl (by decide) rfl | exact Stp.store rfl rfl (by simp) rfl rfl rfl (by decide) rfl) ?_
    refine AWA.nrm (by first | (simp only [go_sem, Int.reduceToNat, Nat.reduceLT, reduceIte, Nat.reduceEqDiff, Nat.reduceAdd, Nat.reduceMul, Nat.reduceBEq, reduceCtorEq]; rfl) | rfl) ?_
    refine AWA.nrm (by first | (simp only [go_sem, Int.reduceToNat, Nat.reduceLT, reduceIte, Nat.reduceEqDiff, Nat.reduceAdd, Nat.reduceMul, Nat.reduceBEq, reduceCtorEq]; rfl) | rfl) ?_
    refine AWA.nilE (by decide +kernel) (by first | (simp only [go_sem, Int.reduceToNat, Nat.reduceLT, reduceIte, Nat.reduceEqDiff, Nat.reduceAdd, Nat.reduceMul, Nat.reduceBEq, reduceCtorEq]; rfl) | rfl) ?_
    try dsimp only [thenQ, blockQ]
    refine AW.ext 6 1 900 rfl (by decide) rfl rfl (by decide) ?_
    refine AW.rep 900 (tr (execM p c mem).1.Regs) rfl (by rw [hm]; exact sim_nil) ?_
    refine AW.ret ?_
    try dsimp only [thenQ, blockQ]
    refine endQ_ret (.cons (.cellG 6 27 rfl rfl rfl ag27 sz27 (by decide)) (.cons (.cellG 7 69 rfl rfl rfl ag69 sz69 (by decide)) .nil)) ?_
    rw [hm]
    refine ⟨fun _ => 900, rfl, nodup_of rfl, ?_⟩
    intro r hr
    cases List.mem_singleton.1 hr
    exact ⟨by simp, rootL_mem rfl⟩
  · have k4 := c4
    have hx : execOk p c mem = true := (execOk_eq p c mem).trans (congrArg not c4)
    have hm : execM p c mem = execC p c mem := if_pos hx
    obtain ⟨hpc, hrl, hrr, hii⟩ := execFacts hx
    refine AW.skip ?_
    dsimp only [thenQ, blockQ]
    refine AW.seq ?_
    refine AW.seq ?_
    refine AW.region ?_
    refine AWL.q rfl rfl rfl (by decide) (Qt.fieldAddr rfl fl27_0 rfl rfl (by decide)) ?_
    refine AWL.q rfl rfl rfl (by decide) (Qt.load1 rfl rfl rfl ag3) ?_
    refine AWL.q rfl rfl rfl (by decide) Qt.move ?_
    refine AWL.nrm (by simp only [go_sem, Int.reduceToNat, Nat.reduceLT, reduceIte, Nat.reduceEqDiff, Nat.reduceAdd, Nat.reduceMul, Nat.reduceBEq, reduceCtorEq]; rfl) ?_
    refine AWL.q rfl rfl rfl (by decide) (Qt.lenH rfl rfl rfl sl41) ?_
    refine AWL.q rfl rfl rfl (by decide) (Qt.binOp rfl rfl rfl) ?_
    refine AWL.nilE (by simp only [go_sem, Int.reduceToNat, Nat.reduceLT, reduceIte, Nat.reduceEqDiff, Nat.reduceAdd, Nat.reduceMul, Nat.reduceBEq, reduceCtorEq]; rfl) ?_
    try dsimp only [thenQ, blockQ]
    refine AW.cond rfl (fun c5 => ?_) (fun c5 => ?_)
    · have k5 := c5
      try simp only [decide_eq_true_eq, decide_eq_false_iff_not, bne_iff_ne, ne_eq, beq_iff_eq, beq_eq_false_iff_ne, bne_eq_false_iff_eq, Bool.not_eq_true', Bool.not_eq_false', Bool.and_eq_true, Bool.or_eq_true, Bool.and_eq_false_iff, Bool.or_eq_false_iff, Int.not_lt, Int.not_le, Int.toNat_natCast] at c5
      refine AW.seq ?_
      refine AW.draw [0, 2] rfl (by decide +kernel) ?_
      refine AWA.take 0 rfl rfl rfl (by decide +kernel) (.on rfl rfl (Qt.loadG rfl rfl rfl ag27 sz27 (by decide))) ?_
      refine AWA.nrm (by first | (simp only [go_sem, Int.reduceToNat, Nat.reduceLT, reduceIte, Nat.reduceEqDiff, Nat.reduceAdd, Nat.reduceMul, Nat.reduceBEq, reduceCtorEq]; rfl) | rfl) ?_
      refine AWA.take 2 rfl rfl rfl (by decide +kernel) (.on rfl rfl (Qt.loadG rfl rfl rfl ag69 sz69 (by decide))) ?_
      refine AWA.one 1 [2] [0] (by decide +kernel) rfl rfl rfl (by decide +kernel) (by decide +kernel) (by decide +kernel) (Stp.callR rfl (by decide) Try.call95 rfl rfl (cloneCpu_con _ (by omega)) (nodup_of rfl) rfl rfl) ?_
      refine AWA.nrm (by first | (simp only [go_sem, Int.reduceToNat, Nat.reduceLT, reduceIte, Nat.reduceEqDiff, Nat.reduceAdd, Nat.reduceMul, Nat.reduceBEq, reduceCtorEq]; rfl) | rfl) ?_
      refine AWA.againE rfl rfl (by decide +kernel) (.on rfl rfl (Qt.loadG rfl rfl rfl ag69 sz69 (by decide))) rfl ?_
      refine AWA.nrm (by first | (simp only [go_sem, Int.reduceToNat, Nat.reduceLT, reduceIte, Nat.reduceEqDiff, Nat.reduceAdd, Nat.reduceMul, Nat.reduceBEq, reduceCtorEq]; rfl) | rfl) ?_
      refine AWA.one 3 [2] [1, 0] (by decide +kernel) rfl rfl rfl (by decide +kernel) (by decide +kernel) (by decide +kernel) (by first | exact Stp.storeA rfl rfl rfl rfl (by decide) rfl | exact Stp.store rfl rfl (by simp) rfl rfl rfl (by decide) rfl) ?_
      refine AWA.nrm (by first | (simp only [go_sem, Int.reduceToNat, Nat.reduceLT, reduceIte, Nat.reduceEqDiff, Nat.reduceAdd, Nat.reduceMul, Nat.reduceBEq, reduceCtorEq]; rfl) | rfl) ?_
      refine AWA.againE rfl rfl (by decide +kernel) (.on rfl rfl (Qt.loadG rfl rfl rfl ag69 sz69 (by decide))) rfl ?_
      refine AWA.nrm (by first | (simp only [go_sem, Int.reduceToNat, Nat.reduceLT, reduceIte, Nat.reduceEqDiff, Nat.reduceAdd, Nat.reduceMul, Nat.reduceBEq, reduceCtorEq]; rfl) | rfl) ?_
      refine AWA.one 4 [] [3, 2, 1, 0] (by decide +kernel) rfl rfl rfl (by decide +kernel) (by decide +kernel) (by decide +kernel) (by first | exact Stp.storeA rfl rfl rfl rfl (by decide) rfl | exact Stp.store rfl rfl (by simp) rfl rfl rfl (by decide) rfl) ?_
      refine AWA.nrm (by first | (simp only [go_sem, Int.reduceToNat, Nat.reduceLT, reduceIte, Nat.reduceEqDiff, Nat.reduceAdd, Nat.reduceMul, Nat.reduceBEq, reduceCtorEq]; rfl) | rfl) ?_
      refine AWA.nrm (by first | (simp only [go_sem, Int.reduceToNat, Nat.reduceLT, reduceIte, Nat.reduceEqDiff, Nat.reduceAdd, Nat.reduceMul, Nat.reduceBEq, reduceCtorEq]; rfl) | rfl) ?_
      refine AWA.nilE (by decide +kernel) (by first | (simp only [go_sem, Int.reduceToNat, Nat.reduceLT, reduceIte, Nat.reduceEqDiff, Nat.reduceAdd, Nat.reduceMul, Nat.reduceBEq, reduceCtorEq]; rfl) | rfl) ?_
      try dsimp only [thenQ, blockQ]
      refine AW.ret ?_
      try dsimp only [thenQ, blockQ]
      refine endQ_ret (.cons (.cellG 6 27 rfl rfl rfl ag27 sz27 (by decide)) (.cons (.cellG 7 69 rfl rfl rfl ag69 sz69 (by decide)) .nil)) ?_
      rw [hm, show execC p c mem = (c, didFault) from if_pos (by omega)]
      refine ⟨fun _ => 41, rfl, nodup_of rfl, ?_⟩
      intro r hr
      cases List.mem_singleton.1 hr
      exact ⟨by simp, rootL_mem rfl⟩
    · have k5 := c5
      try simp only [decide_eq_true_eq, decide_eq_false_iff_not, bne_iff_ne, ne_eq, beq_iff_eq, beq_eq_false_iff_ne, bne_eq_false_iff_eq, Bool.not_eq_true', Bool.not_eq_false', Bool.and_eq_true, Bool.or_eq_true, Bool.and_eq_false_iff, Bool.or_eq_false_iff, Int.not_lt, Int.not_le, Int.toNat_natCast] at c5
      have hi := hii c.Pc.toNat (by omega)
      obtain ⟨hop1, hop2, hA, hB, hC⟩ := insFacts hi
      have hRA := hrr (p.getD c.Pc.toNat En.dflt).A.toNat
      have hRB := hrr (p.getD c.Pc.toNat En.dflt).B.toNat
      have hRC := hrr (p.getD c.Pc.toNat En.dflt).C.toNat
      have hE : execC p c mem = core (p.getD c.Pc.toNat En.dflt) c mem := if_neg (by omega)
      refine AW.skip ?_
      dsimp only [thenQ, blockQ]
      refine AW.seq ?_
      refine AW.region ?_
      refine AWL.q rfl rfl rfl (by decide) Qt.move ?_
      refine AWL.q rfl rfl rfl (by decide) (Qt.fieldAddr rfl fl27_0 rfl rfl (by decide)) ?_
      refine AWL.q rfl rfl rfl (by decide) (Qt.load1 rfl rfl rfl ag3) ?_
      refine AWL.nrm (by simp only [go_sem, Int.reduceToNat, Nat.reduceLT, reduceIte, Nat.reduceEqDiff, Nat.reduceAdd, Nat.reduceMul, Nat.reduceBEq, reduceCtorEq]; rfl) ?_
      refine AWL.q rfl rfl rfl (by decide) (Qt.indexAddr rfl rfl rfl rfl sl41 sz74 (by decide) (by omega)) ?_
      refine AWL.q rfl rfl rfl (by decide) (Qt.loadG rfl rfl rfl ag74 sz74 (by decide)) ?_
      refine AWL.step rfl rfl (Stp.alloc rfl (by decide) (by decide)) ?_
      refine AWL.nrm (by simp only [go_sem, Int.reduceToNat, Nat.reduceLT, reduceIte, Nat.reduceEqDiff, Nat.reduceAdd, Nat.reduceMul, Nat.reduceBEq, reduceCtorEq]; rfl) ?_
      refine AWL.step rfl rfl (by first | exact Stp.storeA rfl rfl rfl rfl (by decide) rfl | exact Stp.store rfl rfl (by simp) rfl rfl rfl (by decide) rfl) ?_
      refine AWL.nilE (by simp only [go_sem, Int.reduceToNat, Nat.reduceLT, reduceIte, Nat.reduceEqDiff, Nat.reduceAdd, Nat.reduceMul, Nat.reduceBEq, reduceCtorEq]; rfl) ?_
      try dsimp only [thenQ, blockQ]
      refine AW.seq ?_
      refine AW.region ?_
      refine AWL.q rfl rfl rfl (by decide) (Qt.loadG rfl rfl rfl ag27 sz27 (by decide)) ?_
      refine AWL.nrm (by simp only [go_sem, Int.reduceToNat, Nat.reduceLT, reduceIte, Nat.reduceEqDiff, Nat.reduceAdd, Nat.reduceMul, Nat.reduceBEq, reduceCtorEq]; rfl) ?_
      refine AWL.step rfl rfl (Stp.callR rfl (by decide) Try.call95 rfl rfl (cloneCpu_con _ (by omega)) (nodup_of rfl) rfl rfl) ?_
      refine AWL.nrm (by simp only [go_sem, Int.reduceToNat, Nat.reduceLT, reduceIte, Nat.reduceEqDiff, Nat.reduceAdd, Nat.reduceMul, Nat.reduceBEq, reduceCtorEq]; rfl) ?_
      refine AWL.step rfl rfl (Stp.alloc rfl (by decide) (by decide)) ?_
      refine AWL.nrm (by simp only [go_sem, Int.reduceToNat, Nat.reduceLT, reduceIte, Nat.reduceEqDiff, Nat.reduceAdd, Nat.reduceMul, Nat.reduceBEq, reduceCtorEq]; rfl) ?_
      refine AWL.step rfl rfl (by first | exact Stp.storeA rfl rfl rfl rfl (by decide) rfl | exact Stp.store rfl rfl (by simp) rfl rfl rfl (by decide) rfl) ?_
      refine AWL.nilE (by simp only [go_sem, Int.reduceToNat, Nat.reduceLT, reduceIte, Nat.reduceEqDiff, Nat.reduceAdd, Nat.reduceMul, Nat.reduceBEq, reduceCtorEq]; rfl) ?_
      try dsimp only [thenQ, blockQ]
      refine AW.seq ?_
      refine AW.region ?_
      refine AWL.q rfl rfl rfl (by decide) (Qt.fieldAddr rfl fl27_0 rfl rfl (by decide)) ?_
      refine AWL.nrm (by simp only [go_sem, Int.reduceToNat, Nat.reduceLT, reduceIte, Nat.reduceEqDiff, Nat.reduceAdd, Nat.reduceMul, Nat.reduceBEq, reduceCtorEq]; rfl) ?_
      refine AWL.q rfl rfl rfl (by decide) (Qt.load1 rfl rfl rfl ag3) ?_
      refine AWL.q rfl rfl rfl (by decide) (Qt.binOp rfl rfl (by first | exact pbAdd (by omega) | rfl)) ?_
      refine AWL.q rfl rfl rfl (by decide) (Qt.fieldAddr rfl fl27_0 rfl rfl (by decide)) ?_
      refine AWL.nrm (by simp only [go_sem, Int.reduceToNat, Nat.reduceLT, reduceIte, Nat.reduceEqDiff, Nat.reduceAdd, Nat.reduceMul, Nat.reduceBEq, reduceCtorEq]; rfl) ?_
      refine AWL.step rfl rfl (by first | exact Stp.storeA rfl rfl rfl rfl (by decide) rfl | exact Stp.store rfl rfl (by simp) rfl rfl rfl (by decide) rfl) ?_
      refine AWL.nilE (by simp only [go_sem, Int.reduceToNat, Nat.reduceLT, reduceIte, Nat.reduceEqDiff, Nat.reduceAdd, Nat.reduceMul, Nat.reduceBEq, reduceCtorEq]; rfl) ?_
      try dsimp only [thenQ, blockQ]
      refine AW.seq ?_
      refine AW.region ?_
      refine AWL.q rfl rfl rfl (by decide) (Qt.build rfl) ?_
      refine AWL.nrm (by simp only [go_sem, Int.reduceToNat, Nat.reduceLT, reduceIte, Nat.reduceEqDiff, Nat.reduceAdd, Nat.reduceMul, Nat.reduceBEq, reduceCtorEq]; rfl) ?_
      refine AWL.step rfl rfl (Stp.alloc rfl (by decide) (by decide)) ?_
      refine AWL.nrm (by simp only [go_sem, Int.reduceToNat, Nat.reduceLT, reduceIte, Nat.reduceEqDiff, Nat.reduceAdd, Nat.reduceMul, Nat.reduceBEq, reduceCtorEq]; rfl) ?_
      refine AWL.step rfl rfl (by first | exact Stp.storeA rfl rfl rfl rfl (by decide) rfl | exact Stp.store rfl rfl (by simp) rfl rfl rfl (by decide) rfl) ?_
      refine AWL.nilE (by simp only [go_sem, Int.reduceToNat, Nat.reduceLT, reduceIte, Nat.reduceEqDiff, Nat.reduceAdd, Nat.reduceMul, Nat.reduceBEq, reduceCtorEq]; rfl) ?_
      try dsimp only [thenQ, blockQ]
      refine AW.seq ?_
      refine AW.seq ?_
      refine AW.region ?_
      refine AWL.q rfl rfl rfl (by decide) (Qt.fieldAddr rfl fl74_0 rfl rfl (by decide)) ?_
      refine AWL.nrm (by simp only [go_sem, Int.reduceToNat, Nat.reduceLT, reduceIte, Nat.reduceEqDiff, Nat.reduceAdd, Nat.reduceMul, Nat.reduceBEq, reduceCtorEq]; rfl) ?_
      refine AWL.q rfl rfl rfl (by decide) (Qt.load1 rfl rfl rfl ag3) ?_
      refine AWL.nilE (by simp only [go_sem, Int.reduceToNat, Nat.reduceLT, reduceIte, Nat.reduceEqDiff, Nat.reduceAdd, Nat.reduceMul, Nat.reduceBEq, reduceCtorEq]; rfl) ?_
      try dsimp only [thenQ, blockQ]
      refine AW.block ?_
      refine AW.seq ?_
      refine AW.region ?_
      refine AWL.q rfl rfl rfl (by decide) (Qt.binOp rfl rfl rfl) ?_
      refine AWL.q rfl rfl rfl (by decide) Qt.assign ?_
      refine AWL.nilE (by simp only [go_sem, Int.reduceToNat, Nat.reduceLT, reduceIte, Nat.reduceEqDiff, Nat.reduceAdd, Nat.reduceMul, Nat.reduceBEq, reduceCtorEq]; rfl) ?_
      try dsimp only [thenQ, blockQ]
      refine AW.cond rfl (fun c6 => ?_) (fun c6 => ?_)
      · have k6 := c6
        try simp only [decide_eq_true_eq, decide_eq_false_iff_not, bne_iff_ne, ne_eq, beq_iff_eq, beq_eq_false_iff_ne, bne_eq_false_iff_eq, Bool.not_eq_true', Bool.not_eq_false', Bool.and_eq_true, Bool.or_eq_true, Bool.and_eq_false_iff, Bool.or_eq_false_iff, Int.not_lt, Int.not_le, Int.toNat_natCast] at c6
        refine AW.region ?_
        refine AWL.q rfl rfl rfl (by decide) (Qt.fieldAddr rfl fl27_1 rfl rfl (by decide)) ?_
        refine AWL.nrm (by simp only [go_sem, Int.reduceToNat, Nat.reduceLT, reduceIte, Nat.reduceEqDiff, Nat.reduceAdd, Nat.reduceMul, Nat.reduceBEq, reduceCtorEq]; rfl) ?_
        refine AWL.q rfl rfl rfl (by decide) (Qt.load1 rfl rfl rfl ag22) ?_
        refine AWL.q rfl rfl rfl (by decide) (Qt.fieldAddr rfl fl74_1 rfl rfl (by decide)) ?_
        refine AWL.q rfl rfl rfl (by decide) (Qt.load1 rfl rfl rfl ag3) ?_
        refine AWL.nrm (by simp only [go_sem, Int.reduceToNat, Nat.reduceLT, reduceIte, Nat.reduceEqDiff, Nat.reduceAdd, Nat.reduceMul, Nat.reduceBEq, reduceCtorEq]; rfl) ?_
        refine AWL.q rfl rfl rfl (by decide) (Qt.fieldAddr rfl fl74_2 rfl rfl (by decide)) ?_
        refine AWL.q rfl rfl rfl (by decide) (Qt.load1 rfl rfl rfl ag3) ?_
        refine AWL.q rfl rfl rfl (by decide) (Qt.indexAddr rfl rfl rfl rfl sl22 sz3 (by decide) (by omega)) ?_
        refine AWL.nrm (by simp only [go_sem, Int.reduceToNat, Nat.reduceLT, reduceIte, Nat.reduceEqDiff, Nat.reduceAdd, Nat.reduceMul, Nat.reduceBEq, reduceCtorEq]; rfl) ?_
        refine AWL.step rfl rfl (by first | exact Stp.storeA rfl rfl rfl rfl (by decide) rfl | exact Stp.store rfl rfl (by simp) rfl rfl rfl (by decide) rfl) ?_
        refine AWL.nilE (by simp only [go_sem, Int.reduceToNat, Nat.reduceLT, reduceIte, Nat.reduceEqDiff, Nat.reduceAdd, Nat.reduceMul, Nat.reduceBEq, reduceCtorEq]; rfl) ?_
        try dsimp only [thenQ, blockQ]
        refine AW.seq ?_
        refine AW.draw [0, 1] rfl (by decide +kernel) ?_
        refine AWA.take 0 rfl rfl rfl (by decide +kernel) (.on rfl rfl (Qt.loadG rfl rfl rfl ag27 sz27 (by decide))) ?_
        refine AWA.nrm (by first | (simp only [go_sem, Int.reduceToNat, Nat.reduceLT, reduceIte, Nat.reduceEqDiff, Nat.reduceAdd, Nat.reduceMul, Nat.reduceBEq, reduceCtorEq]; rfl) | rfl) ?_
        refine AWA.take 1 rfl rfl rfl (by decide +kernel) (.on rfl rfl (Qt.loadG rfl rfl rfl ag69 sz69 (by decide))) ?_
        refine AWA.one 2 [1] [0] (by decide +kernel) rfl rfl rfl (by decide +kernel) (by decide +kernel) (by decide +kernel) (by first | exact Stp.storeA rfl rfl rfl rfl (by decide) rfl | exact Stp.store rfl rfl (by simp) rfl rfl rfl (by decide) rfl) ?_
        refine AWA.nrm (by first | (simp only [go_sem, Int.reduceToNat, Nat.reduceLT, reduceIte, Nat.reduceEqDiff, Nat.reduceAdd, Nat.reduceMul, Nat.reduceBEq, reduceCtorEq]; rfl) | rfl) ?_
        refine AWA.againE rfl rfl (by decide +kernel) (.on rfl rfl (Qt.loadG rfl rfl rfl ag69 sz69 (by decide))) rfl ?_
        refine AWA.nrm (by first | (simp only [go_sem, Int.reduceToNat, Nat.reduceLT, reduceIte, Nat.reduceEqDiff, Nat.reduceAdd, Nat.reduceMul, Nat.reduceBEq, reduceCtorEq]; rfl) | rfl) ?_
        refine AWA.one 3 [] [2, 1, 0] (by decide +kernel) rfl rfl rfl (by decide +kernel) (by decide +kernel) (by decide +kernel) (by first | exact Stp.storeA rfl rfl rfl rfl (by decide) rfl | exact Stp.store rfl rfl (by simp) rfl rfl rfl (by decide) rfl) ?_
        refine AWA.nrm (by first | (simp only [go_sem, Int.reduceToNat, Nat.reduceLT, reduceIte, Nat.reduceEqDiff, Nat.reduceAdd, Nat.reduceMul, Nat.reduceBEq, reduceCtorEq]; rfl) | rfl) ?_
        refine AWA.nrm (by first | (simp only [go_sem, Int.reduceToNat, Nat.reduceLT, reduceIte, Nat.reduceEqDiff, Nat.reduceAdd, Nat.reduceMul, Nat.reduceBEq, reduceCtorEq]; rfl) | rfl) ?_
        refine AWA.nilE (by decide +kernel) (by first | (simp only [go_sem, Int.reduceToNat, Nat.reduceLT, reduceIte, Nat.reduceEqDiff, Nat.reduceAdd, Nat.reduceMul, Nat.reduceBEq, reduceCtorEq]; rfl) | rfl) ?_
        try dsimp only [thenQ, blockQ]
        refine AW.rep 49 (tr (c.Regs.set (p.getD c.Pc.toNat En.dflt).A.toNat (p.getD c.Pc.toNat En.dflt).B)) rfl (set_sim (fun k c hk => by simp only [upd_app, hk, false_and, if_false]; try rfl) (fun c hc => match c, hc with | 0, _ => (by simp only [upd_app, eq_self, and_self, if_true]; exact T.sim_refl _) | c + 1, hc => absurd hc (by simp only [En.n]; omega))) ?_
        refine AW.ret ?_
        try dsimp only [thenQ, blockQ]
        refine endQ_ret (.cons (.cellG 6 27 rfl rfl rfl ag27 sz27 (by decide)) (.cons (.cellG 7 69 rfl rfl rfl ag69 sz69 (by decide)) .nil)) ?_
        rw [hm, show execC p c mem = (⟨c.Pc + 1, c.Regs.set (p.getD c.Pc.toNat En.dflt).A.toNat (p.getD c.Pc.toNat En.dflt).B⟩, didNone) from hE.trans (by unfold core; repeat (first | rw [if_pos (by omega)] | rw [if_neg (by omega)]))]
        refine ⟨fun _ => 49, rfl, nodup_of rfl, ?_⟩
        intro r hr
        cases List.mem_singleton.1 hr
        exact ⟨by simp, rootL_mem rfl⟩
      · have k6 := c6
        try simp only [decide_eq_true_eq, decide_eq_false_iff_not, bne_iff_ne, ne_eq, beq_iff_eq, beq_eq_false_iff_ne, bne_eq_false_iff_eq, Bool.not_eq_true', Bool.not_eq_false', Bool.and_eq_true, Bool.or_eq_true, Bool.and_eq_false_iff, Bool.or_eq_false_iff, Int.not_lt, Int.not_le, Int.toNat_natCast] at c6
        refine AW.seq ?_
        refine AW.seq ?_
        refine AW.region ?_
        refine AWL.q rfl rfl rfl (by decide) (Qt.binOp rfl rfl rfl) ?_
        refine AWL.q rfl rfl rfl (by decide) Qt.assign ?_
        refine AWL.nilE (by simp only [go_sem, Int.reduceToNat, Nat.reduceLT, reduceIte, Nat.reduceEqDiff, Nat.reduceAdd, Nat.reduceMul, Nat.reduceBEq, reduceCtorEq]; rfl) ?_
        try dsimp only [thenQ, blockQ]
        refine AW.cond rfl (fun c7 => ?_) (fun c7 => ?_)
        · have k7 := c7
          try simp only [decide_eq_true_eq, decide_eq_false_iff_not, bne_iff_ne, ne_eq, beq_iff_eq, beq_eq_false_iff_ne, bne_eq_false_iff_eq, Bool.not_eq_true', Bool.not_eq_false', Bool.and_eq_true, Bool.or_eq_true, Bool.and_eq_false_iff, Bool.or_eq_false_iff, Int.not_lt, Int.not_le, Int.toNat_natCast] at c7
          refine AW.skip ?_
          dsimp only [thenQ, blockQ]
          refine AW.condT rfl k7 ?_
          refine AW.seq ?_
          refine AW.draw [0, 1, 2, 3, 4, 5, 6, 7, 8, 9, 10, 11, 12, 13] rfl (by decide +kernel) ?_
          refine AWA.take 0 rfl rfl rfl (by decide +kernel) (.on rfl rfl (Qt.fieldAddr rfl fl27_1 rfl rfl (by decide))) ?_
          refine AWA.nrm (by first | (simp only [go_sem, Int.reduceToNat, Nat.reduceLT, reduceIte, Nat.reduceEqDiff, Nat.reduceAdd, Nat.reduceMul, Nat.reduceBEq, reduceCtorEq]; rfl) | rfl) ?_
          refine AWA.take 1 rfl rfl rfl (by decide +kernel) (.on rfl rfl (Qt.load1 rfl rfl rfl ag22)) ?_
          refine AWA.take 2 rfl rfl rfl (by decide +kernel) (.on rfl rfl (Qt.fieldAddr rfl fl74_2 rfl rfl (by decide))) ?_
          refine AWA.take 3 rfl rfl rfl (by decide +kernel) (.on rfl rfl (Qt.load1 rfl rfl rfl ag3)) ?_
          refine AWA.nrm (by first | (simp only [go_sem, Int.reduceToNat, Nat.reduceLT, reduceIte, Nat.reduceEqDiff, Nat.reduceAdd, Nat.reduceMul, Nat.reduceBEq, reduceCtorEq]; rfl) | rfl) ?_
          refine AWA.take 4 rfl rfl rfl (by decide +kernel) (.on rfl rfl (Qt.indexAddr rfl rfl rfl rfl sl22 sz3 (by decide) (by omega))) ?_
          refine AWA.take 5 rfl rfl rfl (by decide +kernel) (.on rfl rfl (Qt.load1 rfl rfl rfl ag3)) ?_
          refine AWA.take 6 rfl rfl rfl (by decide +kernel) (.on rfl rfl (Qt.fieldAddr rfl fl27_1 rfl rfl (by decide))) ?_
          refine AWA.nrm (by first | (simp only [go_sem, Int.reduceToNat, Nat.reduceLT, reduceIte, Nat.reduceEqDiff, Nat.reduceAdd, Nat.reduceMul, Nat.reduceBEq, reduceCtorEq]; rfl) | rfl) ?_
          refine AWA.take 7 rfl rfl rfl (by decide +kernel) (.on rfl rfl (Qt.load1 rfl rfl rfl ag22)) ?_
          refine AWA.take 8 rfl rfl rfl (by decide +kernel) (.on rfl rfl (Qt.fieldAddr rfl fl74_3 rfl rfl (by decide))) ?_
          refine AWA.take 9 rfl rfl rfl (by decide +kernel) (.on rfl rfl (Qt.load1 rfl rfl rfl ag3)) ?_
          refine AWA.nrm (by first | (simp only [go_sem, Int.reduceToNat, Nat.reduceLT, reduceIte, Nat.reduceEqDiff, Nat.reduceAdd, Nat.reduceMul, Nat.reduceBEq, reduceCtorEq]; rfl) | rfl) ?_
          refine AWA.take 10 rfl rfl rfl (by decide +kernel) (.on rfl rfl (Qt.indexAddr rfl rfl rfl rfl sl22 sz3 (by decide) (by omega))) ?_
          refine AWA.take 11 rfl rfl rfl (by decide +kernel) (.on rfl rfl (Qt.load1 rfl rfl rfl ag3)) ?_
          refine AWA.take 12 rfl rfl rfl (by decide +kernel) (.on rfl rfl (Qt.binOp rfl rfl (by first | exact pbAdd (by omega) | rfl))) ?_
          refine AWA.nrm (by first | (simp only [go_sem, Int.reduceToNat, Nat.reduceLT, reduceIte, Nat.reduceEqDiff, Nat.reduceAdd, Nat.reduceMul, Nat.reduceBEq, reduceCtorEq]; rfl) | rfl) ?_
          refine AWA.take 13 rfl rfl rfl (by decide +kernel) (.on rfl rfl Qt.assign) ?_
          refine AWA.nilE (by decide +kernel) (by first | (simp only [go_sem, Int.reduceToNat, Nat.reduceLT, reduceIte, Nat.reduceEqDiff, Nat.reduceAdd, Nat.reduceMul, Nat.reduceBEq, reduceCtorEq]; rfl) | rfl) ?_
          try dsimp only [thenQ, blockQ]
          refine AW.seq ?_
          refine AW.seq ?_
          refine AW.region ?_
          refine AWL.q rfl rfl rfl (by decide) (Qt.fieldAddr rfl fl74_0 rfl rfl (by decide)) ?_
          refine AWL.q rfl rfl rfl (by decide) (Qt.load1 rfl rfl rfl ag3) ?_
          refine AWL.nrm (by simp only [go_sem, Int.reduceToNat, Nat.reduceLT, reduceIte, Nat.reduceEqDiff, Nat.reduceAdd, Nat.reduceMul, Nat.reduceBEq, reduceCtorEq]; rfl) ?_
          refine AWL.q rfl rfl rfl (by decide) (Qt.binOp rfl rfl rfl) ?_
          refine AWL.nilE (by simp only [go_sem, Int.reduceToNat, Nat.reduceLT, reduceIte, Nat.reduceEqDiff, Nat.reduceAdd, Nat.reduceMul, Nat.reduceBEq, reduceCtorEq]; rfl) ?_
          try dsimp only [thenQ, blockQ]
          refine AW.cond rfl (fun c8 => ?_) (fun c8 => ?_)
          · have k8 := c8
            try simp only [decide_eq_true_eq, decide_eq_false_iff_not, bne_iff_ne, ne_eq, beq_iff_eq, beq_eq_false_iff_ne, bne_eq_false_iff_eq, Bool.not_eq_true', Bool.not_eq_false', Bool.and_eq_true, Bool.or_eq_true, Bool.and_eq_false_iff, Bool.or_eq_false_iff, Int.not_lt, Int.not_le, Int.toNat_natCast] at c8
            refine AW.draw [0, 1, 2, 3, 4, 5, 6, 7, 8, 9, 10, 11, 12, 13] rfl (by decide +kernel) ?_
            refine AWA.take 0 rfl rfl rfl (by decide +kernel) (.on rfl rfl (Qt.fieldAddr rfl fl27_1 rfl rfl (by decide))) ?_
            refine AWA.take 1 rfl rfl rfl (by decide +kernel) (.on rfl rfl (Qt.load1 rfl rfl rfl ag22)) ?_
            refine AWA.nrm (by first | (simp only [go_sem, Int.reduceToNat, Nat.reduceLT, reduceIte, Nat.reduceEqDiff, Nat.reduceAdd, Nat.reduceMul, Nat.reduceBEq, reduceCtorEq]; rfl) | rfl) ?_
            refine AWA.take 2 rfl rfl rfl (by decide +kernel) (.on rfl rfl (Qt.fieldAddr rfl fl74_2 rfl rfl (by decide))) ?_
            refine AWA.take 3 rfl rfl rfl (by decide +kernel) (.on rfl rfl (Qt.load1 rfl rfl rfl ag3)) ?_
            refine AWA.take 4 rfl rfl rfl (by decide +kernel) (.on rfl rfl (Qt.indexAddr rfl rfl rfl rfl sl22 sz3 (by decide) (by omega))) ?_
            refine AWA.nrm (by first | (simp only [go_sem, Int.reduceToNat, Nat.reduceLT, reduceIte, Nat.reduceEqDiff, Nat.reduceAdd, Nat.reduceMul, Nat.reduceBEq, reduceCtorEq]; rfl) | rfl) ?_
            refine AWA.take 5 rfl rfl rfl (by decide +kernel) (.on rfl rfl (Qt.load1 rfl rfl rfl ag3)) ?_
            refine AWA.take 6 rfl rfl rfl (by decide +kernel) (.on rfl rfl (Qt.fieldAddr rfl fl27_1 rfl rfl (by decide))) ?_
            refine AWA.take 7 rfl rfl rfl (by decide +kernel) (.on rfl rfl (Qt.load1 rfl rfl rfl ag22)) ?_
            refine AWA.nrm (by first | (simp only [go_sem, Int.reduceToNat, Nat.reduceLT, reduceIte, Nat.reduceEqDiff, Nat.reduceAdd, Nat.reduceMul, Nat.reduceBEq, reduceCtorEq]; rfl) | rfl) ?_
            refine AWA.take 8 rfl rfl rfl (by decide +kernel) (.on rfl rfl (Qt.fieldAddr rfl fl74_3 rfl rfl (by decide))) ?_
            refine AWA.take 9 rfl rfl rfl (by decide +kernel) (.on rfl rfl (Qt.load1 rfl rfl rfl ag3)) ?_
            refine AWA.take 10 rfl rfl rfl (by decide +kernel) (.on rfl rfl (Qt.indexAddr rfl rfl rfl rfl sl22 sz3 (by decide) (by omega))) ?_
            refine AWA.nrm (by first | (simp only [go_sem, Int.reduceToNat, Nat.reduceLT, reduceIte, Nat.reduceEqDiff, Nat.reduceAdd, Nat.reduceMul, Nat.reduceBEq, reduceCtorEq]; rfl) | rfl) ?_
            refine AWA.take 11 rfl rfl rfl (by decide +kernel) (.on rfl rfl (Qt.load1 rfl rfl rfl ag3)) ?_
            refine AWA.take 12 rfl rfl rfl (by decide +kernel) (.on rfl rfl (Qt.binOp rfl rfl (by first | exact pbSub (by omega) | rfl))) ?_
            refine AWA.take 13 rfl rfl rfl (by decide +kernel) (.on rfl rfl Qt.assign) ?_
            refine AWA.nrm (by first | (simp only [go_sem, Int.reduceToNat, Nat.reduceLT, reduceIte, Nat.reduceEqDiff, Nat.reduceAdd, Nat.reduceMul, Nat.reduceBEq, reduceCtorEq]; rfl) | rfl) ?_
            refine AWA.nilE (by decide +kernel) (by first | (simp only [go_sem, Int.reduceToNat, Nat.reduceLT, reduceIte, Nat.reduceEqDiff, Nat.reduceAdd, Nat.reduceMul, Nat.reduceBEq, reduceCtorEq]; rfl) | rfl) ?_
            try dsimp only [thenQ, blockQ]
            refine AW.seq ?_
            refine AW.seq ?_
            refine AW.region ?_
            refine AWL.q rfl rfl rfl (by decide) Qt.move ?_
            refine AWL.step rfl rfl (Stp.callV rfl (by decide) Try.call96 rfl rfl (isWord_con _)) ?_
            refine AWL.nrm (by simp only [go_sem, Int.reduceToNat, Nat.reduceLT, reduceIte, Nat.reduceEqDiff, Nat.reduceAdd, Nat.reduceMul, Nat.reduceBEq, reduceCtorEq]; rfl) ?_
            refine AWL.q rfl rfl rfl (by decide) (Qt.notB rfl) ?_
            refine AWL.nilE (by simp only [go_sem, Int.reduceToNat, Nat.reduceLT, reduceIte, Nat.reduceEqDiff, Nat.reduceAdd, Nat.reduceMul, Nat.reduceBEq, reduceCtorEq]; rfl) ?_
            try dsimp only [thenQ, blockQ]
            refine AW.cond rfl (fun c9 => ?_) (fun c9 => ?_)
            · have k9 := c9
              try simp only [decide_eq_true_eq, decide_eq_false_iff_not, bne_iff_ne, ne_eq, beq_iff_eq, beq_eq_false_iff_ne, bne_eq_false_iff_eq, Bool.not_eq_true', Bool.not_eq_false', Bool.and_eq_true, Bool.or_eq_true, Bool.and_eq_false_iff, Bool.or_eq_false_iff, Int.not_lt, Int.not_le, Int.toNat_natCast] at c9
              refine AW.seq ?_
              refine AW.draw [0, 2] rfl (by decide +kernel) ?_
              refine AWA.take 0 rfl rfl rfl (by decide +kernel) (.on rfl rfl (Qt.loadG rfl rfl rfl ag27 sz27 (by decide))) ?_
              refine AWA.take 2 rfl rfl rfl (by decide +kernel) (.on rfl rfl (Qt.loadG rfl rfl rfl ag69 sz69 (by decide))) ?_
              refine AWA.nrm (by first | (simp only [go_sem, Int.reduceToNat, Nat.reduceLT, reduceIte, Nat.reduceEqDiff, Nat.reduceAdd, Nat.reduceMul, Nat.reduceBEq, reduceCtorEq]; rfl) | rfl) ?_
              refine AWA.one 1 [2] [0] (by decide +kernel) rfl rfl rfl (by decide +kernel) (by decide +kernel) (by decide +kernel) (Stp.callR rfl (by decide) Try.call95 rfl rfl (cloneCpu_con _ (by omega)) (nodup_of rfl) rfl rfl) ?_
              refine AWA.nrm (by first | (simp only [go_sem, Int.reduceToNat, Nat.reduceLT, reduceIte, Nat.reduceEqDiff, Nat.reduceAdd, Nat.reduceMul, Nat.reduceBEq, reduceCtorEq]; rfl) | rfl) ?_
              refine AWA.againE rfl rfl (by decide +kernel) (.on rfl rfl (Qt.loadG rfl rfl rfl ag69 sz69 (by decide))) rfl ?_
              refine AWA.nrm (by first | (simp only [go_sem, Int.reduceToNat, Nat.reduceLT, reduceIte, Nat.reduceEqDiff, Nat.reduceAdd, Nat.reduceMul, Nat.reduceBEq, reduceCtorEq]; rfl) | rfl) ?_
              refine AWA.one 3 [2] [1, 0] (by decide +kernel) rfl rfl rfl (by decide +kernel) (by decide +kernel) (by decide +kernel) (by first | exact Stp.storeA rfl rfl rfl rfl (by decide) rfl | exact Stp.store rfl rfl (by simp) rfl rfl rfl (by decide) rfl) ?_
              refine AWA.nrm (by first | (simp only [go_sem, Int.reduceToNat, Nat.reduceLT, reduceIte, Nat.reduceEqDiff, Nat.reduceAdd, Nat.reduceMul, Nat.reduceBEq, reduceCtorEq]; rfl) | rfl) ?_
              refine AWA.againE rfl rfl (by decide +kernel) (.on rfl rfl (Qt.loadG rfl rfl rfl ag69 sz69 (by decide))) rfl ?_
              refine AWA.nrm (by first | (simp only [go_sem, Int.reduceToNat, Nat.reduceLT, reduceIte, Nat.reduceEqDiff, Nat.reduceAdd, Nat.reduceMul, Nat.reduceBEq, reduceCtorEq]; rfl) | rfl) ?_
              refine AWA.one 4 [] [3, 2, 1, 0] (by decide +kernel) rfl rfl rfl (by decide +kernel) (by decide +kernel) (by decide +kernel) (by first | exact Stp.storeA rfl rfl rfl rfl (by decide) rfl | exact Stp.store rfl rfl (by simp) rfl rfl rfl (by decide) rfl) ?_
              refine AWA.nrm (by first | (simp only [go_sem, Int.reduceToNat, Nat.reduceLT, reduceIte, Nat.reduceEqDiff, Nat.reduceAdd, Nat.reduceMul, Nat.reduceBEq, reduceCtorEq]; rfl) | rfl) ?_
              refine AWA.nrm (by first | (simp only [go_sem, Int.reduceToNat, Nat.reduceLT, reduceIte, Nat.reduceEqDiff, Nat.reduceAdd, Nat.reduceMul, Nat.reduceBEq, reduceCtorEq]; rfl) | rfl) ?_
              refine AWA.nilE (by decide +kernel) (by first | (simp only [go_sem, Int.reduceToNat, Nat.reduceLT, reduceIte, Nat.reduceEqDiff, Nat.reduceAdd, Nat.reduceMul, Nat.reduceBEq, reduceCtorEq]; rfl) | rfl) ?_
              try dsimp only [thenQ, blockQ]
              refine AW.ret ?_
              try dsimp only [thenQ, blockQ]
              refine endQ_ret (.cons (.cellG 6 27 rfl rfl rfl ag27 sz27 (by decide)) (.cons (.cellG 7 69 rfl rfl rfl ag69 sz69 (by decide)) .nil)) ?_
              exfalso; omega
            · have k9 := c9
              try simp only [decide_eq_true_eq, decide_eq_false_iff_not, bne_iff_ne, ne_eq, beq_iff_eq, beq_eq_false_iff_ne, bne_eq_false_iff_eq, Bool.not_eq_true', Bool.not_eq_false', Bool.and_eq_true, Bool.or_eq_true, Bool.and_eq_false_iff, Bool.or_eq_false_iff, Int.not_lt, Int.not_le, Int.toNat_natCast] at c9
              refine AW.skip ?_
              dsimp only [thenQ, blockQ]
              refine AW.region ?_
              refine AWL.q rfl rfl rfl (by decide) (Qt.fieldAddr rfl fl27_1 rfl rfl (by decide)) ?_
              refine AWL.q rfl rfl rfl (by decide) (Qt.load1 rfl rfl rfl ag22) ?_
              refine AWL.q rfl rfl rfl (by decide) (Qt.fieldAddr rfl fl74_1 rfl rfl (by decide)) ?_
              refine AWL.nrm (by simp only [go_sem, Int.reduceToNat, Nat.reduceLT, reduceIte, Nat.reduceEqDiff, Nat.reduceAdd, Nat.reduceMul, Nat.reduceBEq, reduceCtorEq]; rfl) ?_
              refine AWL.q rfl rfl rfl (by decide) (Qt.load1 rfl rfl rfl ag3) ?_
              refine AWL.q rfl rfl rfl (by decide) Qt.move ?_
              refine AWL.q rfl rfl rfl (by decide) (Qt.indexAddr rfl rfl rfl rfl sl22 sz3 (by decide) (by omega)) ?_
              refine AWL.nrm (by simp only [go_sem, Int.reduceToNat, Nat.reduceLT, reduceIte, Nat.reduceEqDiff, Nat.reduceAdd, Nat.reduceMul, Nat.reduceBEq, reduceCtorEq]; rfl) ?_
              refine AWL.step rfl rfl (by first | exact Stp.storeA rfl rfl rfl rfl (by decide) rfl | exact Stp.store rfl rfl (by simp) rfl rfl rfl (by decide) rfl) ?_
              refine AWL.nilE (by simp only [go_sem, Int.reduceToNat, Nat.reduceLT, reduceIte, Nat.reduceEqDiff, Nat.reduceAdd, Nat.reduceMul, Nat.reduceBEq, reduceCtorEq]; rfl) ?_
              try dsimp only [thenQ, blockQ]
              refine AW.seq ?_
              refine AW.draw [0, 1] rfl (by decide +kernel) ?_
              refine AWA.take 0 rfl rfl rfl (by decide +kernel) (.on rfl rfl (Qt.loadG rfl rfl rfl ag27 sz27 (by decide))) ?_
              refine AWA.nrm (by first | (simp only [go_sem, Int.reduceToNat, Nat.reduceLT, reduceIte, Nat.reduceEqDiff, Nat.reduceAdd, Nat.reduceMul, Nat.reduceBEq, reduceCtorEq]; rfl) | rfl) ?_
              refine AWA.take 1 rfl rfl rfl (by decide +kernel) (.on rfl rfl (Qt.loadG rfl rfl rfl ag69 sz69 (by decide))) ?_
              refine AWA.one 2 [1] [0] (by decide +kernel) rfl rfl rfl (by decide +kernel) (by decide +kernel) (by decide +kernel) (by first | exact Stp.storeA rfl rfl rfl rfl (by decide) rfl | exact Stp.store rfl rfl (by simp) rfl rfl rfl (by decide) rfl) ?_
              refine AWA.nrm (by first | (simp only [go_sem, Int.reduceToNat, Nat.reduceLT, reduceIte, Nat.reduceEqDiff, Nat.reduceAdd, Nat.reduceMul, Nat.reduceBEq, reduceCtorEq]; rfl) | rfl) ?_
              refine AWA.againE rfl rfl (by decide +kernel) (.on rfl rfl (Qt.loadG rfl rfl rfl ag69 sz69 (by decide))) rfl ?_
              refine AWA.nrm (by first | (simp only [go_sem, Int.reduceToNat, Nat.reduceLT, reduceIte, Nat.reduceEqDiff, Nat.reduceAdd, Nat.reduceMul, Nat.reduceBEq, reduceCtorEq]; rfl) | rfl) ?_
              refine AWA.one 3 [] [2, 1, 0] (by decide +kernel) rfl rfl rfl (by decide +kernel) (by decide +kernel) (by decide +kernel) (by first | exact Stp.storeA rfl rfl rfl rfl (by decide) rfl | exact Stp.store rfl rfl (by simp) rfl rfl rfl (by decide) rfl) ?_
              refine AWA.nrm (by first | (simp only [go_sem, Int.reduceToNat, Nat.reduceLT, reduceIte, Nat.reduceEqDiff, Nat.reduceAdd, Nat.reduceMul, Nat.reduceBEq, reduceCtorEq]; rfl) | rfl) ?_
              refine AWA.nrm (by first | (simp only [go_sem, Int.reduceToNat, Nat.reduceLT, reduceIte, Nat.reduceEqDiff, Nat.reduceAdd, Nat.reduceMul, Nat.reduceBEq, reduceCtorEq]; rfl) | rfl) ?_
              refine AWA.nilE (by decide +kernel) (by first | (simp only [go_sem, Int.reduceToNat, Nat.reduceLT, reduceIte, Nat.reduceEqDiff, Nat.reduceAdd, Nat.reduceMul, Nat.reduceBEq, reduceCtorEq]; rfl) | rfl) ?_
              try dsimp only [thenQ, blockQ]
              refine AW.ret ?_
              try dsimp only [thenQ, blockQ]
              refine endQ_ret (.cons (.cellG 6 27 rfl rfl rfl ag27 sz27 (by decide)) (.cons (.cellG 7 69 rfl rfl rfl ag69 sz69 (by decide)) .nil)) ?_
              exfalso; omega
          · have k8 := c8
            try simp only [decide_eq_true_eq, decide_eq_false_iff_not, bne_iff_ne, ne_eq, beq_iff_eq, beq_eq_false_iff_ne, bne_eq_false_iff_eq, Bool.not_eq_true', Bool.not_eq_false', Bool.and_eq_true, Bool.or_eq_true, Bool.and_eq_false_iff, Bool.or_eq_false_iff, Int.not_lt, Int.not_le, Int.toNat_natCast] at c8
            refine AW.skip ?_
            dsimp only [thenQ, blockQ]
            refine AW.seq ?_
            refine AW.seq ?_
            refine AW.region ?_
            refine AWL.q rfl rfl rfl (by decide) Qt.move ?_
            refine AWL.step rfl rfl (Stp.callV rfl (by decide) Try.call96 rfl rfl (isWord_con _)) ?_
            refine AWL.nrm (by simp only [go_sem, Int.reduceToNat, Nat.reduceLT, reduceIte, Nat.reduceEqDiff, Nat.reduceAdd, Nat.reduceMul, Nat.reduceBEq, reduceCtorEq]; rfl) ?_
            refine AWL.q rfl rfl rfl (by decide) (Qt.notB rfl) ?_
            refine AWL.nilE (by simp only [go_sem, Int.reduceToNat, Nat.reduceLT, reduceIte, Nat.reduceEqDiff, Nat.reduceAdd, Nat.reduceMul, Nat.reduceBEq, reduceCtorEq]; rfl) ?_
            try dsimp only [thenQ, blockQ]
            refine AW.cond rfl (fun c10 => ?_) (fun c10 => ?_)
            · have k10 := c10
              try simp only [decide_eq_true_eq, decide_eq_false_iff_not, bne_iff_ne, ne_eq, beq_iff_eq, beq_eq_false_iff_ne, bne_eq_false_iff_eq, Bool.not_eq_true', Bool.not_eq_false', Bool.and_eq_true, Bool.or_eq_true, Bool.and_eq_false_iff, Bool.or_eq_false_iff, Int.not_lt, Int.not_le, Int.toNat_natCast] at c10
              refine AW.seq ?_
              refine AW.draw [0, 2] rfl (by decide +kernel) ?_
              refine AWA.take 0 rfl rfl rfl (by decide +kernel) (.on rfl rfl (Qt.loadG rfl rfl rfl ag27 sz27 (by decide))) ?_
              refine AWA.take 2 rfl rfl rfl (by decide +kernel) (.on rfl rfl (Qt.loadG rfl rfl rfl ag69 sz69 (by decide))) ?_
              refine AWA.nrm (by first | (simp only [go_sem, Int.reduceToNat, Nat.reduceLT, reduceIte, Nat.reduceEqDiff, Nat.reduceAdd, Nat.reduceMul, Nat.reduceBEq, reduceCtorEq]; rfl) | rfl) ?_
              refine AWA.one 1 [2] [0] (by decide +kernel) rfl rfl rfl (by decide +kernel) (by decide +kernel) (by decide +kernel) (Stp.callR rfl (by decide) Try.call95 rfl rfl (cloneCpu_con _ (by omega)) (nodup_of rfl) rfl rfl) ?_
              refine AWA.nrm (by first | (simp only [go_sem, Int.reduceToNat, Nat.reduceLT, reduceIte, Nat.reduceEqDiff, Nat.reduceAdd, Nat.reduceMul, Nat.reduceBEq, reduceCtorEq]; rfl) | rfl) ?_
              refine AWA.againE rfl rfl (by decide +kernel) (.on rfl rfl (Qt.loadG rfl rfl rfl ag69 sz69 (by decide))) rfl ?_
              refine AWA.nrm (by first | (simp only [go_sem, Int.reduceToNat, Nat.reduceLT, reduceIte, Nat.reduceEqDiff, Nat.reduceAdd, Nat.reduceMul, Nat.reduceBEq, reduceCtorEq]; rfl) | rfl) ?_
              refine AWA.one 3 [2] [1, 0] (by decide +kernel) rfl rfl rfl (by decide +kernel) (by decide +kernel) (by decide +kernel) (by first | exact Stp.storeA rfl rfl rfl rfl (by decide) rfl | exact Stp.store rfl rfl (by simp) rfl rfl rfl (by decide) rfl) ?_
              refine AWA.nrm (by first | (simp only [go_sem, Int.reduceToNat, Nat.reduceLT, reduceIte, Nat.reduceEqDiff, Nat.reduceAdd, Nat.reduceMul, Nat.reduceBEq, reduceCtorEq]; rfl) | rfl) ?_
              refine AWA.againE rfl rfl (by decide +kernel) (.on rfl rfl (Qt.loadG rfl rfl rfl ag69 sz69 (by decide))) rfl ?_
              refine AWA.nrm (by first | (simp only [go_sem, Int.reduceToNat, Nat.reduceLT, reduceIte, Nat.reduceEqDiff, Nat.reduceAdd, Nat.reduceMul, Nat.reduceBEq, reduceCtorEq]; rfl) | rfl) ?_
              refine AWA.one 4 [] [3, 2, 1, 0] (by decide +kernel) rfl rfl rfl (by decide +kernel) (by decide +kernel) (by decide +kernel) (by first | exact Stp.storeA rfl rfl rfl rfl (by decide) rfl | exact Stp.store rfl rfl (by simp) rfl rfl rfl (by decide) rfl) ?_
              refine AWA.nrm (by first | (simp only [go_sem, Int.reduceToNat, Nat.reduceLT, reduceIte, Nat.reduceEqDiff, Nat.reduceAdd, Nat.reduceMul, Nat.reduceBEq, reduceCtorEq]; rfl) | rfl) ?_
              refine AWA.nrm (by first | (simp only [go_sem, Int.reduceToNat, Nat.reduceLT, reduceIte, Nat.reduceEqDiff, Nat.reduceAdd, Nat.reduceMul, Nat.reduceBEq, reduceCtorEq]; rfl) | rfl) ?_
              refine AWA.nilE (by decide +kernel) (by first | (simp only [go_sem, Int.reduceToNat, Nat.reduceLT, reduceIte, Nat.reduceEqDiff, Nat.reduceAdd, Nat.reduceMul, Nat.reduceBEq, reduceCtorEq]; rfl) | rfl) ?_
              try dsimp only [thenQ, blockQ]
              refine AW.ret ?_
              try dsimp only [thenQ, blockQ]
              refine endQ_ret (.cons (.cellG 6 27 rfl rfl rfl ag27 sz27 (by decide)) (.cons (.cellG 7 69 rfl rfl rfl ag69 sz69 (by decide)) .nil)) ?_
              rw [hm, show execC p c mem = (c, didFault) from hE.trans (by unfold core; repeat (first | rw [if_pos (by omega)] | rw [if_neg (by omega)]))]
              refine ⟨fun _ => 102, rfl, nodup_of rfl, ?_⟩
              intro r hr
              cases List.mem_singleton.1 hr
              exact ⟨by simp, rootL_mem rfl⟩
            · have k10 := c10
              try simp only [decide_eq_true_eq, decide_eq_false_iff_not, bne_iff_ne, ne_eq, beq_iff_eq, beq_eq_false_iff_ne, bne_eq_false_iff_eq, Bool.not_eq_true', Bool.not_eq_false', Bool.and_eq_true, Bool.or_eq_true, Bool.and_eq_false_iff, Bool.or_eq_false_iff, Int.not_lt, Int.not_le, Int.toNat_natCast] at c10
              refine AW.skip ?_
              dsimp only [thenQ, blockQ]
              refine AW.region ?_
              refine AWL.q rfl rfl rfl (by decide) (Qt.fieldAddr rfl fl27_1 rfl rfl (by decide)) ?_
              refine AWL.q rfl rfl rfl (by decide) (Qt.load1 rfl rfl rfl ag22) ?_
              refine AWL.q rfl rfl rfl (by decide) (Qt.fieldAddr rfl fl74_1 rfl rfl (by decide)) ?_
              refine AWL.nrm (by simp only [go_sem, Int.reduceToNat, Nat.reduceLT, reduceIte, Nat.reduceEqDiff, Nat.reduceAdd, Nat.reduceMul, Nat.reduceBEq, reduceCtorEq]; rfl) ?_
              refine AWL.q rfl rfl rfl (by decide) (Qt.load1 rfl rfl rfl ag3) ?_
              refine AWL.q rfl rfl rfl (by decide) Qt.move ?_
              refine AWL.q rfl rfl rfl (by decide) (Qt.indexAddr rfl rfl rfl rfl sl22 sz3 (by decide) (by omega)) ?_
              refine AWL.nrm (by simp only [go_sem, Int.reduceToNat, Nat.reduceLT, reduceIte, Nat.reduceEqDiff, Nat.reduceAdd, Nat.reduceMul, Nat.reduceBEq, reduceCtorEq]; rfl) ?_
              refine AWL.step rfl rfl (by first | exact Stp.storeA rfl rfl rfl rfl (by decide) rfl | exact Stp.store rfl rfl (by simp) rfl rfl rfl (by decide) rfl) ?_
              refine AWL.nilE (by simp only [go_sem, Int.reduceToNat, Nat.reduceLT, reduceIte, Nat.reduceEqDiff, Nat.reduceAdd, Nat.reduceMul, Nat.reduceBEq, reduceCtorEq]; rfl) ?_
              try dsimp only [thenQ, blockQ]
              refine AW.seq ?_
              refine AW.draw [0, 1] rfl (by decide +kernel) ?_
              refine AWA.take 0 rfl rfl rfl (by decide +kernel) (.on rfl rfl (Qt.loadG rfl rfl rfl ag27 sz27 (by decide))) ?_
              refine AWA.nrm (by first | (simp only [go_sem, Int.reduceToNat, Nat.reduceLT, reduceIte, Nat.reduceEqDiff, Nat.reduceAdd, Nat.reduceMul, Nat.reduceBEq, reduceCtorEq]; rfl) | rfl) ?_
              refine AWA.take 1 rfl rfl rfl (by decide +kernel) (.on rfl rfl (Qt.loadG rfl rfl rfl ag69 sz69 (by decide))) ?_
              refine AWA.one 2 [1] [0] (by decide +kernel) rfl rfl rfl (by decide +kernel) (by decide +kernel) (by decide +kernel) (by first | exact Stp.storeA rfl rfl rfl rfl (by decide) rfl | exact Stp.store rfl rfl (by simp) rfl rfl rfl (by decide) rfl) ?_
              refine AWA.nrm (by first | (simp only [go_sem, Int.reduceToNat, Nat.reduceLT, reduceIte, Nat.reduceEqDiff, Nat.reduceAdd, Nat.reduceMul, Nat.reduceBEq, reduceCtorEq]; rfl) | rfl) ?_
              refine AWA.againE rfl rfl (by decide +kernel) (.on rfl rfl (Qt.loadG rfl rfl rfl ag69 sz69 (by decide))) rfl ?_
              refine AWA.nrm (by first | (simp only [go_sem, Int.reduceToNat, Nat.reduceLT, reduceIte, Nat.reduceEqDiff, Nat.reduceAdd, Nat.reduceMul, Nat.reduceBEq, reduceCtorEq]; rfl) | rfl) ?_
              refine AWA.one 3 [] [2, 1, 0] (by decide +kernel) rfl rfl rfl (by decide +kernel) (by decide +kernel) (by decide +kernel) (by first | exact Stp.storeA rfl rfl rfl rfl (by decide) rfl | exact Stp.store rfl rfl (by simp) rfl rfl rfl (by decide) rfl) ?_
              refine AWA.nrm (by first | (simp only [go_sem, Int.reduceToNat, Nat.reduceLT, reduceIte, Nat.reduceEqDiff, Nat.reduceAdd, Nat.reduceMul, Nat.reduceBEq, reduceCtorEq]; rfl) | rfl) ?_
              refine AWA.nrm (by first | (simp only [go_sem, Int.reduceToNat, Nat.reduceLT, reduceIte, Nat.reduceEqDiff, Nat.reduceAdd, Nat.reduceMul, Nat.reduceBEq, reduceCtorEq]; rfl) | rfl) ?_
              refine AWA.nilE (by decide +kernel) (by first | (simp only [go_sem, Int.reduceToNat, Nat.reduceLT, reduceIte, Nat.reduceEqDiff, Nat.reduceAdd, Nat.reduceMul, Nat.reduceBEq, reduceCtorEq]; rfl) | rfl) ?_
              try dsimp only [thenQ, blockQ]
              refine AW.rep 49 (tr (c.Regs.set (p.getD c.Pc.toNat En.dflt).A.toNat ((c.Regs.getD (p.getD c.Pc.toNat En.dflt).B.toNat En.dflt) + (c.Regs.getD (p.getD c.Pc.toNat En.dflt).C.toNat En.dflt)))) rfl (set_sim (fun k c hk => by simp only [upd_app, hk, false_and, if_false]; try rfl) (fun c hc => match c, hc with | 0, _ => (by simp only [upd_app, eq_self, and_self, if_true]; exact T.sim_refl _) | c + 1, hc => absurd hc (by simp only [En.n]; omega))) ?_
              refine AW.ret ?_
              try dsimp only [thenQ, blockQ]
              refine endQ_ret (.cons (.cellG 6 27 rfl rfl rfl ag27 sz27 (by decide)) (.cons (.cellG 7 69 rfl rfl rfl ag69 sz69 (by decide)) .nil)) ?_
              rw [hm, show execC p c mem = (⟨c.Pc + 1, c.Regs.set (p.getD c.Pc.toNat En.dflt).A.toNat ((c.Regs.getD (p.getD c.Pc.toNat En.dflt).B.toNat En.dflt) + (c.Regs.getD (p.getD c.Pc.toNat En.dflt).C.toNat En.dflt))⟩, didNone) from hE.trans (by unfold core; repeat (first | rw [if_pos (by omega)] | rw [if_neg (by omega)]))]
              refine ⟨fun _ => 49, rfl, nodup_of rfl, ?_⟩
              intro r hr
              cases List.mem_singleton.1 hr
              exact ⟨by simp, rootL_mem rfl⟩
        · have k7 := c7
          try simp only [decide_eq_true_eq, decide_eq_false_iff_not, bne_iff_ne, ne_eq, beq_iff_eq, beq_eq_false_iff_ne, bne_eq_false_iff_eq, Bool.not_eq_true', Bool.not_eq_false', Bool.and_eq_true, Bool.or_eq_true, Bool.and_eq_false_iff, Bool.or_eq_false_iff, Int.not_lt, Int.not_le, Int.toNat_natCast] at c7
          refine AW.region ?_
          refine AWL.q rfl rfl rfl (by decide) (Qt.binOp rfl rfl rfl) ?_
          refine AWL.q rfl rfl rfl (by decide) Qt.assign ?_
          refine AWL.nilE (by simp only [go_sem, Int.reduceToNat, Nat.reduceLT, reduceIte, Nat.reduceEqDiff, Nat.reduceAdd, Nat.reduceMul, Nat.reduceBEq, reduceCtorEq]; rfl) ?_
          try dsimp only [thenQ, blockQ]
          refine AW.cond rfl (fun c11 => ?_) (fun c11 => ?_)
          · have k11 := c11
            try simp only [decide_eq_true_eq, decide_eq_false_iff_not, bne_iff_ne, ne_eq, beq_iff_eq, beq_eq_false_iff_ne, bne_eq_false_iff_eq, Bool.not_eq_true', Bool.not_eq_false', Bool.and_eq_true, Bool.or_eq_true, Bool.and_eq_false_iff, Bool.or_eq_false_iff, Int.not_lt, Int.not_le, Int.toNat_natCast] at c11
            refine AW.seq ?_
            refine AW.draw [0, 1, 2, 3, 4, 5, 6, 7, 8, 9, 10, 11, 12, 13] rfl (by decide +kernel) ?_
            refine AWA.take 0 rfl rfl rfl (by decide +kernel) (.on rfl rfl (Qt.fieldAddr rfl fl27_1 rfl rfl (by decide))) ?_
            refine AWA.nrm (by first | (simp only [go_sem, Int.reduceToNat, Nat.reduceLT, reduceIte, Nat.reduceEqDiff, Nat.reduceAdd, Nat.reduceMul, Nat.reduceBEq, reduceCtorEq]; rfl) | rfl) ?_
            refine AWA.take 1 rfl rfl rfl (by decide +kernel) (.on rfl rfl (Qt.load1 rfl rfl rfl ag22)) ?_
            refine AWA.take 2 rfl rfl rfl (by decide +kernel) (.on rfl rfl (Qt.fieldAddr rfl fl74_2 rfl rfl (by decide))) ?_
            refine AWA.take 3 rfl rfl rfl (by decide +kernel) (.on rfl rfl (Qt.load1 rfl rfl rfl ag3)) ?_
            refine AWA.nrm (by first | (simp only [go_sem, Int.reduceToNat, Nat.reduceLT, reduceIte, Nat.reduceEqDiff, Nat.reduceAdd, Nat.reduceMul, Nat.reduceBEq, reduceCtorEq]; rfl) | rfl) ?_
            refine AWA.take 4 rfl rfl rfl (by decide +kernel) (.on rfl rfl (Qt.indexAddr rfl rfl rfl rfl sl22 sz3 (by decide) (by omega))) ?_
            refine AWA.take 5 rfl rfl rfl (by decide +kernel) (.on rfl rfl (Qt.load1 rfl rfl rfl ag3)) ?_
            refine AWA.take 6 rfl rfl rfl (by decide +kernel) (.on rfl rfl (Qt.fieldAddr rfl fl27_1 rfl rfl (by decide))) ?_
            refine AWA.nrm (by first | (simp only [go_sem, Int.reduceToNat, Nat.reduceLT, reduceIte, Nat.reduceEqDiff, Nat.reduceAdd, Nat.reduceMul, Nat.reduceBEq, reduceCtorEq]; rfl) | rfl) ?_
            refine AWA.take 7 rfl rfl rfl (by decide +kernel) (.on rfl rfl (Qt.load1 rfl rfl rfl ag22)) ?_
            refine AWA.take 8 rfl rfl rfl (by decide +kernel) (.on rfl rfl (Qt.fieldAddr rfl fl74_3 rfl rfl (by decide))) ?_
            refine AWA.take 9 rfl rfl rfl (by decide +kernel) (.on rfl rfl (Qt.load1 rfl rfl rfl ag3)) ?_
            refine AWA.nrm (by first | (simp only [go_sem, Int.reduceToNat, Nat.reduceLT, reduceIte, Nat.reduceEqDiff, Nat.reduceAdd, Nat.reduceMul, Nat.reduceBEq, reduceCtorEq]; rfl) | rfl) ?_
            refine AWA.take 10 rfl rfl rfl (by decide +kernel) (.on rfl rfl (Qt.indexAddr rfl rfl rfl rfl sl22 sz3 (by decide) (by omega))) ?_
            refine AWA.take 11 rfl rfl rfl (by decide +kernel) (.on rfl rfl (Qt.load1 rfl rfl rfl ag3)) ?_
            refine AWA.take 12 rfl rfl rfl (by decide +kernel) (.on rfl rfl (Qt.binOp rfl rfl (by first | exact pbAdd (by omega) | rfl))) ?_
            refine AWA.nrm (by first | (simp only [go_sem, Int.reduceToNat, Nat.reduceLT, reduceIte, Nat.reduceEqDiff, Nat.reduceAdd, Nat.reduceMul, Nat.reduceBEq, reduceCtorEq]; rfl) | rfl) ?_
            refine AWA.take 13 rfl rfl rfl (by decide +kernel) (.on rfl rfl Qt.assign) ?_
            refine AWA.nilE (by decide +kernel) (by first | (simp only [go_sem, Int.reduceToNat, Nat.reduceLT, reduceIte, Nat.reduceEqDiff, Nat.reduceAdd, Nat.reduceMul, Nat.reduceBEq, reduceCtorEq]; rfl) | rfl) ?_
            try dsimp only [thenQ, blockQ]
            refine AW.seq ?_
            refine AW.seq ?_
            refine AW.region ?_
            refine AWL.q rfl rfl rfl (by decide) (Qt.fieldAddr rfl fl74_0 rfl rfl (by decide)) ?_
            refine AWL.q rfl rfl rfl (by decide) (Qt.load1 rfl rfl rfl ag3) ?_
            refine AWL.nrm (by simp only [go_sem, Int.reduceToNat, Nat.reduceLT, reduceIte, Nat.reduceEqDiff, Nat.reduceAdd, Nat.reduceMul, Nat.reduceBEq, reduceCtorEq]; rfl) ?_
            refine AWL.q rfl rfl rfl (by decide) (Qt.binOp rfl rfl rfl) ?_
            refine AWL.nilE (by simp only [go_sem, Int.reduceToNat, Nat.reduceLT, reduceIte, Nat.reduceEqDiff, Nat.reduceAdd, Nat.reduceMul, Nat.reduceBEq, reduceCtorEq]; rfl) ?_
            try dsimp only [thenQ, blockQ]
            refine AW.cond rfl (fun c12 => ?_) (fun c12 => ?_)
            · have k12 := c12
              try simp only [decide_eq_true_eq, decide_eq_false_iff_not, bne_iff_ne, ne_eq, beq_iff_eq, beq_eq_false_iff_ne, bne_eq_false_iff_eq, Bool.not_eq_true', Bool.not_eq_false', Bool.and_eq_true, Bool.or_eq_true, Bool.and_eq_false_iff, Bool.or_eq_false_iff, Int.not_lt, Int.not_le, Int.toNat_natCast] at c12
              refine AW.draw [0, 1, 2, 3, 4, 5, 6, 7, 8, 9, 10, 11, 12, 13] rfl (by decide +kernel) ?_
              refine AWA.take 0 rfl rfl rfl (by decide +kernel) (.on rfl rfl (Qt.fieldAddr rfl fl27_1 rfl rfl (by decide))) ?_
              refine AWA.take 1 rfl rfl rfl (by decide +kernel) (.on rfl rfl (Qt.load1 rfl rfl rfl ag22)) ?_
              refine AWA.nrm (by first | (simp only [go_sem, Int.reduceToNat, Nat.reduceLT, reduceIte, Nat.reduceEqDiff, Nat.reduceAdd, Nat.reduceMul, Nat.reduceBEq, reduceCtorEq]; rfl) | rfl) ?_
              refine AWA.take 2 rfl rfl rfl (by decide +kernel) (.on rfl rfl (Qt.fieldAddr rfl fl74_2 rfl rfl (by decide))) ?_
              refine AWA.take 3 rfl rfl rfl (by decide +kernel) (.on rfl rfl (Qt.load1 rfl rfl rfl ag3)) ?_
              refine AWA.take 4 rfl rfl rfl (by decide +kernel) (.on rfl rfl (Qt.indexAddr rfl rfl rfl rfl sl22 sz3 (by decide) (by omega))) ?_
              refine AWA.nrm (by first | (simp only [go_sem, Int.reduceToNat, Nat.reduceLT, reduceIte, Nat.reduceEqDiff, Nat.reduceAdd, Nat.reduceMul, Nat.reduceBEq, reduceCtorEq]; rfl) | rfl) ?_
              refine AWA.take 5 rfl rfl rfl (by decide +kernel) (.on rfl rfl (Qt.load1 rfl rfl rfl ag3)) ?_
              refine AWA.take 6 rfl rfl rfl (by decide +kernel) (.on rfl rfl (Qt.fieldAddr rfl fl27_1 rfl rfl (by decide))) ?_
              refine AWA.take 7 rfl rfl rfl (by decide +kernel) (.on rfl rfl (Qt.load1 rfl rfl rfl ag22)) ?_
              refine AWA.nrm (by first | (simp only [go_sem, Int.reduceToNat, Nat.reduceLT, reduceIte, Nat.reduceEqDiff, Nat.reduceAdd, Nat.reduceMul, Nat.reduceBEq, reduceCtorEq]; rfl) | rfl) ?_
              refine AWA.take 8 rfl rfl rfl (by decide +kernel) (.on rfl rfl (Qt.fieldAddr rfl fl74_3 rfl rfl (by decide))) ?_
              refine AWA.take 9 rfl rfl rfl (by decide +kernel) (.on rfl rfl (Qt.load1 rfl rfl rfl ag3)) ?_
              refine AWA.take 10 rfl rfl rfl (by decide +kernel) (.on rfl rfl (Qt.indexAddr rfl rfl rfl rfl sl22 sz3 (by decide) (by omega))) ?_
              refine AWA.nrm (by first | (simp only [go_sem, Int.reduceToNat, Nat.reduceLT, reduceIte, Nat.reduceEqDiff, Nat.reduceAdd, Nat.reduceMul, Nat.reduceBEq, reduceCtorEq]; rfl) | rfl) ?_
              refine AWA.take 11 rfl rfl rfl (by decide +kernel) (.on rfl rfl (Qt.load1 rfl rfl rfl ag3)) ?_
              refine AWA.take 12 rfl rfl rfl (by decide +kernel) (.on rfl rfl (Qt.binOp rfl rfl (by first | exact pbSub (by omega) | rfl))) ?_
              refine AWA.take 13 rfl rfl rfl (by decide +kernel) (.on rfl rfl Qt.assign) ?_
              refine AWA.nrm (by first | (simp only [go_sem, Int.reduceToNat, Nat.reduceLT, reduceIte, Nat.reduceEqDiff, Nat.reduceAdd, Nat.reduceMul, Nat.reduceBEq, reduceCtorEq]; rfl) | rfl) ?_
              refine AWA.nilE (by decide +kernel) (by first | (simp only [go_sem, Int.reduceToNat, Nat.reduceLT, reduceIte, Nat.reduceEqDiff, Nat.reduceAdd, Nat.reduceMul, Nat.reduceBEq, reduceCtorEq]; rfl) | rfl) ?_
              try dsimp only [thenQ, blockQ]
              refine AW.seq ?_
              refine AW.seq ?_
              refine AW.region ?_
              refine AWL.q rfl rfl rfl (by decide) Qt.move ?_
              refine AWL.step rfl rfl (Stp.callV rfl (by decide) Try.call96 rfl rfl (isWord_con _)) ?_
              refine AWL.nrm (by simp only [go_sem, Int.reduceToNat, Nat.reduceLT, reduceIte, Nat.reduceEqDiff, Nat.reduceAdd, Nat.reduceMul, Nat.reduceBEq, reduceCtorEq]; rfl) ?_
              refine AWL.q rfl rfl rfl (by decide) (Qt.notB rfl) ?_
              refine AWL.nilE (by simp only [go_sem, Int.reduceToNat, Nat.reduceLT, reduceIte, Nat.reduceEqDiff, Nat.reduceAdd, Nat.reduceMul, Nat.reduceBEq, reduceCtorEq]; rfl) ?_
              try dsimp only [thenQ, blockQ]
              refine AW.cond rfl (fun c13 => ?_) (fun c13 => ?_)
              · have k13 := c13
                try simp only [decide_eq_true_eq, decide_eq_false_iff_not, bne_iff_ne, ne_eq, beq_iff_eq, beq_eq_false_iff_ne, bne_eq_false_iff_eq, Bool.not_eq_true', Bool.not_eq_false', Bool.and_eq_true, Bool.or_eq_true, Bool.and_eq_false_iff, Bool.or_eq_false_iff, Int.not_lt, Int.not_le, Int.toNat_natCast] at c13
                refine AW.seq ?_
                refine AW.draw [0, 2] rfl (by decide +kernel) ?_
                refine AWA.take 0 rfl rfl rfl (by decide +kernel) (.on rfl rfl (Qt.loadG rfl rfl rfl ag27 sz27 (by decide))) ?_
                refine AWA.take 2 rfl rfl rfl (by decide +kernel) (.on rfl rfl (Qt.loadG rfl rfl rfl ag69 sz69 (by decide))) ?_
                refine AWA.nrm (by first | (simp only [go_sem, Int.reduceToNat, Nat.reduceLT, reduceIte, Nat.reduceEqDiff, Nat.reduceAdd, Nat.reduceMul, Nat.reduceBEq, reduceCtorEq]; rfl) | rfl) ?_
                refine AWA.one 1 [2] [0] (by decide +kernel) rfl rfl rfl (by decide +kernel) (by decide +kernel) (by decide +kernel) (Stp.callR rfl (by decide) Try.call95 rfl rfl (cloneCpu_con _ (by omega)) (nodup_of rfl) rfl rfl) ?_
                refine AWA.nrm (by first | (simp only [go_sem, Int.reduceToNat, Nat.reduceLT, reduceIte, Nat.reduceEqDiff, Nat.reduceAdd, Nat.reduceMul, Nat.reduceBEq, reduceCtorEq]; rfl) | rfl) ?_
                refine AWA.againE rfl rfl (by decide +kernel) (.on rfl rfl (Qt.loadG rfl rfl rfl ag69 sz69 (by decide))) rfl ?_
                refine AWA.nrm (by first | (simp only [go_sem, Int.reduceToNat, Nat.reduceLT, reduceIte, Nat.reduceEqDiff, Nat.reduceAdd, Nat.reduceMul, Nat.reduceBEq, reduceCtorEq]; rfl) | rfl) ?_
                refine AWA.one 3 [2] [1, 0] (by decide +kernel) rfl rfl rfl (by decide +kernel) (by decide +kernel) (by decide +kernel) (by first | exact Stp.storeA rfl rfl rfl rfl (by decide) rfl | exact Stp.store rfl rfl (by simp) rfl rfl rfl (by decide) rfl) ?_
                refine AWA.nrm (by first | (simp only [go_sem, Int.reduceToNat, Nat.reduceLT, reduceIte, Nat.reduceEqDiff, Nat.reduceAdd, Nat.reduceMul, Nat.reduceBEq, reduceCtorEq]; rfl) | rfl) ?_
                refine AWA.againE rfl rfl (by decide +kernel) (.on rfl rfl (Qt.loadG rfl rfl rfl ag69 sz69 (by decide))) rfl ?_
                refine AWA.nrm (by first | (simp only [go_sem, Int.reduceToNat, Nat.reduceLT, reduceIte, Nat.reduceEqDiff, Nat.reduceAdd, Nat.reduceMul, Nat.reduceBEq, reduceCtorEq]; rfl) | rfl) ?_
                refine AWA.one 4 [] [3, 2, 1, 0] (by decide +kernel) rfl rfl rfl (by decide +kernel) (by decide +kernel) (by decide +kernel) (by first | exact Stp.storeA rfl rfl rfl rfl (by decide) rfl | exact Stp.store rfl rfl (by simp) rfl rfl rfl (by decide) rfl) ?_
                refine AWA.nrm (by first | (simp only [go_sem, Int.reduceToNat, Nat.reduceLT, reduceIte, Nat.reduceEqDiff, Nat.reduceAdd, Nat.reduceMul, Nat.reduceBEq, reduceCtorEq]; rfl) | rfl) ?_
                refine AWA.nrm (by first | (simp only [go_sem, Int.reduceToNat, Nat.reduceLT, reduceIte, Nat.reduceEqDiff, Nat.reduceAdd, Nat.reduceMul, Nat.reduceBEq, reduceCtorEq]; rfl) | rfl) ?_
                refine AWA.nilE (by decide +kernel) (by first | (simp only [go_sem, Int.reduceToNat, Nat.reduceLT, reduceIte, Nat.reduceEqDiff, Nat.reduceAdd, Nat.reduceMul, Nat.reduceBEq, reduceCtorEq]; rfl) | rfl) ?_
                try dsimp only [thenQ, blockQ]
                refine AW.ret ?_
                try dsimp only [thenQ, blockQ]
                refine endQ_ret (.cons (.cellG 6 27 rfl rfl rfl ag27 sz27 (by decide)) (.cons (.cellG 7 69 rfl rfl rfl ag69 sz69 (by decide)) .nil)) ?_
                rw [hm, show execC p c mem = (c, didFault) from hE.trans (by unfold core; repeat (first | rw [if_pos (by omega)] | rw [if_neg (by omega)]))]
                refine ⟨fun _ => 102, rfl, nodup_of rfl, ?_⟩
                intro r hr
                cases List.mem_singleton.1 hr
                exact ⟨by simp, rootL_mem rfl⟩
              · have k13 := c13
                try simp only [decide_eq_true_eq, decide_eq_false_iff_not, bne_iff_ne, ne_eq, beq_iff_eq, beq_eq_false_iff_ne, bne_eq_false_iff_eq, Bool.not_eq_true', Bool.not_eq_false', Bool.and_eq_true, Bool.or_eq_true, Bool.and_eq_false_iff, Bool.or_eq_false_iff, Int.not_lt, Int.not_le, Int.toNat_natCast] at c13
                refine AW.skip ?_
                dsimp only [thenQ, blockQ]
                refine AW.region ?_
                refine AWL.q rfl rfl rfl (by decide) (Qt.fieldAddr rfl fl27_1 rfl rfl (by decide)) ?_
                refine AWL.q rfl rfl rfl (by decide) (Qt.load1 rfl rfl rfl ag22) ?_
                refine AWL.q rfl rfl rfl (by decide) (Qt.fieldAddr rfl fl74_1 rfl rfl (by decide)) ?_
                refine AWL.nrm (by simp only [go_sem, Int.reduceToNat, Nat.reduceLT, reduceIte, Nat.reduceEqDiff, Nat.reduceAdd, Nat.reduceMul, Nat.reduceBEq, reduceCtorEq]; rfl) ?_
                refine AWL.q rfl rfl rfl (by decide) (Qt.load1 rfl rfl rfl ag3) ?_
                refine AWL.q rfl rfl rfl (by decide) Qt.move ?_
                refine AWL.q rfl rfl rfl (by decide) (Qt.indexAddr rfl rfl rfl rfl sl22 sz3 (by decide) (by omega)) ?_
                refine AWL.nrm (by simp only [go_sem, Int.reduceToNat, Nat.reduceLT, reduceIte, Nat.reduceEqDiff, Nat.reduceAdd, Nat.reduceMul, Nat.reduceBEq, reduceCtorEq]; rfl) ?_
                refine AWL.step rfl rfl (by first | exact Stp.storeA rfl rfl rfl rfl (by decide) rfl | exact Stp.store rfl rfl (by simp) rfl rfl rfl (by decide) rfl) ?_
                refine AWL.nilE (by simp only [go_sem, Int.reduceToNat, Nat.reduceLT, reduceIte, Nat.reduceEqDiff, Nat.reduceAdd, Nat.reduceMul, Nat.reduceBEq, reduceCtorEq]; rfl) ?_
                try dsimp only [thenQ, blockQ]
                refine AW.seq ?_
                refine AW.draw [0, 1] rfl (by decide +kernel) ?_
                refine AWA.take 0 rfl rfl rfl (by decide +kernel) (.on rfl rfl (Qt.loadG rfl rfl rfl ag27 sz27 (by decide))) ?_
                refine AWA.nrm (by first | (simp only [go_sem, Int.reduceToNat, Nat.reduceLT, reduceIte, Nat.reduceEqDiff, Nat.reduceAdd, Nat.reduceMul, Nat.reduceBEq, reduceCtorEq]; rfl) | rfl) ?_
                refine AWA.take 1 rfl rfl rfl (by decide +kernel) (.on rfl rfl (Qt.loadG rfl rfl rfl ag69 sz69 (by decide))) ?_
                refine AWA.one 2 [1] [0] (by decide +kernel) rfl rfl rfl (by decide +kernel) (by decide +kernel) (by decide +kernel) (by first | exact Stp.storeA rfl rfl rfl rfl (by decide) rfl | exact Stp.store rfl rfl (by simp) rfl rfl rfl (by decide) rfl) ?_
                refine AWA.nrm (by first | (simp only [go_sem, Int.reduceToNat, Nat.reduceLT, reduceIte, Nat.reduceEqDiff, Nat.reduceAdd, Nat.reduceMul, Nat.reduceBEq, reduceCtorEq]; rfl) | rfl) ?_
                refine AWA.againE rfl rfl (by decide +kernel) (.on rfl rfl (Qt.loadG rfl rfl rfl ag69 sz69 (by decide))) rfl ?_
                refine AWA.nrm (by first | (simp only [go_sem, Int.reduceToNat, Nat.reduceLT, reduceIte, Nat.reduceEqDiff, Nat.reduceAdd, Nat.reduceMul, Nat.reduceBEq, reduceCtorEq]; rfl) | rfl) ?_
                refine AWA.one 3 [] [2, 1, 0] (by decide +kernel) rfl rfl rfl (by decide +kernel) (by decide +kernel) (by decide +kernel) (by first | exact Stp.storeA rfl rfl rfl rfl (by decide) rfl | exact Stp.store rfl rfl (by simp) rfl rfl rfl (by decide) rfl) ?_
                refine AWA.nrm (by first | (simp only [go_sem, Int.reduceToNat, Nat.reduceLT, reduceIte, Nat.reduceEqDiff, Nat.reduceAdd, Nat.reduceMul, Nat.reduceBEq, reduceCtorEq]; rfl) | rfl) ?_
                refine AWA.nrm (by first | (simp only [go_sem, Int.reduceToNat, Nat.reduceLT, reduceIte, Nat.reduceEqDiff, Nat.reduceAdd, Nat.reduceMul, Nat.reduceBEq, reduceCtorEq]; rfl) | rfl) ?_
                refine AWA.nilE (by decide +kernel) (by first | (simp only [go_sem, Int.reduceToNat, Nat.reduceLT, reduceIte, Nat.reduceEqDiff, Nat.reduceAdd, Nat.reduceMul, Nat.reduceBEq, reduceCtorEq]; rfl) | rfl) ?_
                try dsimp only [thenQ, blockQ]
                refine AW.rep 49 (tr (c.Regs.set (p.getD c.Pc.toNat En.dflt).A.toNat ((c.Regs.getD (p.getD c.Pc.toNat En.dflt).B.toNat En.dflt) - (c.Regs.getD (p.getD c.Pc.toNat En.dflt).C.toNat En.dflt)))) rfl (set_sim (fun k c hk => by simp only [upd_app, hk, false_and, if_false]; try rfl) (fun c hc => match c, hc with | 0, _ => (by simp only [upd_app, eq_self, and_self, if_true]; exact T.sim_refl _) | c + 1, hc => absurd hc (by simp only [En.n]; omega))) ?_
                refine AW.ret ?_
                try dsimp only [thenQ, blockQ]
                refine endQ_ret (.cons (.cellG 6 27 rfl rfl rfl ag27 sz27 (by decide)) (.cons (.cellG 7 69 rfl rfl rfl ag69 sz69 (by decide)) .nil)) ?_
                rw [hm, show execC p c mem = (⟨c.Pc + 1, c.Regs.set (p.getD c.Pc.toNat En.dflt).A.toNat ((c.Regs.getD (p.getD c.Pc.toNat En.dflt).B.toNat En.dflt) - (c.Regs.getD (p.getD c.Pc.toNat En.dflt).C.toNat En.dflt))⟩, didNone) from hE.trans (by unfold core; repeat (first | rw [if_pos (by omega)] | rw [if_neg (by omega)]))]
                refine ⟨fun _ => 49, rfl, nodup_of rfl, ?_⟩
                intro r hr
                cases List.mem_singleton.1 hr
                exact ⟨by simp, rootL_mem rfl⟩
            · have k12 := c12
              try simp only [decide_eq_true_eq, decide_eq_false_iff_not, bne_iff_ne, ne_eq, beq_iff_eq, beq_eq_false_iff_ne, bne_eq_false_iff_eq, Bool.not_eq_true', Bool.not_eq_false', Bool.and_eq_true, Bool.or_eq_true, Bool.and_eq_false_iff, Bool.or_eq_false_iff, Int.not_lt, Int.not_le, Int.toNat_natCast] at c12
              refine AW.skip ?_
              dsimp only [thenQ, blockQ]
              refine AW.seq ?_
              refine AW.seq ?_
              refine AW.region ?_
              refine AWL.q rfl rfl rfl (by decide) Qt.move ?_
              refine AWL.step rfl rfl (Stp.callV rfl (by decide) Try.call96 rfl rfl (isWord_con _)) ?_
              refine AWL.nrm (by simp only [go_sem, Int.reduceToNat, Nat.reduceLT, reduceIte, Nat.reduceEqDiff, Nat.reduceAdd, Nat.reduceMul, Nat.reduceBEq, reduceCtorEq]; rfl) ?_
              refine AWL.q rfl rfl rfl (by decide) (Qt.notB rfl) ?_
              refine AWL.nilE (by simp only [go_sem, Int.reduceToNat, Nat.reduceLT, reduceIte, Nat.reduceEqDiff, Nat.reduceAdd, Nat.reduceMul, Nat.reduceBEq, reduceCtorEq]; rfl) ?_
              try dsimp only [thenQ, blockQ]
              refine AW.cond rfl (fun c14 => ?_) (fun c14 => ?_)
              · have k14 := c14
                try simp only [decide_eq_true_eq, decide_eq_false_iff_not, bne_iff_ne, ne_eq, beq_iff_eq, beq_eq_false_iff_ne, bne_eq_false_iff_eq, Bool.not_eq_true', Bool.not_eq_false', Bool.and_eq_true, Bool.or_eq_true, Bool.and_eq_false_iff, Bool.or_eq_false_iff, Int.not_lt, Int.not_le, Int.toNat_natCast] at c14
                refine AW.seq ?_
                refine AW.draw [0, 2] rfl (by decide +kernel) ?_
                refine AWA.take 0 rfl rfl rfl (by decide +kernel) (.on rfl rfl (Qt.loadG rfl rfl rfl ag27 sz27 (by decide))) ?_
                refine AWA.take 2 rfl rfl rfl (by decide +kernel) (.on rfl rfl (Qt.loadG rfl rfl rfl ag69 sz69 (by decide))) ?_
                refine AWA.nrm (by first | (simp only [go_sem, Int.reduceToNat, Nat.reduceLT, reduceIte, Nat.reduceEqDiff, Nat.reduceAdd, Nat.reduceMul, Nat.reduceBEq, reduceCtorEq]; rfl) | rfl) ?_
                refine AWA.one 1 [2] [0] (by decide +kernel) rfl rfl rfl (by decide +kernel) (by decide +kernel) (by decide +kernel) (Stp.callR rfl (by decide) Try.call95 rfl rfl (cloneCpu_con _ (by omega)) (nodup_of rfl) rfl rfl) ?_
                refine AWA.nrm (by first | (simp only [go_sem, Int.reduceToNat, Nat.reduceLT, reduceIte, Nat.reduceEqDiff, Nat.reduceAdd, Nat.reduceMul, Nat.reduceBEq, reduceCtorEq]; rfl) | rfl) ?_
                refine AWA.againE rfl rfl (by decide +kernel) (.on rfl rfl (Qt.loadG rfl rfl rfl ag69 sz69 (by decide))) rfl ?_
                refine AWA.nrm (by first | (simp only [go_sem, Int.reduceToNat, Nat.reduceLT, reduceIte, Nat.reduceEqDiff, Nat.reduceAdd, Nat.reduceMul, Nat.reduceBEq, reduceCtorEq]; rfl) | rfl) ?_
                refine AWA.one 3 [2] [1, 0] (by decide +kernel) rfl rfl rfl (by decide +kernel) (by decide +kernel) (by decide +kernel) (by first | exact Stp.storeA rfl rfl rfl rfl (by decide) rfl | exact Stp.store rfl rfl (by simp) rfl rfl rfl (by decide) rfl) ?_
                refine AWA.nrm (by first | (simp only [go_sem, Int.reduceToNat, Nat.reduceLT, reduceIte, Nat.reduceEqDiff, Nat.reduceAdd, Nat.reduceMul, Nat.reduceBEq, reduceCtorEq]; rfl) | rfl) ?_
                refine AWA.againE rfl rfl (by decide +kernel) (.on rfl rfl (Qt.loadG rfl rfl rfl ag69 sz69 (by decide))) rfl ?_
                refine AWA.nrm (by first | (simp only [go_sem, Int.reduceToNat, Nat.reduceLT, reduceIte, Nat.reduceEqDiff, Nat.reduceAdd, Nat.reduceMul, Nat.reduceBEq, reduceCtorEq]; rfl) | rfl) ?_
                refine AWA.one 4 [] [3, 2, 1, 0] (by decide +kernel) rfl rfl rfl (by decide +kernel) (by decide +kernel) (by decide +kernel) (by first | exact Stp.storeA rfl rfl rfl rfl (by decide) rfl | exact Stp.store rfl rfl (by simp) rfl rfl rfl (by decide) rfl) ?_
                refine AWA.nrm (by first | (simp only [go_sem, Int.reduceToNat, Nat.reduceLT, reduceIte, Nat.reduceEqDiff, Nat.reduceAdd, Nat.reduceMul, Nat.reduceBEq, reduceCtorEq]; rfl) | rfl) ?_
                refine AWA.nrm (by first | (simp only [go_sem, Int.reduceToNat, Nat.reduceLT, reduceIte, Nat.reduceEqDiff, Nat.reduceAdd, Nat.reduceMul, Nat.reduceBEq, reduceCtorEq]; rfl) | rfl) ?_
                refine AWA.nilE (by decide +kernel) (by first | (simp only [go_sem, Int.reduceToNat, Nat.reduceLT, reduceIte, Nat.reduceEqDiff, Nat.reduceAdd, Nat.reduceMul, Nat.reduceBEq, reduceCtorEq]; rfl) | rfl) ?_
                try dsimp only [thenQ, blockQ]
                refine AW.ret ?_
                try dsimp only [thenQ, blockQ]
                refine endQ_ret (.cons (.cellG 6 27 rfl rfl rfl ag27 sz27 (by decide)) (.cons (.cellG 7 69 rfl rfl rfl ag69 sz69 (by decide)) .nil)) ?_
                exfalso; omega
              · have k14 := c14
                try simp only [decide_eq_true_eq, decide_eq_false_iff_not, bne_iff_ne, ne_eq, beq_iff_eq, beq_eq_false_iff_ne, bne_eq_false_iff_eq, Bool.not_eq_true', Bool.not_eq_false', Bool.and_eq_true, Bool.or_eq_true, Bool.and_eq_false_iff, Bool.or_eq_false_iff, Int.not_lt, Int.not_le, Int.toNat_natCast] at c14
                refine AW.skip ?_
                dsimp only [thenQ, blockQ]
                refine AW.region ?_
                refine AWL.q rfl rfl rfl (by decide) (Qt.fieldAddr rfl fl27_1 rfl rfl (by decide)) ?_
                refine AWL.q rfl rfl rfl (by decide) (Qt.load1 rfl rfl rfl ag22) ?_
                refine AWL.q rfl rfl rfl (by decide) (Qt.fieldAddr rfl fl74_1 rfl rfl (by decide)) ?_
                refine AWL.nrm (by simp only [go_sem, Int.reduceToNat, Nat.reduceLT, reduceIte, Nat.reduceEqDiff, Nat.reduceAdd, Nat.reduceMul, Nat.reduceBEq, reduceCtorEq]; rfl) ?_
                refine AWL.q rfl rfl rfl (by decide) (Qt.load1 rfl rfl rfl ag3) ?_
                refine AWL.q rfl rfl rfl (by decide) Qt.move ?_
                refine AWL.q rfl rfl rfl (by decide) (Qt.indexAddr rfl rfl rfl rfl sl22 sz3 (by decide) (by omega)) ?_
                refine AWL.nrm (by simp only [go_sem, Int.reduceToNat, Nat.reduceLT, reduceIte, Nat.reduceEqDiff, Nat.reduceAdd, Nat.reduceMul, Nat.reduceBEq, reduceCtorEq]; rfl) ?_
                refine AWL.step rfl rfl (by first | exact Stp.storeA rfl rfl rfl rfl (by decide) rfl | exact Stp.store rfl rfl (by simp) rfl rfl rfl (by decide) rfl) ?_
                refine AWL.nilE (by simp only [go_sem, Int.reduceToNat, Nat.reduceLT, reduceIte, Nat.reduceEqDiff, Nat.reduceAdd, Nat.reduceMul, Nat.reduceBEq, reduceCtorEq]; rfl) ?_
                try dsimp only [thenQ, blockQ]
                refine AW.seq ?_
                refine AW.draw [0, 1] rfl (by decide +kernel) ?_
                refine AWA.take 0 rfl rfl rfl (by decide +kernel) (.on rfl rfl (Qt.loadG rfl rfl rfl ag27 sz27 (by decide))) ?_
                refine AWA.nrm (by first | (simp only [go_sem, Int.reduceToNat, Nat.reduceLT, reduceIte, Nat.reduceEqDiff, Nat.reduceAdd, Nat.reduceMul, Nat.reduceBEq, reduceCtorEq]; rfl) | rfl) ?_
                refine AWA.take 1 rfl rfl rfl (by decide +kernel) (.on rfl rfl (Qt.loadG rfl rfl rfl ag69 sz69 (by decide))) ?_
                refine AWA.one 2 [1] [0] (by decide +kernel) rfl rfl rfl (by decide +kernel) (by decide +kernel) (by decide +kernel) (by first | exact Stp.storeA rfl rfl rfl rfl (by decide) rfl | exact Stp.store rfl rfl (by simp) rfl rfl rfl (by decide) rfl) ?_
                refine AWA.nrm (by first | (simp only [go_sem, Int.reduceToNat, Nat.reduceLT, reduceIte, Nat.reduceEqDiff, Nat.reduceAdd, Nat.reduceMul, Nat.reduceBEq, reduceCtorEq]; rfl) | rfl) ?_
                refine AWA.againE rfl rfl (by decide +kernel) (.on rfl rfl (Qt.loadG rfl rfl rfl ag69 sz69 (by decide))) rfl ?_
                refine AWA.nrm (by first | (simp only [go_sem, Int.reduceToNat, Nat.reduceLT, reduceIte, Nat.reduceEqDiff, Nat.reduceAdd, Nat.reduceMul, Nat.reduceBEq, reduceCtorEq]; rfl) | rfl) ?_
                refine AWA.one 3 [] [2, 1, 0] (by decide +kernel) rfl rfl rfl (by decide +kernel) (by decide +kernel) (by decide +kernel) (by first | exact Stp.storeA rfl rfl rfl rfl (by decide) rfl | exact Stp.store rfl rfl (by simp) rfl rfl rfl (by decide) rfl) ?_
                refine AWA.nrm (by first | (simp only [go_sem, Int.reduceToNat, Nat.reduceLT, reduceIte, Nat.reduceEqDiff, Nat.reduceAdd, Nat.reduceMul, Nat.reduceBEq, reduceCtorEq]; rfl) | rfl) ?_
                refine AWA.nrm (by first | (simp only [go_sem, Int.reduceToNat, Nat.reduceLT, reduceIte, Nat.reduceEqDiff, Nat.reduceAdd, Nat.reduceMul, Nat.reduceBEq, reduceCtorEq]; rfl) | rfl) ?_
                refine AWA.nilE (by decide +kernel) (by first | (simp only [go_sem, Int.reduceToNat, Nat.reduceLT, reduceIte, Nat.reduceEqDiff, Nat.reduceAdd, Nat.reduceMul, Nat.reduceBEq, reduceCtorEq]; rfl) | rfl) ?_
                try dsimp only [thenQ, blockQ]
                refine AW.ret ?_
                try dsimp only [thenQ, blockQ]
                refine endQ_ret (.cons (.cellG 6 27 rfl rfl rfl ag27 sz27 (by decide)) (.cons (.cellG 7 69 rfl rfl rfl ag69 sz69 (by decide)) .nil)) ?_
                exfalso; omega
          · have k11 := c11
            try simp only [decide_eq_true_eq, decide_eq_false_iff_not, bne_iff_ne, ne_eq, beq_iff_eq, beq_eq_false_iff_ne, bne_eq_false_iff_eq, Bool.not_eq_true', Bool.not_eq_false', Bool.and_eq_true, Bool.or_eq_true, Bool.and_eq_false_iff, Bool.or_eq_false_iff, Int.not_lt, Int.not_le, Int.toNat_natCast] at c11
            refine AW.seq ?_
            refine AW.seq ?_
            refine AW.region ?_
            refine AWL.q rfl rfl rfl (by decide) (Qt.binOp rfl rfl rfl) ?_
            refine AWL.q rfl rfl rfl (by decide) Qt.assign ?_
            refine AWL.nilE (by simp only [go_sem, Int.reduceToNat, Nat.reduceLT, reduceIte, Nat.reduceEqDiff, Nat.reduceAdd, Nat.reduceMul, Nat.reduceBEq, reduceCtorEq]; rfl) ?_
            try dsimp only [thenQ, blockQ]
            refine AW.cond rfl (fun c15 => ?_) (fun c15 => ?_)
            · have k15 := c15
              try simp only [decide_eq_true_eq, decide_eq_false_iff_not, bne_iff_ne, ne_eq, beq_iff_eq, beq_eq_false_iff_ne, bne_eq_false_iff_eq, Bool.not_eq_true', Bool.not_eq_false', Bool.and_eq_true, Bool.or_eq_true, Bool.and_eq_false_iff, Bool.or_eq_false_iff, Int.not_lt, Int.not_le, Int.toNat_natCast] at c15
              refine AW.skip ?_
              dsimp only [thenQ, blockQ]
              refine AW.condT rfl k15 ?_
              refine AW.seq ?_
              refine AW.region ?_
              refine AWL.q rfl rfl rfl (by decide) (Qt.fieldAddr rfl fl27_1 rfl rfl (by decide)) ?_
              refine AWL.nrm (by simp only [go_sem, Int.reduceToNat, Nat.reduceLT, reduceIte, Nat.reduceEqDiff, Nat.reduceAdd, Nat.reduceMul, Nat.reduceBEq, reduceCtorEq]; rfl) ?_
              refine AWL.q rfl rfl rfl (by decide) (Qt.load1 rfl rfl rfl ag22) ?_
              refine AWL.q rfl rfl rfl (by decide) (Qt.fieldAddr rfl fl74_2 rfl rfl (by decide)) ?_
              refine AWL.q rfl rfl rfl (by decide) (Qt.load1 rfl rfl rfl ag3) ?_
              refine AWL.nrm (by simp only [go_sem, Int.reduceToNat, Nat.reduceLT, reduceIte, Nat.reduceEqDiff, Nat.reduceAdd, Nat.reduceMul, Nat.reduceBEq, reduceCtorEq]; rfl) ?_
              refine AWL.q rfl rfl rfl (by decide) (Qt.indexAddr rfl rfl rfl rfl sl22 sz3 (by decide) (by omega)) ?_
              refine AWL.q rfl rfl rfl (by decide) (Qt.load1 rfl rfl rfl ag3) ?_
              refine AWL.q rfl rfl rfl (by decide) Qt.assign ?_
              refine AWL.nilE (by simp only [go_sem, Int.reduceToNat, Nat.reduceLT, reduceIte, Nat.reduceEqDiff, Nat.reduceAdd, Nat.reduceMul, Nat.reduceBEq, reduceCtorEq]; rfl) ?_
              try dsimp only [thenQ, blockQ]
              refine AW.seq ?_
              refine AW.seq ?_
              refine AW.region ?_
              refine AWL.q rfl rfl rfl (by decide) Qt.move ?_
              refine AWL.nrm (by simp only [go_sem, Int.reduceToNat, Nat.reduceLT, reduceIte, Nat.reduceEqDiff, Nat.reduceAdd, Nat.reduceMul, Nat.reduceBEq, reduceCtorEq]; rfl) ?_
              refine AWL.q rfl rfl rfl (by decide) Qt.move ?_
              refine AWL.q rfl rfl rfl (by decide) (Qt.lenH rfl rfl rfl sl22) ?_
              refine AWL.q rfl rfl rfl (by decide) (Qt.binOp rfl rfl (by first | exact pbSub (by omega) | rfl)) ?_
              refine AWL.nrm (by simp only [go_sem, Int.reduceToNat, Nat.reduceLT, reduceIte, Nat.reduceEqDiff, Nat.reduceAdd, Nat.reduceMul, Nat.reduceBEq, reduceCtorEq]; rfl) ?_
              refine AWL.step rfl rfl (Stp.callV rfl (by decide) Try.call97 rfl rfl (in_con _ _ _)) ?_
              refine AWL.nrm (by simp only [go_sem, Int.reduceToNat, Nat.reduceLT, reduceIte, Nat.reduceEqDiff, Nat.reduceAdd, Nat.reduceMul, Nat.reduceBEq, reduceCtorEq]; rfl) ?_
              refine AWL.q rfl rfl rfl (by decide) (Qt.notB rfl) ?_
              refine AWL.nilE (by simp only [go_sem, Int.reduceToNat, Nat.reduceLT, reduceIte, Nat.reduceEqDiff, Nat.reduceAdd, Nat.reduceMul, Nat.reduceBEq, reduceCtorEq]; rfl) ?_
              try dsimp only [thenQ, blockQ]
              refine AW.cond rfl (fun c16 => ?_) (fun c16 => ?_)
              · have k16 := c16
                try simp only [decide_eq_true_eq, decide_eq_false_iff_not, bne_iff_ne, ne_eq, beq_iff_eq, beq_eq_false_iff_ne, bne_eq_false_iff_eq, Bool.not_eq_true', Bool.not_eq_false', Bool.and_eq_true, Bool.or_eq_true, Bool.and_eq_false_iff, Bool.or_eq_false_iff, Int.not_lt, Int.not_le, Int.toNat_natCast] at c16
                refine AW.seq ?_
                refine AW.draw [0, 2] rfl (by decide +kernel) ?_
                refine AWA.take 0 rfl rfl rfl (by decide +kernel) (.on rfl rfl (Qt.loadG rfl rfl rfl ag27 sz27 (by decide))) ?_
                refine AWA.take 2 rfl rfl rfl (by decide +kernel) (.on rfl rfl (Qt.loadG rfl rfl rfl ag69 sz69 (by decide))) ?_
                refine AWA.nrm (by first | (simp only [go_sem, Int.reduceToNat, Nat.reduceLT, reduceIte, Nat.reduceEqDiff, Nat.reduceAdd, Nat.reduceMul, Nat.reduceBEq, reduceCtorEq]; rfl) | rfl) ?_
                refine AWA.one 1 [2] [0] (by decide +kernel) rfl rfl rfl (by decide +kernel) (by decide +kernel) (by decide +kernel) (Stp.callR rfl (by decide) Try.call95 rfl rfl (cloneCpu_con _ (by omega)) (nodup_of rfl) rfl rfl) ?_
                refine AWA.nrm (by first | (simp only [go_sem, Int.reduceToNat, Nat.reduceLT, reduceIte, Nat.reduceEqDiff, Nat.reduceAdd, Nat.reduceMul, Nat.reduceBEq, reduceCtorEq]; rfl) | rfl) ?_
                refine AWA.againE rfl rfl (by decide +kernel) (.on rfl rfl (Qt.loadG rfl rfl rfl ag69 sz69 (by decide))) rfl ?_
                refine AWA.nrm (by first | (simp only [go_sem, Int.reduceToNat, Nat.reduceLT, reduceIte, Nat.reduceEqDiff, Nat.reduceAdd, Nat.reduceMul, Nat.reduceBEq, reduceCtorEq]; rfl) | rfl) ?_
                refine AWA.one 3 [2] [1, 0] (by decide +kernel) rfl rfl rfl (by decide +kernel) (by decide +kernel) (by decide +kernel) (by first | exact Stp.storeA rfl rfl rfl rfl (by decide) rfl | exact Stp.store rfl rfl (by simp) rfl rfl rfl (by decide) rfl) ?_
                refine AWA.nrm (by first | (simp only [go_sem, Int.reduceToNat, Nat.reduceLT, reduceIte, Nat.reduceEqDiff, Nat.reduceAdd, Nat.reduceMul, Nat.reduceBEq, reduceCtorEq]; rfl) | rfl) ?_
                refine AWA.againE rfl rfl (by decide +kernel) (.on rfl rfl (Qt.loadG rfl rfl rfl ag69 sz69 (by decide))) rfl ?_
                refine AWA.nrm (by first | (simp only [go_sem, Int.reduceToNat, Nat.reduceLT, reduceIte, Nat.reduceEqDiff, Nat.reduceAdd, Nat.reduceMul, Nat.reduceBEq, reduceCtorEq]; rfl) | rfl) ?_
                refine AWA.one 4 [] [3, 2, 1, 0] (by decide +kernel) rfl rfl rfl (by decide +kernel) (by decide +kernel) (by decide +kernel) (by first | exact Stp.storeA rfl rfl rfl rfl (by decide) rfl | exact Stp.store rfl rfl (by simp) rfl rfl rfl (by decide) rfl) ?_
                refine AWA.nrm (by first | (simp only [go_sem, Int.reduceToNat, Nat.reduceLT, reduceIte, Nat.reduceEqDiff, Nat.reduceAdd, Nat.reduceMul, Nat.reduceBEq, reduceCtorEq]; rfl) | rfl) ?_
                refine AWA.nrm (by first | (simp only [go_sem, Int.reduceToNat, Nat.reduceLT, reduceIte, Nat.reduceEqDiff, Nat.reduceAdd, Nat.reduceMul, Nat.reduceBEq, reduceCtorEq]; rfl) | rfl) ?_
                refine AWA.nilE (by decide +kernel) (by first | (simp only [go_sem, Int.reduceToNat, Nat.reduceLT, reduceIte, Nat.reduceEqDiff, Nat.reduceAdd, Nat.reduceMul, Nat.reduceBEq, reduceCtorEq]; rfl) | rfl) ?_
                try dsimp only [thenQ, blockQ]
                refine AW.ret ?_
                try dsimp only [thenQ, blockQ]
                refine endQ_ret (.cons (.cellG 6 27 rfl rfl rfl ag27 sz27 (by decide)) (.cons (.cellG 7 69 rfl rfl rfl ag69 sz69 (by decide)) .nil)) ?_
                rw [hm, show execC p c mem = (c, didFault) from hE.trans (by unfold core; repeat (first | rw [if_pos (by omega)] | rw [if_neg (by omega)]))]
                refine ⟨fun _ => 126, rfl, nodup_of rfl, ?_⟩
                intro r hr
                cases List.mem_singleton.1 hr
                exact ⟨by simp, rootL_mem rfl⟩
              · have k16 := c16
                try simp only [decide_eq_true_eq, decide_eq_false_iff_not, bne_iff_ne, ne_eq, beq_iff_eq, beq_eq_false_iff_ne, bne_eq_false_iff_eq, Bool.not_eq_true', Bool.not_eq_false', Bool.and_eq_true, Bool.or_eq_true, Bool.and_eq_false_iff, Bool.or_eq_false_iff, Int.not_lt, Int.not_le, Int.toNat_natCast] at c16
                refine AW.skip ?_
                dsimp only [thenQ, blockQ]
                refine AW.seq ?_
                refine AW.region ?_
                refine AWL.q rfl rfl rfl (by decide) (Qt.fieldAddr rfl fl74_0 rfl rfl (by decide)) ?_
                refine AWL.q rfl rfl rfl (by decide) (Qt.load1 rfl rfl rfl ag3) ?_
                refine AWL.q rfl rfl rfl (by decide) (Qt.binOp rfl rfl rfl) ?_
                refine AWL.nilE (by simp only [go_sem, Int.reduceToNat, Nat.reduceLT, reduceIte, Nat.reduceEqDiff, Nat.reduceAdd, Nat.reduceMul, Nat.reduceBEq, reduceCtorEq]; rfl) ?_
                try dsimp only [thenQ, blockQ]
                refine AW.cond rfl (fun c17 => ?_) (fun c17 => ?_)
                · have k17 := c17
                  try simp only [decide_eq_true_eq, decide_eq_false_iff_not, bne_iff_ne, ne_eq, beq_iff_eq, beq_eq_false_iff_ne, bne_eq_false_iff_eq, Bool.not_eq_true', Bool.not_eq_false', Bool.and_eq_true, Bool.or_eq_true, Bool.and_eq_false_iff, Bool.or_eq_false_iff, Int.not_lt, Int.not_le, Int.toNat_natCast] at c17
                  refine AW.draw [0, 1, 2, 3, 4, 5, 6, 7, 8] rfl (by decide +kernel) ?_
                  refine AWA.take 0 rfl rfl rfl (by decide +kernel) (.on rfl rfl (Qt.fieldAddr rfl fl27_1 rfl rfl (by decide))) ?_
                  refine AWA.nrm (by first | (simp only [go_sem, Int.reduceToNat, Nat.reduceLT, reduceIte, Nat.reduceEqDiff, Nat.reduceAdd, Nat.reduceMul, Nat.reduceBEq, reduceCtorEq]; rfl) | rfl) ?_
                  refine AWA.take 1 rfl rfl rfl (by decide +kernel) (.on rfl rfl (Qt.load1 rfl rfl rfl ag22)) ?_
                  refine AWA.take 2 rfl rfl rfl (by decide +kernel) (.on rfl rfl (Qt.fieldAddr rfl fl74_1 rfl rfl (by decide))) ?_
                  refine AWA.take 3 rfl rfl rfl (by decide +kernel) (.on rfl rfl (Qt.load1 rfl rfl rfl ag3)) ?_
                  refine AWA.nrm (by first | (simp only [go_sem, Int.reduceToNat, Nat.reduceLT, reduceIte, Nat.reduceEqDiff, Nat.reduceAdd, Nat.reduceMul, Nat.reduceBEq, reduceCtorEq]; rfl) | rfl) ?_
                  refine AWA.take 4 rfl rfl rfl (by decide +kernel) (.on rfl rfl Qt.move) ?_
                  refine AWA.take 5 rfl rfl rfl (by decide +kernel) (.on rfl rfl Qt.move) ?_
                  refine AWA.take 6 rfl rfl rfl (by decide +kernel) (.on rfl rfl (Qt.indexAddr rfl rfl rfl rfl sl22 sz3 (by decide) (by omega))) ?_
                  refine AWA.nrm (by first | (simp only [go_sem, Int.reduceToNat, Nat.reduceLT, reduceIte, Nat.reduceEqDiff, Nat.reduceAdd, Nat.reduceMul, Nat.reduceBEq, reduceCtorEq]; rfl) | rfl) ?_
                  refine AWA.take 7 rfl rfl rfl (by decide +kernel) (.on rfl rfl (Qt.load1 rfl rfl rfl ag3)) ?_
                  refine AWA.take 8 rfl rfl rfl (by decide +kernel) (.on rfl rfl (Qt.indexAddr rfl rfl rfl rfl sl22 sz3 (by decide) (by omega))) ?_
                  refine AWA.one 9 [] [8, 7, 6, 5, 4, 3, 2, 1, 0] (by decide +kernel) rfl rfl rfl (by decide +kernel) (by decide +kernel) (by decide +kernel) (by first | exact Stp.storeA rfl rfl rfl rfl (by decide) rfl | exact Stp.store rfl rfl (by simp) rfl rfl rfl (by decide) rfl) ?_
                  refine AWA.nrm (by first | (simp only [go_sem, Int.reduceToNat, Nat.reduceLT, reduceIte, Nat.reduceEqDiff, Nat.reduceAdd, Nat.reduceMul, Nat.reduceBEq, reduceCtorEq]; rfl) | rfl) ?_
                  refine AWA.nrm (by first | (simp only [go_sem, Int.reduceToNat, Nat.reduceLT, reduceIte, Nat.reduceEqDiff, Nat.reduceAdd, Nat.reduceMul, Nat.reduceBEq, reduceCtorEq]; rfl) | rfl) ?_
                  refine AWA.nilE (by decide +kernel) (by first | (simp only [go_sem, Int.reduceToNat, Nat.reduceLT, reduceIte, Nat.reduceEqDiff, Nat.reduceAdd, Nat.reduceMul, Nat.reduceBEq, reduceCtorEq]; rfl) | rfl) ?_
                  try dsimp only [thenQ, blockQ]
                  refine AW.seq ?_
                  refine AW.draw [0, 1] rfl (by decide +kernel) ?_
                  refine AWA.take 0 rfl rfl rfl (by decide +kernel) (.on rfl rfl (Qt.loadG rfl rfl rfl ag27 sz27 (by decide))) ?_
                  refine AWA.take 1 rfl rfl rfl (by decide +kernel) (.on rfl rfl (Qt.loadG rfl rfl rfl ag69 sz69 (by decide))) ?_
                  refine AWA.one 2 [1] [0] (by decide +kernel) rfl rfl rfl (by decide +kernel) (by decide +kernel) (by decide +kernel) (by first | exact Stp.storeA rfl rfl rfl rfl (by decide) rfl | exact Stp.store rfl rfl (by simp) rfl rfl rfl (by decide) rfl) ?_
                  refine AWA.nrm (by first | (simp only [go_sem, Int.reduceToNat, Nat.reduceLT, reduceIte, Nat.reduceEqDiff, Nat.reduceAdd, Nat.reduceMul, Nat.reduceBEq, reduceCtorEq]; rfl) | rfl) ?_
                  refine AWA.againE rfl rfl (by decide +kernel) (.on rfl rfl (Qt.loadG rfl rfl rfl ag69 sz69 (by decide))) rfl ?_
                  refine AWA.nrm (by first | (simp only [go_sem, Int.reduceToNat, Nat.reduceLT, reduceIte, Nat.reduceEqDiff, Nat.reduceAdd, Nat.reduceMul, Nat.reduceBEq, reduceCtorEq]; rfl) | rfl) ?_
                  refine AWA.one 3 [] [2, 1, 0] (by decide +kernel) rfl rfl rfl (by decide +kernel) (by decide +kernel) (by decide +kernel) (by first | exact Stp.storeA rfl rfl rfl rfl (by decide) rfl | exact Stp.store rfl rfl (by simp) rfl rfl rfl (by decide) rfl) ?_
                  refine AWA.nrm (by first | (simp only [go_sem, Int.reduceToNat, Nat.reduceLT, reduceIte, Nat.reduceEqDiff, Nat.reduceAdd, Nat.reduceMul, Nat.reduceBEq, reduceCtorEq]; rfl) | rfl) ?_
                  refine AWA.nrm (by first | (simp only [go_sem, Int.reduceToNat, Nat.reduceLT, reduceIte, Nat.reduceEqDiff, Nat.reduceAdd, Nat.reduceMul, Nat.reduceBEq, reduceCtorEq]; rfl) | rfl) ?_
                  refine AWA.nilE (by decide +kernel) (by first | (simp only [go_sem, Int.reduceToNat, Nat.reduceLT, reduceIte, Nat.reduceEqDiff, Nat.reduceAdd, Nat.reduceMul, Nat.reduceBEq, reduceCtorEq]; rfl) | rfl) ?_
                  try dsimp only [thenQ, blockQ]
                  refine AW.rep 49 (tr (c.Regs.set (p.getD c.Pc.toNat En.dflt).A.toNat (mem.getD (c.Regs.getD (p.getD c.Pc.toNat En.dflt).B.toNat En.dflt).toNat En.dflt))) rfl (set_sim (fun k c hk => by simp only [upd_app, hk, false_and, if_false]; try rfl) (fun c hc => match c, hc with | 0, _ => (by simp only [upd_app, eq_self, and_self, if_true]; exact T.sim_refl _) | c + 1, hc => absurd hc (by simp only [En.n]; omega))) ?_
                  refine AW.ret ?_
                  try dsimp only [thenQ, blockQ]
                  refine endQ_ret (.cons (.cellG 6 27 rfl rfl rfl ag27 sz27 (by decide)) (.cons (.cellG 7 69 rfl rfl rfl ag69 sz69 (by decide)) .nil)) ?_
                  rw [hm, show execC p c mem = (⟨c.Pc + 1, c.Regs.set (p.getD c.Pc.toNat En.dflt).A.toNat (mem.getD (c.Regs.getD (p.getD c.Pc.toNat En.dflt).B.toNat En.dflt).toNat En.dflt)⟩, didNone) from hE.trans (by unfold core; repeat (first | rw [if_pos (by omega)] | rw [if_neg (by omega)]))]
                  refine ⟨fun _ => 49, rfl, nodup_of rfl, ?_⟩
                  intro r hr
                  cases List.mem_singleton.1 hr
                  exact ⟨by simp, rootL_mem rfl⟩
                · have k17 := c17
                  try simp only [decide_eq_true_eq, decide_eq_false_iff_not, bne_iff_ne, ne_eq, beq_iff_eq, beq_eq_false_iff_ne, bne_eq_false_iff_eq, Bool.not_eq_true', Bool.not_eq_false', Bool.and_eq_true, Bool.or_eq_true, Bool.and_eq_false_iff, Bool.or_eq_false_iff, Int.not_lt, Int.not_le, Int.toNat_natCast] at c17
                  refine AW.draw [0, 1, 2, 3, 4, 5, 6, 7, 9] rfl (by decide +kernel) ?_
                  refine AWA.take 0 rfl rfl rfl (by decide +kernel) (.on rfl rfl Qt.move) ?_
                  refine AWA.take 1 rfl rfl rfl (by decide +kernel) (.on rfl rfl (Qt.fieldAddr rfl fl27_1 rfl rfl (by decide))) ?_
                  refine AWA.take 2 rfl rfl rfl (by decide +kernel) (.on rfl rfl (Qt.load1 rfl rfl rfl ag22)) ?_
                  refine AWA.nrm (by first | (simp only [go_sem, Int.reduceToNat, Nat.reduceLT, reduceIte, Nat.reduceEqDiff, Nat.reduceAdd, Nat.reduceMul, Nat.reduceBEq, reduceCtorEq]; rfl) | rfl) ?_
                  refine AWA.take 3 rfl rfl rfl (by decide +kernel) (.on rfl rfl (Qt.fieldAddr rfl fl74_1 rfl rfl (by decide))) ?_
                  refine AWA.take 4 rfl rfl rfl (by decide +kernel) (.on rfl rfl (Qt.load1 rfl rfl rfl ag3)) ?_
                  refine AWA.take 5 rfl rfl rfl (by decide +kernel) (.on rfl rfl (Qt.indexAddr rfl rfl rfl rfl sl22 sz3 (by decide) (by omega))) ?_
                  refine AWA.nrm (by first | (simp only [go_sem, Int.reduceToNat, Nat.reduceLT, reduceIte, Nat.reduceEqDiff, Nat.reduceAdd, Nat.reduceMul, Nat.reduceBEq, reduceCtorEq]; rfl) | rfl) ?_
                  refine AWA.take 6 rfl rfl rfl (by decide +kernel) (.on rfl rfl (Qt.load1 rfl rfl rfl ag3)) ?_
                  refine AWA.take 7 rfl rfl rfl (by decide +kernel) (.on rfl rfl (Qt.fieldAddr rfl fl69_1 rfl rfl (by decide))) ?_
                  refine AWA.one 8 [1, 2, 3, 4, 5, 6] [7, 0] (by decide +kernel) rfl rfl rfl (by decide +kernel) (by decide +kernel) (by decide +kernel) (by first | exact Stp.storeA rfl rfl rfl rfl (by decide) rfl | exact Stp.store rfl rfl (by simp) rfl rfl rfl (by decide) rfl) ?_
                  refine AWA.nrm (by first | (simp only [go_sem, Int.reduceToNat, Nat.reduceLT, reduceIte, Nat.reduceEqDiff, Nat.reduceAdd, Nat.reduceMul, Nat.reduceBEq, reduceCtorEq]; rfl) | rfl) ?_
                  refine AWA.againE rfl rfl (by decide +kernel) (.on rfl rfl (Qt.fieldAddr rfl fl27_1 rfl rfl (by decide))) rfl ?_
                  refine AWA.againE rfl rfl (by decide +kernel) (.on rfl rfl (Qt.load1 rfl rfl rfl ag22)) rfl ?_
                  refine AWA.againE rfl rfl (by decide +kernel) (.on rfl rfl (Qt.fieldAddr rfl fl74_1 rfl rfl (by decide))) rfl ?_
                  refine AWA.againE rfl rfl (by decide +kernel) (.on rfl rfl (Qt.load1 rfl rfl rfl ag3)) rfl ?_
                  refine AWA.againE rfl rfl (by decide +kernel) (.on rfl rfl (Qt.indexAddr rfl rfl rfl rfl sl22 sz3 (by decide) (by omega))) rfl ?_
                  refine AWA.againE rfl rfl (by decide +kernel) (.on rfl rfl (Qt.load1 rfl rfl rfl ag3)) rfl ?_
                  refine AWA.nrm (by first | (simp only [go_sem, Int.reduceToNat, Nat.reduceLT, reduceIte, Nat.reduceEqDiff, Nat.reduceAdd, Nat.reduceMul, Nat.reduceBEq, reduceCtorEq]; rfl) | rfl) ?_
                  refine AWA.take 9 rfl rfl rfl (by decide +kernel) (.on rfl rfl (Qt.fieldAddr rfl fl69_2 rfl rfl (by decide))) ?_
                  refine AWA.one 10 [] [9, 8, 7, 6, 5, 4, 3, 2, 1, 0] (by decide +kernel) rfl rfl rfl (by decide +kernel) (by decide +kernel) (by decide +kernel) (by first | exact Stp.storeA rfl rfl rfl rfl (by decide) rfl | exact Stp.store rfl rfl (by simp) rfl rfl rfl (by decide) rfl) ?_
                  refine AWA.nrm (by first | (simp only [go_sem, Int.reduceToNat, Nat.reduceLT, reduceIte, Nat.reduceEqDiff, Nat.reduceAdd, Nat.reduceMul, Nat.reduceBEq, reduceCtorEq]; rfl) | rfl) ?_
                  refine AWA.nrm (by first | (simp only [go_sem, Int.reduceToNat, Nat.reduceLT, reduceIte, Nat.reduceEqDiff, Nat.reduceAdd, Nat.reduceMul, Nat.reduceBEq, reduceCtorEq]; rfl) | rfl) ?_
                  refine AWA.nilE (by decide +kernel) (by first | (simp only [go_sem, Int.reduceToNat, Nat.reduceLT, reduceIte, Nat.reduceEqDiff, Nat.reduceAdd, Nat.reduceMul, Nat.reduceBEq, reduceCtorEq]; rfl) | rfl) ?_
                  try dsimp only [thenQ, blockQ]
                  refine AW.seq ?_
                  refine AW.draw [0, 1] rfl (by decide +kernel) ?_
                  refine AWA.take 0 rfl rfl rfl (by decide +kernel) (.on rfl rfl (Qt.loadG rfl rfl rfl ag27 sz27 (by decide))) ?_
                  refine AWA.take 1 rfl rfl rfl (by decide +kernel) (.on rfl rfl (Qt.loadG rfl rfl rfl ag69 sz69 (by decide))) ?_
                  refine AWA.one 2 [1] [0] (by decide +kernel) rfl rfl rfl (by decide +kernel) (by decide +kernel) (by decide +kernel) (by first | exact Stp.storeA rfl rfl rfl rfl (by decide) rfl | exact Stp.store rfl rfl (by simp) rfl rfl rfl (by decide) rfl) ?_
                  refine AWA.nrm (by first | (simp only [go_sem, Int.reduceToNat, Nat.reduceLT, reduceIte, Nat.reduceEqDiff, Nat.reduceAdd, Nat.reduceMul, Nat.reduceBEq, reduceCtorEq]; rfl) | rfl) ?_
                  refine AWA.againE rfl rfl (by decide +kernel) (.on rfl rfl (Qt.loadG rfl rfl rfl ag69 sz69 (by decide))) rfl ?_
                  refine AWA.nrm (by first | (simp only [go_sem, Int.reduceToNat, Nat.reduceLT, reduceIte, Nat.reduceEqDiff, Nat.reduceAdd, Nat.reduceMul, Nat.reduceBEq, reduceCtorEq]; rfl) | rfl) ?_
                  refine AWA.one 3 [] [2, 1, 0] (by decide +kernel) rfl rfl rfl (by decide +kernel) (by decide +kernel) (by decide +kernel) (by first | exact Stp.storeA rfl rfl rfl rfl (by decide) rfl | exact Stp.store rfl rfl (by simp) rfl rfl rfl (by decide) rfl) ?_
                  refine AWA.nrm (by first | (simp only [go_sem, Int.reduceToNat, Nat.reduceLT, reduceIte, Nat.reduceEqDiff, Nat.reduceAdd, Nat.reduceMul, Nat.reduceBEq, reduceCtorEq]; rfl) | rfl) ?_
                  refine AWA.nrm (by first | (simp only [go_sem, Int.reduceToNat, Nat.reduceLT, reduceIte, Nat.reduceEqDiff, Nat.reduceAdd, Nat.reduceMul, Nat.reduceBEq, reduceCtorEq]; rfl) | rfl) ?_
                  refine AWA.nilE (by decide +kernel) (by first | (simp only [go_sem, Int.reduceToNat, Nat.reduceLT, reduceIte, Nat.reduceEqDiff, Nat.reduceAdd, Nat.reduceMul, Nat.reduceBEq, reduceCtorEq]; rfl) | rfl) ?_
                  try dsimp only [thenQ, blockQ]
                  refine AW.ret ?_
                  try dsimp only [thenQ, blockQ]
                  refine endQ_ret (.cons (.cellG 6 27 rfl rfl rfl ag27 sz27 (by decide)) (.cons (.cellG 7 69 rfl rfl rfl ag69 sz69 (by decide)) .nil)) ?_
                  exfalso; omega
            · have k15 := c15
              try simp only [decide_eq_true_eq, decide_eq_false_iff_not, bne_iff_ne, ne_eq, beq_iff_eq, beq_eq_false_iff_ne, bne_eq_false_iff_eq, Bool.not_eq_true', Bool.not_eq_false', Bool.and_eq_true, Bool.or_eq_true, Bool.and_eq_false_iff, Bool.or_eq_false_iff, Int.not_lt, Int.not_le, Int.toNat_natCast] at c15
              refine AW.region ?_
              refine AWL.q rfl rfl rfl (by decide) (Qt.binOp rfl rfl rfl) ?_
              refine AWL.q rfl rfl rfl (by decide) Qt.assign ?_
              refine AWL.nilE (by simp only [go_sem, Int.reduceToNat, Nat.reduceLT, reduceIte, Nat.reduceEqDiff, Nat.reduceAdd, Nat.reduceMul, Nat.reduceBEq, reduceCtorEq]; rfl) ?_
              try dsimp only [thenQ, blockQ]
              refine AW.cond rfl (fun c18 => ?_) (fun c18 => ?_)
              · have k18 := c18
                try simp only [decide_eq_true_eq, decide_eq_false_iff_not, bne_iff_ne, ne_eq, beq_iff_eq, beq_eq_false_iff_ne, bne_eq_false_iff_eq, Bool.not_eq_true', Bool.not_eq_false', Bool.and_eq_true, Bool.or_eq_true, Bool.and_eq_false_iff, Bool.or_eq_false_iff, Int.not_lt, Int.not_le, Int.toNat_natCast] at c18
                refine AW.seq ?_
                refine AW.region ?_
                refine AWL.q rfl rfl rfl (by decide) (Qt.fieldAddr rfl fl27_1 rfl rfl (by decide)) ?_
                refine AWL.nrm (by simp only [go_sem, Int.reduceToNat, Nat.reduceLT, reduceIte, Nat.reduceEqDiff, Nat.reduceAdd, Nat.reduceMul, Nat.reduceBEq, reduceCtorEq]; rfl) ?_
                refine AWL.q rfl rfl rfl (by decide) (Qt.load1 rfl rfl rfl ag22) ?_
                refine AWL.q rfl rfl rfl (by decide) (Qt.fieldAddr rfl fl74_2 rfl rfl (by decide)) ?_
                refine AWL.q rfl rfl rfl (by decide) (Qt.load1 rfl rfl rfl ag3) ?_
                refine AWL.nrm (by simp only [go_sem, Int.reduceToNat, Nat.reduceLT, reduceIte, Nat.reduceEqDiff, Nat.reduceAdd, Nat.reduceMul, Nat.reduceBEq, reduceCtorEq]; rfl) ?_
                refine AWL.q rfl rfl rfl (by decide) (Qt.indexAddr rfl rfl rfl rfl sl22 sz3 (by decide) (by omega)) ?_
                refine AWL.q rfl rfl rfl (by decide) (Qt.load1 rfl rfl rfl ag3) ?_
                refine AWL.q rfl rfl rfl (by decide) Qt.assign ?_
                refine AWL.nilE (by simp only [go_sem, Int.reduceToNat, Nat.reduceLT, reduceIte, Nat.reduceEqDiff, Nat.reduceAdd, Nat.reduceMul, Nat.reduceBEq, reduceCtorEq]; rfl) ?_
                try dsimp only [thenQ, blockQ]
                refine AW.seq ?_
                refine AW.seq ?_
                refine AW.region ?_
                refine AWL.q rfl rfl rfl (by decide) Qt.move ?_
                refine AWL.nrm (by simp only [go_sem, Int.reduceToNat, Nat.reduceLT, reduceIte, Nat.reduceEqDiff, Nat.reduceAdd, Nat.reduceMul, Nat.reduceBEq, reduceCtorEq]; rfl) ?_
                refine AWL.q rfl rfl rfl (by decide) Qt.move ?_
                refine AWL.q rfl rfl rfl (by decide) (Qt.lenH rfl rfl rfl sl22) ?_
                refine AWL.q rfl rfl rfl (by decide) (Qt.binOp rfl rfl (by first | exact pbSub (by omega) | rfl)) ?_
                refine AWL.nrm (by simp only [go_sem, Int.reduceToNat, Nat.reduceLT, reduceIte, Nat.reduceEqDiff, Nat.reduceAdd, Nat.reduceMul, Nat.reduceBEq, reduceCtorEq]; rfl) ?_
                refine AWL.step rfl rfl (Stp.callV rfl (by decide) Try.call97 rfl rfl (in_con _ _ _)) ?_
                refine AWL.nrm (by simp only [go_sem, Int.reduceToNat, Nat.reduceLT, reduceIte, Nat.reduceEqDiff, Nat.reduceAdd, Nat.reduceMul, Nat.reduceBEq, reduceCtorEq]; rfl) ?_
                refine AWL.q rfl rfl rfl (by decide) (Qt.notB rfl) ?_
                refine AWL.nilE (by simp only [go_sem, Int.reduceToNat, Nat.reduceLT, reduceIte, Nat.reduceEqDiff, Nat.reduceAdd, Nat.reduceMul, Nat.reduceBEq, reduceCtorEq]; rfl) ?_
                try dsimp only [thenQ, blockQ]
                refine AW.cond rfl (fun c19 => ?_) (fun c19 => ?_)
                · have k19 := c19
                  try simp only [decide_eq_true_eq, decide_eq_false_iff_not, bne_iff_ne, ne_eq, beq_iff_eq, beq_eq_false_iff_ne, bne_eq_false_iff_eq, Bool.not_eq_true', Bool.not_eq_false', Bool.and_eq_true, Bool.or_eq_true, Bool.and_eq_false_iff, Bool.or_eq_false_iff, Int.not_lt, Int.not_le, Int.toNat_natCast] at c19
                  refine AW.seq ?_
                  refine AW.draw [0, 2] rfl (by decide +kernel) ?_
                  refine AWA.take 0 rfl rfl rfl (by decide +kernel) (.on rfl rfl (Qt.loadG rfl rfl rfl ag27 sz27 (by decide))) ?_
                  refine AWA.take 2 rfl rfl rfl (by decide +kernel) (.on rfl rfl (Qt.loadG rfl rfl rfl ag69 sz69 (by decide))) ?_
                  refine AWA.nrm (by first | (simp only [go_sem, Int.reduceToNat, Nat.reduceLT, reduceIte, Nat.reduceEqDiff, Nat.reduceAdd, Nat.reduceMul, Nat.reduceBEq, reduceCtorEq]; rfl) | rfl) ?_
                  refine AWA.one 1 [2] [0] (by decide +kernel) rfl rfl rfl (by decide +kernel) (by decide +kernel) (by decide +kernel) (Stp.callR rfl (by decide) Try.call95 rfl rfl (cloneCpu_con _ (by omega)) (nodup_of rfl) rfl rfl) ?_
                  refine AWA.nrm (by first | (simp only [go_sem, Int.reduceToNat, Nat.reduceLT, reduceIte, Nat.reduceEqDiff, Nat.reduceAdd, Nat.reduceMul, Nat.reduceBEq, reduceCtorEq]; rfl) | rfl) ?_
                  refine AWA.againE rfl rfl (by decide +kernel) (.on rfl rfl (Qt.loadG rfl rfl rfl ag69 sz69 (by decide))) rfl ?_
                  refine AWA.nrm (by first | (simp only [go_sem, Int.reduceToNat, Nat.reduceLT, reduceIte, Nat.reduceEqDiff, Nat.reduceAdd, Nat.reduceMul, Nat.reduceBEq, reduceCtorEq]; rfl) | rfl) ?_
                  refine AWA.one 3 [2] [1, 0] (by decide +kernel) rfl rfl rfl (by decide +kernel) (by decide +kernel) (by decide +kernel) (by first | exact Stp.storeA rfl rfl rfl rfl (by decide) rfl | exact Stp.store rfl rfl (by simp) rfl rfl rfl (by decide) rfl) ?_
                  refine AWA.nrm (by first | (simp only [go_sem, Int.reduceToNat, Nat.reduceLT, reduceIte, Nat.reduceEqDiff, Nat.reduceAdd, Nat.reduceMul, Nat.reduceBEq, reduceCtorEq]; rfl) | rfl) ?_
                  refine AWA.againE rfl rfl (by decide +kernel) (.on rfl rfl (Qt.loadG rfl rfl rfl ag69 sz69 (by decide))) rfl ?_
                  refine AWA.nrm (by first | (simp only [go_sem, Int.reduceToNat, Nat.reduceLT, reduceIte, Nat.reduceEqDiff, Nat.reduceAdd, Nat.reduceMul, Nat.reduceBEq, reduceCtorEq]; rfl) | rfl) ?_
                  refine AWA.one 4 [] [3, 2, 1, 0] (by decide +kernel) rfl rfl rfl (by decide +kernel) (by decide +kernel) (by decide +kernel) (by first | exact Stp.storeA rfl rfl rfl rfl (by decide) rfl | exact Stp.store rfl rfl (by simp) rfl rfl rfl (by decide) rfl) ?_
                  refine AWA.nrm (by first | (simp only [go_sem, Int.reduceToNat, Nat.reduceLT, reduceIte, Nat.reduceEqDiff, Nat.reduceAdd, Nat.reduceMul, Nat.reduceBEq, reduceCtorEq]; rfl) | rfl) ?_
                  refine AWA.nrm (by first | (simp only [go_sem, Int.reduceToNat, Nat.reduceLT, reduceIte, Nat.reduceEqDiff, Nat.reduceAdd, Nat.reduceMul, Nat.reduceBEq, reduceCtorEq]; rfl) | rfl) ?_
                  refine AWA.nilE (by decide +kernel) (by first | (simp only [go_sem, Int.reduceToNat, Nat.reduceLT, reduceIte, Nat.reduceEqDiff, Nat.reduceAdd, Nat.reduceMul, Nat.reduceBEq, reduceCtorEq]; rfl) | rfl) ?_
                  try dsimp only [thenQ, blockQ]
                  refine AW.ret ?_
                  try dsimp only [thenQ, blockQ]
                  refine endQ_ret (.cons (.cellG 6 27 rfl rfl rfl ag27 sz27 (by decide)) (.cons (.cellG 7 69 rfl rfl rfl ag69 sz69 (by decide)) .nil)) ?_
                  rw [hm, show execC p c mem = (c, didFault) from hE.trans (by unfold core; repeat (first | rw [if_pos (by omega)] | rw [if_neg (by omega)]))]
                  refine ⟨fun _ => 126, rfl, nodup_of rfl, ?_⟩
                  intro r hr
                  cases List.mem_singleton.1 hr
                  exact ⟨by simp, rootL_mem rfl⟩
                · have k19 := c19
                  try simp only [decide_eq_true_eq, decide_eq_false_iff_not, bne_iff_ne, ne_eq, beq_iff_eq, beq_eq_false_iff_ne, bne_eq_false_iff_eq, Bool.not_eq_true', Bool.not_eq_false', Bool.and_eq_true, Bool.or_eq_true, Bool.and_eq_false_iff, Bool.or_eq_false_iff, Int.not_lt, Int.not_le, Int.toNat_natCast] at c19
                  refine AW.skip ?_
                  dsimp only [thenQ, blockQ]
                  refine AW.seq ?_
                  refine AW.region ?_
                  refine AWL.q rfl rfl rfl (by decide) (Qt.fieldAddr rfl fl74_0 rfl rfl (by decide)) ?_
                  refine AWL.q rfl rfl rfl (by decide) (Qt.load1 rfl rfl rfl ag3) ?_
                  refine AWL.q rfl rfl rfl (by decide) (Qt.binOp rfl rfl rfl) ?_
                  refine AWL.nilE (by simp only [go_sem, Int.reduceToNat, Nat.reduceLT, reduceIte, Nat.reduceEqDiff, Nat.reduceAdd, Nat.reduceMul, Nat.reduceBEq, reduceCtorEq]; rfl) ?_
                  try dsimp only [thenQ, blockQ]
                  refine AW.cond rfl (fun c20 => ?_) (fun c20 => ?_)
                  · have k20 := c20
                    try simp only [decide_eq_true_eq, decide_eq_false_iff_not, bne_iff_ne, ne_eq, beq_iff_eq, beq_eq_false_iff_ne, bne_eq_false_iff_eq, Bool.not_eq_true', Bool.not_eq_false', Bool.and_eq_true, Bool.or_eq_true, Bool.and_eq_false_iff, Bool.or_eq_false_iff, Int.not_lt, Int.not_le, Int.toNat_natCast] at c20
                    refine AW.draw [0, 1, 2, 3, 4, 5, 6, 7, 8] rfl (by decide +kernel) ?_
                    refine AWA.take 0 rfl rfl rfl (by decide +kernel) (.on rfl rfl (Qt.fieldAddr rfl fl27_1 rfl rfl (by decide))) ?_
                    refine AWA.nrm (by first | (simp only [go_sem, Int.reduceToNat, Nat.reduceLT, reduceIte, Nat.reduceEqDiff, Nat.reduceAdd, Nat.reduceMul, Nat.reduceBEq, reduceCtorEq]; rfl) | rfl) ?_
                    refine AWA.take 1 rfl rfl rfl (by decide +kernel) (.on rfl rfl (Qt.load1 rfl rfl rfl ag22)) ?_
                    refine AWA.take 2 rfl rfl rfl (by decide +kernel) (.on rfl rfl (Qt.fieldAddr rfl fl74_1 rfl rfl (by decide))) ?_
                    refine AWA.take 3 rfl rfl rfl (by decide +kernel) (.on rfl rfl (Qt.load1 rfl rfl rfl ag3)) ?_
                    refine AWA.nrm (by first | (simp only [go_sem, Int.reduceToNat, Nat.reduceLT, reduceIte, Nat.reduceEqDiff, Nat.reduceAdd, Nat.reduceMul, Nat.reduceBEq, reduceCtorEq]; rfl) | rfl) ?_
                    refine AWA.take 4 rfl rfl rfl (by decide +kernel) (.on rfl rfl Qt.move) ?_
                    refine AWA.take 5 rfl rfl rfl (by decide +kernel) (.on rfl rfl Qt.move) ?_
                    refine AWA.take 6 rfl rfl rfl (by decide +kernel) (.on rfl rfl (Qt.indexAddr rfl rfl rfl rfl sl22 sz3 (by decide) (by omega))) ?_
                    refine AWA.nrm (by first | (simp only [go_sem, Int.reduceToNat, Nat.reduceLT, reduceIte, Nat.reduceEqDiff, Nat.reduceAdd, Nat.reduceMul, Nat.reduceBEq, reduceCtorEq]; rfl) | rfl) ?_
                    refine AWA.take 7 rfl rfl rfl (by decide +kernel) (.on rfl rfl (Qt.load1 rfl rfl rfl ag3)) ?_
                    refine AWA.take 8 rfl rfl rfl (by decide +kernel) (.on rfl rfl (Qt.indexAddr rfl rfl rfl rfl sl22 sz3 (by decide) (by omega))) ?_
                    refine AWA.one 9 [] [8, 7, 6, 5, 4, 3, 2, 1, 0] (by decide +kernel) rfl rfl rfl (by decide +kernel) (by decide +kernel) (by decide +kernel) (by first | exact Stp.storeA rfl rfl rfl rfl (by decide) rfl | exact Stp.store rfl rfl (by simp) rfl rfl rfl (by decide) rfl) ?_
                    refine AWA.nrm (by first | (simp only [go_sem, Int.reduceToNat, Nat.reduceLT, reduceIte, Nat.reduceEqDiff, Nat.reduceAdd, Nat.reduceMul, Nat.reduceBEq, reduceCtorEq]; rfl) | rfl) ?_
                    refine AWA.nrm (by first | (simp only [go_sem, Int.reduceToNat, Nat.reduceLT, reduceIte, Nat.reduceEqDiff, Nat.reduceAdd, Nat.reduceMul, Nat.reduceBEq, reduceCtorEq]; rfl) | rfl) ?_
                    refine AWA.nilE (by decide +kernel) (by first | (simp only [go_sem, Int.reduceToNat, Nat.reduceLT, reduceIte, Nat.reduceEqDiff, Nat.reduceAdd, Nat.reduceMul, Nat.reduceBEq, reduceCtorEq]; rfl) | rfl) ?_
                    try dsimp only [thenQ, blockQ]
                    refine AW.seq ?_
                    refine AW.draw [0, 1] rfl (by decide +kernel) ?_
                    refine AWA.take 0 rfl rfl rfl (by decide +kernel) (.on rfl rfl (Qt.loadG rfl rfl rfl ag27 sz27 (by decide))) ?_
                    refine AWA.take 1 rfl rfl rfl (by decide +kernel) (.on rfl rfl (Qt.loadG rfl rfl rfl ag69 sz69 (by decide))) ?_
                    refine AWA.one 2 [1] [0] (by decide +kernel) rfl rfl rfl (by decide +kernel) (by decide +kernel) (by decide +kernel) (by first | exact Stp.storeA rfl rfl rfl rfl (by decide) rfl | exact Stp.store rfl rfl (by simp) rfl rfl rfl (by decide) rfl) ?_
                    refine AWA.nrm (by first | (simp only [go_sem, Int.reduceToNat, Nat.reduceLT, reduceIte, Nat.reduceEqDiff, Nat.reduceAdd, Nat.reduceMul, Nat.reduceBEq, reduceCtorEq]; rfl) | rfl) ?_
                    refine AWA.againE rfl rfl (by decide +kernel) (.on rfl rfl (Qt.loadG rfl rfl rfl ag69 sz69 (by decide))) rfl ?_
                    refine AWA.nrm (by first | (simp only [go_sem, Int.reduceToNat, Nat.reduceLT, reduceIte, Nat.reduceEqDiff, Nat.reduceAdd, Nat.reduceMul, Nat.reduceBEq, reduceCtorEq]; rfl) | rfl) ?_
                    refine AWA.one 3 [] [2, 1, 0] (by decide +kernel) rfl rfl rfl (by decide +kernel) (by decide +kernel) (by decide +kernel) (by first | exact Stp.storeA rfl rfl rfl rfl (by decide) rfl | exact Stp.store rfl rfl (by simp) rfl rfl rfl (by decide) rfl) ?_
                    refine AWA.nrm (by first | (simp only [go_sem, Int.reduceToNat, Nat.reduceLT, reduceIte, Nat.reduceEqDiff, Nat.reduceAdd, Nat.reduceMul, Nat.reduceBEq, reduceCtorEq]; rfl) | rfl) ?_
                    refine AWA.nrm (by first | (simp only [go_sem, Int.reduceToNat, Nat.reduceLT, reduceIte, Nat.reduceEqDiff, Nat.reduceAdd, Nat.reduceMul, Nat.reduceBEq, reduceCtorEq]; rfl) | rfl) ?_
                    refine AWA.nilE (by decide +kernel) (by first | (simp only [go_sem, Int.reduceToNat, Nat.reduceLT, reduceIte, Nat.reduceEqDiff, Nat.reduceAdd, Nat.reduceMul, Nat.reduceBEq, reduceCtorEq]; rfl) | rfl) ?_
                    try dsimp only [thenQ, blockQ]
                    refine AW.ret ?_
                    try dsimp only [thenQ, blockQ]
                    refine endQ_ret (.cons (.cellG 6 27 rfl rfl rfl ag27 sz27 (by decide)) (.cons (.cellG 7 69 rfl rfl rfl ag69 sz69 (by decide)) .nil)) ?_
                    exfalso; omega
                  · have k20 := c20
                    try simp only [decide_eq_true_eq, decide_eq_false_iff_not, bne_iff_ne, ne_eq, beq_iff_eq, beq_eq_false_iff_ne, bne_eq_false_iff_eq, Bool.not_eq_true', Bool.not_eq_false', Bool.and_eq_true, Bool.or_eq_true, Bool.and_eq_false_iff, Bool.or_eq_false_iff, Int.not_lt, Int.not_le, Int.toNat_natCast] at c20
                    refine AW.draw [0, 1, 2, 3, 4, 5, 6, 7, 9] rfl (by decide +kernel) ?_
                    refine AWA.take 0 rfl rfl rfl (by decide +kernel) (.on rfl rfl Qt.move) ?_
                    refine AWA.take 1 rfl rfl rfl (by decide +kernel) (.on rfl rfl (Qt.fieldAddr rfl fl27_1 rfl rfl (by decide))) ?_
                    refine AWA.take 2 rfl rfl rfl (by decide +kernel) (.on rfl rfl (Qt.load1 rfl rfl rfl ag22)) ?_
                    refine AWA.nrm (by first | (simp only [go_sem, Int.reduceToNat, Nat.reduceLT, reduceIte, Nat.reduceEqDiff, Nat.reduceAdd, Nat.reduceMul, Nat.reduceBEq, reduceCtorEq]; rfl) | rfl) ?_
                    refine AWA.take 3 rfl rfl rfl (by decide +kernel) (.on rfl rfl (Qt.fieldAddr rfl fl74_1 rfl rfl (by decide))) ?_
                    refine AWA.take 4 rfl rfl rfl (by decide +kernel) (.on rfl rfl (Qt.load1 rfl rfl rfl ag3)) ?_
                    refine AWA.take 5 rfl rfl rfl (by decide +kernel) (.on rfl rfl (Qt.indexAddr rfl rfl rfl rfl sl22 sz3 (by decide) (by omega))) ?_
                    refine AWA.nrm (by first | (simp only [go_sem, Int.reduceToNat, Nat.reduceLT, reduceIte, Nat.reduceEqDiff, Nat.reduceAdd, Nat.reduceMul, Nat.reduceBEq, reduceCtorEq]; rfl) | rfl) ?_
                    refine AWA.take 6 rfl rfl rfl (by decide +kernel) (.on rfl rfl (Qt.load1 rfl rfl rfl ag3)) ?_
                    refine AWA.take 7 rfl rfl rfl (by decide +kernel) (.on rfl rfl (Qt.fieldAddr rfl fl69_1 rfl rfl (by decide))) ?_
                    refine AWA.one 8 [1, 2, 3, 4, 5, 6] [7, 0] (by decide +kernel) rfl rfl rfl (by decide +kernel) (by decide +kernel) (by decide +kernel) (by first | exact Stp.storeA rfl rfl rfl rfl (by decide) rfl | exact Stp.store rfl rfl (by simp) rfl rfl rfl (by decide) rfl) ?_
                    refine AWA.nrm (by first | (simp only [go_sem, Int.reduceToNat, Nat.reduceLT, reduceIte, Nat.reduceEqDiff, Nat.reduceAdd, Nat.reduceMul, Nat.reduceBEq, reduceCtorEq]; rfl) | rfl) ?_
                    refine AWA.againE rfl rfl (by decide +kernel) (.on rfl rfl (Qt.fieldAddr rfl fl27_1 rfl rfl (by decide))) rfl ?_
                    refine AWA.againE rfl rfl (by decide +kernel) (.on rfl rfl (Qt.load1 rfl rfl rfl ag22)) rfl ?_
                    refine AWA.againE rfl rfl (by decide +kernel) (.on rfl rfl (Qt.fieldAddr rfl fl74_1 rfl rfl (by decide))) rfl ?_
                    refine AWA.againE rfl rfl (by decide +kernel) (.on rfl rfl (Qt.load1 rfl rfl rfl ag3)) rfl ?_
                    refine AWA.againE rfl rfl (by decide +kernel) (.on rfl rfl (Qt.indexAddr rfl rfl rfl rfl sl22 sz3 (by decide) (by omega))) rfl ?_
                    refine AWA.againE rfl rfl (by decide +kernel) (.on rfl rfl (Qt.load1 rfl rfl rfl ag3)) rfl ?_
                    refine AWA.nrm (by first | (simp only [go_sem, Int.reduceToNat, Nat.reduceLT, reduceIte, Nat.reduceEqDiff, Nat.reduceAdd, Nat.reduceMul, Nat.reduceBEq, reduceCtorEq]; rfl) | rfl) ?_
                    refine AWA.take 9 rfl rfl rfl (by decide +kernel) (.on rfl rfl (Qt.fieldAddr rfl fl69_2 rfl rfl (by decide))) ?_
                    refine AWA.one 10 [] [9, 8, 7, 6, 5, 4, 3, 2, 1, 0] (by decide +kernel) rfl rfl rfl (by decide +kernel) (by decide +kernel) (by decide +kernel) (by first | exact Stp.storeA rfl rfl rfl rfl (by decide) rfl | exact Stp.store rfl rfl (by simp) rfl rfl rfl (by decide) rfl) ?_
                    refine AWA.nrm (by first | (simp only [go_sem, Int.reduceToNat, Nat.reduceLT, reduceIte, Nat.reduceEqDiff, Nat.reduceAdd, Nat.reduceMul, Nat.reduceBEq, reduceCtorEq]; rfl) | rfl) ?_
                    refine AWA.nrm (by first | (simp only [go_sem, Int.reduceToNat, Nat.reduceLT, reduceIte, Nat.reduceEqDiff, Nat.reduceAdd, Nat.reduceMul, Nat.reduceBEq, reduceCtorEq]; rfl) | rfl) ?_
                    refine AWA.nilE (by decide +kernel) (by first | (simp only [go_sem, Int.reduceToNat, Nat.reduceLT, reduceIte, Nat.reduceEqDiff, Nat.reduceAdd, Nat.reduceMul, Nat.reduceBEq, reduceCtorEq]; rfl) | rfl) ?_
                    try dsimp only [thenQ, blockQ]
                    refine AW.seq ?_
                    refine AW.draw [0, 1] rfl (by decide +kernel) ?_
                    refine AWA.take 0 rfl rfl rfl (by decide +kernel) (.on rfl rfl (Qt.loadG rfl rfl rfl ag27 sz27 (by decide))) ?_
                    refine AWA.take 1 rfl rfl rfl (by decide +kernel) (.on rfl rfl (Qt.loadG rfl rfl rfl ag69 sz69 (by decide))) ?_
                    refine AWA.one 2 [1] [0] (by decide +kernel) rfl rfl rfl (by decide +kernel) (by decide +kernel) (by decide +kernel) (by first | exact Stp.storeA rfl rfl rfl rfl (by decide) rfl | exact Stp.store rfl rfl (by simp) rfl rfl rfl (by decide) rfl) ?_
                    refine AWA.nrm (by first | (simp only [go_sem, Int.reduceToNat, Nat.reduceLT, reduceIte, Nat.reduceEqDiff, Nat.reduceAdd, Nat.reduceMul, Nat.reduceBEq, reduceCtorEq]; rfl) | rfl) ?_
                    refine AWA.againE rfl rfl (by decide +kernel) (.on rfl rfl (Qt.loadG rfl rfl rfl ag69 sz69 (by decide))) rfl ?_
                    refine AWA.nrm (by first | (simp only [go_sem, Int.reduceToNat, Nat.reduceLT, reduceIte, Nat.reduceEqDiff, Nat.reduceAdd, Nat.reduceMul, Nat.reduceBEq, reduceCtorEq]; rfl) | rfl) ?_
                    refine AWA.one 3 [] [2, 1, 0] (by decide +kernel) rfl rfl rfl (by decide +kernel) (by decide +kernel) (by decide +kernel) (by first | exact Stp.storeA rfl rfl rfl rfl (by decide) rfl | exact Stp.store rfl rfl (by simp) rfl rfl rfl (by decide) rfl) ?_
                    refine AWA.nrm (by first | (simp only [go_sem, Int.reduceToNat, Nat.reduceLT, reduceIte, Nat.reduceEqDiff, Nat.reduceAdd, Nat.reduceMul, Nat.reduceBEq, reduceCtorEq]; rfl) | rfl) ?_
                    refine AWA.nrm (by first | (simp only [go_sem, Int.reduceToNat, Nat.reduceLT, reduceIte, Nat.reduceEqDiff, Nat.reduceAdd, Nat.reduceMul, Nat.reduceBEq, reduceCtorEq]; rfl) | rfl) ?_
                    refine AWA.nilE (by decide +kernel) (by first | (simp only [go_sem, Int.reduceToNat, Nat.reduceLT, reduceIte, Nat.reduceEqDiff, Nat.reduceAdd, Nat.reduceMul, Nat.reduceBEq, reduceCtorEq]; rfl) | rfl) ?_
                    try dsimp only [thenQ, blockQ]
                    refine AW.ret ?_
                    try dsimp only [thenQ, blockQ]
                    refine endQ_ret (.cons (.cellG 6 27 rfl rfl rfl ag27 sz27 (by decide)) (.cons (.cellG 7 69 rfl rfl rfl ag69 sz69 (by decide)) .nil)) ?_
                    rw [hm, show execC p c mem = (⟨c.Pc + 1, c.Regs⟩, ⟨0, (c.Regs.getD (p.getD c.Pc.toNat En.dflt).B.toNat En.dflt), (c.Regs.getD (p.getD c.Pc.toNat En.dflt).A.toNat En.dflt), 0⟩) from hE.trans (by unfold core; repeat (first | rw [if_pos (by omega)] | rw [if_neg (by omega)]))]
                    refine ⟨fun _ => 49, rfl, nodup_of rfl, ?_⟩
                    intro r hr
                    cases List.mem_singleton.1 hr
                    exact ⟨by simp, rootL_mem rfl⟩
              · have k18 := c18
                try simp only [decide_eq_true_eq, decide_eq_false_iff_not, bne_iff_ne, ne_eq, beq_iff_eq, beq_eq_false_iff_ne, bne_eq_false_iff_eq, Bool.not_eq_true', Bool.not_eq_false', Bool.and_eq_true, Bool.or_eq_true, Bool.and_eq_false_iff, Bool.or_eq_false_iff, Int.not_lt, Int.not_le, Int.toNat_natCast] at c18
                refine AW.seq ?_
                refine AW.region ?_
                refine AWL.q rfl rfl rfl (by decide) (Qt.binOp rfl rfl rfl) ?_
                refine AWL.q rfl rfl rfl (by decide) Qt.assign ?_
                refine AWL.nilE (by simp only [go_sem, Int.reduceToNat, Nat.reduceLT, reduceIte, Nat.reduceEqDiff, Nat.reduceAdd, Nat.reduceMul, Nat.reduceBEq, reduceCtorEq]; rfl) ?_
                try dsimp only [thenQ, blockQ]
                refine AW.cond rfl (fun c21 => ?_) (fun c21 => ?_)
                · have k21 := c21
                  try simp only [decide_eq_true_eq, decide_eq_false_iff_not, bne_iff_ne, ne_eq, beq_iff_eq, beq_eq_false_iff_ne, bne_eq_false_iff_eq, Bool.not_eq_true', Bool.not_eq_false', Bool.and_eq_true, Bool.or_eq_true, Bool.and_eq_false_iff, Bool.or_eq_false_iff, Int.not_lt, Int.not_le, Int.toNat_natCast] at c21
                  refine AW.region ?_
                  refine AWL.q rfl rfl rfl (by decide) (Qt.fieldAddr rfl fl74_1 rfl rfl (by decide)) ?_
                  refine AWL.nrm (by simp only [go_sem, Int.reduceToNat, Nat.reduceLT, reduceIte, Nat.reduceEqDiff, Nat.reduceAdd, Nat.reduceMul, Nat.reduceBEq, reduceCtorEq]; rfl) ?_
                  refine AWL.q rfl rfl rfl (by decide) (Qt.load1 rfl rfl rfl ag3) ?_
                  refine AWL.q rfl rfl rfl (by decide) (Qt.fieldAddr rfl fl27_0 rfl rfl (by decide)) ?_
                  refine AWL.step rfl rfl (by first | exact Stp.storeA rfl rfl rfl rfl (by decide) rfl | exact Stp.store rfl rfl (by simp) rfl rfl rfl (by decide) rfl) ?_
                  refine AWL.nilE (by simp only [go_sem, Int.reduceToNat, Nat.reduceLT, reduceIte, Nat.reduceEqDiff, Nat.reduceAdd, Nat.reduceMul, Nat.reduceBEq, reduceCtorEq]; rfl) ?_
                  try dsimp only [thenQ, blockQ]
                  refine AW.seq ?_
                  refine AW.draw [0, 1] rfl (by decide +kernel) ?_
                  refine AWA.take 0 rfl rfl rfl (by decide +kernel) (.on rfl rfl (Qt.loadG rfl rfl rfl ag27 sz27 (by decide))) ?_
                  refine AWA.nrm (by first | (simp only [go_sem, Int.reduceToNat, Nat.reduceLT, reduceIte, Nat.reduceEqDiff, Nat.reduceAdd, Nat.reduceMul, Nat.reduceBEq, reduceCtorEq]; rfl) | rfl) ?_
                  refine AWA.take 1 rfl rfl rfl (by decide +kernel) (.on rfl rfl (Qt.loadG rfl rfl rfl ag69 sz69 (by decide))) ?_
                  refine AWA.one 2 [1] [0] (by decide +kernel) rfl rfl rfl (by decide +kernel) (by decide +kernel) (by decide +kernel) (by first | exact Stp.storeA rfl rfl rfl rfl (by decide) rfl | exact Stp.store rfl rfl (by simp) rfl rfl rfl (by decide) rfl) ?_
                  refine AWA.nrm (by first | (simp only [go_sem, Int.reduceToNat, Nat.reduceLT, reduceIte, Nat.reduceEqDiff, Nat.reduceAdd, Nat.reduceMul, Nat.reduceBEq, reduceCtorEq]; rfl) | rfl) ?_
                  refine AWA.againE rfl rfl (by decide +kernel) (.on rfl rfl (Qt.loadG rfl rfl rfl ag69 sz69 (by decide))) rfl ?_
                  refine AWA.nrm (by first | (simp only [go_sem, Int.reduceToNat, Nat.reduceLT, reduceIte, Nat.reduceEqDiff, Nat.reduceAdd, Nat.reduceMul, Nat.reduceBEq, reduceCtorEq]; rfl) | rfl) ?_
                  refine AWA.one 3 [] [2, 1, 0] (by decide +kernel) rfl rfl rfl (by decide +kernel) (by decide +kernel) (by decide +kernel) (by first | exact Stp.storeA rfl rfl rfl rfl (by decide) rfl | exact Stp.store rfl rfl (by simp) rfl rfl rfl (by decide) rfl) ?_
                  refine AWA.nrm (by first | (simp only [go_sem, Int.reduceToNat, Nat.reduceLT, reduceIte, Nat.reduceEqDiff, Nat.reduceAdd, Nat.reduceMul, Nat.reduceBEq, reduceCtorEq]; rfl) | rfl) ?_
                  refine AWA.nrm (by first | (simp only [go_sem, Int.reduceToNat, Nat.reduceLT, reduceIte, Nat.reduceEqDiff, Nat.reduceAdd, Nat.reduceMul, Nat.reduceBEq, reduceCtorEq]; rfl) | rfl) ?_
                  refine AWA.nilE (by decide +kernel) (by first | (simp only [go_sem, Int.reduceToNat, Nat.reduceLT, reduceIte, Nat.reduceEqDiff, Nat.reduceAdd, Nat.reduceMul, Nat.reduceBEq, reduceCtorEq]; rfl) | rfl) ?_
                  try dsimp only [thenQ, blockQ]
                  refine AW.ret ?_
                  try dsimp only [thenQ, blockQ]
                  refine endQ_ret (.cons (.cellG 6 27 rfl rfl rfl ag27 sz27 (by decide)) (.cons (.cellG 7 69 rfl rfl rfl ag69 sz69 (by decide)) .nil)) ?_
                  rw [hm, show execC p c mem = (⟨(p.getD c.Pc.toNat En.dflt).A, c.Regs⟩, didNone) from hE.trans (by unfold core; repeat (first | rw [if_pos (by omega)] | rw [if_neg (by omega)]))]
                  refine ⟨fun _ => 49, rfl, nodup_of rfl, ?_⟩
                  intro r hr
                  cases List.mem_singleton.1 hr
                  exact ⟨by simp, rootL_mem rfl⟩
                · have k21 := c21
                  try simp only [decide_eq_true_eq, decide_eq_false_iff_not, bne_iff_ne, ne_eq, beq_iff_eq, beq_eq_false_iff_ne, bne_eq_false_iff_eq, Bool.not_eq_true', Bool.not_eq_false', Bool.and_eq_true, Bool.or_eq_true, Bool.and_eq_false_iff, Bool.or_eq_false_iff, Int.not_lt, Int.not_le, Int.toNat_natCast] at c21
                  refine AW.seq ?_
                  refine AW.region ?_
                  refine AWL.q rfl rfl rfl (by decide) (Qt.binOp rfl rfl rfl) ?_
                  refine AWL.q rfl rfl rfl (by decide) Qt.assign ?_
                  refine AWL.nilE (by simp only [go_sem, Int.reduceToNat, Nat.reduceLT, reduceIte, Nat.reduceEqDiff, Nat.reduceAdd, Nat.reduceMul, Nat.reduceBEq, reduceCtorEq]; rfl) ?_
                  try dsimp only [thenQ, blockQ]
                  refine AW.cond rfl (fun c22 => ?_) (fun c22 => ?_)
                  · have k22 := c22
                    try simp only [decide_eq_true_eq, decide_eq_false_iff_not, bne_iff_ne, ne_eq, beq_iff_eq, beq_eq_false_iff_ne, bne_eq_false_iff_eq, Bool.not_eq_true', Bool.not_eq_false', Bool.and_eq_true, Bool.or_eq_true, Bool.and_eq_false_iff, Bool.or_eq_false_iff, Int.not_lt, Int.not_le, Int.toNat_natCast] at c22
                    refine AW.seq ?_
                    refine AW.region ?_
                    refine AWL.q rfl rfl rfl (by decide) (Qt.fieldAddr rfl fl27_1 rfl rfl (by decide)) ?_
                    refine AWL.nrm (by simp only [go_sem, Int.reduceToNat, Nat.reduceLT, reduceIte, Nat.reduceEqDiff, Nat.reduceAdd, Nat.reduceMul, Nat.reduceBEq, reduceCtorEq]; rfl) ?_
                    refine AWL.q rfl rfl rfl (by decide) (Qt.load1 rfl rfl rfl ag22) ?_
                    refine AWL.q rfl rfl rfl (by decide) (Qt.fieldAddr rfl fl74_1 rfl rfl (by decide)) ?_
                    refine AWL.q rfl rfl rfl (by decide) (Qt.load1 rfl rfl rfl ag3) ?_
                    refine AWL.nrm (by simp only [go_sem, Int.reduceToNat, Nat.reduceLT, reduceIte, Nat.reduceEqDiff, Nat.reduceAdd, Nat.reduceMul, Nat.reduceBEq, reduceCtorEq]; rfl) ?_
                    refine AWL.q rfl rfl rfl (by decide) (Qt.indexAddr rfl rfl rfl rfl sl22 sz3 (by decide) (by omega)) ?_
                    refine AWL.q rfl rfl rfl (by decide) (Qt.load1 rfl rfl rfl ag3) ?_
                    refine AWL.q rfl rfl rfl (by decide) (Qt.binOp rfl rfl rfl) ?_
                    refine AWL.nilE (by simp only [go_sem, Int.reduceToNat, Nat.reduceLT, reduceIte, Nat.reduceEqDiff, Nat.reduceAdd, Nat.reduceMul, Nat.reduceBEq, reduceCtorEq]; rfl) ?_
                    try dsimp only [thenQ, blockQ]
                    refine AW.cond rfl (fun c23 => ?_) (fun c23 => ?_)
                    · have k23 := c23
                      try simp only [decide_eq_true_eq, decide_eq_false_iff_not, bne_iff_ne, ne_eq, beq_iff_eq, beq_eq_false_iff_ne, bne_eq_false_iff_eq, Bool.not_eq_true', Bool.not_eq_false', Bool.and_eq_true, Bool.or_eq_true, Bool.and_eq_false_iff, Bool.or_eq_false_iff, Int.not_lt, Int.not_le, Int.toNat_natCast] at c23
                      refine AW.region ?_
                      refine AWL.q rfl rfl rfl (by decide) (Qt.fieldAddr rfl fl74_2 rfl rfl (by decide)) ?_
                      refine AWL.nrm (by simp only [go_sem, Int.reduceToNat, Nat.reduceLT, reduceIte, Nat.reduceEqDiff, Nat.reduceAdd, Nat.reduceMul, Nat.reduceBEq, reduceCtorEq]; rfl) ?_
                      refine AWL.q rfl rfl rfl (by decide) (Qt.load1 rfl rfl rfl ag3) ?_
                      refine AWL.q rfl rfl rfl (by decide) (Qt.fieldAddr rfl fl27_0 rfl rfl (by decide)) ?_
                      refine AWL.step rfl rfl (by first | exact Stp.storeA rfl rfl rfl rfl (by decide) rfl | exact Stp.store rfl rfl (by simp) rfl rfl rfl (by decide) rfl) ?_
                      refine AWL.nilE (by simp only [go_sem, Int.reduceToNat, Nat.reduceLT, reduceIte, Nat.reduceEqDiff, Nat.reduceAdd, Nat.reduceMul, Nat.reduceBEq, reduceCtorEq]; rfl) ?_
                      try dsimp only [thenQ, blockQ]
                      refine AW.seq ?_
                      refine AW.draw [0, 1] rfl (by decide +kernel) ?_
                      refine AWA.take 0 rfl rfl rfl (by decide +kernel) (.on rfl rfl (Qt.loadG rfl rfl rfl ag27 sz27 (by decide))) ?_
                      refine AWA.nrm (by first | (simp only [go_sem, Int.reduceToNat, Nat.reduceLT, reduceIte, Nat.reduceEqDiff, Nat.reduceAdd, Nat.reduceMul, Nat.reduceBEq, reduceCtorEq]; rfl) | rfl) ?_
                      refine AWA.take 1 rfl rfl rfl (by decide +kernel) (.on rfl rfl (Qt.loadG rfl rfl rfl ag69 sz69 (by decide))) ?_
                      refine AWA.one 2 [1] [0] (by decide +kernel) rfl rfl rfl (by decide +kernel) (by decide +kernel) (by decide +kernel) (by first | exact Stp.storeA rfl rfl rfl rfl (by decide) rfl | exact Stp.store rfl rfl (by simp) rfl rfl rfl (by decide) rfl) ?_
                      refine AWA.nrm (by first | (simp only [go_sem, Int.reduceToNat, Nat.reduceLT, reduceIte, Nat.reduceEqDiff, Nat.reduceAdd, Nat.reduceMul, Nat.reduceBEq, reduceCtorEq]; rfl) | rfl) ?_
                      refine AWA.againE rfl rfl (by decide +kernel) (.on rfl rfl (Qt.loadG rfl rfl rfl ag69 sz69 (by decide))) rfl ?_
                      refine AWA.nrm (by first | (simp only [go_sem, Int.reduceToNat, Nat.reduceLT, reduceIte, Nat.reduceEqDiff, Nat.reduceAdd, Nat.reduceMul, Nat.reduceBEq, reduceCtorEq]; rfl) | rfl) ?_
                      refine AWA.one 3 [] [2, 1, 0] (by decide +kernel) rfl rfl rfl (by decide +kernel) (by decide +kernel) (by decide +kernel) (by first | exact Stp.storeA rfl rfl rfl rfl (by decide) rfl | exact Stp.store rfl rfl (by simp) rfl rfl rfl (by decide) rfl) ?_
                      refine AWA.nrm (by first | (simp only [go_sem, Int.reduceToNat, Nat.reduceLT, reduceIte, Nat.reduceEqDiff, Nat.reduceAdd, Nat.reduceMul, Nat.reduceBEq, reduceCtorEq]; rfl) | rfl) ?_
                      refine AWA.nrm (by first | (simp only [go_sem, Int.reduceToNat, Nat.reduceLT, reduceIte, Nat.reduceEqDiff, Nat.reduceAdd, Nat.reduceMul, Nat.reduceBEq, reduceCtorEq]; rfl) | rfl) ?_
                      refine AWA.nilE (by decide +kernel) (by first | (simp only [go_sem, Int.reduceToNat, Nat.reduceLT, reduceIte, Nat.reduceEqDiff, Nat.reduceAdd, Nat.reduceMul, Nat.reduceBEq, reduceCtorEq]; rfl) | rfl) ?_
                      try dsimp only [thenQ, blockQ]
                      refine AW.ret ?_
                      try dsimp only [thenQ, blockQ]
                      refine endQ_ret (.cons (.cellG 6 27 rfl rfl rfl ag27 sz27 (by decide)) (.cons (.cellG 7 69 rfl rfl rfl ag69 sz69 (by decide)) .nil)) ?_
                      rw [hm, show execC p c mem = (⟨(p.getD c.Pc.toNat En.dflt).B, c.Regs⟩, didNone) from hE.trans (by unfold core; repeat (first | rw [if_pos (by omega)] | rw [if_neg (by omega)]))]
                      refine ⟨fun _ => 49, rfl, nodup_of rfl, ?_⟩
                      intro r hr
                      cases List.mem_singleton.1 hr
                      exact ⟨by simp, rootL_mem rfl⟩
                    · have k23 := c23
                      try simp only [decide_eq_true_eq, decide_eq_false_iff_not, bne_iff_ne, ne_eq, beq_iff_eq, beq_eq_false_iff_ne, bne_eq_false_iff_eq, Bool.not_eq_true', Bool.not_eq_false', Bool.and_eq_true, Bool.or_eq_true, Bool.and_eq_false_iff, Bool.or_eq_false_iff, Int.not_lt, Int.not_le, Int.toNat_natCast] at c23
                      refine AW.skip ?_
                      dsimp only [thenQ, blockQ]
                      refine AW.seq ?_
                      refine AW.draw [0, 1] rfl (by decide +kernel) ?_
                      refine AWA.take 0 rfl rfl rfl (by decide +kernel) (.on rfl rfl (Qt.loadG rfl rfl rfl ag27 sz27 (by decide))) ?_
                      refine AWA.take 1 rfl rfl rfl (by decide +kernel) (.on rfl rfl (Qt.loadG rfl rfl rfl ag69 sz69 (by decide))) ?_
                      refine AWA.one 2 [1] [0] (by decide +kernel) rfl rfl rfl (by decide +kernel) (by decide +kernel) (by decide +kernel) (by first | exact Stp.storeA rfl rfl rfl rfl (by decide) rfl | exact Stp.store rfl rfl (by simp) rfl rfl rfl (by decide) rfl) ?_
                      refine AWA.nrm (by first | (simp only [go_sem, Int.reduceToNat, Nat.reduceLT, reduceIte, Nat.reduceEqDiff, Nat.reduceAdd, Nat.reduceMul, Nat.reduceBEq, reduceCtorEq]; rfl) | rfl) ?_
                      refine AWA.againE rfl rfl (by decide +kernel) (.on rfl rfl (Qt.loadG rfl rfl rfl ag69 sz69 (by decide))) rfl ?_
                      refine AWA.nrm (by first | (simp only [go_sem, Int.reduceToNat, Nat.reduceLT, reduceIte, Nat.reduceEqDiff, Nat.reduceAdd, Nat.reduceMul, Nat.reduceBEq, reduceCtorEq]; rfl) | rfl) ?_
                      refine AWA.one 3 [] [2, 1, 0] (by decide +kernel) rfl rfl rfl (by decide +kernel) (by decide +kernel) (by decide +kernel) (by first | exact Stp.storeA rfl rfl rfl rfl (by decide) rfl | exact Stp.store rfl rfl (by simp) rfl rfl rfl (by decide) rfl) ?_
                      refine AWA.nrm (by first | (simp only [go_sem, Int.reduceToNat, Nat.reduceLT, reduceIte, Nat.reduceEqDiff, Nat.reduceAdd, Nat.reduceMul, Nat.reduceBEq, reduceCtorEq]; rfl) | rfl) ?_
                      refine AWA.nrm (by first | (simp only [go_sem, Int.reduceToNat, Nat.reduceLT, reduceIte, Nat.reduceEqDiff, Nat.reduceAdd, Nat.reduceMul, Nat.reduceBEq, reduceCtorEq]; rfl) | rfl) ?_
                      refine AWA.nilE (by decide +kernel) (by first | (simp only [go_sem, Int.reduceToNat, Nat.reduceLT, reduceIte, Nat.reduceEqDiff, Nat.reduceAdd, Nat.reduceMul, Nat.reduceBEq, reduceCtorEq]; rfl) | rfl) ?_
                      try dsimp only [thenQ, blockQ]
                      refine AW.ret ?_
                      try dsimp only [thenQ, blockQ]
                      refine endQ_ret (.cons (.cellG 6 27 rfl rfl rfl ag27 sz27 (by decide)) (.cons (.cellG 7 69 rfl rfl rfl ag69 sz69 (by decide)) .nil)) ?_
                      rw [hm, show execC p c mem = (⟨c.Pc + 1, c.Regs⟩, didNone) from hE.trans (by unfold core; repeat (first | rw [if_pos (by omega)] | rw [if_neg (by omega)]))]
                      refine ⟨fun _ => 49, rfl, nodup_of rfl, ?_⟩
                      intro r hr
                      cases List.mem_singleton.1 hr
                      exact ⟨by simp, rootL_mem rfl⟩
                  · have k22 := c22
                    try simp only [decide_eq_true_eq, decide_eq_false_iff_not, bne_iff_ne, ne_eq, beq_iff_eq, beq_eq_false_iff_ne, bne_eq_false_iff_eq, Bool.not_eq_true', Bool.not_eq_false', Bool.and_eq_true, Bool.or_eq_true, Bool.and_eq_false_iff, Bool.or_eq_false_iff, Int.not_lt, Int.not_le, Int.toNat_natCast] at c22
                    refine AW.seq ?_
                    refine AW.region ?_
                    refine AWL.q rfl rfl rfl (by decide) (Qt.binOp rfl rfl rfl) ?_
                    refine AWL.q rfl rfl rfl (by decide) Qt.assign ?_
                    refine AWL.nilE (by simp only [go_sem, Int.reduceToNat, Nat.reduceLT, reduceIte, Nat.reduceEqDiff, Nat.reduceAdd, Nat.reduceMul, Nat.reduceBEq, reduceCtorEq]; rfl) ?_
                    try dsimp only [thenQ, blockQ]
                    refine AW.cond rfl (fun c24 => ?_) (fun c24 => ?_)
                    · have k24 := c24
                      try simp only [decide_eq_true_eq, decide_eq_false_iff_not, bne_iff_ne, ne_eq, beq_iff_eq, beq_eq_false_iff_ne, bne_eq_false_iff_eq, Bool.not_eq_true', Bool.not_eq_false', Bool.and_eq_true, Bool.or_eq_true, Bool.and_eq_false_iff, Bool.or_eq_false_iff, Int.not_lt, Int.not_le, Int.toNat_natCast] at c24
                      refine AW.draw [0, 1, 2, 4] rfl (by decide +kernel) ?_
                      refine AWA.take 0 rfl rfl rfl (by decide +kernel) (.on rfl rfl (Qt.fieldAddr rfl fl74_1 rfl rfl (by decide))) ?_
                      refine AWA.nrm (by first | (simp only [go_sem, Int.reduceToNat, Nat.reduceLT, reduceIte, Nat.reduceEqDiff, Nat.reduceAdd, Nat.reduceMul, Nat.reduceBEq, reduceCtorEq]; rfl) | rfl) ?_
                      refine AWA.take 1 rfl rfl rfl (by decide +kernel) (.on rfl rfl (Qt.load1 rfl rfl rfl ag3)) ?_
                      refine AWA.take 2 rfl rfl rfl (by decide +kernel) (.on rfl rfl (Qt.fieldAddr rfl fl69_0 rfl rfl (by decide))) ?_
                      refine AWA.one 3 [0, 1] [2] (by decide +kernel) rfl rfl rfl (by decide +kernel) (by decide +kernel) (by decide +kernel) (by first | exact Stp.storeA rfl rfl rfl rfl (by decide) rfl | exact Stp.store rfl rfl (by simp) rfl rfl rfl (by decide) rfl) ?_
                      refine AWA.nrm (by first | (simp only [go_sem, Int.reduceToNat, Nat.reduceLT, reduceIte, Nat.reduceEqDiff, Nat.reduceAdd, Nat.reduceMul, Nat.reduceBEq, reduceCtorEq]; rfl) | rfl) ?_
                      refine AWA.againE rfl rfl (by decide +kernel) (.on rfl rfl (Qt.fieldAddr rfl fl74_1 rfl rfl (by decide))) rfl ?_
                      refine AWA.againE rfl rfl (by decide +kernel) (.on rfl rfl (Qt.load1 rfl rfl rfl ag3)) rfl ?_
                      refine AWA.nrm (by first | (simp only [go_sem, Int.reduceToNat, Nat.reduceLT, reduceIte, Nat.reduceEqDiff, Nat.reduceAdd, Nat.reduceMul, Nat.reduceBEq, reduceCtorEq]; rfl) | rfl) ?_
                      refine AWA.take 4 rfl rfl rfl (by decide +kernel) (.on rfl rfl (Qt.fieldAddr rfl fl69_3 rfl rfl (by decide))) ?_
                      refine AWA.one 5 [] [4, 3, 2, 1, 0] (by decide +kernel) rfl rfl rfl (by decide +kernel) (by decide +kernel) (by decide +kernel) (by first | exact Stp.storeA rfl rfl rfl rfl (by decide) rfl | exact Stp.store rfl rfl (by simp) rfl rfl rfl (by decide) rfl) ?_
                      refine AWA.nrm (by first | (simp only [go_sem, Int.reduceToNat, Nat.reduceLT, reduceIte, Nat.reduceEqDiff, Nat.reduceAdd, Nat.reduceMul, Nat.reduceBEq, reduceCtorEq]; rfl) | rfl) ?_
                      refine AWA.nrm (by first | (simp only [go_sem, Int.reduceToNat, Nat.reduceLT, reduceIte, Nat.reduceEqDiff, Nat.reduceAdd, Nat.reduceMul, Nat.reduceBEq, reduceCtorEq]; rfl) | rfl) ?_
                      refine AWA.nilE (by decide +kernel) (by first | (simp only [go_sem, Int.reduceToNat, Nat.reduceLT, reduceIte, Nat.reduceEqDiff, Nat.reduceAdd, Nat.reduceMul, Nat.reduceBEq, reduceCtorEq]; rfl) | rfl) ?_
                      try dsimp only [thenQ, blockQ]
                      refine AW.seq ?_
                      refine AW.draw [0, 1] rfl (by decide +kernel) ?_
                      refine AWA.take 0 rfl rfl rfl (by decide +kernel) (.on rfl rfl (Qt.loadG rfl rfl rfl ag27 sz27 (by decide))) ?_
                      refine AWA.take 1 rfl rfl rfl (by decide +kernel) (.on rfl rfl (Qt.loadG rfl rfl rfl ag69 sz69 (by decide))) ?_
                      refine AWA.one 2 [1] [0] (by decide +kernel) rfl rfl rfl (by decide +kernel) (by decide +kernel) (by decide +kernel) (by first | exact Stp.storeA rfl rfl rfl rfl (by decide) rfl | exact Stp.store rfl rfl (by simp) rfl rfl rfl (by decide) rfl) ?_
                      refine AWA.nrm (by first | (simp only [go_sem, Int.reduceToNat, Nat.reduceLT, reduceIte, Nat.reduceEqDiff, Nat.reduceAdd, Nat.reduceMul, Nat.reduceBEq, reduceCtorEq]; rfl) | rfl) ?_
                      refine AWA.againE rfl rfl (by decide +kernel) (.on rfl rfl (Qt.loadG rfl rfl rfl ag69 sz69 (by decide))) rfl ?_
                      refine AWA.nrm (by first | (simp only [go_sem, Int.reduceToNat, Nat.reduceLT, reduceIte, Nat.reduceEqDiff, Nat.reduceAdd, Nat.reduceMul, Nat.reduceBEq, reduceCtorEq]; rfl) | rfl) ?_
                      refine AWA.one 3 [] [2, 1, 0] (by decide +kernel) rfl rfl rfl (by decide +kernel) (by decide +kernel) (by decide +kernel) (by first | exact Stp.storeA rfl rfl rfl rfl (by decide) rfl | exact Stp.store rfl rfl (by simp) rfl rfl rfl (by decide) rfl) ?_
                      refine AWA.nrm (by first | (simp only [go_sem, Int.reduceToNat, Nat.reduceLT, reduceIte, Nat.reduceEqDiff, Nat.reduceAdd, Nat.reduceMul, Nat.reduceBEq, reduceCtorEq]; rfl) | rfl) ?_
                      refine AWA.nrm (by first | (simp only [go_sem, Int.reduceToNat, Nat.reduceLT, reduceIte, Nat.reduceEqDiff, Nat.reduceAdd, Nat.reduceMul, Nat.reduceBEq, reduceCtorEq]; rfl) | rfl) ?_
                      refine AWA.nilE (by decide +kernel) (by first | (simp only [go_sem, Int.reduceToNat, Nat.reduceLT, reduceIte, Nat.reduceEqDiff, Nat.reduceAdd, Nat.reduceMul, Nat.reduceBEq, reduceCtorEq]; rfl) | rfl) ?_
                      try dsimp only [thenQ, blockQ]
                      refine AW.ret ?_
                      try dsimp only [thenQ, blockQ]
                      refine endQ_ret (.cons (.cellG 6 27 rfl rfl rfl ag27 sz27 (by decide)) (.cons (.cellG 7 69 rfl rfl rfl ag69 sz69 (by decide)) .nil)) ?_
                      rw [hm, show execC p c mem = (⟨c.Pc + 1, c.Regs⟩, ⟨1, -1, 0, (p.getD c.Pc.toNat En.dflt).A⟩) from hE.trans (by unfold core; repeat (first | rw [if_pos (by omega)] | rw [if_neg (by omega)]))]
                      refine ⟨fun _ => 49, rfl, nodup_of rfl, ?_⟩
                      intro r hr
                      cases List.mem_singleton.1 hr
                      exact ⟨by simp, rootL_mem rfl⟩
                    · have k24 := c24
                      try simp only [decide_eq_true_eq, decide_eq_false_iff_not, bne_iff_ne, ne_eq, beq_iff_eq, beq_eq_false_iff_ne, bne_eq_false_iff_eq, Bool.not_eq_true', Bool.not_eq_false', Bool.and_eq_true, Bool.or_eq_true, Bool.and_eq_false_iff, Bool.or_eq_false_iff, Int.not_lt, Int.not_le, Int.toNat_natCast] at c24
                      refine AW.skip ?_
                      dsimp only [thenQ, blockQ]
                      refine AW.seq ?_
                      refine AW.draw [0, 1] rfl (by decide +kernel) ?_
                      refine AWA.take 0 rfl rfl rfl (by decide +kernel) (.on rfl rfl (Qt.loadG rfl rfl rfl ag27 sz27 (by decide))) ?_
                      refine AWA.take 1 rfl rfl rfl (by decide +kernel) (.on rfl rfl (Qt.loadG rfl rfl rfl ag69 sz69 (by decide))) ?_
                      refine AWA.one 2 [1] [0] (by decide +kernel) rfl rfl rfl (by decide +kernel) (by decide +kernel) (by decide +kernel) (by first | exact Stp.storeA rfl rfl rfl rfl (by decide) rfl | exact Stp.store rfl rfl (by simp) rfl rfl rfl (by decide) rfl) ?_
                      refine AWA.nrm (by first | (simp only [go_sem, Int.reduceToNat, Nat.reduceLT, reduceIte, Nat.reduceEqDiff, Nat.reduceAdd, Nat.reduceMul, Nat.reduceBEq, reduceCtorEq]; rfl) | rfl) ?_
                      refine AWA.againE rfl rfl (by decide +kernel) (.on rfl rfl (Qt.loadG rfl rfl rfl ag69 sz69 (by decide))) rfl ?_
                      refine AWA.nrm (by first | (simp only [go_sem, Int.reduceToNat, Nat.reduceLT, reduceIte, Nat.reduceEqDiff, Nat.reduceAdd, Nat.reduceMul, Nat.reduceBEq, reduceCtorEq]; rfl) | rfl) ?_
                      refine AWA.one 3 [] [2, 1, 0] (by decide +kernel) rfl rfl rfl (by decide +kernel) (by decide +kernel) (by decide +kernel) (by first | exact Stp.storeA rfl rfl rfl rfl (by decide) rfl | exact Stp.store rfl rfl (by simp) rfl rfl rfl (by decide) rfl) ?_
                      refine AWA.nrm (by first | (simp only [go_sem, Int.reduceToNat, Nat.reduceLT, reduceIte, Nat.reduceEqDiff, Nat.reduceAdd, Nat.reduceMul, Nat.reduceBEq, reduceCtorEq]; rfl) | rfl) ?_
                      refine AWA.nrm (by first | (simp only [go_sem, Int.reduceToNat, Nat.reduceLT, reduceIte, Nat.reduceEqDiff, Nat.reduceAdd, Nat.reduceMul, Nat.reduceBEq, reduceCtorEq]; rfl) | rfl) ?_
                      refine AWA.nilE (by decide +kernel) (by first | (simp only [go_sem, Int.reduceToNat, Nat.reduceLT, reduceIte, Nat.reduceEqDiff, Nat.reduceAdd, Nat.reduceMul, Nat.reduceBEq, reduceCtorEq]; rfl) | rfl) ?_
                      try dsimp only [thenQ, blockQ]
                      refine AW.ret ?_
                      try dsimp only [thenQ, blockQ]
                      refine endQ_ret (.cons (.cellG 6 27 rfl rfl rfl ag27 sz27 (by decide)) (.cons (.cellG 7 69 rfl rfl rfl ag69 sz69 (by decide)) .nil)) ?_
                      exfalso; omega
end Go.Proofs.Ytjfojlaoiifppaa.VM
