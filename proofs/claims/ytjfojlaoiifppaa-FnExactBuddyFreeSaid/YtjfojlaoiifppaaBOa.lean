/- Contracts of functions of the program. No conditions beyond those that each states. -/
import Derived.Test.YtjfojlaoiifppaaBPl
import Derived.Test.YtjfojlaoiifppaaCpu
set_option linter.all false
namespace Go.Proofs.Ytjfojlaoiifppaa.VM
open Go Go.RowKit Go.Proofs
theorem has_all (l : List Int) (v : Int) : decide (v ∈ l) = !(l.all fun x => !decide (x = v)) := by
  rw [Bool.eq_iff_iff]
  simp
theorem any_has (l : List Int) (v : Int) : (l.any fun x => v == x) = decide (v ∈ l) := by
  rw [Bool.eq_iff_iff]
  simp
theorem bits_xor4 : ∀ n : Nat, n < 16 → ∀ k : Nat, k < 4 → bits .xor .i64 (n : Int) ((2 ^ k : Nat) : Int) = (((n ^^^ (2 ^ k) : Nat) : Nat) : Int) := by decide +kernel
theorem pbXorN (n : Nat) (hn : n < 16) (k : Nat) (hk : k < 4) : pureBin .xor (iv (n : Int)) (iv ((2 ^ k : Nat) : Int)) = some (iv (((n ^^^ (2 ^ k) : Nat) : Nat) : Int)) := by
  show some (Value.int .i64 (bits .xor .i64 (n : Int) ((2 ^ k : Nat) : Int))) = _
  rw [bits_xor4 n hn k hk]

set_option maxRecDepth 10000 in
theorem l15Len_con (k : Nat) (hk : k ≤ 5) : Con Try.prog 82 [.v (iv k)] [] (fun y _ => y = .v (iv ((2 ^ k : Nat) : Int))) := by
  refine Con.of_body Try.func82 rfl (by simp) ?_
  rw [Try.ntmps82]
  refine AW.seq ?_
  refine AW.region ?_
  refine AWL.q rfl rfl rfl (by decide) Qt.assign ?_
  refine AWL.nilE (by simp only [go_sem, Int.reduceToNat, Nat.reduceLT, reduceIte, Nat.reduceEqDiff, Nat.reduceAdd, Nat.reduceMul, Nat.reduceBEq, reduceCtorEq]; rfl) ?_
  try dsimp only [thenQ, blockQ]
  refine AW.seq ?_
  refine AW.region ?_
  refine AWL.q rfl rfl rfl (by decide) Qt.move ?_
  refine AWL.q rfl rfl rfl (by decide) (Qt.convI rfl rfl Try.underlying110) ?_
  refine AWL.nrm (by simp only [go_sem, Int.reduceToNat, Nat.reduceLT, reduceIte, Nat.reduceEqDiff, Nat.reduceAdd, Nat.reduceMul, Nat.reduceBEq, reduceCtorEq]; rfl) ?_
  refine AWL.q rfl rfl rfl (by decide) (Qt.binOp rfl rfl (pbShl1 hk)) ?_
  refine AWL.q rfl rfl rfl (by decide) Qt.assign ?_
  refine AWL.nilE (by simp only [go_sem, Int.reduceToNat, Nat.reduceLT, reduceIte, Nat.reduceEqDiff, Nat.reduceAdd, Nat.reduceMul, Nat.reduceBEq, reduceCtorEq]; rfl) ?_
  try dsimp only [thenQ, blockQ]
  refine AW.ret ?_
  try dsimp only [thenQ, blockQ]
  refine endQ_ret (.cons (.tmp 2) .nil) ?_
  rfl
set_option maxRecDepth 10000 in
theorem l6Has_con (l : List Int) (v : Int) : Con Try.prog 83 [.h base [], .v (iv v)] [.rt base .ro (tr l)] (fun y _ => y = .v (.bool (decide (v ∈ l)))) := by
  refine Con.of_body Try.func83 rfl (by simp) ?_
  rw [Try.ntmps83]
  refine AW.len base [] rfl (by simp [Okp]) rfl (fun hl => ?_)
  refine AW.seq ?_
  refine AW.region ?_
  refine AWL.q rfl rfl rfl (by decide) Qt.assign ?_
  refine AWL.nilE (by simp only [go_sem, Int.reduceToNat, Nat.reduceLT, reduceIte, Nat.reduceEqDiff, Nat.reduceAdd, Nat.reduceMul, Nat.reduceBEq, reduceCtorEq]; rfl) ?_
  try dsimp only [thenQ, blockQ]
  refine AW.seq ?_
  refine AW.seq ?_
  refine AW.region ?_
  refine AWL.q rfl rfl rfl (by decide) Qt.assign ?_
  refine AWL.nilE (by simp only [go_sem, Int.reduceToNat, Nat.reduceLT, reduceIte, Nat.reduceEqDiff, Nat.reduceAdd, Nat.reduceMul, Nat.reduceBEq, reduceCtorEq]; rfl) ?_
  try dsimp only [thenQ, blockQ]
  refine AW.block ?_
  refine AW.weak (L' := [.sl 5 (.v (iv (0 : Nat))), .sl 0 (.h base []), .sl 1 (.v (iv v)), .rt base .ro (tr l)]) (Weak.sim ⟨rfl, rfl, rfl, ⟨_, rfl, T.sim_refl _⟩, trivial⟩ rfl rfl) ?_
  refine AW.loop (fun i : AllInv (fun x => !decide (x = v)) l => [.sl 5 (.v (iv i.k)), .sl 0 (.h base []), .sl 1 (.v (iv v)), .rt base .ro (tr l)]) (fun i => l.length - i.k) ⟨0, Nat.zero_le _, rfl⟩ ?_
  intro i
  have hle := i.le
  refine AW.seq ?_
  refine AW.seq ?_
  refine AW.region ?_
  refine AWL.q rfl rfl rfl (by decide) Qt.move ?_
  refine AWL.nrm (by simp only [go_sem, Int.reduceToNat, Nat.reduceLT, reduceIte, Nat.reduceEqDiff, Nat.reduceAdd, Nat.reduceMul, Nat.reduceBEq, reduceCtorEq]; rfl) ?_
  refine AWL.q rfl rfl rfl (by decide) Qt.move ?_
  refine AWL.q rfl rfl rfl (by decide) (Qt.lenH rfl rfl rfl sl22) ?_
  refine AWL.q rfl rfl rfl (by decide) (Qt.binOp rfl rfl rfl) ?_
  refine AWL.nilE (by simp only [go_sem, Int.reduceToNat, Nat.reduceLT, reduceIte, Nat.reduceEqDiff, Nat.reduceAdd, Nat.reduceMul, Nat.reduceBEq, reduceCtorEq]; rfl) ?_
  try dsimp only [thenQ, blockQ]
  refine AW.cond rfl (fun c1 => ?_) (fun c1 => ?_)
  · have k1 := c1
    try simp only [decide_eq_true_eq, decide_eq_false_iff_not, bne_iff_ne, ne_eq, beq_iff_eq, beq_eq_false_iff_ne, bne_eq_false_iff_eq, Bool.not_eq_true', Bool.not_eq_false', Bool.and_eq_true, Bool.or_eq_true, Bool.and_eq_false_iff, Bool.or_eq_false_iff, Int.not_lt, Int.not_le, Int.toNat_natCast] at c1
    refine AW.skip ?_
    dsimp only [thenQ, blockQ]
    refine AW.seq ?_
    refine AW.block ?_
    refine AW.seq ?_
    refine AW.region ?_
    refine AWL.q rfl rfl rfl (by decide) Qt.move ?_
    refine AWL.nrm (by simp only [go_sem, Int.reduceToNat, Nat.reduceLT, reduceIte, Nat.reduceEqDiff, Nat.reduceAdd, Nat.reduceMul, Nat.reduceBEq, reduceCtorEq]; rfl) ?_
    refine AWL.q rfl rfl rfl (by decide) Qt.move ?_
    refine AWL.q rfl rfl rfl (by decide) (Qt.indexAddr rfl rfl rfl rfl sl22 sz3 (by decide) (by omega)) ?_
    refine AWL.q rfl rfl rfl (by decide) (Qt.load1 rfl rfl rfl ag3) ?_
    refine AWL.nrm (by simp only [go_sem, Int.reduceToNat, Nat.reduceLT, reduceIte, Nat.reduceEqDiff, Nat.reduceAdd, Nat.reduceMul, Nat.reduceBEq, reduceCtorEq]; rfl) ?_
    refine AWL.q rfl rfl rfl (by decide) Qt.move ?_
    refine AWL.q rfl rfl rfl (by decide) (Qt.binOp rfl rfl rfl) ?_
    refine AWL.nilE (by simp only [go_sem, Int.reduceToNat, Nat.reduceLT, reduceIte, Nat.reduceEqDiff, Nat.reduceAdd, Nat.reduceMul, Nat.reduceBEq, reduceCtorEq]; rfl) ?_
    try dsimp only [thenQ, blockQ]
    refine AW.cond rfl (fun c2 => ?_) (fun c2 => ?_)
    · have k2 := c2
      try simp only [decide_eq_true_eq, decide_eq_false_iff_not, bne_iff_ne, ne_eq, beq_iff_eq, beq_eq_false_iff_ne, bne_eq_false_iff_eq, Bool.not_eq_true', Bool.not_eq_false', Bool.and_eq_true, Bool.or_eq_true, Bool.and_eq_false_iff, Bool.or_eq_false_iff, Int.not_lt, Int.not_le, Int.toNat_natCast] at c2
      refine AW.seq ?_
      refine AW.region ?_
      refine AWL.q rfl rfl rfl (by decide) Qt.assign ?_
      refine AWL.nilE (by simp only [go_sem, Int.reduceToNat, Nat.reduceLT, reduceIte, Nat.reduceEqDiff, Nat.reduceAdd, Nat.reduceMul, Nat.reduceBEq, reduceCtorEq]; rfl) ?_
      try dsimp only [thenQ, blockQ]
      refine AW.ret ?_
      try dsimp only [thenQ, blockQ]
      refine endQ_ret (.cons (.tmp 4) .nil) ?_
      rw [has_all, i.stop En.dflt (by omega) (by simpa using c2)]
      rfl
    · have k2 := c2
      try simp only [decide_eq_true_eq, decide_eq_false_iff_not, bne_iff_ne, ne_eq, beq_iff_eq, beq_eq_false_iff_ne, bne_eq_false_iff_eq, Bool.not_eq_true', Bool.not_eq_false', Bool.and_eq_true, Bool.or_eq_true, Bool.and_eq_false_iff, Bool.or_eq_false_iff, Int.not_lt, Int.not_le, Int.toNat_natCast] at c2
      refine AW.skip ?_
      dsimp only [thenQ, blockQ]
      refine AW.region ?_
      refine AWL.q rfl rfl rfl (by decide) Qt.move ?_
      refine AWL.nrm (by simp only [go_sem, Int.reduceToNat, Nat.reduceLT, reduceIte, Nat.reduceEqDiff, Nat.reduceAdd, Nat.reduceMul, Nat.reduceBEq, reduceCtorEq]; rfl) ?_
      refine AWL.q rfl rfl rfl (by decide) (Qt.binOp rfl rfl (by first | exact pbAdd (by omega) | rfl)) ?_
      refine AWL.q rfl rfl rfl (by decide) Qt.assign ?_
      refine AWL.nilE (by simp only [go_sem, Int.reduceToNat, Nat.reduceLT, reduceIte, Nat.reduceEqDiff, Nat.reduceAdd, Nat.reduceMul, Nat.reduceBEq, reduceCtorEq]; rfl) ?_
      try dsimp only [thenQ, blockQ]
      refine ⟨⟨i.k + 1, by omega, i.next En.dflt (by omega) (by simpa using c2)⟩, Weak.sim ⟨(by simp only [slotL, reduceIte, Nat.reduceEqDiff]; first | rfl | (rw [IntWalk.i64_in _ (by omega)]; rfl)), rfl, rfl, ⟨_, rfl, T.sim_refl _⟩, trivial⟩ rfl rfl, ?_⟩
      show l.length - (i.k + 1) < l.length - i.k
      omega
  · have k1 := c1
    try simp only [decide_eq_true_eq, decide_eq_false_iff_not, bne_iff_ne, ne_eq, beq_iff_eq, beq_eq_false_iff_ne, bne_eq_false_iff_eq, Bool.not_eq_true', Bool.not_eq_false', Bool.and_eq_true, Bool.or_eq_true, Bool.and_eq_false_iff, Bool.or_eq_false_iff, Int.not_lt, Int.not_le, Int.toNat_natCast] at c1
    refine AW.exit ?_
    dsimp only [thenQ, blockQ, reduceIte]
    refine AW.seq ?_
    refine AW.region ?_
    refine AWL.q rfl rfl rfl (by decide) Qt.assign ?_
    refine AWL.nilE (by simp only [go_sem, Int.reduceToNat, Nat.reduceLT, reduceIte, Nat.reduceEqDiff, Nat.reduceAdd, Nat.reduceMul, Nat.reduceBEq, reduceCtorEq]; rfl) ?_
    try dsimp only [thenQ, blockQ]
    refine AW.ret ?_
    try dsimp only [thenQ, blockQ]
    refine endQ_ret (.cons (.tmp 4) .nil) ?_
    rw [has_all, i.full (by omega)]
    rfl
set_option maxRecDepth 10000 in
theorem indexI_con (l : List Int) (v : Int) : Con Try.prog 106 [.h base [], .v (iv v)] [.rt base .ro (tr l)] (fun y _ => y = .v (iv (ixOf (fun x => v == x) l))) := by
  refine Con.of_body Try.func106 rfl (by simp) ?_
  rw [Try.ntmps106]
  refine AW.len base [] rfl (by simp [Okp]) rfl (fun hl => ?_)
  refine AW.seq ?_
  refine AW.region ?_
  refine AWL.q rfl rfl rfl (by decide) Qt.assign ?_
  refine AWL.nilE (by simp only [go_sem, Int.reduceToNat, Nat.reduceLT, reduceIte, Nat.reduceEqDiff, Nat.reduceAdd, Nat.reduceMul, Nat.reduceBEq, reduceCtorEq]; rfl) ?_
  try dsimp only [thenQ, blockQ]
  refine AW.seq ?_
  refine AW.seq ?_
  refine AW.region ?_
  refine AWL.q rfl rfl rfl (by decide) Qt.move ?_
  refine AWL.q rfl rfl rfl (by decide) (Qt.lenH rfl rfl rfl sl22) ?_
  refine AWL.nrm (by simp only [go_sem, Int.reduceToNat, Nat.reduceLT, reduceIte, Nat.reduceEqDiff, Nat.reduceAdd, Nat.reduceMul, Nat.reduceBEq, reduceCtorEq]; rfl) ?_
  refine AWL.q rfl rfl rfl (by decide) Qt.move ?_
  refine AWL.nilE (by simp only [go_sem, Int.reduceToNat, Nat.reduceLT, reduceIte, Nat.reduceEqDiff, Nat.reduceAdd, Nat.reduceMul, Nat.reduceBEq, reduceCtorEq]; rfl) ?_
  try dsimp only [thenQ, blockQ]
  refine AW.block ?_
  refine AW.weak (L' := [.sl 8 (.v (iv (0 : Nat))), .sl 7 (.v (iv l.length)), .sl 0 (.h base []), .sl 1 (.v (iv v)), .rt base .ro (tr l)]) (Weak.sim ⟨rfl, rfl, rfl, rfl, ⟨_, rfl, T.sim_refl _⟩, trivial⟩ rfl rfl) ?_
  refine AW.loop (fun i : IxInv (fun x => v == x) l => [.sl 8 (.v (iv i.k)), .sl 7 (.v (iv l.length)), .sl 0 (.h base []), .sl 1 (.v (iv v)), .rt base .ro (tr l)]) (fun i => l.length - i.k) ⟨0, Nat.zero_le _, rfl⟩ ?_
  intro i
  have hle := i.le
  refine AW.seq ?_
  refine AW.region ?_
  refine AWL.q rfl rfl rfl (by decide) (Qt.binOp rfl rfl rfl) ?_
  refine AWL.nilE (by simp only [go_sem, Int.reduceToNat, Nat.reduceLT, reduceIte, Nat.reduceEqDiff, Nat.reduceAdd, Nat.reduceMul, Nat.reduceBEq, reduceCtorEq]; rfl) ?_
  try dsimp only [thenQ, blockQ]
  refine AW.seq ?_
  refine AW.cond rfl (fun c1 => ?_) (fun c1 => ?_)
  · have k1 := c1
    try simp only [decide_eq_true_eq, decide_eq_false_iff_not, bne_iff_ne, ne_eq, beq_iff_eq, beq_eq_false_iff_ne, bne_eq_false_iff_eq, Bool.not_eq_true', Bool.not_eq_false', Bool.and_eq_true, Bool.or_eq_true, Bool.and_eq_false_iff, Bool.or_eq_false_iff, Int.not_lt, Int.not_le, Int.toNat_natCast] at c1
    refine AW.skip ?_
    dsimp only [thenQ, blockQ]
    refine AW.seq ?_
    refine AW.block ?_
    refine AW.seq ?_
    refine AW.region ?_
    refine AWL.q rfl rfl rfl (by decide) Qt.move ?_
    refine AWL.nrm (by simp only [go_sem, Int.reduceToNat, Nat.reduceLT, reduceIte, Nat.reduceEqDiff, Nat.reduceAdd, Nat.reduceMul, Nat.reduceBEq, reduceCtorEq]; rfl) ?_
    refine AWL.q rfl rfl rfl (by decide) Qt.assign ?_
    refine AWL.nilE (by simp only [go_sem, Int.reduceToNat, Nat.reduceLT, reduceIte, Nat.reduceEqDiff, Nat.reduceAdd, Nat.reduceMul, Nat.reduceBEq, reduceCtorEq]; rfl) ?_
    try dsimp only [thenQ, blockQ]
    refine AW.seq ?_
    refine AW.region ?_
    refine AWL.q rfl rfl rfl (by decide) Qt.move ?_
    refine AWL.q rfl rfl rfl (by decide) Qt.move ?_
    refine AWL.nrm (by simp only [go_sem, Int.reduceToNat, Nat.reduceLT, reduceIte, Nat.reduceEqDiff, Nat.reduceAdd, Nat.reduceMul, Nat.reduceBEq, reduceCtorEq]; rfl) ?_
    refine AWL.q rfl rfl rfl (by decide) Qt.move ?_
    refine AWL.q rfl rfl rfl (by decide) (Qt.indexAddr rfl rfl rfl rfl sl22 sz3 (by decide) (by omega)) ?_
    refine AWL.q rfl rfl rfl (by decide) (Qt.load1 rfl rfl rfl ag3) ?_
    refine AWL.nrm (by simp only [go_sem, Int.reduceToNat, Nat.reduceLT, reduceIte, Nat.reduceEqDiff, Nat.reduceAdd, Nat.reduceMul, Nat.reduceBEq, reduceCtorEq]; rfl) ?_
    refine AWL.q rfl rfl rfl (by decide) (Qt.binOp rfl rfl rfl) ?_
    refine AWL.nilE (by simp only [go_sem, Int.reduceToNat, Nat.reduceLT, reduceIte, Nat.reduceEqDiff, Nat.reduceAdd, Nat.reduceMul, Nat.reduceBEq, reduceCtorEq]; rfl) ?_
    try dsimp only [thenQ, blockQ]
    refine AW.cond rfl (fun c2 => ?_) (fun c2 => ?_)
    · have k2 := c2
      try simp only [decide_eq_true_eq, decide_eq_false_iff_not, bne_iff_ne, ne_eq, beq_iff_eq, beq_eq_false_iff_ne, bne_eq_false_iff_eq, Bool.not_eq_true', Bool.not_eq_false', Bool.and_eq_true, Bool.or_eq_true, Bool.and_eq_false_iff, Bool.or_eq_false_iff, Int.not_lt, Int.not_le, Int.toNat_natCast] at c2
      refine AW.seq ?_
      refine AW.region ?_
      refine AWL.q rfl rfl rfl (by decide) Qt.move ?_
      refine AWL.q rfl rfl rfl (by decide) Qt.assign ?_
      refine AWL.nilE (by simp only [go_sem, Int.reduceToNat, Nat.reduceLT, reduceIte, Nat.reduceEqDiff, Nat.reduceAdd, Nat.reduceMul, Nat.reduceBEq, reduceCtorEq]; rfl) ?_
      try dsimp only [thenQ, blockQ]
      refine AW.ret ?_
      try dsimp only [thenQ, blockQ]
      refine endQ_ret (.cons (.tmp 4) .nil) ?_
      rw [ixOf_hit i En.dflt (by omega) (by simpa using c2)]
      rfl
    · have k2 := c2
      try simp only [decide_eq_true_eq, decide_eq_false_iff_not, bne_iff_ne, ne_eq, beq_iff_eq, beq_eq_false_iff_ne, bne_eq_false_iff_eq, Bool.not_eq_true', Bool.not_eq_false', Bool.and_eq_true, Bool.or_eq_true, Bool.and_eq_false_iff, Bool.or_eq_false_iff, Int.not_lt, Int.not_le, Int.toNat_natCast] at c2
      refine AW.skip ?_
      dsimp only [thenQ, blockQ]
      refine AW.region ?_
      refine AWL.q rfl rfl rfl (by decide) (Qt.binOp rfl rfl (by first | exact pbAdd (by omega) | rfl)) ?_
      refine AWL.nrm (by simp only [go_sem, Int.reduceToNat, Nat.reduceLT, reduceIte, Nat.reduceEqDiff, Nat.reduceAdd, Nat.reduceMul, Nat.reduceBEq, reduceCtorEq]; rfl) ?_
      refine AWL.q rfl rfl rfl (by decide) Qt.move ?_
      refine AWL.nilE (by simp only [go_sem, Int.reduceToNat, Nat.reduceLT, reduceIte, Nat.reduceEqDiff, Nat.reduceAdd, Nat.reduceMul, Nat.reduceBEq, reduceCtorEq]; rfl) ?_
      try dsimp only [thenQ, blockQ]
      refine ⟨⟨i.k + 1, by omega, i.next En.dflt (by omega) (by simpa using c2)⟩, Weak.sim ⟨(by simp only [slotL, reduceIte, Nat.reduceEqDiff]; first | rfl | (rw [IntWalk.i64_in _ (by omega)]; rfl)), rfl, rfl, rfl, ⟨_, rfl, T.sim_refl _⟩, trivial⟩ rfl rfl, ?_⟩
      show l.length - (i.k + 1) < l.length - i.k
      omega
  · have k1 := c1
    try simp only [decide_eq_true_eq, decide_eq_false_iff_not, bne_iff_ne, ne_eq, beq_iff_eq, beq_eq_false_iff_ne, bne_eq_false_iff_eq, Bool.not_eq_true', Bool.not_eq_false', Bool.and_eq_true, Bool.or_eq_true, Bool.and_eq_false_iff, Bool.or_eq_false_iff, Int.not_lt, Int.not_le, Int.toNat_natCast] at c1
    refine AW.exit ?_
    dsimp only [thenQ, blockQ, reduceIte]
    refine AW.seq ?_
    refine AW.region ?_
    refine AWL.q rfl rfl rfl (by decide) Qt.assign ?_
    refine AWL.nilE (by simp only [go_sem, Int.reduceToNat, Nat.reduceLT, reduceIte, Nat.reduceEqDiff, Nat.reduceAdd, Nat.reduceMul, Nat.reduceBEq, reduceCtorEq]; rfl) ?_
    try dsimp only [thenQ, blockQ]
    refine AW.ret ?_
    try dsimp only [thenQ, blockQ]
    refine endQ_ret (.cons (.tmp 4) .nil) ?_
    rw [ixOf_none i (by omega)]
    rfl
set_option maxRecDepth 10000 in
theorem containsI_con (l : List Int) (v : Int) : Con Try.prog 85 [.h base [], .v (iv v)] [.rt base .ro (tr l)] (fun y _ => y = .v (.bool (decide (v ∈ l)))) := by
  refine Con.of_body Try.func85 rfl (by simp) ?_
  rw [Try.ntmps85]
  refine AW.seq ?_
  refine AW.region ?_
  refine AWL.q rfl rfl rfl (by decide) Qt.assign ?_
  refine AWL.nilE (by simp only [go_sem, Int.reduceToNat, Nat.reduceLT, reduceIte, Nat.reduceEqDiff, Nat.reduceAdd, Nat.reduceMul, Nat.reduceBEq, reduceCtorEq]; rfl) ?_
  try dsimp only [thenQ, blockQ]
  refine AW.seq ?_
  refine AW.region ?_
  refine AWL.q rfl rfl rfl (by decide) Qt.move ?_
  refine AWL.q rfl rfl rfl (by decide) Qt.move ?_
  refine AWL.nrm (by simp only [go_sem, Int.reduceToNat, Nat.reduceLT, reduceIte, Nat.reduceEqDiff, Nat.reduceAdd, Nat.reduceMul, Nat.reduceBEq, reduceCtorEq]; rfl) ?_
  refine AWL.step rfl rfl (Stp.callV rfl (by decide) Try.call106 rfl rfl (indexI_con _ _)) ?_
  refine AWL.nrm (by simp only [go_sem, Int.reduceToNat, Nat.reduceLT, reduceIte, Nat.reduceEqDiff, Nat.reduceAdd, Nat.reduceMul, Nat.reduceBEq, reduceCtorEq]; rfl) ?_
  refine AWL.q rfl rfl rfl (by decide) (Qt.binOp rfl rfl rfl) ?_
  refine AWL.q rfl rfl rfl (by decide) Qt.assign ?_
  refine AWL.nilE (by simp only [go_sem, Int.reduceToNat, Nat.reduceLT, reduceIte, Nat.reduceEqDiff, Nat.reduceAdd, Nat.reduceMul, Nat.reduceBEq, reduceCtorEq]; rfl) ?_
  try dsimp only [thenQ, blockQ]
  refine AW.ret ?_
  try dsimp only [thenQ, blockQ]
  refine endQ_ret (.cons (.tmp 4) .nil) ?_
  rw [← any_has, ← ixOf_ge]
  rfl
set_option maxRecDepth 10000 in
theorem isFrame_con (x : Int) : Con Try.prog 77 [.v (iv x)] [] (fun y _ => y = .v (.bool (frame x))) := by
  refine Con.of_body Try.func77 rfl (by simp) ?_
  rw [Try.ntmps77]
  refine AW.seq ?_
  refine AW.region ?_
  refine AWL.q rfl rfl rfl (by decide) Qt.assign ?_
  refine AWL.nilE (by simp only [go_sem, Int.reduceToNat, Nat.reduceLT, reduceIte, Nat.reduceEqDiff, Nat.reduceAdd, Nat.reduceMul, Nat.reduceBEq, reduceCtorEq]; rfl) ?_
  try dsimp only [thenQ, blockQ]
  refine AW.seq ?_
  refine AW.region ?_
  refine AWL.q rfl rfl rfl (by decide) Qt.move ?_
  refine AWL.step rfl rfl (Stp.callV rfl (by decide) Try.call97 rfl rfl (in_con _ _ _)) ?_
  refine AWL.nrm (by simp only [go_sem, Int.reduceToNat, Nat.reduceLT, reduceIte, Nat.reduceEqDiff, Nat.reduceAdd, Nat.reduceMul, Nat.reduceBEq, reduceCtorEq]; rfl) ?_
  refine AWL.q rfl rfl rfl (by decide) Qt.assign ?_
  refine AWL.nilE (by simp only [go_sem, Int.reduceToNat, Nat.reduceLT, reduceIte, Nat.reduceEqDiff, Nat.reduceAdd, Nat.reduceMul, Nat.reduceBEq, reduceCtorEq]; rfl) ?_
  try dsimp only [thenQ, blockQ]
  refine AW.ret ?_
  try dsimp only [thenQ, blockQ]
  refine endQ_ret (.cons (.tmp 2) .nil) ?_
  rfl
set_option maxRecDepth 10000 in
theorem buddyOf_con (n k : Nat) (hn : n < 16) (hk : k < 4) : Con Try.prog 86 [.v (iv n), .v (iv k)] [] (fun y _ => y = .v (iv ((n ^^^ (2 ^ k) : Nat) : Int))) := by
  refine Con.of_body Try.func86 rfl (by simp) ?_
  rw [Try.ntmps86]
  refine AW.seq ?_
  refine AW.region ?_
  refine AWL.q rfl rfl rfl (by decide) Qt.assign ?_
  refine AWL.nilE (by simp only [go_sem, Int.reduceToNat, Nat.reduceLT, reduceIte, Nat.reduceEqDiff, Nat.reduceAdd, Nat.reduceMul, Nat.reduceBEq, reduceCtorEq]; rfl) ?_
  try dsimp only [thenQ, blockQ]
  refine AW.seq ?_
  refine AW.region ?_
  refine AWL.q rfl rfl rfl (by decide) Qt.move ?_
  refine AWL.q rfl rfl rfl (by decide) Qt.move ?_
  refine AWL.nrm (by simp only [go_sem, Int.reduceToNat, Nat.reduceLT, reduceIte, Nat.reduceEqDiff, Nat.reduceAdd, Nat.reduceMul, Nat.reduceBEq, reduceCtorEq]; rfl) ?_
  refine AWL.q rfl rfl rfl (by decide) (Qt.binOp rfl rfl (pbShl1i (by omega))) ?_
  refine AWL.q rfl rfl rfl (by decide) (Qt.binOp rfl rfl (pbXorN n hn k hk)) ?_
  refine AWL.q rfl rfl rfl (by decide) Qt.assign ?_
  refine AWL.nilE (by simp only [go_sem, Int.reduceToNat, Nat.reduceLT, reduceIte, Nat.reduceEqDiff, Nat.reduceAdd, Nat.reduceMul, Nat.reduceBEq, reduceCtorEq]; rfl) ?_
  try dsimp only [thenQ, blockQ]
  refine AW.ret ?_
  try dsimp only [thenQ, blockQ]
  refine endQ_ret (.cons (.tmp 4) .nil) ?_
  rfl
end Go.Proofs.Ytjfojlaoiifppaa.VM
