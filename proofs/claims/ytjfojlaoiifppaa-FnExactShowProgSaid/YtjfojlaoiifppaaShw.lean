/- Contracts of functions of the program. No conditions beyond those that each states. -/
import Derived.Test.YtjfojlaoiifppaaVar
import Derived.Test.YtjfojlaoiifppaaPok
set_option linter.all false
namespace Go.Proofs.Ytjfojlaoiifppaa.VM
open Go Go.RowKit Go.Proofs

def zig (n : Int) : Int := if n < 0 then -2 * n - 1 else 2 * n
def third (i : DIns) : Int := if i.Op = 1 then zig i.B else i.B
def showStep (s : ByteArray) (i : DIns) : ByteArray := (((s ++ varS i.Op) ++ varS i.A) ++ varS (third i)) ++ varS i.C
def showK (l : List DIns) (k : Nat) : ByteArray := (l.take k).foldl showStep (varS l.length)
def showP (l : List DIns) : ByteArray := if progOk l then showK l l.length else ByteArray.empty
theorem showK_next (l : List DIns) {k : Nat} (hk : k < l.length) : showK l (k + 1) = showStep (showK l k) (l.getD k En.dflt) := by
  unfold showK
  rw [List.take_add_one, List.getElem?_eq_getElem hk, List.foldl_append]
  simp [hk]
theorem showStep_size (s : ByteArray) (i : DIns) : (showStep s i).size ≤ s.size + 28 := by
  have h1 := varS_size i.Op
  have h2 := varS_size i.A
  have h3 := varS_size (third i)
  have h4 := varS_size i.C
  simp only [showStep, ByteArray.size_append]
  omega
theorem showK_size (l : List DIns) : ∀ {k : Nat}, k ≤ l.length → (showK l k).size ≤ 7 + 28 * k
  | 0, _ => by simpa [showK] using varS_size l.length
  | k + 1, h => by
    have h1 := showK_size l (k := k) (by omega)
    have h2 := showStep_size (showK l k) (l.getD k En.dflt)
    rw [showK_next l (by omega)]
    omega
theorem insWord {i : DIns} (h : insOk i = true) (h1 : i.Op = 1) : -1000000 ≤ i.B ∧ i.B ≤ 1000000 := by
  unfold insOk at h
  rw [if_pos h1] at h
  simp [word] at h
  omega
theorem progFacts {l : List DIns} (h : progOk l = true) : l.length ≤ 40 ∧ ∀ k, k < l.length → insOk (l.getD k En.dflt) = true := by
  simp only [progOk, Bool.and_eq_true, decide_eq_true_eq] at h
  refine ⟨h.1, fun k hk => ?_⟩
  have := List.all_eq_true.1 h.2 l[k] (List.getElem_mem hk)
  simpa [hk] using this

set_option maxHeartbeats 2000000 in
set_option maxRecDepth 10000 in
theorem l3Zig_con (n : Int) (h1 : -1000000 ≤ n) (h2 : n ≤ 1000000) : Con Try.prog 108 [.v (iv n)] [] (fun y _ => y = .v (iv (zig n))) := by
  refine Con.of_body Try.func108 rfl (by simp) ?_
  rw [Try.ntmps108]
  refine AW.seq ?_
  refine AW.region ?_
  refine AWL.q rfl rfl rfl (by decide) Qt.assign ?_
  refine AWL.nilE (by simp only [go_sem, Int.reduceToNat, Nat.reduceLT, reduceIte, Nat.reduceEqDiff, Nat.reduceAdd, Nat.reduceMul, Nat.reduceBEq, reduceCtorEq]; rfl) ?_
  try dsimp only [thenQ, blockQ]
  refine AW.seq ?_
  refine AW.seq ?_
  refine AW.region ?_
  refine AWL.q rfl rfl rfl (by decide) Qt.move ?_
  refine AWL.q rfl rfl rfl (by decide) (Qt.binOp rfl rfl rfl) ?_
  refine AWL.nilE (by simp only [go_sem, Int.reduceToNat, Nat.reduceLT, reduceIte, Nat.reduceEqDiff, Nat.reduceAdd, Nat.reduceMul, Nat.reduceBEq, reduceCtorEq]; rfl) ?_
  try dsimp only [thenQ, blockQ]
  refine AW.cond rfl (fun c1 => ?_) (fun c1 => ?_)
  · have k1 := c1
    try simp only [decide_eq_true_eq, decide_eq_false_iff_not, bne_iff_ne, ne_eq, beq_iff_eq, beq_eq_false_iff_ne, bne_eq_false_iff_eq, Bool.not_eq_true', Bool.not_eq_false', Bool.and_eq_true, Bool.or_eq_true, Bool.and_eq_false_iff, Bool.or_eq_false_iff, Int.not_lt, Int.not_le, Int.toNat_natCast] at c1
    refine AW.seq ?_
    refine AW.region ?_
    refine AWL.q rfl rfl rfl (by decide) Qt.move ?_
    refine AWL.nrm (by simp only [go_sem, Int.reduceToNat, Nat.reduceLT, reduceIte, Nat.reduceEqDiff, Nat.reduceAdd, Nat.reduceMul, Nat.reduceBEq, reduceCtorEq]; rfl) ?_
    refine AWL.q rfl rfl rfl (by decide) (Qt.binOp rfl rfl (by first | exact pbMul (by omega) | rfl)) ?_
    refine AWL.q rfl rfl rfl (by decide) (Qt.binOp rfl rfl (by first | exact pbSub (by omega) | rfl)) ?_
    refine AWL.q rfl rfl rfl (by decide) Qt.assign ?_
    refine AWL.nilE (by simp only [go_sem, Int.reduceToNat, Nat.reduceLT, reduceIte, Nat.reduceEqDiff, Nat.reduceAdd, Nat.reduceMul, Nat.reduceBEq, reduceCtorEq]; rfl) ?_
    try dsimp only [thenQ, blockQ]
    refine AW.ret ?_
    try dsimp only [thenQ, blockQ]
    refine endQ_ret (.cons (.tmp 2) .nil) ?_
    rw [show zig n = -2 * n - 1 from if_pos (by omega)]
    rfl
  · have k1 := c1
    try simp only [decide_eq_true_eq, decide_eq_false_iff_not, bne_iff_ne, ne_eq, beq_iff_eq, beq_eq_false_iff_ne, bne_eq_false_iff_eq, Bool.not_eq_true', Bool.not_eq_false', Bool.and_eq_true, Bool.or_eq_true, Bool.and_eq_false_iff, Bool.or_eq_false_iff, Int.not_lt, Int.not_le, Int.toNat_natCast] at c1
    refine AW.skip ?_
    dsimp only [thenQ, blockQ]
    refine AW.seq ?_
    refine AW.region ?_
    refine AWL.q rfl rfl rfl (by decide) Qt.move ?_
    refine AWL.nrm (by simp only [go_sem, Int.reduceToNat, Nat.reduceLT, reduceIte, Nat.reduceEqDiff, Nat.reduceAdd, Nat.reduceMul, Nat.reduceBEq, reduceCtorEq]; rfl) ?_
    refine AWL.q rfl rfl rfl (by decide) (Qt.binOp rfl rfl (by first | exact pbMul (by omega) | rfl)) ?_
    refine AWL.q rfl rfl rfl (by decide) Qt.assign ?_
    refine AWL.nilE (by simp only [go_sem, Int.reduceToNat, Nat.reduceLT, reduceIte, Nat.reduceEqDiff, Nat.reduceAdd, Nat.reduceMul, Nat.reduceBEq, reduceCtorEq]; rfl) ?_
    try dsimp only [thenQ, blockQ]
    refine AW.ret ?_
    try dsimp only [thenQ, blockQ]
    refine endQ_ret (.cons (.tmp 2) .nil) ?_
    rw [show zig n = 2 * n from if_neg (by omega)]
    rfl
set_option maxHeartbeats 2000000 in
set_option maxRecDepth 10000 in
theorem wordVar_con (n : Int) (h1 : -1000000 ≤ n) (h2 : n ≤ 1000000) : Con Try.prog 89 [.v (iv n)] [] (fun y _ => y = .v (.string (varS (zig n)))) := by
  refine Con.of_body Try.func89 rfl (by simp) ?_
  rw [Try.ntmps89]
  refine AW.seq ?_
  refine AW.region ?_
  refine AWL.q rfl rfl rfl (by decide) Qt.assign ?_
  refine AWL.nilE (by simp only [go_sem, Int.reduceToNat, Nat.reduceLT, reduceIte, Nat.reduceEqDiff, Nat.reduceAdd, Nat.reduceMul, Nat.reduceBEq, reduceCtorEq]; rfl) ?_
  try dsimp only [thenQ, blockQ]
  refine AW.seq ?_
  refine AW.seq ?_
  refine AW.region ?_
  refine AWL.q rfl rfl rfl (by decide) Qt.move ?_
  refine AWL.q rfl rfl rfl (by decide) (Qt.binOp rfl rfl rfl) ?_
  refine AWL.nilE (by simp only [go_sem, Int.reduceToNat, Nat.reduceLT, reduceIte, Nat.reduceEqDiff, Nat.reduceAdd, Nat.reduceMul, Nat.reduceBEq, reduceCtorEq]; rfl) ?_
  try dsimp only [thenQ, blockQ]
  refine AW.cond rfl (fun c1 => ?_) (fun c1 => ?_)
  · have k1 := c1
    try simp only [decide_eq_true_eq, decide_eq_false_iff_not, bne_iff_ne, ne_eq, beq_iff_eq, beq_eq_false_iff_ne, bne_eq_false_iff_eq, Bool.not_eq_true', Bool.not_eq_false', Bool.and_eq_true, Bool.or_eq_true, Bool.and_eq_false_iff, Bool.or_eq_false_iff, Int.not_lt, Int.not_le, Int.toNat_natCast] at c1
    refine AW.seq ?_
    refine AW.region ?_
    refine AWL.q rfl rfl rfl (by decide) Qt.move ?_
    refine AWL.nrm (by simp only [go_sem, Int.reduceToNat, Nat.reduceLT, reduceIte, Nat.reduceEqDiff, Nat.reduceAdd, Nat.reduceMul, Nat.reduceBEq, reduceCtorEq]; rfl) ?_
    refine AWL.q rfl rfl rfl (by decide) (Qt.binOp rfl rfl (by first | exact pbMul (by omega) | rfl)) ?_
    refine AWL.q rfl rfl rfl (by decide) (Qt.binOp rfl rfl (by first | exact pbSub (by omega) | rfl)) ?_
    refine AWL.step rfl rfl (Stp.callV rfl (by decide) Try.call88 rfl rfl (VarI_con _)) ?_
    refine AWL.nrm (by simp only [go_sem, Int.reduceToNat, Nat.reduceLT, reduceIte, Nat.reduceEqDiff, Nat.reduceAdd, Nat.reduceMul, Nat.reduceBEq, reduceCtorEq]; rfl) ?_
    refine AWL.q rfl rfl rfl (by decide) Qt.assign ?_
    refine AWL.nilE (by simp only [go_sem, Int.reduceToNat, Nat.reduceLT, reduceIte, Nat.reduceEqDiff, Nat.reduceAdd, Nat.reduceMul, Nat.reduceBEq, reduceCtorEq]; rfl) ?_
    try dsimp only [thenQ, blockQ]
    refine AW.ret ?_
    try dsimp only [thenQ, blockQ]
    refine endQ_ret (.cons (.tmp 2) .nil) ?_
    rw [show zig n = -2 * n - 1 from if_pos (by omega)]
    rfl
  · have k1 := c1
    try simp only [decide_eq_true_eq, decide_eq_false_iff_not, bne_iff_ne, ne_eq, beq_iff_eq, beq_eq_false_iff_ne, bne_eq_false_iff_eq, Bool.not_eq_true', Bool.not_eq_false', Bool.and_eq_true, Bool.or_eq_true, Bool.and_eq_false_iff, Bool.or_eq_false_iff, Int.not_lt, Int.not_le, Int.toNat_natCast] at c1
    refine AW.skip ?_
    dsimp only [thenQ, blockQ]
    refine AW.seq ?_
    refine AW.region ?_
    refine AWL.q rfl rfl rfl (by decide) Qt.move ?_
    refine AWL.q rfl rfl rfl (by decide) (Qt.binOp rfl rfl (by first | exact pbMul (by omega) | rfl)) ?_
    refine AWL.nrm (by simp only [go_sem, Int.reduceToNat, Nat.reduceLT, reduceIte, Nat.reduceEqDiff, Nat.reduceAdd, Nat.reduceMul, Nat.reduceBEq, reduceCtorEq]; rfl) ?_
    refine AWL.step rfl rfl (Stp.callV rfl (by decide) Try.call88 rfl rfl (VarI_con _)) ?_
    refine AWL.nrm (by simp only [go_sem, Int.reduceToNat, Nat.reduceLT, reduceIte, Nat.reduceEqDiff, Nat.reduceAdd, Nat.reduceMul, Nat.reduceBEq, reduceCtorEq]; rfl) ?_
    refine AWL.q rfl rfl rfl (by decide) Qt.assign ?_
    refine AWL.nilE (by simp only [go_sem, Int.reduceToNat, Nat.reduceLT, reduceIte, Nat.reduceEqDiff, Nat.reduceAdd, Nat.reduceMul, Nat.reduceBEq, reduceCtorEq]; rfl) ?_
    try dsimp only [thenQ, blockQ]
    refine AW.ret ?_
    try dsimp only [thenQ, blockQ]
    refine endQ_ret (.cons (.tmp 2) .nil) ?_
    rw [show zig n = 2 * n from if_neg (by omega)]
    rfl
set_option maxHeartbeats 2000000 in
set_option maxRecDepth 10000 in
theorem l3Show_con (l : List DIns) (h40 : l.length ≤ 40) (hI : ∀ k, k < l.length → insOk (l.getD k En.dflt) = true) : Con Try.prog 87 [.h base []] [.rt base .ro (tr l)] (fun y _ => y = .v (.string (showK l l.length))) := by
  refine Con.of_body Try.func87 rfl (by simp) ?_
  rw [Try.ntmps87]
  refine AW.seq ?_
  refine AW.region ?_
  refine AWL.q rfl rfl rfl (by decide) Qt.assign ?_
  refine AWL.nilE (by simp only [go_sem, Int.reduceToNat, Nat.reduceLT, reduceIte, Nat.reduceEqDiff, Nat.reduceAdd, Nat.reduceMul, Nat.reduceBEq, reduceCtorEq]; rfl) ?_
  try dsimp only [thenQ, blockQ]
  refine AW.seq ?_
  refine AW.region ?_
  refine AWL.q rfl rfl rfl (by decide) Qt.move ?_
  refine AWL.q rfl rfl rfl (by decide) (Qt.lenH rfl rfl rfl sl41) ?_
  refine AWL.nrm (by simp only [go_sem, Int.reduceToNat, Nat.reduceLT, reduceIte, Nat.reduceEqDiff, Nat.reduceAdd, Nat.reduceMul, Nat.reduceBEq, reduceCtorEq]; rfl) ?_
  refine AWL.step rfl rfl (Stp.callV rfl (by decide) Try.call107 rfl rfl (VarS_con _)) ?_
  refine AWL.nrm (by simp only [go_sem, Int.reduceToNat, Nat.reduceLT, reduceIte, Nat.reduceEqDiff, Nat.reduceAdd, Nat.reduceMul, Nat.reduceBEq, reduceCtorEq]; rfl) ?_
  refine AWL.q rfl rfl rfl (by decide) Qt.assign ?_
  refine AWL.nilE (by simp only [go_sem, Int.reduceToNat, Nat.reduceLT, reduceIte, Nat.reduceEqDiff, Nat.reduceAdd, Nat.reduceMul, Nat.reduceBEq, reduceCtorEq]; rfl) ?_
  try dsimp only [thenQ, blockQ]
  refine AW.seq ?_
  refine AW.seq ?_
  refine AW.region ?_
  refine AWL.q rfl rfl rfl (by decide) Qt.assign ?_
  refine AWL.nilE (by simp only [go_sem, Int.reduceToNat, Nat.reduceLT, reduceIte, Nat.reduceEqDiff, Nat.reduceAdd, Nat.reduceMul, Nat.reduceBEq, reduceCtorEq]; rfl) ?_
  try dsimp only [thenQ, blockQ]
  refine AW.block ?_
  refine AW.weak (L' := [.sl 4 (.v (iv (0 : Nat))), .sl 3 (.v (.string (showK l 0))), .sl 0 (.h base []), .rt base .ro (tr l)]) (Weak.sim ⟨rfl, rfl, rfl, ⟨_, rfl, T.sim_refl _⟩, trivial⟩ rfl rfl) ?_
  refine AW.loop (fun i : KInv l.length => [.sl 4 (.v (iv i.k)), .sl 3 (.v (.string (showK l i.k))), .sl 0 (.h base []), .rt base .ro (tr l)]) (fun i => l.length - i.k) ⟨0, Nat.zero_le _⟩ ?_
  intro i
  have hle := i.le
  refine AW.seq ?_
  refine AW.seq ?_
  refine AW.region ?_
  refine AWL.q rfl rfl rfl (by decide) Qt.move ?_
  refine AWL.nrm (by simp only [go_sem, Int.reduceToNat, Nat.reduceLT, reduceIte, Nat.reduceEqDiff, Nat.reduceAdd, Nat.reduceMul, Nat.reduceBEq, reduceCtorEq]; rfl) ?_
  refine AWL.q rfl rfl rfl (by decide) Qt.move ?_
  refine AWL.q rfl rfl rfl (by decide) (Qt.lenH rfl rfl rfl sl41) ?_
  refine AWL.q rfl rfl rfl (by decide) (Qt.binOp rfl rfl rfl) ?_
  refine AWL.nilE (by simp only [go_sem, Int.reduceToNat, Nat.reduceLT, reduceIte, Nat.reduceEqDiff, Nat.reduceAdd, Nat.reduceMul, Nat.reduceBEq, reduceCtorEq]; rfl) ?_
  try dsimp only [thenQ, blockQ]
  refine AW.cond rfl (fun c1 => ?_) (fun c1 => ?_)
  · have k1 := c1
    try simp only [decide_eq_true_eq, decide_eq_false_iff_not, bne_iff_ne, ne_eq, beq_iff_eq, beq_eq_false_iff_ne, bne_eq_false_iff_eq, Bool.not_eq_true', Bool.not_eq_false', Bool.and_eq_true, Bool.or_eq_true, Bool.and_eq_false_iff, Bool.or_eq_false_iff, Int.not_lt, Int.not_le, Int.toNat_natCast] at c1
    have hq := showK_size l (k := i.k) (by omega)
    have hi := hI i.k (by omega)
    have hv1 := varS_size (l.getD i.k En.dflt).Op
    have hv2 := varS_size (l.getD i.k En.dflt).A
    have hv3 := varS_size (third (l.getD i.k En.dflt))
    have hv4 := varS_size (l.getD i.k En.dflt).C
    have hv5 := varS_size (l.getD i.k En.dflt).B
    have hv6 := varS_size (zig (l.getD i.k En.dflt).B)
    have hw := insWord hi
    have hnx := showK_next l (k := i.k) (by omega)
    refine AW.skip ?_
    dsimp only [thenQ, blockQ]
    refine AW.seq ?_
    refine AW.block ?_
    refine AW.seq ?_
    refine AW.region ?_
    refine AWL.q rfl rfl rfl (by decide) Qt.move ?_
    refine AWL.nrm (by simp only [go_sem, Int.reduceToNat, Nat.reduceLT, reduceIte, Nat.reduceEqDiff, Nat.reduceAdd, Nat.reduceMul, Nat.reduceBEq, reduceCtorEq]; rfl) ?_
    refine AWL.q rfl rfl rfl (by decide) Qt.move ?_
    refine AWL.q rfl rfl rfl (by decide) (Qt.indexAddr rfl rfl rfl rfl sl41 sz74 (by decide) (by omega)) ?_
    refine AWL.q rfl rfl rfl (by decide) (Qt.fieldAddr rfl fl74_2 rfl rfl (by decide)) ?_
    refine AWL.nrm (by simp only [go_sem, Int.reduceToNat, Nat.reduceLT, reduceIte, Nat.reduceEqDiff, Nat.reduceAdd, Nat.reduceMul, Nat.reduceBEq, reduceCtorEq]; rfl) ?_
    refine AWL.q rfl rfl rfl (by decide) (Qt.load1 rfl rfl rfl ag3) ?_
    refine AWL.q rfl rfl rfl (by decide) Qt.assign ?_
    refine AWL.nilE (by simp only [go_sem, Int.reduceToNat, Nat.reduceLT, reduceIte, Nat.reduceEqDiff, Nat.reduceAdd, Nat.reduceMul, Nat.reduceBEq, reduceCtorEq]; rfl) ?_
    try dsimp only [thenQ, blockQ]
    refine AW.seq ?_
    refine AW.seq ?_
    refine AW.region ?_
    refine AWL.q rfl rfl rfl (by decide) Qt.move ?_
    refine AWL.nrm (by simp only [go_sem, Int.reduceToNat, Nat.reduceLT, reduceIte, Nat.reduceEqDiff, Nat.reduceAdd, Nat.reduceMul, Nat.reduceBEq, reduceCtorEq]; rfl) ?_
    refine AWL.q rfl rfl rfl (by decide) Qt.move ?_
    refine AWL.q rfl rfl rfl (by decide) (Qt.indexAddr rfl rfl rfl rfl sl41 sz74 (by decide) (by omega)) ?_
    refine AWL.q rfl rfl rfl (by decide) (Qt.fieldAddr rfl fl74_0 rfl rfl (by decide)) ?_
    refine AWL.nrm (by simp only [go_sem, Int.reduceToNat, Nat.reduceLT, reduceIte, Nat.reduceEqDiff, Nat.reduceAdd, Nat.reduceMul, Nat.reduceBEq, reduceCtorEq]; rfl) ?_
    refine AWL.q rfl rfl rfl (by decide) (Qt.load1 rfl rfl rfl ag3) ?_
    refine AWL.q rfl rfl rfl (by decide) (Qt.binOp rfl rfl rfl) ?_
    refine AWL.nilE (by simp only [go_sem, Int.reduceToNat, Nat.reduceLT, reduceIte, Nat.reduceEqDiff, Nat.reduceAdd, Nat.reduceMul, Nat.reduceBEq, reduceCtorEq]; rfl) ?_
    try dsimp only [thenQ, blockQ]
    refine AW.cond rfl (fun c2 => ?_) (fun c2 => ?_)
    · have k2 := c2
      try simp only [decide_eq_true_eq, decide_eq_false_iff_not, bne_iff_ne, ne_eq, beq_iff_eq, beq_eq_false_iff_ne, bne_eq_false_iff_eq, Bool.not_eq_true', Bool.not_eq_false', Bool.and_eq_true, Bool.or_eq_true, Bool.and_eq_false_iff, Bool.or_eq_false_iff, Int.not_lt, Int.not_le, Int.toNat_natCast] at c2
      refine AW.region ?_
      refine AWL.q rfl rfl rfl (by decide) Qt.move ?_
      refine AWL.nrm (by simp only [go_sem, Int.reduceToNat, Nat.reduceLT, reduceIte, Nat.reduceEqDiff, Nat.reduceAdd, Nat.reduceMul, Nat.reduceBEq, reduceCtorEq]; rfl) ?_
      refine AWL.step rfl rfl (Stp.callV rfl (by decide) Try.call108 rfl rfl (l3Zig_con _ (by omega) (by omega))) ?_
      refine AWL.nrm (by simp only [go_sem, Int.reduceToNat, Nat.reduceLT, reduceIte, Nat.reduceEqDiff, Nat.reduceAdd, Nat.reduceMul, Nat.reduceBEq, reduceCtorEq]; rfl) ?_
      refine AWL.q rfl rfl rfl (by decide) Qt.assign ?_
      refine AWL.nilE (by simp only [go_sem, Int.reduceToNat, Nat.reduceLT, reduceIte, Nat.reduceEqDiff, Nat.reduceAdd, Nat.reduceMul, Nat.reduceBEq, reduceCtorEq]; rfl) ?_
      try dsimp only [thenQ, blockQ]
      refine AW.draw [0, 1, 2, 3, 4, 5, 7, 8, 9, 10, 11, 12, 14, 15, 17, 18, 19, 20, 21, 22, 24] rfl (by decide +kernel) ?_
      refine AWA.take 0 rfl rfl rfl (by decide +kernel) (.on rfl rfl Qt.move) ?_
      refine AWA.take 1 rfl rfl rfl (by decide +kernel) (.on rfl rfl Qt.move) ?_
      refine AWA.nrm (by first | (simp only [go_sem, Int.reduceToNat, Nat.reduceLT, reduceIte, Nat.reduceEqDiff, Nat.reduceAdd, Nat.reduceMul, Nat.reduceBEq, reduceCtorEq]; rfl) | rfl) ?_
      refine AWA.take 2 rfl rfl rfl (by decide +kernel) (.on rfl rfl Qt.move) ?_
      refine AWA.take 3 rfl rfl rfl (by decide +kernel) (.on rfl rfl (Qt.indexAddr rfl rfl rfl rfl sl41 sz74 (by decide) (by omega))) ?_
      refine AWA.take 4 rfl rfl rfl (by decide +kernel) (.on rfl rfl (Qt.fieldAddr rfl fl74_0 rfl rfl (by decide))) ?_
      refine AWA.nrm (by first | (simp only [go_sem, Int.reduceToNat, Nat.reduceLT, reduceIte, Nat.reduceEqDiff, Nat.reduceAdd, Nat.reduceMul, Nat.reduceBEq, reduceCtorEq]; rfl) | rfl) ?_
      refine AWA.take 5 rfl rfl rfl (by decide +kernel) (.on rfl rfl (Qt.load1 rfl rfl rfl ag3)) ?_
      refine AWA.take 8 rfl rfl rfl (by decide +kernel) (.on rfl rfl Qt.move) ?_
      refine AWA.take 9 rfl rfl rfl (by decide +kernel) (.on rfl rfl Qt.move) ?_
      refine AWA.nrm (by first | (simp only [go_sem, Int.reduceToNat, Nat.reduceLT, reduceIte, Nat.reduceEqDiff, Nat.reduceAdd, Nat.reduceMul, Nat.reduceBEq, reduceCtorEq]; rfl) | rfl) ?_
      refine AWA.take 10 rfl rfl rfl (by decide +kernel) (.on rfl rfl (Qt.indexAddr rfl rfl rfl rfl sl41 sz74 (by decide) (by omega))) ?_
      refine AWA.take 11 rfl rfl rfl (by decide +kernel) (.on rfl rfl (Qt.fieldAddr rfl fl74_1 rfl rfl (by decide))) ?_
      refine AWA.take 12 rfl rfl rfl (by decide +kernel) (.on rfl rfl (Qt.load1 rfl rfl rfl ag3)) ?_
      refine AWA.nrm (by first | (simp only [go_sem, Int.reduceToNat, Nat.reduceLT, reduceIte, Nat.reduceEqDiff, Nat.reduceAdd, Nat.reduceMul, Nat.reduceBEq, reduceCtorEq]; rfl) | rfl) ?_
      refine AWA.take 15 rfl rfl rfl (by decide +kernel) (.on rfl rfl Qt.move) ?_
      refine AWA.take 18 rfl rfl rfl (by decide +kernel) (.on rfl rfl Qt.move) ?_
      refine AWA.take 19 rfl rfl rfl (by decide +kernel) (.on rfl rfl Qt.move) ?_
      refine AWA.nrm (by first | (simp only [go_sem, Int.reduceToNat, Nat.reduceLT, reduceIte, Nat.reduceEqDiff, Nat.reduceAdd, Nat.reduceMul, Nat.reduceBEq, reduceCtorEq]; rfl) | rfl) ?_
      refine AWA.take 20 rfl rfl rfl (by decide +kernel) (.on rfl rfl (Qt.indexAddr rfl rfl rfl rfl sl41 sz74 (by decide) (by omega))) ?_
      refine AWA.take 21 rfl rfl rfl (by decide +kernel) (.on rfl rfl (Qt.fieldAddr rfl fl74_3 rfl rfl (by decide))) ?_
      refine AWA.take 22 rfl rfl rfl (by decide +kernel) (.on rfl rfl (Qt.load1 rfl rfl rfl ag3)) ?_
      refine AWA.nrm (by first | (simp only [go_sem, Int.reduceToNat, Nat.reduceLT, reduceIte, Nat.reduceEqDiff, Nat.reduceAdd, Nat.reduceMul, Nat.reduceBEq, reduceCtorEq]; rfl) | rfl) ?_
      refine AWA.one 6 [0, 8, 9, 10, 11, 12, 15, 18, 19, 20, 21, 22] [5, 4, 3, 2, 1] (by decide +kernel) rfl rfl rfl (by decide +kernel) (by decide +kernel) (by decide +kernel) (Stp.callV rfl (by decide) Try.call107 rfl rfl (VarS_con _)) ?_
      refine AWA.nrm (by first | (simp only [go_sem, Int.reduceToNat, Nat.reduceLT, reduceIte, Nat.reduceEqDiff, Nat.reduceAdd, Nat.reduceMul, Nat.reduceBEq, reduceCtorEq]; rfl) | rfl) ?_
      refine AWA.againE rfl rfl (by decide +kernel) (.on rfl rfl Qt.move) rfl ?_
      refine AWA.againE rfl rfl (by decide +kernel) (.on rfl rfl Qt.move) rfl ?_
      refine AWA.againE rfl rfl (by decide +kernel) (.on rfl rfl Qt.move) rfl ?_
      refine AWA.againE rfl rfl (by decide +kernel) (.on rfl rfl (Qt.indexAddr rfl rfl rfl rfl sl41 sz74 (by decide) (by omega))) rfl ?_
      refine AWA.againE rfl rfl (by decide +kernel) (.on rfl rfl (Qt.fieldAddr rfl fl74_1 rfl rfl (by decide))) rfl ?_
      refine AWA.againE rfl rfl (by decide +kernel) (.on rfl rfl (Qt.load1 rfl rfl rfl ag3)) rfl ?_
      refine AWA.againE rfl rfl (by decide +kernel) (.on rfl rfl Qt.move) rfl ?_
      refine AWA.againE rfl rfl (by decide +kernel) (.on rfl rfl Qt.move) rfl ?_
      refine AWA.againE rfl rfl (by decide +kernel) (.on rfl rfl Qt.move) rfl ?_
      refine AWA.againE rfl rfl (by decide +kernel) (.on rfl rfl (Qt.indexAddr rfl rfl rfl rfl sl41 sz74 (by decide) (by omega))) rfl ?_
      refine AWA.againE rfl rfl (by decide +kernel) (.on rfl rfl (Qt.fieldAddr rfl fl74_3 rfl rfl (by decide))) rfl ?_
      refine AWA.againE rfl rfl (by decide +kernel) (.on rfl rfl (Qt.load1 rfl rfl rfl ag3)) rfl ?_
      refine AWA.nrm (by first | (simp only [go_sem, Int.reduceToNat, Nat.reduceLT, reduceIte, Nat.reduceEqDiff, Nat.reduceAdd, Nat.reduceMul, Nat.reduceBEq, reduceCtorEq]; rfl) | rfl) ?_
      refine AWA.take 7 rfl rfl rfl (by decide +kernel) (.on rfl rfl (Qt.binOp rfl rfl (pbCat (by first | omega | (simp only [ByteArray.size_append]; omega))))) ?_
      refine AWA.one 13 [0, 7, 15, 18, 19, 20, 21, 22] [12, 6, 11, 5, 10, 4, 9, 8, 3, 2, 1] (by decide +kernel) rfl rfl rfl (by decide +kernel) (by decide +kernel) (by decide +kernel) (Stp.callV rfl (by decide) Try.call107 rfl rfl (VarS_con _)) ?_
      refine AWA.nrm (by first | (simp only [go_sem, Int.reduceToNat, Nat.reduceLT, reduceIte, Nat.reduceEqDiff, Nat.reduceAdd, Nat.reduceMul, Nat.reduceBEq, reduceCtorEq]; rfl) | rfl) ?_
      refine AWA.againE rfl rfl (by decide +kernel) (.on rfl rfl Qt.move) rfl ?_
      refine AWA.againE rfl rfl (by decide +kernel) (.on rfl rfl (Qt.binOp rfl rfl (pbCat (by first | omega | (simp only [ByteArray.size_append]; omega))))) rfl ?_
      refine AWA.againE rfl rfl (by decide +kernel) (.on rfl rfl Qt.move) rfl ?_
      refine AWA.againE rfl rfl (by decide +kernel) (.on rfl rfl Qt.move) rfl ?_
      refine AWA.againE rfl rfl (by decide +kernel) (.on rfl rfl Qt.move) rfl ?_
      refine AWA.againE rfl rfl (by decide +kernel) (.on rfl rfl (Qt.indexAddr rfl rfl rfl rfl sl41 sz74 (by decide) (by omega))) rfl ?_
      refine AWA.againE rfl rfl (by decide +kernel) (.on rfl rfl (Qt.fieldAddr rfl fl74_3 rfl rfl (by decide))) rfl ?_
      refine AWA.againE rfl rfl (by decide +kernel) (.on rfl rfl (Qt.load1 rfl rfl rfl ag3)) rfl ?_
      refine AWA.nrm (by first | (simp only [go_sem, Int.reduceToNat, Nat.reduceLT, reduceIte, Nat.reduceEqDiff, Nat.reduceAdd, Nat.reduceMul, Nat.reduceBEq, reduceCtorEq]; rfl) | rfl) ?_
      refine AWA.take 14 rfl rfl rfl (by decide +kernel) (.on rfl rfl (Qt.binOp rfl rfl (pbCat (by first | omega | (simp only [ByteArray.size_append]; omega))))) ?_
      refine AWA.one 16 [0, 7, 14, 18, 19, 20, 21, 22] [15, 13, 12, 6, 11, 5, 10, 4, 9, 8, 3, 2, 1] (by decide +kernel) rfl rfl rfl (by decide +kernel) (by decide +kernel) (by decide +kernel) (Stp.callV rfl (by decide) Try.call107 rfl rfl (VarS_con _)) ?_
      refine AWA.nrm (by first | (simp only [go_sem, Int.reduceToNat, Nat.reduceLT, reduceIte, Nat.reduceEqDiff, Nat.reduceAdd, Nat.reduceMul, Nat.reduceBEq, reduceCtorEq]; rfl) | rfl) ?_
      refine AWA.againE rfl rfl (by decide +kernel) (.on rfl rfl Qt.move) rfl ?_
      refine AWA.againE rfl rfl (by decide +kernel) (.on rfl rfl (Qt.binOp rfl rfl (pbCat (by first | omega | (simp only [ByteArray.size_append]; omega))))) rfl ?_
      refine AWA.againE rfl rfl (by decide +kernel) (.on rfl rfl (Qt.binOp rfl rfl (pbCat (by first | omega | (simp only [ByteArray.size_append]; omega))))) rfl ?_
      refine AWA.againE rfl rfl (by decide +kernel) (.on rfl rfl Qt.move) rfl ?_
      refine AWA.againE rfl rfl (by decide +kernel) (.on rfl rfl Qt.move) rfl ?_
      refine AWA.againE rfl rfl (by decide +kernel) (.on rfl rfl (Qt.indexAddr rfl rfl rfl rfl sl41 sz74 (by decide) (by omega))) rfl ?_
      refine AWA.againE rfl rfl (by decide +kernel) (.on rfl rfl (Qt.fieldAddr rfl fl74_3 rfl rfl (by decide))) rfl ?_
      refine AWA.againE rfl rfl (by decide +kernel) (.on rfl rfl (Qt.load1 rfl rfl rfl ag3)) rfl ?_
      refine AWA.nrm (by first | (simp only [go_sem, Int.reduceToNat, Nat.reduceLT, reduceIte, Nat.reduceEqDiff, Nat.reduceAdd, Nat.reduceMul, Nat.reduceBEq, reduceCtorEq]; rfl) | rfl) ?_
      refine AWA.take 17 rfl rfl rfl (by decide +kernel) (.on rfl rfl (Qt.binOp rfl rfl (pbCat (by first | omega | (simp only [ByteArray.size_append]; omega))))) ?_
      refine AWA.one 23 [0, 7, 14, 17] [22, 16, 21, 15, 13, 20, 12, 6, 19, 18, 11, 5, 10, 4, 9, 8, 3, 2, 1] (by decide +kernel) rfl rfl rfl (by decide +kernel) (by decide +kernel) (by decide +kernel) (Stp.callV rfl (by decide) Try.call107 rfl rfl (VarS_con _)) ?_
      refine AWA.nrm (by first | (simp only [go_sem, Int.reduceToNat, Nat.reduceLT, reduceIte, Nat.reduceEqDiff, Nat.reduceAdd, Nat.reduceMul, Nat.reduceBEq, reduceCtorEq]; rfl) | rfl) ?_
      refine AWA.againE rfl rfl (by decide +kernel) (.on rfl rfl Qt.move) rfl ?_
      refine AWA.againE rfl rfl (by decide +kernel) (.on rfl rfl (Qt.binOp rfl rfl (pbCat (by first | omega | (simp only [ByteArray.size_append]; omega))))) rfl ?_
      refine AWA.againE rfl rfl (by decide +kernel) (.on rfl rfl (Qt.binOp rfl rfl (pbCat (by first | omega | (simp only [ByteArray.size_append]; omega))))) rfl ?_
      refine AWA.againE rfl rfl (by decide +kernel) (.on rfl rfl (Qt.binOp rfl rfl (pbCat (by first | omega | (simp only [ByteArray.size_append]; omega))))) rfl ?_
      refine AWA.nrm (by first | (simp only [go_sem, Int.reduceToNat, Nat.reduceLT, reduceIte, Nat.reduceEqDiff, Nat.reduceAdd, Nat.reduceMul, Nat.reduceBEq, reduceCtorEq]; rfl) | rfl) ?_
      refine AWA.take 24 rfl rfl rfl (by decide +kernel) (.on rfl rfl (Qt.binOp rfl rfl (pbCat (by first | omega | (simp only [ByteArray.size_append]; omega))))) ?_
      refine AWA.one 25 [] [24, 23, 22, 21, 20, 19, 18, 17, 16, 15, 14, 13, 12, 11, 10, 9, 8, 7, 6, 5, 4, 3, 2, 1, 0] (by decide +kernel) rfl rfl rfl (by decide +kernel) (by decide +kernel) (by decide +kernel) (Stp.q rfl (by decide) Qt.assign) ?_
      refine AWA.nrm (by first | (simp only [go_sem, Int.reduceToNat, Nat.reduceLT, reduceIte, Nat.reduceEqDiff, Nat.reduceAdd, Nat.reduceMul, Nat.reduceBEq, reduceCtorEq]; rfl) | rfl) ?_
      refine AWA.nrm (by first | (simp only [go_sem, Int.reduceToNat, Nat.reduceLT, reduceIte, Nat.reduceEqDiff, Nat.reduceAdd, Nat.reduceMul, Nat.reduceBEq, reduceCtorEq]; rfl) | rfl) ?_
      refine AWA.nilE (by decide +kernel) (by first | (simp only [go_sem, Int.reduceToNat, Nat.reduceLT, reduceIte, Nat.reduceEqDiff, Nat.reduceAdd, Nat.reduceMul, Nat.reduceBEq, reduceCtorEq]; rfl) | rfl) ?_
      try dsimp only [thenQ, blockQ]
      refine AW.region ?_
      refine AWL.q rfl rfl rfl (by decide) Qt.move ?_
      refine AWL.q rfl rfl rfl (by decide) (Qt.binOp rfl rfl (by first | exact pbAdd (by omega) | rfl)) ?_
      refine AWL.q rfl rfl rfl (by decide) Qt.assign ?_
      refine AWL.nilE (by simp only [go_sem, Int.reduceToNat, Nat.reduceLT, reduceIte, Nat.reduceEqDiff, Nat.reduceAdd, Nat.reduceMul, Nat.reduceBEq, reduceCtorEq]; rfl) ?_
      try dsimp only [thenQ, blockQ]
      refine ⟨⟨i.k + 1, by omega⟩, Weak.sim ⟨(by simp only [slotL, reduceIte, Nat.reduceEqDiff]; first | rfl | (rw [IntWalk.i64_in _ (by omega)]; rfl)), (by rw [hnx]; simp only [slotL, reduceIte, Nat.reduceEqDiff, showStep, third]; first | rw [if_pos (by omega)] | rw [if_neg (by omega)]), rfl, ⟨_, rfl, T.sim_refl _⟩, trivial⟩ rfl rfl, ?_⟩
      show l.length - (i.k + 1) < l.length - i.k
      omega
    · have k2 := c2
      try simp only [decide_eq_true_eq, decide_eq_false_iff_not, bne_iff_ne, ne_eq, beq_iff_eq, beq_eq_false_iff_ne, bne_eq_false_iff_eq, Bool.not_eq_true', Bool.not_eq_false', Bool.and_eq_true, Bool.or_eq_true, Bool.and_eq_false_iff, Bool.or_eq_false_iff, Int.not_lt, Int.not_le, Int.toNat_natCast] at c2
      refine AW.skip ?_
      dsimp only [thenQ, blockQ]
      refine AW.draw [0, 1, 2, 3, 4, 5, 7, 8, 9, 10, 11, 12, 14, 15, 17, 18, 19, 20, 21, 22, 24] rfl (by decide +kernel) ?_
      refine AWA.take 0 rfl rfl rfl (by decide +kernel) (.on rfl rfl Qt.move) ?_
      refine AWA.nrm (by first | (simp only [go_sem, Int.reduceToNat, Nat.reduceLT, reduceIte, Nat.reduceEqDiff, Nat.reduceAdd, Nat.reduceMul, Nat.reduceBEq, reduceCtorEq]; rfl) | rfl) ?_
      refine AWA.take 1 rfl rfl rfl (by decide +kernel) (.on rfl rfl Qt.move) ?_
      refine AWA.take 2 rfl rfl rfl (by decide +kernel) (.on rfl rfl Qt.move) ?_
      refine AWA.take 3 rfl rfl rfl (by decide +kernel) (.on rfl rfl (Qt.indexAddr rfl rfl rfl rfl sl41 sz74 (by decide) (by omega))) ?_
      refine AWA.nrm (by first | (simp only [go_sem, Int.reduceToNat, Nat.reduceLT, reduceIte, Nat.reduceEqDiff, Nat.reduceAdd, Nat.reduceMul, Nat.reduceBEq, reduceCtorEq]; rfl) | rfl) ?_
      refine AWA.take 4 rfl rfl rfl (by decide +kernel) (.on rfl rfl (Qt.fieldAddr rfl fl74_0 rfl rfl (by decide))) ?_
      refine AWA.take 5 rfl rfl rfl (by decide +kernel) (.on rfl rfl (Qt.load1 rfl rfl rfl ag3)) ?_
      refine AWA.take 8 rfl rfl rfl (by decide +kernel) (.on rfl rfl Qt.move) ?_
      refine AWA.nrm (by first | (simp only [go_sem, Int.reduceToNat, Nat.reduceLT, reduceIte, Nat.reduceEqDiff, Nat.reduceAdd, Nat.reduceMul, Nat.reduceBEq, reduceCtorEq]; rfl) | rfl) ?_
      refine AWA.take 9 rfl rfl rfl (by decide +kernel) (.on rfl rfl Qt.move) ?_
      refine AWA.take 10 rfl rfl rfl (by decide +kernel) (.on rfl rfl (Qt.indexAddr rfl rfl rfl rfl sl41 sz74 (by decide) (by omega))) ?_
      refine AWA.take 11 rfl rfl rfl (by decide +kernel) (.on rfl rfl (Qt.fieldAddr rfl fl74_1 rfl rfl (by decide))) ?_
      refine AWA.nrm (by first | (simp only [go_sem, Int.reduceToNat, Nat.reduceLT, reduceIte, Nat.reduceEqDiff, Nat.reduceAdd, Nat.reduceMul, Nat.reduceBEq, reduceCtorEq]; rfl) | rfl) ?_
      refine AWA.take 12 rfl rfl rfl (by decide +kernel) (.on rfl rfl (Qt.load1 rfl rfl rfl ag3)) ?_
      refine AWA.take 15 rfl rfl rfl (by decide +kernel) (.on rfl rfl Qt.move) ?_
      refine AWA.take 18 rfl rfl rfl (by decide +kernel) (.on rfl rfl Qt.move) ?_
      refine AWA.nrm (by first | (simp only [go_sem, Int.reduceToNat, Nat.reduceLT, reduceIte, Nat.reduceEqDiff, Nat.reduceAdd, Nat.reduceMul, Nat.reduceBEq, reduceCtorEq]; rfl) | rfl) ?_
      refine AWA.take 19 rfl rfl rfl (by decide +kernel) (.on rfl rfl Qt.move) ?_
      refine AWA.take 20 rfl rfl rfl (by decide +kernel) (.on rfl rfl (Qt.indexAddr rfl rfl rfl rfl sl41 sz74 (by decide) (by omega))) ?_
      refine AWA.take 21 rfl rfl rfl (by decide +kernel) (.on rfl rfl (Qt.fieldAddr rfl fl74_3 rfl rfl (by decide))) ?_
      refine AWA.nrm (by first | (simp only [go_sem, Int.reduceToNat, Nat.reduceLT, reduceIte, Nat.reduceEqDiff, Nat.reduceAdd, Nat.reduceMul, Nat.reduceBEq, reduceCtorEq]; rfl) | rfl) ?_
      refine AWA.take 22 rfl rfl rfl (by decide +kernel) (.on rfl rfl (Qt.load1 rfl rfl rfl ag3)) ?_
      refine AWA.one 6 [0, 8, 9, 10, 11, 12, 15, 18, 19, 20, 21, 22] [5, 4, 3, 2, 1] (by decide +kernel) rfl rfl rfl (by decide +kernel) (by decide +kernel) (by decide +kernel) (Stp.callV rfl (by decide) Try.call107 rfl rfl (VarS_con _)) ?_
      refine AWA.nrm (by first | (simp only [go_sem, Int.reduceToNat, Nat.reduceLT, reduceIte, Nat.reduceEqDiff, Nat.reduceAdd, Nat.reduceMul, Nat.reduceBEq, reduceCtorEq]; rfl) | rfl) ?_
      refine AWA.againE rfl rfl (by decide +kernel) (.on rfl rfl Qt.move) rfl ?_
      refine AWA.againE rfl rfl (by decide +kernel) (.on rfl rfl Qt.move) rfl ?_
      refine AWA.againE rfl rfl (by decide +kernel) (.on rfl rfl Qt.move) rfl ?_
      refine AWA.againE rfl rfl (by decide +kernel) (.on rfl rfl (Qt.indexAddr rfl rfl rfl rfl sl41 sz74 (by decide) (by omega))) rfl ?_
      refine AWA.againE rfl rfl (by decide +kernel) (.on rfl rfl (Qt.fieldAddr rfl fl74_1 rfl rfl (by decide))) rfl ?_
      refine AWA.againE rfl rfl (by decide +kernel) (.on rfl rfl (Qt.load1 rfl rfl rfl ag3)) rfl ?_
      refine AWA.againE rfl rfl (by decide +kernel) (.on rfl rfl Qt.move) rfl ?_
      refine AWA.againE rfl rfl (by decide +kernel) (.on rfl rfl Qt.move) rfl ?_
      refine AWA.againE rfl rfl (by decide +kernel) (.on rfl rfl Qt.move) rfl ?_
      refine AWA.againE rfl rfl (by decide +kernel) (.on rfl rfl (Qt.indexAddr rfl rfl rfl rfl sl41 sz74 (by decide) (by omega))) rfl ?_
      refine AWA.againE rfl rfl (by decide +kernel) (.on rfl rfl (Qt.fieldAddr rfl fl74_3 rfl rfl (by decide))) rfl ?_
      refine AWA.againE rfl rfl (by decide +kernel) (.on rfl rfl (Qt.load1 rfl rfl rfl ag3)) rfl ?_
      refine AWA.nrm (by first | (simp only [go_sem, Int.reduceToNat, Nat.reduceLT, reduceIte, Nat.reduceEqDiff, Nat.reduceAdd, Nat.reduceMul, Nat.reduceBEq, reduceCtorEq]; rfl) | rfl) ?_
      refine AWA.take 7 rfl rfl rfl (by decide +kernel) (.on rfl rfl (Qt.binOp rfl rfl (pbCat (by first | omega | (simp only [ByteArray.size_append]; omega))))) ?_
      refine AWA.one 13 [0, 7, 15, 18, 19, 20, 21, 22] [12, 6, 11, 5, 10, 4, 9, 8, 3, 2, 1] (by decide +kernel) rfl rfl rfl (by decide +kernel) (by decide +kernel) (by decide +kernel) (Stp.callV rfl (by decide) Try.call107 rfl rfl (VarS_con _)) ?_
      refine AWA.nrm (by first | (simp only [go_sem, Int.reduceToNat, Nat.reduceLT, reduceIte, Nat.reduceEqDiff, Nat.reduceAdd, Nat.reduceMul, Nat.reduceBEq, reduceCtorEq]; rfl) | rfl) ?_
      refine AWA.againE rfl rfl (by decide +kernel) (.on rfl rfl Qt.move) rfl ?_
      refine AWA.againE rfl rfl (by decide +kernel) (.on rfl rfl (Qt.binOp rfl rfl (pbCat (by first | omega | (simp only [ByteArray.size_append]; omega))))) rfl ?_
      refine AWA.againE rfl rfl (by decide +kernel) (.on rfl rfl Qt.move) rfl ?_
      refine AWA.againE rfl rfl (by decide +kernel) (.on rfl rfl Qt.move) rfl ?_
      refine AWA.againE rfl rfl (by decide +kernel) (.on rfl rfl Qt.move) rfl ?_
      refine AWA.againE rfl rfl (by decide +kernel) (.on rfl rfl (Qt.indexAddr rfl rfl rfl rfl sl41 sz74 (by decide) (by omega))) rfl ?_
      refine AWA.againE rfl rfl (by decide +kernel) (.on rfl rfl (Qt.fieldAddr rfl fl74_3 rfl rfl (by decide))) rfl ?_
      refine AWA.againE rfl rfl (by decide +kernel) (.on rfl rfl (Qt.load1 rfl rfl rfl ag3)) rfl ?_
      refine AWA.nrm (by first | (simp only [go_sem, Int.reduceToNat, Nat.reduceLT, reduceIte, Nat.reduceEqDiff, Nat.reduceAdd, Nat.reduceMul, Nat.reduceBEq, reduceCtorEq]; rfl) | rfl) ?_
      refine AWA.take 14 rfl rfl rfl (by decide +kernel) (.on rfl rfl (Qt.binOp rfl rfl (pbCat (by first | omega | (simp only [ByteArray.size_append]; omega))))) ?_
      refine AWA.one 16 [0, 7, 14, 18, 19, 20, 21, 22] [15, 13, 12, 6, 11, 5, 10, 4, 9, 8, 3, 2, 1] (by decide +kernel) rfl rfl rfl (by decide +kernel) (by decide +kernel) (by decide +kernel) (Stp.callV rfl (by decide) Try.call107 rfl rfl (VarS_con _)) ?_
      refine AWA.nrm (by first | (simp only [go_sem, Int.reduceToNat, Nat.reduceLT, reduceIte, Nat.reduceEqDiff, Nat.reduceAdd, Nat.reduceMul, Nat.reduceBEq, reduceCtorEq]; rfl) | rfl) ?_
      refine AWA.againE rfl rfl (by decide +kernel) (.on rfl rfl Qt.move) rfl ?_
      refine AWA.againE rfl rfl (by decide +kernel) (.on rfl rfl (Qt.binOp rfl rfl (pbCat (by first | omega | (simp only [ByteArray.size_append]; omega))))) rfl ?_
      refine AWA.againE rfl rfl (by decide +kernel) (.on rfl rfl (Qt.binOp rfl rfl (pbCat (by first | omega | (simp only [ByteArray.size_append]; omega))))) rfl ?_
      refine AWA.againE rfl rfl (by decide +kernel) (.on rfl rfl Qt.move) rfl ?_
      refine AWA.againE rfl rfl (by decide +kernel) (.on rfl rfl Qt.move) rfl ?_
      refine AWA.againE rfl rfl (by decide +kernel) (.on rfl rfl (Qt.indexAddr rfl rfl rfl rfl sl41 sz74 (by decide) (by omega))) rfl ?_
      refine AWA.againE rfl rfl (by decide +kernel) (.on rfl rfl (Qt.fieldAddr rfl fl74_3 rfl rfl (by decide))) rfl ?_
      refine AWA.againE rfl rfl (by decide +kernel) (.on rfl rfl (Qt.load1 rfl rfl rfl ag3)) rfl ?_
      refine AWA.nrm (by first | (simp only [go_sem, Int.reduceToNat, Nat.reduceLT, reduceIte, Nat.reduceEqDiff, Nat.reduceAdd, Nat.reduceMul, Nat.reduceBEq, reduceCtorEq]; rfl) | rfl) ?_
      refine AWA.take 17 rfl rfl rfl (by decide +kernel) (.on rfl rfl (Qt.binOp rfl rfl (pbCat (by first | omega | (simp only [ByteArray.size_append]; omega))))) ?_
      refine AWA.one 23 [0, 7, 14, 17] [22, 16, 21, 15, 13, 20, 12, 6, 19, 18, 11, 5, 10, 4, 9, 8, 3, 2, 1] (by decide +kernel) rfl rfl rfl (by decide +kernel) (by decide +kernel) (by decide +kernel) (Stp.callV rfl (by decide) Try.call107 rfl rfl (VarS_con _)) ?_
      refine AWA.nrm (by first | (simp only [go_sem, Int.reduceToNat, Nat.reduceLT, reduceIte, Nat.reduceEqDiff, Nat.reduceAdd, Nat.reduceMul, Nat.reduceBEq, reduceCtorEq]; rfl) | rfl) ?_
      refine AWA.againE rfl rfl (by decide +kernel) (.on rfl rfl Qt.move) rfl ?_
      refine AWA.againE rfl rfl (by decide +kernel) (.on rfl rfl (Qt.binOp rfl rfl (pbCat (by first | omega | (simp only [ByteArray.size_append]; omega))))) rfl ?_
      refine AWA.againE rfl rfl (by decide +kernel) (.on rfl rfl (Qt.binOp rfl rfl (pbCat (by first | omega | (simp only [ByteArray.size_append]; omega))))) rfl ?_
      refine AWA.againE rfl rfl (by decide +kernel) (.on rfl rfl (Qt.binOp rfl rfl (pbCat (by first | omega | (simp only [ByteArray.size_append]; omega))))) rfl ?_
      refine AWA.nrm (by first | (simp only [go_sem, Int.reduceToNat, Nat.reduceLT, reduceIte, Nat.reduceEqDiff, Nat.reduceAdd, Nat.reduceMul, Nat.reduceBEq, reduceCtorEq]; rfl) | rfl) ?_
      refine AWA.take 24 rfl rfl rfl (by decide +kernel) (.on rfl rfl (Qt.binOp rfl rfl (pbCat (by first | omega | (simp only [ByteArray.size_append]; omega))))) ?_
      refine AWA.one 25 [] [24, 23, 22, 21, 20, 19, 18, 17, 16, 15, 14, 13, 12, 11, 10, 9, 8, 7, 6, 5, 4, 3, 2, 1, 0] (by decide +kernel) rfl rfl rfl (by decide +kernel) (by decide +kernel) (by decide +kernel) (Stp.q rfl (by decide) Qt.assign) ?_
      refine AWA.nrm (by first | (simp only [go_sem, Int.reduceToNat, Nat.reduceLT, reduceIte, Nat.reduceEqDiff, Nat.reduceAdd, Nat.reduceMul, Nat.reduceBEq, reduceCtorEq]; rfl) | rfl) ?_
      refine AWA.nrm (by first | (simp only [go_sem, Int.reduceToNat, Nat.reduceLT, reduceIte, Nat.reduceEqDiff, Nat.reduceAdd, Nat.reduceMul, Nat.reduceBEq, reduceCtorEq]; rfl) | rfl) ?_
      refine AWA.nilE (by decide +kernel) (by first | (simp only [go_sem, Int.reduceToNat, Nat.reduceLT, reduceIte, Nat.reduceEqDiff, Nat.reduceAdd, Nat.reduceMul, Nat.reduceBEq, reduceCtorEq]; rfl) | rfl) ?_
      try dsimp only [thenQ, blockQ]
      refine AW.region ?_
      refine AWL.q rfl rfl rfl (by decide) Qt.move ?_
      refine AWL.q rfl rfl rfl (by decide) (Qt.binOp rfl rfl (by first | exact pbAdd (by omega) | rfl)) ?_
      refine AWL.q rfl rfl rfl (by decide) Qt.assign ?_
      refine AWL.nilE (by simp only [go_sem, Int.reduceToNat, Nat.reduceLT, reduceIte, Nat.reduceEqDiff, Nat.reduceAdd, Nat.reduceMul, Nat.reduceBEq, reduceCtorEq]; rfl) ?_
      try dsimp only [thenQ, blockQ]
      refine ⟨⟨i.k + 1, by omega⟩, Weak.sim ⟨(by simp only [slotL, reduceIte, Nat.reduceEqDiff]; first | rfl | (rw [IntWalk.i64_in _ (by omega)]; rfl)), (by rw [hnx]; simp only [slotL, reduceIte, Nat.reduceEqDiff, showStep, third]; first | rw [if_pos (by omega)] | rw [if_neg (by omega)]), rfl, ⟨_, rfl, T.sim_refl _⟩, trivial⟩ rfl rfl, ?_⟩
      show l.length - (i.k + 1) < l.length - i.k
      omega
  · have k1 := c1
    try simp only [decide_eq_true_eq, decide_eq_false_iff_not, bne_iff_ne, ne_eq, beq_iff_eq, beq_eq_false_iff_ne, bne_eq_false_iff_eq, Bool.not_eq_true', Bool.not_eq_false', Bool.and_eq_true, Bool.or_eq_true, Bool.and_eq_false_iff, Bool.or_eq_false_iff, Int.not_lt, Int.not_le, Int.toNat_natCast] at c1
    refine AW.exit ?_
    dsimp only [thenQ, blockQ, reduceIte]
    refine AW.seq ?_
    refine AW.region ?_
    refine AWL.q rfl rfl rfl (by decide) Qt.move ?_
    refine AWL.nrm (by simp only [go_sem, Int.reduceToNat, Nat.reduceLT, reduceIte, Nat.reduceEqDiff, Nat.reduceAdd, Nat.reduceMul, Nat.reduceBEq, reduceCtorEq]; rfl) ?_
    refine AWL.q rfl rfl rfl (by decide) Qt.assign ?_
    refine AWL.nilE (by simp only [go_sem, Int.reduceToNat, Nat.reduceLT, reduceIte, Nat.reduceEqDiff, Nat.reduceAdd, Nat.reduceMul, Nat.reduceBEq, reduceCtorEq]; rfl) ?_
    try dsimp only [thenQ, blockQ]
    refine AW.ret ?_
    try dsimp only [thenQ, blockQ]
    refine endQ_ret (.cons (.tmp 2) .nil) ?_
    rw [show showK l l.length = showK l i.k from by rw [show i.k = l.length by omega]]
    rfl
set_option maxHeartbeats 2000000 in
set_option maxRecDepth 10000 in
theorem ShowProgS_con (l : List DIns) : Con Try.prog 47 [.h base []] [.rt base .ro (tr l)] (fun y _ => y = .v (.string (showP l))) := by
  refine Con.of_body Try.func47 rfl (by simp) ?_
  rw [Try.ntmps47]
  refine AW.seq ?_
  refine AW.region ?_
  refine AWL.q rfl rfl rfl (by decide) Qt.assign ?_
  refine AWL.nilE (by simp only [go_sem, Int.reduceToNat, Nat.reduceLT, reduceIte, Nat.reduceEqDiff, Nat.reduceAdd, Nat.reduceMul, Nat.reduceBEq, reduceCtorEq]; rfl) ?_
  try dsimp only [thenQ, blockQ]
  refine AW.seq ?_
  refine AW.seq ?_
  refine AW.region ?_
  refine AWL.q rfl rfl rfl (by decide) Qt.move ?_
  refine AWL.step rfl rfl (Stp.callV rfl (by decide) Try.call25 rfl rfl (ProgOkS_con _)) ?_
  refine AWL.nrm (by simp only [go_sem, Int.reduceToNat, Nat.reduceLT, reduceIte, Nat.reduceEqDiff, Nat.reduceAdd, Nat.reduceMul, Nat.reduceBEq, reduceCtorEq]; rfl) ?_
  refine AWL.q rfl rfl rfl (by decide) (Qt.notB rfl) ?_
  refine AWL.nilE (by simp only [go_sem, Int.reduceToNat, Nat.reduceLT, reduceIte, Nat.reduceEqDiff, Nat.reduceAdd, Nat.reduceMul, Nat.reduceBEq, reduceCtorEq]; rfl) ?_
  try dsimp only [thenQ, blockQ]
  refine AW.cond rfl (fun c1 => ?_) (fun c1 => ?_)
  · have k1 := c1
    try simp only [decide_eq_true_eq, decide_eq_false_iff_not, bne_iff_ne, ne_eq, beq_iff_eq, beq_eq_false_iff_ne, bne_eq_false_iff_eq, Bool.not_eq_true', Bool.not_eq_false', Bool.and_eq_true, Bool.or_eq_true, Bool.and_eq_false_iff, Bool.or_eq_false_iff, Int.not_lt, Int.not_le, Int.toNat_natCast] at c1
    refine AW.seq ?_
    refine AW.region ?_
    refine AWL.q rfl rfl rfl (by decide) Qt.assign ?_
    refine AWL.nilE (by simp only [go_sem, Int.reduceToNat, Nat.reduceLT, reduceIte, Nat.reduceEqDiff, Nat.reduceAdd, Nat.reduceMul, Nat.reduceBEq, reduceCtorEq]; rfl) ?_
    try dsimp only [thenQ, blockQ]
    refine AW.ret ?_
    try dsimp only [thenQ, blockQ]
    refine endQ_ret (.cons (.tmp 2) .nil) ?_
    rw [show showP l = ByteArray.empty from if_neg (by simp [c1])]
    rfl
  · have k1 := c1
    try simp only [decide_eq_true_eq, decide_eq_false_iff_not, bne_iff_ne, ne_eq, beq_iff_eq, beq_eq_false_iff_ne, bne_eq_false_iff_eq, Bool.not_eq_true', Bool.not_eq_false', Bool.and_eq_true, Bool.or_eq_true, Bool.and_eq_false_iff, Bool.or_eq_false_iff, Int.not_lt, Int.not_le, Int.toNat_natCast] at c1
    obtain ⟨hpl, hpi⟩ := progFacts c1
    refine AW.skip ?_
    dsimp only [thenQ, blockQ]
    refine AW.seq ?_
    refine AW.region ?_
    refine AWL.q rfl rfl rfl (by decide) Qt.move ?_
    refine AWL.nrm (by simp only [go_sem, Int.reduceToNat, Nat.reduceLT, reduceIte, Nat.reduceEqDiff, Nat.reduceAdd, Nat.reduceMul, Nat.reduceBEq, reduceCtorEq]; rfl) ?_
    refine AWL.step rfl rfl (Stp.callV rfl (by decide) Try.call87 rfl rfl (l3Show_con _ hpl hpi)) ?_
    refine AWL.nrm (by simp only [go_sem, Int.reduceToNat, Nat.reduceLT, reduceIte, Nat.reduceEqDiff, Nat.reduceAdd, Nat.reduceMul, Nat.reduceBEq, reduceCtorEq]; rfl) ?_
    refine AWL.q rfl rfl rfl (by decide) Qt.assign ?_
    refine AWL.nilE (by simp only [go_sem, Int.reduceToNat, Nat.reduceLT, reduceIte, Nat.reduceEqDiff, Nat.reduceAdd, Nat.reduceMul, Nat.reduceBEq, reduceCtorEq]; rfl) ?_
    try dsimp only [thenQ, blockQ]
    refine AW.ret ?_
    try dsimp only [thenQ, blockQ]
    refine endQ_ret (.cons (.tmp 2) .nil) ?_
    rw [show showP l = showK l l.length from if_pos c1]
    rfl
set_option maxHeartbeats 2000000 in
set_option maxRecDepth 10000 in
theorem ShowProgI_con (l : List DIns) : Con Try.prog 48 [.h base []] [.rt base .ro (tr l)] (fun y _ => y = .v (.string (showP l))) := by
  refine Con.of_body Try.func48 rfl (by simp) ?_
  rw [Try.ntmps48]
  refine AW.seq ?_
  refine AW.region ?_
  refine AWL.q rfl rfl rfl (by decide) Qt.assign ?_
  refine AWL.nilE (by simp only [go_sem, Int.reduceToNat, Nat.reduceLT, reduceIte, Nat.reduceEqDiff, Nat.reduceAdd, Nat.reduceMul, Nat.reduceBEq, reduceCtorEq]; rfl) ?_
  try dsimp only [thenQ, blockQ]
  refine AW.seq ?_
  refine AW.seq ?_
  refine AW.region ?_
  refine AWL.q rfl rfl rfl (by decide) Qt.move ?_
  refine AWL.step rfl rfl (Stp.callV rfl (by decide) Try.call27 rfl rfl (ProgOkI_con _)) ?_
  refine AWL.nrm (by simp only [go_sem, Int.reduceToNat, Nat.reduceLT, reduceIte, Nat.reduceEqDiff, Nat.reduceAdd, Nat.reduceMul, Nat.reduceBEq, reduceCtorEq]; rfl) ?_
  refine AWL.q rfl rfl rfl (by decide) (Qt.notB rfl) ?_
  refine AWL.nilE (by simp only [go_sem, Int.reduceToNat, Nat.reduceLT, reduceIte, Nat.reduceEqDiff, Nat.reduceAdd, Nat.reduceMul, Nat.reduceBEq, reduceCtorEq]; rfl) ?_
  try dsimp only [thenQ, blockQ]
  refine AW.cond rfl (fun c1 => ?_) (fun c1 => ?_)
  · have k1 := c1
    try simp only [decide_eq_true_eq, decide_eq_false_iff_not, bne_iff_ne, ne_eq, beq_iff_eq, beq_eq_false_iff_ne, bne_eq_false_iff_eq, Bool.not_eq_true', Bool.not_eq_false', Bool.and_eq_true, Bool.or_eq_true, Bool.and_eq_false_iff, Bool.or_eq_false_iff, Int.not_lt, Int.not_le, Int.toNat_natCast] at c1
    refine AW.seq ?_
    refine AW.region ?_
    refine AWL.q rfl rfl rfl (by decide) Qt.assign ?_
    refine AWL.nilE (by simp only [go_sem, Int.reduceToNat, Nat.reduceLT, reduceIte, Nat.reduceEqDiff, Nat.reduceAdd, Nat.reduceMul, Nat.reduceBEq, reduceCtorEq]; rfl) ?_
    try dsimp only [thenQ, blockQ]
    refine AW.ret ?_
    try dsimp only [thenQ, blockQ]
    refine endQ_ret (.cons (.tmp 2) .nil) ?_
    rw [show showP l = ByteArray.empty from if_neg (by simp [c1])]
    rfl
  · have k1 := c1
    try simp only [decide_eq_true_eq, decide_eq_false_iff_not, bne_iff_ne, ne_eq, beq_iff_eq, beq_eq_false_iff_ne, bne_eq_false_iff_eq, Bool.not_eq_true', Bool.not_eq_false', Bool.and_eq_true, Bool.or_eq_true, Bool.and_eq_false_iff, Bool.or_eq_false_iff, Int.not_lt, Int.not_le, Int.toNat_natCast] at c1
    obtain ⟨h40, hI⟩ := progFacts c1
    have hpr := c1
    refine AW.skip ?_
    dsimp only [thenQ, blockQ]
    refine AW.seq ?_
    refine AW.region ?_
    refine AWL.q rfl rfl rfl (by decide) Qt.move ?_
    refine AWL.nrm (by simp only [go_sem, Int.reduceToNat, Nat.reduceLT, reduceIte, Nat.reduceEqDiff, Nat.reduceAdd, Nat.reduceMul, Nat.reduceBEq, reduceCtorEq]; rfl) ?_
    refine AWL.q rfl rfl rfl (by decide) (Qt.lenH rfl rfl rfl sl41) ?_
    refine AWL.step rfl rfl (Stp.callV rfl (by decide) Try.call88 rfl rfl (VarI_con _)) ?_
    refine AWL.nrm (by simp only [go_sem, Int.reduceToNat, Nat.reduceLT, reduceIte, Nat.reduceEqDiff, Nat.reduceAdd, Nat.reduceMul, Nat.reduceBEq, reduceCtorEq]; rfl) ?_
    refine AWL.q rfl rfl rfl (by decide) Qt.assign ?_
    refine AWL.nilE (by simp only [go_sem, Int.reduceToNat, Nat.reduceLT, reduceIte, Nat.reduceEqDiff, Nat.reduceAdd, Nat.reduceMul, Nat.reduceBEq, reduceCtorEq]; rfl) ?_
    try dsimp only [thenQ, blockQ]
    refine AW.seq ?_
    refine AW.seq ?_
    refine AW.region ?_
    refine AWL.q rfl rfl rfl (by decide) Qt.move ?_
    refine AWL.q rfl rfl rfl (by decide) (Qt.lenH rfl rfl rfl sl41) ?_
    refine AWL.nrm (by simp only [go_sem, Int.reduceToNat, Nat.reduceLT, reduceIte, Nat.reduceEqDiff, Nat.reduceAdd, Nat.reduceMul, Nat.reduceBEq, reduceCtorEq]; rfl) ?_
    refine AWL.q rfl rfl rfl (by decide) Qt.move ?_
    refine AWL.nilE (by simp only [go_sem, Int.reduceToNat, Nat.reduceLT, reduceIte, Nat.reduceEqDiff, Nat.reduceAdd, Nat.reduceMul, Nat.reduceBEq, reduceCtorEq]; rfl) ?_
    try dsimp only [thenQ, blockQ]
    refine AW.block ?_
    refine AW.weak (L' := [.sl 14 (.v (iv (0 : Nat))), .sl 12 (.h base []), .sl 13 (.v (iv l.length)), .sl 3 (.v (.string (showK l 0))), .sl 0 (.h base []), .rt base .ro (tr l)]) (Weak.sim ⟨rfl, rfl, rfl, rfl, rfl, ⟨_, rfl, T.sim_refl _⟩, trivial⟩ rfl rfl) ?_
    refine AW.loop (fun i : KInv l.length => [.sl 14 (.v (iv i.k)), .sl 12 (.h base []), .sl 13 (.v (iv l.length)), .sl 3 (.v (.string (showK l i.k))), .sl 0 (.h base []), .rt base .ro (tr l)]) (fun i => l.length - i.k) ⟨0, Nat.zero_le _⟩ ?_
    intro i
    have hle := i.le
    refine AW.seq ?_
    refine AW.region ?_
    refine AWL.q rfl rfl rfl (by decide) (Qt.binOp rfl rfl rfl) ?_
    refine AWL.nilE (by simp only [go_sem, Int.reduceToNat, Nat.reduceLT, reduceIte, Nat.reduceEqDiff, Nat.reduceAdd, Nat.reduceMul, Nat.reduceBEq, reduceCtorEq]; rfl) ?_
    try dsimp only [thenQ, blockQ]
    refine AW.seq ?_
    refine AW.cond rfl (fun c2 => ?_) (fun c2 => ?_)
    · have k2 := c2
      try simp only [decide_eq_true_eq, decide_eq_false_iff_not, bne_iff_ne, ne_eq, beq_iff_eq, beq_eq_false_iff_ne, bne_eq_false_iff_eq, Bool.not_eq_true', Bool.not_eq_false', Bool.and_eq_true, Bool.or_eq_true, Bool.and_eq_false_iff, Bool.or_eq_false_iff, Int.not_lt, Int.not_le, Int.toNat_natCast] at c2
      have hq := showK_size l (k := i.k) (by omega)
      have hi := hI i.k (by omega)
      have hv1 := varS_size (l.getD i.k En.dflt).Op
      have hv2 := varS_size (l.getD i.k En.dflt).A
      have hv3 := varS_size (third (l.getD i.k En.dflt))
      have hv4 := varS_size (l.getD i.k En.dflt).C
      have hv5 := varS_size (l.getD i.k En.dflt).B
      have hv6 := varS_size (zig (l.getD i.k En.dflt).B)
      have hw := insWord hi
      have hnx := showK_next l (k := i.k) (by omega)
      refine AW.skip ?_
      dsimp only [thenQ, blockQ]
      refine AW.seq ?_
      refine AW.block ?_
      refine AW.seq ?_
      refine AW.region ?_
      refine AWL.q rfl rfl rfl (by decide) (Qt.indexAddr rfl rfl rfl rfl sl41 sz74 (by decide) (by omega)) ?_
      refine AWL.nrm (by simp only [go_sem, Int.reduceToNat, Nat.reduceLT, reduceIte, Nat.reduceEqDiff, Nat.reduceAdd, Nat.reduceMul, Nat.reduceBEq, reduceCtorEq]; rfl) ?_
      refine AWL.q rfl rfl rfl (by decide) (Qt.loadG rfl rfl rfl ag74 sz74 (by decide)) ?_
      refine AWL.step rfl rfl (Stp.alloc rfl (by decide) (by decide)) ?_
      refine AWL.nrm (by simp only [go_sem, Int.reduceToNat, Nat.reduceLT, reduceIte, Nat.reduceEqDiff, Nat.reduceAdd, Nat.reduceMul, Nat.reduceBEq, reduceCtorEq]; rfl) ?_
      refine AWL.step rfl rfl (by first | exact Stp.storeA rfl rfl rfl rfl (by decide) rfl | exact Stp.store rfl rfl (by simp) rfl rfl rfl (by decide) rfl) ?_
      refine AWL.nilE (by simp only [go_sem, Int.reduceToNat, Nat.reduceLT, reduceIte, Nat.reduceEqDiff, Nat.reduceAdd, Nat.reduceMul, Nat.reduceBEq, reduceCtorEq]; rfl) ?_
      try dsimp only [thenQ, blockQ]
      refine AW.seq ?_
      refine AW.draw [0, 1, 2, 4, 5, 7, 8] rfl (by decide +kernel) ?_
      refine AWA.take 0 rfl rfl rfl (by decide +kernel) (.on rfl rfl Qt.move) ?_
      refine AWA.nrm (by first | (simp only [go_sem, Int.reduceToNat, Nat.reduceLT, reduceIte, Nat.reduceEqDiff, Nat.reduceAdd, Nat.reduceMul, Nat.reduceBEq, reduceCtorEq]; rfl) | rfl) ?_
      refine AWA.take 1 rfl rfl rfl (by decide +kernel) (.on rfl rfl (Qt.fieldAddr rfl fl74_0 rfl rfl (by decide))) ?_
      refine AWA.take 2 rfl rfl rfl (by decide +kernel) (.on rfl rfl (Qt.load1 rfl rfl rfl ag3)) ?_
      refine AWA.take 4 rfl rfl rfl (by decide +kernel) (.on rfl rfl (Qt.fieldAddr rfl fl74_1 rfl rfl (by decide))) ?_
      refine AWA.nrm (by first | (simp only [go_sem, Int.reduceToNat, Nat.reduceLT, reduceIte, Nat.reduceEqDiff, Nat.reduceAdd, Nat.reduceMul, Nat.reduceBEq, reduceCtorEq]; rfl) | rfl) ?_
      refine AWA.take 5 rfl rfl rfl (by decide +kernel) (.on rfl rfl (Qt.load1 rfl rfl rfl ag3)) ?_
      refine AWA.one 3 [0, 4, 5] [2, 1] (by decide +kernel) rfl rfl rfl (by decide +kernel) (by decide +kernel) (by decide +kernel) (Stp.callV rfl (by decide) Try.call88 rfl rfl (VarI_con _)) ?_
      refine AWA.nrm (by first | (simp only [go_sem, Int.reduceToNat, Nat.reduceLT, reduceIte, Nat.reduceEqDiff, Nat.reduceAdd, Nat.reduceMul, Nat.reduceBEq, reduceCtorEq]; rfl) | rfl) ?_
      refine AWA.againE rfl rfl (by decide +kernel) (.on rfl rfl Qt.move) rfl ?_
      refine AWA.againE rfl rfl (by decide +kernel) (.on rfl rfl (Qt.fieldAddr rfl fl74_1 rfl rfl (by decide))) rfl ?_
      refine AWA.againE rfl rfl (by decide +kernel) (.on rfl rfl (Qt.load1 rfl rfl rfl ag3)) rfl ?_
      refine AWA.nrm (by first | (simp only [go_sem, Int.reduceToNat, Nat.reduceLT, reduceIte, Nat.reduceEqDiff, Nat.reduceAdd, Nat.reduceMul, Nat.reduceBEq, reduceCtorEq]; rfl) | rfl) ?_
      refine AWA.one 6 [0] [5, 3, 4, 2, 1] (by decide +kernel) rfl rfl rfl (by decide +kernel) (by decide +kernel) (by decide +kernel) (Stp.callV rfl (by decide) Try.call88 rfl rfl (VarI_con _)) ?_
      refine AWA.nrm (by first | (simp only [go_sem, Int.reduceToNat, Nat.reduceLT, reduceIte, Nat.reduceEqDiff, Nat.reduceAdd, Nat.reduceMul, Nat.reduceBEq, reduceCtorEq]; rfl) | rfl) ?_
      refine AWA.againE rfl rfl (by decide +kernel) (.on rfl rfl Qt.move) rfl ?_
      refine AWA.nrm (by first | (simp only [go_sem, Int.reduceToNat, Nat.reduceLT, reduceIte, Nat.reduceEqDiff, Nat.reduceAdd, Nat.reduceMul, Nat.reduceBEq, reduceCtorEq]; rfl) | rfl) ?_
      refine AWA.take 7 rfl rfl rfl (by decide +kernel) (.on rfl rfl (Qt.binOp rfl rfl (pbCat (by first | omega | (simp only [ByteArray.size_append]; omega))))) ?_
      refine AWA.take 8 rfl rfl rfl (by decide +kernel) (.on rfl rfl (Qt.binOp rfl rfl (pbCat (by first | omega | (simp only [ByteArray.size_append]; omega))))) ?_
      refine AWA.one 9 [] [8, 7, 6, 5, 4, 3, 2, 1, 0] (by decide +kernel) rfl rfl rfl (by decide +kernel) (by decide +kernel) (by decide +kernel) (Stp.q rfl (by decide) Qt.assign) ?_
      refine AWA.nrm (by first | (simp only [go_sem, Int.reduceToNat, Nat.reduceLT, reduceIte, Nat.reduceEqDiff, Nat.reduceAdd, Nat.reduceMul, Nat.reduceBEq, reduceCtorEq]; rfl) | rfl) ?_
      refine AWA.nrm (by first | (simp only [go_sem, Int.reduceToNat, Nat.reduceLT, reduceIte, Nat.reduceEqDiff, Nat.reduceAdd, Nat.reduceMul, Nat.reduceBEq, reduceCtorEq]; rfl) | rfl) ?_
      refine AWA.nilE (by decide +kernel) (by first | (simp only [go_sem, Int.reduceToNat, Nat.reduceLT, reduceIte, Nat.reduceEqDiff, Nat.reduceAdd, Nat.reduceMul, Nat.reduceBEq, reduceCtorEq]; rfl) | rfl) ?_
      try dsimp only [thenQ, blockQ]
      refine AW.seq ?_
      refine AW.seq ?_
      refine AW.region ?_
      refine AWL.q rfl rfl rfl (by decide) (Qt.fieldAddr rfl fl74_0 rfl rfl (by decide)) ?_
      refine AWL.q rfl rfl rfl (by decide) (Qt.load1 rfl rfl rfl ag3) ?_
      refine AWL.q rfl rfl rfl (by decide) (Qt.binOp rfl rfl rfl) ?_
      refine AWL.nilE (by simp only [go_sem, Int.reduceToNat, Nat.reduceLT, reduceIte, Nat.reduceEqDiff, Nat.reduceAdd, Nat.reduceMul, Nat.reduceBEq, reduceCtorEq]; rfl) ?_
      try dsimp only [thenQ, blockQ]
      refine AW.cond rfl (fun c3 => ?_) (fun c3 => ?_)
      · have k3 := c3
        try simp only [decide_eq_true_eq, decide_eq_false_iff_not, bne_iff_ne, ne_eq, beq_iff_eq, beq_eq_false_iff_ne, bne_eq_false_iff_eq, Bool.not_eq_true', Bool.not_eq_false', Bool.and_eq_true, Bool.or_eq_true, Bool.and_eq_false_iff, Bool.or_eq_false_iff, Int.not_lt, Int.not_le, Int.toNat_natCast] at c3
        refine AW.region ?_
        refine AWL.q rfl rfl rfl (by decide) Qt.move ?_
        refine AWL.nrm (by simp only [go_sem, Int.reduceToNat, Nat.reduceLT, reduceIte, Nat.reduceEqDiff, Nat.reduceAdd, Nat.reduceMul, Nat.reduceBEq, reduceCtorEq]; rfl) ?_
        refine AWL.q rfl rfl rfl (by decide) (Qt.fieldAddr rfl fl74_2 rfl rfl (by decide)) ?_
        refine AWL.q rfl rfl rfl (by decide) (Qt.load1 rfl rfl rfl ag3) ?_
        refine AWL.step rfl rfl (Stp.callV rfl (by decide) Try.call89 rfl rfl (wordVar_con _ (by omega) (by omega))) ?_
        refine AWL.nrm (by simp only [go_sem, Int.reduceToNat, Nat.reduceLT, reduceIte, Nat.reduceEqDiff, Nat.reduceAdd, Nat.reduceMul, Nat.reduceBEq, reduceCtorEq]; rfl) ?_
        refine AWL.q rfl rfl rfl (by decide) (Qt.binOp rfl rfl (pbCat (by first | omega | (simp only [ByteArray.size_append]; omega)))) ?_
        refine AWL.q rfl rfl rfl (by decide) Qt.assign ?_
        refine AWL.nilE (by simp only [go_sem, Int.reduceToNat, Nat.reduceLT, reduceIte, Nat.reduceEqDiff, Nat.reduceAdd, Nat.reduceMul, Nat.reduceBEq, reduceCtorEq]; rfl) ?_
        try dsimp only [thenQ, blockQ]
        refine AW.region ?_
        refine AWL.q rfl rfl rfl (by decide) Qt.move ?_
        refine AWL.nrm (by simp only [go_sem, Int.reduceToNat, Nat.reduceLT, reduceIte, Nat.reduceEqDiff, Nat.reduceAdd, Nat.reduceMul, Nat.reduceBEq, reduceCtorEq]; rfl) ?_
        refine AWL.q rfl rfl rfl (by decide) (Qt.fieldAddr rfl fl74_3 rfl rfl (by decide)) ?_
        refine AWL.q rfl rfl rfl (by decide) (Qt.load1 rfl rfl rfl ag3) ?_
        refine AWL.step rfl rfl (Stp.callV rfl (by decide) Try.call88 rfl rfl (VarI_con _)) ?_
        refine AWL.nrm (by simp only [go_sem, Int.reduceToNat, Nat.reduceLT, reduceIte, Nat.reduceEqDiff, Nat.reduceAdd, Nat.reduceMul, Nat.reduceBEq, reduceCtorEq]; rfl) ?_
        refine AWL.q rfl rfl rfl (by decide) (Qt.binOp rfl rfl (pbCat (by first | omega | (simp only [ByteArray.size_append]; omega)))) ?_
        refine AWL.q rfl rfl rfl (by decide) Qt.assign ?_
        refine AWL.nilE (by simp only [go_sem, Int.reduceToNat, Nat.reduceLT, reduceIte, Nat.reduceEqDiff, Nat.reduceAdd, Nat.reduceMul, Nat.reduceBEq, reduceCtorEq]; rfl) ?_
        try dsimp only [thenQ, blockQ]
        refine AW.region ?_
        refine AWL.q rfl rfl rfl (by decide) (Qt.binOp rfl rfl (by first | exact pbAdd (by omega) | rfl)) ?_
        refine AWL.nrm (by simp only [go_sem, Int.reduceToNat, Nat.reduceLT, reduceIte, Nat.reduceEqDiff, Nat.reduceAdd, Nat.reduceMul, Nat.reduceBEq, reduceCtorEq]; rfl) ?_
        refine AWL.q rfl rfl rfl (by decide) Qt.move ?_
        refine AWL.nilE (by simp only [go_sem, Int.reduceToNat, Nat.reduceLT, reduceIte, Nat.reduceEqDiff, Nat.reduceAdd, Nat.reduceMul, Nat.reduceBEq, reduceCtorEq]; rfl) ?_
        try dsimp only [thenQ, blockQ]
        refine ⟨⟨i.k + 1, by omega⟩, Weak.sim ⟨(by simp only [slotL, reduceIte, Nat.reduceEqDiff]; first | rfl | (rw [IntWalk.i64_in _ (by omega)]; rfl)), rfl, rfl, (by rw [hnx]; simp only [slotL, reduceIte, Nat.reduceEqDiff, showStep, third, ByteArray.append_assoc]; first | rw [if_pos (by omega)] | rw [if_neg (by omega)]), rfl, ⟨_, rfl, T.sim_refl _⟩, trivial⟩ rfl rfl, ?_⟩
        show l.length - (i.k + 1) < l.length - i.k
        omega
      · have k3 := c3
        try simp only [decide_eq_true_eq, decide_eq_false_iff_not, bne_iff_ne, ne_eq, beq_iff_eq, beq_eq_false_iff_ne, bne_eq_false_iff_eq, Bool.not_eq_true', Bool.not_eq_false', Bool.and_eq_true, Bool.or_eq_true, Bool.and_eq_false_iff, Bool.or_eq_false_iff, Int.not_lt, Int.not_le, Int.toNat_natCast] at c3
        refine AW.region ?_
        refine AWL.q rfl rfl rfl (by decide) Qt.move ?_
        refine AWL.q rfl rfl rfl (by decide) (Qt.fieldAddr rfl fl74_2 rfl rfl (by decide)) ?_
        refine AWL.nrm (by simp only [go_sem, Int.reduceToNat, Nat.reduceLT, reduceIte, Nat.reduceEqDiff, Nat.reduceAdd, Nat.reduceMul, Nat.reduceBEq, reduceCtorEq]; rfl) ?_
        refine AWL.q rfl rfl rfl (by decide) (Qt.load1 rfl rfl rfl ag3) ?_
        refine AWL.step rfl rfl (Stp.callV rfl (by decide) Try.call88 rfl rfl (VarI_con _)) ?_
        refine AWL.nrm (by simp only [go_sem, Int.reduceToNat, Nat.reduceLT, reduceIte, Nat.reduceEqDiff, Nat.reduceAdd, Nat.reduceMul, Nat.reduceBEq, reduceCtorEq]; rfl) ?_
        refine AWL.q rfl rfl rfl (by decide) (Qt.binOp rfl rfl (pbCat (by first | omega | (simp only [ByteArray.size_append]; omega)))) ?_
        refine AWL.q rfl rfl rfl (by decide) Qt.assign ?_
        refine AWL.nilE (by simp only [go_sem, Int.reduceToNat, Nat.reduceLT, reduceIte, Nat.reduceEqDiff, Nat.reduceAdd, Nat.reduceMul, Nat.reduceBEq, reduceCtorEq]; rfl) ?_
        try dsimp only [thenQ, blockQ]
        refine AW.region ?_
        refine AWL.q rfl rfl rfl (by decide) Qt.move ?_
        refine AWL.nrm (by simp only [go_sem, Int.reduceToNat, Nat.reduceLT, reduceIte, Nat.reduceEqDiff, Nat.reduceAdd, Nat.reduceMul, Nat.reduceBEq, reduceCtorEq]; rfl) ?_
        refine AWL.q rfl rfl rfl (by decide) (Qt.fieldAddr rfl fl74_3 rfl rfl (by decide)) ?_
        refine AWL.q rfl rfl rfl (by decide) (Qt.load1 rfl rfl rfl ag3) ?_
        refine AWL.step rfl rfl (Stp.callV rfl (by decide) Try.call88 rfl rfl (VarI_con _)) ?_
        refine AWL.nrm (by simp only [go_sem, Int.reduceToNat, Nat.reduceLT, reduceIte, Nat.reduceEqDiff, Nat.reduceAdd, Nat.reduceMul, Nat.reduceBEq, reduceCtorEq]; rfl) ?_
        refine AWL.q rfl rfl rfl (by decide) (Qt.binOp rfl rfl (pbCat (by first | omega | (simp only [ByteArray.size_append]; omega)))) ?_
        refine AWL.q rfl rfl rfl (by decide) Qt.assign ?_
        refine AWL.nilE (by simp only [go_sem, Int.reduceToNat, Nat.reduceLT, reduceIte, Nat.reduceEqDiff, Nat.reduceAdd, Nat.reduceMul, Nat.reduceBEq, reduceCtorEq]; rfl) ?_
        try dsimp only [thenQ, blockQ]
        refine AW.region ?_
        refine AWL.q rfl rfl rfl (by decide) (Qt.binOp rfl rfl (by first | exact pbAdd (by omega) | rfl)) ?_
        refine AWL.nrm (by simp only [go_sem, Int.reduceToNat, Nat.reduceLT, reduceIte, Nat.reduceEqDiff, Nat.reduceAdd, Nat.reduceMul, Nat.reduceBEq, reduceCtorEq]; rfl) ?_
        refine AWL.q rfl rfl rfl (by decide) Qt.move ?_
        refine AWL.nilE (by simp only [go_sem, Int.reduceToNat, Nat.reduceLT, reduceIte, Nat.reduceEqDiff, Nat.reduceAdd, Nat.reduceMul, Nat.reduceBEq, reduceCtorEq]; rfl) ?_
        try dsimp only [thenQ, blockQ]
        refine ⟨⟨i.k + 1, by omega⟩, Weak.sim ⟨(by simp only [slotL, reduceIte, Nat.reduceEqDiff]; first | rfl | (rw [IntWalk.i64_in _ (by omega)]; rfl)), rfl, rfl, (by rw [hnx]; simp only [slotL, reduceIte, Nat.reduceEqDiff, showStep, third, ByteArray.append_assoc]; first | rw [if_pos (by omega)] | rw [if_neg (by omega)]), rfl, ⟨_, rfl, T.sim_refl _⟩, trivial⟩ rfl rfl, ?_⟩
        show l.length - (i.k + 1) < l.length - i.k
        omega
    · have k2 := c2
      try simp only [decide_eq_true_eq, decide_eq_false_iff_not, bne_iff_ne, ne_eq, beq_iff_eq, beq_eq_false_iff_ne, bne_eq_false_iff_eq, Bool.not_eq_true', Bool.not_eq_false', Bool.and_eq_true, Bool.or_eq_true, Bool.and_eq_false_iff, Bool.or_eq_false_iff, Int.not_lt, Int.not_le, Int.toNat_natCast] at c2
      refine AW.exit ?_
      dsimp only [thenQ, blockQ, reduceIte]
      refine AW.seq ?_
      refine AW.region ?_
      refine AWL.q rfl rfl rfl (by decide) Qt.move ?_
      refine AWL.q rfl rfl rfl (by decide) Qt.assign ?_
      refine AWL.nilE (by simp only [go_sem, Int.reduceToNat, Nat.reduceLT, reduceIte, Nat.reduceEqDiff, Nat.reduceAdd, Nat.reduceMul, Nat.reduceBEq, reduceCtorEq]; rfl) ?_
      try dsimp only [thenQ, blockQ]
      refine AW.ret ?_
      try dsimp only [thenQ, blockQ]
      refine endQ_ret (.cons (.tmp 2) .nil) ?_
      rw [show showP l = showK l i.k from (if_pos hpr).trans (by rw [show i.k = l.length by omega])]
      rfl
end Go.Proofs.Ytjfojlaoiifppaa.VM
