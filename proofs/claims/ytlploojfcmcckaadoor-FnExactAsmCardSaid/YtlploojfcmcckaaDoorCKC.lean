/- Contracts of functions of the program. No conditions beyond those that each states. -/
import Derived.Test.YtlploojfcmcckaaDoorCKT
import Derived.Test.YtlploojfcmcckaaDoorCKD
set_option linter.all false
set_option maxHeartbeats 8000000
set_option maxRecDepth 10000
namespace Go.Proofs.YtlploojfcmcckaaDoor.VM
open Go Go.RowKit Go.Proofs
theorem xI6 {a b : Int} (h : a = b) : X.v (iv a) = X.v (iv b) := by rw [h]
theorem baE {a b : ByteArray} : (a.toList == b.toList) = decide (a = b) := by
 rw [ByteArray.toList_eq, ByteArray.toList_eq, Bool.eq_iff_iff, beq_iff_eq, decide_eq_true_eq]
 exact ⟨fun h => ByteArray.ext (Array.toList_inj.mp h), fun h => by rw [h]⟩
theorem chr45 (s : ByteArray) : chr s 0 = 45 ↔ (((chr s 0).toNat : Nat) : Int) = 45 := by
 constructor
 ·intro h; rw [h]; rfl
 ·intro h
  exact UInt8.toNat_inj.1 (by have : (45 : UInt8).toNat = 45 := rfl; omega)
theorem sub48 : ∀ n : Nat, n < 256 → 48 ≤ n → IntKind.i64.wrap (IntKind.u8.wrap ((n : Int) - 48)) = ((n - 48 : Nat) : Int) := by decide +kernel
theorem chr_get (s : ByteArray) (k : Nat) : chr s k = s.data.toList.getD k 0 := rfl
theorem pN_yes {s : ByteArray} {k : Nat} (h : k < s.size) (hd : 48 ≤ (chr s k).toNat ∧ (chr s k).toNat ≤ 57) : pN (s.data.toList.take (k + 1)) = ((pN (s.data.toList.take k)).1 * 10 + ((chr s k).toNat - 48), (pN (s.data.toList.take k)).2 + 1) := by
 rw [pN_take (by rw [← size_list]; exact h), ← chr_get, pStep, if_pos (by simp only [isD, Bool.and_eq_true, decide_eq_true_eq]; exact hd)]
theorem pN_no {s : ByteArray} {k : Nat} (h : k < s.size) (hd : ¬ (48 ≤ (chr s k).toNat ∧ (chr s k).toNat ≤ 57)) : pN (s.data.toList.take (k + 1)) = pN (s.data.toList.take k) := by
 rw [pN_take (by rw [← size_list]; exact h), ← chr_get, pStep, if_neg (by simp only [isD, Bool.and_eq_true, decide_eq_true_eq]; exact hd)]
theorem take_11 {s : ByteArray} {k : Nat} (h : k = min s.size 11) : s.data.toList.take k = s.data.toList.take 11 := by
 subst h
 rcases Nat.le_total s.size 11 with h | h
 ·rw [Nat.min_eq_left h, List.take_of_length_le (by rw [← size_list]; omega), List.take_of_length_le (by rw [← size_list]; omega)]
 ·rw [Nat.min_eq_right h]
theorem pN_bd (l : List UInt8) (h : l.length ≤ 11) : (pN l).1 < 100000000000 ∧ (pN l).2 ≤ 11 := by
 have h1 := pN_lt l
 have h3 : 10 ^ (pN l).2 ≤ 10 ^ 11 := Nat.pow_le_pow_right (by decide) (by omega)
 have h4 : (10 : Nat) ^ 11 = 100000000000 := by decide
 omega
theorem ReadDecS_con (s : ByteArray) (hw : s.size ≤ 1048576) : Con Tryd.prog 15 [.v (.string s)] [] (Ret (.t [.v (iv (rdS s).1), .v (.bool (rdS s).2)]) []) := by
 refine ob Tryd.func15 Tryd.ntmps15 ?_
 refine sr ?_
 refine qa ?_
 refine qs' ?_
 refine qs' ?_
 refine qn ?_
 refine sr2 ?_
 refine qn ?_
 refine AW.block ?_
 refine AW.loopW (fun i : KInv (min s.size 11) => [.sl 6 (.v (iv i.k)), .sl 4 (.v (iv ((pN (s.data.toList.take i.k)).1 : Nat))), .sl 5 (.v (iv ((pN (s.data.toList.take i.k)).2 : Nat))), .sl 0 (.v (.string s))]) (fun i => min s.size 11 - i.k) ⟨0, Nat.zero_le _⟩ (Weak.sim ⟨rfl, rfl, rfl, rfl, trivial⟩ rfl rfl) ?_
 intro i
 have hle := i.le
 have hle3 := i.le
 have hpb := pN_bd (s.data.toList.take i.k) (by rw [List.length_take]; omega)
 refine sr2 ?_
 refine mn ?_
 refine qm ?_
 refine qq (Qt.lenS rfl Tryd.underlying9) ?_
 refine qb ?_
 refine nm ?_
 refine qm ?_
 apply AWL.cut 2
 ·intro Kg1
  refine AWL.split 11 rfl (fun g1 => ?_) (fun g1 => ?_)
  ·have eg1 := g1
   try simp only [cnd] at eg1
   refine qg g1 Qt.move ?_
   refine qg g1 (Qt.binOp rfl rfl rfl) ?_
   refine nm ?_
   exact wj 13 [12, 13] (ifT g1 _ undef) (by simp only [go_sem, reduceIte, Nat.reduceEqDiff, Nat.reduceBEq, reduceCtorEq]; rfl) Kg1
  ·refine og g1 ?_
   refine og g1 ?_
   exact wj 13 [12, 13] (ifF g1 undef _) (by simp only [go_sem, reduceIte, Nat.reduceEqDiff, Nat.reduceBEq, reduceCtorEq]) Kg1
 refine qq (Qt.pickAnd rfl rfl rfl) ?_
 refine nc (fun c2 => ?_) fun c2 => ?_
 ·try simp only [cnd] at c2
  have hlt : i.k < s.size ∧ i.k < 11 := by grind only
  refine jd (AW.seq (AW.block (sr ?_)))
  refine qm ?_
  refine mn ?_
  refine qq (Qt.indexS rfl rfl Tryd.underlying9 (by first | omega | grind only) (by first | omega | grind only)) ?_
  refine qb ?_
  refine mn ?_
  apply AWL.cut 4
  ·intro Kg3
   refine AWL.split 21 rfl (fun g3 => ?_) (fun g3 => ?_)
   ·have eg3 := g3
    try simp only [cnd] at eg3
    refine qg g3 Qt.move ?_
    refine qg g3 Qt.move ?_
    refine qg g3 (Qt.indexS rfl rfl Tryd.underlying9 (by first | omega | grind only) (by first | omega | grind only)) ?_
    refine nm ?_
    refine qg g3 (Qt.binOp rfl rfl rfl) ?_
    exact wj 25 [22, 23, 24, 25] (ifT g3 _ undef) (by simp only [go_sem, reduceIte, Nat.reduceEqDiff, Nat.reduceBEq, reduceCtorEq]; rfl) Kg3
   ·refine og g3 ?_
    refine og g3 ?_
    refine og g3 ?_
    refine og g3 ?_
    exact wj 25 [22, 23, 24, 25] (ifF g3 undef _) (by simp only [go_sem, reduceIte, Nat.reduceEqDiff, Nat.reduceBEq, reduceCtorEq]) Kg3
  refine qq (Qt.pickAnd rfl rfl rfl) ?_
  refine nc (fun c4 => ?_) fun c4 => ?_
  ·try simp only [cnd] at c4
   have hdg : 48 ≤ (chr s i.k).toNat ∧ (chr s i.k).toNat ≤ 57 := by grind only
   have hub := (chr s i.k).toNat_lt
   refine sr ?_
   refine mn ?_
   refine qq (Qt.binOp rfl rfl (by first | exact pbMul (by omega) | rfl)) ?_
   refine qm ?_
   refine mn ?_
   refine qq (Qt.indexS rfl rfl Tryd.underlying9 (by first | omega | grind only) (by first | omega | grind only)) ?_
   refine qq (Qt.binOp rfl rfl (by first | exact pbSub (by omega) | rfl)) ?_
   refine qq (Qt.convI rfl rfl Tryd.underlying3) ?_
   refine AWL.weak (Weak.slot (d := 33) (v' := iv (((chr s i.k).toNat - 48 : Nat) : Int)) rfl (by simp only [Int.toNat_natCast]; exact congrArg (Value.int .i64) (sub48 _ hub hdg.1))) ?_
   refine nm ?_
   refine ba ?_
   refine qn ?_
   refine AW.region ?_
   refine mn ?_
   refine ba ?_
   refine qn ?_
   refine AW.region ?_
   refine mn ?_
   refine ba ?_
   refine qn ?_
   refine ⟨⟨i.k + 1, by omega⟩, Weak.sim ⟨rfl, xI6 (by rw [pN_yes hlt.1 hdg]; push_cast; omega), xI6 (by rw [pN_yes hlt.1 hdg]; push_cast; omega), rfl, trivial⟩ rfl rfl, ?_⟩
   show min s.size 11 - (i.k + 1) < min s.size 11 - i.k
   omega
  try simp only [cnd] at c4
  have hdg : ¬ (48 ≤ (chr s i.k).toNat ∧ (chr s i.k).toNat ≤ 57) := by grind only
  refine jd (AW.region ?_)
  refine mn ?_
  refine ba ?_
  refine qn ?_
  refine ⟨⟨i.k + 1, by omega⟩, Weak.sim ⟨rfl, xI6 (by rw [pN_no hlt.1 hdg]), xI6 (by rw [pN_no hlt.1 hdg]), rfl, trivial⟩ rfl rfl, ?_⟩
  show min s.size 11 - (i.k + 1) < min s.size 11 - i.k
  omega
 try simp only [cnd] at c2
 have hk11 : i.k = min s.size 11 := by omega
 have h45 := chr45 s
 have ht11 := take_11 hk11
 refine AW.exit ?_
 dsimp only [thenQ, blockQ, reduceIte]
 refine sr2 ?_
 refine mn ?_
 refine qq (Qt.lenS rfl Tryd.underlying9) ?_
 refine qb ?_
 refine mn ?_
 apply AWL.cut 3
 ·intro Kg5
  refine AWL.split 40 rfl (fun g5 => ?_) (fun g5 => ?_)
  ·have eg5 := g5
   try simp only [cnd] at eg5
   refine qg g5 Qt.move ?_
   refine qg g5 (Qt.indexS rfl rfl Tryd.underlying9 (by first | omega | grind only) (by first | omega | grind only)) ?_
   refine qg g5 (Qt.binOp rfl rfl rfl) ?_
   refine nm ?_
   exact wj 43 [41, 42, 43] (ifT g5 _ undef) (by simp only [go_sem, reduceIte, Nat.reduceEqDiff, Nat.reduceBEq, reduceCtorEq]; rfl) Kg5
  ·refine og g5 ?_
   refine og g5 ?_
   refine og g5 ?_
   exact wj 43 [41, 42, 43] (ifF g5 undef _) (by simp only [go_sem, reduceIte, Nat.reduceEqDiff, Nat.reduceBEq, reduceCtorEq]) Kg5
 refine qq (Qt.pickAnd rfl rfl rfl) ?_
 refine nc (fun c6 => ?_) fun c6 => ?_
 ·try simp only [cnd] at c6
  refine AW.region ?_
  refine qm ?_
  refine qq (Qt.negI rfl) ?_
  refine nm ?_
  refine qa ?_
  refine AWL.weak (Weak.slot (d := 4) (v' := iv (spV s)) rfl (by rw [IntWalk.i64_in _ (by omega), spV, if_pos ⟨by omega, h45.2 (by omega)⟩, ht11]; exact congrArg (Value.int .i64) (by omega))) ?_
  refine nl ?_
  refine sr2 ?_
  refine mn ?_
  refine qb ?_
  refine qm ?_
  apply AWL.cut 3
  ·intro Kg7
   refine AWL.splitF 49 rfl (fun g7 => ?_) (fun g7 => ?_)
   ·have eg7 := g7
    try simp only [cnd] at eg7
    refine qg (nF g7) Qt.move ?_
    refine nm ?_
    refine qg (nF g7) (Qt.lenS rfl Tryd.underlying9) ?_
    refine qg (nF g7) (Qt.binOp rfl rfl rfl) ?_
    exact wj 52 [50, 51, 52] (ifF g7 _ undef) (by simp only [go_sem, reduceIte, Nat.reduceEqDiff, Nat.reduceBEq, reduceCtorEq]; rfl) Kg7
   ·refine og (nT g7) ?_
    refine og (nT g7) ?_
    refine og (nT g7) ?_
    exact wj 52 [50, 51, 52] (ifT g7 undef _) (by simp only [go_sem, reduceIte, Nat.reduceEqDiff, Nat.reduceBEq, reduceCtorEq]) Kg7
  refine qq (Qt.pickOr rfl rfl rfl) ?_
  refine nm ?_
  refine qm ?_
  apply AWL.cut 4
  ·intro Kg8
   refine AWL.splitF 54 rfl (fun g8 => ?_) (fun g8 => ?_)
   ·have eg8 := g8
    try simp only [cnd] at eg8
    refine qg (nF g8) Qt.move ?_
    refine AWL.step rfl (nF g8) (Stp.callV rfl (by decide) Tryd.call8 rfl rfl (DecS_con (spV s) (by have := spV_bd s; omega))) ?_
    refine nm ?_
    refine qg (nF g8) Qt.move ?_
    refine qg (nF g8) (Qt.binOp rfl rfl rfl) ?_
    exact wj 58 [55, 56, 57, 58] (ifF g8 _ undef) (by simp only [go_sem, reduceIte, Nat.reduceEqDiff, Nat.reduceBEq, reduceCtorEq]; rfl) Kg8
   ·refine og (nT g8) ?_
    refine og (nT g8) ?_
    refine og (nT g8) ?_
    refine og (nT g8) ?_
    exact wj 58 [55, 56, 57, 58] (ifT g8 undef _) (by simp only [go_sem, reduceIte, Nat.reduceEqDiff, Nat.reduceBEq, reduceCtorEq]) Kg8
  refine qq (Qt.pickOr rfl rfl rfl) ?_
  refine nc (fun c9 => ?_) fun c9 => ?_
  ·have k9 := c9
   try simp only [cnd] at c9
   refine sr ?_
   refine qa ?_
   refine nm ?_
   refine qn ?_
   refine AW.ret (endQ_ret (.cons (.tmp 2) (.cons (.tmp 3) .nil)) ?_)
   have hk := k9
   rw [ht11] at hk
   rw [show rdS s = (0, false) from by rw [rdS, if_neg (by simp only [rdOk, decide_eq_true_eq]; rintro ⟨q1, q2, q3⟩; simp only [baE, q3, decide_true, Bool.not_true, Bool.or_false, Bool.or_eq_true, decide_eq_true_eq] at hk; omega)]]
   refine ⟨fun _ => 0, rfl, nodup_of rfl, ?_⟩
   intro r hr
   cases hr
  have k9 := c9
  try simp only [cnd] at c9
  refine jd (sr ?_)
  refine qm ?_
  refine qa ?_
  refine nm ?_
  refine qn ?_
  refine AW.ret (endQ_ret (.cons (.tmp 2) (.cons (.tmp 3) .nil)) ?_)
  have hk := k9
  rw [ht11] at hk
  rw [show rdS s = (spV s, true) from by rw [rdS, if_pos (by simp only [baE, Bool.or_eq_false_iff, decide_eq_false_iff_not, Bool.not_eq_false', decide_eq_true_eq] at hk; simp only [rdOk, decide_eq_true_eq]; refine ⟨by omega, by omega, hk.2⟩)]]
  refine ⟨fun _ => 0, rfl, nodup_of rfl, ?_⟩
  intro r hr
  cases hr
 try simp only [cnd] at c6
 refine AW.weak (Weak.slot (d := 4) (v' := iv (spV s)) rfl (by rw [spV, if_neg (by rintro ⟨q1, q2⟩; have q3 := h45.1 q2; omega), ht11])) ?_
 refine jd (sr2 ?_)
 refine qm ?_
 refine qb ?_
 refine nm ?_
 refine qm ?_
 apply AWL.cut 3
 ·intro Kg10
  refine AWL.splitF 49 rfl (fun g10 => ?_) (fun g10 => ?_)
  ·have eg10 := g10
   try simp only [cnd] at eg10
   refine qg (nF g10) Qt.move ?_
   refine qg (nF g10) (Qt.lenS rfl Tryd.underlying9) ?_
   refine nm ?_
   refine qg (nF g10) (Qt.binOp rfl rfl rfl) ?_
   exact wj 52 [50, 51, 52] (ifF g10 _ undef) (by simp only [go_sem, reduceIte, Nat.reduceEqDiff, Nat.reduceBEq, reduceCtorEq]; rfl) Kg10
  ·refine og (nT g10) ?_
   refine og (nT g10) ?_
   refine og (nT g10) ?_
   exact wj 52 [50, 51, 52] (ifT g10 undef _) (by simp only [go_sem, reduceIte, Nat.reduceEqDiff, Nat.reduceBEq, reduceCtorEq]) Kg10
 refine qq (Qt.pickOr rfl rfl rfl) ?_
 refine mn ?_
 apply AWL.cut 4
 ·intro Kg11
  refine AWL.splitF 54 rfl (fun g11 => ?_) (fun g11 => ?_)
  ·have eg11 := g11
   try simp only [cnd] at eg11
   refine qg (nF g11) Qt.move ?_
   refine AWL.step rfl (nF g11) (Stp.callV rfl (by decide) Tryd.call8 rfl rfl (DecS_con (spV s) (by have := spV_bd s; omega))) ?_
   refine nm ?_
   refine qg (nF g11) Qt.move ?_
   refine qg (nF g11) (Qt.binOp rfl rfl rfl) ?_
   exact wj 58 [55, 56, 57, 58] (ifF g11 _ undef) (by simp only [go_sem, reduceIte, Nat.reduceEqDiff, Nat.reduceBEq, reduceCtorEq]; rfl) Kg11
  ·refine og (nT g11) ?_
   refine og (nT g11) ?_
   refine og (nT g11) ?_
   refine og (nT g11) ?_
   exact wj 58 [55, 56, 57, 58] (ifT g11 undef _) (by simp only [go_sem, reduceIte, Nat.reduceEqDiff, Nat.reduceBEq, reduceCtorEq]) Kg11
 refine qq (Qt.pickOr rfl rfl rfl) ?_
 refine nc (fun c12 => ?_) fun c12 => ?_
 ·have k12 := c12
  try simp only [cnd] at c12
  refine sr ?_
  refine qa ?_
  refine nm ?_
  refine qn ?_
  refine AW.ret (endQ_ret (.cons (.tmp 2) (.cons (.tmp 3) .nil)) ?_)
  have hk := k12
  rw [ht11] at hk
  rw [show rdS s = (0, false) from by rw [rdS, if_neg (by simp only [rdOk, decide_eq_true_eq]; rintro ⟨q1, q2, q3⟩; simp only [baE, q3, decide_true, Bool.not_true, Bool.or_false, Bool.or_eq_true, decide_eq_true_eq] at hk; omega)]]
  refine ⟨fun _ => 0, rfl, nodup_of rfl, ?_⟩
  intro r hr
  cases hr
 have k12 := c12
 try simp only [cnd] at c12
 refine jd (sr ?_)
 refine qm ?_
 refine qa ?_
 refine nm ?_
 refine qn ?_
 refine AW.ret (endQ_ret (.cons (.tmp 2) (.cons (.tmp 3) .nil)) ?_)
 have hk := k12
 rw [ht11] at hk
 rw [show rdS s = (spV s, true) from by rw [rdS, if_pos (by simp only [baE, Bool.or_eq_false_iff, decide_eq_false_iff_not, Bool.not_eq_false', decide_eq_true_eq] at hk; simp only [rdOk, decide_eq_true_eq]; refine ⟨by omega, by omega, hk.2⟩)]]
 refine ⟨fun _ => 0, rfl, nodup_of rfl, ?_⟩
 intro r hr
 cases hr
theorem ReadDecI_con (s : ByteArray) (hw : s.size ≤ 1048576) : Con Tryd.prog 16 [.v (.string s)] [] (Ret (.t [.v (iv (rdS s).1), .v (.bool (rdS s).2)]) []) := by
 refine ob Tryd.func16 Tryd.ntmps16 ?_
 refine sr ?_
 refine qa ?_
 refine qs' ?_
 refine mn ?_
 refine spK (StpK.callP rfl (by decide) Tryd.call39 rfl rfl rfl (atoi_con s (by omega))) ?_
 rintro _ ⟨d1_1, hd1_1, rfl⟩
 try dsimp only at hd1_1
 refine nm ?_
 refine qm ?_
 refine qq (Qt.extract rfl (of_decide_eq_true rfl)) ?_
 refine qq (Qt.extract rfl (of_decide_eq_true rfl)) ?_
 refine nm ?_
 refine qa ?_
 refine qn ?_
 refine sr2 ?_
 refine mn ?_
 refine qq (Qt.neqNil Tryd.underlying60 rfl hd1_1.1) ?_
 refine qm ?_
 apply AWL.cut 4
 ·intro Kg1
  refine AWL.splitF 13 rfl (fun g1 => ?_) (fun g1 => ?_)
  ·have eg1 := g1
   try simp only [cnd] at eg1
   refine qg (nF g1) Qt.move ?_
   refine nm ?_
   refine AWL.step rfl (nF g1) (Stp.callV rfl (by decide) Tryd.call9 rfl rfl (DecI_con d1_1.1 (Lib.atoiAll_bounds (hd1_1.2.1 (by grind only))))) ?_
   refine nm ?_
   refine qg (nF g1) Qt.move ?_
   refine qg (nF g1) (Qt.binOp rfl rfl rfl) ?_
   exact wj 17 [14, 15, 16, 17] (ifF g1 _ undef) (by simp only [go_sem, reduceIte, Nat.reduceEqDiff, Nat.reduceBEq, reduceCtorEq]; rfl) Kg1
  ·refine og (nT g1) ?_
   refine og (nT g1) ?_
   refine og (nT g1) ?_
   refine og (nT g1) ?_
   exact wj 17 [14, 15, 16, 17] (ifT g1 undef _) (by simp only [go_sem, reduceIte, Nat.reduceEqDiff, Nat.reduceBEq, reduceCtorEq]) Kg1
 refine qq (Qt.pickOr rfl rfl rfl) ?_
 refine nm ?_
 refine qm ?_
 apply AWL.cut 3
 ·intro Kg2
  refine AWL.splitF 19 rfl (fun g2 => ?_) (fun g2 => ?_)
  ·have eg2 := g2
   try simp only [cnd] at eg2
   refine qg (nF g2) Qt.move ?_
   refine AWL.step rfl (nF g2) (Stp.callV rfl (by decide) Tryd.call40 rfl rfl (in_con _ _ _)) ?_
   refine nm ?_
   refine qg (nF g2) (Qt.notB rfl) ?_
   exact wj 22 [20, 21, 22] (ifF g2 _ undef) (by simp only [go_sem, reduceIte, Nat.reduceEqDiff, Nat.reduceBEq, reduceCtorEq]; rfl) Kg2
  ·refine og (nT g2) ?_
   refine og (nT g2) ?_
   refine og (nT g2) ?_
   exact wj 22 [20, 21, 22] (ifT g2 undef _) (by simp only [go_sem, reduceIte, Nat.reduceEqDiff, Nat.reduceBEq, reduceCtorEq]) Kg2
 refine qq (Qt.pickOr rfl rfl rfl) ?_
 refine nc (fun c3 => ?_) fun c3 => ?_
 ·have k3 := c3
  try simp only [cnd] at c3
  refine sr ?_
  refine qa ?_
  refine nm ?_
  refine qn ?_
  refine AW.ret (endQ_ret (.cons (.tmp 2) (.cons (.tmp 3) .nil)) ?_)
  have hk := k3
  rw [show rdS s = (0, false) from by rw [rd_eq hd1_1.2.1 hd1_1.2.2, if_neg (by rintro ⟨q1, q2⟩; simp only [rdIok, decide_eq_true_eq] at q2; obtain ⟨q3, q4, q5⟩ := q2; simp only [baE, q1, q3, decide_true, Bool.not_true, Bool.false_or, Bool.or_false, Bool.not_eq_true', Bool.and_eq_false_iff, decide_eq_false_iff_not] at hk; omega)]]
  refine ⟨fun _ => 0, rfl, nodup_of rfl, ?_⟩
  intro r hr
  cases hr
 have k3 := c3
 try simp only [cnd] at c3
 refine jd (sr ?_)
 refine qm ?_
 refine qa ?_
 refine nm ?_
 refine qn ?_
 refine AW.ret (endQ_ret (.cons (.tmp 2) (.cons (.tmp 3) .nil)) ?_)
 have hk := k3
 rw [show rdS s = (d1_1.1, true) from by rw [rd_eq hd1_1.2.1 hd1_1.2.2, if_pos (by simp only [baE, Bool.or_eq_false_iff, Bool.not_eq_false', Bool.and_eq_true, decide_eq_true_eq, bne_eq_false_iff_eq] at hk; exact ⟨hk.1.1, decide_eq_true ⟨hk.1.2, hk.2.1, hk.2.2⟩⟩)]]
 refine ⟨fun _ => 0, rfl, nodup_of rfl, ?_⟩
 intro r hr
 cases hr
end Go.Proofs.YtlploojfcmcckaaDoor.VM
