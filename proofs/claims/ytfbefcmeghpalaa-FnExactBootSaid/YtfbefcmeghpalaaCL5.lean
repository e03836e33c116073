/- Contracts of functions of the program. No conditions beyond those that each states. -/
import Derived.Test.YtfbefcmeghpalaaCL0
set_option linter.all false
namespace Go.Proofs.Ytfbefcmeghpalaa.VM
open Go Go.RowKit Go.Proofs
/-- so many v, then zeros -/
def repT (v : Int) (c n : Nat) : T := .s 1 c fun k _ => if k < n then .v (iv v) else .v (iv 0)
structure RepI (c : Nat) where
 k : Nat
 pos : 1 ≤ k
 le : k ≤ c
theorem rep_zero {v : Int} {c : Nat} {g : Nat → Nat → T} (hc : 0 < c) (hg : g 0 0 = .v (iv v)) : (copyT 1 c 0 (min 1 c) (fun k c => [T.v (Value.int IntKind.i64 0)].getD c .j) g).sim (repT v c 1) := T.sim_of fun k c' hk hc' => by
 obtain rfl : c' = 0 := by omega
 have hm : min 1 c = 1 := by omega
 rw [hm]
 by_cases h : k = 0
 ·subst h; simp [hg, flatT]
 ·rw [if_neg (by omega), if_neg (by omega)]; rfl
theorem rep_step {v : Int} {c n : Nat} (h : n < c) (h1 : 1 ≤ n) : (copyT 1 c n (min n (c - n)) (fun k _ => if k < n then .v (iv v) else .v (iv 0)) fun k _ => if k < n then .v (iv v) else .v (iv 0)).sim (repT v c (n + min n (c - n))) := T.sim_of fun k c' hk hc' => by
 have h2 : min n (c - n) ≤ n := by omega
 dsimp only
 by_cases a : n ≤ k ∧ k < n + min n (c - n)
 ·rw [if_pos a, if_pos (show k - n < n by omega), if_pos (by omega)]; rfl
 ·rw [if_neg a]
  by_cases b : k < n
  ·rw [if_pos b, if_pos (by omega)]
  ·rw [if_neg b, if_neg (by omega)]
theorem rep_full {v : Int} {c : Nat} : (repT v c c).sim (tr (List.replicate c v)) := ⟨_, by rw [show tr (List.replicate c v) = .s 1 (List.replicate c v).length (fun k c' => (En.cs ((List.replicate c v).getD k En.dflt)).getD c' .j) from rfl, List.length_replicate], fun k c' hk hc' => by
 obtain rfl : c' = 0 := by omega
 dsimp only
 rw [if_pos hk]
 have : (List.replicate c v).getD k En.dflt = v := by simp [List.getD_eq_getElem?_getD, hk]
 rw [this]; exact T.sim_refl _⟩
set_option maxHeartbeats 8000000 in
set_option maxRecDepth 10000 in
theorem mul64_4_con : Con Try.prog 110 [.v (.int .u64 1), .v (.int .u64 4)] [] (Ret (.t [.v (.int .u64 0), .v (.int .u64 4)]) []) := by
 refine Con.of_body Try.func110 rfl (by simp) ?_
 rw [Try.ntmps110]
 refine AW.seq (AW.region ?_)
 refine qq Qt.assign ?_
 refine qq Qt.assign ?_
 refine nl ?_
 refine AW.seq (AW.region ?_)
 refine qq Qt.move ?_
 refine nm ?_
 refine qq (Qt.binOp rfl rfl rfl) ?_
 refine qq Qt.assign ?_
 refine nl ?_
 refine AW.seq (AW.region ?_)
 refine qq Qt.move ?_
 refine nm ?_
 refine qq (Qt.binOp rfl rfl rfl) ?_
 refine qq Qt.assign ?_
 refine nl ?_
 refine AW.seq (AW.region ?_)
 refine qq Qt.move ?_
 refine nm ?_
 refine qq (Qt.binOp rfl rfl rfl) ?_
 refine qq Qt.assign ?_
 refine nl ?_
 refine AW.seq (AW.region ?_)
 refine qq Qt.move ?_
 refine nm ?_
 refine qq (Qt.binOp rfl rfl rfl) ?_
 refine qq Qt.assign ?_
 refine nl ?_
 refine AW.seq (AW.region ?_)
 refine qq Qt.move ?_
 refine nm ?_
 refine qq Qt.move ?_
 refine qq (Qt.binOp rfl rfl rfl) ?_
 refine qq Qt.assign ?_
 refine nl ?_
 refine AW.seq (AW.region ?_)
 refine qq Qt.move ?_
 refine nm ?_
 refine qq Qt.move ?_
 refine qq (Qt.binOp rfl rfl rfl) ?_
 refine qq Qt.move ?_
 refine nm ?_
 refine qq (Qt.binOp rfl rfl rfl) ?_
 refine qq (Qt.binOp rfl rfl rfl) ?_
 refine qq Qt.assign ?_
 refine nl ?_
 refine AW.seq (AW.region ?_)
 refine qq Qt.move ?_
 refine nm ?_
 refine qq (Qt.binOp rfl rfl rfl) ?_
 refine qq Qt.assign ?_
 refine nl ?_
 refine AW.seq (AW.region ?_)
 refine qq Qt.move ?_
 refine nm ?_
 refine qq (Qt.binOp rfl rfl rfl) ?_
 refine qq Qt.assign ?_
 refine nl ?_
 refine AW.seq (AW.region ?_)
 refine qq Qt.move ?_
 refine nm ?_
 refine qq Qt.move ?_
 refine qq Qt.move ?_
 refine qq (Qt.binOp rfl rfl rfl) ?_
 refine nm ?_
 refine qq (Qt.binOp rfl rfl rfl) ?_
 refine qq Qt.assign ?_
 refine nl ?_
 refine AW.seq (AW.region ?_)
 refine qq Qt.move ?_
 refine nm ?_
 refine qq Qt.move ?_
 refine qq (Qt.binOp rfl rfl rfl) ?_
 refine qq Qt.move ?_
 refine nm ?_
 refine qq (Qt.binOp rfl rfl rfl) ?_
 refine qq Qt.move ?_
 refine qq (Qt.binOp rfl rfl rfl) ?_
 refine nm ?_
 refine qq (Qt.binOp rfl rfl rfl) ?_
 refine qq Qt.assign ?_
 refine nl ?_
 refine AW.seq (AW.region ?_)
 refine qq Qt.move ?_
 refine nm ?_
 refine qq Qt.move ?_
 refine qq (Qt.binOp rfl rfl rfl) ?_
 refine qq Qt.assign ?_
 refine nl ?_
 refine AW.ret (endQ_ret (.cons (.tmp 4) (.cons (.tmp 5) .nil)) ?_)
 refine ⟨fun _ => 0, rfl, nodup_of rfl, ?_⟩
 intro r hr
 cases hr
set_option maxHeartbeats 8000000 in
set_option maxRecDepth 10000 in
theorem mul_4_con : Con Try.prog 104 [.v (.int .u64 1), .v (.int .u64 4)] [] (Ret (.t [.v (.int .u64 0), .v (.int .u64 4)]) []) := by
 refine Con.of_body Try.func104 rfl (by simp) ?_
 rw [Try.ntmps104]
 refine AW.seq (AW.region ?_)
 refine qq Qt.assign ?_
 refine qq Qt.assign ?_
 refine nl ?_
 refine AW.seq ?_
 refine AW.cond rfl (fun c1 => (by cases c1)) (fun c1 => ?_)
 have k1 := c1
 try simp only [cnd] at c1
 refine jd (AW.seq (AW.region ?_))
 refine qq Qt.move ?_
 refine nm ?_
 refine qq Qt.move ?_
 refine sp (Stp.callR rfl (by decide) Try.call110 rfl rfl mul64_4_con (nodup_of rfl) rfl rfl) ?_
 refine nm ?_
 refine qq Qt.move ?_
 refine qq (Qt.extract rfl (of_decide_eq_true rfl)) ?_
 refine qq (Qt.extract rfl (of_decide_eq_true rfl)) ?_
 refine nm ?_
 refine qq Qt.assign ?_
 refine qq Qt.assign ?_
 refine nl ?_
 refine AW.seq (AW.region ?_)
 refine qq Qt.move ?_
 refine nm ?_
 refine qq Qt.move ?_
 refine qq Qt.assign ?_
 refine qq Qt.assign ?_
 refine nl ?_
 refine AW.ret (endQ_ret (.cons (.tmp 4) (.cons (.tmp 5) .nil)) ?_)
 refine ⟨fun _ => 0, rfl, nodup_of rfl, ?_⟩
 intro r hr
 cases hr
set_option maxHeartbeats 8000000 in
set_option maxRecDepth 10000 in
theorem rep_4_con (v : Int) : Con Try.prog 82 [.h base [], .v (iv 4)] [.rt base .ro (tr [v])] (Ret (.h 0 []) [(0, .row, tr (List.replicate 4 v))]) := by
 refine Con.of_body Try.func82 rfl (by simp) ?_
 rw [Try.ntmps82]
 refine AW.seq (AW.region ?_)
 refine qq Qt.assign ?_
 refine nl ?_
 refine AW.seq (AW.seq (AW.region ?_))
 refine qq Qt.move ?_
 refine qq (Qt.binOp rfl rfl rfl) ?_
 refine nl ?_
 refine AW.cond rfl (fun c1 => (by exfalso; first | (cases c1; done) | (simp at c1; done) | (simp only [cnd] at c1; omega))) (fun c1 => ?_)
 have k1 := c1
 try simp only [cnd] at c1
 refine jd (AW.seq (AW.region ?_))
 refine qq Qt.move ?_
 refine nm ?_
 refine qq (Qt.lenH rfl rfl rfl sl35) ?_
 refine qq (Qt.convI rfl rfl Try.underlying105) ?_
 refine qq Qt.move ?_
 refine nm ?_
 refine qq (Qt.convI rfl rfl Try.underlying105) ?_
 refine sp (Stp.callR rfl (by decide) Try.call104 rfl rfl mul_4_con (nodup_of rfl) rfl rfl) ?_
 refine nm ?_
 refine qq Qt.move ?_
 refine qq (Qt.extract rfl (of_decide_eq_true rfl)) ?_
 refine qq (Qt.extract rfl (of_decide_eq_true rfl)) ?_
 refine nm ?_
 refine qq Qt.assign ?_
 refine qq Qt.assign ?_
 refine nl ?_
 refine AW.seq (AW.seq (AW.region ?_))
 refine qq Qt.move ?_
 refine nm ?_
 refine qq (Qt.binOp rfl rfl rfl) ?_
 refine qq Qt.move ?_
 apply AWL.cut 2
 ·intro Kg2
  refine AWL.splitF 23 rfl (fun g2 => ?_) (fun g2 => ?_)
  ·refine qg (nF g2) Qt.move ?_
   refine nm ?_
   refine qg (nF g2) (Qt.binOp rfl rfl rfl) ?_
   exact wj 25 [24, 25] (ifF g2 _ undef) (by simp only [go_sem, Int.reduceToNat, Nat.reduceLT, reduceIte, Nat.reduceEqDiff, Nat.reduceAdd, Nat.reduceMul, Nat.reduceBEq, reduceCtorEq]; rfl) Kg2
  ·refine og (nT g2) ?_
   refine og (nT g2) ?_
   exact wj 25 [24, 25] (ifT g2 undef _) (by simp only [go_sem, Int.reduceToNat, Nat.reduceLT, reduceIte, Nat.reduceEqDiff, Nat.reduceAdd, Nat.reduceMul, Nat.reduceBEq, reduceCtorEq]) Kg2
 refine qq (Qt.pickOr rfl rfl rfl) ?_
 refine nl ?_
 refine AW.cond rfl (fun c3 => (by exfalso; first | (cases c3; done) | (simp at c3; done) | (simp only [cnd] at c3; omega))) (fun c3 => ?_)
 have k3 := c3
 try simp only [cnd] at c3
 refine jd (AW.seq (AW.region ?_))
 refine qq Qt.move ?_
 refine nm ?_
 refine qq (Qt.convI rfl rfl Try.underlying3) ?_
 refine AWL.weak (Weak.slot (d := 29) (v' := iv ((4 : Nat) : Int)) rfl (by rfl)) ?_
 refine nm ?_
 refine sp (Stp.makeSlice rfl (by decide) (by decide) rfl rfl (by omega) (by omega) (by omega)) ?_
 refine nm ?_
 refine qq Qt.assign ?_
 refine nl ?_
 refine AW.seq (AW.region ?_)
 refine qq Qt.move ?_
 refine qq Qt.move ?_
 refine nm ?_
 refine sp (Stp.copy rfl (by decide) rfl rfl (by decide) rfl (fun _ _ _ _ _ h => by cases h <;> rfl) rfl (by first | omega | simp) (by first | omega | simp)) ?_
 refine nm ?_
 refine qq Qt.assign ?_
 refine nl ?_
 refine AW.seq (AW.block ?_)
 refine AW.weak (L' := [.sl 8 (.v (iv (1 : Nat))), .sl 7 (.h 30 []), .rt 30 .row (repT v 4 (1 : Nat))]) (Weak.sim ⟨rfl, rfl, ⟨_, rfl, rep_zero (by omega) rfl⟩, trivial⟩ rfl rfl) ?_
 refine AW.loop (fun i : RepI 4 => [.sl 8 (.v (iv i.k)), .sl 7 (.h 30 []), .rt 30 .row (repT v 4 i.k)]) (fun i => 4 - i.k) ⟨1, by omega, by omega⟩ ?_
 intro i
 have hle := i.le
 refine AW.seq (AW.seq (AW.region ?_))
 refine qq Qt.move ?_
 refine qq Qt.move ?_
 refine nm ?_
 refine qq (Qt.lenH rfl rfl rfl sl35) ?_
 refine qq (Qt.binOp rfl rfl rfl) ?_
 refine nl ?_
 refine AW.cond rfl (fun c4 => ?_) (fun c4 => ?_)
 ·have k4 := c4
  try simp only [cnd] at c4
  have hp := i.pos
  refine jd (AW.block ?_)
  refine AW.draw [0, 1, 2, 3, 4, 5, 6, 8] rfl (by decide +kernel) ?_
  refine tk 0 rfl Qt.move ?_
  refine na ?_
  refine tk 1 rfl Qt.move ?_
  refine tk 2 rfl Qt.move ?_
  refine tk 3 rfl (Qt.sliceH rfl rfl rfl sl35 sz3 (by decide) (slB_so rfl rfl) slB_no (by first | omega | (simp only [Int.toNat_natCast]; omega)) (by first | omega | (simp only [Int.toNat_natCast]; omega))) ?_
  refine na ?_
  refine tk 4 rfl Qt.move ?_
  refine tk 5 rfl Qt.move ?_
  refine tk 6 rfl (Qt.sliceH rfl rfl rfl sl35 sz3 (by decide) slB_no (slB_so rfl rfl) (by first | omega | (simp only [Int.toNat_natCast]; omega)) (by first | omega | (simp only [Int.toNat_natCast]; omega))) ?_
  refine na ?_
  refine a1 7 [0] [6, 3, 5, 4, 2, 1] rfl rfl (Stp.copy rfl (by decide) rfl rfl (by decide) rfl (fun _ _ _ _ _ h => by cases h <;> rfl) rfl (by first | omega | simp) (by first | omega | simp)) ?_
  refine na ?_
  refine AWA.againE rfl rfl (by decide +kernel) (.on rfl rfl Qt.move) rfl ?_
  refine na ?_
  refine tk 8 rfl (Qt.binOp rfl rfl (by first | exact pbAdd (by omega) | rfl)) ?_
  refine a1 9 [] [8, 7, 6, 5, 4, 3, 2, 1, 0] rfl rfl (Stp.q rfl (by decide) Qt.assign) ?_
  refine na ?_
  refine na ?_
  refine nz ?_
  refine ⟨⟨i.k + min i.k (4 - i.k), by omega, by omega⟩, Weak.sim ⟨(by simp only [slotL, reduceIte, Nat.reduceEqDiff, Nat.sub_zero]; congr 2), rfl, ⟨_, rfl, (by simp only [Nat.sub_zero, Nat.zero_add]; exact rep_step (v := v) (n := i.k) (c := 4) (by omega) i.pos)⟩, trivial⟩ rfl rfl, ?_⟩
  show 4 - (i.k + min i.k (4 - i.k)) < 4 - i.k
  omega
 have k4 := c4
 try simp only [cnd] at c4
 refine AW.exit ?_
 dsimp only [thenQ, blockQ, reduceIte]
 refine AW.seq (AW.region ?_)
 refine qq Qt.move ?_
 refine qq Qt.assign ?_
 refine nl ?_
 refine AW.rep 30 (tr (List.replicate 4 v)) rfl (by rw [show i.k = 4 by omega]; exact rep_full) ?_
 refine AW.ret (endQ_ret (.cons (.tmp 4) .nil) ?_)
 refine ⟨fun _ => 30, rfl, nodup_of rfl, ?_⟩
 intro r hr
 cases List.mem_singleton.1 hr
 exact ⟨by simp, rootL_mem rfl⟩
end Go.Proofs.Ytfbefcmeghpalaa.VM
