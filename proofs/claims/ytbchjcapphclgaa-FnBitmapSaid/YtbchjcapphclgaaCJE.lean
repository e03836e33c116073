/- Contracts of functions of the program. No conditions beyond those that each states. -/
import Derived.Test.YtbchjcapphclgaaCJA
import Derived.Test.YtbchjcapphclgaaCJB
import Derived.Test.YtbchjcapphclgaaCJD
set_option linter.all false
namespace Go.Proofs.Ytbchjcapphclgaa.VM
open Go Go.RowKit Go.Proofs
theorem xI {a b : Int} (h : a = b) : X.v (iv a) = X.v (iv b) := by rw [h]
def cntT (l : List Bool) (k : Nat) : Nat := (l.take k).countP (fun b => !b)
theorem cntT_le (l : List Bool) (k : Nat) : cntT l k ≤ k := Nat.le_trans List.countP_le_length (by rw [List.length_take]; omega)
theorem cntT_step {l : List Bool} {k : Nat} (h : k < l.length) : cntT l (k + 1) = cntT l k + if l.getD k En.dflt = false then 1 else 0 := by
 unfold cntT
 rw [List.take_add_one, List.getElem?_eq_getElem h, List.countP_append, List.getD_eq_getElem?_getD, List.getElem?_eq_getElem h]
 simp only [Option.toList_some, Option.getD_some]
 cases l[k] <;> rfl
theorem cntT_yes {l : List Bool} {k : Nat} (h : k < l.length) (hb : l.getD k En.dflt = false) : cntT l (k + 1) = cntT l k + 1 := by rw [cntT_step h, if_pos hb]
theorem cntT_no {l : List Bool} {k : Nat} (h : k < l.length) (hb : ¬ l.getD k En.dflt = false) : cntT l (k + 1) = cntT l k := by rw [cntT_step h, if_neg hb]; rfl
def freeN (l : List Bool) : Nat := if l.length = 16 then cntT l 16 else 0
theorem freeN_le (l : List Bool) : freeN l ≤ 16 := by
 unfold freeN
 split
 ·exact cntT_le _ _
 ·omega
theorem freeN_at {l : List Bool} (h : l.length = 16) {k : Nat} (hk : k = 16) : freeN l = cntT l k := by subst hk; exact if_pos h
def mapGive (l : List Bool) (f : Int) : List Bool × Bool := if l.length = 16 then (if (0 ≤ f ∧ f ≤ 15) ∧ l.getD f.toNat En.dflt = true then (l.set f.toNat false, true) else (l, false)) else ([], false)
set_option maxHeartbeats 8000000 in
set_option maxRecDepth 10000 in
theorem big_con (code : List UInt8) : Con Try.prog 5 [.h base []] [.rt base .ro (tr code)] (fun y _ => y = .v (.bool (decide ((code.length : Int) > 1048576)))) := by
 refine Con.of_body Try.func5 rfl (by simp) ?_
 rw [Try.ntmps5]
 refine AW.seq (AW.region ?_)
 refine qq Qt.assign ?_
 refine nl ?_
 refine AW.seq (AW.region ?_)
 refine qq Qt.move ?_
 refine qq (Qt.lenH rfl rfl rfl sl22) ?_
 refine nm ?_
 refine qq (Qt.binOp rfl rfl rfl) ?_
 refine qq Qt.assign ?_
 refine nl ?_
 refine AW.ret (endQ_ret (.cons (.tmp 2) .nil) ?_)
 rfl
set_option maxHeartbeats 8000000 in
set_option maxRecDepth 10000 in
theorem at0_con (code : List UInt8) (hw : code.length ≤ 1048576) : Con Try.prog 10 [.h base [], .v (iv 0)] [.rt base .ro (tr code)] (RetC false (fun m : Int => 0 ≤ m) (fun m => .v (iv m)) (fun _ => [])) := by
 refine Con.of_body Try.func10 rfl (by simp) ?_
 rw [Try.ntmps10]
 refine AW.seq (AW.region ?_)
 refine qq Qt.assign ?_
 refine nl ?_
 refine AW.seq (AW.seq (AW.region ?_))
 refine qq Qt.move ?_
 refine qq Qt.move ?_
 refine nm ?_
 refine qq (Qt.lenH rfl rfl rfl sl22) ?_
 refine qq (Qt.binOp rfl rfl rfl) ?_
 refine nl ?_
 refine AW.cond rfl (fun c1 => ?_) (fun c1 => ?_)
 ·have k1 := c1
  try simp only [cnd] at c1
  refine AW.seq (AW.region ?_)
  refine qq Qt.move ?_
  refine nm ?_
  refine qq Qt.move ?_
  refine qq (Qt.indexAddr rfl rfl rfl rfl sl22 sz5 (by decide) (by first | omega | grind only)) ?_
  refine qq (Qt.load1 rfl rfl rfl ag5) ?_
  refine nm ?_
  refine qq (Qt.convI rfl rfl Try.underlying3) ?_
  refine qq Qt.assign ?_
  refine nl ?_
  refine AW.ret (endQ_ret (.cons (.tmp 4) .nil) ?_)
  have hub := (code.getD 0 En.dflt).toNat_lt
  exact ⟨IntKind.i64.wrap ((code.getD 0 En.dflt).toNat : Int), (by rw [IntWalk.i64_in _ (by omega)]; exact Int.natCast_nonneg _), fun n => n, rfl, List.nodup_nil, (by simp), fun h => by cases h⟩
 have k1 := c1
 try simp only [cnd] at c1
 refine jd (AW.seq (AW.region ?_))
 refine qq Qt.move ?_
 refine nm ?_
 refine qq (Qt.binOp rfl rfl (by first | exact pbMul (by omega) | rfl)) ?_
 refine qq Qt.move ?_
 refine qq (Qt.lenH rfl rfl rfl sl22) ?_
 refine nm ?_
 refine qq (Qt.binOp rfl rfl (by first | exact pbMul (by omega) | rfl)) ?_
 refine qq (Qt.binOp rfl rfl (by first | exact pbAdd (by omega) | rfl)) ?_
 refine qq (Qt.binOp rfl rfl (by first | exact pbRem4 _ | rfl | exact pbRemI (by omega))) ?_
 refine nm ?_
 refine qq Qt.assign ?_
 refine nl ?_
 refine AW.ret (endQ_ret (.cons (.tmp 4) .nil) ?_)
 exact ⟨_, (tmod_bd (n := 256) (by omega) (by decide)).1, fun n => n, rfl, List.nodup_nil, (by simp), fun h => by cases h⟩
set_option maxHeartbeats 8000000 in
set_option maxRecDepth 10000 in
theorem isFrame_con (x : Int) : Con Try.prog 23 [.v (iv x)] [] (fun y _ => y = .v (.bool (decide (0 ≤ x) && decide (x ≤ 15)))) := by
 refine Con.of_body Try.func23 rfl (by simp) ?_
 rw [Try.ntmps23]
 refine AW.seq (AW.region ?_)
 refine qq Qt.assign ?_
 refine nl ?_
 refine AW.seq (AW.region ?_)
 refine qq Qt.move ?_
 refine cv Try.call34 rfl rfl (in_con _ _ _) ?_
 refine nm ?_
 refine qq Qt.assign ?_
 refine nl ?_
 refine AW.ret (endQ_ret (.cons (.tmp 2) .nil) ?_)
 rfl
set_option maxHeartbeats 8000000 in
set_option maxRecDepth 10000 in
theorem MapFreeI_con (l : List Bool) : Con Try.prog 7 [.h base []] [.rt base .ro (tr l)] (fun y _ => y = .v (iv (freeN l : Nat))) := by
 refine Con.of_body Try.func7 rfl (by simp) ?_
 rw [Try.ntmps7]
 refine AW.len (base) [] rfl (by simp [Okp]) rfl (fun hl => ?_)
 refine AW.seq (AW.region ?_)
 refine qq Qt.assign ?_
 refine nl ?_
 refine AW.seq (AW.seq (AW.region ?_))
 refine qq Qt.move ?_
 refine cv Try.call20 rfl rfl (MapOkI_con _) ?_
 refine nm ?_
 refine qq (Qt.notB rfl) ?_
 refine nl ?_
 refine AW.cond rfl (fun c1 => ?_) (fun c1 => ?_)
 ·have k1 := c1
  try simp only [cnd] at c1
  refine AW.seq (AW.region ?_)
  refine qq Qt.assign ?_
  refine nl ?_
  refine AW.ret (endQ_ret (.cons (.tmp 2) .nil) ?_)
  rw [show freeN l = 0 from if_neg (by grind only)]
  rfl
 have k1 := c1
 try simp only [cnd] at c1
 have h16 : l.length = 16 := by grind only
 refine jd (AW.seq (AW.region ?_))
 refine qq Qt.assign ?_
 refine nl ?_
 refine AW.seq (AW.seq (AW.region ?_))
 refine qq Qt.move ?_
 refine nm ?_
 refine qq (Qt.lenH rfl rfl rfl sl24) ?_
 refine qq Qt.move ?_
 refine nl ?_
 refine AW.block ?_
 refine AW.loopW (fun i : KInv l.length => [.sl 11 (.v (iv i.k)), .sl 10 (.v (iv l.length)), .sl 9 (.h base []), .sl 3 (.v (iv (cntT l i.k : Nat))), .rt base .ro (tr l)]) (fun i => l.length - i.k) ⟨0, Nat.zero_le _⟩ (Weak.sim ⟨rfl, rfl, rfl, rfl, Rf rfl, trivial⟩ rfl rfl) ?_
 intro i
 have hle := i.le
 have hcl := cntT_le l i.k
 refine AW.seq (AW.region ?_)
 refine qq (Qt.binOp rfl rfl rfl) ?_
 refine nl ?_
 refine AW.seq ?_
 refine AW.cond rfl (fun c2 => ?_) (fun c2 => ?_)
 ·have k2 := c2
  try simp only [cnd] at c2
  refine jd (AW.seq (AW.block (AW.seq (AW.region ?_))))
  refine qq (Qt.indexAddr rfl rfl rfl rfl sl24 sz4 (by decide) (by first | omega | grind only)) ?_
  refine nm ?_
  refine qq (Qt.load1 rfl rfl rfl ag4) ?_
  refine qq Qt.assign ?_
  refine nl ?_
  refine AW.seq (AW.region ?_)
  refine qq Qt.move ?_
  refine nm ?_
  refine qq (Qt.notB rfl) ?_
  refine nl ?_
  refine AW.cond rfl (fun c3 => ?_) (fun c3 => ?_)
  ·have k3 := c3
   try simp only [cnd] at c3
   refine AW.region ?_
   refine qq Qt.move ?_
   refine qq (Qt.binOp rfl rfl (by first | exact pbAdd (by omega) | rfl)) ?_
   refine nm ?_
   refine qq Qt.assign ?_
   refine nl ?_
   refine AW.region ?_
   refine qq (Qt.binOp rfl rfl (by first | exact pbAdd (by omega) | rfl)) ?_
   refine qq Qt.move ?_
   refine nl ?_
   refine ⟨⟨i.k + 1, by omega⟩, Weak.sim ⟨st1, rfl, rfl, (xI (by rw [cntT_yes (by omega) (by grind only)]; rfl)), Rf rfl, trivial⟩ rfl rfl, ?_⟩
   show l.length - (i.k + 1) < l.length - i.k
   omega
  have k3 := c3
  try simp only [cnd] at c3
  refine jd (AW.region ?_)
  refine qq (Qt.binOp rfl rfl (by first | exact pbAdd (by omega) | rfl)) ?_
  refine nm ?_
  refine qq Qt.move ?_
  refine nl ?_
  refine ⟨⟨i.k + 1, by omega⟩, Weak.sim ⟨st1, rfl, rfl, (xI (by rw [cntT_no (by omega) (by grind only)])), Rf rfl, trivial⟩ rfl rfl, ?_⟩
  show l.length - (i.k + 1) < l.length - i.k
  omega
 have k2 := c2
 try simp only [cnd] at c2
 refine AW.exit ?_
 dsimp only [thenQ, blockQ, reduceIte]
 refine AW.seq (AW.region ?_)
 refine qq Qt.move ?_
 refine qq Qt.assign ?_
 refine nl ?_
 refine AW.ret (endQ_ret (.cons (.tmp 2) .nil) ?_)
 rw [freeN_at h16 (k := i.k) (by omega)]
 rfl
set_option maxHeartbeats 8000000 in
set_option maxRecDepth 10000 in
theorem MapFreeS_con (l : List Bool) : Con Try.prog 12 [.h base []] [.rt base .ro (tr l)] (fun y _ => y = .v (iv (freeN l : Nat))) := by
 refine Con.of_body Try.func12 rfl (by simp) ?_
 rw [Try.ntmps12]
 refine AW.len (base) [] rfl (by simp [Okp]) rfl (fun hl => ?_)
 refine AW.seq (AW.region ?_)
 refine qq Qt.assign ?_
 refine nl ?_
 refine AW.seq (AW.seq (AW.region ?_))
 refine qq Qt.move ?_
 refine cv Try.call8 rfl rfl (MapOkS_con _) ?_
 refine nm ?_
 refine qq (Qt.notB rfl) ?_
 refine nl ?_
 refine AW.cond rfl (fun c1 => ?_) (fun c1 => ?_)
 ·have k1 := c1
  try simp only [cnd] at c1
  refine AW.seq (AW.region ?_)
  refine qq Qt.assign ?_
  refine nl ?_
  refine AW.ret (endQ_ret (.cons (.tmp 2) .nil) ?_)
  rw [show freeN l = 0 from if_neg (by grind only)]
  rfl
 have k1 := c1
 try simp only [cnd] at c1
 have h16 : l.length = 16 := by grind only
 refine jd (AW.seq (AW.region ?_))
 refine qq Qt.assign ?_
 refine nl ?_
 refine AW.seq (AW.seq (AW.region ?_))
 refine qq Qt.assign ?_
 refine nl ?_
 refine AW.block ?_
 refine AW.loopW (fun i : KInv l.length => [.sl 4 (.v (iv i.k)), .sl 0 (.h base []), .sl 3 (.v (iv (cntT l i.k : Nat))), .rt base .ro (tr l)]) (fun i => l.length - i.k) ⟨0, Nat.zero_le _⟩ (Weak.sim ⟨rfl, rfl, rfl, Rf rfl, trivial⟩ rfl rfl) ?_
 intro i
 have hle := i.le
 have hcl := cntT_le l i.k
 refine AW.seq (AW.seq (AW.region ?_))
 refine qq Qt.move ?_
 refine nm ?_
 refine qq Qt.move ?_
 refine qq (Qt.lenH rfl rfl rfl sl24) ?_
 refine qq (Qt.binOp rfl rfl rfl) ?_
 refine nl ?_
 refine AW.cond rfl (fun c2 => ?_) (fun c2 => ?_)
 ·have k2 := c2
  try simp only [cnd] at c2
  refine jd (AW.seq (AW.block (AW.seq (AW.region ?_))))
  refine qq Qt.move ?_
  refine nm ?_
  refine qq Qt.move ?_
  refine qq (Qt.indexAddr rfl rfl rfl rfl sl24 sz4 (by decide) (by first | omega | grind only)) ?_
  refine qq (Qt.load1 rfl rfl rfl ag4) ?_
  refine nm ?_
  refine qq (Qt.notB rfl) ?_
  refine nl ?_
  refine AW.cond rfl (fun c3 => ?_) (fun c3 => ?_)
  ·have k3 := c3
   try simp only [cnd] at c3
   refine AW.region ?_
   refine qq Qt.move ?_
   refine qq (Qt.binOp rfl rfl (by first | exact pbAdd (by omega) | rfl)) ?_
   refine nm ?_
   refine qq Qt.assign ?_
   refine nl ?_
   refine AW.region ?_
   refine qq Qt.move ?_
   refine qq (Qt.binOp rfl rfl (by first | exact pbAdd (by omega) | rfl)) ?_
   refine nm ?_
   refine qq Qt.assign ?_
   refine nl ?_
   refine ⟨⟨i.k + 1, by omega⟩, Weak.sim ⟨st1, rfl, (xI (by rw [cntT_yes (by omega) (by grind only)]; rfl)), Rf rfl, trivial⟩ rfl rfl, ?_⟩
   show l.length - (i.k + 1) < l.length - i.k
   omega
  have k3 := c3
  try simp only [cnd] at c3
  refine jd (AW.region ?_)
  refine qq Qt.move ?_
  refine qq (Qt.binOp rfl rfl (by first | exact pbAdd (by omega) | rfl)) ?_
  refine nm ?_
  refine qq Qt.assign ?_
  refine nl ?_
  refine ⟨⟨i.k + 1, by omega⟩, Weak.sim ⟨st1, rfl, (xI (by rw [cntT_no (by omega) (by grind only)])), Rf rfl, trivial⟩ rfl rfl, ?_⟩
  show l.length - (i.k + 1) < l.length - i.k
  omega
 have k2 := c2
 try simp only [cnd] at c2
 refine AW.exit ?_
 dsimp only [thenQ, blockQ, reduceIte]
 refine AW.seq (AW.region ?_)
 refine qq Qt.move ?_
 refine qq Qt.assign ?_
 refine nl ?_
 refine AW.ret (endQ_ret (.cons (.tmp 2) .nil) ?_)
 rw [freeN_at h16 (k := i.k) (by omega)]
 rfl
set_option maxHeartbeats 8000000 in
set_option maxRecDepth 10000 in
theorem MapGiveI_con (l : List Bool) (f : Int) (h16 : l.length = 16) : Con Try.prog 11 [.h base [], .v (iv f)] [.rt base .ro (tr l)] (Ret (.t [.h 0 [], .v (.bool (mapGive l f).2)]) [(0, .row, tr (mapGive l f).1)]) := by
 refine Con.of_body Try.func11 rfl (by simp) ?_
 rw [Try.ntmps11]
 refine AW.len (base) [] rfl (by simp [Okp]) rfl (fun hl => ?_)
 refine AW.seq (AW.region ?_)
 refine qq Qt.assign ?_
 refine qq Qt.assign ?_
 refine nl ?_
 refine AW.seq (AW.seq (AW.region ?_))
 refine qq Qt.move ?_
 refine nm ?_
 refine cv Try.call20 rfl rfl (MapOkI_con _) ?_
 refine nm ?_
 refine qq (Qt.notB rfl) ?_
 refine nl ?_
 refine AW.cond rfl (fun c1 => ?_) (fun c1 => ?_)
 ·have k1 := c1
  try simp only [cnd] at c1
  refine AW.seq (AW.region ?_)
  refine qq Qt.assign ?_
  refine qq Qt.assign ?_
  refine nl ?_
  refine AW.ret (endQ_ret (.cons (.tmp 4) (.cons (.tmp 5) .nil)) ?_)
  exfalso
  grind only
 have k1 := c1
 try simp only [cnd] at c1
 refine jd (AW.seq (AW.region ?_))
 refine qq Qt.move ?_
 refine nm ?_
 refine sp (Stp.callR rfl (by decide) Try.call21 rfl rfl (cloneB_con _ (by omega)) (nodup_of rfl) rfl rfl) ?_
 refine nm ?_
 refine qq Qt.assign ?_
 refine nl ?_
 refine AW.seq (AW.seq (AW.region ?_))
 refine qq Qt.move ?_
 refine cv Try.call23 rfl rfl (isFrame_con _) ?_
 refine nm ?_
 refine qq (Qt.notB rfl) ?_
 refine qq Qt.move ?_
 apply AWL.cut 5
 ·intro Kg2
  refine AWL.splitF 15 rfl (fun g2 => ?_) (fun g2 => ?_)
  ·have eg2 := g2
   try simp only [cnd] at eg2
   refine qg (nF g2) Qt.move ?_
   refine nm ?_
   refine qg (nF g2) Qt.move ?_
   refine qg (nF g2) (Qt.indexAddr rfl rfl rfl rfl sl24 sz4 (by decide) (by first | omega | grind only)) ?_
   refine qg (nF g2) (Qt.load1 rfl rfl rfl ag4) ?_
   refine nm ?_
   refine qg (nF g2) (Qt.notB rfl) ?_
   exact wj 20 [16, 17, 18, 19, 20] (ifF g2 _ undef) (by simp only [go_sem, Int.reduceToNat, Nat.reduceLT, reduceIte, Nat.reduceEqDiff, Nat.reduceAdd, Nat.reduceMul, Nat.reduceBEq, reduceCtorEq]; rfl) Kg2
  ·refine og (nT g2) ?_
   refine og (nT g2) ?_
   refine og (nT g2) ?_
   refine og (nT g2) ?_
   refine nm ?_
   refine og (nT g2) ?_
   exact wj 20 [16, 17, 18, 19, 20] (ifT g2 undef _) (by simp only [go_sem, Int.reduceToNat, Nat.reduceLT, reduceIte, Nat.reduceEqDiff, Nat.reduceAdd, Nat.reduceMul, Nat.reduceBEq, reduceCtorEq]) Kg2
 refine qq (Qt.pickOr rfl rfl rfl) ?_
 refine nl ?_
 refine AW.cond rfl (fun c3 => ?_) (fun c3 => ?_)
 ·have k3 := c3
  try simp only [cnd] at c3
  refine AW.seq (AW.region ?_)
  refine qq Qt.move ?_
  refine nm ?_
  refine qq Qt.assign ?_
  refine qq Qt.assign ?_
  refine nl ?_
  refine AW.ret (endQ_ret (.cons (.tmp 4) (.cons (.tmp 5) .nil)) ?_)
  rw [show mapGive l f = (l, false) from by rw [mapGive, if_pos h16, if_neg (by grind only)]]
  refine ⟨fun _ => 11, rfl, nodup_of rfl, ?_⟩
  intro r hr
  cases List.mem_singleton.1 hr
  exact ⟨by simp, rootL_mem rfl⟩
 have k3 := c3
 try simp only [cnd] at c3
 have hyes : (0 ≤ f ∧ f ≤ 15) ∧ l.getD f.toNat En.dflt = true := by grind only
 refine jd (AW.seq (AW.region ?_))
 refine qq Qt.move ?_
 refine nm ?_
 refine qq Qt.move ?_
 refine qq (Qt.indexAddr rfl rfl rfl rfl sl24 sz4 (by decide) (by first | omega | grind only)) ?_
 refine ss ?_
 refine nm ?_
 refine AWL.rep 11 (tr (l.set f.toNat false)) rfl (set_sim (fun k c hk => by simp only [upd_app, hk, false_and, if_false]; try rfl) (fun c hc => match c, hc with | 0, _ => (by simp only [upd_app, eq_self, and_self, if_true]; exact T.sim_refl _) | c + 1, hc => absurd hc (by simp only [En.n]; omega))) ?_
 refine nl ?_
 refine AW.seq (AW.region ?_)
 refine qq Qt.move ?_
 refine nm ?_
 refine qq Qt.assign ?_
 refine qq Qt.assign ?_
 refine nl ?_
 refine AW.ret (endQ_ret (.cons (.tmp 4) (.cons (.tmp 5) .nil)) ?_)
 rw [show mapGive l f = (l.set f.toNat false, true) from by rw [mapGive, if_pos h16, if_pos hyes]]
 refine ⟨fun _ => 11, rfl, nodup_of rfl, ?_⟩
 intro r hr
 cases List.mem_singleton.1 hr
 exact ⟨by simp, rootL_mem rfl⟩
end Go.Proofs.Ytbchjcapphclgaa.VM
