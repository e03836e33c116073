/- Contracts of functions of the program. No conditions beyond those that each states. -/
import Derived.Test.YtbchjcapphclgaaCJL
import Derived.Test.YtbchjcapphclgaaCJX
set_option linter.all false
namespace Go.Proofs.Ytbchjcapphclgaa.VM
open Go Go.RowKit Go.Proofs
set_option maxHeartbeats 8000000 in
set_option maxRecDepth 10000 in
theorem sameInts_con (a b : List Int) : Con Try.prog 16 [.h base [], .h (base + 1) []] [.rt base .ro (tr a), .rt (base + 1) .ro (tr b)] (fun y _ => y = .v (.bool (decide (a = b)))) := by
 refine Con.of_body Try.func16 rfl (by simp) ?_
 rw [Try.ntmps16]
 refine AW.len (base) [] rfl (by simp [Okp]) rfl (fun hl => ?_)
 refine AW.len (base + 1) [] rfl (by simp [Okp]) rfl (fun hl2 => ?_)
 refine AW.seq (AW.region ?_)
 refine qq Qt.assign ?_
 refine nl ?_
 refine AW.seq (AW.seq (AW.region ?_))
 refine qq Qt.move ?_
 refine qq (Qt.lenH rfl rfl rfl sl34) ?_
 refine nm ?_
 refine qq Qt.move ?_
 refine qq (Qt.lenH rfl rfl rfl sl34) ?_
 refine qq (Qt.binOp rfl rfl rfl) ?_
 refine nl ?_
 refine AW.cond rfl (fun c1 => ?_) (fun c1 => ?_)
 ·have k1 := c1
  try simp only [cnd] at c1
  refine AW.seq (AW.region ?_)
  refine qq Qt.assign ?_
  refine nl ?_
  refine AW.ret (endQ_ret (.cons (.tmp 4) .nil) ?_)
  simp only [retX, slotL, reduceIte, Nat.reduceEqDiff]
  rw [decide_eq_false (show a ≠ b from ne_of_len (by omega))]
 have k1 := c1
 try simp only [cnd] at c1
 refine jd (AW.seq (AW.seq (AW.region ?_)))
 refine qq Qt.assign ?_
 refine nl ?_
 refine AW.block ?_
 refine AW.loopW (fun i : EqInv a b => [.sl 5 (.v (iv i.k)), .sl 0 (.h base []), .sl 1 (.h (base + 1) []), .rt base .ro (tr a), .rt (base + 1) .ro (tr b)]) (fun i => a.length - i.k) ⟨0, Nat.zero_le _, rfl⟩ (Weak.sim ⟨rfl, rfl, rfl, Rf rfl, Rf rfl, trivial⟩ rfl rfl) ?_
 intro i
 have hle := i.le
 refine AW.seq (AW.seq (AW.region ?_))
 refine qq Qt.move ?_
 refine nm ?_
 refine qq Qt.move ?_
 refine qq (Qt.lenH rfl rfl rfl sl34) ?_
 refine qq (Qt.binOp rfl rfl rfl) ?_
 refine nl ?_
 refine AW.cond rfl (fun c2 => ?_) (fun c2 => ?_)
 ·have k2 := c2
  try simp only [cnd] at c2
  refine jd (AW.seq (AW.block (AW.seq ?_)))
  refine AW.draw [0, 1, 2, 3, 4, 5, 6, 7, 8] rfl (by decide +kernel) ?_
  refine tk 0 rfl Qt.move ?_
  refine na ?_
  refine tk 1 rfl Qt.move ?_
  refine tk 2 rfl (Qt.indexAddr rfl rfl rfl rfl sl34 sz3 (by decide) (by omega)) ?_
  refine tk 3 rfl (Qt.load1 rfl rfl rfl ag3) ?_
  refine na ?_
  refine tk 4 rfl Qt.move ?_
  refine tk 5 rfl Qt.move ?_
  refine tk 6 rfl (Qt.indexAddr rfl rfl rfl rfl sl34 sz3 (by decide) (by omega)) ?_
  refine na ?_
  refine tk 7 rfl (Qt.load1 rfl rfl rfl ag3) ?_
  refine tk 8 rfl (Qt.binOp rfl rfl rfl) ?_
  refine nz ?_
  refine AW.cond rfl (fun c3 => ?_) (fun c3 => ?_)
  ·have k3 := c3
   try simp only [cnd] at c3
   refine AW.seq (AW.region ?_)
   refine qq Qt.assign ?_
   refine nl ?_
   refine AW.ret (endQ_ret (.cons (.tmp 4) .nil) ?_)
   simp only [retX, slotL, reduceIte, Nat.reduceEqDiff]
   rw [decide_eq_false (show a ≠ b from i.stop En.dflt (by simpa using c3))]
  have k3 := c3
  try simp only [cnd] at c3
  refine jd (AW.region ?_)
  refine qq Qt.move ?_
  refine nm ?_
  refine qq (Qt.binOp rfl rfl (by first | exact pbAdd (by omega) | rfl)) ?_
  refine qq Qt.assign ?_
  refine nl ?_
  refine ⟨⟨i.k + 1, by omega, i.next En.dflt (by omega) (by omega) (by simpa using c3)⟩, Weak.sim ⟨st1, rfl, rfl, Rf rfl, Rf rfl, trivial⟩ rfl rfl, ?_⟩
  show a.length - (i.k + 1) < a.length - i.k
  omega
 have k2 := c2
 try simp only [cnd] at c2
 refine AW.exit ?_
 dsimp only [thenQ, blockQ, reduceIte]
 refine AW.seq (AW.region ?_)
 refine qq Qt.assign ?_
 refine nl ?_
 refine AW.ret (endQ_ret (.cons (.tmp 4) .nil) ?_)
 simp only [retX, slotL, reduceIte, Nat.reduceEqDiff]
 rw [decide_eq_true (show a = b from i.full (by omega) (by omega))]
end Go.Proofs.Ytbchjcapphclgaa.VM
