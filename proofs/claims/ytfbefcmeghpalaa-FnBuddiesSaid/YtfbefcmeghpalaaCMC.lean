/- Contracts of functions of the program. No conditions beyond those that each states. -/
import Derived.Test.YtfbefcmeghpalaaCMA
import Derived.Test.YtfbefcmeghpalaaCMB
set_option linter.all false
namespace Go.Proofs.Ytfbefcmeghpalaa.VM
open Go Go.RowKit Go.Proofs
theorem has_all (l : List Int) (v : Int) : decide (v ∈ l) = !(l.all fun x => !decide (x = v)) := by
 rw [Bool.eq_iff_iff]
 simp
theorem any_has (l : List Int) (v : Int) : (l.any fun x => v == x) = decide (v ∈ l) := by
 rw [Bool.eq_iff_iff]
 simp
theorem bits_xor4 : ∀ n : Nat, n < 16 → ∀ k : Nat, k < 4 → bits .xor .i64 (n : Int) ((2 ^ k : Nat) : Int) = (((n ^^^ (2 ^ k) : Nat) : Nat) : Int) := by decide +kernel
theorem pbXorN (n : Nat) (hn : n < 16) (k : Nat) (hk : k < 4) : pureBin .xor (iv (n : Int)) (iv ((2 ^ k : Nat) : Int)) = some (iv (((n ^^^ (2 ^ k) : Nat) : Nat) : Int)) := by
 show some (Value.int .i64 (bits .xor .i64 (n : Int) ((2 ^ k : Nat) : Int))) = _
 rw [bits_xor4 n hn k hk]

set_option maxRecDepth 10000 in
theorem l15Len_con (k : Nat) (hk : k ≤ 5) : Con Try.prog 32 [.v (iv k)] [] (fun y _ => y = .v (iv ((2 ^ k : Nat) : Int))) := by
 refine Con.of_body Try.func32 rfl (by simp) ?_
 rw [Try.ntmps32]
 refine AW.seq (AW.region ?_)
 refine qq Qt.assign ?_
 refine nl ?_
 refine AW.seq (AW.region ?_)
 refine qq Qt.move ?_
 refine qq (Qt.convI rfl rfl Try.underlying105) ?_
 refine nm ?_
 refine qq (Qt.binOp rfl rfl (pbShl1 hk)) ?_
 refine qq Qt.assign ?_
 refine nl ?_
 refine AW.ret (endQ_ret (.cons (.tmp 2) .nil) ?_)
 rfl
set_option maxRecDepth 10000 in
theorem l6Has_con (l : List Int) (v : Int) : Con Try.prog 33 [.h base [], .v (iv v)] [.rt base .ro (tr l)] (fun y _ => y = .v (.bool (decide (v ∈ l)))) := by
 refine Con.of_body Try.func33 rfl (by simp) ?_
 rw [Try.ntmps33]
 refine AW.len base [] rfl (by simp [Okp]) rfl (fun hl => ?_)
 refine AW.seq (AW.region ?_)
 refine qq Qt.assign ?_
 refine nl ?_
 refine AW.seq (AW.seq (AW.region ?_))
 refine qq Qt.assign ?_
 refine nl ?_
 refine AW.block ?_
 refine AW.loopW (fun i : AllInv (fun x => !decide (x = v)) l => [.sl 5 (.v (iv i.k)), .sl 0 (.h base []), .sl 1 (.v (iv v)), .rt base .ro (tr l)]) (fun i => l.length - i.k) ⟨0, Nat.zero_le _, rfl⟩ (Weak.sim ⟨rfl, rfl, rfl, Rf rfl, trivial⟩ rfl rfl) ?_
 intro i
 have hle := i.le
 refine AW.seq (AW.seq (AW.region ?_))
 refine qq Qt.move ?_
 refine nm ?_
 refine qq Qt.move ?_
 refine qq (Qt.lenH rfl rfl rfl sl35) ?_
 refine qq (Qt.binOp rfl rfl rfl) ?_
 refine nl ?_
 refine AW.cond rfl (fun c1 => ?_) (fun c1 => ?_)
 ·have k1 := c1
  try simp only [cnd] at c1
  refine jd (AW.seq (AW.block (AW.seq (AW.region ?_))))
  refine qq Qt.move ?_
  refine nm ?_
  refine qq Qt.move ?_
  refine qq (Qt.indexAddr rfl rfl rfl rfl sl35 sz3 (by decide) (by omega)) ?_
  refine qq (Qt.load1 rfl rfl rfl ag3) ?_
  refine nm ?_
  refine qq Qt.move ?_
  refine qq (Qt.binOp rfl rfl rfl) ?_
  refine nl ?_
  refine AW.cond rfl (fun c2 => ?_) (fun c2 => ?_)
  ·have k2 := c2
   try simp only [cnd] at c2
   refine AW.seq (AW.region ?_)
   refine qq Qt.assign ?_
   refine nl ?_
   refine AW.ret (endQ_ret (.cons (.tmp 4) .nil) ?_)
   rw [has_all, i.stop En.dflt (by omega) (by simpa using c2)]
   rfl
  have k2 := c2
  try simp only [cnd] at c2
  refine jd (AW.region ?_)
  refine qq Qt.move ?_
  refine nm ?_
  refine qq (Qt.binOp rfl rfl (by first | exact pbAdd (by omega) | rfl)) ?_
  refine qq Qt.assign ?_
  refine nl ?_
  refine ⟨⟨i.k + 1, by omega, i.next En.dflt (by omega) (by simpa using c2)⟩, Weak.sim ⟨st1, rfl, rfl, Rf rfl, trivial⟩ rfl rfl, ?_⟩
  show l.length - (i.k + 1) < l.length - i.k
  omega
 have k1 := c1
 try simp only [cnd] at c1
 refine AW.exit ?_
 dsimp only [thenQ, blockQ, reduceIte]
 refine AW.seq (AW.region ?_)
 refine qq Qt.assign ?_
 refine nl ?_
 refine AW.ret (endQ_ret (.cons (.tmp 4) .nil) ?_)
 rw [has_all, i.full (by omega)]
 rfl
set_option maxRecDepth 10000 in
theorem indexI_con (l : List Int) (v : Int) : Con Try.prog 36 [.h base [], .v (iv v)] [.rt base .ro (tr l)] (fun y _ => y = .v (iv (ixOf (fun x => v == x) l))) := by
 refine Con.of_body Try.func36 rfl (by simp) ?_
 rw [Try.ntmps36]
 refine AW.len base [] rfl (by simp [Okp]) rfl (fun hl => ?_)
 refine AW.seq (AW.region ?_)
 refine qq Qt.assign ?_
 refine nl ?_
 refine AW.seq (AW.seq (AW.region ?_))
 refine qq Qt.move ?_
 refine qq (Qt.lenH rfl rfl rfl sl35) ?_
 refine nm ?_
 refine qq Qt.move ?_
 refine nl ?_
 refine AW.block ?_
 refine AW.loopW (fun i : IxInv (fun x => v == x) l => [.sl 8 (.v (iv i.k)), .sl 7 (.v (iv l.length)), .sl 0 (.h base []), .sl 1 (.v (iv v)), .rt base .ro (tr l)]) (fun i => l.length - i.k) ⟨0, Nat.zero_le _, rfl⟩ (Weak.sim ⟨rfl, rfl, rfl, rfl, Rf rfl, trivial⟩ rfl rfl) ?_
 intro i
 have hle := i.le
 refine AW.seq (AW.region ?_)
 refine qq (Qt.binOp rfl rfl rfl) ?_
 refine nl ?_
 refine AW.seq ?_
 refine AW.cond rfl (fun c1 => ?_) (fun c1 => ?_)
 ·have k1 := c1
  try simp only [cnd] at c1
  refine jd (AW.seq (AW.block (AW.seq (AW.region ?_))))
  refine qq Qt.move ?_
  refine nm ?_
  refine qq Qt.assign ?_
  refine nl ?_
  refine AW.seq (AW.region ?_)
  refine qq Qt.move ?_
  refine qq Qt.move ?_
  refine nm ?_
  refine qq Qt.move ?_
  refine qq (Qt.indexAddr rfl rfl rfl rfl sl35 sz3 (by decide) (by omega)) ?_
  refine qq (Qt.load1 rfl rfl rfl ag3) ?_
  refine nm ?_
  refine qq (Qt.binOp rfl rfl rfl) ?_
  refine nl ?_
  refine AW.cond rfl (fun c2 => ?_) (fun c2 => ?_)
  ·have k2 := c2
   try simp only [cnd] at c2
   refine AW.seq (AW.region ?_)
   refine qq Qt.move ?_
   refine qq Qt.assign ?_
   refine nl ?_
   refine AW.ret (endQ_ret (.cons (.tmp 4) .nil) ?_)
   rw [ixOf_hit i En.dflt (by omega) (by simpa using c2)]
   rfl
  have k2 := c2
  try simp only [cnd] at c2
  refine jd (AW.region ?_)
  refine qq (Qt.binOp rfl rfl (by first | exact pbAdd (by omega) | rfl)) ?_
  refine nm ?_
  refine qq Qt.move ?_
  refine nl ?_
  refine ⟨⟨i.k + 1, by omega, i.next En.dflt (by omega) (by simpa using c2)⟩, Weak.sim ⟨st1, rfl, rfl, rfl, Rf rfl, trivial⟩ rfl rfl, ?_⟩
  show l.length - (i.k + 1) < l.length - i.k
  omega
 have k1 := c1
 try simp only [cnd] at c1
 refine AW.exit ?_
 dsimp only [thenQ, blockQ, reduceIte]
 refine AW.seq (AW.region ?_)
 refine qq Qt.assign ?_
 refine nl ?_
 refine AW.ret (endQ_ret (.cons (.tmp 4) .nil) ?_)
 rw [ixOf_none i (by omega)]
 rfl
set_option maxRecDepth 10000 in
theorem containsI_con (l : List Int) (v : Int) : Con Try.prog 71 [.h base [], .v (iv v)] [.rt base .ro (tr l)] (fun y _ => y = .v (.bool (decide (v ∈ l)))) := by
 refine Con.of_body Try.func71 rfl (by simp) ?_
 rw [Try.ntmps71]
 refine AW.seq (AW.region ?_)
 refine qq Qt.assign ?_
 refine nl ?_
 refine AW.seq (AW.region ?_)
 refine qq Qt.move ?_
 refine qq Qt.move ?_
 refine nm ?_
 refine cv Try.call36 rfl rfl (indexI_con _ _) ?_
 refine nm ?_
 refine qq (Qt.binOp rfl rfl rfl) ?_
 refine qq Qt.assign ?_
 refine nl ?_
 refine AW.ret (endQ_ret (.cons (.tmp 4) .nil) ?_)
 rw [← any_has, ← ixOf_ge]
 rfl
set_option maxRecDepth 10000 in
theorem isFrame_con (x : Int) : Con Try.prog 34 [.v (iv x)] [] (fun y _ => y = .v (.bool (frame x))) := by
 refine Con.of_body Try.func34 rfl (by simp) ?_
 rw [Try.ntmps34]
 refine AW.seq (AW.region ?_)
 refine qq Qt.assign ?_
 refine nl ?_
 refine AW.seq (AW.region ?_)
 refine qq Qt.move ?_
 refine cv Try.call42 rfl rfl (in_con _ _ _) ?_
 refine nm ?_
 refine qq Qt.assign ?_
 refine nl ?_
 refine AW.ret (endQ_ret (.cons (.tmp 2) .nil) ?_)
 rfl
set_option maxRecDepth 10000 in
theorem buddyOf_con (n k : Nat) (hn : n < 16) (hk : k < 4) : Con Try.prog 37 [.v (iv n), .v (iv k)] [] (fun y _ => y = .v (iv ((n ^^^ (2 ^ k) : Nat) : Int))) := by
 refine Con.of_body Try.func37 rfl (by simp) ?_
 rw [Try.ntmps37]
 refine AW.seq (AW.region ?_)
 refine qq Qt.assign ?_
 refine nl ?_
 refine AW.seq (AW.region ?_)
 refine qq Qt.move ?_
 refine qq Qt.move ?_
 refine nm ?_
 refine qq (Qt.binOp rfl rfl (pbShl1i (by omega))) ?_
 refine qq (Qt.binOp rfl rfl (pbXorN n hn k hk)) ?_
 refine qq Qt.assign ?_
 refine nl ?_
 refine AW.ret (endQ_ret (.cons (.tmp 4) .nil) ?_)
 rfl
end Go.Proofs.Ytfbefcmeghpalaa.VM
