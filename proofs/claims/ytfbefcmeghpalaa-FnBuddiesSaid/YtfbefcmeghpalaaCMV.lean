/- Contracts of functions of the program. No conditions beyond those that each states. -/
import Derived.Test.YtfbefcmeghpalaaCM0
set_option linter.all false
namespace Go.Proofs.Ytfbefcmeghpalaa.VM
open Go Go.RowKit Go.Proofs
def shr33 (a : Int) : Int := a.fdiv (2 ^ (min (33 : Int).toNat 64))
theorem pbShr33 (a : Int) : pureBin .shr (iv a) (.int .u64 33) = some (iv (shr33 a)) := rfl
def shr45 (a : Int) : Int := a.fdiv (2 ^ (min (45 : Int).toNat 64))
theorem pbShr45 (a : Int) : pureBin .shr (iv a) (.int .u64 45) = some (iv (shr45 a)) := rfl
def xorI (a b : Int) : Int := IntKind.i64.wrap ((BitVec.ofInt 64 a ^^^ BitVec.ofInt 64 b).toNat : Int)
theorem pbXorI (a b : Int) : pureBin .xor (iv a) (iv b) = some (iv (xorI a b)) := rfl
theorem pbWrapMul (a b : Int) : pureBin .mul (iv a) (iv b) = some (iv (IntKind.i64.wrap (a * b))) := rfl
theorem pbWrapAdd (a b : Int) : pureBin .add (iv a) (iv b) = some (iv (IntKind.i64.wrap (a + b))) := rfl
theorem tmod_bd {a n : Int} (h : 0 ≤ a) (hn : 0 < n) : 0 ≤ a.tmod n ∧ a.tmod n < n := by
 rw [Int.tmod_eq_emod_of_nonneg h]
 exact ⟨Int.emod_nonneg _ (by omega), Int.emod_lt_of_pos _ hn⟩
theorem pbRemI {a b : Int} (h : b ≠ 0) : pureBin .rem (iv a) (iv b) = some (iv (a.tmod b)) := by
 show (if b = 0 then none else some (Value.int .i64 (a.tmod b))) = _
 rw [if_neg h]
set_option maxHeartbeats 8000000 in
set_option maxRecDepth 10000 in
theorem l1Byte_con (code : List UInt8) (i : Nat) (h : Int) : Con Try.prog 90 [.p base [] 3 0 0] [.rt base .box (.s 3 1 (curF (i : Nat) h)), .al base 0 (.h (base + 1) []), .rt (base + 1) .ro (tr code)] (RetD 3 (fun m : Nat × Int × Int => 0 ≤ m.2.2 ∧ m.2.2 ≤ 255) (fun m => .v (iv m.2.2)) (fun _ => []) (fun m => curF m.1 m.2.1)) := by
 refine Con.of_body Try.func90 rfl (by simp) ?_
 rw [Try.ntmps90]
 refine AW.len (base + 1) [] rfl (by simp [Okp]) rfl (fun hl => ?_)
 refine AW.seq (AW.region ?_)
 refine qq Qt.assign ?_
 refine nl ?_
 refine AW.seq (AW.region ?_)
 refine qq Qt.move ?_
 refine qq Qt.move ?_
 refine nm ?_
 refine qq (Qt.nilCheck rfl) ?_
 refine qq (fA fl97_2) ?_
 refine qq (Qt.load1 rfl rfl rfl ag3) ?_
 refine nm ?_
 refine qq (Qt.binOp rfl rfl (pbWrapMul _ _)) ?_
 refine qq (Qt.binOp rfl rfl (pbWrapAdd _ _)) ?_
 refine qq (Qt.nilCheck rfl) ?_
 refine nm ?_
 refine qq (fA fl97_2) ?_
 refine ss ?_
 refine AWL.rep base (.s 3 1 (curF (i : Nat) (nxH h))) rfl (cur_sim rfl rfl rfl) ?_
 refine nl ?_
 refine AW.seq ?_
 refine AW.draw [0, 1, 2, 3, 4, 5, 6, 7, 8, 9, 10, 11, 12] rfl (by decide +kernel) ?_
 refine tk 0 rfl Qt.move ?_
 refine na ?_
 refine tk 1 rfl (Qt.nilCheck rfl) ?_
 refine tk 2 rfl (fA fl97_2) ?_
 refine tk 3 rfl (Qt.load1 rfl rfl rfl ag3) ?_
 refine na ?_
 refine tk 4 rfl (Qt.binOp rfl rfl (pbShr33 _)) ?_
 refine tk 5 rfl Qt.move ?_
 refine tk 6 rfl (Qt.nilCheck rfl) ?_
 refine na ?_
 refine tk 7 rfl (fA fl97_2) ?_
 refine tk 8 rfl (Qt.load1 rfl rfl rfl ag3) ?_
 refine tk 9 rfl (Qt.binOp rfl rfl (pbShr45 _)) ?_
 refine na ?_
 refine tk 10 rfl (Qt.binOp rfl rfl (pbXorI _ _)) ?_
 refine tk 11 rfl (Qt.binOp rfl rfl (pbAnd255 _)) ?_
 refine tk 12 rfl Qt.assign ?_
 refine na ?_
 refine nz ?_
 refine AW.seq (AW.seq ?_)
 refine AW.draw [0, 1, 2, 3, 4, 5, 6, 7, 8, 9] rfl (by decide +kernel) ?_
 refine tk 0 rfl Qt.move ?_
 refine tk 1 rfl (Qt.nilCheck rfl) ?_
 refine tk 2 rfl (fA fl97_1) ?_
 refine na ?_
 refine tk 3 rfl (Qt.load1 rfl rfl rfl ag3) ?_
 refine tk 4 rfl Qt.move ?_
 refine tk 5 rfl (Qt.nilCheck rfl) ?_
 refine na ?_
 refine tk 6 rfl (fA fl97_0) ?_
 refine tk 7 rfl (Qt.load1 rfl rfl rfl ag22) ?_
 refine tk 8 rfl (Qt.lenH rfl rfl rfl sl22) ?_
 refine na ?_
 refine tk 9 rfl (Qt.binOp rfl rfl rfl) ?_
 refine nz ?_
 refine AW.cond rfl (fun c1 => ?_) (fun c1 => ?_)
 ·have k1 := c1
  try simp only [cnd] at c1
  refine AW.seq ?_
  refine AW.draw [0, 1, 2, 3, 4, 5, 6, 7, 8, 9, 10, 11, 12, 13] rfl (by decide +kernel) ?_
  refine tk 0 rfl Qt.move ?_
  refine tk 1 rfl Qt.move ?_
  refine na ?_
  refine tk 2 rfl (Qt.nilCheck rfl) ?_
  refine tk 3 rfl (fA fl97_0) ?_
  refine tk 4 rfl (Qt.load1 rfl rfl rfl ag22) ?_
  refine na ?_
  refine tk 5 rfl Qt.move ?_
  refine tk 6 rfl (Qt.nilCheck rfl) ?_
  refine tk 7 rfl (fA fl97_1) ?_
  refine na ?_
  refine tk 8 rfl (Qt.load1 rfl rfl rfl ag3) ?_
  refine tk 9 rfl (Qt.indexAddr rfl rfl rfl rfl sl22 sz5 (by decide) (by first | omega | grind only)) ?_
  refine tk 10 rfl (Qt.load1 rfl rfl rfl ag5) ?_
  refine na ?_
  refine tk 11 rfl (Qt.convI rfl rfl Try.underlying3) ?_
  refine tk 12 rfl (Qt.binOp rfl rfl (by first | exact pbAdd (by omega) | rfl)) ?_
  refine tk 13 rfl (Qt.binOp rfl rfl (pbAnd255 _)) ?_
  refine na ?_
  refine a1 14 [] [13, 12, 11, 10, 9, 8, 7, 6, 5, 4, 3, 2, 1, 0] rfl rfl (Stp.q rfl (by decide) Qt.assign) ?_
  refine na ?_
  refine na ?_
  refine nz ?_
  refine AW.region ?_
  refine qq Qt.move ?_
  refine qq Qt.move ?_
  refine qq (Qt.nilCheck rfl) ?_
  refine nm ?_
  refine qq (fA fl97_1) ?_
  refine qq (Qt.load1 rfl rfl rfl ag3) ?_
  refine qq (Qt.binOp rfl rfl (by first | exact pbAdd (by omega) | rfl)) ?_
  refine nm ?_
  refine qq (Qt.nilCheck rfl) ?_
  refine qq (fA fl97_1) ?_
  refine ss ?_
  refine AWL.rep base (.s 3 1 (curF (i + 1 : Nat) (nxH h))) rfl (cur_sim rfl rfl rfl) ?_
  refine nl ?_
  refine AW.seq (AW.region ?_)
  refine qq Qt.move ?_
  refine nm ?_
  refine qq Qt.assign ?_
  refine nl ?_
  refine AW.ret (endQ_ret (.cons (.tmp 2) .nil) ?_)
  exact ⟨(i + 1, nxH h, _), and255_le _, ⟨fun n => n, rfl, fun _ _ => rfl, List.nodup_nil, (by simp), (by simp)⟩, rootL_mem rfl, alM rfl⟩
 have k1 := c1
 try simp only [cnd] at c1
 refine jd (AW.seq (AW.region ?_))
 refine qq Qt.move ?_
 refine qq Qt.assign ?_
 refine nl ?_
 refine AW.ret (endQ_ret (.cons (.tmp 2) .nil) ?_)
 exact ⟨(i, nxH h, _), and255_le _, ⟨fun n => n, rfl, fun _ _ => rfl, List.nodup_nil, (by simp), (by simp)⟩, rootL_mem rfl, alM rfl⟩
set_option maxHeartbeats 8000000 in
set_option maxRecDepth 10000 in
theorem l1Below_con (code : List UInt8) (i : Nat) (h n : Int) : Con Try.prog 67 [.p base [] 3 0 0, .v (iv n)] [.rt base .box (.s 3 1 (curF (i : Nat) h)), .al base 0 (.h (base + 1) []), .rt (base + 1) .ro (tr code)] (RetD 3 (fun m : Nat × Int × Int => 0 ≤ m.2.2 ∧ (0 < n → m.2.2 < n)) (fun m => .v (iv m.2.2)) (fun _ => []) (fun m => curF m.1 m.2.1)) := by
 refine Con.of_body Try.func67 rfl (by simp) ?_
 rw [Try.ntmps67]
 refine AW.seq (AW.region ?_)
 refine qq Qt.assign ?_
 refine nl ?_
 refine AW.seq (AW.seq (AW.region ?_))
 refine qq Qt.move ?_
 refine qq (Qt.binOp rfl rfl rfl) ?_
 refine nl ?_
 refine AW.cond rfl (fun c1 => ?_) (fun c1 => ?_)
 ·have k1 := c1
  try simp only [cnd] at c1
  refine AW.seq (AW.region ?_)
  refine qq Qt.assign ?_
  refine nl ?_
  refine AW.ret (endQ_ret (.cons (.tmp 4) .nil) ?_)
  exact ⟨(i, h, 0), ⟨Int.le_refl _, fun hn => absurd hn (by omega)⟩, ⟨fun n => n, rfl, fun _ _ => rfl, List.nodup_nil, (by simp), (by simp)⟩, rootL_mem rfl, alM rfl⟩
 have k1 := c1
 try simp only [cnd] at c1
 refine jd (AW.seq (AW.seq (AW.region ?_)))
 refine qq Qt.move ?_
 refine nm ?_
 refine qq (Qt.binOp rfl rfl rfl) ?_
 refine nl ?_
 refine AW.cond rfl (fun c2 => ?_) (fun c2 => ?_)
 ·have k2 := c2
  try simp only [cnd] at c2
  refine AW.seq (AW.region ?_)
  refine qq Qt.move ?_
  refine spK (StpK.callD rfl (by decide) Try.call90 rfl rfl rfl rfl rfl rfl rfl (cur_leaf _ _) (l1Byte_con code _ _) (fun _ => nodup_of rfl) (fun _ => rfl) (fun _ => rfl)) ?_
  rintro _ ⟨d4_1, hd4_1, rfl⟩
  try dsimp only at hd4_1
  refine nm ?_
  refine qq Qt.move ?_
  refine qq (Qt.binOp rfl rfl (by first | exact pbRem4 _ | rfl | exact pbRemI (by omega))) ?_
  refine qq Qt.assign ?_
  refine nl ?_
  refine AW.ret (endQ_ret (.cons (.tmp 4) .nil) ?_)
  exact ⟨(d4_1.1, d4_1.2.1, _), ⟨(tmod_bd hd4_1.1 (by omega)).1, fun hn => (tmod_bd hd4_1.1 hn).2⟩, ⟨fun n => n, rfl, fun _ _ => rfl, List.nodup_nil, (by simp), (by simp)⟩, rootL_mem rfl, alM rfl⟩
 have k2 := c2
 try simp only [cnd] at c2
 refine jd (AW.seq (AW.region ?_))
 refine qq Qt.move ?_
 refine nm ?_
 refine spK (StpK.callD rfl (by decide) Try.call90 rfl rfl rfl rfl rfl rfl rfl (cur_leaf _ _) (l1Byte_con code _ _) (fun _ => nodup_of rfl) (fun _ => rfl) (fun _ => rfl)) ?_
 rintro _ ⟨d5_1, hd5_1, rfl⟩
 try dsimp only at hd5_1
 refine nm ?_
 refine qq Qt.assign ?_
 refine nl ?_
 refine AW.seq (AW.region ?_)
 refine qq Qt.move ?_
 refine spK (StpK.callD rfl (by decide) Try.call90 rfl rfl rfl rfl rfl rfl rfl (cur_leaf _ _) (l1Byte_con code _ _) (fun _ => nodup_of rfl) (fun _ => rfl) (fun _ => rfl)) ?_
 rintro _ ⟨d6_1, hd6_1, rfl⟩
 try dsimp only at hd6_1
 refine nm ?_
 refine qq Qt.assign ?_
 refine nl ?_
 refine AW.seq (AW.region ?_)
 refine qq Qt.move ?_
 refine spK (StpK.callD rfl (by decide) Try.call90 rfl rfl rfl rfl rfl rfl rfl (cur_leaf _ _) (l1Byte_con code _ _) (fun _ => nodup_of rfl) (fun _ => rfl) (fun _ => rfl)) ?_
 rintro _ ⟨d7_1, hd7_1, rfl⟩
 try dsimp only at hd7_1
 refine nm ?_
 refine qq Qt.assign ?_
 refine nl ?_
 refine AW.seq (AW.region ?_)
 refine qq Qt.move ?_
 refine spK (StpK.callD rfl (by decide) Try.call90 rfl rfl rfl rfl rfl rfl rfl (cur_leaf _ _) (l1Byte_con code _ _) (fun _ => nodup_of rfl) (fun _ => rfl) (fun _ => rfl)) ?_
 rintro _ ⟨d8_1, hd8_1, rfl⟩
 try dsimp only at hd8_1
 refine nm ?_
 refine qq Qt.assign ?_
 refine nl ?_
 refine AW.seq (AW.region ?_)
 refine qq Qt.move ?_
 refine qq (Qt.binOp rfl rfl (by first | exact pbMul (by omega) | rfl)) ?_
 refine nm ?_
 refine qq Qt.move ?_
 refine qq (Qt.binOp rfl rfl (by first | exact pbMul (by omega) | rfl)) ?_
 refine qq (Qt.binOp rfl rfl (by first | exact pbAdd (by omega) | rfl)) ?_
 refine nm ?_
 refine qq Qt.move ?_
 refine qq (Qt.binOp rfl rfl (by first | exact pbMul (by omega) | rfl)) ?_
 refine qq (Qt.binOp rfl rfl (by first | exact pbAdd (by omega) | rfl)) ?_
 refine nm ?_
 refine qq Qt.move ?_
 refine qq (Qt.binOp rfl rfl (by first | exact pbAdd (by omega) | rfl)) ?_
 refine qq Qt.move ?_
 refine nm ?_
 refine qq (Qt.binOp rfl rfl (by first | exact pbRem4 _ | rfl | exact pbRemI (by omega))) ?_
 refine qq Qt.assign ?_
 refine nl ?_
 refine AW.ret (endQ_ret (.cons (.tmp 4) .nil) ?_)
 have hsum : 0 ≤ d5_1.2.2 * 16777216 + d6_1.2.2 * 65536 + d7_1.2.2 * 256 + d8_1.2.2 := by omega
 exact ⟨(d8_1.1, d8_1.2.1, _), ⟨(tmod_bd hsum (by omega)).1, fun hn => (tmod_bd hsum hn).2⟩, ⟨fun n => n, rfl, fun _ _ => rfl, List.nodup_nil, (by simp), (by simp)⟩, rootL_mem rfl, alM rfl⟩
set_option maxHeartbeats 8000000 in
set_option maxRecDepth 10000 in
theorem l1Once_con (code : List UInt8) (i : Nat) (h n : Int) : Con Try.prog 68 [.p base [] 3 0 0, .v (iv n)] [.rt base .box (.s 3 1 (curF (i : Nat) h)), .al base 0 (.h (base + 1) []), .rt (base + 1) .ro (tr code)] (RetD 3 (fun _ : Nat × Int × Bool => True) (fun m => .v (.bool m.2.2)) (fun _ => []) (fun m => curF m.1 m.2.1)) := by
 refine Con.of_body Try.func68 rfl (by simp) ?_
 rw [Try.ntmps68]
 refine AW.seq (AW.region ?_)
 refine qq Qt.assign ?_
 refine nl ?_
 refine AW.seq (AW.region ?_)
 refine qq Qt.move ?_
 refine qq Qt.move ?_
 refine nm ?_
 refine spK (StpK.callD rfl (by decide) Try.call67 rfl rfl rfl rfl rfl rfl rfl (cur_leaf _ _) (l1Below_con code _ _ _) (fun _ => nodup_of rfl) (fun _ => rfl) (fun _ => rfl)) ?_
 rintro _ ⟨d1_2, hd1_2, rfl⟩
 try dsimp only at hd1_2
 refine nm ?_
 refine qq (Qt.binOp rfl rfl rfl) ?_
 refine qq Qt.assign ?_
 refine nl ?_
 refine AW.ret (endQ_ret (.cons (.tmp 4) .nil) ?_)
 exact ⟨(d1_2.1, d1_2.2.1, _), trivial, ⟨fun n => n, rfl, fun _ _ => rfl, List.nodup_nil, (by simp), (by simp)⟩, rootL_mem rfl, alM rfl⟩
structure HInv (n : Nat) where
 k : Nat
 le : k ≤ n
 v : Int
set_option maxHeartbeats 8000000 in
set_option maxRecDepth 10000 in
theorem l1New_con (code : List UInt8) (hw : code.length ≤ 1048576) : Con Try.prog 23 [.h base []] [.rt base .ro (tr code)] (RetC true (fun _ : Int => True) (fun _ => .p 0 [] 3 0 0) (fun m => [(0, .box, .s 3 1 (curF (0 : Nat) m))])) := by
 refine Con.of_body Try.func23 rfl (by simp) ?_
 rw [Try.ntmps23]
 refine AW.len (base) [] rfl (by simp [Okp]) rfl (fun hl => ?_)
 refine AW.seq (AW.region ?_)
 refine qq Qt.assign ?_
 refine nl ?_
 refine AW.seq (AW.region ?_)
 refine qq Qt.move ?_
 refine qq (Qt.lenH rfl rfl rfl sl22) ?_
 refine nm ?_
 refine qq (Qt.binOp rfl rfl (by first | exact pbAdd (by omega) | rfl)) ?_
 refine qq Qt.assign ?_
 refine nl ?_
 refine AW.seq (AW.seq (AW.region ?_))
 refine qq Qt.assign ?_
 refine nl ?_
 refine AW.block ?_
 refine AW.loopW (fun i : HInv code.length => [.sl 4 (.v (iv i.k)), .sl 3 (.v (iv i.v)), .sl 0 (.h base []), .rt base .ro (tr code)]) (fun i => code.length - i.k) ⟨0, Nat.zero_le _, _⟩ (Weak.sim ⟨rfl, rfl, rfl, Rf rfl, trivial⟩ rfl rfl) ?_
 intro i
 have hle := i.le
 refine AW.seq (AW.seq (AW.region ?_))
 refine qq Qt.move ?_
 refine nm ?_
 refine qq Qt.move ?_
 refine qq (Qt.lenH rfl rfl rfl sl22) ?_
 refine qq (Qt.binOp rfl rfl rfl) ?_
 refine nm ?_
 refine qq Qt.move ?_
 apply AWL.cut 2
 ·intro Kg1
  refine AWL.split 12 rfl (fun g1 => ?_) (fun g1 => ?_)
  ·refine qg g1 Qt.move ?_
   refine qg g1 (Qt.binOp rfl rfl rfl) ?_
   refine nm ?_
   exact wj 14 [13, 14] (ifT g1 _ undef) (by simp only [go_sem, Int.reduceToNat, Nat.reduceLT, reduceIte, Nat.reduceEqDiff, Nat.reduceAdd, Nat.reduceMul, Nat.reduceBEq, reduceCtorEq]; rfl) Kg1
  ·refine og g1 ?_
   refine og g1 ?_
   exact wj 14 [13, 14] (ifF g1 undef _) (by simp only [go_sem, Int.reduceToNat, Nat.reduceLT, reduceIte, Nat.reduceEqDiff, Nat.reduceAdd, Nat.reduceMul, Nat.reduceBEq, reduceCtorEq]) Kg1
 refine qq (Qt.pickAnd rfl rfl rfl) ?_
 refine nl ?_
 refine AW.cond rfl (fun c2 => ?_) (fun c2 => ?_)
 ·have k2 := c2
  try simp only [cnd] at c2
  refine jd (AW.seq (AW.block (AW.region ?_)))
  refine qq Qt.move ?_
  refine qq (Qt.binOp rfl rfl (by first | exact pbMul (by omega) | rfl)) ?_
  refine nm ?_
  refine qq Qt.move ?_
  refine qq Qt.move ?_
  refine qq (Qt.indexAddr rfl rfl rfl rfl sl22 sz5 (by decide) (by first | omega | grind only)) ?_
  refine nm ?_
  refine qq (Qt.load1 rfl rfl rfl ag5) ?_
  refine qq (Qt.convI rfl rfl Try.underlying3) ?_
  refine qq (Qt.binOp rfl rfl (by first | exact pbAdd (by omega) | rfl)) ?_
  refine nm ?_
  refine qq (Qt.binOp rfl rfl (by first | exact pbAdd (by omega) | rfl)) ?_
  refine qq (Qt.binOp rfl rfl rfl) ?_
  refine qq Qt.assign ?_
  refine nl ?_
  refine AW.region ?_
  refine qq Qt.move ?_
  refine nm ?_
  refine qq (Qt.binOp rfl rfl (by first | exact pbAdd (by omega) | rfl)) ?_
  refine qq Qt.assign ?_
  refine nl ?_
  refine ⟨⟨i.k + 1, by grind only, _⟩, Weak.sim ⟨rfl, rfl, rfl, Rf rfl, trivial⟩ rfl rfl, ?_⟩
  show code.length - (i.k + 1) < code.length - i.k
  grind only
 have k2 := c2
 try simp only [cnd] at c2
 refine AW.exit ?_
 dsimp only [thenQ, blockQ, reduceIte]
 refine AW.seq (AW.region ?_)
 refine qq Qt.move ?_
 refine nm ?_
 refine qq Qt.move ?_
 refine qq (Qt.build rfl) ?_
 refine sp (Stp.boxB rfl (by decide) (by decide) rfl rfl rfl rfl) ?_
 refine nm ?_
 refine qq Qt.assign ?_
 refine nl ?_
 refine AW.rep 31 (.s 3 1 (curF (0 : Nat) i.v)) rfl (cur_sim rfl rfl rfl) ?_
 refine AW.ret (endQ_ret (.cons (.tmp 2) .nil) ?_)
 exact ⟨i.v, trivial, fun _ => 31, rfl, nodup_of rfl, (fun r hr => by cases List.mem_singleton.1 hr; exact ⟨by simp, rootL_mem rfl, by show (31 : Nat) < 100000; decide⟩), fun _ => alM rfl⟩
end Go.Proofs.Ytfbefcmeghpalaa.VM
