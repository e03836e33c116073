/- Contracts of functions of the program. No conditions beyond those that each states. -/
import Derived.Test.YtimmbmphfgnelaaGreatCZO
set_option linter.all false
namespace Go.Proofs.YtimmbmphfgnelaaGreat.VM
open Go Go.RowKit Go.Proofs
set_option maxHeartbeats 8000000 in
set_option maxRecDepth 10000 in
theorem vars_con (l : List Int) (hln : l.length ≤ 1000) : Con Tryz.prog 79 [.h base []] [.rt base .ro (tr l)] (fun y _ => y = .v (.string (varsS l))) := by
 refine Con.of_body Tryz.func79 rfl (by simp) ?_
 rw [Tryz.ntmps79]
 refine AW.len (base) [] rfl (by simp [Okp]) rfl (fun hl => ?_)
 refine AW.seq (AW.region ?_)
 refine qq Qt.assign ?_
 refine nl ?_
 refine AW.seq (AW.region ?_)
 refine qq Qt.assign ?_
 refine nl ?_
 refine AW.seq (AW.seq (AW.region ?_))
 refine qq Qt.move ?_
 refine nm ?_
 refine qq (Qt.lenH rfl rfl rfl sl27) ?_
 refine qq Qt.move ?_
 refine nl ?_
 refine AW.block ?_
 refine AW.weak (L' := [.sl 8 (.v (iv (0 : Nat))), .sl 3 (.v (.string (catN (varS) En.dflt l (0 : Nat)))), .sl 6 (.h base []), .sl 7 (.v (iv l.length)), .rt base .ro (tr l)]) (Weak.sim ⟨rfl, (by simp only [slotL, reduceIte, Nat.reduceEqDiff]; congr 2 <;> (first | rfl | simp [catN])), rfl, rfl, Rf rfl, trivial⟩ rfl rfl) ?_
 refine AW.loop (fun i : KInv l.length => [.sl 8 (.v (iv i.k)), .sl 3 (.v (.string (catN (varS) En.dflt l i.k))), .sl 6 (.h base []), .sl 7 (.v (iv l.length)), .rt base .ro (tr l)]) (fun i => l.length - i.k) ⟨0, Nat.zero_le _⟩ ?_
 intro i
 have hle := i.le
 have hs := catN_size (f := varS) (d := En.dflt) (l := l) (m := 7) (fun n => varS_size _) i.k
 have hv0 := varS_size l.length
 refine AW.seq (AW.region ?_)
 refine qq (Qt.binOp rfl rfl rfl) ?_
 refine nl ?_
 refine AW.seq ?_
 refine AW.cond rfl (fun c1 => ?_) (fun c1 => ?_)
 ·have k1 := c1
  try simp only [cnd] at c1
  have hv1 := varS_size ((l.getD i.k En.dflt))
  refine jd (AW.seq (AW.block (AW.seq (AW.region ?_))))
  refine qq (Qt.indexAddr rfl rfl rfl rfl sl27 sz3 (by decide) (by first | omega | grind only)) ?_
  refine nm ?_
  refine qq (Qt.load1 rfl rfl rfl ag3) ?_
  refine qq Qt.assign ?_
  refine nl ?_
  refine AW.region ?_
  refine qq Qt.move ?_
  refine nm ?_
  refine qq Qt.move ?_
  refine cv Tryz.call81 rfl rfl (VarI_con _) ?_
  refine nm ?_
  refine qq (Qt.binOp rfl rfl (pbCat (by first | omega | (simp only [ByteArray.size_append]; omega)))) ?_
  refine qq Qt.assign ?_
  refine nl ?_
  refine AW.region ?_
  refine qq (Qt.binOp rfl rfl (by first | exact pbAdd (by omega) | rfl)) ?_
  refine nm ?_
  refine qq Qt.move ?_
  refine nl ?_
  refine ⟨⟨i.k + 1, by omega⟩, Weak.sim ⟨st1, by simp only [slotL, reduceIte, Nat.reduceEqDiff]; congr 2 <;> (simp only [catN_succ, ByteArray.append_assoc]), rfl, rfl, Rf rfl, trivial⟩ rfl rfl, ?_⟩
  show l.length - (i.k + 1) < l.length - i.k
  omega
 have k1 := c1
 try simp only [cnd] at c1
 refine AW.exit ?_
 dsimp only [thenQ, blockQ, reduceIte]
 refine AW.seq (AW.region ?_)
 refine qq Qt.move ?_
 refine qq Qt.assign ?_
 refine nl ?_
 refine AW.ret (endQ_ret (.cons (.tmp 2) .nil) ?_)
 rw [show varsS l = catN (varS) En.dflt l i.k from by rw [show i.k = l.length by omega]; rfl]
 rfl
set_option maxHeartbeats 8000000 in
set_option maxRecDepth 10000 in
theorem wordList_con (l : List Int) (hw : ∀ i, i < l.length → -1000000 ≤ l.getD i En.dflt ∧ l.getD i En.dflt ≤ 1000000) (hln : l.length ≤ 1000) : Con Tryz.prog 82 [.h base []] [.rt base .ro (tr l)] (fun y _ => y = .v (.string (wordsS l))) := by
 refine Con.of_body Tryz.func82 rfl (by simp) ?_
 rw [Tryz.ntmps82]
 refine AW.len (base) [] rfl (by simp [Okp]) rfl (fun hl => ?_)
 refine AW.seq (AW.region ?_)
 refine qq Qt.assign ?_
 refine nl ?_
 refine AW.seq (AW.region ?_)
 refine qq Qt.move ?_
 refine qq (Qt.lenH rfl rfl rfl sl27) ?_
 refine nm ?_
 refine cv Tryz.call81 rfl rfl (VarI_con _) ?_
 refine nm ?_
 refine qq Qt.assign ?_
 refine nl ?_
 refine AW.seq (AW.seq (AW.region ?_))
 refine qq Qt.move ?_
 refine qq (Qt.lenH rfl rfl rfl sl27) ?_
 refine nm ?_
 refine qq Qt.move ?_
 refine nl ?_
 refine AW.block ?_
 refine AW.weak (L' := [.sl 11 (.v (iv (0 : Nat))), .sl 3 (.v (.string (varS l.length ++ catN (fun n => varS (zig n)) En.dflt l (0 : Nat)))), .sl 9 (.h base []), .sl 10 (.v (iv l.length)), .rt base .ro (tr l)]) (Weak.sim ⟨rfl, (by simp only [slotL, reduceIte, Nat.reduceEqDiff]; congr 2 <;> (first | rfl | simp [catN])), rfl, rfl, Rf rfl, trivial⟩ rfl rfl) ?_
 refine AW.loop (fun i : KInv l.length => [.sl 11 (.v (iv i.k)), .sl 3 (.v (.string (varS l.length ++ catN (fun n => varS (zig n)) En.dflt l i.k))), .sl 9 (.h base []), .sl 10 (.v (iv l.length)), .rt base .ro (tr l)]) (fun i => l.length - i.k) ⟨0, Nat.zero_le _⟩ ?_
 intro i
 have hle := i.le
 have hs := catN_size (f := fun n => varS (zig n)) (d := En.dflt) (l := l) (m := 7) (fun n => varS_size _) i.k
 have hv0 := varS_size l.length
 refine AW.seq (AW.region ?_)
 refine qq (Qt.binOp rfl rfl rfl) ?_
 refine nl ?_
 refine AW.seq ?_
 refine AW.cond rfl (fun c1 => ?_) (fun c1 => ?_)
 ·have k1 := c1
  try simp only [cnd] at c1
  have hwi := hw i.k (by omega)
  have hv1 := varS_size (zig (l.getD i.k En.dflt))
  refine jd (AW.seq (AW.block (AW.seq (AW.region ?_))))
  refine qq (Qt.indexAddr rfl rfl rfl rfl sl27 sz3 (by decide) (by first | omega | grind only)) ?_
  refine nm ?_
  refine qq (Qt.load1 rfl rfl rfl ag3) ?_
  refine qq Qt.assign ?_
  refine nl ?_
  refine AW.region ?_
  refine qq Qt.move ?_
  refine nm ?_
  refine qq Qt.move ?_
  refine cv Tryz.call209 rfl rfl (wordVar_con _ (by omega) (by omega)) ?_
  refine nm ?_
  refine qq (Qt.binOp rfl rfl (pbCat (by first | omega | (simp only [ByteArray.size_append]; omega)))) ?_
  refine qq Qt.assign ?_
  refine nl ?_
  refine AW.region ?_
  refine qq (Qt.binOp rfl rfl (by first | exact pbAdd (by omega) | rfl)) ?_
  refine nm ?_
  refine qq Qt.move ?_
  refine nl ?_
  refine ⟨⟨i.k + 1, by omega⟩, Weak.sim ⟨st1, by simp only [slotL, reduceIte, Nat.reduceEqDiff]; congr 2 <;> (simp only [catN_succ, ByteArray.append_assoc]), rfl, rfl, Rf rfl, trivial⟩ rfl rfl, ?_⟩
  show l.length - (i.k + 1) < l.length - i.k
  omega
 have k1 := c1
 try simp only [cnd] at c1
 refine AW.exit ?_
 dsimp only [thenQ, blockQ, reduceIte]
 refine AW.seq (AW.region ?_)
 refine qq Qt.move ?_
 refine qq Qt.assign ?_
 refine nl ?_
 refine AW.ret (endQ_ret (.cons (.tmp 2) .nil) ?_)
 rw [show wordsS l = varS l.length ++ catN (fun n => varS (zig n)) En.dflt l i.k from by rw [show i.k = l.length by omega]; rfl]
 rfl
set_option maxHeartbeats 8000000 in
set_option maxRecDepth 10000 in
theorem l20Words_con (l : List Int) (hw : ∀ i, i < l.length → -1000000 ≤ l.getD i En.dflt ∧ l.getD i En.dflt ≤ 1000000) (hln : l.length ≤ 1000) : Con Tryz.prog 208 [.h base []] [.rt base .ro (tr l)] (fun y _ => y = .v (.string (wordsS l))) := by
 refine Con.of_body Tryz.func208 rfl (by simp) ?_
 rw [Tryz.ntmps208]
 refine AW.len (base) [] rfl (by simp [Okp]) rfl (fun hl => ?_)
 refine AW.seq (AW.region ?_)
 refine qq Qt.assign ?_
 refine nl ?_
 refine AW.seq (AW.region ?_)
 refine qq Qt.move ?_
 refine qq (Qt.lenH rfl rfl rfl sl27) ?_
 refine nm ?_
 refine cv Tryz.call205 rfl rfl (VarS_con _) ?_
 refine nm ?_
 refine qq Qt.assign ?_
 refine nl ?_
 refine AW.seq (AW.seq (AW.region ?_))
 refine qq Qt.assign ?_
 refine nl ?_
 refine AW.block ?_
 refine AW.weak (L' := [.sl 4 (.v (iv (0 : Nat))), .sl 3 (.v (.string (varS l.length ++ catN (fun n => varS (zig n)) En.dflt l (0 : Nat)))), .sl 0 (.h base []), .rt base .ro (tr l)]) (Weak.sim ⟨rfl, (by simp only [slotL, reduceIte, Nat.reduceEqDiff]; congr 2 <;> (first | rfl | simp [catN])), rfl, Rf rfl, trivial⟩ rfl rfl) ?_
 refine AW.loop (fun i : KInv l.length => [.sl 4 (.v (iv i.k)), .sl 3 (.v (.string (varS l.length ++ catN (fun n => varS (zig n)) En.dflt l i.k))), .sl 0 (.h base []), .rt base .ro (tr l)]) (fun i => l.length - i.k) ⟨0, Nat.zero_le _⟩ ?_
 intro i
 have hle := i.le
 have hs := catN_size (f := fun n => varS (zig n)) (d := En.dflt) (l := l) (m := 7) (fun n => varS_size _) i.k
 have hv0 := varS_size l.length
 refine AW.seq (AW.seq (AW.region ?_))
 refine qq Qt.move ?_
 refine nm ?_
 refine qq Qt.move ?_
 refine qq (Qt.lenH rfl rfl rfl sl27) ?_
 refine qq (Qt.binOp rfl rfl rfl) ?_
 refine nl ?_
 refine AW.cond rfl (fun c1 => ?_) (fun c1 => ?_)
 ·have k1 := c1
  try simp only [cnd] at c1
  have hwi := hw i.k (by omega)
  have hv1 := varS_size (zig (l.getD i.k En.dflt))
  refine jd (AW.seq (AW.block (AW.region ?_)))
  refine qq Qt.move ?_
  refine nm ?_
  refine qq Qt.move ?_
  refine qq Qt.move ?_
  refine qq (Qt.indexAddr rfl rfl rfl rfl sl27 sz3 (by decide) (by first | omega | grind only)) ?_
  refine nm ?_
  refine qq (Qt.load1 rfl rfl rfl ag3) ?_
  refine cv Tryz.call295 rfl rfl (l3Zig_con _ (by omega) (by omega)) ?_
  refine nm ?_
  refine cv Tryz.call205 rfl rfl (VarS_con _) ?_
  refine nm ?_
  refine qq (Qt.binOp rfl rfl (pbCat (by first | omega | (simp only [ByteArray.size_append]; omega)))) ?_
  refine qq Qt.assign ?_
  refine nl ?_
  refine AW.region ?_
  refine qq Qt.move ?_
  refine nm ?_
  refine qq (Qt.binOp rfl rfl (by first | exact pbAdd (by omega) | rfl)) ?_
  refine qq Qt.assign ?_
  refine nl ?_
  refine ⟨⟨i.k + 1, by omega⟩, Weak.sim ⟨st1, by simp only [slotL, reduceIte, Nat.reduceEqDiff]; congr 2 <;> (simp only [catN_succ, ByteArray.append_assoc]), rfl, Rf rfl, trivial⟩ rfl rfl, ?_⟩
  show l.length - (i.k + 1) < l.length - i.k
  omega
 have k1 := c1
 try simp only [cnd] at c1
 refine AW.exit ?_
 dsimp only [thenQ, blockQ, reduceIte]
 refine AW.seq (AW.region ?_)
 refine qq Qt.move ?_
 refine nm ?_
 refine qq Qt.assign ?_
 refine nl ?_
 refine AW.ret (endQ_ret (.cons (.tmp 2) .nil) ?_)
 rw [show wordsS l = varS l.length ++ catN (fun n => varS (zig n)) En.dflt l i.k from by rw [show i.k = l.length by omega]; rfl]
 rfl
set_option maxHeartbeats 8000000 in
set_option maxRecDepth 10000 in
theorem plainList_con (l : List Int) (m : Int) (hw : ∀ i, i < l.length → -1000000000 ≤ l.getD i En.dflt ∧ l.getD i En.dflt ≤ 1000000000) (hln : l.length ≤ 1000) (hm : 0 ≤ m) (hm2 : m ≤ 10) : Con Tryz.prog 83 [.h base [], .v (iv m)] [.rt base .ro (tr l)] (fun y _ => y = .v (.string (plusS m l))) := by
 refine Con.of_body Tryz.func83 rfl (by simp) ?_
 rw [Tryz.ntmps83]
 refine AW.len (base) [] rfl (by simp [Okp]) rfl (fun hl => ?_)
 refine AW.seq (AW.region ?_)
 refine qq Qt.assign ?_
 refine nl ?_
 refine AW.seq (AW.region ?_)
 refine qq Qt.move ?_
 refine qq (Qt.lenH rfl rfl rfl sl27) ?_
 refine nm ?_
 refine cv Tryz.call81 rfl rfl (VarI_con _) ?_
 refine nm ?_
 refine qq Qt.assign ?_
 refine nl ?_
 refine AW.seq (AW.seq (AW.region ?_))
 refine qq Qt.move ?_
 refine qq (Qt.lenH rfl rfl rfl sl27) ?_
 refine nm ?_
 refine qq Qt.move ?_
 refine nl ?_
 refine AW.block ?_
 refine AW.weak (L' := [.sl 13 (.v (iv (0 : Nat))), .sl 5 (.v (.string (varS l.length ++ catN (fun n => varS (n + m)) En.dflt l (0 : Nat)))), .sl 1 (.v (iv m)), .sl 11 (.h base []), .sl 12 (.v (iv l.length)), .rt base .ro (tr l)]) (Weak.sim ⟨rfl, (by simp only [slotL, reduceIte, Nat.reduceEqDiff]; congr 2 <;> (first | rfl | simp [catN])), rfl, rfl, rfl, Rf rfl, trivial⟩ rfl rfl) ?_
 refine AW.loop (fun i : KInv l.length => [.sl 13 (.v (iv i.k)), .sl 5 (.v (.string (varS l.length ++ catN (fun n => varS (n + m)) En.dflt l i.k))), .sl 1 (.v (iv m)), .sl 11 (.h base []), .sl 12 (.v (iv l.length)), .rt base .ro (tr l)]) (fun i => l.length - i.k) ⟨0, Nat.zero_le _⟩ ?_
 intro i
 have hle := i.le
 have hs := catN_size (f := fun n => varS (n + m)) (d := En.dflt) (l := l) (m := 7) (fun n => varS_size _) i.k
 have hv0 := varS_size l.length
 refine AW.seq (AW.region ?_)
 refine qq (Qt.binOp rfl rfl rfl) ?_
 refine nl ?_
 refine AW.seq ?_
 refine AW.cond rfl (fun c1 => ?_) (fun c1 => ?_)
 ·have k1 := c1
  try simp only [cnd] at c1
  have hwi := hw i.k (by omega)
  have hv1 := varS_size ((l.getD i.k En.dflt) + m)
  refine jd (AW.seq (AW.block (AW.seq (AW.region ?_))))
  refine qq (Qt.indexAddr rfl rfl rfl rfl sl27 sz3 (by decide) (by first | omega | grind only)) ?_
  refine nm ?_
  refine qq (Qt.load1 rfl rfl rfl ag3) ?_
  refine qq Qt.assign ?_
  refine nl ?_
  refine AW.region ?_
  refine qq Qt.move ?_
  refine nm ?_
  refine qq Qt.move ?_
  refine qq Qt.move ?_
  refine qq (Qt.binOp rfl rfl (by first | exact pbAdd (by omega) | rfl)) ?_
  refine nm ?_
  refine cv Tryz.call81 rfl rfl (VarI_con _) ?_
  refine nm ?_
  refine qq (Qt.binOp rfl rfl (pbCat (by first | omega | (simp only [ByteArray.size_append]; omega)))) ?_
  refine qq Qt.assign ?_
  refine nl ?_
  refine AW.region ?_
  refine qq (Qt.binOp rfl rfl (by first | exact pbAdd (by omega) | rfl)) ?_
  refine nm ?_
  refine qq Qt.move ?_
  refine nl ?_
  refine ⟨⟨i.k + 1, by omega⟩, Weak.sim ⟨st1, by simp only [slotL, reduceIte, Nat.reduceEqDiff]; congr 2 <;> (simp only [catN_succ, ByteArray.append_assoc]), rfl, rfl, rfl, Rf rfl, trivial⟩ rfl rfl, ?_⟩
  show l.length - (i.k + 1) < l.length - i.k
  omega
 have k1 := c1
 try simp only [cnd] at c1
 refine AW.exit ?_
 dsimp only [thenQ, blockQ, reduceIte]
 refine AW.seq (AW.region ?_)
 refine qq Qt.move ?_
 refine qq Qt.assign ?_
 refine nl ?_
 refine AW.ret (endQ_ret (.cons (.tmp 4) .nil) ?_)
 rw [show plusS m l = varS l.length ++ catN (fun n => varS (n + m)) En.dflt l i.k from by rw [show i.k = l.length by omega]; rfl]
 rfl
set_option maxHeartbeats 8000000 in
set_option maxRecDepth 10000 in
theorem l20Plus_con (l : List Int) (hw : ∀ i, i < l.length → -1000000000 ≤ l.getD i En.dflt ∧ l.getD i En.dflt ≤ 1000000000) (hln : l.length ≤ 1000) : Con Tryz.prog 296 [.h base []] [.rt base .ro (tr l)] (fun y _ => y = .v (.string (plusS 1 l))) := by
 refine Con.of_body Tryz.func296 rfl (by simp) ?_
 rw [Tryz.ntmps296]
 refine AW.len (base) [] rfl (by simp [Okp]) rfl (fun hl => ?_)
 refine AW.seq (AW.region ?_)
 refine qq Qt.assign ?_
 refine nl ?_
 refine AW.seq (AW.region ?_)
 refine qq Qt.move ?_
 refine qq (Qt.lenH rfl rfl rfl sl27) ?_
 refine nm ?_
 refine cv Tryz.call205 rfl rfl (VarS_con _) ?_
 refine nm ?_
 refine qq Qt.assign ?_
 refine nl ?_
 refine AW.seq (AW.seq (AW.region ?_))
 refine qq Qt.assign ?_
 refine nl ?_
 refine AW.block ?_
 refine AW.weak (L' := [.sl 4 (.v (iv (0 : Nat))), .sl 3 (.v (.string (varS l.length ++ catN (fun n => varS (n + 1)) En.dflt l (0 : Nat)))), .sl 0 (.h base []), .rt base .ro (tr l)]) (Weak.sim ⟨rfl, (by simp only [slotL, reduceIte, Nat.reduceEqDiff]; congr 2 <;> (first | rfl | simp [catN])), rfl, Rf rfl, trivial⟩ rfl rfl) ?_
 refine AW.loop (fun i : KInv l.length => [.sl 4 (.v (iv i.k)), .sl 3 (.v (.string (varS l.length ++ catN (fun n => varS (n + 1)) En.dflt l i.k))), .sl 0 (.h base []), .rt base .ro (tr l)]) (fun i => l.length - i.k) ⟨0, Nat.zero_le _⟩ ?_
 intro i
 have hle := i.le
 have hs := catN_size (f := fun n => varS (n + 1)) (d := En.dflt) (l := l) (m := 7) (fun n => varS_size _) i.k
 have hv0 := varS_size l.length
 refine AW.seq (AW.seq (AW.region ?_))
 refine qq Qt.move ?_
 refine nm ?_
 refine qq Qt.move ?_
 refine qq (Qt.lenH rfl rfl rfl sl27) ?_
 refine qq (Qt.binOp rfl rfl rfl) ?_
 refine nl ?_
 refine AW.cond rfl (fun c1 => ?_) (fun c1 => ?_)
 ·have k1 := c1
  try simp only [cnd] at c1
  have hwi := hw i.k (by omega)
  have hv1 := varS_size ((l.getD i.k En.dflt) + 1)
  refine jd (AW.seq (AW.block (AW.region ?_)))
  refine qq Qt.move ?_
  refine nm ?_
  refine qq Qt.move ?_
  refine qq Qt.move ?_
  refine qq (Qt.indexAddr rfl rfl rfl rfl sl27 sz3 (by decide) (by first | omega | grind only)) ?_
  refine nm ?_
  refine qq (Qt.load1 rfl rfl rfl ag3) ?_
  refine qq (Qt.binOp rfl rfl (by first | exact pbAdd (by omega) | rfl)) ?_
  refine cv Tryz.call205 rfl rfl (VarS_con _) ?_
  refine nm ?_
  refine qq (Qt.binOp rfl rfl (pbCat (by first | omega | (simp only [ByteArray.size_append]; omega)))) ?_
  refine qq Qt.assign ?_
  refine nl ?_
  refine AW.region ?_
  refine qq Qt.move ?_
  refine nm ?_
  refine qq (Qt.binOp rfl rfl (by first | exact pbAdd (by omega) | rfl)) ?_
  refine qq Qt.assign ?_
  refine nl ?_
  refine ⟨⟨i.k + 1, by omega⟩, Weak.sim ⟨st1, by simp only [slotL, reduceIte, Nat.reduceEqDiff]; congr 2 <;> (simp only [catN_succ, ByteArray.append_assoc]), rfl, Rf rfl, trivial⟩ rfl rfl, ?_⟩
  show l.length - (i.k + 1) < l.length - i.k
  omega
 have k1 := c1
 try simp only [cnd] at c1
 refine AW.exit ?_
 dsimp only [thenQ, blockQ, reduceIte]
 refine AW.seq (AW.region ?_)
 refine qq Qt.move ?_
 refine nm ?_
 refine qq Qt.assign ?_
 refine nl ?_
 refine AW.ret (endQ_ret (.cons (.tmp 2) .nil) ?_)
 rw [show plusS 1 l = varS l.length ++ catN (fun n => varS (n + 1)) En.dflt l i.k from by rw [show i.k = l.length by omega]; rfl]
 rfl
end Go.Proofs.YtimmbmphfgnelaaGreat.VM
