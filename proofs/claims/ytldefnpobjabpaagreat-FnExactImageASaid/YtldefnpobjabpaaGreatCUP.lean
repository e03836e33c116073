/- Contracts. No conditions. -/
import Derived.Test.YtldefnpobjabpaaGreatCUO
set_option linter.all false
set_option maxHeartbeats 8000000
set_option maxRecDepth 10000
namespace Go.Proofs.YtldefnpobjabpaaGreat.VM
open Go Go.RowKit Go.Proofs
theorem vars_con (l : List Int) (hln : l.length ≤ 1000) : Con Tryz.prog 232 [.h base []] [.rt base .ro (tr l)] (fun y _ => y = .v (.string (varsS l))) := by
 refine ob Tryz.func232 Tryz.ntmps232 ?_
 refine AW.len (base) [] rfl (by simp [Okp]) rfl (fun hl => ?_)
 refine go [.R,.a,.Z,.R,.a,.Z,.R2,.m,.N,.h,.m,.Z] (k := ?_)
 refine AW.block ?_
 refine AW.weak (L' := [.sl 8 (.v (iv (0 : Nat))), .sl 3 (.v (.string (catN (varS) En.dflt l (0 : Nat)))), .sl 6 (.h base []), .sl 7 (.v (iv l.length)), .rt base .ro (tr l)]) (Weak.sim ⟨rfl, (by simp only [slotL, reduceIte, Nat.reduceEqDiff]; congr 2 <;> (first | rfl | simp [catN])), rfl, rfl, Rf rfl, trivial⟩ rfl rfl) ?_
 refine AW.loop (fun i : KInv l.length => [.sl 8 (.v (iv i.k)), .sl 3 (.v (.string (catN (varS) En.dflt l i.k))), .sl 6 (.h base []), .sl 7 (.v (iv l.length)), .rt base .ro (tr l)]) (fun i => l.length - i.k) ⟨0, Nat.zero_le _⟩ ?_
 intro i
 have hle := i.le
 have hs := catN_size (f := varS) (d := En.dflt) (l := l) (m := 7) (fun n => varS_size _) i.k
 have hv0 := varS_size l.length
 refine go [.R,.b,.Z] (k := ?_)
 refine AW.seq ?_
 refine cd (fun c1 => ?_) fun c1 => ?_
 ·try simp only [cnd] at c1
  have hv1 := varS_size ((l.getD i.k En.dflt))
  refine jd (AW.seq (AW.block (sr ?_)))
  refine go [.i,.N,.l,.a,.Z,.R1,.m,.N,.m] (k := ?_)
  refine cv Tryz.call234 rfl rfl (VarI_con _) ?_
  refine go [.N] (k := ?_)
  refine qq (Qt.binOp rfl rfl pbC) ?_
  refine go [.a,.Z,.R1,.b,.N,.m,.Z] (k := ?_)
  refine ⟨⟨i.k + 1, by omega⟩, Weak.sim ⟨st1, by simp only [slotL, reduceIte, Nat.reduceEqDiff]; congr 2 <;> (simp only [catN_succ, ByteArray.append_assoc]), rfl, rfl, Rf rfl, trivial⟩ rfl rfl, ?_⟩
  show l.length - (i.k + 1) < l.length - i.k
  omega
 try simp only [cnd] at c1
 refine AW.exit ?_
 dsimp only [thenQ, blockQ, reduceIte]
 refine go [.R,.m,.a,.Z] (k := ?_)
 refine rt1 2 ?_
 rw [show varsS l = catN (varS) En.dflt l i.k from by rw [show i.k = l.length by omega]; rfl]
 rfl
theorem wordList_con (l : List Int) (hw : ∀ i, i < l.length → -1000000 ≤ l.getD i En.dflt ∧ l.getD i En.dflt ≤ 1000000) (hln : l.length ≤ 1000) : Con Tryz.prog 235 [.h base []] [.rt base .ro (tr l)] (fun y _ => y = .v (.string (wordsS l))) := by
 refine ob Tryz.func235 Tryz.ntmps235 ?_
 refine AW.len (base) [] rfl (by simp [Okp]) rfl (fun hl => ?_)
 refine go [.R,.a,.Z,.R,.m,.h,.N] (k := ?_)
 refine cv Tryz.call234 rfl rfl (VarI_con _) ?_
 refine go [.N,.a,.Z,.R2,.m,.h,.N,.m,.Z] (k := ?_)
 refine AW.block ?_
 refine AW.weak (L' := [.sl 11 (.v (iv (0 : Nat))), .sl 3 (.v (.string (varS l.length ++ catN (fun n => varS (zig n)) En.dflt l (0 : Nat)))), .sl 9 (.h base []), .sl 10 (.v (iv l.length)), .rt base .ro (tr l)]) (Weak.sim ⟨rfl, (by simp only [slotL, reduceIte, Nat.reduceEqDiff]; congr 2 <;> (first | rfl | simp [catN])), rfl, rfl, Rf rfl, trivial⟩ rfl rfl) ?_
 refine AW.loop (fun i : KInv l.length => [.sl 11 (.v (iv i.k)), .sl 3 (.v (.string (varS l.length ++ catN (fun n => varS (zig n)) En.dflt l i.k))), .sl 9 (.h base []), .sl 10 (.v (iv l.length)), .rt base .ro (tr l)]) (fun i => l.length - i.k) ⟨0, Nat.zero_le _⟩ ?_
 intro i
 have hle := i.le
 have hs := catN_size (f := fun n => varS (zig n)) (d := En.dflt) (l := l) (m := 7) (fun n => varS_size _) i.k
 have hv0 := varS_size l.length
 refine go [.R,.b,.Z] (k := ?_)
 refine AW.seq ?_
 refine cd (fun c1 => ?_) fun c1 => ?_
 ·try simp only [cnd] at c1
  have hwi := hw i.k (by omega)
  have hv1 := varS_size (zig (l.getD i.k En.dflt))
  refine jd (AW.seq (AW.block (sr ?_)))
  refine go [.i,.N,.l,.a,.Z,.R1,.m,.N,.m] (k := ?_)
  refine cv Tryz.call266 rfl rfl (wordVar_con _ (by omega) (by omega)) ?_
  refine go [.N] (k := ?_)
  refine qq (Qt.binOp rfl rfl pbC) ?_
  refine go [.a,.Z,.R1,.b,.N,.m,.Z] (k := ?_)
  refine ⟨⟨i.k + 1, by omega⟩, Weak.sim ⟨st1, by simp only [slotL, reduceIte, Nat.reduceEqDiff]; congr 2 <;> (simp only [catN_succ, ByteArray.append_assoc]), rfl, rfl, Rf rfl, trivial⟩ rfl rfl, ?_⟩
  show l.length - (i.k + 1) < l.length - i.k
  omega
 try simp only [cnd] at c1
 refine AW.exit ?_
 dsimp only [thenQ, blockQ, reduceIte]
 refine go [.R,.m,.a,.Z] (k := ?_)
 refine rt1 2 ?_
 rw [show wordsS l = varS l.length ++ catN (fun n => varS (zig n)) En.dflt l i.k from by rw [show i.k = l.length by omega]; rfl]
 rfl
theorem l20Words_con (l : List Int) (hw : ∀ i, i < l.length → -1000000 ≤ l.getD i En.dflt ∧ l.getD i En.dflt ≤ 1000000) (hln : l.length ≤ 1000) : Con Tryz.prog 231 [.h base []] [.rt base .ro (tr l)] (fun y _ => y = .v (.string (wordsS l))) := by
 refine ob Tryz.func231 Tryz.ntmps231 ?_
 refine AW.len (base) [] rfl (by simp [Okp]) rfl (fun hl => ?_)
 refine go [.R,.a,.Z,.R,.m,.h,.N] (k := ?_)
 refine cv Tryz.call228 rfl rfl (VarS_con _) ?_
 refine go [.N,.a,.Z,.R2,.a,.Z] (k := ?_)
 refine AW.block ?_
 refine AW.weak (L' := [.sl 4 (.v (iv (0 : Nat))), .sl 3 (.v (.string (varS l.length ++ catN (fun n => varS (zig n)) En.dflt l (0 : Nat)))), .sl 0 (.h base []), .rt base .ro (tr l)]) (Weak.sim ⟨rfl, (by simp only [slotL, reduceIte, Nat.reduceEqDiff]; congr 2 <;> (first | rfl | simp [catN])), rfl, Rf rfl, trivial⟩ rfl rfl) ?_
 refine AW.loop (fun i : KInv l.length => [.sl 4 (.v (iv i.k)), .sl 3 (.v (.string (varS l.length ++ catN (fun n => varS (zig n)) En.dflt l i.k))), .sl 0 (.h base []), .rt base .ro (tr l)]) (fun i => l.length - i.k) ⟨0, Nat.zero_le _⟩ ?_
 intro i
 have hle := i.le
 have hs := catN_size (f := fun n => varS (zig n)) (d := En.dflt) (l := l) (m := 7) (fun n => varS_size _) i.k
 have hv0 := varS_size l.length
 refine go [.R2,.m,.N,.m,.h,.b,.Z] (k := ?_)
 refine cd (fun c1 => ?_) fun c1 => ?_
 ·try simp only [cnd] at c1
  have hwi := hw i.k (by omega)
  have hv1 := varS_size (zig (l.getD i.k En.dflt))
  refine jd (AW.seq (AW.block (AW.region ?_)))
  refine go [.m,.N,.m,.m,.i,.N,.l] (k := ?_)
  refine cv Tryz.call264 rfl rfl (l3Zig_con _ (by omega) (by omega)) ?_
  refine go [.N] (k := ?_)
  refine cv Tryz.call228 rfl rfl (VarS_con _) ?_
  refine go [.N] (k := ?_)
  refine qq (Qt.binOp rfl rfl pbC) ?_
  refine go [.a,.Z,.R1,.m,.N,.b,.a,.Z] (k := ?_)
  refine ⟨⟨i.k + 1, by omega⟩, Weak.sim ⟨st1, by simp only [slotL, reduceIte, Nat.reduceEqDiff]; congr 2 <;> (simp only [catN_succ, ByteArray.append_assoc]), rfl, Rf rfl, trivial⟩ rfl rfl, ?_⟩
  show l.length - (i.k + 1) < l.length - i.k
  omega
 try simp only [cnd] at c1
 refine AW.exit ?_
 dsimp only [thenQ, blockQ, reduceIte]
 refine go [.R,.m,.N,.a,.Z] (k := ?_)
 refine rt1 2 ?_
 rw [show wordsS l = varS l.length ++ catN (fun n => varS (zig n)) En.dflt l i.k from by rw [show i.k = l.length by omega]; rfl]
 rfl
theorem plainList_con (l : List Int) (m : Int) (hw : ∀ i, i < l.length → -1000000000 ≤ l.getD i En.dflt ∧ l.getD i En.dflt ≤ 1000000000) (hln : l.length ≤ 1000) (hm : 0 ≤ m) (hm2 : m ≤ 10) : Con Tryz.prog 236 [.h base [], .v (iv m)] [.rt base .ro (tr l)] (fun y _ => y = .v (.string (plusS m l))) := by
 refine ob Tryz.func236 Tryz.ntmps236 ?_
 refine AW.len (base) [] rfl (by simp [Okp]) rfl (fun hl => ?_)
 refine go [.R,.a,.Z,.R,.m,.h,.N] (k := ?_)
 refine cv Tryz.call234 rfl rfl (VarI_con _) ?_
 refine go [.N,.a,.Z,.R2,.m,.h,.N,.m,.Z] (k := ?_)
 refine AW.block ?_
 refine AW.weak (L' := [.sl 13 (.v (iv (0 : Nat))), .sl 5 (.v (.string (varS l.length ++ catN (fun n => varS (n + m)) En.dflt l (0 : Nat)))), .sl 1 (.v (iv m)), .sl 11 (.h base []), .sl 12 (.v (iv l.length)), .rt base .ro (tr l)]) (Weak.sim ⟨rfl, (by simp only [slotL, reduceIte, Nat.reduceEqDiff]; congr 2 <;> (first | rfl | simp [catN])), rfl, rfl, rfl, Rf rfl, trivial⟩ rfl rfl) ?_
 refine AW.loop (fun i : KInv l.length => [.sl 13 (.v (iv i.k)), .sl 5 (.v (.string (varS l.length ++ catN (fun n => varS (n + m)) En.dflt l i.k))), .sl 1 (.v (iv m)), .sl 11 (.h base []), .sl 12 (.v (iv l.length)), .rt base .ro (tr l)]) (fun i => l.length - i.k) ⟨0, Nat.zero_le _⟩ ?_
 intro i
 have hle := i.le
 have hs := catN_size (f := fun n => varS (n + m)) (d := En.dflt) (l := l) (m := 7) (fun n => varS_size _) i.k
 have hv0 := varS_size l.length
 refine go [.R,.b,.Z] (k := ?_)
 refine AW.seq ?_
 refine cd (fun c1 => ?_) fun c1 => ?_
 ·try simp only [cnd] at c1
  have hwi := hw i.k (by omega)
  have hv1 := varS_size ((l.getD i.k En.dflt) + m)
  refine jd (AW.seq (AW.block (sr ?_)))
  refine go [.i,.N,.l,.a,.Z,.R1,.m,.N,.m,.m,.b,.N] (k := ?_)
  refine cv Tryz.call234 rfl rfl (VarI_con _) ?_
  refine go [.N] (k := ?_)
  refine qq (Qt.binOp rfl rfl pbC) ?_
  refine go [.a,.Z,.R1,.b,.N,.m,.Z] (k := ?_)
  refine ⟨⟨i.k + 1, by omega⟩, Weak.sim ⟨st1, by simp only [slotL, reduceIte, Nat.reduceEqDiff]; congr 2 <;> (simp only [catN_succ, ByteArray.append_assoc]), rfl, rfl, rfl, Rf rfl, trivial⟩ rfl rfl, ?_⟩
  show l.length - (i.k + 1) < l.length - i.k
  omega
 try simp only [cnd] at c1
 refine AW.exit ?_
 dsimp only [thenQ, blockQ, reduceIte]
 refine go [.R,.m,.a,.Z] (k := ?_)
 refine rt1 4 ?_
 rw [show plusS m l = varS l.length ++ catN (fun n => varS (n + m)) En.dflt l i.k from by rw [show i.k = l.length by omega]; rfl]
 rfl
theorem l20Plus_con (l : List Int) (hw : ∀ i, i < l.length → -1000000000 ≤ l.getD i En.dflt ∧ l.getD i En.dflt ≤ 1000000000) (hln : l.length ≤ 1000) : Con Tryz.prog 265 [.h base []] [.rt base .ro (tr l)] (fun y _ => y = .v (.string (plusS 1 l))) := by
 refine ob Tryz.func265 Tryz.ntmps265 ?_
 refine AW.len (base) [] rfl (by simp [Okp]) rfl (fun hl => ?_)
 refine go [.R,.a,.Z,.R,.m,.h,.N] (k := ?_)
 refine cv Tryz.call228 rfl rfl (VarS_con _) ?_
 refine go [.N,.a,.Z,.R2,.a,.Z] (k := ?_)
 refine AW.block ?_
 refine AW.weak (L' := [.sl 4 (.v (iv (0 : Nat))), .sl 3 (.v (.string (varS l.length ++ catN (fun n => varS (n + 1)) En.dflt l (0 : Nat)))), .sl 0 (.h base []), .rt base .ro (tr l)]) (Weak.sim ⟨rfl, (by simp only [slotL, reduceIte, Nat.reduceEqDiff]; congr 2 <;> (first | rfl | simp [catN])), rfl, Rf rfl, trivial⟩ rfl rfl) ?_
 refine AW.loop (fun i : KInv l.length => [.sl 4 (.v (iv i.k)), .sl 3 (.v (.string (varS l.length ++ catN (fun n => varS (n + 1)) En.dflt l i.k))), .sl 0 (.h base []), .rt base .ro (tr l)]) (fun i => l.length - i.k) ⟨0, Nat.zero_le _⟩ ?_
 intro i
 have hle := i.le
 have hs := catN_size (f := fun n => varS (n + 1)) (d := En.dflt) (l := l) (m := 7) (fun n => varS_size _) i.k
 have hv0 := varS_size l.length
 refine go [.R2,.m,.N,.m,.h,.b,.Z] (k := ?_)
 refine cd (fun c1 => ?_) fun c1 => ?_
 ·try simp only [cnd] at c1
  have hwi := hw i.k (by omega)
  have hv1 := varS_size ((l.getD i.k En.dflt) + 1)
  refine jd (AW.seq (AW.block (AW.region ?_)))
  refine go [.m,.N,.m,.m,.i,.N,.l,.b] (k := ?_)
  refine cv Tryz.call228 rfl rfl (VarS_con _) ?_
  refine go [.N] (k := ?_)
  refine qq (Qt.binOp rfl rfl pbC) ?_
  refine go [.a,.Z,.R1,.m,.N,.b,.a,.Z] (k := ?_)
  refine ⟨⟨i.k + 1, by omega⟩, Weak.sim ⟨st1, by simp only [slotL, reduceIte, Nat.reduceEqDiff]; congr 2 <;> (simp only [catN_succ, ByteArray.append_assoc]), rfl, Rf rfl, trivial⟩ rfl rfl, ?_⟩
  show l.length - (i.k + 1) < l.length - i.k
  omega
 try simp only [cnd] at c1
 refine AW.exit ?_
 dsimp only [thenQ, blockQ, reduceIte]
 refine go [.R,.m,.N,.a,.Z] (k := ?_)
 refine rt1 2 ?_
 rw [show plusS 1 l = varS l.length ++ catN (fun n => varS (n + 1)) En.dflt l i.k from by rw [show i.k = l.length by omega]; rfl]
 rfl
end Go.Proofs.YtldefnpobjabpaaGreat.VM

