/- Contracts. No conditions. -/
import Derived.Test.YtldefnpobjabpaaGreatCR5
set_option linter.all false
set_option maxHeartbeats 8000000
set_option maxRecDepth 10000
namespace Go.Proofs.YtldefnpobjabpaaGreat.VM
open Go Go.RowKit Go.Proofs
set_option maxHeartbeats 4000000 in
set_option maxRecDepth 10000 in
theorem CrcS_con (s : ByteArray) (hs : s.size ≤ 1000000000) : Con Tryz.prog 171 [.v (.string s)] [] (fun y _ => y = .v (.int .i64 (crcF s))) := by
 refine ob Tryz.func171 Tryz.ntmps171 ?_
 refine go [.R,.a,.Z,.R,.a,.Z,.R2,.a,.Z] (k := ?_)
 refine AW.block ?_
 refine AW.loopW (fun i : KInv s.size => [.sl 4 (.v (iv i.k)), .sl 3 (.v (iv (crcS s i.k : Nat))), .sl 0 (.v (.string s))]) (fun i => s.size - i.k) ⟨0, Nat.zero_le _⟩ (ws) ?_
 intro i
 have hle := i.le
 have hcl := crcS_lt s i.k
 refine go [.R2,.m,.N,.m] (k := ?_)
 refine qq (Qt.lenS rfl Tryz.underlying9) ?_
 refine go [.b,.Z] (k := ?_)
 refine cd (fun c1 => ?_) fun c1 => ?_
 ·try simp only [cnd] at c1
  refine jd (AW.seq (AW.block (sr ?_)))
  refine go [.m,.N,.m,.m] (k := ?_)
  refine qq (Qt.indexS rfl rfl Tryz.underlying9 (by omega) (by omega)) ?_
  refine go [.N] (k := ?_)
  refine qq (Qt.convI rfl rfl Tryz.underlying3) ?_
  refine qq (Qt.binOp rfl rfl (pbXorB hcl)) ?_
  refine go [.a,.Z,.R,.a,.Z] (k := ?_)
  refine AW.block ?_
  refine AW.loopW (fun j : KInv 8 => [.sl 5 (.v (iv j.k)), .sl 4 (.v (iv i.k)), .sl 3 (.v (iv (crcN (crcX (crcS s i.k) (chr s i.k)) j.k : Nat))), .sl 0 (.v (.string s))]) (fun j => 8 - j.k) ⟨0, Nat.zero_le _⟩ (ws) ?_
  intro j
  have hlej := j.le
  have hjl := crcN_lt (crcX_lt (b := chr s i.k) hcl) j.k
  refine go [.R2,.m,.N,.b,.Z] (k := ?_)
  refine cd (fun c2 => ?_) fun c2 => ?_
  ·try simp only [cnd] at c2
   refine jd (AW.seq (AW.block (sr ?_)))
   refine go [.m] (k := ?_)
   refine qq (Qt.binOp rfl rfl (pbRem2 _)) ?_
   refine go [.N,.a,.Z,.R,.m] (k := ?_)
   refine qq (Qt.binOp rfl rfl (pbQuo2 _ (by omega))) ?_
   refine go [.N,.a,.Z,.R,.m,.b,.Z] (k := ?_)
   refine cd (fun c3 => ?_) fun c3 => ?_
   ·have k3 := c3
    try simp only [cnd] at c3
    have hodd : crcN (crcX (crcS s i.k) (chr s i.k)) j.k % 2 = 1 := by have hk := k3; simp at hk; omega
    refine go [.R1,.m,.N] (k := ?_)
    refine qq (Qt.binOp rfl rfl (pbXorP hjl)) ?_
    refine go [.a,.Z,.R1,.m,.N,.b,.a,.Z] (k := ?_)
    refine ⟨⟨j.k + 1, by omega⟩, Weak.sim ⟨st1, rfl, (by simp only [slotL, reduceIte, Nat.reduceEqDiff]; congr 2; rw [crcN, crc1_t hodd]), rfl, trivial⟩ rfl rfl, ?_⟩
    show 8 - (j.k + 1) < 8 - j.k
    omega
   have k3 := c3
   try simp only [cnd] at c3
   have hodd : ¬ crcN (crcX (crcS s i.k) (chr s i.k)) j.k % 2 = 1 := by have hk := k3; simp at hk; omega
   refine go [.J,.R1,.m,.N,.b,.a,.Z] (k := ?_)
   refine ⟨⟨j.k + 1, by omega⟩, Weak.sim ⟨st1, rfl, (by simp only [slotL, reduceIte, Nat.reduceEqDiff]; congr 2; rw [crcN, crc1_f hodd]), rfl, trivial⟩ rfl rfl, ?_⟩
   show 8 - (j.k + 1) < 8 - j.k
   omega
  try simp only [cnd] at c2
  refine AW.exit ?_
  dsimp only [thenQ, blockQ, reduceIte]
  refine go [.R1,.m,.N,.b,.a,.Z] (k := ?_)
  refine ⟨⟨i.k + 1, by omega⟩, Weak.sim ⟨st1, (by simp only [slotL, reduceIte, Nat.reduceEqDiff]; congr 2; rw [crcS, show j.k = 8 by omega]), rfl, trivial⟩ rfl rfl, ?_⟩
  show s.size - (i.k + 1) < s.size - i.k
  omega
 try simp only [cnd] at c1
 refine AW.exit ?_
 dsimp only [thenQ, blockQ, reduceIte]
 refine go [.R,.m,.N,.b,.a,.Z] (k := ?_)
 refine rt1 2 ?_
 rw [show crcF s = 4294967295 - (crcS s i.k : Nat) from by rw [show i.k = s.size by omega]; rfl]
 rfl
set_option maxHeartbeats 4000000 in
set_option maxRecDepth 10000 in
theorem CrcI_con (s : ByteArray) (hs : s.size ≤ 1000000000) : Con Tryz.prog 174 [.v (.string s)] [] (fun y _ => y = .v (.int .i64 (crcF s))) := by
 refine ob Tryz.func174 Tryz.ntmps174 ?_
 refine go [.R,.a,.Z,.R,.a,.Z,.R2,.m,.N] (k := ?_)
 refine qq (Qt.lenS rfl Tryz.underlying9) ?_
 refine go [.m,.Z] (k := ?_)
 refine AW.block ?_
 refine AW.loopW (fun i : KInv s.size => [.sl 8 (.v (iv i.k)), .sl 3 (.v (iv (crcS s i.k : Nat))), .sl 0 (.v (.string s)), .sl 7 (.v (iv (s.size : Nat)))]) (fun i => s.size - i.k) ⟨0, Nat.zero_le _⟩ (ws) ?_
 intro i
 have hle := i.le
 have hcl := crcS_lt s i.k
 refine go [.R,.b,.Z] (k := ?_)
 refine AW.seq ?_
 refine cd (fun c1 => ?_) fun c1 => ?_
 ·try simp only [cnd] at c1
  refine jd (AW.seq (AW.block (sr ?_)))
  refine go [.m,.N,.a,.Z,.R,.m,.m,.N,.m] (k := ?_)
  refine qq (Qt.indexS rfl rfl Tryz.underlying9 (by omega) (by omega)) ?_
  refine qq (Qt.convI rfl rfl Tryz.underlying3) ?_
  refine go [.N] (k := ?_)
  refine qq (Qt.binOp rfl rfl (pbXorB hcl)) ?_
  refine go [.a,.Z,.R,.m,.Z] (k := ?_)
  refine AW.block ?_
  refine AW.loopW (fun j : KInv 8 => [.sl 17 (.v (iv j.k)), .sl 8 (.v (iv i.k)), .sl 3 (.v (iv (crcN (crcX (crcS s i.k) (chr s i.k)) j.k : Nat))), .sl 0 (.v (.string s)), .sl 7 (.v (iv (s.size : Nat)))]) (fun j => 8 - j.k) ⟨0, Nat.zero_le _⟩ (ws) ?_
  intro j
  have hlej := j.le
  have hjl := crcN_lt (crcX_lt (b := chr s i.k) hcl) j.k
  refine go [.R,.b,.Z] (k := ?_)
  refine AW.seq ?_
  refine cd (fun c2 => ?_) fun c2 => ?_
  ·try simp only [cnd] at c2
   refine jd (AW.seq (AW.block (sr ?_)))
   refine go [.m,.N] (k := ?_)
   refine qq (Qt.binOp rfl rfl (pbAnd1 _ (by omega))) ?_
   refine go [.b,.a,.Z,.R,.m,.N] (k := ?_)
   refine qq (Qt.binOp rfl rfl (pbShr1 _)) ?_
   refine go [.a,.Z,.R,.m,.Z] (k := ?_)
   refine cd (fun c3 => ?_) fun c3 => ?_
   ·have k3 := c3
    try simp only [cnd] at c3
    have hodd : crcN (crcX (crcS s i.k) (chr s i.k)) j.k % 2 = 1 := by have hk := k3; simp at hk; omega
    refine go [.R1,.m,.N] (k := ?_)
    refine qq (Qt.binOp rfl rfl (pbXorP hjl)) ?_
    refine go [.a,.Z,.R1,.b,.N,.m,.Z] (k := ?_)
    refine ⟨⟨j.k + 1, by omega⟩, Weak.sim ⟨st1, rfl, (by simp only [slotL, reduceIte, Nat.reduceEqDiff]; congr 2; rw [crcN, crc1_t hodd]), rfl, rfl, trivial⟩ rfl rfl, ?_⟩
    show 8 - (j.k + 1) < 8 - j.k
    omega
   have k3 := c3
   try simp only [cnd] at c3
   have hodd : ¬ crcN (crcX (crcS s i.k) (chr s i.k)) j.k % 2 = 1 := by have hk := k3; simp at hk; omega
   refine go [.J,.R1,.b,.m,.Z] (k := ?_)
   refine ⟨⟨j.k + 1, by omega⟩, Weak.sim ⟨st1, rfl, (by simp only [slotL, reduceIte, Nat.reduceEqDiff]; congr 2; rw [crcN, crc1_f hodd]), rfl, rfl, trivial⟩ rfl rfl, ?_⟩
   show 8 - (j.k + 1) < 8 - j.k
   omega
  try simp only [cnd] at c2
  refine AW.exit ?_
  dsimp only [thenQ, blockQ, reduceIte]
  refine go [.R1,.b,.N,.m,.Z] (k := ?_)
  refine ⟨⟨i.k + 1, by omega⟩, Weak.sim ⟨st1, (by simp only [slotL, reduceIte, Nat.reduceEqDiff]; congr 2; rw [crcS, show j.k = 8 by omega]), rfl, rfl, trivial⟩ rfl rfl, ?_⟩
  show s.size - (i.k + 1) < s.size - i.k
  omega
 try simp only [cnd] at c1
 refine AW.exit ?_
 dsimp only [thenQ, blockQ, reduceIte]
 refine go [.R,.m,.b,.N,.a,.Z] (k := ?_)
 refine rt1 2 ?_
 rw [show crcF s = 4294967295 - (crcS s i.k : Nat) from by rw [show i.k = s.size by omega]; rfl]
 rfl
end Go.Proofs.YtldefnpobjabpaaGreat.VM

