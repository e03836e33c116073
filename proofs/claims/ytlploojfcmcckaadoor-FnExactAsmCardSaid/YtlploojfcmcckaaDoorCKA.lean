/- Contracts of functions of the program. No conditions beyond those that each states. -/
import Derived.Test.YtlploojfcmcckaaDoorCKS
set_option linter.all false
set_option maxHeartbeats 8000000
set_option maxRecDepth 10000
namespace Go.Proofs.YtlploojfcmcckaaDoor.VM
open Go Go.RowKit Go.Proofs
/-- a digit as its sign -/
theorem dig_byte : ∀ q : Nat, q < 10 → IntKind.u8.wrap (48 + (q : Int)) = ((UInt8.ofNat (48 + q)).toNat : Int) := by decide +kernel
theorem dec_step (u : Nat) (h : u ≠ 0) : Lib.decDigits u = (if u / 10 = 0 then [] else Lib.decDigits (u / 10)) ++ [UInt8.ofNat (48 + u % 10)] := by
 rw [Lib.decDigits]
 by_cases h10 : u < 10
 ·rw [dif_pos h10, if_pos (by omega), Nat.mod_eq_of_lt h10]; rfl
 ·rw [dif_neg h10, if_neg (by omega)]
theorem dec_len : ∀ (k u : Nat), u < 10 ^ (k + 1) → (Lib.decDigits u).length ≤ k + 1
 | 0, u, h => by rw [Lib.decDigits, dif_pos (by omega)]; exact Nat.le_refl _
 | k + 1, u, h => by
  rw [Lib.decDigits]
  split
  ·simp
  ·have := dec_len k (u / 10) (by rw [Nat.div_lt_iff_lt_mul (by omega)]; rw [Nat.pow_succ] at h; exact h)
   simp; omega
theorem nt10 (m : Int) : (m.tdiv 10).natAbs = m.natAbs / 10 := Int.natAbs_tdiv m 10
structure DI (n : Int) where
 m : Int
 out : ByteArray
 s1 : n < 0 → m ≤ 0
 s2 : 0 ≤ n → 0 ≤ m
 le : m.natAbs ≤ n.natAbs
 eq : Lib.decDigits n.natAbs = (if m.natAbs = 0 then [] else Lib.decDigits m.natAbs) ++ out.data.toList
theorem DI.size {n : Int} (i : DI n) (h0 : -9223372036854775808 ≤ n) (h1 : n ≤ 9223372036854775807) : i.out.size ≤ 20 := by
 have h2 := dec_len 19 n.natAbs (Nat.lt_of_le_of_lt (m := 9223372036854775808) (by omega) (by decide))
 have h3 := congrArg List.length i.eq
 rw [List.length_append] at h3
 have h4 : i.out.size = i.out.data.toList.length := by rw [Array.length_toList]; rfl
 omega
def digC (m : Int) : UInt8 := UInt8.ofNat (48 + m.natAbs % 10)
theorem DI.eq' {n : Int} (i : DI n) (h : i.m ≠ 0) : Lib.decDigits n.natAbs = (if (i.m.tdiv 10).natAbs = 0 then [] else Lib.decDigits (i.m.tdiv 10).natAbs) ++ ((⟨[digC i.m].toArray⟩ : ByteArray) ++ i.out).data.toList := by
 rw [i.eq, if_neg (by omega), dec_step i.m.natAbs (by omega), nt10]
 simp [digC]
theorem tmod_dig {m : Int} : m.tmod 10 = if m < 0 then -((m.natAbs % 10 : Nat) : Int) else ((m.natAbs % 10 : Nat) : Int) := by
 split
 ·rename_i h
  obtain ⟨u, rfl⟩ : ∃ u : Nat, m = -(u : Int) := ⟨m.natAbs, by omega⟩
  rw [Int.neg_tmod, Int.tmod_eq_emod_of_nonneg (by omega)]
  simp
 ·rename_i h
  obtain ⟨u, rfl⟩ : ∃ u : Nat, m = (u : Int) := ⟨m.natAbs, by omega⟩
  rw [Int.tmod_eq_emod_of_nonneg (by omega)]
  simp
theorem xv5 {a b : Int} (h : a = b) : iv a = iv b := by rw [h]
theorem xb5 {a b : Int} (h : a = b) : Value.int .u8 a = .int .u8 b := by rw [h]
theorem pbRem10 (a : Int) : pureBin .rem (iv a) (iv 10) = some (iv (a.tmod 10)) := rfl
theorem pbQuo10 {a : Int} (h : -9223372036854775808 ≤ a ∧ a ≤ 9223372036854775807) : pureBin .quo (iv a) (iv 10) = some (iv (a.tdiv 10)) := by
 show some (Value.int .i64 (IntKind.i64.wrap (a.tdiv 10))) = _
 rw [IntWalk.i64_in _ (by have := nt10 a; omega)]
theorem decB_zero : decB 0 = ⟨#[48]⟩ := by
 unfold decB
 rw [show Lib.itoa 0 = Lib.decDigits 0 from rfl, Lib.decDigits, dif_pos (by omega)]
 rfl
theorem decB_neg {n : Int} (h : n < 0) (o : ByteArray) (ho : Lib.decDigits n.natAbs = o.data.toList) : (⟨#[45]⟩ : ByteArray) ++ o = decB n := by
 apply ByteArray.ext
 apply Array.ext'
 simp [decB, Lib.itoa, h, ho]
theorem decB_pos {n : Int} (h : ¬ n < 0) (o : ByteArray) (ho : Lib.decDigits n.natAbs = o.data.toList) : o = decB n := by
 apply ByteArray.ext
 apply Array.ext'
 have : n.toNat = n.natAbs := by omega
 simp [decB, Lib.itoa, h, this, ho]
theorem DecS_con (n : Int) (hb : -9223372036854775808 ≤ n ∧ n ≤ 9223372036854775807) : Con Tryd.prog 8 [.v (iv n)] [] (fun y _ => y = .v (.string (decB n))) := by
 refine ob Tryd.func8 Tryd.ntmps8 ?_
 refine sr ?_
 refine qn ?_
 refine sr2 ?_
 refine qm ?_
 refine qb ?_
 refine nc (fun c1 => ?_) fun c1 => ?_
 ·try simp only [cnd] at c1
  refine sr ?_
  refine qr 2 ?_
  rw [show n = 0 by grind only, decB_zero]
  rfl
 try simp only [cnd] at c1
 refine jd (sr ?_)
 refine qs' ?_
 refine mn ?_
 refine qb ?_
 refine qn ?_
 refine AW.seq (AW.block ?_)
 refine AW.loopW (fun i : DI n => [.sl 0 (.v (iv i.m)), .sl 3 (.v (.string i.out)), .sl 4 (.v (.bool (decide (n < 0))))]) (fun i => i.m.natAbs) ⟨n, ⟨#[]⟩, fun h => by omega, fun h => h, Nat.le_refl _, by rw [if_neg (by grind only)]; simp⟩ (Weak.sim ⟨rfl, rfl, rfl, trivial⟩ rfl rfl) ?_
 intro i
 have hle := i.le
 have hos := i.size hb.1 hb.2
 have hs1 := i.s1
 have hs2 := i.s2
 have hle2 := i.le
 have hnd := nt10 i.m
 refine sr2 ?_
 refine mn ?_
 refine qb ?_
 refine nc (fun c2 => ?_) fun c2 => ?_
 ·try simp only [cnd] at c2
  refine jd (AW.block (sr ?_))
  refine qm ?_
  refine qq (Qt.binOp rfl rfl (pbRem10 _)) ?_
  refine nm ?_
  refine qn ?_
  refine sr2 ?_
  refine qm ?_
  refine qb ?_
  refine nc (fun c3 => ?_) fun c3 => ?_
  ·try simp only [cnd] at c3
   refine AW.region ?_
   refine mn ?_
   refine qq (Qt.negI rfl) ?_
   refine qa ?_
   refine AWL.weak (Weak.slot (d := 5) (v' := iv ((i.m.natAbs % 10 : Nat) : Int)) rfl (by have ht := tmod_dig (m := i.m); rw [IntWalk.i64_in _ (by split at ht <;> omega)]; split at ht <;> exact xv5 (by omega))) ?_
   refine ns ?_
   refine mn ?_
   refine ba ?_
   refine qq (Qt.convI rfl rfl Tryd.underlying5) ?_
   refine nm ?_
   refine AWL.weak (Weak.slot (d := 20) (v' := bv (digC i.m)) rfl (xb5 (dig_byte _ (Nat.mod_lt _ (by omega))))) ?_
   refine nm ?_
   refine sp sS ?_
   refine nm ?_
   refine AWL.rep 21 (tr ([digC i.m] : List UInt8)) rfl (sim_row1 rfl rfl rfl (fun k hk => match k, hk with | 0, _ => rfl | k + 1, hk => absurd hk (by omega))) ?_
   refine nm ?_
   refine qq (Qt.convBS rfl rfl rfl Tryd.underlying34 Tryd.underlying5 Tryd.underlying9) ?_
   refine qm ?_
   refine qq (Qt.binOp rfl rfl (pbCat (by have : (⟨[digC i.m].toArray⟩ : ByteArray).size = 1 := rfl; omega))) ?_
   refine nm ?_
   refine qn ?_
   refine AW.region ?_
   refine qm ?_
   refine qq (Qt.binOp rfl rfl (pbQuo10 (by omega))) ?_
   refine nm ?_
   refine qn ?_
   refine ⟨⟨i.m.tdiv 10, (⟨[digC i.m].toArray⟩ : ByteArray) ++ i.out, (fun h => by have := i.s1 h; rw [show i.m = -((i.m.natAbs : Nat) : Int) by omega, Int.neg_tdiv]; have := Int.tdiv_nonneg (a := ((i.m.natAbs : Nat) : Int)) (b := 10) (by omega) (by omega); omega), (fun h => Int.tdiv_nonneg (i.s2 h) (by omega)), (by rw [hnd]; omega), i.eq' (by omega)⟩, Weak.sim ⟨rfl, rfl, rfl, trivial⟩ rfl rfl, ?_⟩
   show (i.m.tdiv 10).natAbs < i.m.natAbs
   rw [hnd]
   omega
  try simp only [cnd] at c3
  refine AW.weak (Weak.slot (d := 5) (v' := iv ((i.m.natAbs % 10 : Nat) : Int)) rfl (by have ht := tmod_dig (m := i.m); split at ht <;> exact xv5 (by omega))) ?_
  refine jd (sr ?_)
  refine qm ?_
  refine ba ?_
  refine nm ?_
  refine qq (Qt.convI rfl rfl Tryd.underlying5) ?_
  refine nm ?_
  refine AWL.weak (Weak.slot (d := 20) (v' := bv (digC i.m)) rfl (xb5 (dig_byte _ (Nat.mod_lt _ (by omega))))) ?_
  refine nm ?_
  refine sp sS ?_
  refine nm ?_
  refine AWL.rep 21 (tr ([digC i.m] : List UInt8)) rfl (sim_row1 rfl rfl rfl (fun k hk => match k, hk with | 0, _ => rfl | k + 1, hk => absurd hk (by omega))) ?_
  refine nm ?_
  refine qq (Qt.convBS rfl rfl rfl Tryd.underlying34 Tryd.underlying5 Tryd.underlying9) ?_
  refine qm ?_
  refine qq (Qt.binOp rfl rfl (pbCat (by have : (⟨[digC i.m].toArray⟩ : ByteArray).size = 1 := rfl; omega))) ?_
  refine nm ?_
  refine qn ?_
  refine AW.region ?_
  refine qm ?_
  refine qq (Qt.binOp rfl rfl (pbQuo10 (by omega))) ?_
  refine nm ?_
  refine qn ?_
  refine ⟨⟨i.m.tdiv 10, (⟨[digC i.m].toArray⟩ : ByteArray) ++ i.out, (fun h => by have := i.s1 h; rw [show i.m = -((i.m.natAbs : Nat) : Int) by omega, Int.neg_tdiv]; have := Int.tdiv_nonneg (a := ((i.m.natAbs : Nat) : Int)) (b := 10) (by omega) (by omega); omega), (fun h => Int.tdiv_nonneg (i.s2 h) (by omega)), (by rw [hnd]; omega), i.eq' (by omega)⟩, Weak.sim ⟨rfl, rfl, rfl, trivial⟩ rfl rfl, ?_⟩
  show (i.m.tdiv 10).natAbs < i.m.natAbs
  rw [hnd]
  omega
 try simp only [cnd] at c2
 refine AW.exit ?_
 dsimp only [thenQ, blockQ, reduceIte]
 refine sr2 ?_
 refine qm ?_
 refine nc (fun c4 => ?_) fun c4 => ?_
 ·try simp only [cnd] at c4
  refine sr ?_
  refine mn ?_
  refine qq (Qt.binOp rfl rfl (pbCat (by have : (⟨#[45]⟩ : ByteArray).size = 1 := rfl; omega))) ?_
  refine qr 2 ?_
  rw [← decB_neg (n := n) (by grind only) i.out (by rw [i.eq, if_pos (by omega)]; rfl)]
  rfl
 try simp only [cnd] at c4
 refine jd (sr ?_)
 refine mn ?_
 refine qr 2 ?_
 rw [← decB_pos (n := n) (by grind only) i.out (by rw [i.eq, if_pos (by omega)]; rfl)]
 rfl
theorem DecI_con (n : Int) (hb : -9223372036854775808 ≤ n ∧ n ≤ 9223372036854775807) : Con Tryd.prog 9 [.v (iv n)] [] (fun y _ => y = .v (.string (decB n))) := by
 refine ob Tryd.func9 Tryd.ntmps9 ?_
 refine sr ?_
 refine qs' ?_
 refine qm ?_
 refine cv Tryd.call31 rfl rfl (itoa_con n hb.1 hb.2) ?_
 refine nm ?_
 refine qr 2 ?_
 rfl
end Go.Proofs.YtlploojfcmcckaaDoor.VM
