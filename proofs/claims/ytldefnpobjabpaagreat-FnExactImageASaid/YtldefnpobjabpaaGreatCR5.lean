/- Contracts. No conditions. -/
import Derived.Test.YtldefnpobjabpaaGreatCUO
set_option linter.all false
set_option maxHeartbeats 8000000
set_option maxRecDepth 10000
namespace Go.Proofs.YtldefnpobjabpaaGreat.VM
open Go Go.RowKit Go.Proofs
def crc1 (c : Nat) : Nat := if c % 2 = 1 then (c / 2) ^^^ 2197175160 else c / 2
def crcN (c : Nat) : Nat → Nat
 | 0 => c
 | k + 1 => crc1 (crcN c k)
def crcX (c : Nat) (b : UInt8) : Nat := c ^^^ b.toNat
def crcS (s : ByteArray) : Nat → Nat
 | 0 => 4294967295
 | k + 1 => crcN (crcX (crcS s k) (chr s k)) 8
def crcF (s : ByteArray) : Int := 4294967295 - (crcS s s.size : Nat)
theorem crc1_lt {c : Nat} (h : c < 4294967296) : crc1 c < 4294967296 := by
 unfold crc1; split
 ·exact Nat.xor_lt_two_pow (n := 32) (by omega) (by omega)
 ·omega
theorem crcN_lt {c : Nat} (h : c < 4294967296) : ∀ k, crcN c k < 4294967296
 | 0 => h
 | k + 1 => crc1_lt (crcN_lt h k)
theorem crcX_lt {c : Nat} {b : UInt8} (h : c < 4294967296) : crcX c b < 4294967296 := Nat.xor_lt_two_pow (n := 32) h (by have := b.toNat_lt; omega)
theorem crcS_lt (s : ByteArray) : ∀ k, crcS s k < 4294967296
 | 0 => by show 4294967295 < 4294967296; omega
 | k + 1 => crcN_lt (crcX_lt (crcS_lt s k)) 8
theorem crcF_bd (s : ByteArray) : 0 ≤ crcF s ∧ crcF s ≤ 4294967295 := by
 have := crcS_lt s s.size
 unfold crcF
 omega
theorem crc1_t {c : Nat} (h : c % 2 = 1) : crc1 c = (c / 2) ^^^ 2197175160 := if_pos h
theorem crc1_f {c : Nat} (h : ¬ c % 2 = 1) : crc1 c = c / 2 := if_neg h
theorem xor_i64 (a b : Nat) (ha : a < 2 ^ 63) (hb : b < 2 ^ 63) : bits .xor .i64 (a : Int) (b : Int) = ((a ^^^ b : Nat) : Int) := by
 have ha' : a % 2 ^ IntKind.i64.bits = a := Nat.mod_eq_of_lt (Nat.lt_of_lt_of_le ha (by decide))
 have hb' : b % 2 ^ IntKind.i64.bits = b := Nat.mod_eq_of_lt (Nat.lt_of_lt_of_le hb (by decide))
 simp only [bits, BitVec.ofInt_natCast, BitVec.toNat_xor, BitVec.toNat_ofNat, ha', hb']
 exact wraps_i64 _ (Int.natCast_nonneg _) (by exact_mod_cast Nat.xor_lt_two_pow ha hb)
theorem pbXorB {c : Nat} {b : UInt8} (h : c < 4294967296) : pureBin .xor (iv c) (.int .i64 (IntKind.i64.wrap (b.toNat : Int))) = some (iv (crcX c b : Nat)) := by
 show some (Value.int .i64 (bits .xor .i64 (c : Int) (IntKind.i64.wrap (b.toNat : Int)))) = _
 have := b.toNat_lt
 rw [wraps_i64 _ (by omega) (by omega), xor_i64 _ _ (by omega) (by omega)]
 rfl
theorem pbXorP {c : Nat} (h : c < 4294967296) : pureBin .xor (iv ((c / 2 : Nat) : Int)) (iv 2197175160) = some (iv ((c / 2 ^^^ 2197175160 : Nat) : Int)) := by
 show some (Value.int .i64 (bits .xor .i64 ((c / 2 : Nat) : Int) 2197175160)) = _
 rw [show (2197175160 : Int) = ((2197175160 : Nat) : Int) from rfl, xor_i64 _ _ (by omega) (by decide)]
theorem pbRem2 (k : Nat) : pureBin .rem (iv k) (iv 2) = some (iv ((k % 2 : Nat) : Int)) := by
 show some (Value.int .i64 ((k : Int).tmod 2)) = _
 have : ((k : Int).tmod 2) = ((k % 2 : Nat) : Int) := by rw [Int.tmod_eq_emod_of_nonneg (by omega)]; omega
 rw [this]
theorem pbQuo2 (k : Nat) (h : k < 2 ^ 63) : pureBin .quo (iv k) (iv 2) = some (iv ((k / 2 : Nat) : Int)) := by
 show some (Value.int .i64 (IntKind.wrap .i64 ((k : Int).tdiv 2))) = _
 rw [Int.tdiv_eq_ediv_of_nonneg (by omega), show ((k : Int) / 2) = ((k / 2 : Nat) : Int) by omega, IntWalk.i64_in _ (by omega)]
theorem pbAnd1 (k : Nat) (h : k < 2 ^ 63) : pureBin .and (iv k) (iv 1) = some (iv ((k % 2 : Nat) : Int)) := by
 rw [bits_and, show (1 : Int) = ((1 : Nat) : Int) from rfl, and_i64 k 1 h (by decide), show (1 : Nat) = 2 ^ 1 - 1 by decide, Nat.and_two_pow_sub_one_eq_mod]
theorem pbShr1 (k : Nat) : pureBin .shr (iv k) (.int .u64 1) = some (iv ((k / 2 : Nat) : Int)) := by
 show some (Value.int .i64 ((k : Int).fdiv 2)) = _
 rw [Int.fdiv_eq_ediv_of_nonneg _ (by omega)]
 congr 2
/-! four bytes of a number -/
def shN (n : Nat) : Nat → Nat
 | 0 => n
 | k + 1 => shN n k / 256
def fixK (n : Nat) : Nat → ByteArray
 | 0 => ByteArray.empty
 | k + 1 => ⟨#[UInt8.ofNat (shN n k)]⟩ ++ fixK n k
def fxL (n : Nat) : Nat → List UInt8
 | 0 => List.replicate 4 0
 | k + 1 => (fxL n k).set (3 - k) (UInt8.ofNat (shN n k))
theorem shN_le (n : Nat) : ∀ k, shN n k ≤ n
 | 0 => Nat.le_refl _
 | k + 1 => by have := shN_le n k; show shN n k / 256 ≤ n; omega
theorem shN_4 {n : Nat} (h : n < 4294967296) : shN n 4 = 0 := by
 show n / 256 / 256 / 256 / 256 = 0
 omega
theorem fixK_size (n : Nat) : ∀ k, (fixK n k).size = k
 | 0 => rfl
 | k + 1 => by
  rw [fixK, ByteArray.size_append, fixK_size n k]
  show 1 + k = k + 1
  omega
theorem fxL_len (n : Nat) : ∀ k, (fxL n k).length = 4
 | 0 => rfl
 | k + 1 => by rw [fxL, List.length_set, fxL_len n k]
theorem fix_eq (n : Nat) : (⟨(fxL n 4).toArray⟩ : ByteArray) = fixK n 4 := by
 rw [show fxL n 4 = [UInt8.ofNat (shN n 3), UInt8.ofNat (shN n 2), UInt8.ofNat (shN n 1), UInt8.ofNat (shN n 0)] from rfl]
 apply ByteArray.ext
 simp [fixK, ByteArray.data_append]
theorem pbRem256 (k : Nat) : pureBin .rem (iv k) (iv 256) = some (iv ((k % 256 : Nat) : Int)) := by
 show some (Value.int .i64 ((k : Int).tmod 256)) = _
 have : ((k : Int).tmod 256) = ((k % 256 : Nat) : Int) := by rw [Int.tmod_eq_emod_of_nonneg (by omega)]; omega
 rw [this]
theorem pbQuo256 (k : Nat) (h : k < 2 ^ 63) : pureBin .quo (iv k) (iv 256) = some (iv ((k / 256 : Nat) : Int)) := by
 show some (Value.int .i64 (IntKind.wrap .i64 ((k : Int).tdiv 256))) = _
 rw [Int.tdiv_eq_ediv_of_nonneg (by omega), show ((k : Int) / 256) = ((k / 256 : Nat) : Int) by omega, IntWalk.i64_in _ (by omega)]
theorem pbShr8 (k : Nat) : pureBin .shr (iv k) (.int .u64 8) = some (iv ((k / 256 : Nat) : Int)) := by
 show some (Value.int .i64 ((k : Int).fdiv 256)) = _
 rw [Int.fdiv_eq_ediv_of_nonneg _ (by omega)]
 congr 2
theorem u8_mod (n : Nat) : Value.int .u8 (IntKind.u8.wrap ((n % 256 : Nat) : Int)) = bv (UInt8.ofNat n) := by
 rw [bv_ofNat, IntKind.wrap_u8]
 congr 1
 omega
theorem u8_all (n : Nat) : Value.int .u8 (IntKind.u8.wrap (n : Int)) = bv (UInt8.ofNat n) := by
 rw [bv_ofNat, IntKind.wrap_u8]
end Go.Proofs.YtldefnpobjabpaaGreat.VM
