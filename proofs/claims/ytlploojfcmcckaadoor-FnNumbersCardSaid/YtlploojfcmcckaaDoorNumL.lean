/- Plain laws on numbers as texts; no program. No conditions. -/
import Derived.Test.YtlploojfcmcckaaDoorLibOps
namespace Go.Proofs.YtlploojfcmcckaaDoor

def inB (n lo hi : Int) : Bool := decide (lo ≤ n) && decide (n ≤ hi)
theorem inB_true {n lo hi : Int} (h : lo ≤ n ∧ n ≤ hi) : inB n lo hi = true := by unfold inB; simp [h]
theorem inB_false {n lo hi : Int} (h : ¬ (lo ≤ n ∧ n ≤ hi)) : inB n lo hi = false := by unfold inB; simp; omega
theorem inB_iff {n lo hi : Int} : inB n lo hi = true ↔ lo ≤ n ∧ n ≤ hi := by unfold inB; simp

/-- seven bits to a byte, the lowest first -/
def varN : Nat → Nat → List UInt8
  | 0, _ => []
  | f + 1, n => if n < 128 then [UInt8.ofNat n] else UInt8.ofNat (128 + n % 128) :: varN f (n / 128)
def varI (n : Int) : List UInt8 := if 0 ≤ n ∧ n ≤ 562949953421311 then varN 7 n.toNat else []

theorem varN_big {f k : Nat} (hf : 1 ≤ f) (h : 127 < k) : varN f k = UInt8.ofNat (128 + k % 128) :: varN (f - 1) (k / 128) := by
  obtain ⟨g, rfl⟩ : ∃ g, f = g + 1 := ⟨f - 1, by omega⟩
  simp only [varN, if_neg (show ¬ k < 128 by omega), Nat.add_sub_cancel]
theorem varN_small {f k : Nat} (hf : 1 ≤ f) (h : k < 128) : varN f k = [UInt8.ofNat k] := by
  obtain ⟨g, rfl⟩ : ∃ g, f = g + 1 := ⟨f - 1, by omega⟩
  simp only [varN, if_pos h]
theorem varI_big {n : Int} (h : ¬ (0 ≤ n ∧ n ≤ 562949953421311)) : varI n = [] := by unfold varI; rw [if_neg h]
theorem varI_in {n : Int} (h : 0 ≤ n ∧ n ≤ 562949953421311) : varI n = varN 7 n.toNat := by unfold varI; rw [if_pos h]
theorem varN_len : ∀ f n, (varN f n).length ≤ f
  | 0, _ => by simp [varN]
  | f + 1, n => by
    have := varN_len f (n / 128)
    unfold varN; split <;> simp; omega
theorem pow_step {f k : Nat} (hf : 1 ≤ f) (hk : k < 128 ^ f) (h : 127 < k) : 2 ≤ f ∧ k / 128 < 128 ^ (f - 1) := by
  have h2 : 2 ≤ f := by
    rcases Nat.lt_or_ge f 2 with h' | h'
    · obtain rfl : f = 1 := by omega
      simp at hk; omega
    · exact h'
  refine ⟨h2, ?_⟩
  obtain ⟨g, rfl⟩ : ∃ g, f = g + 1 := ⟨f - 1, by omega⟩
  rw [Nat.pow_succ] at hk
  simp only [Nat.add_sub_cancel]
  omega
theorem pow_le7 {f k : Nat} (hf : f ≤ 7) (hk : k < 128 ^ f) : k ≤ 562949953421311 := by
  have : 128 ^ f ≤ 128 ^ 7 := Nat.pow_le_pow_right (by omega) hf
  have h7 : (128 : Nat) ^ 7 = 562949953421312 := by decide
  omega
theorem ofNat_byte (n : Nat) : ((UInt8.ofNat n).toNat : Int) = (n : Int) % 256 := by
  simp [UInt8.toNat_ofNat']
theorem bv_ofNat (n : Nat) : bv (UInt8.ofNat n) = .int .u8 ((n : Int) % 256) := by unfold bv; rw [ofNat_byte]

/-! ### bits of int -/
theorem wraps_i64 (n : Int) (h0 : 0 ≤ n) (h1 : n < 2 ^ 63) : IntKind.i64.wrap n = n := by rw [IntKind.wrap_i64]; omega
theorem and_i64 (a b : Nat) (ha : a < 2 ^ 63) (hb : b < 2 ^ 63) : bits .and .i64 (a : Int) (b : Int) = ((a &&& b : Nat) : Int) := (bits_nat .i64 63 (by decide) wraps_i64 a b ha hb).1
theorem or_i64 (a b : Nat) (ha : a < 2 ^ 63) (hb : b < 2 ^ 63) : bits .or .i64 (a : Int) (b : Int) = ((a ||| b : Nat) : Int) := (bits_nat .i64 63 (by decide) wraps_i64 a b ha hb).2
theorem xor_i64 (a b : Nat) (ha : a < 2 ^ 63) (hb : b < 2 ^ 63) : bits .xor .i64 (a : Int) (b : Int) = ((a ^^^ b : Nat) : Int) := by
  have ha' : a % 2 ^ IntKind.i64.bits = a := Nat.mod_eq_of_lt (Nat.lt_of_lt_of_le ha (by decide))
  have hb' : b % 2 ^ IntKind.i64.bits = b := Nat.mod_eq_of_lt (Nat.lt_of_lt_of_le hb (by decide))
  simp only [bits, BitVec.ofInt_natCast, BitVec.toNat_xor, BitVec.toNat_ofNat, ha', hb']
  exact wraps_i64 _ (Int.natCast_nonneg _) (by exact_mod_cast Nat.xor_lt_two_pow ha hb)
theorem and127 (k : Nat) (h : k < 2 ^ 63) : bits .and .i64 (k : Int) 127 = (k : Int) % 128 := by
  rw [show (k : Int) % 128 = ((k % 128 : Nat) : Int) by omega]
  rw [show (127 : Int) = ((127 : Nat) : Int) from rfl, and_i64 k 127 h (by decide), show (127 : Nat) = 2 ^ 7 - 1 by decide, Nat.and_two_pow_sub_one_eq_mod]
/-- a | b where b fits under a -/
theorem or_add (i a b : Nat) (hb : b < 2 ^ i) : a * 2 ^ i ||| b = a * 2 ^ i + b := by
  rw [Nat.mul_comm, ← Nat.two_pow_add_eq_or_of_lt hb a]
theorem or128 (k : Nat) : bits .or .i64 ((k : Int) % 128) 128 = 128 + (k : Int) % 128 := by
  rw [show (k : Int) % 128 = ((k % 128 : Nat) : Int) by omega, show 128 + ((k % 128 : Nat) : Int) = ((128 + k % 128 : Nat) : Int) by omega]
  rw [show (128 : Int) = ((128 : Nat) : Int) from rfl, or_i64 _ 128 (by omega) (by decide), Nat.or_comm, or_add 7 1 (k % 128) (by omega)]

/-- the number whose bytes these are, the highest first -/
def rdF (l : List UInt8) : Nat := l.foldl (fun n b => n * 256 + b.toNat) 0
theorem rdF_snoc (l : List UInt8) (b : UInt8) : rdF (l ++ [b]) = rdF l * 256 + b.toNat := by simp [rdF, List.foldl_append]
theorem take_snoc (s : ByteArray) (k : Nat) (h : k < s.size) : s.data.toList.take (k + 1) = s.data.toList.take k ++ [s[k]] := by
  rw [List.take_succ_eq_append_getElem (by simpa using h)]; rfl
theorem rdF_step (s : ByteArray) (k : Nat) (h : k < s.size) : rdF (s.data.toList.take (k + 1)) = rdF (s.data.toList.take k) * 256 + s[k].toNat := by rw [take_snoc s k h, rdF_snoc]
theorem rdF_lt (l : List UInt8) : rdF l < 256 ^ l.length := by
  have h : ∀ (l : List UInt8) (n : Nat), l.foldl (fun n b => n * 256 + b.toNat) n < (n + 1) * 256 ^ l.length := by
    intro l
    induction l with
    | nil => intro n; simp
    | cons b l ih =>
      intro n
      have hb := b.toNat_lt
      refine Nat.lt_of_lt_of_le (ih _) ?_
      rw [List.length_cons, Nat.pow_succ, ← Nat.mul_assoc, Nat.mul_right_comm]
      exact Nat.mul_le_mul_right _ (by show n * 256 + b.toNat + 1 ≤ (n + 1) * 256; omega)
  have := h l 0
  unfold rdF
  omega
theorem rdF_take_lt (s : ByteArray) (k : Nat) (h : k ≤ 6) : rdF (s.data.toList.take k) < 2 ^ 48 := by
  refine Nat.lt_of_lt_of_le (rdF_lt _) ?_
  have h1 : (s.data.toList.take k).length ≤ 6 := by simp; omega
  have : 256 ^ (s.data.toList.take k).length ≤ 256 ^ 6 := Nat.pow_le_pow_right (by omega) h1
  exact Nat.le_trans this (by decide)

theorem rdF_or (s : ByteArray) (k : Nat) (h : k < s.size) (hk : k ≤ 6) : bits .or .i64 ((rdF (s.data.toList.take k) : Int) * 256) (s[k].toNat : Int) = ((rdF (s.data.toList.take (k + 1)) : Nat) : Int) := by
  have h1 := rdF_take_lt s k hk
  have h2 := s[k].toNat_lt
  rw [rdF_step s k h, show (rdF (s.data.toList.take k) : Int) * 256 = ((rdF (s.data.toList.take k) * 256 : Nat) : Int) by simp,
    or_i64 _ _ (by omega) (by omega), show (256 : Nat) = 2 ^ 8 by decide, or_add 8 _ _ (by omega)]

theorem bt {a b c : World} (h : Go.RowKit.Below a.heap.size a b) (k : Go.RowKit.Below b.heap.size b c) : Go.RowKit.Below a.heap.size a c := h.trans (k.mono h.size)
theorem bcell {W w1 : World} (hb : Go.RowKit.Below W.heap.size W w1) : (∀ b o, b < W.heap.size → w1.cell? ⟨b, o, none⟩ = W.cell? ⟨b, o, none⟩) ∧ (∀ b o, b < W.heap.size → w1.frozen? ⟨b, o, none⟩ = W.frozen? ⟨b, o, none⟩) :=
  ⟨fun b o h => hb.cell (p := ⟨b, o, none⟩) h, fun b o h => hb.frozen (p := ⟨b, o, none⟩) h⟩
theorem Own.drewN {α : Type} [Ty α] {w : World} {B : Nat} {l : List α} {v : Value} (h : Own B w l v) (n : Nat) : Own B (w.drewN n) l v :=
  let ⟨fp, h1, h2, h3⟩ := h
  ⟨fp, h1.frame fun _ _ => rfl, h2, h3⟩
theorem _root_.Go.RowKit.Below.drewN {B : Nat} {a w : World} {n : Nat} (h : Go.RowKit.Below B a w) : Go.RowKit.Below B a (w.drewN n) := ⟨h.os, h.tape, h.output, h.size, h.block⟩
theorem take_size (s : ByteArray) : s.data.toList.take s.size = s.data.toList := List.take_of_length_le (by rw [Array.length_toList]; exact Nat.le_refl _)
theorem ret_bool {a b : Bool} (h : a = b) : Ending.returned (.bool a) = .returned (.bool b) := by rw [h]
theorem ret_int {a b : Int} (h : a = b) : Ending.returned (iv a) = .returned (iv b) := by rw [h]
theorem byte_le (b : UInt8) : b.toNat ≤ 255 := by have := b.toNat_lt; omega

def hi7 (k : Nat) : UInt8 := UInt8.ofNat (128 + k % 128)
def lo8 (k : Nat) : UInt8 := UInt8.ofNat k
theorem bv_hi7 (k : Nat) : bv (hi7 k) = .int .u8 ((128 + k % 128 : Nat) : Int) := by unfold hi7; rw [bv_ofNat]; congr 1; omega
theorem bv_lo8 (k : Nat) : bv (lo8 k) = .int .u8 ((k : Int) % 256) := by unfold lo8; rw [bv_ofNat]
theorem enc_hi7 {k : Nat} {x : Int} (h : x = ((128 + k % 128 : Nat) : Int)) : [Value.int .u8 x] = Flat.enc (hi7 k) := by
  rw [h, ← bv_hi7]; rfl
theorem enc_lo8 {k : Nat} {x : Int} (h : x = (k : Int) % 256) : [Value.int .u8 x] = Flat.enc (lo8 k) := by
  rw [h, ← bv_lo8]; rfl
theorem ret_str {a b : List UInt8} (h : a = b) : Ending.returned (.string ⟨a.toArray⟩) = .returned (.string ⟨b.toArray⟩) := by rw [h]
theorem varN_big' {f k : Nat} (hf : 1 ≤ f) (h : 127 < k) : varN f k = hi7 k :: varN (f - 1) (k / 128) := varN_big hf h
theorem varN_small' {f k : Nat} (hf : 1 ≤ f) (h : k < 128) : varN f k = [lo8 k] := varN_small hf h

/-- the bytes of n, the highest first, in so many bytes -/
def fixN : Nat → Nat → List UInt8
  | 0, _ => []
  | k + 1, n => fixN k (n / 256) ++ [lo8 n]
def fixI (n wd : Int) : List UInt8 := if 1 ≤ wd ∧ wd ≤ 7 ∧ 0 ≤ n ∧ n < 256 ^ wd.toNat then fixN wd.toNat n.toNat else []
theorem pow256 (wd : Nat) : (256 : Int) ^ wd = ((256 ^ wd : Nat) : Int) := by rw [Int.natCast_pow]; rfl
theorem fixI_in {n wd : Nat} (h1 : 1 ≤ wd) (h7 : wd ≤ 7) (h : n < 256 ^ wd) : fixI n wd = fixN wd n := by
  unfold fixI; rw [if_pos ⟨by omega, by omega, by omega, by rw [Int.toNat_natCast, pow256]; exact Int.ofNat_lt.2 h⟩]; rfl
theorem fixI_out {n wd : Int} (h : ¬ (1 ≤ wd ∧ wd ≤ 7 ∧ 0 ≤ n ∧ n < 256 ^ wd.toNat)) : fixI n wd = [] := by unfold fixI; rw [if_neg h]
theorem fixI_big {n wd : Nat} (h : ¬ n < 256 ^ wd) : fixI n wd = [] := fixI_out fun h' => h (by
  have := h'.2.2.2; rw [Int.toNat_natCast, pow256] at this; exact Int.ofNat_lt.1 this)
theorem fixN_len : ∀ k n, (fixN k n).length = k
  | 0, _ => rfl
  | k + 1, n => by simp [fixN, fixN_len k]

theorem fixN_step {k m wd n : Nat} {l : List UInt8} (hk : k < l.length) (h : fixN (k + 1) m ++ l.drop (k + 1) = fixN wd n) : fixN k (m / 256) ++ (l.set k (lo8 m)).drop k = fixN wd n := by
  rw [← h, fixN, List.append_assoc]
  congr 1
  rw [List.drop_eq_getElem_cons (by simpa using hk)]
  simp [List.drop_set]
theorem fixN_end {wd n m : Nat} {l : List UInt8} (h : fixN 0 m ++ l.drop 0 = fixN wd n) : l = fixN wd n := by simpa [fixN] using h
theorem bv_lo8' {k : Nat} {x : Int} (h : x = (k : Int) % 256) : Value.int .u8 x = One.val (lo8 k) := by rw [h, ← bv_lo8]; rfl

theorem fixN_cons : ∀ c n, fixN (c + 1) n = lo8 (n / 256 ^ c) :: fixN c n
  | 0, n => by simp [fixN]
  | c + 1, n => by
    rw [fixN, fixN_cons c (n / 256), fixN, Nat.div_div_eq_div_mul, Nat.pow_succ, Nat.mul_comm (256 ^ c) 256]; simp
theorem div_step (n c : Nat) : n / 256 ^ c / 256 = n / 256 ^ (c + 1) := by rw [Nat.div_div_eq_div_mul, Nat.pow_succ]

/-- digits of bytes -/
def hexD (k : Nat) : UInt8 := if k < 10 then UInt8.ofNat (48 + k) else UInt8.ofNat (87 + k)
def hexL : List UInt8 → List UInt8
  | [] => []
  | b :: l => hexD (b.toNat / 16) :: hexD (b.toNat % 16) :: hexL l
theorem hexL_app : ∀ l k, hexL (l ++ k) = hexL l ++ hexL k
  | [], _ => rfl
  | b :: l, k => by simp [hexL, hexL_app l k]
theorem hexL_len : ∀ l, (hexL l).length = 2 * l.length
  | [] => rfl
  | b :: l => by simp [hexL, hexL_len l]; omega
theorem hexL_step (s : ByteArray) (k : Nat) (h : k < s.size) : hexL (s.data.toList.take (k + 1)) = hexL (s.data.toList.take k) ++ [hexD (s[k].toNat / 16), hexD (s[k].toNat % 16)] := by
  rw [take_snoc s k h, hexL_app]; rfl

theorem wrap_byte (b : UInt8) : IntKind.i64.wrap (b.toNat : Int) = b.toNat := wraps_i64 _ (by omega) (by have := b.toNat_lt; omega)
theorem div16_byte (b : UInt8) : IntKind.i64.wrap ((b.toNat : Int).tdiv 16) = (b.toNat : Int) / 16 := by
  rw [Int.tdiv_eq_ediv_of_nonneg (by omega)]; exact wraps_i64 _ (by omega) (by have := b.toNat_lt; omega)
theorem div16_byte' (b : UInt8) : IntKind.i64.wrap ((b.toNat : Int) / 16) = (b.toNat : Int) / 16 := wraps_i64 _ (by omega) (by have := b.toNat_lt; omega)
theorem mod16_byte2 (b : UInt8) : IntKind.i64.wrap ((b.toNat : Int) % 16) = (b.toNat : Int) % 16 := wraps_i64 _ (by omega) (by have := b.toNat_lt; omega)
theorem mod16_byte (b : UInt8) : IntKind.i64.wrap ((b.toNat : Int).tmod 16) = (b.toNat : Int) % 16 := by
  rw [Int.tmod_eq_emod_of_nonneg (by omega)]; exact wraps_i64 _ (by omega) (by have := b.toNat_lt; omega)
theorem mod16_byte' (b : UInt8) : (b.toNat : Int).tmod 16 = (b.toNat : Int) % 16 := Int.tmod_eq_emod_of_nonneg (by omega)
theorem hexD_div (b : UInt8) : bv (hexD ((b.toNat : Int) / 16).toNat) = One.val (hexD (b.toNat / 16)) := by
  rw [show ((b.toNat : Int) / 16).toNat = b.toNat / 16 by omega]; rfl
theorem hexD_mod (b : UInt8) : bv (hexD ((b.toNat : Int) % 16).toNat) = One.val (hexD (b.toNat % 16)) := by
  rw [show ((b.toNat : Int) % 16).toNat = b.toNat % 16 by omega]; rfl

def hexDigits : ByteArray := ⟨#[48, 49, 50, 51, 52, 53, 54, 55, 56, 57, 97, 98, 99, 100, 101, 102]⟩
theorem digit_at : ∀ (i : Nat) (h : i < hexDigits.size), hexDigits[i] = hexD i := by
  intro i h
  have h' : i < 16 := h
  have : i = 0 ∨ i = 1 ∨ i = 2 ∨ i = 3 ∨ i = 4 ∨ i = 5 ∨ i = 6 ∨ i = 7 ∨ i = 8 ∨ i = 9 ∨ i = 10 ∨ i = 11 ∨ i = 12 ∨ i = 13 ∨ i = 14 ∨ i = 15 := by omega
  rcases this with rfl | rfl | rfl | rfl | rfl | rfl | rfl | rfl | rfl | rfl | rfl | rfl | rfl | rfl | rfl | rfl <;> rfl
theorem digit_lit (i : Nat) (h : i < (⟨#[48, 49, 50, 51, 52, 53, 54, 55, 56, 57, 97, 98, 99, 100, 101, 102]⟩ : ByteArray).size) : (⟨#[48, 49, 50, 51, 52, 53, 54, 55, 56, 57, 97, 98, 99, 100, 101, 102]⟩ : ByteArray)[i] = hexD i := digit_at i h
theorem digit_val {i j : Nat} (h : i < hexDigits.size) (e : i = j) : Value.int .u8 ((hexDigits[i]).toNat : Int) = One.val (hexD j) := by
  subst e; rw [digit_at i h]; rfl
end Go.Proofs.YtlploojfcmcckaaDoor
