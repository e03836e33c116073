/- Contracts of functions of the program. No conditions beyond those that each states. -/
import Derived.Test.YtlploojfcmcckaaDoorCKA
set_option linter.all false
set_option maxHeartbeats 8000000
set_option maxRecDepth 10000
namespace Go.Proofs.YtlploojfcmcckaaDoor.VM
open Go Go.RowKit Go.Proofs
theorem pu_snoc : ∀ (l : List UInt8) (acc a : Nat) (c : UInt8), Lib.parseUint10 acc l = .ok a → Lib.parseUint10 acc (l ++ [c]) = Lib.parseUint10 a [c]
 | [], acc, a, c, h => by
  simp only [Lib.parseUint10] at h
  cases h
  rfl
 | b :: r, acc, a, c, h => by
  rw [List.cons_append]
  simp only [Lib.parseUint10] at h
  rw [Lib.parseUint10]
  split at h
  ·rename_i h1
   rw [if_pos h1]
   split at h
   ·cases h
   ·rename_i h2
    rw [if_neg h2]
    split at h
    ·cases h
    ·rename_i h3
     rw [if_neg h3]
     exact pu_snoc r _ a c h
  ·cases h
theorem digit_nat {q : Nat} (h : q < 10) : (UInt8.ofNat (48 + q)).toNat = 48 + q := by
 rw [UInt8.toNat_ofNat']; omega
theorem pu_dec : ∀ (u : Nat), u < 18446744073709551616 → Lib.parseUint10 0 (Lib.decDigits u) = .ok u := fun u => by
 induction u using Nat.strongRecOn with
 | _ u ih =>
  intro hu
  rw [Lib.decDigits]
  by_cases h : u < 10
  ·rw [dif_pos h]
   simp only [Lib.parseUint10, digit_nat h]
   rw [if_pos (by omega), if_neg (by omega), if_neg (by omega)]
   congr 1; omega
  ·rw [dif_neg h, pu_snoc _ _ _ _ (ih (u / 10) (by omega) (by omega))]
   simp only [Lib.parseUint10, digit_nat (Nat.mod_lt u (by omega : 0 < 10))]
   rw [if_pos (by omega), if_neg (by omega), if_neg (by omega)]
   congr 1; omega
theorem dec_cons (u : Nat) : ∃ c r, Lib.decDigits u = c :: r ∧ 48 ≤ c.toNat ∧ c.toNat ≤ 57 := by
 induction u using Nat.strongRecOn with
 | _ u ih =>
  rw [Lib.decDigits]
  by_cases h : u < 10
  ·rw [dif_pos h]
   exact ⟨_, [], rfl, by rw [digit_nat h]; omega, by rw [digit_nat h]; omega⟩
  ·rw [dif_neg h]
   obtain ⟨c, r, e, h1, h2⟩ := ih (u / 10) (by omega)
   exact ⟨c, r ++ [UInt8.ofNat (48 + u % 10)], by rw [e]; rfl, h1, h2⟩
theorem mag_dec {u : Nat} (hu : u < 18446744073709551616) : Lib.parseMag (Lib.decDigits u) = .ok u := by
 obtain ⟨c, r, e, _⟩ := dec_cons u
 unfold Lib.parseMag
 rw [if_neg (by rw [e]; simp), pu_dec u hu]
theorem atoi_itoa {n : Int} (h0 : -9223372036854775808 ≤ n) (h1 : n ≤ 9223372036854775807) : Lib.atoiAll (Lib.itoa n) = .ok n := by
 unfold Lib.itoa
 split
 ·rw [Lib.atoiAll_minus, mag_dec (by omega)]
  simp only [Lib.signed]
  rw [if_neg (by omega)]
  congr 1; omega
 ·obtain ⟨c, r, e, hc1, hc2⟩ := dec_cons n.toNat
  rw [e, Lib.atoiAll_plain c r (by omega) (by omega), ← e, mag_dec (by omega)]
  simp only [Lib.signless]
  rw [if_neg (by omega)]
  congr 1; omega
def isD (b : UInt8) : Bool := decide (48 ≤ b.toNat) && decide (b.toNat ≤ 57)
def pStep (p : Nat × Nat) (b : UInt8) : Nat × Nat := if isD b = true then (p.1 * 10 + (b.toNat - 48), p.2 + 1) else p
def pN (l : List UInt8) : Nat × Nat := l.foldl pStep (0, 0)
theorem pN_snoc (l : List UInt8) (b : UInt8) : pN (l ++ [b]) = pStep (pN l) b := by rw [pN, List.foldl_append]; rfl
theorem pN_lt (l : List UInt8) : (pN l).1 < 10 ^ (pN l).2 ∧ (pN l).2 ≤ l.length := by
 have : ∀ (l : List UInt8) (p : Nat × Nat), p.1 < 10 ^ p.2 → (l.foldl pStep p).1 < 10 ^ (l.foldl pStep p).2 ∧ (l.foldl pStep p).2 ≤ p.2 + l.length := fun l => by
  induction l with
  | nil => exact fun p h => ⟨h, Nat.le_refl _⟩
  | cons b r ih =>
   intro p h
   have hp : (pStep p b).1 < 10 ^ (pStep p b).2 ∧ (pStep p b).2 ≤ p.2 + 1 := by
    unfold pStep
    split
    ·rename_i hd
     simp only [isD, Bool.and_eq_true, decide_eq_true_eq] at hd
     refine ⟨?_, Nat.le_refl _⟩
     show p.1 * 10 + (b.toNat - 48) < 10 ^ (p.2 + 1)
     rw [Nat.pow_succ]
     omega
    ·exact ⟨h, Nat.le_succ _⟩
   have := ih (pStep p b) hp.1
   refine ⟨this.1, ?_⟩
   rw [List.foldl_cons, List.length_cons]
   omega
 have h := this l (0, 0) (by decide)
 refine ⟨h.1, ?_⟩
 have := h.2
 simp only [Nat.zero_add] at this
 exact this
theorem pN_dec (u : Nat) : pN (Lib.decDigits u) = (u, (Lib.decDigits u).length) := by
 induction u using Nat.strongRecOn with
 | _ u ih =>
  have hd : ∀ q, q < 10 → isD (UInt8.ofNat (48 + q)) = true := fun q hq => by
   simp only [isD, digit_nat hq, Bool.and_eq_true, decide_eq_true_eq]; omega
  rw [Lib.decDigits]
  by_cases h : u < 10
  ·rw [dif_pos h, show [UInt8.ofNat (48 + u)] = [] ++ [UInt8.ofNat (48 + u)] from rfl, pN_snoc, pStep, if_pos (hd u h), digit_nat h]
   simp [pN]
  ·rw [dif_neg h, pN_snoc, ih (u / 10) (by omega), pStep, if_pos (hd _ (Nat.mod_lt u (by omega))), digit_nat (Nat.mod_lt u (by omega))]
   simp only [List.length_append, List.length_cons, List.length_nil, Prod.mk.injEq, and_true]
   omega
theorem pN_minus (l : List UInt8) : pN (45 :: l) = pN l := by
 show l.foldl pStep (pStep (0, 0) 45) = _
 rfl
theorem pN_itoa (n : Int) : pN (Lib.itoa n) = (n.natAbs, (Lib.decDigits n.natAbs).length) := by
 unfold Lib.itoa
 split
 ·rw [pN_minus, pN_dec]
 ·rw [show n.toNat = n.natAbs by omega, pN_dec]
/-- the number that a text spells, by the reference's way -/
def spV (s : ByteArray) : Int := if 0 < s.size ∧ chr s 0 = 45 then -((pN (s.data.toList.take 11)).1 : Int) else ((pN (s.data.toList.take 11)).1 : Int)
def rdOk (s : ByteArray) : Bool := decide ((pN (s.data.toList.take 11)).2 ≤ 9 ∧ s.size ≤ 10 ∧ decB (spV s) = s)
def rdS (s : ByteArray) : Int × Bool := if rdOk s = true then (spV s, true) else (0, false)
def rdIok (n : Int) (s : ByteArray) : Bool := decide (decB n = s ∧ -999999999 ≤ n ∧ n ≤ 999999999)
theorem decB_list (n : Int) : (decB n).data.toList = Lib.itoa n := rfl
theorem size_list (s : ByteArray) : s.size = s.data.toList.length := by rw [Array.length_toList]; rfl
theorem spV_bd (s : ByteArray) : -99999999999 ≤ spV s ∧ spV s ≤ 99999999999 := by
 have h := pN_lt (s.data.toList.take 11)
 have h2 : (s.data.toList.take 11).length ≤ 11 := by rw [List.length_take]; omega
 have h3 : 10 ^ (pN (s.data.toList.take 11)).2 ≤ 10 ^ 11 := Nat.pow_le_pow_right (by decide) (by omega)
 have h4 : (10 : Nat) ^ 11 = 100000000000 := by decide
 unfold spV
 split <;> omega
/-- what the reference takes, the library takes as the same number -/
theorem rd_ok {s : ByteArray} (h : rdOk s = true) : Lib.atoiAll s.data.toList = .ok (spV s) ∧ rdIok (spV s) s = true := by
 simp only [rdOk, decide_eq_true_eq] at h
 obtain ⟨h1, h2, h3⟩ := h
 have hb := spV_bd s
 refine ⟨?_, ?_⟩
 ·have := atoi_itoa (n := spV s) (by omega) (by omega)
  rw [← decB_list, h3] at this
  exact this
 ·have h := (pN_lt (s.data.toList.take 11)).1
  have h5 : 10 ^ (pN (s.data.toList.take 11)).2 ≤ 10 ^ 9 := Nat.pow_le_pow_right (by decide) h1
  have h4 : (10 : Nat) ^ 9 = 1000000000 := by decide
  refine decide_eq_true ⟨h3, ?_⟩
  unfold spV
  split <;> omega
theorem rd_back {s : ByteArray} {n : Int} (h : rdIok n s = true) : rdOk s = true ∧ spV s = n := by
 simp only [rdIok, decide_eq_true_eq] at h
 obtain ⟨h1, h2, h3⟩ := h
 have hd9 := dec_len 8 n.natAbs (Nat.lt_of_le_of_lt (m := 999999999) (by omega) (by decide))
 have hl : s.data.toList = Lib.itoa n := by rw [← h1, decB_list]
 have hlen : s.size ≤ 10 ∧ (n < 0 → 0 < s.size ∧ chr s 0 = 45) ∧ (¬ n < 0 → ¬ (0 < s.size ∧ chr s 0 = 45)) := by
  have hsz := size_list s
  rw [hl] at hsz
  unfold Lib.itoa at hsz hl
  by_cases hn : n < 0
  ·rw [if_pos hn] at hsz hl
   rw [List.length_cons] at hsz
   refine ⟨by omega, fun _ => ⟨by omega, by rw [chr, hl]; rfl⟩, fun h => absurd hn h⟩
  ·rw [if_neg hn] at hsz hl
   rw [show n.toNat = n.natAbs by omega] at hsz hl
   refine ⟨by omega, fun h => absurd h hn, fun _ ⟨_, h⟩ => ?_⟩
   obtain ⟨c, r, e, hc1, hc2⟩ := dec_cons n.natAbs
   rw [chr, hl, e] at h
   have h' : c = 45 := h
   rw [h'] at hc1
   exact absurd hc1 (by decide)
 have ht : s.data.toList.take 11 = Lib.itoa n := by
  rw [List.take_of_length_le (by rw [← size_list]; omega), hl]
 have hv : spV s = n := by
  unfold spV
  rw [ht, pN_itoa]
  by_cases hn : n < 0
  ·rw [if_pos (hlen.2.1 hn)]; show -((n.natAbs : Nat) : Int) = n; omega
  ·rw [if_neg (hlen.2.2 hn)]; show ((n.natAbs : Nat) : Int) = n; omega
 refine ⟨decide_eq_true ⟨?_, hlen.1, by rw [hv]; exact h1⟩, hv⟩
 rw [ht, pN_itoa]
 exact hd9
theorem rd_eq {s : ByteArray} {n : Int} {b : Bool} (h1 : b = false → Lib.atoiAll s.data.toList = .ok n) (h2 : b = true → ∀ v, Lib.atoiAll s.data.toList ≠ .ok v) : rdS s = if b = false ∧ rdIok n s = true then (n, true) else (0, false) := by
 unfold rdS
 by_cases hs : rdOk s = true
 ·obtain ⟨e1, e2⟩ := rd_ok hs
  cases b with
  | true => exact absurd e1 (h2 rfl _)
  | false =>
   have := h1 rfl
   rw [e1] at this
   cases this
   rw [if_pos hs, if_pos ⟨rfl, e2⟩]
 ·rw [if_neg hs, if_neg]
  rintro ⟨_, h⟩
  exact hs (rd_back h).1
end Go.Proofs.YtlploojfcmcckaaDoor.VM
