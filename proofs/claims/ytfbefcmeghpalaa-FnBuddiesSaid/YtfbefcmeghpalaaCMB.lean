/- Contracts of functions of the program. No conditions beyond those that each states. -/
import Derived.Test.YtfbefcmeghpalaaCM0
set_option linter.all false
namespace Go.Proofs.Ytfbefcmeghpalaa.VM
/-! the buddies, as plain functions -/
def paint (u : List Bool) (f : Nat) : Nat → Option (List Bool)
 | 0 => some u
 | c + 1 => if u.getD f false then none else paint (u.set f true) (f + 1) c
def row (bad bud : Nat → Bool) (pos : Nat → Nat) (m : Nat) : Nat → Nat → List Bool → Option (List Bool)
 | 0, _, u => some u
 | c + 1, j, u => if bad j then none else match paint u (pos j) m with
  | none => none
  | some u' => if bud j then none else row bad bud pos m c (j + 1) u'
theorem row_some {bad bud : Nat → Bool} {pos : Nat → Nat} {m : Nat} : ∀ {c j : Nat} {u v : List Bool}, row bad bud pos m c j u = some v → ∀ i, j ≤ i → i < j + c → bad i = false
 | 0, j, u, v, _, i, h1, h2 => by omega
 | c + 1, j, u, v, h, i, h1, h2 => by
  rw [row] at h
  cases hb : bad j with
  | true => rw [hb, if_pos rfl] at h; cases h
  | false =>
   rw [hb, if_neg (by simp)] at h
   rcases Nat.eq_or_lt_of_le h1 with rfl | hlt
   ·exact hb
   ·cases hp : paint u (pos j) m with
    | none => rw [hp] at h; cases h
    | some u' =>
     rw [hp] at h
     simp only at h
     split at h
     ·cases h
     ·exact row_some h i (by omega) (by omega)
theorem row_eq {bad budS budI : Nat → Bool} {pos : Nat → Nat} {m n : Nat} (hSI : ∀ i, i < n → bad i = false → budS i = true → budI i = true)
  (hIS : ∀ i, i < n → bad i = false → budI i = true → budS i = false → (∃ i', i' < i ∧ budS i' = true) ∨ ∃ q, i < q ∧ q < n ∧ bad q = true) : ∀ {c j : Nat} {u : List Bool}, j + c = n → (∀ i, i < j → budS i = false) → row bad budI pos m c j u = row bad budS pos m c j u
 | 0, _, _, _, _ => rfl
 | c + 1, j, u, hn, hinv => by
  rw [row, row]
  cases hb : bad j with
  | true => rfl
  | false =>
   simp only [Bool.false_eq_true, if_false]
   cases hp : paint u (pos j) m with
   | none => rfl
   | some u' =>
    simp only
    cases hS : budS j with
    | true =>
     simp only [hSI j (by omega) hb hS, if_true]
    | false =>
     simp only [Bool.false_eq_true, if_false]
     cases hI : budI j with
     | false =>
      simp only [Bool.false_eq_true, if_false]
      exact row_eq hSI hIS (by omega) fun i hi => by
       rcases Nat.lt_or_ge i j with h | h
       ·exact hinv i h
       ·rw [show i = j by omega]; exact hS
     | true =>
      simp only [if_true]
      symm
      rcases hIS j (by omega) hb hI hS with ⟨i', h1, h2⟩ | ⟨q, h1, h2, h3⟩
      ·rw [hinv i' h1] at h2; cases h2
      ·cases hr : row bad budS pos m c (j + 1) u' with
       | none => rfl
       | some v =>
        have := row_some hr q (by omega) (by omega)
        rw [h3] at this; cases this
def rows (R : Nat → List Bool → Option (List Bool)) : Nat → Nat → List Bool → Bool
 | 0, _, _ => true
 | c + 1, k, u => match R k u with
  | none => false
  | some u' => rows R c (k + 1) u'
theorem rows_congr {R R' : Nat → List Bool → Option (List Bool)} (h : ∀ k u, k < 5 → R k u = R' k u) : ∀ {c k : Nat} {u : List Bool}, k + c = 5 → rows R c k u = rows R' c k u
 | 0, _, _, _ => rfl
 | c + 1, k, u, hk => by
  rw [rows, rows, h k u (by omega)]
  cases R' k u with
  | none => rfl
  | some u' => exact rows_congr h (by omega)
def bad (k : Nat) (l : List Int) (j : Nat) : Bool := decide (l.getD j 0 < 0 ∨ 16 ≤ l.getD j 0 ∨ l.getD j 0 % (2 ^ k : Nat) ≠ 0 ∨ (0 < j ∧ l.getD j 0 ≤ l.getD (j - 1) 0))
def budS (k : Nat) (l : List Int) (j : Nat) : Bool := decide (k < 4 ∧ l.getD j 0 % (2 ^ (k + 1) : Nat) = 0 ∧ (l.getD j 0 + (2 ^ k : Nat)) ∈ l)
def budI (k : Nat) (l : List Int) (j : Nat) : Bool := decide (k < 4 ∧ (((l.getD j 0).toNat ^^^ 2 ^ k : Nat) : Int) ∈ l)
def posL (l : List Int) (j : Nat) : Nat := (l.getD j 0).toNat
def rowS (free : List (List Int)) (k : Nat) (u : List Bool) : Option (List Bool) := row (bad k (free.getD k [])) (budS k (free.getD k [])) (posL (free.getD k [])) (2 ^ k) (free.getD k []).length 0 u
def rowI (free : List (List Int)) (k : Nat) (u : List Bool) : Option (List Bool) := row (bad k (free.getD k [])) (budI k (free.getD k [])) (posL (free.getD k [])) (2 ^ k) (free.getD k []).length 0 u
def okS (free : List (List Int)) : Bool := if free.length = 5 then rows (rowS free) 5 0 (List.replicate 16 false) else false
def okI (free : List (List Int)) : Bool := if free.length = 5 then rows (rowI free) 5 0 (List.replicate 16 false) else false
theorem xor_small : ∀ n, n < 16 → ∀ k, k < 4 → n % 2 ^ k = 0 → n ^^^ 2 ^ k = if n % 2 ^ (k + 1) = 0 then n + 2 ^ k else n - 2 ^ k := by decide
theorem mod_small : ∀ n, n < 16 → ∀ k, k < 4 → n % 2 ^ k = 0 → n % 2 ^ (k + 1) ≠ 0 → 2 ^ k ≤ n ∧ (n - 2 ^ k) % 2 ^ (k + 1) = 0 := by decide
theorem sorted_le {l : List Int} {k i : Nat} : ∀ {d : Nat}, (∀ q, i < q → q ≤ i + d → bad k l q = false) → l.getD i 0 ≤ l.getD (i + d) 0
 | 0, _ => Int.le_refl _
 | d + 1, h => by
  have h1 := sorted_le (l := l) (k := k) (i := i) (d := d) fun q h1 h2 => h q h1 (by omega)
  have h2 := h (i + (d + 1)) (by omega) (by omega)
  simp only [bad, decide_eq_false_iff_not, not_or, not_and] at h2
  have h3 := h2.2.2.2 (by omega)
  rw [show i + (d + 1) - 1 = i + d by omega] at h3
  omega
theorem ok_eq (free : List (List Int)) : okI free = okS free := by
 unfold okI okS
 split
 ·refine rows_congr (fun k u hk => ?_) (by omega)
  unfold rowI rowS
  generalize free.getD k [] = l
  refine row_eq (n := l.length) (fun i hi hb hs => ?_) (fun i hi hb hI hS => ?_) (by omega) (by omega)
  ·simp only [bad, decide_eq_false_iff_not, not_or, not_and, Decidable.not_not] at hb
   obtain ⟨b1, b2, b3, _⟩ := hb
   simp only [budS, budI, decide_eq_true_eq] at hs ⊢
   obtain ⟨hk4, h2, h3⟩ := hs
   refine ⟨hk4, ?_⟩
   obtain ⟨n, hn⟩ := Int.eq_ofNat_of_zero_le (by omega : 0 ≤ l.getD i 0)
   rw [hn] at b2 b3 h2 h3 ⊢
   rw [Int.toNat_natCast, xor_small n (by omega) k hk4 (by omega), if_pos (by omega)]
   rw [Int.natCast_add]; exact h3
  ·simp only [bad, decide_eq_false_iff_not, not_or, not_and, Decidable.not_not] at hb
   obtain ⟨b1, b2, b3, _⟩ := hb
   simp only [budS, budI, decide_eq_true_eq, decide_eq_false_iff_not, not_and] at hI hS
   obtain ⟨hk4, h2⟩ := hI
   obtain ⟨n, hn⟩ := Int.eq_ofNat_of_zero_le (by omega : 0 ≤ l.getD i 0)
   rw [hn] at b2 b3 h2 hS
   rw [Int.toNat_natCast, xor_small n (by omega) k hk4 (by omega)] at h2
   by_cases h0 : n % 2 ^ (k + 1) = 0
   ·rw [if_pos h0, Int.natCast_add] at h2
    exact absurd h2 (hS hk4 (by omega))
   ·rw [if_neg h0] at h2
    obtain ⟨m1, m2⟩ := mod_small n (by omega) k hk4 (by omega) h0
    obtain ⟨i', hi', he⟩ := List.mem_iff_getElem.1 h2
    have hg : l.getD i' 0 = ((n - 2 ^ k : Nat) : Int) := by rw [← he]; simp [hi']
    have hp : 0 < 2 ^ k := Nat.pow_pos (by omega)
    rcases Nat.lt_trichotomy i' i with hlt | rfl | hgt
    ·refine .inl ⟨i', hlt, ?_⟩
     simp only [budS, decide_eq_true_eq]
     refine ⟨hk4, by rw [hg]; omega, ?_⟩
     rw [hg, ← Int.natCast_add, show n - 2 ^ k + 2 ^ k = n by omega]
     have : l.getD i 0 = l[i] := by simp [hi]
     rw [show ((n : Nat) : Int) = l[i] by rw [← this, hn]]
     exact List.getElem_mem hi
    ·rw [hn] at hg
     have : (n : Int) = ((n - 2 ^ k : Nat) : Int) := hg
     omega
    ·refine .inr ?_
     apply Classical.byContradiction
     intro hno
     have hs := sorted_le (l := l) (k := k) (i := i) (d := i' - i) fun q h1 h2 => by
      cases hq : bad k l q with
      | false => rfl
      | true => exact absurd ⟨q, h1, by omega, hq⟩ hno
     rw [show i + (i' - i) = i' by omega, hg, hn] at hs
     have : (n : Int) ≤ ((n - 2 ^ k : Nat) : Int) := hs
     omega
 ·rfl
theorem paint_hit {u : List Bool} {f c : Nat} (h : u.getD f false = true) (hc : 0 < c) : paint u f c = none := by
 obtain ⟨d, rfl⟩ : ∃ d, c = d + 1 := ⟨c - 1, by omega⟩
 rw [paint, if_pos h]
theorem paint_next {u : List Bool} {f c : Nat} (h : u.getD f false = false) (hc : 0 < c) : paint u f c = paint (u.set f true) (f + 1) (c - 1) := by
 obtain ⟨d, rfl⟩ : ∃ d, c = d + 1 := ⟨c - 1, by omega⟩
 rw [paint, if_neg (by rw [h]; simp), Nat.add_sub_cancel]
section
variable {bad bud : Nat → Bool} {pos : Nat → Nat} {m c j : Nat} {u u' : List Bool}
theorem row_bad (h : bad j = true) (hc : 0 < c) : row bad bud pos m c j u = none := by
 obtain ⟨d, rfl⟩ : ∃ d, c = d + 1 := ⟨c - 1, by omega⟩
 rw [row, if_pos h]
theorem row_paint (h : paint u (pos j) m = none) (hc : 0 < c) : row bad bud pos m c j u = none := by
 obtain ⟨d, rfl⟩ : ∃ d, c = d + 1 := ⟨c - 1, by omega⟩
 rw [row]
 split
 ·rfl
 ·rw [h]
theorem row_bud (h : paint u (pos j) m = some u') (hb : bud j = true) (hc : 0 < c) : row bad bud pos m c j u = none := by
 obtain ⟨d, rfl⟩ : ∃ d, c = d + 1 := ⟨c - 1, by omega⟩
 rw [row]
 split
 ·rfl
 ·rw [h]; try simp only [hb, if_true]
theorem row_next (h0 : bad j = false) (h : paint u (pos j) m = some u') (hb : bud j = false) (hc : 0 < c) : row bad bud pos m c j u = row bad bud pos m (c - 1) (j + 1) u' := by
 obtain ⟨d, rfl⟩ : ∃ d, c = d + 1 := ⟨c - 1, by omega⟩
 rw [row, if_neg (by rw [h0]; simp), h]
 simp only [hb, Bool.false_eq_true, if_false, Nat.add_sub_cancel]
end
section
variable {R : Nat → List Bool → Option (List Bool)} {c k : Nat} {u u' : List Bool}
theorem rows_none (h : R k u = none) (hc : 0 < c) : rows R c k u = false := by
 obtain ⟨d, rfl⟩ : ∃ d, c = d + 1 := ⟨c - 1, by omega⟩
 rw [rows, h]
theorem rows_next (h : R k u = some u') (hc : 0 < c) : rows R c k u = rows R (c - 1) (k + 1) u' := by
 obtain ⟨d, rfl⟩ : ∃ d, c = d + 1 := ⟨c - 1, by omega⟩
 rw [rows, h, Nat.add_sub_cancel]
end
structure OutB (R : Nat → List Bool → Option (List Bool)) (ok : Bool) where
 k : Nat
 le : k ≤ 5
 u : List Bool
 ul : u.length = 16
 eq : ok = rows R (5 - k) k u
structure MidB (l : List Int) (bud : Nat → Bool) (kk : Nat) (r : Option (List Bool)) where
 k : Nat
 le : k ≤ l.length
 u : List Bool
 ul : u.length = 16
 eq : r = row (bad kk l) bud (posL l) (2 ^ kk) (l.length - k) k u
structure InB (r : Option (List Bool)) (s e : Nat) where
 k : Nat
 le : k ≤ e
 ge : s ≤ k
 u : List Bool
 ul : u.length = 16
 eq : r = paint u k (e - k)
theorem sim_rep (n : Nat) : (T.s 1 n fun _ j => [T.v (.bool false)].getD j .j).sim (tr (List.replicate n false)) := by
 refine ⟨fun k c => (En.cs ((List.replicate n false).getD k En.dflt)).getD c .j, by simp only [tr, List.length_replicate]; rfl, fun k c hk hc => ?_⟩
 match c, hc with
 | 0, _ =>
  show T.sim (.v (.bool false)) (.v (.bool ((List.replicate n false).getD k En.dflt)))
  rw [show (List.replicate n false).getD k En.dflt = false by simp [List.getD_eq_getElem?_getD, List.getElem?_replicate, hk]]
  exact T.sim_refl _
 | c + 1, hc => exact absurd hc (by omega)
theorem pbShl1 {k : Nat} (h : k ≤ 5) : pureBin .shl (iv 1) (.int .u64 (IntKind.u64.wrap (k : Int))) = some (iv ((2 ^ k : Nat) : Int)) := by
 match k, h with
 | 0, _ => rfl
 | 1, _ => rfl
 | 2, _ => rfl
 | 3, _ => rfl
 | 4, _ => rfl
 | 5, _ => rfl
 | k + 6, h => omega
theorem pbShl1i {k : Nat} (h : k ≤ 5) : pureBin .shl (iv 1) (iv (k : Int)) = some (iv ((2 ^ k : Nat) : Int)) := by
 match k, h with
 | 0, _ => rfl
 | 1, _ => rfl
 | 2, _ => rfl
 | 3, _ => rfl
 | 4, _ => rfl
 | 5, _ => rfl
 | k + 6, h => omega
theorem pow5 {k : Nat} (h : k < 5) : 0 < 2 ^ k ∧ 2 ^ k ≤ 16 := by
 match k, h with
 | 0, _ => decide
 | 1, _ => decide
 | 2, _ => decide
 | 3, _ => decide
 | 4, _ => decide
 | k + 5, h => omega
theorem block_in {n k : Nat} (hn : n < 16) (hk : k < 5) (h : n % 2 ^ k = 0) : n + 2 ^ k ≤ 16 := by
 have : ∀ n, n < 16 → ∀ k, k < 5 → n % 2 ^ k = 0 → n + 2 ^ k ≤ 16 := by decide
 exact this n hn k hk h
theorem notBad {k j : Nat} {l : List Int} (h : bad k l j = false) : 0 ≤ l.getD j 0 ∧ l.getD j 0 < 16 ∧ l.getD j 0 % (2 ^ k : Nat) = 0 := by
 simp only [bad, decide_eq_false_iff_not, not_or, Decidable.not_not] at h
 omega
end Go.Proofs.Ytfbefcmeghpalaa.VM
namespace Go.Proofs.Ytfbefcmeghpalaa.VM
open Go Go.RowKit
theorem pbRemI {a b : Int} (h : b ≠ 0) : pureBin .rem (iv a) (iv b) = some (iv (a.tmod b)) := by
 show (if b = 0 then none else some (Value.int .i64 (a.tmod b))) = _
 rw [if_neg h]
theorem bad_S {k j : Nat} {l : List Int} : (decide (l.getD j 0 < 0) || decide (l.getD j 0 ≥ 16) || (l.getD j 0).tmod ((2 ^ k : Nat) : Int) != 0 || decide ((j : Int) > 0) && decide (l.getD ((j : Int) - 1).toNat 0 ≥ l.getD j 0)) = bad k l j := by
 rw [Bool.eq_iff_iff]
 have hj : ((j : Int) - 1).toNat = j - 1 := by omega
 simp only [bad, hj, Bool.or_eq_true, Bool.and_eq_true, decide_eq_true_eq, bne_iff_ne, ne_eq]
 generalize l.getD j 0 = x
 generalize l.getD (j - 1) 0 = y
 generalize ((2 ^ k : Nat) : Int) = z
 rcases Int.lt_or_le x 0 with h | h
 ·simp [h]
 ·rw [Int.tmod_eq_emod_of_nonneg h]
  have hj2 : ((j : Int) > 0) ↔ 0 < j := by omega
  simp only [hj2, ge_iff_le]
  constructor
  ·rintro (((h1 | h1) | h1) | h1)
   ·exact .inl h1
   ·exact .inr (.inl h1)
   ·exact .inr (.inr (.inl h1))
   ·exact .inr (.inr (.inr h1))
  ·rintro (h1 | h1 | h1 | h1)
   ·exact .inl (.inl (.inl h1))
   ·exact .inl (.inl (.inr h1))
   ·exact .inl (.inr h1)
   ·exact .inr h1
theorem bud_S {k j : Nat} {l : List Int} (h : 0 ≤ l.getD j 0) : (decide ((k : Int) < 4) && (l.getD j 0).tmod (2 * ((2 ^ k : Nat) : Int)) == 0 && decide (l.getD j 0 + ((2 ^ k : Nat) : Int) ∈ l)) = budS k l j := by
 rw [Bool.eq_iff_iff]
 simp only [budS, Bool.and_eq_true, decide_eq_true_eq, beq_iff_eq]
 rw [Int.tmod_eq_emod_of_nonneg h, show (2 * ((2 ^ k : Nat) : Int)) = ((2 ^ (k + 1) : Nat) : Int) by rw [Nat.pow_succ]; omega]
 have hk : (k : Int) < 4 ↔ k < 4 := by omega
 rw [hk, and_assoc]
end Go.Proofs.Ytfbefcmeghpalaa.VM
namespace Go.Proofs.Ytfbefcmeghpalaa.VM
open Go Go.RowKit
def lastL (l : List Int) : Nat → Int
 | 0 => -1
 | j + 1 => l.getD j 0
def frame (x : Int) : Bool := decide (0 ≤ x) && decide (x ≤ 15)
theorem bad_I {k j : Nat} {l : List Int} : (!(frame (l.getD j 0)) || decide (l.getD j 0 ≤ lastL l j) || (l.getD j 0).tmod ((2 ^ k : Nat) : Int) != 0) = bad k l j := by
 rw [Bool.eq_iff_iff]
 simp only [bad, frame, Bool.or_eq_true, Bool.not_eq_true', Bool.and_eq_false_iff, decide_eq_true_eq, decide_eq_false_iff_not, bne_iff_ne, ne_eq]
 have hl : 0 ≤ l.getD j 0 → (l.getD j 0 ≤ lastL l j ↔ (0 < j ∧ l.getD j 0 ≤ l.getD (j - 1) 0)) := by
  intro h
  match j with
  | 0 => simp only [lastL]; omega
  | j + 1 => simp only [lastL, Nat.add_sub_cancel]; omega
 revert hl
 generalize l.getD j 0 = x
 generalize l.getD (j - 1) 0 = y
 generalize lastL l j = w
 generalize ((2 ^ k : Nat) : Int) = z
 intro hl
 rcases Int.lt_or_le x 0 with h | h
 ·simp [h]
  try omega
 ·rw [Int.tmod_eq_emod_of_nonneg h, hl h]
  constructor
  ·rintro ((h1 | h1) | h1)
   ·omega
   ·exact .inr (.inr (.inr h1))
   ·exact .inr (.inr (.inl h1))
  ·rintro (h1 | h1 | h1 | h1)
   ·omega
   ·exact .inl (.inl (.inr (by omega)))
   ·exact .inr h1
   ·exact .inl (.inr h1)
theorem bud_I {k j : Nat} {l : List Int} : (decide ((k : Int) < 4) && decide (((posL l j ^^^ 2 ^ k : Nat) : Int) ∈ l)) = budI k l j := by
 have hk : (k : Int) < 4 ↔ k < 4 := by omega
 unfold posL budI
 rw [Bool.eq_iff_iff]
 simp only [Bool.and_eq_true, decide_eq_true_eq]
 rw [hk]
end Go.Proofs.Ytfbefcmeghpalaa.VM
