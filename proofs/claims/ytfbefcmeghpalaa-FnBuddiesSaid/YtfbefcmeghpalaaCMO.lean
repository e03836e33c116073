/- Contracts of functions of the program. No conditions beyond those that each states. -/
import Derived.Test.YtfbefcmeghpalaaCMM
import Derived.Test.YtfbefcmeghpalaaCMK
import Derived.Test.YtfbefcmeghpalaaCML
import Derived.Test.YtfbefcmeghpalaaCME
set_option linter.all false
namespace Go.Proofs.Ytfbefcmeghpalaa.VM
open Go Go.RowKit
def pS : List Int → Int → List Int
 | [], x => [x]
 | a :: t, x => if x < a then x :: a :: t else a :: pS t x
theorem pS_no : ∀ {s : List Int} {x : Int} (t : List Int), (∀ y ∈ s, ¬ x < y) → pS (s ++ t) x = s ++ pS t x
 | [], _, _, _ => rfl
 | a :: s, x, t, h => by
  rw [List.cons_append, pS, if_neg (h a (by simp)), pS_no t fun y hy => h y (by simp [hy])]
  rfl
theorem pS_yes : ∀ {s : List Int} {x : Int} (t : List Int), (∃ y ∈ s, x < y) → pS (s ++ t) x = pS s x ++ t
 | [], _, _, ⟨y, hy, _⟩ => by simp at hy
 | a :: s, x, t, ⟨y, hy, h⟩ => by
  rw [List.cons_append, pS, pS]
  by_cases ha : x < a
  ·rw [if_pos ha, if_pos ha]; rfl
  ·rw [if_neg ha, if_neg ha, pS_yes t ⟨y, ?_, h⟩]
   ·rfl
   ·rcases List.mem_cons.1 hy with rfl | hy
    ·exact absurd h ha
    ·exact hy
theorem take_snoc' {l : List Int} {k : Nat} (h : k < l.length) : l.take (k + 1) = l.take k ++ [l.getD k En.dflt] := take_snoc En.dflt h
theorem flagP_iff {l : List Int} {x : Int} : ∀ {k : Nat}, k ≤ l.length → (flagP l x k = true ↔ ∃ y ∈ l.take k, x < y)
 | 0, _ => by simp [flagP]
 | k + 1, h => by
  have := flagP_iff (l := l) (x := x) (k := k) (by omega)
  rw [flagP, Bool.or_eq_true, this, take_snoc' (by omega), decide_eq_true_eq]
  constructor
  ·rintro (⟨y, h1, h2⟩ | h1)
   ·exact ⟨y, List.mem_append.2 (.inl h1), h2⟩
   ·exact ⟨_, List.mem_append.2 (.inr (List.mem_singleton.2 rfl)), h1⟩
  ·rintro ⟨y, h1, h2⟩
   rcases List.mem_append.1 h1 with h1 | h1
   ·exact .inl ⟨y, h1, h2⟩
   ·rw [List.mem_singleton] at h1; subst h1; exact .inr h2
theorem accP_eq {l : List Int} {x : Int} : ∀ {k : Nat}, k ≤ l.length → accP l x k = if flagP l x k = true then pS (l.take k) x else l.take k
 | 0, _ => by simp [accP, flagP]
 | k + 1, h => by
  have ih := accP_eq (l := l) (x := x) (k := k) (by omega)
  have hf := flagP_iff (l := l) (x := x) (k := k) (by omega)
  rw [accP, ih, flagP, take_snoc' (by omega)]
  cases hb : flagP l x k with
  | true =>
   simp only [Bool.not_true, Bool.false_and, Bool.false_eq_true, if_false, if_true, Bool.true_or]
   rw [pS_yes _ (hf.1 hb)]
  | false =>
   have hn : ∀ y ∈ l.take k, ¬ x < y := fun y h1 h2 => by rw [hf.2 ⟨y, h1, h2⟩] at hb; cases hb
   simp only [Bool.not_false, Bool.true_and, Bool.false_or, decide_eq_true_eq, Bool.false_eq_true, if_false]
   by_cases hx : x < l.getD k En.dflt
   ·rw [if_pos hx, if_pos hx, pS_no _ hn, pS, if_pos hx]
    simp
   ·rw [if_neg hx, if_neg hx]
theorem putS_pS (l : List Int) (x : Int) : putS l x = pS l x := by
 have hf := flagP_iff (l := l) (x := x) (k := l.length) (Nat.le_refl _)
 rw [putS, accP_eq (Nat.le_refl _), List.take_length]
 rw [List.take_length] at hf
 cases hb : flagP l x l.length with
 | true => simp
 | false =>
  have hn : ∀ y ∈ l, ¬ x < y := fun y h1 h2 => by rw [hf.2 ⟨y, h1, h2⟩] at hb; cases hb
  simp only [Bool.false_eq_true, if_false]
  have := pS_no (s := l) (x := x) [] hn
  rw [List.append_nil] at this
  rw [this]; rfl
theorem pS_ge : ∀ {l : List Int} {x : Int}, (∀ y ∈ l, x ≤ y) → pS l x = x :: l
 | [], _, _ => rfl
 | a :: l, x, h => by
  rw [pS]
  split
  ·rfl
  ·have h1 := h a (by simp)
   rw [pS_ge fun y hy => h y (by simp [hy]), show a = x by omega]
theorem insI_pS : ∀ {l : List Int} {x : Int}, l.Pairwise (· ≤ ·) → insI l (l.countP (· < x)) x = pS l x
 | [], _, _ => rfl
 | a :: l, x, h => by
  rw [List.pairwise_cons] at h
  by_cases ha : a < x
  ·rw [List.countP_cons_of_pos (by simpa using ha), pS, if_neg (by omega), ← insI_pS h.2]
   rfl
  ·have h0 : (a :: l).countP (· < x) = 0 := by
    rw [List.countP_eq_zero]
    intro y hy
    simp only [decide_eq_true_eq]
    rcases List.mem_cons.1 hy with rfl | hy
    ·exact ha
    ·have := h.1 y hy; omega
   rw [h0, pS_ge fun y hy => ?_]
   ·rfl
   ·rcases List.mem_cons.1 hy with rfl | hy
    ·omega
    ·have := h.1 y hy; omega
theorem insI_put {l : List Int} {x : Int} (h : l.Pairwise (· ≤ ·)) : insI l (l.countP (· < x)) x = putS l x := by rw [insI_pS h, putS_pS]
/-- a rising list without one of its numbers -/
theorem filter_cut : ∀ {l : List Int} {x : Int} {i : Nat}, l.Pairwise (· < ·) → l.findIdx? (fun y => x == y) = some i → l.filter (fun y => y != x) = l.take i ++ l.drop (i + 1)
 | [], x, i, _, h => by simp at h
 | a :: l, x, i, hp, h => by
  rw [List.pairwise_cons] at hp
  rw [List.findIdx?_cons] at h
  by_cases ha : x = a
  ·subst ha
   simp only [beq_self_eq_true, if_true, Option.some.injEq] at h
   subst h
   rw [List.filter_cons_of_neg (by simp)]
   simp only [List.take_zero, List.nil_append, Nat.zero_add, List.drop_succ_cons, List.drop_zero]
   rw [List.filter_eq_self]
   intro y hy
   have := hp.1 y hy
   exact bne_iff_ne.2 (by omega)
  ·rw [if_neg (by simpa using ha)] at h
   cases hl : l.findIdx? (fun y => x == y) with
   | none => rw [hl] at h; cases h
   | some j =>
    rw [hl] at h
    simp only [Option.map_some, Option.some.injEq] at h
    subst h
    rw [List.filter_cons_of_pos (by simpa using fun e => ha e.symm), filter_cut hp.2 hl]
    rfl
/-- the buddy, as the reference says it -/
def oth (f : Int) (o : Nat) : Int := if f % ((2 ^ (o + 1) : Nat) : Int) = 0 then f + ((2 ^ o : Nat) : Int) else f - ((2 ^ o : Nat) : Int)
def hitS (S : List (List Int)) (f : Int) (o : Nat) : Prop := (f - f % ((2 ^ o : Nat) : Int)) ∈ S.getD o En.dflt
instance (S : List (List Int)) (f : Int) (o : Nat) : Decidable (hitS S f o) := inferInstanceAs (Decidable (_ ∈ _))
def isS (S : List (List Int)) (f : Int) : Bool := decide (∃ o, o < S.length ∧ hitS S f o)
structure IsInv (S : List (List Int)) (f : Int) where
 k : Nat
 le : k ≤ S.length
 no : ∀ j, j < k → ¬ hitS S f j
theorem IsInv.yes {S : List (List Int)} {f : Int} (i : IsInv S f) (hk : i.k < S.length) (h : hitS S f i.k) : isS S f = true := decide_eq_true ⟨_, hk, h⟩
theorem IsInv.not {S : List (List Int)} {f : Int} (i : IsInv S f) (hk : ¬ i.k < S.length) : isS S f = false := decide_eq_false fun ⟨o, h1, h2⟩ => i.no o (by omega) h2
theorem IsInv.next {S : List (List Int)} {f : Int} (i : IsInv S f) (h : ¬ hitS S f i.k) : ∀ j, j < i.k + 1 → ¬ hitS S f j := fun j hj => by
 rcases Nat.lt_or_ge j i.k with h1 | h1
 ·exact i.no j h1
 ·rw [show j = i.k by omega]; exact h
def gv : Nat → List (List Int) → Int → Nat → List (List Int) × Int × Nat
 | 0, S, f, o => (S, f, o)
 | n + 1, S, f, o => if oth f o ∈ S.getD o En.dflt then gv n (S.set o ((S.getD o En.dflt).filter fun y => y != oth f o)) (min f (oth f o)) (o + 1) else (S, f, o)
def gvR (r : List (List Int) × Int × Nat) : List (List Int) := r.1.set r.2.2 (putS (r.1.getD r.2.2 En.dflt) r.2.1)

theorem frame_iff {f : Int} : frame f = true ↔ 0 ≤ f ∧ f < 16 := by
 simp only [frame, Bool.and_eq_true, decide_eq_true_eq]; omega
theorem tm_facts {f : Int} {k : Nat} (h : 0 ≤ f) : f.tmod ((2 ^ k : Nat) : Int) = f % ((2 ^ k : Nat) : Int) ∧ 0 ≤ f % ((2 ^ k : Nat) : Int) ∧ f % ((2 ^ k : Nat) : Int) ≤ f := by
 obtain ⟨n, rfl⟩ := Int.eq_ofNat_of_zero_le h
 refine ⟨Int.tmod_eq_emod_of_nonneg h, ?_, ?_⟩
 ·exact Int.emod_nonneg _ (by have : 0 < 2 ^ k := Nat.pow_pos (by omega); omega)
 ·have h1 : ((n : Int) % ((2 ^ k : Nat) : Int)) = ((n % 2 ^ k : Nat) : Int) := by rw [Int.natCast_emod]
  have h2 : n % 2 ^ k ≤ n := Nat.mod_le _ _
  rw [h1]
  exact Int.ofNat_le.2 h2
def gS (S : List (List Int)) (f : Int) : List (List Int) × Bool := if frame f = true ∧ isS S f = false then (gvR (gv 4 S f 0), true) else (S, false)
/-- what stays true of the rows -/
structure GRow (S : List (List Int)) : Prop where
 len : S.length = 5
 up : ∀ k, k < 5 → (S.getD k En.dflt).Pairwise (· < ·)
 few : ∀ k, k < 5 → (S.getD k En.dflt).length ≤ 16
structure GInv (S : List (List Int)) (f : Int) where
 o : Nat
 le : o ≤ 4
 T : List (List Int)
 g : Nat
 eq : gv 4 S f 0 = gv (4 - o) T g o
 lt : g < 16
 dv : g % 2 ^ o = 0
 ok : GRow T
theorem GRow.set {S : List (List Int)} (h : GRow S) {o : Nat} {p : Int → Bool} : GRow (S.set o ((S.getD o En.dflt).filter p)) := by
 refine ⟨by rw [List.length_set]; exact h.len, fun k hk => ?_, fun k hk => ?_⟩
 ·rw [List.getD_eq_getElem?_getD, List.getElem?_set]
  split
  ·rename_i e; subst e
   split
   ·exact (h.up o hk).filter _
   ·exact List.Pairwise.nil
  ·rw [← List.getD_eq_getElem?_getD]; exact h.up k hk
 ·rw [List.getD_eq_getElem?_getD, List.getElem?_set]
  split
  ·rename_i e; subst e
   split
   ·exact Nat.le_trans (List.length_filter_le ..) (h.few o hk)
   ·exact Nat.zero_le _
  ·rw [← List.getD_eq_getElem?_getD]; exact h.few k hk
theorem min_small : ∀ n, n < 16 → ∀ k, k < 4 → n % 2 ^ k = 0 → min n (n ^^^ 2 ^ k) < 16 ∧ min n (n ^^^ 2 ^ k) % 2 ^ (k + 1) = 0 := by decide
theorem oth_xor {n k : Nat} (hn : n < 16) (hk : k < 4) (h : n % 2 ^ k = 0) : oth (n : Int) k = ((n ^^^ 2 ^ k : Nat) : Int) := by
 have h1 := xor_small n hn k hk h
 have h2 := mod_small n hn k hk h
 unfold oth
 by_cases h0 : n % 2 ^ (k + 1) = 0
 ·rw [if_pos (by exact_mod_cast h0), h1, if_pos h0, Int.natCast_add]
 ·rw [if_neg (by exact_mod_cast h0), h1, if_neg h0, Int.ofNat_sub (h2 h0).1]
theorem min_cast {n m : Nat} : min (n : Int) (m : Int) = ((min n m : Nat) : Int) := by omega
def GInv.step {S : List (List Int)} {f : Int} (i : GInv S f) (ho : i.o < 4) (h : oth i.g i.o ∈ i.T.getD i.o En.dflt) : GInv S f where
 o := i.o + 1
 le := by omega
 T := i.T.set i.o ((i.T.getD i.o En.dflt).filter fun y => y != oth i.g i.o)
 g := min i.g (i.g ^^^ 2 ^ i.o)
 eq := by
  rw [i.eq, show 4 - i.o = (4 - (i.o + 1)) + 1 by omega, gv, if_pos h, ← min_cast, ← oth_xor i.lt ho i.dv]
 lt := (min_small i.g i.lt i.o ho i.dv).1
 dv := (min_small i.g i.lt i.o ho i.dv).2
 ok := i.ok.set
theorem GInv.fin {S : List (List Int)} {f : Int} (i : GInv S f) (h : i.o = 4 ∨ ¬ oth i.g i.o ∈ i.T.getD i.o En.dflt) : gv 4 S f 0 = (i.T, (i.g : Int), i.o) := by
 rw [i.eq]
 rcases Nat.eq_or_lt_of_le i.le with h4 | h4
 ·rw [h4]; rfl
 ·rw [show 4 - i.o = (4 - (i.o + 1)) + 1 by omega, gv, if_neg]
  rcases h with h | h
  ·omega
  ·exact h
theorem up_le {l : List Int} (h : l.Pairwise (· < ·)) : l.Pairwise (· ≤ ·) := h.imp fun h => by omega
theorem up_few : ∀ {l : List Int} {a b : Int}, l.Pairwise (· < ·) → (∀ y ∈ l, a ≤ y ∧ y < b) → a ≤ b → (l.length : Int) ≤ b - a
 | [], a, b, _, _, h => by simp; omega
 | x :: l, a, b, hp, h, hab => by
  rw [List.pairwise_cons] at hp
  have hx := h x (by simp)
  have := up_few (l := l) (a := x + 1) (b := b) hp.2 (fun y hy => ⟨by have := hp.1 y hy; omega, (h y (by simp [hy])).2⟩) (by omega)
  rw [List.length_cons]
  omega
theorem chain_up : ∀ {l : List Int}, (∀ j, 0 < j → j < l.length → l.getD (j - 1) 0 < l.getD j 0) → l.Pairwise (· < ·)
 | [], _ => List.Pairwise.nil
 | a :: l, h => by
  have hl : l.Pairwise (· < ·) := chain_up fun j h1 h2 => by
   have := h (j + 1) (by omega) (by simp; omega)
   obtain ⟨m, rfl⟩ : ∃ m, j = m + 1 := ⟨j - 1, by omega⟩
   simpa using this
  refine List.Pairwise.cons (fun y hy => ?_) hl
  cases l with
  | nil => simp at hy
  | cons b t =>
   have h1 := h 1 (by omega) (by simp)
   have h1' : a < b := by simpa using h1
   rcases List.mem_cons.1 hy with rfl | hy
   ·exact h1'
   ·rw [List.pairwise_cons] at hl
    have := hl.1 y hy
    omega
theorem gRow_of {S : List (List Int)} (h : BudF S) : GRow S := by
 have hup : ∀ k, k < 5 → (S.getD k En.dflt).Pairwise (· < ·) := fun k hk => chain_up fun j h1 h2 => by
  have := h.bad k hk j h2
  simp only [bad, decide_eq_false_iff_not, not_or, not_and] at this
  have h3 := this.2.2.2 h1
  exact Int.not_le.1 h3
 refine ⟨h.len, hup, fun k hk => ?_⟩
 have := up_few (a := 0) (b := 16) (hup k hk) (fun y hy => by
  obtain ⟨j, hj, rfl⟩ := List.getElem_of_mem hy
  have := notBad (h.bad k hk j hj)
  have e : (S.getD k En.dflt)[j] = (S.getD k En.dflt).getD j 0 := by
   generalize S.getD k En.dflt = l at hj
   simp [List.getD_eq_getElem?_getD, hj]
  rw [e]; omega) (by omega)
 omega
def bG (S : List (List Int)) (f : Int) : List (List Int) × Bool := if okS S = true then gS S f else ([], false)
end Go.Proofs.Ytfbefcmeghpalaa.VM
