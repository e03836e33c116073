/- Rules to walk by. No conditions. -/
import Derived.Test.YtekcnnngjoonbaaGreatVmD
set_option linter.all false
set_option linter.unusedSectionVars false
namespace Go.Proofs.YtekcnnngjoonbaaGreat.VM
open Go Go.RowKit
section
variable {α : Type} [En α] {key : α → Int}
theorem asc_get {l : List α} (h : Asc key l) {i j : Nat} (hij : i ≤ j) (hj : j < l.length) : key (l.getD i En.dflt) ≤ key (l.getD j En.dflt) := by
 rw [List.getD_eq_getElem?_getD, List.getElem?_eq_getElem (by omega), List.getD_eq_getElem?_getD, List.getElem?_eq_getElem hj]
 rcases Nat.eq_or_lt_of_le hij with rfl | h1
 ·exact Int.le_refl _
 ·exact List.pairwise_iff_getElem.1 h i j (by omega) hj h1
theorem mem_take_get {l : List α} {n : Nat} {x : α} (h : x ∈ l.take n) : ∃ j, j < n ∧ j < l.length ∧ x = l.getD j En.dflt := by
 obtain ⟨j, hj, rfl⟩ := List.mem_iff_getElem.1 h
 rw [List.length_take] at hj
 refine ⟨j, by omega, by omega, ?_⟩
 rw [List.getElem_take, List.getD_eq_getElem?_getD, List.getElem?_eq_getElem (by omega)]
 rfl
theorem mem_drop_get {l : List α} {n : Nat} {x : α} (h : x ∈ l.drop n) : ∃ j, n ≤ j ∧ j < l.length ∧ x = l.getD j En.dflt := by
 obtain ⟨j, hj, rfl⟩ := List.mem_iff_getElem.1 h
 rw [List.length_drop] at hj
 refine ⟨n + j, by omega, by omega, ?_⟩
 rw [List.getElem_drop, List.getD_eq_getElem?_getD, List.getElem?_eq_getElem (by omega)]
 rfl
def row4 (P X Y S : List α) : List α := P ++ (X ++ (Y ++ S))
theorem row4_X {P X Y S : List α} {t : Nat} (h1 : P.length ≤ t) (h2 : t < P.length + X.length) : (row4 P X Y S).getD t En.dflt = X.getD (t - P.length) En.dflt := by
 rw [row4, getD_at (j := t - P.length) (by omega), getD_left (by omega)]
theorem row4_Y {P X Y S : List α} {t : Nat} (h1 : P.length + X.length ≤ t) (h2 : t < P.length + X.length + Y.length) : (row4 P X Y S).getD t En.dflt = Y.getD (t - P.length - X.length) En.dflt := by
 rw [row4, getD_at (j := t - P.length) (by omega), getD_at (j := t - P.length - X.length) (by omega), getD_left (by omega)]
theorem row4_len {P X Y S : List α} : (row4 P X Y S).length = P.length + X.length + Y.length + S.length := by
 simp only [row4, List.length_append]; omega
def symS (a m b : Nat) : Nat := if (a + b) / 2 < m then (a + b) / 2 + m - b else a
def symR (a m b : Nat) : Nat := if (a + b) / 2 < m then (a + b) / 2 else m
theorem sym_bd {a m b : Nat} (h1 : a < m) (h2 : m < b) : a ≤ symS a m b ∧ symS a m b ≤ symR a m b ∧ symR a m b ≤ m ∧ symR a m b ≤ (a + b) / 2 ∧ (a + b) / 2 + m ≤ b + symS a m b ∧ (symR a m b = m ∨ symR a m b = (a + b) / 2) ∧ (symS a m b = a ∨ symS a m b + b = (a + b) / 2 + m) := by
 unfold symS symR
 split <;> omega
def symQ (key : α → Int) (L : List α) (n c : Nat) : Prop := ¬ key (L.getD (n - 1 - c) En.dflt) < key (L.getD c En.dflt)
variable {P X Y S : List α} {a m b : Nat}
theorem symQ_mono (ha : a = P.length) (hm : m = a + X.length) (hb : b = m + Y.length) (hX : Asc key X) (hY : Asc key Y) (h1 : a < m) (h2 : m < b) : ∀ h t, symS a m b ≤ t → t ≤ h → h < symR a m b → symQ key (row4 P X Y S) ((a + b) / 2 + m) h → symQ key (row4 P X Y S) ((a + b) / 2 + m) t := fun h t q1 q2 q3 hq => by
 have hs := sym_bd h1 h2
 unfold symQ at hq ⊢
 rw [row4_X (t := h) (by omega) (by omega), row4_Y (t := (a + b) / 2 + m - 1 - h) (by omega) (by omega)] at hq
 rw [row4_X (t := t) (by omega) (by omega), row4_Y (t := (a + b) / 2 + m - 1 - t) (by omega) (by omega)]
 have e1 := asc_get hX (i := t - P.length) (j := h - P.length) (by omega) (by omega)
 have e2 := asc_get hY (i := (a + b) / 2 + m - 1 - h - P.length - X.length) (j := (a + b) / 2 + m - 1 - t - P.length - X.length) (by omega) (by omega)
 omega
theorem sym_halves (ha : a = P.length) (hm : m = a + X.length) (hb : b = m + Y.length) (hX : Asc key X) (hY : Asc key Y) (h1 : a < m) (h2 : m < b) (s : BS (symQ key (row4 P X Y S) ((a + b) / 2 + m)) (symS a m b) (symR a m b)) (he : s.j ≤ s.i) :
  sortK key (X ++ Y) = sortK key (X.take (s.i - a) ++ Y.take ((a + b) / 2 - s.i)) ++ sortK key (X.drop (s.i - a) ++ Y.drop ((a + b) / 2 - s.i)) := by
 have hs := sym_bd h1 h2
 have q1 := s.h1
 have q2 := s.h2
 have q3 := s.h3
 have key1 : ∀ y ∈ Y.take ((a + b) / 2 - s.i), ∀ x ∈ X.drop (s.i - a), key y < key x := fun y hy x hx => by
  obtain ⟨j, j1, j2, rfl⟩ := mem_take_get hy
  obtain ⟨k, k1, k2, rfl⟩ := mem_drop_get hx
  have hq := s.no s.i (by omega) (by omega)
  unfold symQ at hq
  rw [row4_X (t := s.i) (by omega) (by omega), row4_Y (t := (a + b) / 2 + m - 1 - s.i) (by omega) (by omega)] at hq
  have e1 := asc_get hX (i := s.i - P.length) (j := k) (by omega) (by omega)
  have e2 := asc_get hY (i := j) (j := (a + b) / 2 + m - 1 - s.i - P.length - X.length) (by omega) (by omega)
  omega
 have e0 : sortK key ((X.take (s.i - a) ++ X.drop (s.i - a)) ++ (Y.take ((a + b) / 2 - s.i) ++ Y.drop ((a + b) / 2 - s.i))) = _ := sort_halves key key1 fun x hx y hy => by
  rcases List.mem_append.1 hx with hx | hx <;> rcases List.mem_append.1 hy with hy | hy
  ·obtain ⟨j, j1, j2, rfl⟩ := mem_take_get hx
   obtain ⟨k, k1, k2, rfl⟩ := mem_drop_get hy
   exact asc_get hX (by omega) k2
  ·obtain ⟨j, j1, j2, rfl⟩ := mem_take_get hx
   obtain ⟨k, k1, k2, rfl⟩ := mem_drop_get hy
   have hq := s.yes (s.i - 1) (by omega) (by omega)
   unfold symQ at hq
   rw [row4_X (t := s.i - 1) (by omega) (by omega), row4_Y (t := (a + b) / 2 + m - 1 - (s.i - 1)) (by omega) (by omega)] at hq
   have e1 := asc_get hX (i := j) (j := s.i - 1 - P.length) (by omega) (by omega)
   have e2 := asc_get hY (i := (a + b) / 2 + m - 1 - (s.i - 1) - P.length - X.length) (j := k) (by omega) (by omega)
   omega
  ·exact Int.le_of_lt (key1 x hx y hy)
  ·obtain ⟨j, j1, j2, rfl⟩ := mem_take_get hx
   obtain ⟨k, k1, k2, rfl⟩ := mem_drop_get hy
   exact asc_get hY (by omega) k2
 rwa [List.take_append_drop, List.take_append_drop] at e0
theorem asc_take (h : Asc key X) (n : Nat) : Asc key (X.take n) := h.sublist (List.take_sublist _ _)
theorem asc_drop (h : Asc key X) (n : Nat) : Asc key (X.drop n) := h.sublist (List.drop_sublist _ _)
theorem sort_nil_l (h : Asc key Y) (e : X.length = 0) : sortK key (X ++ Y) = X ++ Y := by
 rw [List.eq_nil_of_length_eq_zero e]; exact sort_of_asc key h
theorem sort_nil_r (h : Asc key X) (e : Y.length = 0) : sortK key (X ++ Y) = X ++ Y := by
 rw [List.eq_nil_of_length_eq_zero e, List.append_nil]; exact sort_of_asc key h
theorem front_mono (ha : a = P.length) (hm : m = a + X.length) (hb : b = m + Y.length) (hY : Asc key Y) (x : α) : ∀ h t, m ≤ t → t ≤ h → h < b → key ((row4 P X Y S).getD h En.dflt) < key x → key ((row4 P X Y S).getD t En.dflt) < key x := fun h t q1 q2 q3 hq => by
 rw [row4_Y (by omega) (by omega)] at hq ⊢
 have := asc_get hY (i := t - P.length - X.length) (j := h - P.length - X.length) (by omega) (by omega)
 omega
theorem front_sort {x : α} (ha : a = P.length) (hm : m = a + 1) (hb : b = m + Y.length) (hY : Asc key Y) (s : BS (fun t => key ((row4 P [x] Y S).getD t En.dflt) < key x) m b) (he : s.j ≤ s.i) : wnd P x Y S (s.i - m) = P ++ (sortK key ([x] ++ Y) ++ S) := by
 have q1 := s.h1
 have q3 := s.h3
 have e := sort_front key (x := x) (b1 := Y.take (s.i - m)) (b2 := Y.drop (s.i - m)) (by rw [List.take_append_drop]; exact hY) (fun y hy => ?_) (fun y hy => ?_)
 ·rw [List.take_append_drop] at e
  rw [e, wnd]
  simp only [List.append_assoc, List.cons_append, List.nil_append]
 ·obtain ⟨j, j1, j2, rfl⟩ := mem_take_get hy
  have := s.yes (m + j) (by omega) (by omega)
  rwa [row4_Y (by simp only [List.length_singleton]; omega) (by simp only [List.length_singleton]; omega), show m + j - P.length - [x].length = j by simp only [List.length_singleton]; omega] at this
 ·obtain ⟨j, j1, j2, rfl⟩ := mem_drop_get hy
  have := s.no (m + j) (by omega) (by omega)
  rw [row4_Y (by simp only [List.length_singleton]; omega) (by simp only [List.length_singleton]; omega), show m + j - P.length - [x].length = j by simp only [List.length_singleton]; omega] at this
  omega
theorem back_mono (ha : a = P.length) (hm : m = a + X.length) (hX : Asc key X) (y : α) : ∀ h t, a ≤ t → t ≤ h → h < m → ¬ key y < key ((row4 P X Y S).getD h En.dflt) → ¬ key y < key ((row4 P X Y S).getD t En.dflt) := fun h t q1 q2 q3 hq => by
 rw [row4_X (by omega) (by omega)] at hq ⊢
 have := asc_get hX (i := t - P.length) (j := h - P.length) (by omega) (by omega)
 omega
theorem back_sort {y : α} (ha : a = P.length) (hm : m = a + X.length) (hX : Asc key X) (s : BS (fun t => ¬ key y < key ((row4 P X [y] S).getD t En.dflt)) a m) (he : s.j ≤ s.i) : wnd P y X S (s.i - a) = P ++ (sortK key (X ++ [y]) ++ S) := by
 have q1 := s.h1
 have q3 := s.h3
 have e := sort_back key (x := y) (a1 := X.take (s.i - a)) (a2 := X.drop (s.i - a)) (by rw [List.take_append_drop]; exact hX) (fun x hx => ?_) (fun x hx => ?_)
 ·rw [List.take_append_drop] at e
  rw [e, wnd]
  simp only [List.append_assoc, List.cons_append, List.nil_append]
 ·obtain ⟨j, j1, j2, rfl⟩ := mem_take_get hx
  have := s.yes (a + j) (by omega) (by omega)
  rw [row4_X (by omega) (by omega), show a + j - P.length = j by omega] at this
  omega
 ·obtain ⟨j, j1, j2, rfl⟩ := mem_drop_get hx
  have := s.no (a + j) (by omega) (by omega)
  rw [row4_X (by omega) (by omega), show a + j - P.length = j by omega] at this
  omega
end
structure DI (lo hi : Nat) where
 k : Nat
 h1 : lo ≤ k
 le : k ≤ hi
end Go.Proofs.YtekcnnngjoonbaaGreat.VM
set_option linter.unusedSectionVars false
namespace Go.Proofs.YtekcnnngjoonbaaGreat.VM
open Go Go.RowKit
section
variable {α : Type} (key : α → Int)
def blks (bs : Nat) (l : List α) : Nat → List α
 | 0 => []
 | k + 1 => blks bs l k ++ sortK key ((l.drop (bs * k)).take bs)
def full (bs : Nat) (l : List α) : List α := blks key bs l l.length
theorem blks_len (bs : Nat) (l : List α) : ∀ k, (blks key bs l k).length = min (bs * k) l.length
 | 0 => by simp [blks]
 | k + 1 => by
  rw [blks, List.length_append, blks_len bs l k, sortK_len, List.length_take, List.length_drop, Nat.mul_succ]
  omega
theorem blks_cons (bs : Nat) (l : List α) : ∀ k, blks key bs l (k + 1) = sortK key (l.take bs) ++ blks key bs (l.drop bs) k
 | 0 => by simp [blks]
 | k + 1 => by
  rw [blks, blks_cons bs l k, blks, List.drop_drop, Nat.mul_succ, Nat.add_comm bs, List.append_assoc]
theorem blks_stop {bs : Nat} {l : List α} {k : Nat} (h : l.length ≤ bs * k) : ∀ j, blks key bs l (k + j) = blks key bs l k
 | 0 => rfl
 | j + 1 => by
  have h1 : bs * k ≤ bs * (k + j) := Nat.mul_le_mul_left _ (by omega)
  rw [← Nat.add_assoc, blks, blks_stop h j, List.drop_of_length_le (by omega), List.take_nil]
  exact List.append_nil _
theorem blks_eq {bs : Nat} {l : List α} {k k' : Nat} (h : l.length ≤ bs * k) (h' : l.length ≤ bs * k') : blks key bs l k = blks key bs l k' := by
 rcases Nat.le_total k k' with hk | hk
 ·obtain ⟨j, rfl⟩ := Nat.exists_eq_add_of_le hk
  exact (blks_stop key h j).symm
 ·obtain ⟨j, rfl⟩ := Nat.exists_eq_add_of_le hk
  exact blks_stop key h' j
theorem le_mul_self' {bs n : Nat} (h : 1 ≤ bs) : n ≤ bs * n := by
 have := Nat.mul_le_mul_right n h
 omega
theorem blks_full {bs : Nat} {l : List α} {k : Nat} (hb : 1 ≤ bs) (h : l.length ≤ bs * k) : blks key bs l k = full key bs l := blks_eq key h (le_mul_self' hb)
theorem full_cons {bs : Nat} (hb : 1 ≤ bs) (l : List α) : full key bs l = sortK key (l.take bs) ++ full key bs (l.drop bs) := by
 have h1 : (l.drop bs).length ≤ bs * l.length := by
  have := le_mul_self' (n := l.length) hb
  rw [List.length_drop]; omega
 have h2 : l.length ≤ bs * (l.length + 1) := by
  have := le_mul_self' (n := l.length) hb
  rw [Nat.mul_succ]; omega
 rw [← blks_full key hb h2, blks_cons, blks_full key hb h1]
theorem full_small {bs : Nat} {l : List α} (hb : 1 ≤ bs) (h : l.length ≤ bs) : full key bs l = sortK key l := by
 rw [← blks_full key hb (k := 1) (by omega)]
 show [] ++ sortK key ((l.drop (bs * 0)).take bs) = _
 rw [Nat.mul_zero, List.drop_zero, List.take_of_length_le h, List.nil_append]
theorem full_len {bs : Nat} {l : List α} (hb : 1 ≤ bs) : (full key bs l).length = l.length := by
 have := le_mul_self' (n := l.length) hb
 rw [full, blks_len]; omega
theorem full_two {bs : Nat} (hb : 1 ≤ bs) (r : List α) : full key bs r = sortK key (r.take bs) ++ (sortK key ((r.drop bs).take bs) ++ full key bs (r.drop (bs + bs))) := by
 rw [full_cons key hb r, full_cons key hb (r.drop bs), List.drop_drop]
theorem merge_two {bs : Nat} (r : List α) : sortK key (sortK key (r.take bs) ++ sortK key ((r.drop bs).take bs)) = sortK key (r.take (bs + bs)) := by
 rw [sort_sort]
 congr 1
 rw [List.take_add]
end
structure BI (bs n : Nat) where
 k : Nat
 a : Nat
 ea : a = bs * k
 le : a ≤ n
theorem BI.next {bs n : Nat} (i : BI bs n) : i.a + bs = bs * (i.k + 1) := by rw [Nat.mul_succ, ← i.ea]
theorem blks_lenI {α : Type} (key : α → Int) {bs : Nat} {l : List α} (i : BI bs l.length) : (blks key bs l i.k).length = i.a := by
 have := i.ea
 have := i.le
 rw [blks_len]; omega
theorem blks_nextI {α : Type} (key : α → Int) {bs : Nat} {l : List α} (i : BI bs l.length) : blks key bs l (i.k + 1) = blks key bs l i.k ++ sortK key ((l.drop i.a).take bs) := by
 rw [blks, ← i.ea]
structure QI (n : Nat) where
 bs : Nat
 h1 : 1 ≤ bs
 h2 : bs ≤ 2 * n + 40
structure OI (n : Nat) where
 k : Nat
 k1 : 1 ≤ k
 le : k ≤ n ∨ k = 1
theorem rowSim {α : Type} [En α] {l r : List α} (h : l = r) : (tr l).sim (tr r) := by
 subst h
 exact T.sim_refl _
theorem xI7 {a b : Int} (h : a = b) : X.v (iv a) = X.v (iv b) := by rw [h]
def cmpI (a b : Int) : Int := if a < b then -1 else if b < a then 1 else 0
theorem cmpI_neg {a b : Int} : cmpI a b < 0 ↔ a < b := by
 unfold cmpI
 split
 ·simp; assumption
 ·split <;> simp <;> omega
end Go.Proofs.YtekcnnngjoonbaaGreat.VM
set_option linter.unusedSectionVars false
namespace Go.Proofs.YtekcnnngjoonbaaGreat.VM
open Go Go.RowKit
section
variable {α : Type} [En α] {key : α → Int}
theorem take_snocG' {l : List α} {k : Nat} (h : k < l.length) : l.take (k + 1) = l.take k ++ [l.getD k En.dflt] := take_succ' h
def putN (key : α → Int) (l : List α) (p : α) (k : Nat) : Bool := (l.take k).any fun y => decide (key p < key y)
def insN (key : α → Int) (l : List α) (p : α) (k : Nat) : List α := if putN key l p k = true then insK key (l.take k) p else l.take k
theorem putN_next {l : List α} {p : α} {k : Nat} (h : k < l.length) : putN key l p (k + 1) = (putN key l p k || decide (key p < key (l.getD k En.dflt))) := by
 unfold putN
 rw [take_snocG' h, List.any_append]
 simp
theorem insK_any : ∀ {l : List α} {p y : α}, (l.any fun y => decide (key p < key y)) = true → insK key (l ++ [y]) p = insK key l p ++ [y]
 | [], _, _, h => by cases h
 | x :: l, p, y, h => by
  rw [List.cons_append, insK, insK]
  by_cases hx : key p < key x
  ·rw [if_pos hx, if_pos hx]; rfl
  ·rw [if_neg hx, if_neg hx, insK_any (by simpa [List.any_cons, hx] using h)]; rfl
theorem insK_none : ∀ {l l2 : List α} {p : α}, (l.any fun y => decide (key p < key y)) = false → insK key (l ++ l2) p = l ++ insK key l2 p
 | [], _, _, _ => rfl
 | x :: l, l2, p, h => by
  rw [List.any_cons, Bool.or_eq_false_iff] at h
  rw [List.cons_append, insK, if_neg (by simpa using h.1), insK_none h.2]; rfl
theorem insN_old {l : List α} {p : α} {k : Nat} (h : k < l.length) (h1 : putN key l p k = true) : insN key l p (k + 1) = insN key l p k ++ [l.getD k En.dflt] := by
 unfold insN
 rw [putN_next h, h1, Bool.true_or, if_pos rfl, if_pos rfl, take_snocG' h, insK_any h1]
theorem insN_not {l : List α} {p : α} {k : Nat} (h : k < l.length) (h1 : putN key l p k = false) (h2 : ¬ key p < key (l.getD k En.dflt)) : insN key l p (k + 1) = insN key l p k ++ [l.getD k En.dflt] := by
 unfold insN
 rw [putN_next h, h1, Bool.false_or, decide_eq_false h2, if_neg (by simp), if_neg (by simp), take_snocG' h]
theorem insN_put {l : List α} {p : α} {k : Nat} (h : k < l.length) (h1 : putN key l p k = false) (h2 : key p < key (l.getD k En.dflt)) : insN key l p (k + 1) = (insN key l p k ++ [p]) ++ [l.getD k En.dflt] := by
 unfold insN
 rw [putN_next h, h1, Bool.false_or, decide_eq_true h2, if_pos rfl, if_neg (by simp), take_snocG' h, insK_none h1, insK, if_pos h2, List.append_assoc]
 rfl
theorem insN_len {l : List α} {p : α} {k : Nat} : (insN key l p k).length ≤ k + 1 := by
 unfold insN
 split
 ·rw [insK_len, List.length_take]; omega
 ·rw [List.length_take]; omega
theorem insN_end {l : List α} {p : α} {k : Nat} (h1 : l.length ≤ k) (h2 : k ≤ l.length) : insK key l p = if putN key l p k = true then insN key l p k else insN key l p k ++ [p] := by
 obtain rfl : k = l.length := by omega
 unfold insN
 split
 ·rw [List.take_of_length_le (Nat.le_refl _)]
 ·rename_i h
  have h' : (l.any fun y => decide (key p < key y)) = false := by
   have := (Bool.not_eq_true _).mp h
   unfold putN at this
   rwa [List.take_of_length_le (Nat.le_refl _)] at this
  have := insK_none (l2 := []) h'
  rw [List.append_nil] at this
  rw [this, List.take_of_length_le (Nat.le_refl _)]
  rfl
end
def insAt (ks : List Int) (x : Int) : Nat := (ks.takeWhile fun y => !decide (x < y)).length
theorem insK_at {α : Type} (key : α → Int) : ∀ (l : List α) (x : α), insK key l x = l.take (insAt (l.map key) (key x)) ++ x :: l.drop (insAt (l.map key) (key x))
 | [], _ => rfl
 | y :: l, x => by
  rw [insK, List.map_cons]
  by_cases h : key x < key y
  ·rw [if_pos h, show insAt (key y :: l.map key) (key x) = 0 by simp [insAt, h]]; rfl
  ·rw [if_neg h, show insAt (key y :: l.map key) (key x) = insAt (l.map key) (key x) + 1 by simp [insAt, h], insK_at key l x]; rfl
theorem insAt_le (ks : List Int) (x : Int) : insAt ks x ≤ ks.length := List.IsPrefix.length_le (List.takeWhile_prefix _)
theorem insK_getD {α : Type} (key : α → Int) (l : List α) (x d : α) (k : Nat) : (insK key l x).getD k d = if k < insAt (l.map key) (key x) then l.getD k d else if k = insAt (l.map key) (key x) then x else l.getD (k - 1) d := by
 have hle := insAt_le (l.map key) (key x)
 rw [List.length_map] at hle
 rw [insK_at]
 generalize insAt (l.map key) (key x) = i at hle
 rw [List.getD_eq_getElem?_getD]
 by_cases h1 : k < i
 ·rw [if_pos h1, List.getElem?_append_left (by rw [List.length_take]; omega), List.getElem?_take_of_lt h1, ← List.getD_eq_getElem?_getD]
 ·rw [if_neg h1, List.getElem?_append_right (by rw [List.length_take]; omega), List.length_take, show min i l.length = i by omega]
  by_cases h2 : k = i
  ·rw [if_pos h2, h2, Nat.sub_self]; rfl
  ·rw [if_neg h2, show k - i = (k - 1 - i) + 1 by omega, List.getElem?_cons_succ, List.getElem?_drop, show i + (k - 1 - i) = k - 1 by omega, ← List.getD_eq_getElem?_getD]
open Go Go.RowKit
open Go Go.RowKit Go.Sort
theorem own_nil {w : World} : Own w (tr ([] : List Int)) (fun _ _ => False) (.slice none 0 0) := by
 refine ⟨by decide, none, 0, rfl, Nat.le_refl _, by decide, 0, 0, fun _ _ => undef, fun _ _ _ _ => False, fun h => absurd h (by omega), fun k c hk => absurd hk (by simp), fun _ _ _ _ _ hk => absurd hk (by simp), fun k c hk => absurd hk (by simp), fun x y => ⟨fun h => h.elim, ?_⟩⟩
 rintro (⟨h, _⟩ | ⟨_, _, _, _, h⟩)
 ·omega
 ·exact h
theorem con_grow {P : Program} {f : FuncId}
  (hroom : ∀ w, Calls P f #[.slice none 0 0, .int .i64 ((0 : Nat) : Int)] w fun e w' => e = .returned (.slice none 0 0) ∧ w' = w)
  (hgrow : ∀ (n : Nat) (w : World), 0 < n → n * 8 ≤ 140737488355328 → Calls P f #[.slice none 0 0, .int .i64 n] w fun e w' => ∃ (g : Nat) (R : Array Value) (t : TypeId), g ≤ maxLen ∧ R.size = g ∧ e = .returned (.slice (some ⟨w.heap.size, 0, none⟩) 0 g) ∧ w' = w.drew.alloc (.cells R t))
  (n : Nat) (hn : n * 8 ≤ 140737488355328) : Con P f [.v (.slice none 0 0), .v (iv n)] [] (RetW (.h 0 []) [(0, .row, tr ([] : List Int))] []) := by
 intro w vs H G _ _ hr hv
 match vs, hv with
 | [v0, v1], ⟨h0, h1, _⟩ =>
 obtain rfl : v0 = _ := h0
 obtain rfl : v1 = _ := h1
 rcases Nat.eq_zero_or_pos n with rfl | hp
 ·refine (hroom w).mono ?_
  rintro e w' ⟨rfl, rfl⟩
  obtain ⟨x, L, H', G', val, r1, r2, r3, r4, r5, r6⟩ := row_new (S := fun _ _ => False) [] hr (by simp) (Chg.refl _ _) (fun _ _ h => h.elim) own_nil rfl (fun _ _ h => h.elim)
  exact ⟨_, x, L, H', G', val, rfl, r1, r2, r3, r4, r5, r6⟩
 ·refine (hgrow n w hp hn).mono ?_
  rintro e w' ⟨g, R, t, hg, hR, rfl, rfl⟩
  have hK : Kd (w.drew.alloc (.cells R t)) w.heap.size g := ⟨R, t, Array.getElem?_push_size, hR⟩
  have hC : Chg (fun _ _ => False) w (w.drew.alloc (.cells R t)) := (Chg.drew _).trans (Chg.alloc _ _ _)
  have hO := own_ints (l := []) (off := 0) (cap := g) (by simp) hg hK (by omega) (fun k hk => absurd hk (by simp))
  obtain ⟨x, L, H', G', val, r1, r2, r3, r4, r5, r6⟩ := row_new (S := fun _ _ => False) [] hr (by simp) hC (fun _ _ h => h.elim) hO rfl (fun a o h => .inr (by omega))
  exact ⟨_, x, L, H', G', val, rfl, r1, r2, r3, r4, r5, r6⟩
end Go.Proofs.YtekcnnngjoonbaaGreat.VM
