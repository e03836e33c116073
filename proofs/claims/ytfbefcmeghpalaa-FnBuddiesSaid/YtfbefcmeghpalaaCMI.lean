/- Contracts of functions of the program. No conditions beyond those that each states. -/
import Derived.Test.YtfbefcmeghpalaaCMH
import Derived.Test.YtfbefcmeghpalaaCMC
set_option linter.all false
namespace Go.Proofs.Ytfbefcmeghpalaa.VM
open Go Go.RowKit Go.Proofs
/-- the halves that are left over, from one order downward -/
def dnS (f : Int) (S : List (List Int)) (o : Nat) : Nat → List (List Int)
 | 0 => S
 | j + 1 => (dnS f S o j).set (o - 1 - j) [f + ((2 ^ (o - 1 - j) : Nat) : Int)]
def takeO (S : List (List Int)) (o : Nat) : List (List Int) := dnS ((S.getD o []).getD 0 0) (S.set o ((S.getD o []).drop 1)) o o
structure FInv (S : List (List Int)) where
 k : Nat
 le : k ≤ 5
 h : ∀ j, j < k → S.getD j En.dflt = []
theorem FInv.next {S : List (List Int)} (i : FInv S) (h : S.getD i.k En.dflt = []) : ∀ j, j < i.k + 1 → S.getD j En.dflt = [] := fun j hj => by
 rcases Nat.lt_or_ge j i.k with hlt | hge
 ·exact i.h j hlt
 ·rw [show j = i.k by omega]; exact h
structure DInv (S : List (List Int)) (f : Int) (o : Nat) where
 c : Nat
 le : c ≤ o
 acc : List (List Int)
 eq : acc = dnS f S o (o - c)
 len : acc.length = 5
 em : ∀ j, j < c → acc.getD j En.dflt = []
theorem DInv.step {S : List (List Int)} {f : Int} {o : Nat} (i : DInv S f o) (h0 : 0 < i.c) : i.acc.set (i.c - 1) [f + ((2 ^ (i.c - 1) : Nat) : Int)] = dnS f S o (o - (i.c - 1)) := by
 have := i.le
 rw [show o - (i.c - 1) = (o - i.c) + 1 by omega, dnS, ← i.eq, show o - 1 - (o - i.c) = i.c - 1 by omega]
theorem DInv.em' {S : List (List Int)} {f : Int} {o : Nat} (i : DInv S f o) (y : List Int) : ∀ j, j < i.c - 1 → (i.acc.set (i.c - 1) y).getD j En.dflt = [] := fun j hj => by
 rw [List.getD_eq_getElem?_getD, List.getElem?_set_ne (by omega), ← List.getD_eq_getElem?_getD]
 exact i.em j (by omega)
theorem set_row {S : List (List Int)} {i : Nat} {y : List Int} {t : T} (ht : t.sim (tr y)) : (T.s 1 S.length (upd (fun k c => (En.cs (S.getD k En.dflt)).getD c .j) i 0 t)).sim (tr (S.set i y)) :=
 set_sim (fun k c hk => by simp only [upd_app, hk, false_and, if_false]) fun c hc => by
  have hc' : c < 1 := hc
  obtain rfl : c = 0 := by omega
  simp only [upd_app, and_self, if_true]
  exact ht
theorem app_drop {l : List Int} {f : Nat → Nat → T} {lo : Nat} : (appT 1 0 f (l.length - lo) fun k c => flatT ((En.cs (l.getD (lo + k) En.dflt)).getD c .j)).sim (tr (l.drop lo)) := by
 refine ⟨_, by rw [show (0 + (l.length - lo)) = (l.drop lo).length by simp]; rfl, fun k c hk hc => ?_⟩
 have hc' : c < 1 := hc
 obtain rfl : c = 0 := by omega
 have hk' : lo + k < l.length := by simp at hk; omega
 simp only [Nat.not_lt_zero, if_false, Nat.sub_zero]
 have : (l.drop lo).getD k En.dflt = l.getD (lo + k) En.dflt := by simp [List.getD_eq_getElem?_getD, List.getElem?_drop]
 rw [this]
 exact T.sim_refl _
end Go.Proofs.Ytfbefcmeghpalaa.VM
