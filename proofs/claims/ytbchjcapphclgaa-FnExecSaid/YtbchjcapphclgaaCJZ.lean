/- Contracts of functions of the program. No conditions beyond those that each states. -/
import Derived.Test.YtbchjcapphclgaaCJS
set_option linter.all false
namespace Go.Proofs.Ytbchjcapphclgaa.VM
open Go Go.RowKit Go.Proofs
def diffN (a b : List Int) : Nat → Nat
 | 0 => 0
 | k + 1 => diffN a b k + if a.getD k En.dflt != b.getD k En.dflt then 1 else 0
theorem diffN_le (a b : List Int) (k : Nat) : diffN a b k ≤ k := by
 induction k with
 | zero => exact Nat.le_refl 0
 | succ k ih => simp only [diffN]; split <;> omega
theorem diffN_self (l : List Int) (k : Nat) : diffN l l k = 0 := by
 induction k with
 | zero => rfl
 | succ k ih => simp [diffN, ih]
theorem diffN_set (l : List Int) (a : Nat) (v : Int) (k : Nat) : diffN (l.set a v) l k ≤ if a < k then 1 else 0 := by
 induction k with
 | zero => simp [diffN]
 | succ k ih =>
  simp only [diffN]
  by_cases h : a = k
  ·subst h
   rw [if_neg (Nat.lt_irrefl _)] at ih
   rw [if_pos (Nat.lt_succ_self _)]
   split <;> omega
  ·have e : (l.set a v).getD k En.dflt = l.getD k En.dflt := by
    simp [List.getD_eq_getElem?_getD, List.getElem?_set, h]
   rw [e]
   simp only [bne_self_eq_false, Bool.false_eq_true, if_false, Nat.add_zero]
   refine Nat.le_trans ih ?_
   split <;> split <;> omega
theorem diffN_set4 (l : List Int) (a : Nat) (v : Int) (k : Nat) : diffN (l.set a v) l k ≤ 1 := by
 have := diffN_set l a v k
 split at this <;> omega
theorem word_at {l : List Int} (h : l.all word = true) (k : Nat) : word (l.getD k En.dflt) = true := by
 by_cases hk : k < l.length
 ·have := List.all_eq_true.1 h l[k] (List.getElem_mem hk)
  simpa [hk] using this
 ·have : l.getD k En.dflt = 0 := by simp [List.getD_eq_getElem?_getD, List.getElem?_eq_none (by omega : l.length ≤ k)]; rfl
  rw [this]; rfl
theorem cpuOk_pc {c : DCpu} {pc : Int} (h : cpuOk c = true) (h0 : 0 ≤ pc) (h1 : pc ≤ 40) : cpuOk ⟨pc, c.Regs⟩ = true := by
 simp only [cpuOk, Bool.and_eq_true, decide_eq_true_eq, beq_iff_eq] at h ⊢
 exact ⟨⟨h0, h1⟩, h.2⟩
theorem cpuOk_set {c : DCpu} {pc : Int} (h : cpuOk c = true) (h0 : 0 ≤ pc) (h1 : pc ≤ 40) (a : Nat) {v : Int} (hv : word v = true) : cpuOk ⟨pc, c.Regs.set a v⟩ = true := by
 simp only [cpuOk, Bool.and_eq_true, decide_eq_true_eq, beq_iff_eq] at h ⊢
 refine ⟨⟨h0, h1⟩, by rw [List.length_set]; exact h.2.1, List.all_eq_true.2 fun x hx => ?_⟩
 rcases List.mem_or_eq_of_mem_set hx with g | rfl
 ·exact List.all_eq_true.1 h.2.2 x g
 ·exact hv
theorem insMore {i : DIns} (h : insOk i = true) : (i.Op = 1 → word i.B = true) ∧ (i.Op = 6 → 0 ≤ i.A ∧ i.A ≤ 40) ∧ (i.Op = 7 → 0 ≤ i.B ∧ i.B ≤ 40) := by
 unfold insOk reg place at h
 split at h
 ·simp only [Bool.and_eq_true] at h
  exact ⟨fun _ => h.2.1, fun e => by omega, fun e => by omega⟩
 split at h
 ·exact ⟨fun e => by omega, fun e => by omega, fun e => by omega⟩
 split at h
 ·exact ⟨fun e => by omega, fun e => by omega, fun e => by omega⟩
 split at h
 ·simp only [Bool.and_eq_true, decide_eq_true_eq] at h
  exact ⟨fun e => by omega, fun e => by omega, fun e => by omega⟩
 split at h
 ·simp only [Bool.and_eq_true, decide_eq_true_eq] at h
  exact ⟨fun e => by omega, fun e => by omega, fun e => by omega⟩
 split at h
 ·exact ⟨fun e => by omega, fun e => by omega, fun e => by omega⟩
 ·cases h
structure ExecLaw (p : List DIns) (c : DCpu) (m : List Int) (x : DCpu × DDid) : Prop where
 ok : cpuOk x.1 = true
 fault : x.2.Kind = 2 → x.1 = c
 one : x.2.Kind ≠ 2 → c.Pc < p.length
 df : diffN x.1.Regs c.Regs 4 ≤ 1
 pc : x.2.Kind ≠ 2 → x.1.Pc = c.Pc + 1 ∨ (p.getD c.Pc.toNat En.dflt).Op = 6 ∨ (p.getD c.Pc.toNat En.dflt).Op = 7
 ad : x.2.Addr = -1 ∨ ((p.getD c.Pc.toNat En.dflt).Op = 5 ∧ x.2.Addr < m.length)
theorem execLaw {p : List DIns} {c : DCpu} {m : List Int} (h : execOk p c m = true) : ExecLaw p c m (execM p c m) := by
 obtain ⟨h0, h4, hr, hi⟩ := execFacts h
 have hm : m.all word = true := by
  simp only [execOk, Bool.and_eq_true] at h
  exact h.2
 have hc : cpuOk c = true := by
  simp only [execOk, Bool.and_eq_true] at h
  exact h.1.1.2
 have hpl : p.length ≤ 40 := by
  simp only [execOk, progOk, Bool.and_eq_true, decide_eq_true_eq] at h
  exact h.1.1.1.1
 rw [show execM p c m = execC p c m from if_pos h]
 unfold execC
 have F : ∀ {x : DCpu × DDid}, x = (c, didFault) → ExecLaw p c m x := by
  rintro _ rfl
  exact ⟨hc, fun _ => rfl, fun e => absurd rfl e, by rw [diffN_self]; omega, fun e => absurd rfl e, .inl rfl⟩
 by_cases hp : (p.length : Int) ≤ c.Pc
 ·rw [if_pos hp]; exact F rfl
 rw [if_neg hp]
 have hik := hi c.Pc.toNat (by omega)
 generalize hI : p.getD c.Pc.toNat En.dflt = I at hik
 obtain ⟨f1, f2, f3, f4, f5⟩ := insFacts hik
 obtain ⟨g1, g2, g3⟩ := insMore hik
 have S : ∀ (pc : Int) (a : Nat) (v : Int), pc = c.Pc + 1 → word v = true → ExecLaw p c m (⟨pc, c.Regs.set a v⟩, didNone) := by
  rintro _ a v rfl hv
  exact ⟨cpuOk_set hc (by omega) (by omega) a hv, fun e => absurd e (show (0 : Int) ≠ 2 by decide), fun _ => by omega, diffN_set4 _ _ _ _, fun _ => .inl rfl, .inl rfl⟩
 have P : ∀ (pc : Int) (d : DDid), d.Kind ≠ 2 → 0 ≤ pc → pc ≤ 40 → (pc = c.Pc + 1 ∨ I.Op = 6 ∨ I.Op = 7) → (d.Addr = -1 ∨ (I.Op = 5 ∧ d.Addr < m.length)) → ExecLaw p c m (⟨pc, c.Regs⟩, d) := by
  intro pc d hd ha hb hc' hd'
  exact ⟨cpuOk_pc hc ha hb, fun e => absurd e hd, fun _ => by omega, by rw [diffN_self]; omega, fun _ => by rw [hI]; exact hc', by rw [hI]; exact hd'⟩
 have w : ∀ {x : Int}, -1000000 ≤ x ∧ x ≤ 1000000 → word x = true := by
  intro x hx
  simp only [word, Bool.and_eq_true, decide_eq_true_eq]; exact hx
 unfold core
 split
 ·next e => exact S _ _ _ rfl (g1 e)
 split
 ·split
  ·next e => exact S _ _ _ rfl (w e)
  ·exact F rfl
 split
 ·split
  ·next e => exact S _ _ _ rfl (w e)
  ·exact F rfl
 split
 ·split
  ·exact F rfl
  ·split
   ·exact S _ _ _ rfl (word_at hm _)
   ·next e1 e2 e3 => exact P _ _ (show (0 : Int) ≠ 2 by decide) (by omega) (by omega) (.inl rfl) (.inr ⟨by omega, by show c.Regs.getD I.B.toNat En.dflt < _; omega⟩)
 split
 ·next e => exact P _ _ (by decide) (g2 e).1 (g2 e).2 (.inr (.inl e)) (.inl rfl)
 split
 ·next e =>
  split
  ·exact P _ _ (by decide) (g3 e).1 (g3 e).2 (.inr (.inr e)) (.inl rfl)
  ·exact P _ _ (by decide) (by omega) (by omega) (.inl rfl) (.inl rfl)
 ·exact P _ _ (by show (1 : Int) ≠ 2; decide) (by omega) (by omega) (.inl rfl) (.inl rfl)
theorem execM_ok {p : List DIns} {c : DCpu} {m : List Int} (h : ¬ ((execM p c m).1.Regs.length : Int) = 0) : execOk p c m = true := by
 by_cases g : execOk p c m = true
 ·exact g
 ·rw [show execM p c m = _ from if_neg g] at h
  exact absurd rfl h
theorem execM_bad {p : List DIns} {c : DCpu} {m : List Int} (h : (execM p c m).1.Regs.length = 0) : (execM p c m).2.Kind = 2 := by
 by_cases g : execOk p c m = true
 ·have := (execLaw g).ok
  simp only [cpuOk, Bool.and_eq_true, decide_eq_true_eq, beq_iff_eq] at this
  omega
 ·rw [show execM p c m = _ from if_neg g]; rfl
theorem execM_len {p : List DIns} {c : DCpu} {m : List Int} (h : execOk p c m = true) : (execM p c m).1.Regs.length = 4 ∧ c.Regs.length = 4 := by
 refine ⟨?_, (execFacts h).2.1⟩
 have := (execLaw h).ok
 simp only [cpuOk, Bool.and_eq_true, decide_eq_true_eq, beq_iff_eq] at this
 exact this.2.1
theorem diffN_yes {a b : List Int} {k : Nat} (h : ¬ a.getD k En.dflt = b.getD k En.dflt) : diffN a b (k + 1) = diffN a b k + 1 := by
 simp only [diffN]
 rw [if_pos (bne_iff_ne.2 h)]
theorem diffN_no {a b : List Int} {k : Nat} (h : a.getD k En.dflt = b.getD k En.dflt) : diffN a b (k + 1) = diffN a b k := by
 simp only [diffN, h, bne_self_eq_false, Bool.false_eq_true, if_false, Nat.add_zero]
theorem did_sim {a b d e : Int} {f : Nat → Nat → T} (h0 : f 0 0 = .v (iv a)) (h1 : f 0 1 = .v (iv b)) (h2 : f 0 2 = .v (iv d)) (h3 : f 0 3 = .v (iv e)) : (T.s 4 1 f).sim (.s 4 1 fun _ c => [T.v (iv a), T.v (iv b), T.v (iv d), T.v (iv e)].getD c .j) := T.sim_of fun k c hk hc => by
 obtain rfl : k = 0 := by omega
 rcases c with _ | _ | _ | _ | c
 ·exact h0
 ·exact h1
 ·exact h2
 ·exact h3
 ·omega
end Go.Proofs.Ytbchjcapphclgaa.VM
