/- Trees of owned cells, states over them, and rules to walk by. No conditions. -/
import Derived.LaidEql
import Derived.Laws.NewBlocks
import Derived.Lib.Join
import Derived.Lib.OthersKept
import Derived.Shelf.Slices.Empties
import Derived.Shelf.Slices.SearchI
import Derived.Shelf.Spec.SlicesInsertGrow
import Derived.Sort.Grow
import Derived.Sort.Row
import Derived.Test.YtfbefcmeghpalaaGreatVmC
set_option linter.all false
namespace Go.Proofs.YtfbefcmeghpalaaGreat.VM
open Go Go.RowKit
def allRt : List E → Bool
 | [] => true
 | .rt .. :: r => allRt r
 | _ :: _ => false
theorem allRt_mem : ∀ {L : List E}, allRt L = true → ∀ e ∈ L, ∃ id m t, e = .rt id m t
 | [], _, e, he => by cases he
 | .rt i m t :: r, h, e, he => by
  rcases List.mem_cons.1 he with rfl | he
  ·exact ⟨_, _, _, rfl⟩
  ·exact allRt_mem (L := r) h e he
theorem ids_uniq {M : List E} (hn : (idsL M).Nodup) : ∀ id m t m' t', rts M id m t → rts M id m' t' → m = m' ∧ t = t' := by
 induction M with
 | nil => intro id m t m' t' h; cases h
 | cons e r ih =>
  intro id m t m' t' h h'
  cases e with
  | sl s x =>
   rcases List.mem_cons.1 h with h | h
   ·cases h
   rcases List.mem_cons.1 h' with h' | h'
   ·cases h'
   exact ih hn id m t m' t' h h'
  | al s c x =>
   rcases List.mem_cons.1 h with h | h
   ·cases h
   rcases List.mem_cons.1 h' with h' | h'
   ·cases h'
   exact ih hn id m t m' t' h h'
  | rt i m0 t0 =>
   simp only [idsL, List.nodup_cons] at hn
   rcases List.mem_cons.1 h with k | k <;> rcases List.mem_cons.1 h' with k' | k'
   ·cases k; cases k'; exact ⟨rfl, rfl⟩
   ·cases k; exact absurd (idsL_mem.2 ⟨m', t', k'⟩) hn.1
   ·cases k'; exact absurd (idsL_mem.2 ⟨m, t, k⟩) hn.1
   ·exact ih hn.2 id m t m' t' k k'
/-- what is handed over may be seen otherwise, if it holds the same -/
theorem Con.sim {P : Program} {f : FuncId} {xs : List X} {ρ0 ρ : List E} {post : X → List E → Prop} (hs : hasS ρ0 ρ) (h : Con P f xs ρ post) (hl : allRt ρ = true) (hu : nodupB (idsL ρ) = true) (hx : X.insB (idsL ρ) xs = true) : Con P f xs ρ0 post := by
 intro w vs H G ht ha hr hv
 obtain ⟨_, a2, _⟩ := hasS_mem hs
 have hrt : ∀ id m t, rts ρ id m t → ∃ t0, rts ρ0 id m t0 ∧ t0.sim t := fun id m t hh => by
  obtain ⟨t0, e1, e2⟩ := a2 id m t hh
  exact ⟨t0, rootL_mem e1, e2⟩
 have hV : VRs (rts ρ) H w xs vs := by
  have : VR (rts ρ) H w (.g xs) (.agg vs.toArray) := VR.sim (R := rts ρ0) (ids := idsL ρ) (fun id hid m t ht => by
   obtain ⟨m', t', e⟩ := idsL_mem.1 hid
   obtain ⟨t0, e1, e2⟩ := hrt id m' t' e
   obtain ⟨rfl, rfl⟩ := hr.one _ _ _ _ _ ht e1
   exact ⟨t', e, e2⟩) (x := .g xs) (by simpa only [X.inB] using hx) ⟨vs, rfl, hv⟩
  obtain ⟨us, e, h⟩ := this
  simp only [Value.agg.injEq] at e
  have : vs = us := by simpa using congrArg Array.toList e
  rw [this]; exact h
 refine (h w vs H G ht (fun id m t h1 h2 a o h3 => by obtain ⟨t0, e1, _⟩ := hrt id m t h1; exact ha id m t0 e1 h2 a o h3) ⟨ids_uniq (nodup_of hu), ?_, ?_, ?_, ?_, ?_, ?_, ?_⟩ hV).mono ?_
 ·intro id m t h1 h2
  obtain ⟨t0, e1, e2⟩ := hrt id m t h1
  exact (hr.own id m t0 e1 h2).sim e2
 ·intro id t h1
  obtain ⟨t0, e1, e2⟩ := hrt id _ t h1
  exact (hr.ro id t0 e1).sim e2
 ·intro id t h1
  obtain ⟨t0, e1, e2⟩ := hrt id _ t h1
  exact hr.rold id t0 e1
 ·intro id t h1
  obtain ⟨t0, e1, e2⟩ := hrt id _ t h1
  obtain ⟨n, f, rfl⟩ := hr.box id t0 e1
  obtain ⟨g, rfl, _⟩ := e2
  exact ⟨n, g, rfl⟩
 ·intro id m t id' m' t' h1 h2
  obtain ⟨t0, e1, _⟩ := hrt id _ t h1
  obtain ⟨t1, e2, _⟩ := hrt id' _ t' h2
  exact hr.dis id m t0 id' m' t1 e1 e2
 ·intro t x h1
  obtain ⟨_, _, _, e⟩ := allRt_mem hl _ h1
  cases e
 ·intro id c x h1
  obtain ⟨_, _, _, e⟩ := allRt_mem hl _ h1
  cases e
 ·rintro e w' ⟨v, x, L, H', G', val, rfl, k1, k2, k3, k4, k5, k6⟩
  have hin : ∀ a o, (∃ id m t, rts ρ id m t ∧ m ≠ .ro ∧ G id a o) → ∃ id m t, rts ρ0 id m t ∧ m ≠ .ro ∧ G id a o := fun a o ⟨id, m, t, h1, h2, h3⟩ => by
   obtain ⟨t0, e1, _⟩ := hrt id m t h1
   exact ⟨id, m, t0, e1, h2, h3⟩
  exact ⟨v, x, L, H', G', val, rfl, k1, k2, k3, k4.mono fun a o _ h => hin a o h, fun id m t h1 h2 a o h3 => (k5 id m t h1 h2 a o h3).imp_left (hin a o), k6⟩
theorem szd_lo {w : Nat} {left : Int} (h : -1 ≤ left) : -1 ≤ szd w left := by have := szd_cases w left; omega
theorem szd_hi {w : Nat} {left : Int} (h : left ≤ 1048576) : szd w left ≤ 1048576 := by have := szd_cases w left; omega
end Go.Proofs.YtfbefcmeghpalaaGreat.VM
namespace Go.Proofs.YtfbefcmeghpalaaGreat.VM
open Go Go.RowKit
section
variable {P : Program} {N : Nat} {L : List E} {dst : Option Tmp} {ty : TypeId} {pos : String} {af : Array Edge} {g : Option (Nat × Bool)} {d : Nat}
theorem vrs_evals {H : Nat → Value} {w : World} {a : Act} (he : ∀ y, VR (rts L) H w (evX L y) (Act.eval a y)) : ∀ xs : List Operand, VRs (rts L) H w (xs.map (evX L)) (xs.map a.eval)
 | [] => trivial
 | x :: xs => ⟨he x, vrs_evals he xs⟩
/-- a function value with what it has captured -/
theorem Qt.makeFunc {f : FuncId} {caps : Array Operand} : Qt P ⟨dst, .makeFunc (.func f) #[] caps, ty, pos, af, g⟩ L (.f f (caps.toList.map (evX L))) :=
 fun H w a he _ => ⟨.func (.func f) #[] (caps.toList.map a.eval).toArray, by
  have : (caps.toList.map a.eval).toArray = caps.map a.eval := by rw [← Array.toList_map]
  simp [execOp, Instr.makeFunc, this], _, rfl, vrs_evals he _⟩
end
theorem Con.simH {P : Program} {f : FuncId} {xs : List X} {ρ0 ρ : List E} {post : X → List E → Prop} (h : Con P f xs ρ post) (hs : hasS ρ0 ρ) (hl : allRt ρ = true) (hu : nodupB (idsL ρ) = true) (hx : X.insB (idsL ρ) xs = true) : Con P f xs ρ0 post := Con.sim hs h hl hu hx
theorem sim_one {α : Type} [En α] {u : α} {f : Nat → Nat → T} (h : ∀ c, c < En.n α → (f 0 c).sim ((En.cs u).getD c .j)) : (T.s (En.n α) 1 f).sim (tr [u]) :=
 ⟨_, rfl, fun k c hk hc => by
  obtain rfl : k = 0 := by omega
  exact h c hc⟩
end Go.Proofs.YtfbefcmeghpalaaGreat.VM
namespace Go.Proofs.YtfbefcmeghpalaaGreat.VM
open Go Go.RowKit
/-! ### what lies in a box by alias, and what lies in it outright -/
mutual
/-- what spoke of root b speaks of the node at e of root i -/
def X.sub (b i : Nat) (e : Nat × Nat × Nat) : X → X
 | .p id q n k k2 => if Nat.beq id b then .p i (e :: q) n k k2 else .p id q n k k2
 | .h id q => if Nat.beq id b then .h i (e :: q) else .h id q
 | .a id q n lo len => if Nat.beq id b then .a i (e :: q) n lo len else .a id q n lo len
 | .g xs => .g (X.subs b i e xs)
 | .t xs => .t (X.subs b i e xs)
 | .f fn xs => .f fn (X.subs b i e xs)
 | .v x => .v x
 | .j => .j
 | .c => .c
def X.subs (b i : Nat) (e : Nat × Nat × Nat) : List X → List X
 | [] => []
 | x :: xs => X.sub b i e x :: X.subs b i e xs
end
def eqE (a b : Nat × Nat × Nat) : Bool := Nat.beq a.1 b.1 && (Nat.beq a.2.1 b.2.1 && Nat.beq a.2.2 b.2.2)
theorem eqE_eq {a b : Nat × Nat × Nat} (h : eqE a b = true) : a = b := by
 obtain ⟨a1, a2, a3⟩ := a
 obtain ⟨b1, b2, b3⟩ := b
 simp only [eqE, Bool.and_eq_true] at h
 rw [Nat.eq_of_beq_eq_true h.1, Nat.eq_of_beq_eq_true h.2.1, Nat.eq_of_beq_eq_true h.2.2]
theorem eqE_refl (a : Nat × Nat × Nat) : eqE a a = true := by simp [eqE]
def unsP (i : Nat) (e : Nat × Nat × Nat) (d id : Nat) (q : Path) : Nat × Path := match q with
 | [] => (id, [])
 | a :: r => if Nat.beq id i && eqE a e then (d, r) else (id, a :: r)
mutual
/-- what spoke of the node at e of root i speaks of root d -/
def X.uns (i : Nat) (e : Nat × Nat × Nat) (d : Nat) : X → X
 | .p id q n k k2 => .p (unsP i e d id q).1 (unsP i e d id q).2 n k k2
 | .h id q => .h (unsP i e d id q).1 (unsP i e d id q).2
 | .a id q n lo len => .a (unsP i e d id q).1 (unsP i e d id q).2 n lo len
 | .g xs => .g (X.unss i e d xs)
 | .t xs => .t (X.unss i e d xs)
 | .f fn xs => .f fn (X.unss i e d xs)
 | .v x => .v x
 | .j => .j
 | .c => .c
def X.unss (i : Nat) (e : Nat × Nat × Nat) (d : Nat) : List X → List X
 | [] => []
 | x :: xs => X.uns i e d x :: X.unss i e d xs
end
section
variable {R R' : RT} {H H' : Nat → Value} {w w' : World}
mutual
theorem VR.subOk {b i : Nat} {e : Nat × Nat × Nat} (hP : ∀ x v, X.leaf x → VR R H w x v → VR R' H' w' (x.sub b i e) v) : ∀ {x : X} {v : Value}, VR R H w x v → VR R' H' w' (x.sub b i e) v
 | .g xs, v, ⟨vs, h1, h2⟩ => ⟨vs, h1, VRs.subOk hP h2⟩
 | .t xs, v, ⟨vs, h1, h2⟩ => ⟨vs, h1, VRs.subOk hP h2⟩
 | .f fn xs, v, ⟨vs, h1, h2⟩ => ⟨vs, h1, VRs.subOk hP h2⟩
 | .v x, v, h => h
 | .j, v, _ => trivial
 | .c, v, h => h
 | .p .., v, h => hP _ _ trivial h
 | .h .., v, h => hP _ _ trivial h
 | .a .., v, h => hP _ _ trivial h
theorem VRs.subOk {b i : Nat} {e : Nat × Nat × Nat} (hP : ∀ x v, X.leaf x → VR R H w x v → VR R' H' w' (x.sub b i e) v) : ∀ {xs : List X} {vs : List Value}, VRs R H w xs vs → VRs R' H' w' (X.subs b i e xs) vs
 | [], [], _ => trivial
 | x :: xs, v :: vs, ⟨h1, h2⟩ => ⟨VR.subOk hP h1, VRs.subOk hP h2⟩
 | [], _ :: _, h => h.elim
 | _ :: _, [], h => h.elim
end
mutual
theorem VR.unsOk {i d : Nat} {e : Nat × Nat × Nat} (hP : ∀ x v, X.leaf x → VR R H w x v → VR R' H' w' (x.uns i e d) v) : ∀ {x : X} {v : Value}, VR R H w x v → VR R' H' w' (x.uns i e d) v
 | .g xs, v, ⟨vs, h1, h2⟩ => ⟨vs, h1, VRs.unsOk hP h2⟩
 | .t xs, v, ⟨vs, h1, h2⟩ => ⟨vs, h1, VRs.unsOk hP h2⟩
 | .f fn xs, v, ⟨vs, h1, h2⟩ => ⟨vs, h1, VRs.unsOk hP h2⟩
 | .v x, v, h => h
 | .j, v, _ => trivial
 | .c, v, h => h
 | .p .., v, h => hP _ _ trivial h
 | .h .., v, h => hP _ _ trivial h
 | .a .., v, h => hP _ _ trivial h
theorem VRs.unsOk {i d : Nat} {e : Nat × Nat × Nat} (hP : ∀ x v, X.leaf x → VR R H w x v → VR R' H' w' (x.uns i e d) v) : ∀ {xs : List X} {vs : List Value}, VRs R H w xs vs → VRs R' H' w' (X.unss i e d xs) vs
 | [], [], _ => trivial
 | x :: xs, v :: vs, ⟨h1, h2⟩ => ⟨VR.unsOk hP h1, VRs.unsOk hP h2⟩
 | [], _ :: _, h => h.elim
 | _ :: _, [], h => h.elim
end
end
def sinkL (b i c n : Nat) (tb : T) : List E → List E
 | [] => []
 | .sl s x :: L => .sl s (x.sub b i (n, 0, c)) :: sinkL b i c n tb L
 | .rt id m t :: L => if Nat.beq id b then sinkL b i c n tb L else .rt id m (if Nat.beq id i then t.put [] 0 c tb else t) :: sinkL b i c n tb L
 | .al id c' x :: L => if Nat.beq id i && Nat.beq c' c then sinkL b i c n tb L else .al id c' (x.sub b i (n, 0, c)) :: sinkL b i c n tb L
def hoistM (i c n d : Nat) : List E → List E
 | [] => []
 | .sl s x :: L => .sl s (x.uns i (n, 0, c) d) :: hoistM i c n d L
 | .rt id m t :: L => .rt id m (if Nat.beq id i then t.put [] 0 c .j else t) :: hoistM i c n d L
 | .al id c' x :: L => .al id c' (x.uns i (n, 0, c) d) :: hoistM i c n d L
def hoistL (i c n d : Nat) (tc : T) (L : List E) : List E := .rt d .row tc :: .al i c (.h d []) :: hoistM i c n d L
theorem sinkL_sl {b i c n : Nat} {tb : T} {s : Nat} {y : X} : ∀ {L : List E}, E.sl s y ∈ sinkL b i c n tb L → ∃ x, E.sl s x ∈ L ∧ y = x.sub b i (n, 0, c)
 | .sl s' x :: L, h => by
  rcases List.mem_cons.1 h with h | h
  ·cases h; exact ⟨x, List.mem_cons_self .., rfl⟩
  ·obtain ⟨x, h1, h2⟩ := sinkL_sl h; exact ⟨x, List.mem_cons_of_mem _ h1, h2⟩
 | .rt id m t :: L, h => by
  simp only [sinkL] at h
  split at h
  ·obtain ⟨x, h1, h2⟩ := sinkL_sl h; exact ⟨x, List.mem_cons_of_mem _ h1, h2⟩
  ·rcases List.mem_cons.1 h with h | h
   ·cases h
   ·obtain ⟨x, h1, h2⟩ := sinkL_sl h; exact ⟨x, List.mem_cons_of_mem _ h1, h2⟩
 | .al id c' x :: L, h => by
  simp only [sinkL] at h
  split at h
  ·obtain ⟨x, h1, h2⟩ := sinkL_sl h; exact ⟨x, List.mem_cons_of_mem _ h1, h2⟩
  ·rcases List.mem_cons.1 h with h | h
   ·cases h
   ·obtain ⟨x, h1, h2⟩ := sinkL_sl h; exact ⟨x, List.mem_cons_of_mem _ h1, h2⟩
theorem sinkL_al {b i c n : Nat} {tb : T} {s c1 : Nat} {y : X} : ∀ {L : List E}, E.al s c1 y ∈ sinkL b i c n tb L → ∃ x, E.al s c1 x ∈ L ∧ y = x.sub b i (n, 0, c) ∧ ¬ (s = i ∧ c1 = c)
 | .sl s' x :: L, h => by
  rcases List.mem_cons.1 h with h | h
  ·cases h
  ·obtain ⟨x, h1, h2⟩ := sinkL_al h; exact ⟨x, List.mem_cons_of_mem _ h1, h2⟩
 | .rt id m t :: L, h => by
  simp only [sinkL] at h
  split at h
  ·obtain ⟨x, h1, h2⟩ := sinkL_al h; exact ⟨x, List.mem_cons_of_mem _ h1, h2⟩
  ·rcases List.mem_cons.1 h with h | h
   ·cases h
   ·obtain ⟨x, h1, h2⟩ := sinkL_al h; exact ⟨x, List.mem_cons_of_mem _ h1, h2⟩
 | .al id c' x :: L, h => by
  simp only [sinkL] at h
  split at h
  ·obtain ⟨x, h1, h2⟩ := sinkL_al h; exact ⟨x, List.mem_cons_of_mem _ h1, h2⟩
  ·rename_i hne
   rcases List.mem_cons.1 h with h | h
   ·cases h
    refine ⟨x, List.mem_cons_self .., rfl, fun ⟨e1, e2⟩ => hne ?_⟩
    rw [e1, e2]; simp
   ·obtain ⟨x, h1, h2⟩ := sinkL_al h; exact ⟨x, List.mem_cons_of_mem _ h1, h2⟩
theorem sinkL_rt {b i c n : Nat} {tb : T} {id : Nat} {m : M} {t : T} : ∀ {L : List E}, rts (sinkL b i c n tb L) id m t ↔ id ≠ b ∧ ∃ t0, rts L id m t0 ∧ t = if id = i then t0.put [] 0 c tb else t0
 | [] => by simp [rts, sinkL]
 | .sl s' x :: L => by
  have := sinkL_rt (b := b) (i := i) (c := c) (n := n) (tb := tb) (id := id) (m := m) (t := t) (L := L)
  simpa [rts, sinkL] using this
 | .al s' c' x :: L => by
  have := sinkL_rt (b := b) (i := i) (c := c) (n := n) (tb := tb) (id := id) (m := m) (t := t) (L := L)
  simp only [rts, sinkL] at this ⊢
  split <;> simpa using this
 | .rt id' m' t' :: L => by
  have ih := sinkL_rt (b := b) (i := i) (c := c) (n := n) (tb := tb) (id := id) (m := m) (t := t) (L := L)
  simp only [rts, sinkL] at ih ⊢
  by_cases hb : id' = b
  ·subst hb
   simp only [Nat.beq_refl, if_true, ih, List.mem_cons, E.rt.injEq]
   constructor
   ·rintro ⟨h1, t0, h2, h3⟩; exact ⟨h1, t0, .inr h2, h3⟩
   ·rintro ⟨h1, t0, ⟨rfl, _⟩ | h2, h3⟩
    ·exact absurd rfl h1
    ·exact ⟨h1, t0, h2, h3⟩
  ·have hb' : ¬ (Nat.beq id' b = true) := fun h => hb (Nat.eq_of_beq_eq_true h)
   have hi : (if Nat.beq id' i = true then t'.put [] 0 c tb else t') = if id' = i then t'.put [] 0 c tb else t' := by
    by_cases h : id' = i
    ·subst h; simp
    ·rw [if_neg h, if_neg fun h' => h (Nat.eq_of_beq_eq_true h')]
   rw [if_neg hb', hi, List.mem_cons, ih, E.rt.injEq]
   constructor
   ·rintro (⟨rfl, rfl, rfl⟩ | ⟨h1, t0, h2, h3⟩)
    ·exact ⟨hb, t', List.mem_cons_self .., rfl⟩
    ·exact ⟨h1, t0, List.mem_cons_of_mem _ h2, h3⟩
   ·rintro ⟨h1, t0, h2, h3⟩
    rcases List.mem_cons.1 h2 with h2 | h2
    ·cases h2; exact .inl ⟨rfl, rfl, h3⟩
    ·exact .inr ⟨h1, t0, h2, h3⟩
theorem hoistM_sl {i c n d : Nat} {s : Nat} {y : X} : ∀ {L : List E}, E.sl s y ∈ hoistM i c n d L → ∃ x, E.sl s x ∈ L ∧ y = x.uns i (n, 0, c) d
 | .sl s' x :: L, h => by
  rcases List.mem_cons.1 h with h | h
  ·cases h; exact ⟨x, List.mem_cons_self .., rfl⟩
  ·obtain ⟨x, h1, h2⟩ := hoistM_sl h; exact ⟨x, List.mem_cons_of_mem _ h1, h2⟩
 | .rt id m t :: L, h => by
  rcases List.mem_cons.1 h with h | h
  ·cases h
  ·obtain ⟨x, h1, h2⟩ := hoistM_sl h; exact ⟨x, List.mem_cons_of_mem _ h1, h2⟩
 | .al id c' x :: L, h => by
  rcases List.mem_cons.1 h with h | h
  ·cases h
  ·obtain ⟨x, h1, h2⟩ := hoistM_sl h; exact ⟨x, List.mem_cons_of_mem _ h1, h2⟩
theorem hoistM_al {i c n d : Nat} {s c1 : Nat} {y : X} : ∀ {L : List E}, E.al s c1 y ∈ hoistM i c n d L → ∃ x, E.al s c1 x ∈ L ∧ y = x.uns i (n, 0, c) d
 | .sl s' x :: L, h => by
  rcases List.mem_cons.1 h with h | h
  ·cases h
  ·obtain ⟨x, h1, h2⟩ := hoistM_al h; exact ⟨x, List.mem_cons_of_mem _ h1, h2⟩
 | .rt id m t :: L, h => by
  rcases List.mem_cons.1 h with h | h
  ·cases h
  ·obtain ⟨x, h1, h2⟩ := hoistM_al h; exact ⟨x, List.mem_cons_of_mem _ h1, h2⟩
 | .al id c' x :: L, h => by
  rcases List.mem_cons.1 h with h | h
  ·cases h; exact ⟨x, List.mem_cons_self .., rfl⟩
  ·obtain ⟨x, h1, h2⟩ := hoistM_al h; exact ⟨x, List.mem_cons_of_mem _ h1, h2⟩
theorem hoistM_rt {i c n d : Nat} {id : Nat} {m : M} {t : T} : ∀ {L : List E}, rts (hoistM i c n d L) id m t ↔ ∃ t0, rts L id m t0 ∧ t = if id = i then t0.put [] 0 c .j else t0
 | [] => by simp [rts, hoistM]
 | .sl s' x :: L => by
  have := hoistM_rt (i := i) (c := c) (n := n) (d := d) (id := id) (m := m) (t := t) (L := L)
  simpa [rts, hoistM] using this
 | .al s' c' x :: L => by
  have := hoistM_rt (i := i) (c := c) (n := n) (d := d) (id := id) (m := m) (t := t) (L := L)
  simpa [rts, hoistM] using this
 | .rt id' m' t' :: L => by
  have ih := hoistM_rt (i := i) (c := c) (n := n) (d := d) (id := id) (m := m) (t := t) (L := L)
  simp only [rts, hoistM] at ih ⊢
  have hi : (if Nat.beq id' i = true then t'.put [] 0 c .j else t') = if id' = i then t'.put [] 0 c .j else t' := by
   by_cases h : id' = i
   ·subst h; simp
   ·rw [if_neg h, if_neg fun h' => h (Nat.eq_of_beq_eq_true h')]
  rw [hi, List.mem_cons, ih, E.rt.injEq]
  constructor
  ·rintro (⟨rfl, rfl, rfl⟩ | ⟨t0, h2, h3⟩)
   ·exact ⟨t', List.mem_cons_self .., rfl⟩
   ·exact ⟨t0, List.mem_cons_of_mem _ h2, h3⟩
  ·rintro ⟨t0, h2, h3⟩
   rcases List.mem_cons.1 h2 with h2 | h2
   ·cases h2; exact .inl ⟨rfl, rfl, h3⟩
   ·exact .inr ⟨t0, h2, h3⟩
/-- ways that avoid one cell -/
theorem upd_at {n c : Nat} {f : Nat → Nat → T} {y : T} : ∀ {q : Path}, Okp (.s n 1 f) q → (∀ r, q ≠ (n, 0, c) :: r) → Okp (.s n 1 (upd f 0 c y)) q ∧ ∀ {n1 len : Nat} {f1 : Nat → Nat → T}, (T.s n 1 f).at q = .s n1 len f1 → ∃ f2, (T.s n 1 (upd f 0 c y)).at q = .s n1 len f2
  | [], _, _ => ⟨trivial, fun h => by simp only [T.at] at h ⊢; cases h; exact ⟨_, rfl⟩⟩
  | (n', k', c') :: q', ⟨hnn, hk, hc, hq⟩, hne => by
    subst hnn
    have hkc : ¬ (k' = 0 ∧ c' = c) := by
      rintro ⟨rfl, rfl⟩
      exact hne q' rfl
    have e : upd f 0 c y k' c' = f k' c' := by simp only [upd, if_neg hkc]
    refine ⟨⟨rfl, hk, hc, by rw [e]; exact hq⟩, fun h => ?_⟩
    simp only [T.at] at h ⊢
    rw [e]
    exact ⟨_, h⟩
theorem hd_cons {w : World} {h x : Value} {n k c b o : Nat} {q : Path} (h1 : adr h n k c = some ⟨b, o, none⟩) (h2 : w.cell? ⟨b, o, none⟩ = some x) : hd w h ((n, k, c) :: q) = hd w x q := by
 simp only [hd, h1, h2]
theorem Weak.sink {N : Nat} {L : List E} (b i c : Nat) {n : Nat} {f : Nat → Nat → T} {tb : T} (hi : rootL L i = some (.box, .s n 1 f)) (hc : c < n) (hf : f 0 c = .j) (hb : rootL L b = some (.row, tb)) (hal : aliasL L i c = .h b []) (hne : Nat.beq b i = false) : Weak N L (sinkL b i c n tb L) := fun cx a w hs => by
 obtain ⟨H, G, hr, hG⟩ := hs.rp
 have hi' := rootL_mem hi
 have hb' := rootL_mem hb
 have hne' : b ≠ i := fun e => by rw [e, Nat.beq_refl] at hne; cases hne
 have hal' : E.al i c (.h b []) ∈ L := by
  rcases aliasL_mem (L := L) (id := i) (c := c) with h | h
  ·rw [hal] at h; cases h
  ·rw [hal] at h; exact h
 obtain ⟨n2, f2, e1, e2, A, v, e3, e4, e5⟩ := hr.al i c _ hal'
 have e6 := (hr.one _ _ _ _ _ hi' e1).2
 cases e6
 have hv : v = H b := by
  obtain ⟨m, t, _, _, _, h⟩ := e5
  simp only [VM.hd, Option.some.injEq] at h
  exact h.symm
 subst hv
 have hO := hr.own i _ _ hi' (by simp)
 obtain ⟨b0, o0, x0, Gx, g1, g2, g3, g4, g5, g6, g7, g8⟩ := hO.row (k := 0) (c := c) (by omega) hc
 have hA : A = ⟨b0, o0, none⟩ := by
  obtain ⟨a0, l0, c0, q1, q2⟩ := adr_some e3
  rw [q1] at g1
  simp only [adr, Option.some.injEq] at g1
  rw [q2, ← g1]
  simp
 rw [hA, g2] at e4
 cases e4
 have hGx : ∀ x y, ¬ Gx x y := by rw [hf] at g3; exact g3.2
 have hOb := hr.own b _ _ hb' (by simp)
 obtain ⟨k1, -⟩ := g8 (w' := w) (S := fun _ _ => False) (y := tb) (x' := H b) (Gy := G b) (Chg.refl _ _) (fun _ _ h => h.elim) g2 hOb (fun x y hg => .inr fun hF => hr.dis _ _ _ _ _ _ hb' hi' hne' (by simp) x y hg hF)
 have hrt : ∀ {id m t}, rts (sinkL b i c n tb L) id m t → (id = i ∧ m = .box ∧ t = .s n 1 (upd f 0 c tb)) ∨ (id ≠ i ∧ id ≠ b ∧ rts L id m t) := fun {id m t} h => by
  obtain ⟨h1, t0, h2, h3⟩ := sinkL_rt.1 h
  by_cases e : id = i
  ·subst e
   obtain ⟨rfl, rfl⟩ := hr.one _ _ _ _ _ h2 hi'
   rw [if_pos rfl] at h3
   exact .inl ⟨rfl, rfl, h3⟩
  ·rw [if_neg e] at h3
   subst h3
   exact .inr ⟨e, h1, h2⟩
 have hri : rts (sinkL b i c n tb L) i .box (.s n 1 (upd f 0 c tb)) := sinkL_rt.2 ⟨fun e => hne' e.symm, _, hi', by rw [if_pos rfl]; rfl⟩
 have hro : ∀ {id m t}, id ≠ i → id ≠ b → rts L id m t → rts (sinkL b i c n tb L) id m t := fun {id m t} h1 h2 h => sinkL_rt.2 ⟨h2, t, h, by rw [if_neg h1]⟩
 have havoid : ∀ {q : Path} {n1 len : Nat} {f1 : Nat → Nat → T}, (T.s n 1 f).at q = .s n1 len f1 → ∀ r, q ≠ (n, 0, c) :: r := fun {q n1 len f1} h r e => by
  subst e
  simp only [T.at, hf] at h
  cases r <;> simp [T.at] at h
 have hleaf : ∀ x v, X.leaf x → VR (rts L) H w x v → VR (rts (sinkL b i c n tb L)) H w (x.sub b i (n, 0, c)) v := fun x v hl h => by
  cases x with
  | p id q n1 k c1 =>
   obtain ⟨m, t, h1, h2, ⟨len, f1, h3, h4, h5⟩, hv, A1, h6, h7⟩ := h
   by_cases e : id = b
   ·subst e
    obtain ⟨rfl, rfl⟩ := hr.one _ _ _ _ _ h1 hb'
    simp only [X.sub, Nat.beq_refl, if_true]
    exact ⟨_, _, hri, ⟨rfl, Nat.zero_lt_one, hc, by simpa [upd] using h2⟩, ⟨len, f1, by simpa [T.at, upd] using h3, h4, h5⟩, hv, A1, by rw [hd_cons g1 g2]; exact h6, h7⟩
   ·simp only [X.sub, if_neg fun h => e (Nat.eq_of_beq_eq_true h)]
    by_cases e' : id = i
    ·subst e'
     obtain ⟨rfl, rfl⟩ := hr.one _ _ _ _ _ h1 hi'
     obtain ⟨p1, p2⟩ := upd_at (y := tb) h2 (havoid h3)
     obtain ⟨f2, p3⟩ := p2 h3
     exact ⟨_, _, hri, p1, ⟨len, f2, p3, h4, h5⟩, hv, A1, h6, h7⟩
    ·exact ⟨m, t, hro e' e h1, h2, ⟨len, f1, h3, h4, h5⟩, hv, A1, h6, h7⟩
  | h id q =>
   obtain ⟨m, t, h1, h2, ⟨n1, len, f1, h3⟩, h6⟩ := h
   by_cases e : id = b
   ·subst e
    obtain ⟨rfl, rfl⟩ := hr.one _ _ _ _ _ h1 hb'
    simp only [X.sub, Nat.beq_refl, if_true]
    exact ⟨_, _, hri, ⟨rfl, Nat.zero_lt_one, hc, by simpa [upd] using h2⟩, ⟨n1, len, f1, by simpa [T.at, upd] using h3⟩, by rw [hd_cons g1 g2]; exact h6⟩
   ·simp only [X.sub, if_neg fun h => e (Nat.eq_of_beq_eq_true h)]
    by_cases e' : id = i
    ·subst e'
     obtain ⟨rfl, rfl⟩ := hr.one _ _ _ _ _ h1 hi'
     obtain ⟨p1, p2⟩ := upd_at (y := tb) h2 (havoid h3)
     obtain ⟨f2, p3⟩ := p2 h3
     exact ⟨_, _, hri, p1, ⟨n1, len, f2, p3⟩, h6⟩
    ·exact ⟨m, t, hro e' e h1, h2, ⟨n1, len, f1, h3⟩, h6⟩
  | a id q n1 lo len =>
   obtain ⟨m, t, h1, h2, ⟨l, f1, h3, h4⟩, hv, h6, h7⟩ := h
   by_cases e : id = b
   ·subst e
    obtain ⟨rfl, rfl⟩ := hr.one _ _ _ _ _ h1 hb'
    simp only [X.sub, Nat.beq_refl, if_true]
    exact ⟨_, _, hri, ⟨rfl, Nat.zero_lt_one, hc, by simpa [upd] using h2⟩, ⟨l, f1, by simpa [T.at, upd] using h3, h4⟩, hv, by rw [hd_cons g1 g2]; exact h6, h7⟩
   ·simp only [X.sub, if_neg fun h => e (Nat.eq_of_beq_eq_true h)]
    by_cases e' : id = i
    ·subst e'
     obtain ⟨rfl, rfl⟩ := hr.one _ _ _ _ _ h1 hi'
     obtain ⟨p1, p2⟩ := upd_at (y := tb) h2 (havoid h3)
     obtain ⟨f2, p3⟩ := p2 h3
     exact ⟨_, _, hri, p1, ⟨l, f2, p3, h4⟩, hv, h6, h7⟩
    ·exact ⟨m, t, hro e' e h1, h2, ⟨l, f1, h3, h4⟩, hv, h6, h7⟩
  | _ => exact hl.elim
 refine ⟨hs.siz, hs.dfr, hs.chg, H, updN G i fun a p => (G i a p ∧ ¬ Gx a p) ∨ G b a p, ⟨fun id m t m' t' h1 h2 => ?_, fun id m t h1 h2 => ?_, fun id t h1 => ?_, fun id t h1 => ?_, fun id t h1 => ?_, fun id m t id' m' t' h1 h2 hne2 hm x y hx hy => ?_, fun t x h => ?_, fun id c1 x h => ?_⟩, fun id m t h1 h2 x y hx => ?_, fun id m t h1 h2 => ?_⟩
 ·rcases hrt h1 with ⟨rfl, rfl, rfl⟩ | ⟨a1, a2, a3⟩ <;> rcases hrt h2 with ⟨b1, b2, b3⟩ | ⟨b1, b2, b3⟩
  ·exact ⟨b2.symm, b3.symm⟩
  ·exact absurd rfl b1
  ·exact absurd b1 a1
  ·exact hr.one _ _ _ _ _ a3 b3
 ·rcases hrt h1 with ⟨rfl, rfl, rfl⟩ | ⟨a1, a2, a3⟩
  ·simp only [updN, if_true]; exact k1
  ·simp only [updN, if_neg a1]; exact hr.own _ _ _ a3 h2
 ·rcases hrt h1 with ⟨_, h, _⟩ | ⟨a1, a2, a3⟩
  ·cases h
  ·simp only [updN, if_neg a1]; exact hr.ro _ _ a3
 ·rcases hrt h1 with ⟨_, h, _⟩ | ⟨a1, a2, a3⟩
  ·cases h
  ·simp only [updN, if_neg a1]; exact hr.rold _ _ a3
 ·rcases hrt h1 with ⟨_, _, rfl⟩ | ⟨a1, a2, a3⟩
  ·exact ⟨_, _, rfl⟩
  ·exact hr.box _ _ a3
 ·rcases hrt h1 with ⟨rfl, rfl, rfl⟩ | ⟨a1, a2, a3⟩ <;> rcases hrt h2 with ⟨b1, b2, b3⟩ | ⟨b1, b2, b3⟩
  ·exact hne2 b1.symm
  ·simp only [updN, if_true] at hx
   simp only [updN, if_neg b1] at hy
   rcases hx with ⟨hx, _⟩ | hx
   ·exact hr.dis _ _ _ _ _ _ hi' b3 hne2 (by simp) x y hx hy
   ·exact hr.dis _ _ _ _ _ _ hb' b3 (Ne.symm b2) (by simp) x y hx hy
  ·subst b1
   simp only [updN, if_true] at hy
   simp only [updN, if_neg a1] at hx
   rcases hy with ⟨hy, _⟩ | hy
   ·exact hr.dis _ _ _ _ _ _ hi' a3 (Ne.symm hne2) (by simp) x y hy hx
   ·exact hr.dis _ _ _ _ _ _ hb' a3 (Ne.symm a2) (by simp) x y hy hx
  ·simp only [updN, if_neg a1] at hx
   simp only [updN, if_neg b1] at hy
   exact hr.dis _ _ _ _ _ _ a3 b3 hne2 hm x y hx hy
 ·obtain ⟨x', h1, rfl⟩ := sinkL_sl h
  exact VR.subOk hleaf (hr.sl t x' h1)
 ·obtain ⟨x', h1, rfl, h3⟩ := sinkL_al h
  obtain ⟨n3, f3, p1, p2, A3, v3, p3, p4, p5⟩ := hr.al id c1 x' h1
  by_cases e : id = i
  ·subst e
   have := (hr.one _ _ _ _ _ hi' p1).2
   cases this
   exact ⟨n, _, hri, p2, A3, v3, p3, p4, VR.subOk hleaf p5⟩
  ·have e' : id ≠ b := fun e' => by
    subst e'
    obtain ⟨hh, _⟩ := hr.one _ _ _ _ _ hb' p1
    cases hh
   exact ⟨n3, f3, hro e e' p1, p2, A3, v3, p3, p4, VR.subOk hleaf p5⟩
 ·rcases hrt h1 with ⟨rfl, rfl, rfl⟩ | ⟨a1, a2, a3⟩
  ·simp only [updN, if_true] at hx
   rcases hx with ⟨hx, _⟩ | hx
   ·exact hG.1 _ _ _ hi' (by simp) x y hx
   ·exact hG.1 _ _ _ hb' (by simp) x y hx
  ·simp only [updN, if_neg a1] at hx
   exact hG.1 _ _ _ a3 h2 x y hx
 ·rcases hrt h2 with ⟨rfl, rfl, rfl⟩ | ⟨a1, a2, a3⟩
  ·exact hG.2 _ _ _ h1 hi'
  ·exact hG.2 _ _ _ h1 a3
theorem Weak.hoist {N : Nat} {L : List E} (i c d : Nat) {n n1 len : Nat} {f f1 : Nat → Nat → T} (hi : rootL L i = some (.box, .s n 1 f)) (hc : c < n) (hf : f 0 c = .s n1 len f1) (hd : Nat.blt d base = true) (hn : (idsL L).contains d = false) : Weak N L (hoistL i c n d (.s n1 len f1) L) := fun cx a w hs => by
 obtain ⟨H, G, hr, hG⟩ := hs.rp
 have hi' := rootL_mem hi
 have hdn : ∀ {m t}, ¬ rts L d m t := fun {m t} h => by
  have : d ∈ idsL L := idsL_mem.2 ⟨m, t, h⟩
  simp [this] at hn
 have hdi : d ≠ i := fun e => hdn (e ▸ hi')
 have hdb : d < base := Nat.blt_eq.mp hd
 have hO := hr.own i _ _ hi' (by simp)
 obtain ⟨b0, o0, x0, Gx, g1, g2, g3, g4, g5, g6, g7, g8⟩ := hO.row (k := 0) (c := c) (by omega) hc
 obtain ⟨k1, -⟩ := g8 (w' := w) (S := fun _ _ => False) (y := .j) (x' := x0) (Gy := fun _ _ => False) (Chg.refl _ _) (fun _ _ h => h.elim) g2 ⟨g3.one, fun _ _ h => h⟩ (fun x y hg => hg.elim)
 rw [hf] at g3
 have hrt : ∀ {id m t}, rts (hoistL i c n d (.s n1 len f1) L) id m t → (id = d ∧ m = .row ∧ t = .s n1 len f1) ∨ (id = i ∧ m = .box ∧ t = .s n 1 (upd f 0 c .j)) ∨ (id ≠ i ∧ id ≠ d ∧ rts L id m t) := fun {id m t} h => by
  rcases List.mem_cons.1 h with h | h
  ·cases h; exact .inl ⟨rfl, rfl, rfl⟩
  rcases List.mem_cons.1 h with h | h
  ·cases h
  obtain ⟨t0, h2, h3⟩ := hoistM_rt.1 h
  by_cases e : id = i
  ·subst e
   obtain ⟨rfl, rfl⟩ := hr.one _ _ _ _ _ h2 hi'
   rw [if_pos rfl] at h3
   exact .inr (.inl ⟨rfl, rfl, h3⟩)
  ·rw [if_neg e] at h3
   subst h3
   exact .inr (.inr ⟨e, fun e' => hdn (e' ▸ h2), h2⟩)
 have hrd : rts (hoistL i c n d (.s n1 len f1) L) d .row (.s n1 len f1) := List.mem_cons_self ..
 have hri : rts (hoistL i c n d (.s n1 len f1) L) i .box (.s n 1 (upd f 0 c .j)) := List.mem_cons_of_mem _ (List.mem_cons_of_mem _ (hoistM_rt.2 ⟨_, hi', by rw [if_pos rfl]; rfl⟩))
 have hro : ∀ {id m t}, id ≠ i → rts L id m t → rts (hoistL i c n d (.s n1 len f1) L) id m t := fun {id m t} h1 h => List.mem_cons_of_mem _ (List.mem_cons_of_mem _ (hoistM_rt.2 ⟨t, h, by rw [if_neg h1]⟩))
 let H' : Nat → Value := updN H d x0
 have hHd : H' d = x0 := by simp [H', updN]
 have hHo : ∀ {id m t}, rts L id m t → H' id = H id := fun {id m t} h => by
  have : id ≠ d := fun e => hdn (e ▸ h)
  simp [H', updN, this]
 -- a way through the cell, or past it
 have hway : ∀ {id m t q}, rts L id m t → Okp t q → ∃ m' t', rts (hoistL i c n d (.s n1 len f1) L) (unsP i (n, 0, c) d id q).1 m' t' ∧ Okp t' (unsP i (n, 0, c) d id q).2 ∧ (∀ {n2 l2 : Nat} {f2 : Nat → Nat → T}, t.at q = .s n2 l2 f2 → ∃ f3, t'.at (unsP i (n, 0, c) d id q).2 = .s n2 l2 f3) ∧ VM.hd w (H' (unsP i (n, 0, c) d id q).1) (unsP i (n, 0, c) d id q).2 = VM.hd w (H id) q := fun {id m t q} h hq => by
  have hpast : (∀ r, id = i → q ≠ (n, 0, c) :: r) → ∃ m' t', rts (hoistL i c n d (.s n1 len f1) L) id m' t' ∧ Okp t' q ∧ (∀ {n2 l2 : Nat} {f2 : Nat → Nat → T}, t.at q = .s n2 l2 f2 → ∃ f3, t'.at q = .s n2 l2 f3) ∧ VM.hd w (H' id) q = VM.hd w (H id) q := fun hav => by
   rw [hHo h]
   by_cases e : id = i
   ·subst e
    obtain ⟨rfl, rfl⟩ := hr.one _ _ _ _ _ h hi'
    obtain ⟨p1, p2⟩ := upd_at (y := .j) hq fun r => hav r rfl
    exact ⟨_, _, hri, p1, fun hh => p2 hh, rfl⟩
   ·exact ⟨m, t, hro e h, hq, fun hh => ⟨_, hh⟩, rfl⟩
  cases q with
  | nil => exact hpast fun r _ e => by cases e
  | cons e q =>
   simp only [unsP]
   by_cases hh : (Nat.beq id i && eqE e (n, 0, c)) = true
   ·rw [if_pos hh]
    simp only [Bool.and_eq_true] at hh
    have e1 := Nat.eq_of_beq_eq_true hh.1
    have e2 := eqE_eq hh.2
    subst e1 e2
    obtain ⟨rfl, rfl⟩ := hr.one _ _ _ _ _ h hi'
    obtain ⟨_, _, _, hq'⟩ := hq
    rw [hf] at hq'
    refine ⟨_, _, hrd, hq', fun hh => ⟨_, by simpa only [T.at, hf] using hh⟩, ?_⟩
    rw [hHd, hd_cons g1 g2]
   ·rw [if_neg hh]
    refine hpast fun r h1 h2 => hh ?_
    cases h2
    rw [h1]
    simp [eqE_refl]
 have hleaf : ∀ x v, X.leaf x → VR (rts L) H w x v → VR (rts (hoistL i c n d (.s n1 len f1) L)) H' w (x.uns i (n, 0, c) d) v := fun x v hl h => by
  cases x with
  | p id q n2 k c1 =>
   obtain ⟨m, t, h1, h2, ⟨l2, f2, h3, h4, h5⟩, hv, A1, h6, h7⟩ := h
   obtain ⟨m', t', p1, p2, p3, p4⟩ := hway h1 h2
   obtain ⟨f3, p5⟩ := p3 h3
   exact ⟨m', t', p1, p2, ⟨l2, f3, p5, h4, h5⟩, hv, A1, by rw [p4]; exact h6, h7⟩
  | h id q =>
   obtain ⟨m, t, h1, h2, ⟨n2, l2, f2, h3⟩, h6⟩ := h
   obtain ⟨m', t', p1, p2, p3, p4⟩ := hway h1 h2
   obtain ⟨f3, p5⟩ := p3 h3
   exact ⟨m', t', p1, p2, ⟨n2, l2, f3, p5⟩, by rw [p4]; exact h6⟩
  | a id q n2 lo l2 =>
   obtain ⟨m, t, h1, h2, ⟨l, f2, h3, h4⟩, hv, h6, h7⟩ := h
   obtain ⟨m', t', p1, p2, p3, p4⟩ := hway h1 h2
   obtain ⟨f3, p5⟩ := p3 h3
   exact ⟨m', t', p1, p2, ⟨l, f3, p5, h4⟩, hv, by rw [p4]; exact h6, h7⟩
  | _ => exact hl.elim
 refine ⟨hs.siz, hs.dfr, hs.chg, H', updN (updN G i fun a p => (G i a p ∧ ¬ Gx a p) ∨ False) d Gx, ⟨fun id m t m' t' h1 h2 => ?_, fun id m t h1 h2 => ?_, fun id t h1 => ?_, fun id t h1 => ?_, fun id t h1 => ?_, fun id m t id' m' t' h1 h2 hne2 hm x y hx hy => ?_, fun t x h => ?_, fun id c1 x h => ?_⟩, fun id m t h1 h2 x y hx => ?_, fun id m t h1 h2 => ?_⟩
 ·rcases hrt h1 with ⟨rfl, rfl, rfl⟩ | ⟨rfl, rfl, rfl⟩ | ⟨a1, a2, a3⟩ <;> rcases hrt h2 with ⟨b1, b2, b3⟩ | ⟨b1, b2, b3⟩ | ⟨b1, b2, b3⟩
  ·exact ⟨b2.symm, b3.symm⟩
  ·exact absurd b1 hdi
  ·exact absurd rfl b2
  ·exact absurd b1.symm hdi
  ·exact ⟨b2.symm, b3.symm⟩
  ·exact absurd rfl b1
  ·exact absurd b1 a2
  ·exact absurd b1 a1
  ·exact hr.one _ _ _ _ _ a3 b3
 ·rcases hrt h1 with ⟨rfl, rfl, rfl⟩ | ⟨rfl, rfl, rfl⟩ | ⟨a1, a2, a3⟩
  ·simp only [updN, if_true]; rw [hHd]; exact g3
  ·simp only [updN, if_neg (Ne.symm hdi), if_true]; rw [hHo hi']; exact k1
  ·simp only [updN, if_neg a1, if_neg a2]; rw [hHo a3]; exact hr.own _ _ _ a3 h2
 ·rcases hrt h1 with ⟨_, h, _⟩ | ⟨_, h, _⟩ | ⟨a1, a2, a3⟩
  ·cases h
  ·cases h
  ·simp only [updN, if_neg a1, if_neg a2]; rw [hHo a3]; exact hr.ro _ _ a3
 ·rcases hrt h1 with ⟨_, h, _⟩ | ⟨_, h, _⟩ | ⟨a1, a2, a3⟩
  ·cases h
  ·cases h
  ·simp only [updN, if_neg a1, if_neg a2]; exact hr.rold _ _ a3
 ·rcases hrt h1 with ⟨_, h, _⟩ | ⟨_, _, rfl⟩ | ⟨a1, a2, a3⟩
  ·cases h
  ·exact ⟨_, _, rfl⟩
  ·exact hr.box _ _ a3
 ·rcases hrt h1 with ⟨rfl, rfl, rfl⟩ | ⟨rfl, rfl, rfl⟩ | ⟨a1, a2, a3⟩ <;> rcases hrt h2 with ⟨b1, b2, b3⟩ | ⟨b1, b2, b3⟩ | ⟨b1, b2, b3⟩
  ·exact hne2 b1.symm
  ·subst b1
   simp only [updN, if_true] at hx
   simp only [updN, if_neg (Ne.symm hdi), if_true] at hy
   rcases hy with ⟨_, hy⟩ | hy
   ·exact hy hx
   ·exact hy
  ·simp only [updN, if_true] at hx
   simp only [updN, if_neg b1, if_neg b2] at hy
   exact hr.dis _ _ _ _ _ _ hi' b3 (Ne.symm b1) (by simp) x y (g6 x y hx) hy
  ·subst b1
   simp only [updN, if_true] at hy
   simp only [updN, if_neg (Ne.symm hdi), if_true] at hx
   rcases hx with ⟨_, hx⟩ | hx
   ·exact hx hy
   ·exact hx
  ·exact hne2 b1.symm
  ·simp only [updN, if_neg (Ne.symm hdi), if_true] at hx
   simp only [updN, if_neg b1, if_neg b2] at hy
   rcases hx with ⟨hx, _⟩ | hx
   ·exact hr.dis _ _ _ _ _ _ hi' b3 hne2 (by simp) x y hx hy
   ·exact hx
  ·subst b1
   simp only [updN, if_true] at hy
   simp only [updN, if_neg a1, if_neg a2] at hx
   exact hr.dis _ _ _ _ _ _ hi' a3 (Ne.symm a1) (by simp) x y (g6 x y hy) hx
  ·subst b1
   simp only [updN, if_neg (Ne.symm hdi), if_true] at hy
   simp only [updN, if_neg a1, if_neg a2] at hx
   rcases hy with ⟨hy, _⟩ | hy
   ·exact hr.dis _ _ _ _ _ _ hi' a3 (Ne.symm a1) (by simp) x y hy hx
   ·exact hy
  ·simp only [updN, if_neg a1, if_neg a2] at hx
   simp only [updN, if_neg b1, if_neg b2] at hy
   exact hr.dis _ _ _ _ _ _ a3 b3 hne2 hm x y hx hy
 ·rcases List.mem_cons.1 h with h | h
  ·cases h
  rcases List.mem_cons.1 h with h | h
  ·cases h
  obtain ⟨x', h1, rfl⟩ := hoistM_sl h
  exact VR.unsOk hleaf (hr.sl t x' h1)
 ·rcases List.mem_cons.1 h with h | h
  ·cases h
  rcases List.mem_cons.1 h with h | h
  ·cases h
   refine ⟨n, _, hri, hc, ⟨b0, o0, none⟩, x0, ?_, g2, ⟨_, _, hrd, trivial, ⟨_, _, _, rfl⟩, by rw [hHd]; rfl⟩⟩
   rw [hHo hi']
   obtain ⟨a0, l0, c0, q1, q2⟩ := adr_some g1
   rw [q1] at g1 ⊢
   rw [← g1]
   simp [adr]
  obtain ⟨x', h1, rfl⟩ := hoistM_al h
  obtain ⟨n3, f3, p1, p2, A3, v3, p3, p4, p5⟩ := hr.al id c1 x' h1
  by_cases e : id = i
  ·subst e
   have := (hr.one _ _ _ _ _ hi' p1).2
   cases this
   exact ⟨n, _, hri, p2, A3, v3, by rw [hHo hi']; exact p3, p4, VR.unsOk hleaf p5⟩
  ·exact ⟨n3, f3, hro e p1, p2, A3, v3, by rw [hHo p1]; exact p3, p4, VR.unsOk hleaf p5⟩
 ·rcases hrt h1 with ⟨rfl, rfl, rfl⟩ | ⟨rfl, rfl, rfl⟩ | ⟨a1, a2, a3⟩
  ·simp only [updN, if_true] at hx
   exact hG.1 _ _ _ hi' (by simp) x y (g6 x y hx)
  ·simp only [updN, if_neg (Ne.symm hdi), if_true] at hx
   rcases hx with ⟨hx, _⟩ | hx
   ·exact hG.1 _ _ _ hi' (by simp) x y hx
   ·exact hx.elim
  ·simp only [updN, if_neg a1, if_neg a2] at hx
   exact hG.1 _ _ _ a3 h2 x y hx
 ·rcases hrt h2 with ⟨rfl, rfl, rfl⟩ | ⟨rfl, rfl, rfl⟩ | ⟨a1, a2, a3⟩
  ·omega
  ·rw [hHo hi']; exact hG.2 _ _ _ h1 hi'
  ·rw [hHo a3]; exact hG.2 _ _ _ h1 a3
end Go.Proofs.YtfbefcmeghpalaaGreat.VM
namespace Go.Proofs.YtfbefcmeghpalaaGreat.VM
open Go Go.RowKit
theorem pbQuo4 (k : Nat) (h : k < 2 ^ 63) : pureBin .quo (iv k) (iv 4) = some (iv ((k / 4 : Nat) : Int)) := by
 show some (Value.int .i64 (IntKind.wrap .i64 ((k : Int).tdiv 4))) = _
 rw [Int.tdiv_eq_ediv_of_nonneg (by omega), show ((k : Int) / 4) = ((k / 4 : Nat) : Int) by omega, IntWalk.i64_in _ (by omega)]
theorem pbRem4 (k : Nat) : pureBin .rem (iv k) (iv 4) = some (iv ((k % 4 : Nat) : Int)) := by
 show some (Value.int .i64 ((k : Int).tmod 4)) = _
 have : ((k : Int).tmod 4) = ((k % 4 : Nat) : Int) := by rw [Int.tmod_eq_emod_of_nonneg (by omega)]; omega
 rw [this]
end Go.Proofs.YtfbefcmeghpalaaGreat.VM
namespace Go.Proofs.YtfbefcmeghpalaaGreat.VM
open Go Go.RowKit
/-! short words for the walks -/
section
variable {P : Program} {N : Nat} {L L' : List E} {Q : Exit → List E → Prop} {ops : Array Oper} {rest : List Oper} {o : Oper} {qs pend todo : List Nat} {S : Array Bool}
theorem qq {d : Nat} {x : X} {gb : Bool} (h : Qt P o L x) (k : AWL P N ops rest Q (putL L d x)) (hw : wantL ops L o = some gb := by exact rfl) (hgb : gb = true := by exact rfl) (hd : o.dst = some d := by exact rfl) (hN : d < N := by decide) : AWL P N ops (o :: rest) Q L := AWL.q hw hgb hd hN h k
theorem nm (k : AWL P N ops rest Q L') (h : L = L' := by simp only [go_sem, Int.reduceToNat, Nat.reduceLT, reduceIte, Nat.reduceEqDiff, Nat.reduceAdd, Nat.reduceMul, Nat.reduceBEq, reduceCtorEq]; rfl) : AWL P N ops rest Q L := AWL.nrm h k
theorem nl (k : Q .normal L') (h : L = L' := by simp only [go_sem, Int.reduceToNat, Nat.reduceLT, reduceIte, Nat.reduceEqDiff, Nat.reduceAdd, Nat.reduceMul, Nat.reduceBEq, reduceCtorEq]; rfl) : AWL P N ops [] Q L := AWL.nilE h k
theorem na (k : AWA P N ops qs Q S pend todo L') (h : L = L' := by first | (simp only [go_sem, Int.reduceToNat, Nat.reduceLT, reduceIte, Nat.reduceEqDiff, Nat.reduceAdd, Nat.reduceMul, Nat.reduceBEq, reduceCtorEq]; rfl) | rfl) : AWA P N ops qs Q S pend todo L := AWA.nrm h k
theorem tk (i : Nat) {x : X} {d : Nat} {o : Oper} {gb : Bool} (ho : ops[i]? = some o) (h : Qt P o L x) (k : AWA P N ops qs Q (S.setIfInBounds i true) (i :: pend) [] (putL L d x)) (hd : o.dst = some d := by exact rfl) (hq' : qs.contains i = true := by exact rfl) (hr : (Region.ready .any ops S).contains i = true := by decide +kernel) (hw : wantL ops L o = some gb := by exact rfl) (hgb : gb = true := by exact rfl) : AWA P N ops qs Q S pend [] L :=
 AWA.take i ho hd hq' hr (.on hw hgb h) k
theorem tg (i : Nat) {x : X} {d : Nat} {o : Oper} {gb : Bool} (ho : ops[i]? = some o) (hgb : gb = true) (h : Qt P o L x) (k : AWA P N ops qs Q (S.setIfInBounds i true) (i :: pend) [] (putL L d x)) (hd : o.dst = some d := by exact rfl) (hq' : qs.contains i = true := by exact rfl) (hr : (Region.ready .any ops S).contains i = true := by decide +kernel) (hw : wantL ops L o = some gb := by exact rfl) : AWA P N ops qs Q S pend [] L :=
 AWA.take i ho hd hq' hr (.on hw hgb h) k
theorem tf (i : Nat) {d : Nat} {o : Oper} {gb : Bool} (hgb : gb = false) (k : AWA P N ops qs Q (S.setIfInBounds i true) (i :: pend) [] (putL L d (.v undef))) (ho : ops[i]? = some o := by exact rfl) (hd : o.dst = some d := by exact rfl) (hq' : qs.contains i = true := by exact rfl) (hr : (Region.ready .any ops S).contains i = true := by decide +kernel) (hw : wantL ops L o = some gb := by exact rfl) : AWA P N ops qs Q S pend [] L :=
 AWA.take i ho hd hq' hr (.off hw hgb) k
theorem nz (k : Q .normal L') (hr : Region.ready .any ops S = [] := by decide +kernel) (h : L = L' := by first | (simp only [go_sem, Int.reduceToNat, Nat.reduceLT, reduceIte, Nat.reduceEqDiff, Nat.reduceAdd, Nat.reduceMul, Nat.reduceBEq, reduceCtorEq]; rfl) | rfl) : AWA P N ops qs Q S pend [] L := AWA.nilE hr h k
theorem ss {gb : Bool} (k : AWL P N ops rest Q L') (h : Stp P N o L L' := by first | exact Stp.storeA rfl rfl rfl rfl (by decide) rfl | exact Stp.store rfl rfl (by simp) rfl rfl rfl (by decide) rfl) (hw : wantL ops L o = some gb := by exact rfl) (hgb : gb = true := by exact rfl) : AWL P N ops (o :: rest) Q L := AWL.step hw hgb h k
theorem sp {gb : Bool} (h : Stp P N o L L') (k : AWL P N ops rest Q L') (hw : wantL ops L o = some gb := by exact rfl) (hgb : gb = true := by exact rfl) : AWL P N ops (o :: rest) Q L := AWL.step hw hgb h k
theorem jd (h : Q .normal L) : AW P N .skip Q L := AW.skip h
end
section
variable {P : Program} {L : List E} {dst : Option Tmp} {ty : TypeId} {pos : String} {af : Array Edge} {g : Option (Nat × Bool)}
theorem fA {t : TypeId} {x : Operand} {i off id : Nat} {q : Path} {n k c : Nat} {m : M} {T0 : T} {len : Nat} {f : Nat → Nat → T} (hF : Fld P t i off) (hx : evX L x = .p id q n k c := by exact rfl) (hR : rootL L id = some (m, T0) := by exact rfl) (hT : T0.at q = .s n len f := by exact rfl) (hc : c + off < n := by decide) : Qt P ⟨dst, .fieldAddr t x i, ty, pos, af, g⟩ L (.p id q n k (c + off)) := Qt.fieldAddr hx hF hR hT hc
end
/-- what a test says, in plain words -/
theorem cnd : (∀ (p : Prop) [Decidable p], (decide p = true) = p) ∧ (∀ (p : Prop) [Decidable p], (decide p = false) = ¬ p) ∧ (∀ a b : Int, ((a != b) = true) = ¬ (a = b)) ∧ (∀ a b : Int, ((a == b) = true) = (a = b)) ∧ (∀ a b : Int, ((a == b) = false) = ¬ (a = b)) ∧ (∀ a b : Int, ((a != b) = false) = (a = b)) ∧
    (∀ b : Bool, ((!b) = true) = (b = false)) ∧ (∀ b : Bool, ((!b) = false) = (b = true)) ∧ (∀ a b : Bool, ((a && b) = true) = (a = true ∧ b = true)) ∧ (∀ a b : Bool, ((a || b) = true) = (a = true ∨ b = true)) ∧ (∀ a b : Bool, ((a && b) = false) = (a = false ∨ b = false)) ∧ (∀ a b : Bool, ((a || b) = false) = (a = false ∧ b = false)) ∧
    (∀ a b : Int, (¬ a < b) = (b ≤ a)) ∧ (∀ a b : Int, (¬ a ≤ b) = (b < a)) ∧ (∀ n : Nat, (n : Int).toNat = n) := by
  refine ⟨?_, ?_, ?_, ?_, ?_, ?_, ?_, ?_, ?_, ?_, ?_, ?_, ?_, ?_, ?_⟩ <;> intros <;> first | (simp; done) | (rename_i a b; cases a <;> cases b <;> simp)
section
variable {P : Program} {N : Nat} {L : List E} {Q : Exit → List E → Prop} {ops : Array Oper} {rest : List Oper} {d : Nat} {ty : TypeId} {pos : String} {af : Array Edge} {g : Option (Nat × Bool)}
theorem cv {f : FuncId} {cal : Operand} {caps : List X} {args : Array Operand} {tys : Array TypeId} {xs : List X} {ρ : List E} {m : Nat} {r : Value} {gb : Bool} (hE : Ent P f) (hcal : evX L cal = .f f caps) (hq : roXs L (args.toList.map (evX L) ++ caps) base = (xs, ρ, m)) (hc : Con P f xs ρ fun x _ => x = .v r)
  (k : AWL P N ops rest Q (putL L d (.v r))) (hN : d < N := by decide) (hw : wantL ops L ⟨some d, .call { callee := .value cal, args := args, argTypes := tys }, ty, pos, af, g⟩ = some gb := by exact rfl) (hgb : gb = true := by exact rfl) : AWL P N ops (⟨some d, .call { callee := .value cal, args := args, argTypes := tys }, ty, pos, af, g⟩ :: rest) Q L :=
 AWL.step hw hgb (Stp.callV rfl hN hE hcal hq hc) k
end
end Go.Proofs.YtfbefcmeghpalaaGreat.VM
namespace Go.Proofs.YtfbefcmeghpalaaGreat.VM
open Go Go.RowKit
/-! strings laid together -/
end Go.Proofs.YtfbefcmeghpalaaGreat.VM
namespace Go.Proofs.YtfbefcmeghpalaaGreat.VM
open Go Go.RowKit
/-! shorter words for the walks -/
section
variable {P : Program} {N : Nat} {L L' : List E} {Q : Exit → List E → Prop} {ops : Array Oper} {l rest : List Oper} {o : Oper} {qs pend todo : List Nat} {S : Array Bool}
theorem Rf {id : Nat} {m : M} {t : T} (h : rootL L id = some (m, t)) : ∃ t0, rootL L id = some (m, t0) ∧ t0.sim t := ⟨t, h, T.sim_refl t⟩
theorem st1 {a b : X} (h : a = b := by simp only [slotL, reduceIte, Nat.reduceEqDiff]; first | rfl | (rw [IntWalk.i64_in _ (by omega)]; rfl)) : a = b := h
theorem rb {a b : Bool} (h : a = b) : retX [X.v (.bool a)] = X.v (.bool b) := by rw [h]; rfl
theorem AW.loopW {c : Code} {ι : Type} (J : ι → List E) (μ : ι → Nat) (i : ι) (hw : Weak N L (J i)) (h : ∀ i, AW P N c (thenQ (fun L => ∃ i', Weak N L (J i') ∧ μ i' < μ i) Q) (J i)) : AW P N (.loop c) Q L := AW.weak hw (AW.loop J μ i h)
theorem qg {d : Nat} {x : X} {gb : Bool} (hgb : gb = true) (h : Qt P o L x) (k : AWL P N ops rest Q (putL L d x)) (hw : wantL ops L o = some gb := by exact rfl) (hd : o.dst = some d := by exact rfl) (hN : d < N := by decide) : AWL P N ops (o :: rest) Q L := AWL.q hw hgb hd hN h k
theorem og {d : Nat} {gb : Bool} (hgb : gb = false) (k : AWL P N ops rest Q (putL L d (.v undef))) (hw : wantL ops L o = some gb := by exact rfl) (hd : o.dst = some d := by exact rfl) (hN : d < N := by decide) : AWL P N ops (o :: rest) Q L := AWL.out hw hgb hd hN k
theorem wj (d : Nat) (ds : List Nat) {v v' : Value} {LB : List E} (e : v = v') (hB : VM.dropS L ds = LB) (K : AWL P N ops l Q (putL LB d (.v v'))) (h : slotL L d = .v v := by exact rfl) : AWL P N ops l Q L := AWL.weak (Weak.join h e hB) K
theorem a1 (j : Nat) {L1 : List E} {gb : Bool} (pend' D : List Nat) (ho : ops[j]? = some o) (hgb : gb = true) (h : Stp P N o L L1) (k : AWA P N ops qs Q (S.setIfInBounds j true) pend' pend' L1) (hr : Region.ready .any ops S = [j] := by decide +kernel) (hw : wantL ops L o = some gb := by exact rfl)
  (hD : chainB ops [j] D = true := by decide +kernel) (hp : (pend.all fun i => pend'.contains i || D.contains i) = true := by decide +kernel) (hp' : (pend'.all fun i => pend.contains i) = true := by decide +kernel) : AWA P N ops qs Q S pend [] L := AWA.one j pend' D hr ho hw hgb hD hp hp' h k
theorem o1 (j : Nat) {d : Nat} {gb : Bool} (pend' D : List Nat) (ho : ops[j]? = some o) (hgb : gb = false) (k : AWA P N ops qs Q (S.setIfInBounds j true) pend' pend' (putL L d (.v undef))) (hr : Region.ready .any ops S = [j] := by decide +kernel) (hw : wantL ops L o = some gb := by exact rfl)
  (hD : chainB ops [j] D = true := by decide +kernel) (hp : (pend.all fun i => pend'.contains i || D.contains i) = true := by decide +kernel) (hp' : (pend'.all fun i => pend.contains i) = true := by decide +kernel) (hd : o.dst = some d := by exact rfl) (hN : d < N := by decide) : AWA P N ops qs Q S pend [] L := AWA.oneOff j pend' D hr ho hw hgb hD hp hp' hd hN k
end
end Go.Proofs.YtfbefcmeghpalaaGreat.VM
namespace Go.Proofs.YtfbefcmeghpalaaGreat.VM
open Go Go.RowKit Go.Sort
/-! rows that are handed over and come back as a row of their own -/
theorem own_one {w : World} {t : T} {F : FP} {v : Value} (h : Own w t F v) {w' : World} : Own w' .j (fun _ _ => False) v := ⟨h.one, fun _ _ h => h⟩
/-- the roots behind such a call -/
def newR (t' : T) (cs : List Nat) : List E := .rt 0 .row t' :: cs.map fun id => .rt id .row .j
theorem newR_mem {t' : T} {cs : List Nat} {id : Nat} {m : M} {t : T} : rts (newR t' cs) id m t ↔ (id = 0 ∧ m = .row ∧ t = t') ∨ (id ∈ cs ∧ m = .row ∧ t = .j) := by
 simp only [rts, newR, List.mem_cons, List.mem_map, E.rt.injEq]
 constructor
 ·rintro (⟨a, b, c⟩ | ⟨i, h, a, b, c⟩)
  ·exact .inl ⟨a, b, c⟩
  ·exact .inr ⟨a ▸ h, b.symm, c.symm⟩
 ·rintro (⟨a, b, c⟩ | ⟨h, b, c⟩)
  ·exact .inl ⟨a, b, c⟩
  ·exact .inr ⟨id, h, rfl, b.symm, c.symm⟩
theorem row_new {ρ0 : List E} {w w' : World} {H : Nat → Value} {G : Nat → FP} {t' : T} {F' : FP} {v' : Value} {S : FP} (cs : List Nat) (hr : Rp ρ0 (fun _ => undef) H G w) (hcs : ∀ id ∈ cs, base ≤ id ∧ ∃ m t, m ≠ .ro ∧ rts ρ0 id m t)
  (hC : Chg S w w') (hS : ∀ a o, S a o → ∃ id m t, rts ρ0 id m t ∧ m ≠ .ro ∧ G id a o) (hO : Own w' t' F' v') (hs : t'.isS = true) (hF : ∀ a o, F' a o → (∃ id m t, rts ρ0 id m t ∧ m ≠ .ro ∧ G id a o) ∨ w.heap.size ≤ a) :
  ∃ x L H' G' val, RetW (.h 0 []) [(0, .row, t')] (cs.map fun id => (id, T.j)) x L ∧ Rp L val H' G' w' ∧ VR (rts L) H' w' x v' ∧
   Chg (fun a o => ∃ id m t, rts ρ0 id m t ∧ m ≠ .ro ∧ G id a o) w w' ∧
   (∀ id m t, rts L id m t → m ≠ .ro → ∀ a o, G' id a o → (∃ id m t, rts ρ0 id m t ∧ m ≠ .ro ∧ G id a o) ∨ w.heap.size ≤ a) ∧
   ∀ id m t, base ≤ id → rts L id m t → H' id = H id := by
 obtain ⟨n, len, f, rfl⟩ := T.isS_eq hs
 have hb0 : ∀ id ∈ cs, id ≠ 0 := fun id h e => by have := (hcs id h).1; rw [e, base] at this; omega
 have h0 : rts (newR (.s n len f) cs) 0 .row (.s n len f) := newR_mem.2 (.inl ⟨rfl, rfl, rfl⟩)
 refine ⟨.h 0 [], newR (.s n len f) cs, updN H 0 v', fun id => if id = 0 then F' else fun _ _ => False, fun _ => undef, ⟨fun n => n, rfl, fun _ _ => rfl, by simp, ?_, ?_⟩, ?_, ?_, hC.mono fun a o _ h => hS a o h, ?_, ?_⟩
 ·intro r hr'
  cases List.mem_singleton.1 hr'
  exact ⟨by simp, h0, by simp [base]⟩
 ·intro p hp
  obtain ⟨id, h, rfl⟩ := List.mem_map.1 hp
  exact newR_mem.2 (.inr ⟨h, rfl, rfl⟩)
 ·refine ⟨fun id m t m' t' h h' => ?_, fun id m t h _ => ?_, fun id t h => ?_, fun id t h => ?_, fun id t h => ?_, fun id m t id' m' t' h h' hne _ x y hx hy => ?_, fun t x h => ?_, fun id c x h => ?_⟩
  ·rcases newR_mem.1 h with ⟨a1, a2, a3⟩ | ⟨a1, a2, a3⟩ <;> rcases newR_mem.1 h' with ⟨b1, b2, b3⟩ | ⟨b1, b2, b3⟩
   ·exact ⟨a2.trans b2.symm, a3.trans b3.symm⟩
   ·exact absurd a1 (hb0 id b1)
   ·exact absurd b1 (hb0 id a1)
   ·exact ⟨a2.trans b2.symm, a3.trans b3.symm⟩
  ·rcases newR_mem.1 h with ⟨rfl, rfl, rfl⟩ | ⟨a1, rfl, rfl⟩
   ·simpa [updN] using hO
   ·have hne := hb0 id a1
    obtain ⟨_, m, t, g1, g2⟩ := hcs id a1
    simp only [updN, if_neg hne]
    exact own_one (hr.own id m t g2 g1)
  ·rcases newR_mem.1 h with ⟨_, h, _⟩ | ⟨_, h, _⟩ <;> cases h
  ·rcases newR_mem.1 h with ⟨_, h, _⟩ | ⟨_, h, _⟩ <;> cases h
  ·rcases newR_mem.1 h with ⟨_, h, _⟩ | ⟨_, h, _⟩ <;> cases h
  ·rcases newR_mem.1 h with ⟨rfl, _, _⟩ | ⟨a1, _, _⟩
   ·rw [if_neg (Ne.symm hne)] at hy; exact hy
   ·rw [if_neg (hb0 id a1)] at hx; exact hx
  ·simp [newR] at h
  ·simp [newR] at h
 ·exact ⟨.row, _, h0, trivial, ⟨n, len, f, rfl⟩, by simp [hd, updN]⟩
 ·intro id m t h _ a o hg
  rcases newR_mem.1 h with ⟨rfl, _, _⟩ | ⟨a1, _, _⟩
  ·rw [if_pos rfl] at hg; exact hF a o hg
  ·rw [if_neg (hb0 id a1)] at hg; exact hg.elim
 ·intro id m t hb h
  have : id ≠ 0 := by rw [base] at hb; omega
  simp [updN, this]
theorem own_ints {w : World} {b off cap sz : Nat} {l : List Int} (hc : l.length ≤ cap) (hm : cap ≤ maxLen) (hk : Kd w b sz) (hsz : off + cap ≤ sz) (hcell : ∀ k, k < l.length → w.cell? ⟨b, off + k, none⟩ = some (iv (l.getD k 0))) : Own w (tr l) (fun x _ => 0 < cap ∧ x = b) (.slice (some ⟨b, off, none⟩) l.length cap) := by
 refine ⟨by decide, _, cap, rfl, hc, hm, b, off, fun k _ => iv (l.getD k 0), fun _ _ _ _ => False, fun _ => ⟨rfl, sz, hk, ?_⟩, ?_, ?_, ?_, ?_⟩
 ·have : cap * En.n Int = cap := Nat.mul_one cap
  omega
 ·intro k c hk' hc'
  have hc' : c < 1 := hc'
  obtain rfl : c = 0 := by omega
  rw [show k * En.n Int + 0 = k from Nat.mul_one k]
  exact ⟨hcell k hk', rfl, rfl, fun _ _ h => h⟩
 ·intros; assumption
 ·intro _ _ _ _ _ _ h; exact h.elim
 ·intro x y
  constructor
  ·exact fun h => .inl h
  ·rintro (h | ⟨_, _, _, _, h⟩)
   ·exact h
   ·exact h.elim
theorem ints_own {w : World} {l : List Int} {F : FP} {h : Value} (hO : Own w (tr l) F h) : ∃ a cap b off, h = .slice a l.length cap ∧ l.length ≤ cap ∧ cap ≤ maxLen ∧ (0 < cap → a = some ⟨b, off, none⟩ ∧ ∃ sz, Kd w b sz ∧ off + cap ≤ sz) ∧ (∀ k, k < l.length → w.cell? ⟨b, off + k, none⟩ = some (iv (l.getD k 0))) ∧ ∀ x y, F x y ↔ 0 < cap ∧ x = b := by
 obtain ⟨hn, a, cap, e0, hl, hm, b, off, V, Gk, h1, h2, h3, h4, h5⟩ := hO
 have hcell : ∀ k, k < l.length → w.cell? ⟨b, off + k, none⟩ = some (iv (l.getD k 0)) ∧ ∀ x y, ¬ Gk k 0 x y := fun k hk => by
  obtain ⟨g1, g2⟩ := h2 k 0 hk (by decide)
  rw [show k * En.n Int + 0 = k from Nat.mul_one k] at g1
  obtain ⟨g3, _, g4⟩ := g2
  rw [g1, g3]
  exact ⟨rfl, g4⟩
 refine ⟨a, cap, b, off, e0, hl, hm, fun hc => ?_, fun k hk => (hcell k hk).1, fun x y => ?_⟩
 ·obtain ⟨e1, sz, e2, e3⟩ := h1 hc
  have : cap * En.n Int = cap := Nat.mul_one cap
  exact ⟨e1, sz, e2, by omega⟩
 ·rw [h5]
  constructor
  ·rintro (h | ⟨k, c, hk, hc, hg⟩)
   ·exact h
   ·have hc' : c < 1 := hc
    obtain rfl : c = 0 := by omega
    exact ((hcell k hk).2 x y hg).elim
  ·exact fun h => .inl h
theorem Kd.frozen' {w : World} {b sz : Nat} (h : Kd w b sz) (o : Nat) : w.frozen? ⟨b, o, none⟩ = false := by
 obtain ⟨cur, e, g1, _⟩ := h
 simp [World.frozen?, g1]
theorem con_del {P : Program} {f : FuncId}
  (hs : ∀ (blk off cap i j : Nat) (zs : List Int) (w : World), Holds (Value.int .i64) w blk off zs.toArray → zs.length ≤ cap → cap ≤ 9223372036854775807 → i ≤ j → j ≤ zs.length →
   Calls P f #[.slice (some ⟨blk, off, none⟩) zs.length cap, .int .i64 i, .int .i64 j] w fun e w' => e = .returned (.slice (some ⟨blk, off, none⟩) (zs.length - (j - i)) cap) ∧ ∃ q, w' = putRow (Value.int .i64) (Sort.ahead w q) blk off (zs.take i ++ zs.drop j ++ List.replicate (j - i) 0).toArray)
  (l : List Int) (i j : Nat) (hij : i < j) (hj : j ≤ l.length) : Con P f [.h base [], .v (iv i), .v (iv j)] [.rt base .row (tr l)] (RetW (.h 0 []) [(0, .row, tr (l.take i ++ l.drop j))] [(base, .j)]) := by
 intro w vs H G _ _ hr hv
 match vs, hv with
 | [v, v1, v2], ⟨⟨m, t, _, _, _, hh⟩, hv1, hv2, _⟩ =>
 simp only [hd, Option.some.injEq] at hh
 obtain rfl : v1 = iv i := hv1
 obtain rfl : v2 = iv j := hv2
 have hb : rts [.rt base .row (tr l)] base .row (tr l) := List.mem_singleton.2 rfl
 obtain ⟨a, cap, b, off, e0, hl, hm, h1, h2, h3⟩ := ints_own (hr.own base .row (tr l) hb (by simp))
 obtain ⟨rfl, sz, hK, hsz⟩ := h1 (by omega)
 have hv : v = .slice (some ⟨b, off, none⟩) l.length cap := by rw [← hh, e0]
 subst hv
 refine (hs b off cap i j l w (fun k hk => ⟨?_, hK.frozen' _⟩) hl hm (by omega) hj).mono ?_
 ·have hk' : k < l.length := by simpa using hk
  rw [h2 k hk']
  simp [List.getD_eq_getElem?_getD, hk']
 rintro e w' ⟨rfl, q, rfl⟩
 let d := l.take i ++ l.drop j ++ List.replicate (j - i) 0
 have hd : d.length = l.length := by simp [d]; omega
 have hds : d.toArray.size = l.length := by simpa using hd
 have e1 : ∀ W : World, grow W #[] = W := grow_empty
 have hC := rowPut_chg (w := w) (b := b) (off := off) (n := q) (d := d.toArray) (os := #[])
 rw [e1] at hC
 have hlen : (l.take i ++ l.drop j).length = l.length - (j - i) := by simp; omega
 have hO : Own (putRow (Value.int .i64) (Sort.ahead w q) b off d.toArray) (tr (l.take i ++ l.drop j)) (fun x _ => 0 < cap ∧ x = b) (.slice (some ⟨b, off, none⟩) (l.take i ++ l.drop j).length cap) :=
  own_ints (by omega) hm (hK.chg hC) hsz fun k hk => by
   have hk2 : k < l.length := by omega
   have := rowPut_cell (n := q) (d := d.toArray) (os := #[]) (h2 k hk2) (by omega)
   rw [e1] at this
   rw [this]
   have hg : d.toArray[k]! = (l.take i ++ l.drop j).getD k 0 := by
    simp only [d, List.getElem!_toArray, List.getD_eq_getElem?_getD]
    rw [List.getElem!_eq_getElem?_getD, List.getElem?_append_left hk]
    rfl
   rw [hg]
 rw [hlen] at hO
 have hS : ∀ a o, rowFP b off d.toArray.size a o → ∃ id m t, rts [E.rt base .row (tr l)] id m t ∧ m ≠ .ro ∧ G id a o := fun a o h => ⟨base, .row, tr l, hb, by simp, (h3 a o).2 ⟨by omega, h.1⟩⟩
 obtain ⟨x, L, H', G', val, r⟩ := row_new [base] hr (fun id h => by cases List.mem_singleton.1 h; exact ⟨Nat.le_refl _, .row, _, by simp, hb⟩) hC hS hO rfl (fun a o h => .inl ⟨base, .row, tr l, hb, by simp, (h3 a o).2 h⟩)
 exact ⟨_, x, L, H', G', val, rfl, r⟩
end Go.Proofs.YtfbefcmeghpalaaGreat.VM
namespace Go.Proofs.YtfbefcmeghpalaaGreat.VM
open Go Go.RowKit Go.Sort Go.Shelf Go.Proofs
/-! a number put into a row of numbers (slices.Insert) -/
end Go.Proofs.YtfbefcmeghpalaaGreat.VM
namespace Go.Proofs.YtfbefcmeghpalaaGreat.VM
open Go Go.RowKit Go.Sort Go.Shelf Go.Proofs
/-! slices.BinarySearch at numbers -/
end Go.Proofs.YtfbefcmeghpalaaGreat.VM
namespace Go.Proofs.YtfbefcmeghpalaaGreat.VM
open Go Go.RowKit
/-! ### draws: a cursor is handed over (a box whose first cell is an alias of a row that is only read); what comes back is one of many -/
section
variable {P : Program} {N : Nat} {L : List E} {dst : Option Tmp} {ty : TypeId} {pos : String} {af : Array Edge} {g : Option (Nat × Bool)} {d : Nat}
def alC (al : Bool) (i cd : Nat) (L : List E) : List E := if al = true then .al i 0 (.h cd []) :: L else L
end
section
variable {P : Program} {N : Nat} {Q : Exit → List E → Prop} {L : List E} {ops : Array Oper} {rest : List Oper} {o : Oper} {K : List E → Prop}
variable {qs pend todo : List Nat} {S : Array Bool}
end
/-- the cursor: the code (by alias), the place, the hash -/
def curF (i h : Int) : Nat → Nat → T := fun _ c => match c with | 0 => .j | 1 => .v (iv i) | 2 => .v (iv h) | _ => .j
theorem curF0 (i h : Int) (k : Nat) : curF i h k 0 = .j := rfl
theorem curF1 (i h : Int) (k : Nat) : curF i h k 1 = .v (iv i) := rfl
theorem curF2 (i h : Int) (k : Nat) : curF i h k 2 = .v (iv h) := rfl
attribute [go_sem] curF0 curF1 curF2 alC repR
end Go.Proofs.YtfbefcmeghpalaaGreat.VM
namespace Go.Proofs.YtfbefcmeghpalaaGreat.VM
open Go Go.RowKit
/-! ### rows that are only read from now on; views of them as roots -/
def frzL (id : Nat) : List E → List E
 | [] => []
 | .rt i m t :: L => if i = id then .rt i .ro t :: frzL id L else .rt i m t :: frzL id L
 | .sl s x :: L => .sl s x :: frzL id L
 | .al i c x :: L => .al i c x :: frzL id L
attribute [go_sem] frzL
end Go.Proofs.YtfbefcmeghpalaaGreat.VM
namespace Go.Proofs.YtfbefcmeghpalaaGreat.VM
open Go Go.RowKit
/-! ### the library's texts of numbers (tables of the package are laid) -/
end Go.Proofs.YtfbefcmeghpalaaGreat.VM
namespace Go.Proofs.YtfbefcmeghpalaaGreat.VM
open Go Go.RowKit
/-! ### bytes of strings; errors against nil; calls of plain values with one of many outcomes -/
section
variable {P : Program} {N : Nat} {L : List E} {dst : Option Tmp} {ty : TypeId} {pos : String} {af : Array Edge} {g : Option (Nat × Bool)} {d : Nat}
end
end Go.Proofs.YtfbefcmeghpalaaGreat.VM
namespace Go.Proofs.YtfbefcmeghpalaaGreat.VM
open Go Go.RowKit
/-! ### a cursor beside a row that is only read -/
section
variable {P : Program} {N : Nat} {L : List E} {dst : Option Tmp} {ty : TypeId} {pos : String} {af : Array Edge} {g : Option (Nat × Bool)} {d : Nat}
end
end Go.Proofs.YtfbefcmeghpalaaGreat.VM
namespace Go.Proofs.YtfbefcmeghpalaaGreat.VM
open Go Go.RowKit
end Go.Proofs.YtfbefcmeghpalaaGreat.VM
namespace Go.Proofs.YtfbefcmeghpalaaGreat.VM
open Go Go.RowKit
/-! ### range over a string -/
section
variable {w w' : World}
variable {L : List E} {val : Nat → Value} {H : Nat → Value} {G : Nat → FP} {P : Program} {N : Nat} {cx : Cx} {a : Act} {Q : Exit → List E → Prop}
end
section
variable {P : Program} {ops : Array Oper} {N : Nat} {L : List E}
end
end Go.Proofs.YtfbefcmeghpalaaGreat.VM
namespace Go.Proofs.YtfbefcmeghpalaaGreat.VM
open Go Go.RowKit
section
variable {P : Program} {N : Nat} {L : List E} {Q : Exit → List E → Prop}
end
end Go.Proofs.YtfbefcmeghpalaaGreat.VM
namespace Go.Proofs.YtfbefcmeghpalaaGreat.VM
open Go Go.RowKit
/-! ### a view of a row becomes a row of its own; a node of a tree becomes a root -/
section
variable {P : Program} {N : Nat} {L : List E} {Q : Exit → List E → Prop}
def pickX : X → Nat → X
 | .g xs, i => xs.getD i .j
 | x, _ => x
def setX : X → Nat → X → X
 | .g xs, i, y => .g (xs.set i y)
 | _, _, y => y
theorem VRs.set {R : RT} {H : Nat → Value} {w : World} : ∀ {xs : List X} {vs : List Value} (i : Nat) {y : X}, VRs R H w xs vs → VR R H w y (vs.getD i undef) → VRs R H w (xs.set i y) vs
 | [], [], _, _, _, _ => trivial
 | _ :: _, _ :: _, 0, _, ⟨_, h2⟩, h => ⟨h, h2⟩
 | _ :: _, _ :: _, i + 1, _, ⟨h1, h2⟩, h => ⟨h1, VRs.set i h2 h⟩
 | [], _ :: _, _, _, h, _ => h.elim
 | _ :: _, [], _, _, h, _ => h.elim
/-- what lies deep within a tree becomes a root of its own; slot s knows it by that name -/
theorem Weak.float (s i d : Nat) {id : Nat} {a : Nat × Nat × Nat} {q' : Path} {x : X} (hx : slotL L s = x) (hp : pickX x i = .h id (a :: q')) {L1 : List E} {n len : Nat} {f : Nat → Nat → T} (ht : takeX L 1 (.h id (a :: q')) = some (L1, .s n len f))
  (hl : X.thr id (a :: q') (setX x i .j) = false) (hm : X.men d (setX x i .j) = false) (hb : d < base) : Weak N L (putL (.rt d .row (.s n len f) :: delR L1 d) s (setX x i (.h d []))) := fun cx ac w hs => by
 obtain ⟨H, G, hr, hG⟩ := hs.rp
 have h1 := ev_ok hr (.tmp s)
 simp only [evX, hx] at h1
 have hpick : ∃ v, VR (rts L) H w (.h id (a :: q')) v ∧ ∀ {R : RT} {H' : Nat → Value} {y : X}, VR R H' w (setX x i .j) (ac.eval (.tmp s)) → VR R H' w y v → VR R H' w (setX x i y) (ac.eval (.tmp s)) := by
  rw [← hp]
  cases x with
  | g xs =>
   obtain ⟨vs, e1, e2⟩ := h1
   refine ⟨vs.getD i undef, e2.nth.2 i, fun {R H' y} g1 g2 => ?_⟩
   obtain ⟨us, k1, k2⟩ := g1
   rw [e1] at k1
   have : us = vs := by simpa using k1.symm
   subst this
   refine ⟨us, e1, ?_⟩
   have := k2.set i (y := y) g2
   simpa using this
  | _ => exact ⟨_, h1, fun _ g => g⟩
 obtain ⟨v, hv, hset⟩ := hpick
 obtain ⟨G1, F, r1, q1, o1, d1, s1, k1, _, _⟩ := take_ok hr hG (n := 1) (by omega) hv ht
 have hj : VR (rts L) H w (setX x i .j) (ac.eval (.tmp s)) := by
  cases x with
  | g xs =>
   obtain ⟨vs, e1, e2⟩ := h1
   exact ⟨vs, e1, e2.set i trivial⟩
  | _ => trivial
 have hj1 := k1 (setX x i .j) _ (by simpa only [lostX] using hl) hj
 have r2 := r1.new d (m := .row) (t := .s n len f) (F := F) (h := v) (by simp) o1 (fun h => by cases h) (fun i m t _ hi x y hx hy => d1 i m t hi x y hx hy)
 have hj2 : VR (rts (.rt d .row (.s n len f) :: delR L1 d)) (updN H d v) w (setX x i .j) (ac.eval (.tmp s)) := hj1.drop (d := d) (fun j m2 t2 hj h => ⟨List.mem_cons_of_mem _ (rts_delR.2 ⟨h, hj⟩), by simp [updN, hj]⟩) hm
 have hd2 : VR (rts (.rt d .row (.s n len f) :: delR L1 d)) (updN H d v) w (.h d []) v := VR.here
 refine ⟨hs.siz, hs.dfr, hs.chg, _, _, (r2.put (d := s) (hset hj2 hd2)).val fun t => ?_, ?_, ?_⟩
 ·split
  ·rename_i e; rw [e]; rfl
  ·rfl
 ·rw [rts_put]
  intro i m t h1 h2 x y h3
  rcases List.mem_cons.1 h1 with h1 | h1
  ·cases h1
   simp only [updN, if_true] at h3
   exact s1 x y h3
  ·obtain ⟨h1, e1⟩ := rts_delR.1 h1
   simp only [updN, if_neg e1] at h3
   exact q1.1 i m t h1 h2 x y h3
 ·rw [rts_put]
  intro i m t h0 h1
  have e : i ≠ d := by omega
  rcases List.mem_cons.1 h1 with h1 | h1
  ·cases h1; exact absurd rfl e
  ·obtain ⟨h1, _⟩ := rts_delR.1 h1
   simp only [updN, if_neg e]
   exact q1.2 i m t h0 h1
end
end Go.Proofs.YtfbefcmeghpalaaGreat.VM
namespace Go.Proofs.YtfbefcmeghpalaaGreat.VM
open Go Go.RowKit
/-! ### elements of a row go along with an append of a view of it -/
section
variable {L : List E} {val : Nat → Value} {H : Nat → Value} {G : Nat → FP} {w : World}
end
section
variable {P : Program} {N : Nat} {L : List E} {dst : Option Tmp} {ty : TypeId} {pos : String} {af : Array Edge} {gd : Option (Nat × Bool)} {d : Nat}
end
end Go.Proofs.YtfbefcmeghpalaaGreat.VM
namespace Go.Proofs.YtfbefcmeghpalaaGreat.VM
open Go Go.RowKit Go.Sort
/-! slices.Delete, slices.Insert at rows of n cells, from their runs; a contract over plain cells, lifted to what the cells own -/
end Go.Proofs.YtfbefcmeghpalaaGreat.VM
namespace Go.Proofs.YtfbefcmeghpalaaGreat.VM
open Go Go.RowKit
/-! ### copy -/
section
variable {L : List E} {val : Nat → Value} {H : Nat → Value} {G : Nat → FP} {w w' : World}
end
section
variable {P : Program} {w : World}
end
end Go.Proofs.YtfbefcmeghpalaaGreat.VM
namespace Go.Proofs.YtfbefcmeghpalaaGreat.VM
open Go Go.RowKit
section
variable {P : Program} {N : Nat} {L : List E} {dst : Option Tmp} {ty : TypeId} {pos : String} {af : Array Edge} {gd : Option (Nat × Bool)} {d : Nat}
end
end Go.Proofs.YtfbefcmeghpalaaGreat.VM
namespace Go.Proofs.YtfbefcmeghpalaaGreat.VM
open Go Go.RowKit
/-! ### an element's cells turn one by one -/
def mixF (old : Nat → Nat → T) (new : Nat → T) (k m : Nat) : Nat → Nat → T := fun k' c' => if k' = k ∧ c' < m then new c' else old k' c'
section
variable {old : Nat → Nat → T} {new : Nat → T} {k m n len : Nat}
theorem mixF_at {c : Nat} : mixF old new k m k c = if c < m then new c else old k c := by simp [mixF]
theorem mix_zero {f : Nat → Nat → T} : (T.s n len f).sim (T.s n len (mixF f new k 0)) := T.sim_of fun k' c' _ _ => by simp [mixF]
theorem mix_step {y : T} (h : y.sim (new m)) : (T.s n len (upd (mixF old new k m) k m y)).sim (T.s n len (mixF old new k (m + 1))) := ⟨_, rfl, fun k' c' _ _ => by
 simp only [upd, mixF]
 by_cases e : k' = k ∧ c' = m
 ·obtain ⟨rfl, rfl⟩ := e
  rw [if_pos ⟨rfl, rfl⟩, if_pos ⟨rfl, by omega⟩]
  exact h
 ·rw [if_neg e]
  by_cases e2 : k' = k ∧ c' < m
  ·rw [if_pos e2, if_pos ⟨e2.1, by omega⟩]; exact T.sim_refl _
  ·rw [if_neg e2, if_neg (by omega)]; exact T.sim_refl _⟩
end
/-- rows, those below k as g says, the others as h says -/
def oldF {α : Type} [En α] (g h : Nat → α) (k : Nat) : Nat → Nat → T := fun j c => (En.cs (if j < k then g j else h j)).getD c .j
def newF {α : Type} [En α] (g : Nat → α) (k : Nat) : Nat → T := fun c => (En.cs (g k)).getD c .j
section
variable {α : Type} [En α] {g h : Nat → α} {k len : Nat}
theorem oldF_at {c : Nat} : oldF g h k k c = (En.cs (h k)).getD c .j := by simp [oldF]
theorem oldF_zero {l : List α} : (tr l).sim (T.s (En.n α) l.length (oldF g (fun j => l.getD j En.dflt) 0)) := T.sim_of fun i c _ _ => by simp [oldF]
theorem mix_next : (T.s (En.n α) len (mixF (oldF g h k) (newF g k) k (En.n α))).sim (T.s (En.n α) len (oldF g h (k + 1))) := T.sim_of fun i c _ hc => by
 by_cases e : i = k
 ·subst e
  rw [mixF_at, if_pos hc, oldF, if_pos (by omega)]; rfl
 ·have h1 : mixF (oldF g h k) (newF g k) k (En.n α) i c = oldF g h k i c := by simp [mixF, e]
  rw [h1]
  simp only [oldF]
  have : (if i < k + 1 then g i else h i) = if i < k then g i else h i := by
   by_cases h1 : i < k
   ·rw [if_pos h1, if_pos (by omega)]
   ·rw [if_neg h1, if_neg (by omega)]
  rw [this]
theorem oldF_full {β : Type} [Mk β] (l : List β) (k : Int) {j : Nat} {h : Nat → β} (hj : l.length ≤ j) : (T.s (En.n β) l.length (oldF (mkF l k) h j)).sim (tr (mkL l k)) := trMix_mk l k hj
end
theorem isS_j : T.isS .j = false := rfl
attribute [go_sem] mixF_at oldF_at keepN isS_j Bool.not_false Bool.not_true
end Go.Proofs.YtfbefcmeghpalaaGreat.VM
set_option linter.all false
namespace Go.Proofs.YtfbefcmeghpalaaGreat.VM
open Go Go.RowKit Go.Sort
/-! clear at rows of k cells -/
end Go.Proofs.YtfbefcmeghpalaaGreat.VM
set_option linter.all false
namespace Go.Proofs.YtfbefcmeghpalaaGreat.VM
open Go Go.RowKit Go.Sort
/-! slices.Insert at numbers, from its run -/
end Go.Proofs.YtfbefcmeghpalaaGreat.VM
set_option linter.all false
namespace Go.Proofs.YtfbefcmeghpalaaGreat.VM
open Go Go.RowKit
section
variable {N : Nat} {L : List E}
theorem rts_mov {a b i : Nat} {m : M} {t : T} : rts (.rt a .row .j :: renL a b L) i m t ↔ (i = a ∧ m = .row ∧ t = .j) ∨ ∃ i0, rts L i0 m t ∧ rn1 a b i0 = i := by
 constructor
 ·intro h
  rcases List.mem_cons.1 h with h | h
  ·cases h; exact .inl ⟨rfl, rfl, rfl⟩
  ·exact .inr (rts_renL.1 h)
 ·rintro (⟨rfl, rfl, rfl⟩ | h)
  ·exact List.mem_cons_self ..
  ·exact List.mem_cons_of_mem _ (rts_renL.2 h)
/-- a row handed over goes on under a name of the call's own -/
theorem Weak.movR {a b : Nat} {t0 : T} (ha : rootL L a = some (.row, t0)) (hb : rootL L b = none) (hb1 : b < base) (hab : Nat.beq a b = false) : Weak N L (.rt a .row .j :: renL a b L) := fun cx ac w hs => by
 obtain ⟨H, G, hr, hG⟩ := hs.rp
 have hne : a ≠ b := fun e => by subst e; rw [Nat.beq_refl] at hab; cases hab
 have hra := rootL_mem ha
 have hnb := rootL_none hb
 have hinj : ∀ {i j m t m' t'}, rts L i m t → rts L j m' t' → rn1 a b i = rn1 a b j → i = j := fun {i j m t m' t'} h1 h2 e => by
  have e1 : i ≠ b := fun e => hnb _ _ (e ▸ h1)
  have e2 : j ≠ b := fun e => hnb _ _ (e ▸ h2)
  unfold rn1 at e
  split at e <;> split at e <;> omega
 have hna : ∀ {i}, rn1 a b i ≠ a := fun {i} e => by
  unfold rn1 at e
  split at e <;> omega
 let H' : Nat → Value := fun i => if i = b then H a else H i
 let G' : Nat → FP := fun i => if i = b then G a else if i = a then fun _ _ => False else G i
 have hH : ∀ {i m t}, rts L i m t → H' (rn1 a b i) = H i ∧ G' (rn1 a b i) = G i := fun {i m t} h => by
  have e1 : i ≠ b := fun e => hnb _ _ (e ▸ h)
  simp only [H', G', rn1]
  by_cases e : i = a
  ·subst e; simp
  ·simp [e, e1]
 have hHa : H' a = H a := by simp [H', hne]
 have hGa : ∀ x y, ¬ G' a x y := fun x y => by simp [G', hne]
 have hV : ∀ {x v}, VR (rts L) H w x v → VR (rts (.rt a .row .j :: renL a b L)) H' w (x.ren (rn1 a b)) v := fun h => h.rn fun id m t hh => ⟨rts_mov.2 (.inr ⟨id, hh, rfl⟩), (hH hh).1⟩
 refine ⟨hs.siz, hs.dfr, hs.chg, H', G', ⟨?_, ?_, ?_, ?_, ?_, ?_, ?_, ?_⟩, ?_, ?_⟩
 ·intro i m t m' t' h1 h2
  rcases rts_mov.1 h1 with ⟨rfl, rfl, rfl⟩ | ⟨i0, g1, rfl⟩
  ·rcases rts_mov.1 h2 with ⟨_, rfl, rfl⟩ | ⟨j0, g2, e⟩
   ·exact ⟨rfl, rfl⟩
   ·exact absurd e hna
  ·rcases rts_mov.1 h2 with ⟨e, _, _⟩ | ⟨j0, g2, e⟩
   ·exact absurd e hna
   ·obtain rfl := hinj g2 g1 e
    exact hr.one _ _ _ _ _ g1 g2
 ·intro i m t h1 h2
  rcases rts_mov.1 h1 with ⟨rfl, rfl, rfl⟩ | ⟨i0, g1, rfl⟩
  ·rw [hHa, show G' i = fun _ _ => False from funext fun x => funext fun y => eq_false (hGa x y)]
   exact own_one (hr.own _ _ _ hra (by intro e; cases e))
  ·rw [(hH g1).1, (hH g1).2]
   exact hr.own _ _ _ g1 h2
 ·intro i t h1
  rcases rts_mov.1 h1 with ⟨_, e, _⟩ | ⟨i0, g1, rfl⟩
  ·cases e
  ·rw [(hH g1).1, (hH g1).2]
   exact hr.ro _ _ g1
 ·intro i t h1
  rcases rts_mov.1 h1 with ⟨_, e, _⟩ | ⟨i0, g1, rfl⟩
  ·cases e
  ·rw [(hH g1).2]
   exact hr.rold _ _ g1
 ·intro i t h1
  rcases rts_mov.1 h1 with ⟨_, e, _⟩ | ⟨i0, g1, rfl⟩
  ·cases e
  ·exact hr.box _ _ g1
 ·intro i m t i' m' t' h1 h2 hne' hm x y k1 k2
  rcases rts_mov.1 h1 with ⟨rfl, rfl, rfl⟩ | ⟨i0, g1, rfl⟩
  ·exact hGa _ _ k1
  ·rcases rts_mov.1 h2 with ⟨rfl, rfl, rfl⟩ | ⟨j0, g2, rfl⟩
   ·exact hGa _ _ k2
   ·rw [(hH g1).2] at k1
    rw [(hH g2).2] at k2
    exact hr.dis _ _ _ _ _ _ g1 g2 (fun e => hne' (by rw [e])) hm _ _ k1 k2
 ·intro s x h
  rcases List.mem_cons.1 h with h | h
  ·cases h
  rcases renL_mem h with ⟨s', x', h1, h2⟩ | ⟨i, m, t, h1, h2⟩ | ⟨i, c, x', h1, h2⟩
  ·cases h2; exact hV (hr.sl _ _ h1)
  ·cases h2
  ·cases h2
 ·intro i c x h
  rcases List.mem_cons.1 h with h | h
  ·cases h
  rcases renL_mem h with ⟨s', x', h1, h2⟩ | ⟨i', m, t, h1, h2⟩ | ⟨i', c', x', h1, h2⟩
  ·cases h2
  ·cases h2
  ·cases h2
   obtain ⟨n, f, g1, g2, A, v, g3, g4, g5⟩ := hr.al _ _ _ h1
   exact ⟨n, f, rts_mov.2 (.inr ⟨i', g1, rfl⟩), g2, A, v, by rw [(hH g1).1]; exact g3, g4, hV g5⟩
 ·intro i m t h1 h2 x y hg
  rcases rts_mov.1 h1 with ⟨rfl, rfl, rfl⟩ | ⟨i0, g1, rfl⟩
  ·exact absurd hg (hGa _ _)
  ·rw [(hH g1).2] at hg
   exact hG.1 _ _ _ g1 h2 _ _ hg
 ·intro i m t hi h1
  rcases rts_mov.1 h1 with ⟨rfl, rfl, rfl⟩ | ⟨i0, g1, rfl⟩
  ·rw [hHa]; exact hG.2 _ _ _ hi hra
  ·have e : i0 ≠ a := fun e => by subst e; simp only [rn1, if_true] at hi; omega
   have e2 : rn1 a b i0 = i0 := by simp [rn1, e]
   rw [(hH g1).1]
   rw [e2] at hi
   rw [e2]
   exact hG.2 _ _ _ hi g1
theorem AW.movR {P : Program} {c : Code} {Q : Exit → List E → Prop} (a b : Nat) {t0 : T} (ha : rootL L a = some (.row, t0)) (hb : rootL L b = none) (hb1 : b < base) (hab : Nat.beq a b = false) (k : AW P N c Q (.rt a .row .j :: renL a b L)) : AW P N c Q L := AW.weak (Weak.movR ha hb hb1 hab) k
end
end Go.Proofs.YtfbefcmeghpalaaGreat.VM
set_option linter.all false
namespace Go.Proofs.YtfbefcmeghpalaaGreat.VM
open Go Go.RowKit
section
variable {N : Nat} {L : List E}
/-- a nil within a group, taken as an empty row of the call's own -/
theorem Weak.nilG (s i nid n : Nat) {x : X} (hn : 0 < n) (hx : slotL L s = x) (hp : pickX x i = .v (.slice none 0 0)) (hf : rootL L nid = none) (hb : nid < base) : Weak N L (putL (.rt nid .row (.s n 0 fun _ _ => .j) :: L) s (setX x i (.h nid []))) := fun cx a w hsat => by
  obtain ⟨H, G, hr, hG⟩ := hsat.rp
  have h0 := ev_ok hr (.tmp s)
  simp only [evX, hx] at h0
  have hO : Own w (.s n 0 fun _ _ => .j) (fun _ _ => False) (.slice none 0 0) := ZC.own (t := .s n 0 fun _ _ => .j) ⟨hn, rfl, rfl⟩
  have h1 := hr.more (rootL_none hf) hO fun _ _ _ _ _ _ _ h => h
  have hR : ∀ id m t, rts L id m t → rts (.rt nid .row (.s n 0 fun _ _ => .j) :: L) id m t ∧ updN H nid (.slice none 0 0) id = H id := fun id m t h => by
    refine ⟨List.mem_cons_of_mem _ h, ?_⟩
    have : id ≠ nid := fun e => rootL_none hf _ _ (e ▸ h)
    simp [updN, this]
  have hh : VR (rts (.rt nid .row (.s n 0 fun _ _ => .j) :: L)) (updN H nid (.slice none 0 0)) w (.h nid []) (.slice none 0 0) := ⟨.row, _, List.mem_cons_self .., by simp [Okp], ⟨n, 0, fun _ _ => .j, by simp only [T.at]⟩, by simp only [VM.hd, updN, if_true]⟩
  have hv : VR (rts (.rt nid .row (.s n 0 fun _ _ => .j) :: L)) (updN H nid (.slice none 0 0)) w (setX x i (.h nid [])) (a.eval (.tmp s)) := by
    cases x with
    | g xs =>
      obtain ⟨vs, e1, e2⟩ := h0
      have e3 := VRs.same hR e2
      refine ⟨vs, e1, e3.set i ?_⟩
      have := e3.nth.2 i
      simp only [pickX] at hp
      rw [hp] at this
      have e4 : vs.getD i undef = .slice none 0 0 := this
      rw [e4]; exact hh
    | _ =>
      simp only [pickX] at hp
      first
        | (subst hp; have e4 : a.eval (.tmp s) = .slice none 0 0 := h0; simp only [setX]; rw [e4]; exact hh)
        | (cases hp; done)
        | (have e4 : a.eval (.tmp s) = .slice none 0 0 := by rw [hp] at h0; exact h0
           simp only [setX]; rw [e4]; exact hh)
  have h2 := h1.put (d := s) hv
  refine ⟨hsat.siz, hsat.dfr, hsat.chg, _, _, h2.val fun t => ?_, ?_⟩
  · split
    · rename_i e; rw [e]; rfl
    · rfl
  · rw [rts_put]
    exact Good.more hG (rootL_none hf) hb fun _ _ h => h.elim
end
theorem flatT_v (x : Go.Value) : flatT (.v x) = .v x := rfl
theorem flatT_tr {α : Type} [En α] (l : List α) : flatT (tr l) = .j := rfl
attribute [go_sem] flatT_v flatT_tr setX List.set_cons_zero List.set_cons_succ
end Go.Proofs.YtfbefcmeghpalaaGreat.VM
set_option linter.all false
namespace Go.Proofs.YtfbefcmeghpalaaGreat.VM
open Go Go.RowKit
theorem VRs.drop' {R : RT} {H : Nat → Value} {w : World} : ∀ (n : Nat) {xs : List X} {vs : List Value}, VRs R H w xs vs → VRs R H w (xs.drop n) (vs.drop n)
 | 0, _, _, h => h
 | n + 1, [], [], h => h
 | n + 1, _ :: _, _ :: _, ⟨_, h⟩ => VRs.drop' n h
 | _ + 1, [], _ :: _, h => h.elim
 | _ + 1, _ :: _, [], h => h.elim
theorem VRs.take' {R : RT} {H : Nat → Value} {w : World} : ∀ (n : Nat) {xs : List X} {vs : List Value}, VRs R H w xs vs → VRs R H w (xs.take n) (vs.take n)
 | 0, _, _, _ => trivial
 | n + 1, [], [], h => h
 | n + 1, _ :: _, _ :: _, ⟨h1, h⟩ => ⟨h1, VRs.take' n h⟩
 | _ + 1, [], _ :: _, h => h.elim
 | _ + 1, _ :: _, [], h => h.elim
section
variable {P : Program} {L : List E} {dst : Option Tmp} {ty : TypeId} {pos : String} {af : Array Edge} {g : Option (Nat × Bool)}
/-- a field that is a struct -/
theorem Qt.fieldG (off : Nat) {t : TypeId} {x : Operand} {i sz : Nat} {xs : List X} {fs : Array Field} {f : Field} (hx : evX L x = .g xs) (hu : P.underlying t = some (.struct fs)) (hf : fs[i]? = some f) (hoff : f.offset = off) (hA : Ag P f.type true) (hZ : Sz P f.type sz) : Qt P ⟨dst, .field t x i, ty, pos, af, g⟩ L (.g ((xs.drop off).take sz)) :=
 (fun H w a he _ => by
  subst hoff
  have h1 := he x
  rw [hx] at h1
  obtain ⟨vs, h2, h3⟩ := h1
  refine ⟨.agg (vs.toArray.extract f.offset (f.offset + sz)), run_v ?_, (vs.drop f.offset).take sz, ?_, (h3.drop' _).take' _⟩
  ·simp only [Instr.field, h2, Sem.run_bind, run_underlying hu w, Result.andThen, hf, asAgg]
   simp [part, Sem.run_bind, hA w, hZ w, Result.andThen]
  ·congr 1
   apply Array.ext'
   simp [Array.toList_extract])
end
def selX : Path → Nat → X → X
 | [], 0, x => (match x with | .j => .c | x => x)
 | _, _, _ => .c
theorem cellX_ji (L : List E) (id : Nat) (q : Path) (n k c : Nat) : cellX L id q n k c .j = selX q k (aliasL L id c) := by
 cases q with
 | nil => cases k <;> rfl
 | cons a q => rfl
theorem selX_j (q : Path) (k : Nat) : selX q k .j = .c := by
 cases q with
 | nil => cases k <;> rfl
 | cons a q => rfl
theorem selX_h (i : Nat) (p : Path) : selX [] 0 (.h i p) = .h i p := rfl
theorem selX_p (i : Nat) (p : Path) (n k c : Nat) : selX [] 0 (.p i p n k c) = .p i p n k c := rfl
theorem selX_a (i : Nat) (p : Path) (n k c : Nat) : selX [] 0 (.a i p n k c) = .a i p n k c := rfl
theorem selX_v (v : Go.Value) : selX [] 0 (.v v) = .v v := rfl
theorem selX_c : selX [] 0 .c = .c := rfl
attribute [go_sem] cellX_ji selX_j selX_h selX_p selX_a selX_v selX_c
end Go.Proofs.YtfbefcmeghpalaaGreat.VM
set_option linter.all false
namespace Go.Proofs.YtfbefcmeghpalaaGreat.VM
open Go Go.RowKit
/-! short words for the printed walks -/
section
variable {P : Program} {N : Nat} {L L' : List E} {Q : Exit → List E → Prop} {ops : Array Oper} {rest : List Oper} {o : Oper} {qs pend todo : List Nat} {S : Array Bool} {d : Nat} {gb : Bool} {dst : Option Tmp} {x y : Operand} {t t2 ty : TypeId} {pos : String} {af : Array Edge} {g : Option (Nat × Bool)}
theorem sr {id : Nat} {l : List Oper} {c : Code} (h : AWL P N l.toArray l (thenQ (AW P N c Q) Q) L) : AW P N (.seq (.region id l.toArray false) c) Q L := AW.seq (AW.region h)
theorem sr2 {id : Nat} {l : List Oper} {c c2 : Code} (h : AWL P N l.toArray l (thenQ (AW P N c (thenQ (AW P N c2 Q) Q)) (thenQ (AW P N c2 Q) Q)) L) : AW P N (.seq (.seq (.region id l.toArray false) c) c2) Q L := AW.seq (AW.seq (AW.region h))
theorem qm (k : AWL P N ops rest Q (putL L d (evX L x))) (hw : wantL ops L ⟨dst, .move x, ty, pos, af, g⟩ = some gb := by exact rfl) (hgb : gb = true := by exact rfl) (hd : dst = some d := by exact rfl) (hN : d < N := by decide) : AWL P N ops (⟨dst, .move x, ty, pos, af, g⟩ :: rest) Q L := qq Qt.move k hw hgb hd hN
theorem qa (k : AWL P N ops rest Q (putL L d (evX L x))) (hw : wantL ops L ⟨dst, .assign x, ty, pos, af, g⟩ = some gb := by exact rfl) (hgb : gb = true := by exact rfl) (hd : dst = some d := by exact rfl) (hN : d < N := by decide) : AWL P N ops (⟨dst, .assign x, ty, pos, af, g⟩ :: rest) Q L := qq Qt.assign k hw hgb hd hN
theorem ql {id : Nat} {q : Path} {n k c len : Nat} {f : Nat → Nat → T} {m : M} {T0 : T} (hA : Ag P t false) (kk : AWL P N ops rest Q (putL L d (cellX L id q n k c (f k c)))) (hx : evX L x = .p id q n k c := by exact rfl) (hR : rootL L id = some (m, T0) := by exact rfl) (hT : T0.at q = .s n len f := by exact rfl) (hw : wantL ops L ⟨dst, .load t x, ty, pos, af, g⟩ = some gb := by exact rfl) (hgb : gb = true := by exact rfl) (hd : dst = some d := by exact rfl) (hN : d < N := by decide) : AWL P N ops (⟨dst, .load t x, ty, pos, af, g⟩ :: rest) Q L := qq (Qt.load1 hx hR hT hA) kk hw hgb hd hN
theorem qb {op : BinOp} {u v r : Value} (k : AWL P N ops rest Q (putL L d (.v r))) (hx : evX L x = .v u := by exact rfl) (hy : evX L y = .v v := by exact rfl) (hr : pureBin op u v = some r := by exact rfl) (hw : wantL ops L ⟨dst, .binOp op t x y t2, ty, pos, af, g⟩ = some gb := by exact rfl) (hgb : gb = true := by exact rfl) (hd : dst = some d := by exact rfl) (hN : d < N := by decide) : AWL P N ops (⟨dst, .binOp op t x y t2, ty, pos, af, g⟩ :: rest) Q L := qq (Qt.binOp hx hy hr) k hw hgb hd hN
theorem ba {op : BinOp} {u v r : Value} (k : AWL P N ops rest Q (putL L d (.v r))) (hx : evX L x = .v u := by exact rfl) (hy : evX L y = .v v := by exact rfl) (hr : pureBin op u v = some r := by first | exact pbAdd (by omega) | rfl) (hw : wantL ops L ⟨dst, .binOp op t x y t2, ty, pos, af, g⟩ = some gb := by exact rfl) (hgb : gb = true := by exact rfl) (hd : dst = some d := by exact rfl) (hN : d < N := by decide) : AWL P N ops (⟨dst, .binOp op t x y t2, ty, pos, af, g⟩ :: rest) Q L := qq (Qt.binOp hx hy hr) k hw hgb hd hN
theorem rt1 (s : Nat) {fn : Func} {post : X → List E → Prop} (hp : post (retX [slotL L s]) L) (hQ : endQ P fn post .ret L → Q .ret L := by exact fun hq => hq) (hr : fn.results.toList = [.tmp s] := by exact rfl) : AW P N .ret Q L := AW.ret (hQ (endQ_ret (by rw [hr]; exact .cons (.tmp s) .nil) hp))
theorem ae {i : Nat} {X0 : X} (ho : ops[i]? = some o) (h : Qt P o L X0) (k : AWA P N ops qs Q S pend todo (putL L d X0)) (hd : o.dst = some d := by exact rfl) (hp : pend.all (fun k => todo.contains k || k == i || !waits ops k i) = true := by decide +kernel) (hw : wantL ops L o = some gb := by exact rfl) (hgb : gb = true := by exact rfl) (hx : slotL L d = X0 := by exact rfl) : AWA P N ops qs Q S pend (i :: todo) L := AWA.againE ho hd hp (.on hw hgb h) hx k
theorem bx {zt : List T} [hT : TyI P t zt] (k : AWL P N ops rest Q (alsOf (idsL (delR L d)) d (srcs [] zt (evX L x).leaves) (evX L x).leaves 0 ++ putL (.rt d .box (rowT zt.length 1 (srcs [] zt (evX L x).leaves)) :: delR L d) d (.p d [] zt.length 0 0))) (hd : dst = some d := by exact rfl) (hN : d < N := by decide) (hb : d < base := by decide) (hx : (evX L x).flat = true := by exact rfl) (hl : (evX L x).leaves.length = zt.length := by exact rfl) (hz : zpos zt = true := by exact rfl) (ho : (evX L x).leaves.all X.one = true := by exact rfl) (hw : wantL ops L ⟨dst, .box t x, ty, pos, af, g⟩ = some gb := by exact rfl) (hgb : gb = true := by exact rfl) : AWL P N ops (⟨dst, .box t x, ty, pos, af, g⟩ :: rest) Q L := sp (Stp.boxB hd hN hb hx hl hz ho) k hw hgb
theorem qh {e : TypeId} {id : Nat} {q : Path} {n len : Nat} {f : Nat → Nat → T} {m : M} {T0 : T} {tt : TypeId} (hS : Sl P tt e) (k : AWL P N ops rest Q (putL L d (.v (iv len)))) (hx : evX L x = .h id q := by exact rfl) (hR : rootL L id = some (m, T0) := by exact rfl) (hT : T0.at q = .s n len f := by exact rfl) (hw : wantL ops L ⟨dst, .call { callee := .builtin .len, args := #[x], argTypes := #[tt] }, ty, pos, af, g⟩ = some gb := by exact rfl) (hgb : gb = true := by exact rfl) (hd : dst = some d := by exact rfl) (hN : d < N := by decide) : AWL P N ops (⟨dst, .call { callee := .builtin .len, args := #[x], argTypes := #[tt] }, ty, pos, af, g⟩ :: rest) Q L := qq (Qt.lenH hx hR hT hS) k hw hgb hd hN
theorem ix {e : TypeId} {id : Nat} {q : Path} {n len : Nat} {f : Nat → Nat → T} {kd : IntKind} {j : Int} {m : M} {T0 : T} (hS : Sl P t e) (hZ : Sz P e n) (hx : evX L x = .h id q := by exact rfl) (hR : rootL L id = some (m, T0) := by exact rfl) (hT : T0.at q = .s n len f := by exact rfl) (hi : evX L y = .v (.int kd j) := by exact rfl) (hn : 0 < n := by decide) (hj : 0 ≤ j ∧ j < len := by first | omega | grind only) : Qt P ⟨dst, .indexAddr t x y, ty, pos, af, g⟩ L (.p id q n j.toNat 0) := Qt.indexAddr hx hR hT hi hS hZ hn hj
theorem qG {id : Nat} {q : Path} {n k c len : Nat} {f : Nat → Nat → T} {sz : Nat} {m : M} {T0 : T} (hA : Ag P t true) (hZ : Sz P t sz) (kk : AWL P N ops rest Q (putL L d (.g (cellsX L id q n k c f sz)))) (hx : evX L x = .p id q n k c := by exact rfl) (hR : rootL L id = some (m, T0) := by exact rfl) (hT : T0.at q = .s n len f := by exact rfl) (hc : c + sz ≤ n := by decide) (hw : wantL ops L ⟨dst, .load t x, ty, pos, af, g⟩ = some gb := by exact rfl) (hgb : gb = true := by exact rfl) (hd : dst = some d := by exact rfl) (hN : d < N := by decide) : AWL P N ops (⟨dst, .load t x, ty, pos, af, g⟩ :: rest) Q L := qq (Qt.loadG hx hR hT hA hZ hc) kk hw hgb hd hN
theorem ns {R : Exit → List E → Prop} {id : Nat} {l : List Oper} {c : Code} (k : AWL P N l.toArray l (thenQ (AW P N c Q) Q) L') (h : L = L' := by simp only [go_sem, Int.reduceToNat, Nat.reduceLT, reduceIte, Nat.reduceEqDiff, Nat.reduceAdd, Nat.reduceMul, Nat.reduceBEq, reduceCtorEq]; rfl) (hR : AW P N (.seq (.region id l.toArray false) c) Q L' → R .normal L' := by exact fun hq => hq) : AWL P N ops [] R L := nl (hR (sr k)) h
theorem qn (k : Q .normal L') (hw : wantL ops L ⟨dst, .assign x, ty, pos, af, g⟩ = some gb := by exact rfl) (hgb : gb = true := by exact rfl) (hd : dst = some d := by exact rfl) (hN : d < N := by decide) (h : putL L d (evX L x) = L' := by simp only [go_sem, Int.reduceToNat, Nat.reduceLT, reduceIte, Nat.reduceEqDiff, Nat.reduceAdd, Nat.reduceMul, Nat.reduceBEq, reduceCtorEq]; rfl) : AWL P N ops [⟨dst, .assign x, ty, pos, af, g⟩] Q L := qa (nl k h) hw hgb hd hN
theorem qs' {R : Exit → List E → Prop} {id : Nat} {l : List Oper} {c : Code} (k : AWL P N l.toArray l (thenQ (AW P N c Q) Q) L') (hw : wantL ops L ⟨dst, .assign x, ty, pos, af, g⟩ = some gb := by exact rfl) (hgb : gb = true := by exact rfl) (hd : dst = some d := by exact rfl) (hN : d < N := by decide) (h : putL L d (evX L x) = L' := by simp only [go_sem, Int.reduceToNat, Nat.reduceLT, reduceIte, Nat.reduceEqDiff, Nat.reduceAdd, Nat.reduceMul, Nat.reduceBEq, reduceCtorEq]; rfl) (hR : AW P N (.seq (.region id l.toArray false) c) Q L' → R .normal L' := by exact fun hq => hq) : AWL P N ops [⟨dst, .assign x, ty, pos, af, g⟩] R L := qa (nl (hR (sr k)) h) hw hgb hd hN
theorem sA {zt : List T} [hT : TyI P t zt] (hd : dst = some d := by exact rfl) (hN : d < N := by decide) (hb : d < base := by decide) : Stp P N ⟨dst, .alloc t, ty, pos, af, g⟩ L (putL (.rt d .box (zbox zt) :: delR L d) d (.p d [] zt.length 0 0)) := Stp.alloc hd hN hb
theorem sS {e : TypeId} {len : Nat} {parts : Array (Nat × Operand)} {zt : List T} [hS : SlI P t e] [hT : TyI P e zt] {ys : List X} (hd : dst = some d := by exact rfl) (hN : d < N := by decide) (hb : d < base := by decide) (hf : fillX (fun i => some (i * zt.length, zt.length)) ((reps zt len).map T.toX) (evParts L parts) = some ys := by exact rfl) (hsm : len * zt.length ≤ 2 ^ 24 := by decide) (hyl : ys.length = len * zt.length := by exact rfl) (hz : zpos (reps zt len) = true := by exact rfl) (ho : ys.all X.one = true := by exact rfl) (hnd : (movedOf (srcs L (reps zt len) ys)).Nodup := by exact nodup_of rfl) : Stp P N ⟨dst, .buildSlice t len parts, ty, pos, af, g⟩ L (putL (.rt d .row (rowT zt.length len (srcs L (reps zt len) ys)) :: delR (delRs L (movedOf (srcs L (reps zt len) ys))) d) d (.h d [])) := Stp.buildSlice hd hN hb hf hsm hyl hz ho hnd
theorem cd {c : Operand} {c1 c2 : Code} {b : Bool} (ht : b = true → AW P N c1 Q L) (hf : b = false → AW P N c2 Q L) (hc : evX L c = .v (.bool b) := by exact rfl) : AW P N (.cond c c1 c2) Q L := AW.cond hc ht hf
theorem qr {R : Exit → List E → Prop} (s : Nat) {fn : Func} {post : X → List E → Prop} (hp : post (retX [slotL L' s]) L') (hw : wantL ops L ⟨dst, .assign x, ty, pos, af, g⟩ = some gb := by exact rfl) (hgb : gb = true := by exact rfl) (hd : dst = some d := by exact rfl) (hN : d < N := by decide) (h : putL L d (evX L x) = L' := by simp only [go_sem, Int.reduceToNat, Nat.reduceLT, reduceIte, Nat.reduceEqDiff, Nat.reduceAdd, Nat.reduceMul, Nat.reduceBEq, reduceCtorEq]; rfl) (hR : AW P N .ret Q L' → R .normal L' := by exact fun hq => hq) (hQ : endQ P fn post .ret L' → Q .ret L' := by exact fun hq => hq) (hr : fn.results.toList = [.tmp s] := by exact rfl) : AWL P N ops [⟨dst, .assign x, ty, pos, af, g⟩] R L := qn (hR (rt1 s hp hQ hr)) hw hgb hd hN h
theorem nc {R : Exit → List E → Prop} {c : Operand} {c1 c2 : Code} {b : Bool} (ht : b = true → AW P N c1 Q L') (hf : b = false → AW P N c2 Q L') (h : L = L' := by simp only [go_sem, Int.reduceToNat, Nat.reduceLT, reduceIte, Nat.reduceEqDiff, Nat.reduceAdd, Nat.reduceMul, Nat.reduceBEq, reduceCtorEq]; rfl) (hR : AW P N (.cond c c1 c2) Q L' → R .normal L' := by exact fun hq => hq) (hc : evX L' c = .v (.bool b) := by exact rfl) : AWL P N ops [] R L := nl (hR (cd ht hf hc)) h
theorem mn (k : AWL P N ops rest Q L') (hw : wantL ops L ⟨dst, .move x, ty, pos, af, g⟩ = some gb := by exact rfl) (hgb : gb = true := by exact rfl) (hd : dst = some d := by exact rfl) (hN : d < N := by decide) (h : putL L d (evX L x) = L' := by simp only [go_sem, Int.reduceToNat, Nat.reduceLT, reduceIte, Nat.reduceEqDiff, Nat.reduceAdd, Nat.reduceMul, Nat.reduceBEq, reduceCtorEq]; rfl) : AWL P N ops (⟨dst, .move x, ty, pos, af, g⟩ :: rest) Q L := qm (nm k h) hw hgb hd hN
end
theorem ob {P : Program} {f : FuncId} {fn : Func} {c : Code} {xs : List X} {ρ : List E} {post : X → List E → Prop} {n : Nat} (hf : P.funcs[f]? = some fn) (hn : fn.ntmps = n) (h : AW P n c (endQ P fn post) (slotsOf 0 xs ++ ρ)) (hb : fn.body = some c := by exact rfl) (hρ : ∀ t x, E.sl t x ∉ ρ := by simp) : Con P f xs ρ post := Con.of_body hf hb hρ (by rw [hn]; exact h)
end Go.Proofs.YtfbefcmeghpalaaGreat.VM
