/- Rules to walk by. No conditions. -/
import Derived.LaidEql
import Derived.Laws.NewBlocks
import Derived.Lib.Join
import Derived.Lib.OthersKept
import Derived.Shelf.Slices.Empties
import Derived.Shelf.Slices.SearchI
import Derived.Shelf.Spec.SlicesInsertGrow
import Derived.Sort.Grow
import Derived.Sort.Row
import Derived.Test.YthjfgpkjooaahaaGreatVmC
set_option linter.all false
namespace Go.Proofs.YthjfgpkjooaahaaGreat.VM
open Go Go.RowKit
def allRt : List E → Bool
 | [] => true
 | .rt .. :: r => allRt r
 | _ :: _ => false
theorem allRt_mem : ∀ {L : List E}, allRt L = true → ∀ e ∈ L, ∃ id m t, e = .rt id m t
 | [], _, e, he => by cases he
 | .rt i m t :: r, h, e, he => by
  rcases List.mem_cons.1 he with rfl | he
  ·exact ⟨_, _, _, rfl⟩
  ·exact allRt_mem (L := r) h e he
theorem ids_uniq {M : List E} (hn : (idsL M).Nodup) : ∀ id m t m' t', rts M id m t → rts M id m' t' → m = m' ∧ t = t' := by
 induction M with
 | nil => intro id m t m' t' h; cases h
 | cons e r ih =>
  intro id m t m' t' h h'
  cases e with
  | sl s x =>
   rcases List.mem_cons.1 h with h | h
   ·cases h
   rcases List.mem_cons.1 h' with h' | h'
   ·cases h'
   exact ih hn id m t m' t' h h'
  | al s c x =>
   rcases List.mem_cons.1 h with h | h
   ·cases h
   rcases List.mem_cons.1 h' with h' | h'
   ·cases h'
   exact ih hn id m t m' t' h h'
  | rt i m0 t0 =>
   simp only [idsL, List.nodup_cons] at hn
   rcases List.mem_cons.1 h with k | k <;> rcases List.mem_cons.1 h' with k' | k'
   ·cases k; cases k'; exact ⟨rfl, rfl⟩
   ·cases k; exact absurd (idsL_mem.2 ⟨m', t', k'⟩) hn.1
   ·cases k'; exact absurd (idsL_mem.2 ⟨m, t, k⟩) hn.1
   ·exact ih hn.2 id m t m' t' k k'
theorem Con.sim {P : Program} {f : FuncId} {xs : List X} {ρ0 ρ : List E} {post : X → List E → Prop} (hs : hasS ρ0 ρ) (h : Con P f xs ρ post) (hl : allRt ρ = true) (hu : nodupB (idsL ρ) = true) (hx : X.insB (idsL ρ) xs = true) : Con P f xs ρ0 post := by
 intro w vs H G ht ha hr hv
 obtain ⟨_, a2, _⟩ := hasS_mem hs
 have hrt : ∀ id m t, rts ρ id m t → ∃ t0, rts ρ0 id m t0 ∧ t0.sim t := fun id m t hh => by
  obtain ⟨t0, e1, e2⟩ := a2 id m t hh
  exact ⟨t0, rootL_mem e1, e2⟩
 have hV : VRs (rts ρ) H w xs vs := by
  have : VR (rts ρ) H w (.g xs) (.agg vs.toArray) := VR.sim (R := rts ρ0) (ids := idsL ρ) (fun id hid m t ht => by
   obtain ⟨m', t', e⟩ := idsL_mem.1 hid
   obtain ⟨t0, e1, e2⟩ := hrt id m' t' e
   obtain ⟨rfl, rfl⟩ := hr.one _ _ _ _ _ ht e1
   exact ⟨t', e, e2⟩) (x := .g xs) (by simpa only [X.inB] using hx) ⟨vs, rfl, hv⟩
  obtain ⟨us, e, h⟩ := this
  simp only [Value.agg.injEq] at e
  have : vs = us := by simpa using congrArg Array.toList e
  rw [this]; exact h
 refine (h w vs H G ht (fun id m t h1 h2 a o h3 => by obtain ⟨t0, e1, _⟩ := hrt id m t h1; exact ha id m t0 e1 h2 a o h3) ⟨ids_uniq (nodup_of hu), ?_, ?_, ?_, ?_, ?_, ?_, ?_⟩ hV).mono ?_
 ·intro id m t h1 h2
  obtain ⟨t0, e1, e2⟩ := hrt id m t h1
  exact (hr.own id m t0 e1 h2).sim e2
 ·intro id t h1
  obtain ⟨t0, e1, e2⟩ := hrt id _ t h1
  exact (hr.ro id t0 e1).sim e2
 ·intro id t h1
  obtain ⟨t0, e1, e2⟩ := hrt id _ t h1
  exact hr.rold id t0 e1
 ·intro id t h1
  obtain ⟨t0, e1, e2⟩ := hrt id _ t h1
  obtain ⟨n, f, rfl⟩ := hr.box id t0 e1
  obtain ⟨g, rfl, _⟩ := e2
  exact ⟨n, g, rfl⟩
 ·intro id m t id' m' t' h1 h2
  obtain ⟨t0, e1, _⟩ := hrt id _ t h1
  obtain ⟨t1, e2, _⟩ := hrt id' _ t' h2
  exact hr.dis id m t0 id' m' t1 e1 e2
 ·intro t x h1
  obtain ⟨_, _, _, e⟩ := allRt_mem hl _ h1
  cases e
 ·intro id c x h1
  obtain ⟨_, _, _, e⟩ := allRt_mem hl _ h1
  cases e
 ·rintro e w' ⟨v, x, L, H', G', val, rfl, k1, k2, k3, k4, k5, k6⟩
  have hin : ∀ a o, (∃ id m t, rts ρ id m t ∧ m ≠ .ro ∧ G id a o) → ∃ id m t, rts ρ0 id m t ∧ m ≠ .ro ∧ G id a o := fun a o ⟨id, m, t, h1, h2, h3⟩ => by
   obtain ⟨t0, e1, _⟩ := hrt id m t h1
   exact ⟨id, m, t0, e1, h2, h3⟩
  exact ⟨v, x, L, H', G', val, rfl, k1, k2, k3, k4.mono fun a o _ h => hin a o h, fun id m t h1 h2 a o h3 => (k5 id m t h1 h2 a o h3).imp_left (hin a o), k6⟩
theorem szd_lo {w : Nat} {left : Int} (h : -1 ≤ left) : -1 ≤ szd w left := by have := szd_cases w left; omega
theorem szd_hi {w : Nat} {left : Int} (h : left ≤ 1048576) : szd w left ≤ 1048576 := by have := szd_cases w left; omega
open Go Go.RowKit
section
variable {P : Program} {N : Nat} {L : List E} {dst : Option Tmp} {ty : TypeId} {pos : String} {af : Array Edge} {g : Option (Nat × Bool)} {d : Nat}
theorem vrs_evals {H : Nat → Value} {w : World} {a : Act} (he : ∀ y, VR (rts L) H w (evX L y) (Act.eval a y)) : ∀ xs : List Operand, VRs (rts L) H w (xs.map (evX L)) (xs.map a.eval)
 | [] => trivial
 | x :: xs => ⟨he x, vrs_evals he xs⟩
theorem Qt.makeFunc {f : FuncId} {caps : Array Operand} : Qt P ⟨dst, .makeFunc (.func f) #[] caps, ty, pos, af, g⟩ L (.f f (caps.toList.map (evX L))) :=
 fun H w a he _ => ⟨.func (.func f) #[] (caps.toList.map a.eval).toArray, by
  have : (caps.toList.map a.eval).toArray = caps.map a.eval := by rw [← Array.toList_map]
  simp [execOp, Instr.makeFunc, this], _, rfl, vrs_evals he _⟩
end
theorem Con.simH {P : Program} {f : FuncId} {xs : List X} {ρ0 ρ : List E} {post : X → List E → Prop} (h : Con P f xs ρ post) (hs : hasS ρ0 ρ) (hl : allRt ρ = true) (hu : nodupB (idsL ρ) = true) (hx : X.insB (idsL ρ) xs = true) : Con P f xs ρ0 post := Con.sim hs h hl hu hx
theorem sim_one {α : Type} [En α] {u : α} {f : Nat → Nat → T} (h : ∀ c, c < En.n α → (f 0 c).sim ((En.cs u).getD c .j)) : (T.s (En.n α) 1 f).sim (tr [u]) :=
 ⟨_, rfl, fun k c hk hc => by
  obtain rfl : k = 0 := by omega
  exact h c hc⟩
open Go Go.RowKit
mutual
def X.sub (b i : Nat) (e : Nat × Nat × Nat) : X → X
 | .p id q n k k2 => if Nat.beq id b then .p i (e :: q) n k k2 else .p id q n k k2
 | .h id q => if Nat.beq id b then .h i (e :: q) else .h id q
 | .a id q n lo len => if Nat.beq id b then .a i (e :: q) n lo len else .a id q n lo len
 | .g xs => .g (X.subs b i e xs)
 | .t xs => .t (X.subs b i e xs)
 | .f fn xs => .f fn (X.subs b i e xs)
 | .v x => .v x
 | .j => .j
 | .c => .c
def X.subs (b i : Nat) (e : Nat × Nat × Nat) : List X → List X
 | [] => []
 | x :: xs => X.sub b i e x :: X.subs b i e xs
end
def eqE (a b : Nat × Nat × Nat) : Bool := Nat.beq a.1 b.1 && (Nat.beq a.2.1 b.2.1 && Nat.beq a.2.2 b.2.2)
theorem eqE_eq {a b : Nat × Nat × Nat} (h : eqE a b = true) : a = b := by
 obtain ⟨a1, a2, a3⟩ := a
 obtain ⟨b1, b2, b3⟩ := b
 simp only [eqE, Bool.and_eq_true] at h
 rw [Nat.eq_of_beq_eq_true h.1, Nat.eq_of_beq_eq_true h.2.1, Nat.eq_of_beq_eq_true h.2.2]
theorem eqE_refl (a : Nat × Nat × Nat) : eqE a a = true := by simp [eqE]
def unsP (i : Nat) (e : Nat × Nat × Nat) (d id : Nat) (q : Path) : Nat × Path := match q with
 | [] => (id, [])
 | a :: r => if Nat.beq id i && eqE a e then (d, r) else (id, a :: r)
mutual
def X.uns (i : Nat) (e : Nat × Nat × Nat) (d : Nat) : X → X
 | .p id q n k k2 => .p (unsP i e d id q).1 (unsP i e d id q).2 n k k2
 | .h id q => .h (unsP i e d id q).1 (unsP i e d id q).2
 | .a id q n lo len => .a (unsP i e d id q).1 (unsP i e d id q).2 n lo len
 | .g xs => .g (X.unss i e d xs)
 | .t xs => .t (X.unss i e d xs)
 | .f fn xs => .f fn (X.unss i e d xs)
 | .v x => .v x
 | .j => .j
 | .c => .c
def X.unss (i : Nat) (e : Nat × Nat × Nat) (d : Nat) : List X → List X
 | [] => []
 | x :: xs => X.uns i e d x :: X.unss i e d xs
end
section
variable {R R' : RT} {H H' : Nat → Value} {w w' : World}
mutual
theorem VR.subOk {b i : Nat} {e : Nat × Nat × Nat} (hP : ∀ x v, X.leaf x → VR R H w x v → VR R' H' w' (x.sub b i e) v) : ∀ {x : X} {v : Value}, VR R H w x v → VR R' H' w' (x.sub b i e) v
 | .g xs, v, ⟨vs, h1, h2⟩ => ⟨vs, h1, VRs.subOk hP h2⟩
 | .t xs, v, ⟨vs, h1, h2⟩ => ⟨vs, h1, VRs.subOk hP h2⟩
 | .f fn xs, v, ⟨vs, h1, h2⟩ => ⟨vs, h1, VRs.subOk hP h2⟩
 | .v x, v, h => h
 | .j, v, _ => trivial
 | .c, v, h => h
 | .p .., v, h => hP _ _ trivial h
 | .h .., v, h => hP _ _ trivial h
 | .a .., v, h => hP _ _ trivial h
theorem VRs.subOk {b i : Nat} {e : Nat × Nat × Nat} (hP : ∀ x v, X.leaf x → VR R H w x v → VR R' H' w' (x.sub b i e) v) : ∀ {xs : List X} {vs : List Value}, VRs R H w xs vs → VRs R' H' w' (X.subs b i e xs) vs
 | [], [], _ => trivial
 | x :: xs, v :: vs, ⟨h1, h2⟩ => ⟨VR.subOk hP h1, VRs.subOk hP h2⟩
 | [], _ :: _, h => h.elim
 | _ :: _, [], h => h.elim
end
mutual
theorem VR.unsOk {i d : Nat} {e : Nat × Nat × Nat} (hP : ∀ x v, X.leaf x → VR R H w x v → VR R' H' w' (x.uns i e d) v) : ∀ {x : X} {v : Value}, VR R H w x v → VR R' H' w' (x.uns i e d) v
 | .g xs, v, ⟨vs, h1, h2⟩ => ⟨vs, h1, VRs.unsOk hP h2⟩
 | .t xs, v, ⟨vs, h1, h2⟩ => ⟨vs, h1, VRs.unsOk hP h2⟩
 | .f fn xs, v, ⟨vs, h1, h2⟩ => ⟨vs, h1, VRs.unsOk hP h2⟩
 | .v x, v, h => h
 | .j, v, _ => trivial
 | .c, v, h => h
 | .p .., v, h => hP _ _ trivial h
 | .h .., v, h => hP _ _ trivial h
 | .a .., v, h => hP _ _ trivial h
theorem VRs.unsOk {i d : Nat} {e : Nat × Nat × Nat} (hP : ∀ x v, X.leaf x → VR R H w x v → VR R' H' w' (x.uns i e d) v) : ∀ {xs : List X} {vs : List Value}, VRs R H w xs vs → VRs R' H' w' (X.unss i e d xs) vs
 | [], [], _ => trivial
 | x :: xs, v :: vs, ⟨h1, h2⟩ => ⟨VR.unsOk hP h1, VRs.unsOk hP h2⟩
 | [], _ :: _, h => h.elim
 | _ :: _, [], h => h.elim
end
end
def sinkL (b i c n : Nat) (tb : T) : List E → List E
 | [] => []
 | .sl s x :: L => .sl s (x.sub b i (n, 0, c)) :: sinkL b i c n tb L
 | .rt id m t :: L => if Nat.beq id b then sinkL b i c n tb L else .rt id m (if Nat.beq id i then t.put [] 0 c tb else t) :: sinkL b i c n tb L
 | .al id c' x :: L => if Nat.beq id i && Nat.beq c' c then sinkL b i c n tb L else .al id c' (x.sub b i (n, 0, c)) :: sinkL b i c n tb L
def hoistM (i c n d : Nat) : List E → List E
 | [] => []
 | .sl s x :: L => .sl s (x.uns i (n, 0, c) d) :: hoistM i c n d L
 | .rt id m t :: L => .rt id m (if Nat.beq id i then t.put [] 0 c .j else t) :: hoistM i c n d L
 | .al id c' x :: L => .al id c' (x.uns i (n, 0, c) d) :: hoistM i c n d L
def hoistL (i c n d : Nat) (tc : T) (L : List E) : List E := .rt d .row tc :: .al i c (.h d []) :: hoistM i c n d L
theorem sinkL_sl {b i c n : Nat} {tb : T} {s : Nat} {y : X} : ∀ {L : List E}, E.sl s y ∈ sinkL b i c n tb L → ∃ x, E.sl s x ∈ L ∧ y = x.sub b i (n, 0, c)
 | .sl s' x :: L, h => by
  rcases List.mem_cons.1 h with h | h
  ·cases h; exact ⟨x, List.mem_cons_self .., rfl⟩
  ·obtain ⟨x, h1, h2⟩ := sinkL_sl h; exact ⟨x, List.mem_cons_of_mem _ h1, h2⟩
 | .rt id m t :: L, h => by
  simp only [sinkL] at h
  split at h
  ·obtain ⟨x, h1, h2⟩ := sinkL_sl h; exact ⟨x, List.mem_cons_of_mem _ h1, h2⟩
  ·rcases List.mem_cons.1 h with h | h
   ·cases h
   ·obtain ⟨x, h1, h2⟩ := sinkL_sl h; exact ⟨x, List.mem_cons_of_mem _ h1, h2⟩
 | .al id c' x :: L, h => by
  simp only [sinkL] at h
  split at h
  ·obtain ⟨x, h1, h2⟩ := sinkL_sl h; exact ⟨x, List.mem_cons_of_mem _ h1, h2⟩
  ·rcases List.mem_cons.1 h with h | h
   ·cases h
   ·obtain ⟨x, h1, h2⟩ := sinkL_sl h; exact ⟨x, List.mem_cons_of_mem _ h1, h2⟩
theorem sinkL_al {b i c n : Nat} {tb : T} {s c1 : Nat} {y : X} : ∀ {L : List E}, E.al s c1 y ∈ sinkL b i c n tb L → ∃ x, E.al s c1 x ∈ L ∧ y = x.sub b i (n, 0, c) ∧ ¬ (s = i ∧ c1 = c)
 | .sl s' x :: L, h => by
  rcases List.mem_cons.1 h with h | h
  ·cases h
  ·obtain ⟨x, h1, h2⟩ := sinkL_al h; exact ⟨x, List.mem_cons_of_mem _ h1, h2⟩
 | .rt id m t :: L, h => by
  simp only [sinkL] at h
  split at h
  ·obtain ⟨x, h1, h2⟩ := sinkL_al h; exact ⟨x, List.mem_cons_of_mem _ h1, h2⟩
  ·rcases List.mem_cons.1 h with h | h
   ·cases h
   ·obtain ⟨x, h1, h2⟩ := sinkL_al h; exact ⟨x, List.mem_cons_of_mem _ h1, h2⟩
 | .al id c' x :: L, h => by
  simp only [sinkL] at h
  split at h
  ·obtain ⟨x, h1, h2⟩ := sinkL_al h; exact ⟨x, List.mem_cons_of_mem _ h1, h2⟩
  ·rename_i hne
   rcases List.mem_cons.1 h with h | h
   ·cases h
    refine ⟨x, List.mem_cons_self .., rfl, fun ⟨e1, e2⟩ => hne ?_⟩
    rw [e1, e2]; simp
   ·obtain ⟨x, h1, h2⟩ := sinkL_al h; exact ⟨x, List.mem_cons_of_mem _ h1, h2⟩
theorem sinkL_rt {b i c n : Nat} {tb : T} {id : Nat} {m : M} {t : T} : ∀ {L : List E}, rts (sinkL b i c n tb L) id m t ↔ id ≠ b ∧ ∃ t0, rts L id m t0 ∧ t = if id = i then t0.put [] 0 c tb else t0
 | [] => by simp [rts, sinkL]
 | .sl s' x :: L => by
  have := sinkL_rt (b := b) (i := i) (c := c) (n := n) (tb := tb) (id := id) (m := m) (t := t) (L := L)
  simpa [rts, sinkL] using this
 | .al s' c' x :: L => by
  have := sinkL_rt (b := b) (i := i) (c := c) (n := n) (tb := tb) (id := id) (m := m) (t := t) (L := L)
  simp only [rts, sinkL] at this ⊢
  split <;> simpa using this
 | .rt id' m' t' :: L => by
  have ih := sinkL_rt (b := b) (i := i) (c := c) (n := n) (tb := tb) (id := id) (m := m) (t := t) (L := L)
  simp only [rts, sinkL] at ih ⊢
  by_cases hb : id' = b
  ·subst hb
   simp only [Nat.beq_refl, if_true, ih, List.mem_cons, E.rt.injEq]
   constructor
   ·rintro ⟨h1, t0, h2, h3⟩; exact ⟨h1, t0, .inr h2, h3⟩
   ·rintro ⟨h1, t0, ⟨rfl, _⟩ | h2, h3⟩
    ·exact absurd rfl h1
    ·exact ⟨h1, t0, h2, h3⟩
  ·have hb' : ¬ (Nat.beq id' b = true) := fun h => hb (Nat.eq_of_beq_eq_true h)
   have hi : (if Nat.beq id' i = true then t'.put [] 0 c tb else t') = if id' = i then t'.put [] 0 c tb else t' := by
    by_cases h : id' = i
    ·subst h; simp
    ·rw [if_neg h, if_neg fun h' => h (Nat.eq_of_beq_eq_true h')]
   rw [if_neg hb', hi, List.mem_cons, ih, E.rt.injEq]
   constructor
   ·rintro (⟨rfl, rfl, rfl⟩ | ⟨h1, t0, h2, h3⟩)
    ·exact ⟨hb, t', List.mem_cons_self .., rfl⟩
    ·exact ⟨h1, t0, List.mem_cons_of_mem _ h2, h3⟩
   ·rintro ⟨h1, t0, h2, h3⟩
    rcases List.mem_cons.1 h2 with h2 | h2
    ·cases h2; exact .inl ⟨rfl, rfl, h3⟩
    ·exact .inr ⟨h1, t0, h2, h3⟩
theorem hoistM_sl {i c n d : Nat} {s : Nat} {y : X} : ∀ {L : List E}, E.sl s y ∈ hoistM i c n d L → ∃ x, E.sl s x ∈ L ∧ y = x.uns i (n, 0, c) d
 | .sl s' x :: L, h => by
  rcases List.mem_cons.1 h with h | h
  ·cases h; exact ⟨x, List.mem_cons_self .., rfl⟩
  ·obtain ⟨x, h1, h2⟩ := hoistM_sl h; exact ⟨x, List.mem_cons_of_mem _ h1, h2⟩
 | .rt id m t :: L, h => by
  rcases List.mem_cons.1 h with h | h
  ·cases h
  ·obtain ⟨x, h1, h2⟩ := hoistM_sl h; exact ⟨x, List.mem_cons_of_mem _ h1, h2⟩
 | .al id c' x :: L, h => by
  rcases List.mem_cons.1 h with h | h
  ·cases h
  ·obtain ⟨x, h1, h2⟩ := hoistM_sl h; exact ⟨x, List.mem_cons_of_mem _ h1, h2⟩
theorem hoistM_al {i c n d : Nat} {s c1 : Nat} {y : X} : ∀ {L : List E}, E.al s c1 y ∈ hoistM i c n d L → ∃ x, E.al s c1 x ∈ L ∧ y = x.uns i (n, 0, c) d
 | .sl s' x :: L, h => by
  rcases List.mem_cons.1 h with h | h
  ·cases h
  ·obtain ⟨x, h1, h2⟩ := hoistM_al h; exact ⟨x, List.mem_cons_of_mem _ h1, h2⟩
 | .rt id m t :: L, h => by
  rcases List.mem_cons.1 h with h | h
  ·cases h
  ·obtain ⟨x, h1, h2⟩ := hoistM_al h; exact ⟨x, List.mem_cons_of_mem _ h1, h2⟩
 | .al id c' x :: L, h => by
  rcases List.mem_cons.1 h with h | h
  ·cases h; exact ⟨x, List.mem_cons_self .., rfl⟩
  ·obtain ⟨x, h1, h2⟩ := hoistM_al h; exact ⟨x, List.mem_cons_of_mem _ h1, h2⟩
theorem hoistM_rt {i c n d : Nat} {id : Nat} {m : M} {t : T} : ∀ {L : List E}, rts (hoistM i c n d L) id m t ↔ ∃ t0, rts L id m t0 ∧ t = if id = i then t0.put [] 0 c .j else t0
 | [] => by simp [rts, hoistM]
 | .sl s' x :: L => by
  have := hoistM_rt (i := i) (c := c) (n := n) (d := d) (id := id) (m := m) (t := t) (L := L)
  simpa [rts, hoistM] using this
 | .al s' c' x :: L => by
  have := hoistM_rt (i := i) (c := c) (n := n) (d := d) (id := id) (m := m) (t := t) (L := L)
  simpa [rts, hoistM] using this
 | .rt id' m' t' :: L => by
  have ih := hoistM_rt (i := i) (c := c) (n := n) (d := d) (id := id) (m := m) (t := t) (L := L)
  simp only [rts, hoistM] at ih ⊢
  have hi : (if Nat.beq id' i = true then t'.put [] 0 c .j else t') = if id' = i then t'.put [] 0 c .j else t' := by
   by_cases h : id' = i
   ·subst h; simp
   ·rw [if_neg h, if_neg fun h' => h (Nat.eq_of_beq_eq_true h')]
  rw [hi, List.mem_cons, ih, E.rt.injEq]
  constructor
  ·rintro (⟨rfl, rfl, rfl⟩ | ⟨t0, h2, h3⟩)
   ·exact ⟨t', List.mem_cons_self .., rfl⟩
   ·exact ⟨t0, List.mem_cons_of_mem _ h2, h3⟩
  ·rintro ⟨t0, h2, h3⟩
   rcases List.mem_cons.1 h2 with h2 | h2
   ·cases h2; exact .inl ⟨rfl, rfl, h3⟩
   ·exact .inr ⟨t0, h2, h3⟩
theorem upd_at {n c : Nat} {f : Nat → Nat → T} {y : T} : ∀ {q : Path}, Okp (.s n 1 f) q → (∀ r, q ≠ (n, 0, c) :: r) → Okp (.s n 1 (upd f 0 c y)) q ∧ ∀ {n1 len : Nat} {f1 : Nat → Nat → T}, (T.s n 1 f).at q = .s n1 len f1 → ∃ f2, (T.s n 1 (upd f 0 c y)).at q = .s n1 len f2
  | [], _, _ => ⟨trivial, fun h => by simp only [T.at] at h ⊢; cases h; exact ⟨_, rfl⟩⟩
  | (n', k', c') :: q', ⟨hnn, hk, hc, hq⟩, hne => by
    subst hnn
    have hkc : ¬ (k' = 0 ∧ c' = c) := by
      rintro ⟨rfl, rfl⟩
      exact hne q' rfl
    have e : upd f 0 c y k' c' = f k' c' := by simp only [upd, if_neg hkc]
    refine ⟨⟨rfl, hk, hc, by rw [e]; exact hq⟩, fun h => ?_⟩
    simp only [T.at] at h ⊢
    rw [e]
    exact ⟨_, h⟩
theorem hd_cons {w : World} {h x : Value} {n k c b o : Nat} {q : Path} (h1 : adr h n k c = some ⟨b, o, none⟩) (h2 : w.cell? ⟨b, o, none⟩ = some x) : hd w h ((n, k, c) :: q) = hd w x q := by
 simp only [hd, h1, h2]
theorem Weak.sink {N : Nat} {L : List E} (b i c : Nat) {n : Nat} {f : Nat → Nat → T} {tb : T} (hi : rootL L i = some (.box, .s n 1 f)) (hc : c < n) (hf : f 0 c = .j) (hb : rootL L b = some (.row, tb)) (hal : aliasL L i c = .h b []) (hne : Nat.beq b i = false) : Weak N L (sinkL b i c n tb L) := fun cx a w hs => by
 obtain ⟨H, G, hr, hG⟩ := hs.rp
 have hi' := rootL_mem hi
 have hb' := rootL_mem hb
 have hne' : b ≠ i := fun e => by rw [e, Nat.beq_refl] at hne; cases hne
 have hal' : E.al i c (.h b []) ∈ L := by
  rcases aliasL_mem (L := L) (id := i) (c := c) with h | h
  ·rw [hal] at h; cases h
  ·rw [hal] at h; exact h
 obtain ⟨n2, f2, e1, e2, A, v, e3, e4, e5⟩ := hr.al i c _ hal'
 have e6 := (hr.one _ _ _ _ _ hi' e1).2
 cases e6
 have hv : v = H b := by
  obtain ⟨m, t, _, _, _, h⟩ := e5
  simp only [VM.hd, Option.some.injEq] at h
  exact h.symm
 subst hv
 have hO := hr.own i _ _ hi' (by simp)
 obtain ⟨b0, o0, x0, Gx, g1, g2, g3, g4, g5, g6, g7, g8⟩ := hO.row (k := 0) (c := c) (by omega) hc
 have hA : A = ⟨b0, o0, none⟩ := by
  obtain ⟨a0, l0, c0, q1, q2⟩ := adr_some e3
  rw [q1] at g1
  simp only [adr, Option.some.injEq] at g1
  rw [q2, ← g1]
  simp
 rw [hA, g2] at e4
 cases e4
 have hGx : ∀ x y, ¬ Gx x y := by rw [hf] at g3; exact g3.2
 have hOb := hr.own b _ _ hb' (by simp)
 obtain ⟨k1, -⟩ := g8 (w' := w) (S := fun _ _ => False) (y := tb) (x' := H b) (Gy := G b) (Chg.refl _ _) (fun _ _ h => h.elim) g2 hOb (fun x y hg => .inr fun hF => hr.dis _ _ _ _ _ _ hb' hi' hne' (by simp) x y hg hF)
 have hrt : ∀ {id m t}, rts (sinkL b i c n tb L) id m t → (id = i ∧ m = .box ∧ t = .s n 1 (upd f 0 c tb)) ∨ (id ≠ i ∧ id ≠ b ∧ rts L id m t) := fun {id m t} h => by
  obtain ⟨h1, t0, h2, h3⟩ := sinkL_rt.1 h
  by_cases e : id = i
  ·subst e
   obtain ⟨rfl, rfl⟩ := hr.one _ _ _ _ _ h2 hi'
   rw [if_pos rfl] at h3
   exact .inl ⟨rfl, rfl, h3⟩
  ·rw [if_neg e] at h3
   subst h3
   exact .inr ⟨e, h1, h2⟩
 have hri : rts (sinkL b i c n tb L) i .box (.s n 1 (upd f 0 c tb)) := sinkL_rt.2 ⟨fun e => hne' e.symm, _, hi', by rw [if_pos rfl]; rfl⟩
 have hro : ∀ {id m t}, id ≠ i → id ≠ b → rts L id m t → rts (sinkL b i c n tb L) id m t := fun {id m t} h1 h2 h => sinkL_rt.2 ⟨h2, t, h, by rw [if_neg h1]⟩
 have havoid : ∀ {q : Path} {n1 len : Nat} {f1 : Nat → Nat → T}, (T.s n 1 f).at q = .s n1 len f1 → ∀ r, q ≠ (n, 0, c) :: r := fun {q n1 len f1} h r e => by
  subst e
  simp only [T.at, hf] at h
  cases r <;> simp [T.at] at h
 have hleaf : ∀ x v, X.leaf x → VR (rts L) H w x v → VR (rts (sinkL b i c n tb L)) H w (x.sub b i (n, 0, c)) v := fun x v hl h => by
  cases x with
  | p id q n1 k c1 =>
   obtain ⟨m, t, h1, h2, ⟨len, f1, h3, h4, h5⟩, hv, A1, h6, h7⟩ := h
   by_cases e : id = b
   ·subst e
    obtain ⟨rfl, rfl⟩ := hr.one _ _ _ _ _ h1 hb'
    simp only [X.sub, Nat.beq_refl, if_true]
    exact ⟨_, _, hri, ⟨rfl, Nat.zero_lt_one, hc, by simpa [upd] using h2⟩, ⟨len, f1, by simpa [T.at, upd] using h3, h4, h5⟩, hv, A1, by rw [hd_cons g1 g2]; exact h6, h7⟩
   ·simp only [X.sub, if_neg fun h => e (Nat.eq_of_beq_eq_true h)]
    by_cases e' : id = i
    ·subst e'
     obtain ⟨rfl, rfl⟩ := hr.one _ _ _ _ _ h1 hi'
     obtain ⟨p1, p2⟩ := upd_at (y := tb) h2 (havoid h3)
     obtain ⟨f2, p3⟩ := p2 h3
     exact ⟨_, _, hri, p1, ⟨len, f2, p3, h4, h5⟩, hv, A1, h6, h7⟩
    ·exact ⟨m, t, hro e' e h1, h2, ⟨len, f1, h3, h4, h5⟩, hv, A1, h6, h7⟩
  | h id q =>
   obtain ⟨m, t, h1, h2, ⟨n1, len, f1, h3⟩, h6⟩ := h
   by_cases e : id = b
   ·subst e
    obtain ⟨rfl, rfl⟩ := hr.one _ _ _ _ _ h1 hb'
    simp only [X.sub, Nat.beq_refl, if_true]
    exact ⟨_, _, hri, ⟨rfl, Nat.zero_lt_one, hc, by simpa [upd] using h2⟩, ⟨n1, len, f1, by simpa [T.at, upd] using h3⟩, by rw [hd_cons g1 g2]; exact h6⟩
   ·simp only [X.sub, if_neg fun h => e (Nat.eq_of_beq_eq_true h)]
    by_cases e' : id = i
    ·subst e'
     obtain ⟨rfl, rfl⟩ := hr.one _ _ _ _ _ h1 hi'
     obtain ⟨p1, p2⟩ := upd_at (y := tb) h2 (havoid h3)
     obtain ⟨f2, p3⟩ := p2 h3
     exact ⟨_, _, hri, p1, ⟨n1, len, f2, p3⟩, h6⟩
    ·exact ⟨m, t, hro e' e h1, h2, ⟨n1, len, f1, h3⟩, h6⟩
  | a id q n1 lo len =>
   obtain ⟨m, t, h1, h2, ⟨l, f1, h3, h4⟩, hv, h6, h7⟩ := h
   by_cases e : id = b
   ·subst e
    obtain ⟨rfl, rfl⟩ := hr.one _ _ _ _ _ h1 hb'
    simp only [X.sub, Nat.beq_refl, if_true]
    exact ⟨_, _, hri, ⟨rfl, Nat.zero_lt_one, hc, by simpa [upd] using h2⟩, ⟨l, f1, by simpa [T.at, upd] using h3, h4⟩, hv, by rw [hd_cons g1 g2]; exact h6, h7⟩
   ·simp only [X.sub, if_neg fun h => e (Nat.eq_of_beq_eq_true h)]
    by_cases e' : id = i
    ·subst e'
     obtain ⟨rfl, rfl⟩ := hr.one _ _ _ _ _ h1 hi'
     obtain ⟨p1, p2⟩ := upd_at (y := tb) h2 (havoid h3)
     obtain ⟨f2, p3⟩ := p2 h3
     exact ⟨_, _, hri, p1, ⟨l, f2, p3, h4⟩, hv, h6, h7⟩
    ·exact ⟨m, t, hro e' e h1, h2, ⟨l, f1, h3, h4⟩, hv, h6, h7⟩
  | _ => exact hl.elim
 refine ⟨hs.siz, hs.dfr, hs.chg, H, updN G i fun a p => (G i a p ∧ ¬ Gx a p) ∨ G b a p, ⟨fun id m t m' t' h1 h2 => ?_, fun id m t h1 h2 => ?_, fun id t h1 => ?_, fun id t h1 => ?_, fun id t h1 => ?_, fun id m t id' m' t' h1 h2 hne2 hm x y hx hy => ?_, fun t x h => ?_, fun id c1 x h => ?_⟩, fun id m t h1 h2 x y hx => ?_, fun id m t h1 h2 => ?_⟩
 ·rcases hrt h1 with ⟨rfl, rfl, rfl⟩ | ⟨a1, a2, a3⟩ <;> rcases hrt h2 with ⟨b1, b2, b3⟩ | ⟨b1, b2, b3⟩
  ·exact ⟨b2.symm, b3.symm⟩
  ·exact absurd rfl b1
  ·exact absurd b1 a1
  ·exact hr.one _ _ _ _ _ a3 b3
 ·rcases hrt h1 with ⟨rfl, rfl, rfl⟩ | ⟨a1, a2, a3⟩
  ·simp only [updN, if_true]; exact k1
  ·simp only [updN, if_neg a1]; exact hr.own _ _ _ a3 h2
 ·rcases hrt h1 with ⟨_, h, _⟩ | ⟨a1, a2, a3⟩
  ·cases h
  ·simp only [updN, if_neg a1]; exact hr.ro _ _ a3
 ·rcases hrt h1 with ⟨_, h, _⟩ | ⟨a1, a2, a3⟩
  ·cases h
  ·simp only [updN, if_neg a1]; exact hr.rold _ _ a3
 ·rcases hrt h1 with ⟨_, _, rfl⟩ | ⟨a1, a2, a3⟩
  ·exact ⟨_, _, rfl⟩
  ·exact hr.box _ _ a3
 ·rcases hrt h1 with ⟨rfl, rfl, rfl⟩ | ⟨a1, a2, a3⟩ <;> rcases hrt h2 with ⟨b1, b2, b3⟩ | ⟨b1, b2, b3⟩
  ·exact hne2 b1.symm
  ·simp only [updN, if_true] at hx
   simp only [updN, if_neg b1] at hy
   rcases hx with ⟨hx, _⟩ | hx
   ·exact hr.dis _ _ _ _ _ _ hi' b3 hne2 (by simp) x y hx hy
   ·exact hr.dis _ _ _ _ _ _ hb' b3 (Ne.symm b2) (by simp) x y hx hy
  ·subst b1
   simp only [updN, if_true] at hy
   simp only [updN, if_neg a1] at hx
   rcases hy with ⟨hy, _⟩ | hy
   ·exact hr.dis _ _ _ _ _ _ hi' a3 (Ne.symm hne2) (by simp) x y hy hx
   ·exact hr.dis _ _ _ _ _ _ hb' a3 (Ne.symm a2) (by simp) x y hy hx
  ·simp only [updN, if_neg a1] at hx
   simp only [updN, if_neg b1] at hy
   exact hr.dis _ _ _ _ _ _ a3 b3 hne2 hm x y hx hy
 ·obtain ⟨x', h1, rfl⟩ := sinkL_sl h
  exact VR.subOk hleaf (hr.sl t x' h1)
 ·obtain ⟨x', h1, rfl, h3⟩ := sinkL_al h
  obtain ⟨n3, f3, p1, p2, A3, v3, p3, p4, p5⟩ := hr.al id c1 x' h1
  by_cases e : id = i
  ·subst e
   have := (hr.one _ _ _ _ _ hi' p1).2
   cases this
   exact ⟨n, _, hri, p2, A3, v3, p3, p4, VR.subOk hleaf p5⟩
  ·have e' : id ≠ b := fun e' => by
    subst e'
    obtain ⟨hh, _⟩ := hr.one _ _ _ _ _ hb' p1
    cases hh
   exact ⟨n3, f3, hro e e' p1, p2, A3, v3, p3, p4, VR.subOk hleaf p5⟩
 ·rcases hrt h1 with ⟨rfl, rfl, rfl⟩ | ⟨a1, a2, a3⟩
  ·simp only [updN, if_true] at hx
   rcases hx with ⟨hx, _⟩ | hx
   ·exact hG.1 _ _ _ hi' (by simp) x y hx
   ·exact hG.1 _ _ _ hb' (by simp) x y hx
  ·simp only [updN, if_neg a1] at hx
   exact hG.1 _ _ _ a3 h2 x y hx
 ·rcases hrt h2 with ⟨rfl, rfl, rfl⟩ | ⟨a1, a2, a3⟩
  ·exact hG.2 _ _ _ h1 hi'
  ·exact hG.2 _ _ _ h1 a3
theorem Weak.hoist {N : Nat} {L : List E} (i c d : Nat) {n n1 len : Nat} {f f1 : Nat → Nat → T} (hi : rootL L i = some (.box, .s n 1 f)) (hc : c < n) (hf : f 0 c = .s n1 len f1) (hd : Nat.blt d base = true) (hn : (idsL L).contains d = false) : Weak N L (hoistL i c n d (.s n1 len f1) L) := fun cx a w hs => by
 obtain ⟨H, G, hr, hG⟩ := hs.rp
 have hi' := rootL_mem hi
 have hdn : ∀ {m t}, ¬ rts L d m t := fun {m t} h => by
  have : d ∈ idsL L := idsL_mem.2 ⟨m, t, h⟩
  simp [this] at hn
 have hdi : d ≠ i := fun e => hdn (e ▸ hi')
 have hdb : d < base := Nat.blt_eq.mp hd
 have hO := hr.own i _ _ hi' (by simp)
 obtain ⟨b0, o0, x0, Gx, g1, g2, g3, g4, g5, g6, g7, g8⟩ := hO.row (k := 0) (c := c) (by omega) hc
 obtain ⟨k1, -⟩ := g8 (w' := w) (S := fun _ _ => False) (y := .j) (x' := x0) (Gy := fun _ _ => False) (Chg.refl _ _) (fun _ _ h => h.elim) g2 ⟨g3.one, fun _ _ h => h⟩ (fun x y hg => hg.elim)
 rw [hf] at g3
 have hrt : ∀ {id m t}, rts (hoistL i c n d (.s n1 len f1) L) id m t → (id = d ∧ m = .row ∧ t = .s n1 len f1) ∨ (id = i ∧ m = .box ∧ t = .s n 1 (upd f 0 c .j)) ∨ (id ≠ i ∧ id ≠ d ∧ rts L id m t) := fun {id m t} h => by
  rcases List.mem_cons.1 h with h | h
  ·cases h; exact .inl ⟨rfl, rfl, rfl⟩
  rcases List.mem_cons.1 h with h | h
  ·cases h
  obtain ⟨t0, h2, h3⟩ := hoistM_rt.1 h
  by_cases e : id = i
  ·subst e
   obtain ⟨rfl, rfl⟩ := hr.one _ _ _ _ _ h2 hi'
   rw [if_pos rfl] at h3
   exact .inr (.inl ⟨rfl, rfl, h3⟩)
  ·rw [if_neg e] at h3
   subst h3
   exact .inr (.inr ⟨e, fun e' => hdn (e' ▸ h2), h2⟩)
 have hrd : rts (hoistL i c n d (.s n1 len f1) L) d .row (.s n1 len f1) := List.mem_cons_self ..
 have hri : rts (hoistL i c n d (.s n1 len f1) L) i .box (.s n 1 (upd f 0 c .j)) := List.mem_cons_of_mem _ (List.mem_cons_of_mem _ (hoistM_rt.2 ⟨_, hi', by rw [if_pos rfl]; rfl⟩))
 have hro : ∀ {id m t}, id ≠ i → rts L id m t → rts (hoistL i c n d (.s n1 len f1) L) id m t := fun {id m t} h1 h => List.mem_cons_of_mem _ (List.mem_cons_of_mem _ (hoistM_rt.2 ⟨t, h, by rw [if_neg h1]⟩))
 let H' : Nat → Value := updN H d x0
 have hHd : H' d = x0 := by simp [H', updN]
 have hHo : ∀ {id m t}, rts L id m t → H' id = H id := fun {id m t} h => by
  have : id ≠ d := fun e => hdn (e ▸ h)
  simp [H', updN, this]
 -- a way through the cell, or past it
 have hway : ∀ {id m t q}, rts L id m t → Okp t q → ∃ m' t', rts (hoistL i c n d (.s n1 len f1) L) (unsP i (n, 0, c) d id q).1 m' t' ∧ Okp t' (unsP i (n, 0, c) d id q).2 ∧ (∀ {n2 l2 : Nat} {f2 : Nat → Nat → T}, t.at q = .s n2 l2 f2 → ∃ f3, t'.at (unsP i (n, 0, c) d id q).2 = .s n2 l2 f3) ∧ VM.hd w (H' (unsP i (n, 0, c) d id q).1) (unsP i (n, 0, c) d id q).2 = VM.hd w (H id) q := fun {id m t q} h hq => by
  have hpast : (∀ r, id = i → q ≠ (n, 0, c) :: r) → ∃ m' t', rts (hoistL i c n d (.s n1 len f1) L) id m' t' ∧ Okp t' q ∧ (∀ {n2 l2 : Nat} {f2 : Nat → Nat → T}, t.at q = .s n2 l2 f2 → ∃ f3, t'.at q = .s n2 l2 f3) ∧ VM.hd w (H' id) q = VM.hd w (H id) q := fun hav => by
   rw [hHo h]
   by_cases e : id = i
   ·subst e
    obtain ⟨rfl, rfl⟩ := hr.one _ _ _ _ _ h hi'
    obtain ⟨p1, p2⟩ := upd_at (y := .j) hq fun r => hav r rfl
    exact ⟨_, _, hri, p1, fun hh => p2 hh, rfl⟩
   ·exact ⟨m, t, hro e h, hq, fun hh => ⟨_, hh⟩, rfl⟩
  cases q with
  | nil => exact hpast fun r _ e => by cases e
  | cons e q =>
   simp only [unsP]
   by_cases hh : (Nat.beq id i && eqE e (n, 0, c)) = true
   ·rw [if_pos hh]
    simp only [Bool.and_eq_true] at hh
    have e1 := Nat.eq_of_beq_eq_true hh.1
    have e2 := eqE_eq hh.2
    subst e1 e2
    obtain ⟨rfl, rfl⟩ := hr.one _ _ _ _ _ h hi'
    obtain ⟨_, _, _, hq'⟩ := hq
    rw [hf] at hq'
    refine ⟨_, _, hrd, hq', fun hh => ⟨_, by simpa only [T.at, hf] using hh⟩, ?_⟩
    rw [hHd, hd_cons g1 g2]
   ·rw [if_neg hh]
    refine hpast fun r h1 h2 => hh ?_
    cases h2
    rw [h1]
    simp [eqE_refl]
 have hleaf : ∀ x v, X.leaf x → VR (rts L) H w x v → VR (rts (hoistL i c n d (.s n1 len f1) L)) H' w (x.uns i (n, 0, c) d) v := fun x v hl h => by
  cases x with
  | p id q n2 k c1 =>
   obtain ⟨m, t, h1, h2, ⟨l2, f2, h3, h4, h5⟩, hv, A1, h6, h7⟩ := h
   obtain ⟨m', t', p1, p2, p3, p4⟩ := hway h1 h2
   obtain ⟨f3, p5⟩ := p3 h3
   exact ⟨m', t', p1, p2, ⟨l2, f3, p5, h4, h5⟩, hv, A1, by rw [p4]; exact h6, h7⟩
  | h id q =>
   obtain ⟨m, t, h1, h2, ⟨n2, l2, f2, h3⟩, h6⟩ := h
   obtain ⟨m', t', p1, p2, p3, p4⟩ := hway h1 h2
   obtain ⟨f3, p5⟩ := p3 h3
   exact ⟨m', t', p1, p2, ⟨n2, l2, f3, p5⟩, by rw [p4]; exact h6⟩
  | a id q n2 lo l2 =>
   obtain ⟨m, t, h1, h2, ⟨l, f2, h3, h4⟩, hv, h6, h7⟩ := h
   obtain ⟨m', t', p1, p2, p3, p4⟩ := hway h1 h2
   obtain ⟨f3, p5⟩ := p3 h3
   exact ⟨m', t', p1, p2, ⟨l, f3, p5, h4⟩, hv, by rw [p4]; exact h6, h7⟩
  | _ => exact hl.elim
 refine ⟨hs.siz, hs.dfr, hs.chg, H', updN (updN G i fun a p => (G i a p ∧ ¬ Gx a p) ∨ False) d Gx, ⟨fun id m t m' t' h1 h2 => ?_, fun id m t h1 h2 => ?_, fun id t h1 => ?_, fun id t h1 => ?_, fun id t h1 => ?_, fun id m t id' m' t' h1 h2 hne2 hm x y hx hy => ?_, fun t x h => ?_, fun id c1 x h => ?_⟩, fun id m t h1 h2 x y hx => ?_, fun id m t h1 h2 => ?_⟩
 ·rcases hrt h1 with ⟨rfl, rfl, rfl⟩ | ⟨rfl, rfl, rfl⟩ | ⟨a1, a2, a3⟩ <;> rcases hrt h2 with ⟨b1, b2, b3⟩ | ⟨b1, b2, b3⟩ | ⟨b1, b2, b3⟩
  ·exact ⟨b2.symm, b3.symm⟩
  ·exact absurd b1 hdi
  ·exact absurd rfl b2
  ·exact absurd b1.symm hdi
  ·exact ⟨b2.symm, b3.symm⟩
  ·exact absurd rfl b1
  ·exact absurd b1 a2
  ·exact absurd b1 a1
  ·exact hr.one _ _ _ _ _ a3 b3
 ·rcases hrt h1 with ⟨rfl, rfl, rfl⟩ | ⟨rfl, rfl, rfl⟩ | ⟨a1, a2, a3⟩
  ·simp only [updN, if_true]; rw [hHd]; exact g3
  ·simp only [updN, if_neg (Ne.symm hdi), if_true]; rw [hHo hi']; exact k1
  ·simp only [updN, if_neg a1, if_neg a2]; rw [hHo a3]; exact hr.own _ _ _ a3 h2
 ·rcases hrt h1 with ⟨_, h, _⟩ | ⟨_, h, _⟩ | ⟨a1, a2, a3⟩
  ·cases h
  ·cases h
  ·simp only [updN, if_neg a1, if_neg a2]; rw [hHo a3]; exact hr.ro _ _ a3
 ·rcases hrt h1 with ⟨_, h, _⟩ | ⟨_, h, _⟩ | ⟨a1, a2, a3⟩
  ·cases h
  ·cases h
  ·simp only [updN, if_neg a1, if_neg a2]; exact hr.rold _ _ a3
 ·rcases hrt h1 with ⟨_, h, _⟩ | ⟨_, _, rfl⟩ | ⟨a1, a2, a3⟩
  ·cases h
  ·exact ⟨_, _, rfl⟩
  ·exact hr.box _ _ a3
 ·rcases hrt h1 with ⟨rfl, rfl, rfl⟩ | ⟨rfl, rfl, rfl⟩ | ⟨a1, a2, a3⟩ <;> rcases hrt h2 with ⟨b1, b2, b3⟩ | ⟨b1, b2, b3⟩ | ⟨b1, b2, b3⟩
  ·exact hne2 b1.symm
  ·subst b1
   simp only [updN, if_true] at hx
   simp only [updN, if_neg (Ne.symm hdi), if_true] at hy
   rcases hy with ⟨_, hy⟩ | hy
   ·exact hy hx
   ·exact hy
  ·simp only [updN, if_true] at hx
   simp only [updN, if_neg b1, if_neg b2] at hy
   exact hr.dis _ _ _ _ _ _ hi' b3 (Ne.symm b1) (by simp) x y (g6 x y hx) hy
  ·subst b1
   simp only [updN, if_true] at hy
   simp only [updN, if_neg (Ne.symm hdi), if_true] at hx
   rcases hx with ⟨_, hx⟩ | hx
   ·exact hx hy
   ·exact hx
  ·exact hne2 b1.symm
  ·simp only [updN, if_neg (Ne.symm hdi), if_true] at hx
   simp only [updN, if_neg b1, if_neg b2] at hy
   rcases hx with ⟨hx, _⟩ | hx
   ·exact hr.dis _ _ _ _ _ _ hi' b3 hne2 (by simp) x y hx hy
   ·exact hx
  ·subst b1
   simp only [updN, if_true] at hy
   simp only [updN, if_neg a1, if_neg a2] at hx
   exact hr.dis _ _ _ _ _ _ hi' a3 (Ne.symm a1) (by simp) x y (g6 x y hy) hx
  ·subst b1
   simp only [updN, if_neg (Ne.symm hdi), if_true] at hy
   simp only [updN, if_neg a1, if_neg a2] at hx
   rcases hy with ⟨hy, _⟩ | hy
   ·exact hr.dis _ _ _ _ _ _ hi' a3 (Ne.symm a1) (by simp) x y hy hx
   ·exact hy
  ·simp only [updN, if_neg a1, if_neg a2] at hx
   simp only [updN, if_neg b1, if_neg b2] at hy
   exact hr.dis _ _ _ _ _ _ a3 b3 hne2 hm x y hx hy
 ·rcases List.mem_cons.1 h with h | h
  ·cases h
  rcases List.mem_cons.1 h with h | h
  ·cases h
  obtain ⟨x', h1, rfl⟩ := hoistM_sl h
  exact VR.unsOk hleaf (hr.sl t x' h1)
 ·rcases List.mem_cons.1 h with h | h
  ·cases h
  rcases List.mem_cons.1 h with h | h
  ·cases h
   refine ⟨n, _, hri, hc, ⟨b0, o0, none⟩, x0, ?_, g2, ⟨_, _, hrd, trivial, ⟨_, _, _, rfl⟩, by rw [hHd]; rfl⟩⟩
   rw [hHo hi']
   obtain ⟨a0, l0, c0, q1, q2⟩ := adr_some g1
   rw [q1] at g1 ⊢
   rw [← g1]
   simp [adr]
  obtain ⟨x', h1, rfl⟩ := hoistM_al h
  obtain ⟨n3, f3, p1, p2, A3, v3, p3, p4, p5⟩ := hr.al id c1 x' h1
  by_cases e : id = i
  ·subst e
   have := (hr.one _ _ _ _ _ hi' p1).2
   cases this
   exact ⟨n, _, hri, p2, A3, v3, by rw [hHo hi']; exact p3, p4, VR.unsOk hleaf p5⟩
  ·exact ⟨n3, f3, hro e p1, p2, A3, v3, by rw [hHo p1]; exact p3, p4, VR.unsOk hleaf p5⟩
 ·rcases hrt h1 with ⟨rfl, rfl, rfl⟩ | ⟨rfl, rfl, rfl⟩ | ⟨a1, a2, a3⟩
  ·simp only [updN, if_true] at hx
   exact hG.1 _ _ _ hi' (by simp) x y (g6 x y hx)
  ·simp only [updN, if_neg (Ne.symm hdi), if_true] at hx
   rcases hx with ⟨hx, _⟩ | hx
   ·exact hG.1 _ _ _ hi' (by simp) x y hx
   ·exact hx.elim
  ·simp only [updN, if_neg a1, if_neg a2] at hx
   exact hG.1 _ _ _ a3 h2 x y hx
 ·rcases hrt h2 with ⟨rfl, rfl, rfl⟩ | ⟨rfl, rfl, rfl⟩ | ⟨a1, a2, a3⟩
  ·omega
  ·rw [hHo hi']; exact hG.2 _ _ _ h1 hi'
  ·rw [hHo a3]; exact hG.2 _ _ _ h1 a3
open Go Go.RowKit
theorem pbQuo4 (k : Nat) (h : k < 2 ^ 63) : pureBin .quo (iv k) (iv 4) = some (iv ((k / 4 : Nat) : Int)) := by
 show some (Value.int .i64 (IntKind.wrap .i64 ((k : Int).tdiv 4))) = _
 rw [Int.tdiv_eq_ediv_of_nonneg (by omega), show ((k : Int) / 4) = ((k / 4 : Nat) : Int) by omega, IntWalk.i64_in _ (by omega)]
theorem pbRem4 (k : Nat) : pureBin .rem (iv k) (iv 4) = some (iv ((k % 4 : Nat) : Int)) := by
 show some (Value.int .i64 ((k : Int).tmod 4)) = _
 have : ((k : Int).tmod 4) = ((k % 4 : Nat) : Int) := by rw [Int.tmod_eq_emod_of_nonneg (by omega)]; omega
 rw [this]
open Go Go.RowKit
section
variable {P : Program} {N : Nat} {L L' : List E} {Q : Exit → List E → Prop} {ops : Array Oper} {rest : List Oper} {o : Oper} {qs pend todo : List Nat} {S : Array Bool}
theorem qq {d : Nat} {x : X} {gb : Bool} (h : Qt P o L x) (k : AWL P N ops rest Q (putL L d x)) (hw : wantL ops L o = some gb := by exact rfl) (hgb : gb = true := by exact rfl) (hd : o.dst = some d := by exact rfl) (hN : d < N := by decide) : AWL P N ops (o :: rest) Q L := AWL.q hw hgb hd hN h k
theorem nm (k : AWL P N ops rest Q L') (h : L = L' := by simp only [go_sem, Int.reduceToNat, Nat.reduceLT, reduceIte, Nat.reduceEqDiff, Nat.reduceAdd, Nat.reduceMul, Nat.reduceBEq, reduceCtorEq]; rfl) : AWL P N ops rest Q L := AWL.nrm h k
theorem nl (k : Q .normal L') (h : L = L' := by simp only [go_sem, Int.reduceToNat, Nat.reduceLT, reduceIte, Nat.reduceEqDiff, Nat.reduceAdd, Nat.reduceMul, Nat.reduceBEq, reduceCtorEq]; rfl) : AWL P N ops [] Q L := AWL.nilE h k
theorem na (k : AWA P N ops qs Q S pend todo L') (h : L = L' := by first | (simp only [go_sem, Int.reduceToNat, Nat.reduceLT, reduceIte, Nat.reduceEqDiff, Nat.reduceAdd, Nat.reduceMul, Nat.reduceBEq, reduceCtorEq]; rfl) | rfl) : AWA P N ops qs Q S pend todo L := AWA.nrm h k
theorem tk (i : Nat) {x : X} {d : Nat} {o : Oper} {gb : Bool} (ho : ops[i]? = some o) (h : Qt P o L x) (k : AWA P N ops qs Q (S.setIfInBounds i true) (i :: pend) [] (putL L d x)) (hd : o.dst = some d := by exact rfl) (hq' : qs.contains i = true := by exact rfl) (hr : (Region.ready .any ops S).contains i = true := by decide +kernel) (hw : wantL ops L o = some gb := by exact rfl) (hgb : gb = true := by exact rfl) : AWA P N ops qs Q S pend [] L :=
 AWA.take i ho hd hq' hr (.on hw hgb h) k
theorem tg (i : Nat) {x : X} {d : Nat} {o : Oper} {gb : Bool} (ho : ops[i]? = some o) (hgb : gb = true) (h : Qt P o L x) (k : AWA P N ops qs Q (S.setIfInBounds i true) (i :: pend) [] (putL L d x)) (hd : o.dst = some d := by exact rfl) (hq' : qs.contains i = true := by exact rfl) (hr : (Region.ready .any ops S).contains i = true := by decide +kernel) (hw : wantL ops L o = some gb := by exact rfl) : AWA P N ops qs Q S pend [] L :=
 AWA.take i ho hd hq' hr (.on hw hgb h) k
theorem tf (i : Nat) {d : Nat} {o : Oper} {gb : Bool} (hgb : gb = false) (k : AWA P N ops qs Q (S.setIfInBounds i true) (i :: pend) [] (putL L d (.v undef))) (ho : ops[i]? = some o := by exact rfl) (hd : o.dst = some d := by exact rfl) (hq' : qs.contains i = true := by exact rfl) (hr : (Region.ready .any ops S).contains i = true := by decide +kernel) (hw : wantL ops L o = some gb := by exact rfl) : AWA P N ops qs Q S pend [] L :=
 AWA.take i ho hd hq' hr (.off hw hgb) k
theorem nz (k : Q .normal L') (hr : Region.ready .any ops S = [] := by decide +kernel) (h : L = L' := by first | (simp only [go_sem, Int.reduceToNat, Nat.reduceLT, reduceIte, Nat.reduceEqDiff, Nat.reduceAdd, Nat.reduceMul, Nat.reduceBEq, reduceCtorEq]; rfl) | rfl) : AWA P N ops qs Q S pend [] L := AWA.nilE hr h k
theorem ss {gb : Bool} (k : AWL P N ops rest Q L') (h : Stp P N o L L' := by first | exact Stp.storeA rfl rfl rfl rfl (by decide) rfl | exact Stp.store rfl rfl (by simp) rfl rfl rfl (by decide) rfl) (hw : wantL ops L o = some gb := by exact rfl) (hgb : gb = true := by exact rfl) : AWL P N ops (o :: rest) Q L := AWL.step hw hgb h k
theorem sp {gb : Bool} (h : Stp P N o L L') (k : AWL P N ops rest Q L') (hw : wantL ops L o = some gb := by exact rfl) (hgb : gb = true := by exact rfl) : AWL P N ops (o :: rest) Q L := AWL.step hw hgb h k
theorem jd (h : Q .normal L) : AW P N .skip Q L := AW.skip h
end
section
variable {P : Program} {L : List E} {dst : Option Tmp} {ty : TypeId} {pos : String} {af : Array Edge} {g : Option (Nat × Bool)}
theorem fA {t : TypeId} {x : Operand} {i off id : Nat} {q : Path} {n k c : Nat} {m : M} {T0 : T} {len : Nat} {f : Nat → Nat → T} (hF : Fld P t i off) (hx : evX L x = .p id q n k c := by exact rfl) (hR : rootL L id = some (m, T0) := by exact rfl) (hT : T0.at q = .s n len f := by exact rfl) (hc : c + off < n := by decide) : Qt P ⟨dst, .fieldAddr t x i, ty, pos, af, g⟩ L (.p id q n k (c + off)) := Qt.fieldAddr hx hF hR hT hc
end
theorem cnd : (∀ (p : Prop) [Decidable p], (decide p = true) = p) ∧ (∀ (p : Prop) [Decidable p], (decide p = false) = ¬ p) ∧ (∀ a b : Int, ((a != b) = true) = ¬ (a = b)) ∧ (∀ a b : Int, ((a == b) = true) = (a = b)) ∧ (∀ a b : Int, ((a == b) = false) = ¬ (a = b)) ∧ (∀ a b : Int, ((a != b) = false) = (a = b)) ∧
    (∀ b : Bool, ((!b) = true) = (b = false)) ∧ (∀ b : Bool, ((!b) = false) = (b = true)) ∧ (∀ a b : Bool, ((a && b) = true) = (a = true ∧ b = true)) ∧ (∀ a b : Bool, ((a || b) = true) = (a = true ∨ b = true)) ∧ (∀ a b : Bool, ((a && b) = false) = (a = false ∨ b = false)) ∧ (∀ a b : Bool, ((a || b) = false) = (a = false ∧ b = false)) ∧
    (∀ a b : Int, (¬ a < b) = (b ≤ a)) ∧ (∀ a b : Int, (¬ a ≤ b) = (b < a)) ∧ (∀ n : Nat, (n : Int).toNat = n) := by
  refine ⟨?_, ?_, ?_, ?_, ?_, ?_, ?_, ?_, ?_, ?_, ?_, ?_, ?_, ?_, ?_⟩ <;> intros <;> first | (simp; done) | (rename_i a b; cases a <;> cases b <;> simp)
section
variable {P : Program} {N : Nat} {L : List E} {Q : Exit → List E → Prop} {ops : Array Oper} {rest : List Oper} {d : Nat} {ty : TypeId} {pos : String} {af : Array Edge} {g : Option (Nat × Bool)}
theorem cv {f : FuncId} {cal : Operand} {caps : List X} {args : Array Operand} {tys : Array TypeId} {xs : List X} {ρ : List E} {m : Nat} {r : Value} {gb : Bool} (hE : Ent P f) (hcal : evX L cal = .f f caps) (hq : roXs L (args.toList.map (evX L) ++ caps) base = (xs, ρ, m)) (hc : Con P f xs ρ fun x _ => x = .v r)
  (k : AWL P N ops rest Q (putL L d (.v r))) (hN : d < N := by decide) (hw : wantL ops L ⟨some d, .call { callee := .value cal, args := args, argTypes := tys }, ty, pos, af, g⟩ = some gb := by exact rfl) (hgb : gb = true := by exact rfl) : AWL P N ops (⟨some d, .call { callee := .value cal, args := args, argTypes := tys }, ty, pos, af, g⟩ :: rest) Q L :=
 AWL.step hw hgb (Stp.callV rfl hN hE hcal hq hc) k
end
open Go Go.RowKit
theorem sim_cells {α : Type} [En α] {l : List α} {n m : Nat} {f : Nat → Nat → T} (hn : n = En.n α) (hm : m = l.length) (h : ∀ k c, k < m → c < n → f k c = (En.cs (l.getD k En.dflt)).getD c .j) : (T.s n m f).sim (tr l) := by
 subst hn hm
 exact T.sim_of h
theorem sim_row1 {α : Type} [En α] {l : List α} {n m : Nat} {f : Nat → Nat → T} (h1 : En.n α = 1) (hn : n = En.n α) (hm : m = l.length) (h : ∀ k, k < m → f k 0 = (En.cs (l.getD k En.dflt)).getD 0 .j) : (T.s n m f).sim (tr l) :=
 sim_cells hn hm fun k c hk hc => by
  obtain rfl : c = 0 := by omega
  exact h k hk
open Go Go.RowKit
section
variable {P : Program} {N : Nat} {L L' : List E} {Q : Exit → List E → Prop} {ops : Array Oper} {l rest : List Oper} {o : Oper} {qs pend todo : List Nat} {S : Array Bool}
theorem Rf {id : Nat} {m : M} {t : T} (h : rootL L id = some (m, t)) : ∃ t0, rootL L id = some (m, t0) ∧ t0.sim t := ⟨t, h, T.sim_refl t⟩
theorem st1 {a b : X} (h : a = b := by simp only [slotL, reduceIte, Nat.reduceEqDiff]; first | rfl | (rw [IntWalk.i64_in _ (by omega)]; rfl)) : a = b := h
theorem rb {a b : Bool} (h : a = b) : retX [X.v (.bool a)] = X.v (.bool b) := by rw [h]; rfl
theorem AW.loopW {c : Code} {ι : Type} (J : ι → List E) (μ : ι → Nat) (i : ι) (hw : Weak N L (J i)) (h : ∀ i, AW P N c (thenQ (fun L => ∃ i', Weak N L (J i') ∧ μ i' < μ i) Q) (J i)) : AW P N (.loop c) Q L := AW.weak hw (AW.loop J μ i h)
theorem qg {d : Nat} {x : X} {gb : Bool} (hgb : gb = true) (h : Qt P o L x) (k : AWL P N ops rest Q (putL L d x)) (hw : wantL ops L o = some gb := by exact rfl) (hd : o.dst = some d := by exact rfl) (hN : d < N := by decide) : AWL P N ops (o :: rest) Q L := AWL.q hw hgb hd hN h k
theorem og {d : Nat} {gb : Bool} (hgb : gb = false) (k : AWL P N ops rest Q (putL L d (.v undef))) (hw : wantL ops L o = some gb := by exact rfl) (hd : o.dst = some d := by exact rfl) (hN : d < N := by decide) : AWL P N ops (o :: rest) Q L := AWL.out hw hgb hd hN k
theorem wj (d : Nat) (ds : List Nat) {v v' : Value} {LB : List E} (e : v = v') (hB : VM.dropS L ds = LB) (K : AWL P N ops l Q (putL LB d (.v v'))) (h : slotL L d = .v v := by exact rfl) : AWL P N ops l Q L := AWL.weak (Weak.join h e hB) K
theorem a1 (j : Nat) {L1 : List E} {gb : Bool} (pend' D : List Nat) (ho : ops[j]? = some o) (hgb : gb = true) (h : Stp P N o L L1) (k : AWA P N ops qs Q (S.setIfInBounds j true) pend' pend' L1) (hr : Region.ready .any ops S = [j] := by decide +kernel) (hw : wantL ops L o = some gb := by exact rfl)
  (hD : chainB ops [j] D = true := by decide +kernel) (hp : (pend.all fun i => pend'.contains i || D.contains i) = true := by decide +kernel) (hp' : (pend'.all fun i => pend.contains i) = true := by decide +kernel) : AWA P N ops qs Q S pend [] L := AWA.one j pend' D hr ho hw hgb hD hp hp' h k
theorem o1 (j : Nat) {d : Nat} {gb : Bool} (pend' D : List Nat) (ho : ops[j]? = some o) (hgb : gb = false) (k : AWA P N ops qs Q (S.setIfInBounds j true) pend' pend' (putL L d (.v undef))) (hr : Region.ready .any ops S = [j] := by decide +kernel) (hw : wantL ops L o = some gb := by exact rfl)
  (hD : chainB ops [j] D = true := by decide +kernel) (hp : (pend.all fun i => pend'.contains i || D.contains i) = true := by decide +kernel) (hp' : (pend'.all fun i => pend.contains i) = true := by decide +kernel) (hd : o.dst = some d := by exact rfl) (hN : d < N := by decide) : AWA P N ops qs Q S pend [] L := AWA.oneOff j pend' D hr ho hw hgb hD hp hp' hd hN k
end
open Go Go.RowKit Go.Sort
theorem own_one {w : World} {t : T} {F : FP} {v : Value} (h : Own w t F v) {w' : World} : Own w' .j (fun _ _ => False) v := ⟨h.one, fun _ _ h => h⟩
open Go Go.RowKit Go.Sort Go.Shelf Go.Proofs
open Go Go.RowKit Go.Sort Go.Shelf Go.Proofs
open Go Go.RowKit
def onlyV : List X → Bool
 | [] => true
 | .v _ :: r => onlyV r
 | _ => false
theorem onlyV_ok {R R' : RT} {H H' : Nat → Value} {w : World} : ∀ {xs : List X} {vs : List Value}, onlyV xs = true → VRs R H w xs vs → VRs R' H' w xs vs
 | [], [], _, _ => trivial
 | .v x :: xs, v :: vs, h, ⟨h1, h2⟩ => ⟨h1, onlyV_ok (xs := xs) h h2⟩
 | _ :: _, [], _, h => h.elim
 | [], _ :: _, _, h => h.elim
 | .j :: _, _ :: _, h, _ => by cases h
 | .c :: _, _ :: _, h, _ => by cases h
 | .p .. :: _, _ :: _, h, _ => by cases h
 | .h .. :: _, _ :: _, h, _ => by cases h
 | .a .. :: _, _ :: _, h, _ => by cases h
 | .g _ :: _, _ :: _, h, _ => by cases h
 | .t _ :: _, _ :: _, h, _ => by cases h
 | .f .. :: _, _ :: _, h, _ => by cases h
section
variable {P : Program} {N : Nat} {L : List E} {dst : Option Tmp} {ty : TypeId} {pos : String} {af : Array Edge} {g : Option (Nat × Bool)} {d : Nat}
def alC (al : Bool) (i cd : Nat) (L : List E) : List E := if al = true then .al i 0 (.h cd []) :: L else L
end
section
variable {P : Program} {N : Nat} {Q : Exit → List E → Prop} {L : List E} {ops : Array Oper} {rest : List Oper} {o : Oper} {K : List E → Prop}
variable {qs pend todo : List Nat} {S : Array Bool}
end
def curF (i h : Int) : Nat → Nat → T := fun _ c => match c with | 0 => .j | 1 => .v (iv i) | 2 => .v (iv h) | _ => .j
theorem curF0 (i h : Int) (k : Nat) : curF i h k 0 = .j := rfl
theorem curF1 (i h : Int) (k : Nat) : curF i h k 1 = .v (iv i) := rfl
theorem curF2 (i h : Int) (k : Nat) : curF i h k 2 = .v (iv h) := rfl
attribute [go_sem] curF0 curF1 curF2 alC repR
open Go Go.RowKit
def frzL (id : Nat) : List E → List E
 | [] => []
 | .rt i m t :: L => if i = id then .rt i .ro t :: frzL id L else .rt i m t :: frzL id L
 | .sl s x :: L => .sl s x :: frzL id L
 | .al i c x :: L => .al i c x :: frzL id L
attribute [go_sem] frzL
theorem rts_frzL {id : Nat} : ∀ {L : List E} {i : Nat} {m : M} {t : T}, rts (frzL id L) i m t ↔ (i = id ∧ m = .ro ∧ ∃ m0, rts L id m0 t) ∨ (i ≠ id ∧ rts L i m t)
 | [], i, m, t => by simp [frzL, rts]
 | .sl s x :: L, i, m, t => by
  have := rts_frzL (id := id) (L := L) (i := i) (m := m) (t := t)
  simp only [rts, frzL, List.mem_cons, reduceCtorEq, false_or] at this ⊢
  exact this
 | .al s c x :: L, i, m, t => by
  have := rts_frzL (id := id) (L := L) (i := i) (m := m) (t := t)
  simp only [rts, frzL, List.mem_cons, reduceCtorEq, false_or] at this ⊢
  exact this
 | .rt j m1 t1 :: L, i, m, t => by
  have := rts_frzL (id := id) (L := L) (i := i) (m := m) (t := t)
  simp only [rts, frzL] at this ⊢
  split
  ·rename_i e
   subst e
   simp only [List.mem_cons, E.rt.injEq, this]
   constructor
   ·rintro (⟨rfl, rfl, rfl⟩ | ⟨rfl, rfl, m0, h⟩ | ⟨h1, h2⟩)
    ·exact .inl ⟨rfl, rfl, m1, .inl ⟨by trivial, rfl, rfl⟩⟩
    ·exact .inl ⟨rfl, rfl, m0, .inr h⟩
    ·exact .inr ⟨h1, .inr h2⟩
   ·rintro (⟨rfl, rfl, m0, ⟨_, rfl, rfl⟩ | h⟩ | ⟨h1, ⟨e, _⟩ | h2⟩)
    ·exact .inl ⟨rfl, rfl, rfl⟩
    ·exact .inr (.inl ⟨rfl, rfl, m0, h⟩)
    ·exact absurd e h1
    ·exact .inr (.inr ⟨h1, h2⟩)
  ·rename_i e
   simp only [List.mem_cons, E.rt.injEq, this]
   constructor
   ·rintro (⟨rfl, rfl, rfl⟩ | ⟨rfl, rfl, m0, h⟩ | ⟨h1, h2⟩)
    ·exact .inr ⟨e, .inl ⟨rfl, rfl, rfl⟩⟩
    ·exact .inl ⟨rfl, rfl, m0, .inr h⟩
    ·exact .inr ⟨h1, .inr h2⟩
   ·rintro (⟨rfl, rfl, m0, ⟨e', _⟩ | h⟩ | ⟨h1, ⟨rfl, rfl, rfl⟩ | h2⟩)
    ·exact absurd e'.symm e
    ·exact .inr (.inl ⟨rfl, rfl, m0, h⟩)
    ·exact .inl ⟨rfl, rfl, rfl⟩
    ·exact .inr (.inr ⟨h1, h2⟩)
theorem frzL_sl {id : Nat} {s : Nat} {x : X} : ∀ {L : List E}, E.sl s x ∈ frzL id L → E.sl s x ∈ L
 | .sl s' x' :: L, h => by
  rcases List.mem_cons.1 h with h | h
  ·rw [h]; exact List.mem_cons_self ..
  ·exact List.mem_cons_of_mem _ (frzL_sl h)
 | .al i c x' :: L, h => by
  rcases List.mem_cons.1 h with h | h
  ·cases h
  ·exact List.mem_cons_of_mem _ (frzL_sl h)
 | .rt i m t :: L, h => by
  simp only [frzL] at h
  split at h
  ·rcases List.mem_cons.1 h with h | h
   ·cases h
   ·exact List.mem_cons_of_mem _ (frzL_sl h)
  ·rcases List.mem_cons.1 h with h | h
   ·cases h
   ·exact List.mem_cons_of_mem _ (frzL_sl h)
theorem frzL_al {id : Nat} {s c : Nat} {x : X} : ∀ {L : List E}, E.al s c x ∈ frzL id L → E.al s c x ∈ L
 | .al s' c' x' :: L, h => by
  rcases List.mem_cons.1 h with h | h
  ·rw [h]; exact List.mem_cons_self ..
  ·exact List.mem_cons_of_mem _ (frzL_al h)
 | .sl i x' :: L, h => by
  rcases List.mem_cons.1 h with h | h
  ·cases h
  ·exact List.mem_cons_of_mem _ (frzL_al h)
 | .rt i m t :: L, h => by
  simp only [frzL] at h
  split at h
  ·rcases List.mem_cons.1 h with h | h
   ·cases h
   ·exact List.mem_cons_of_mem _ (frzL_al h)
  ·rcases List.mem_cons.1 h with h | h
   ·cases h
   ·exact List.mem_cons_of_mem _ (frzL_al h)
theorem Weak.frz {N : Nat} {L : List E} (id : Nat) {t : T} (hR : rootL L id = some (.row, t)) : Weak N L (frzL id L) := fun cx a w hs => by
 obtain ⟨H, G, hr, hG⟩ := hs.rp
 have h0 := rootL_mem hR
 have hrt : ∀ {i m t'}, rts (frzL id L) i m t' → (i = id ∧ m = .ro ∧ t' = t) ∨ (i ≠ id ∧ rts L i m t') := fun {i m t'} h => by
  rcases rts_frzL.1 h with ⟨rfl, rfl, m0, h1⟩ | h
  ·exact .inl ⟨rfl, rfl, ((hr.one _ _ _ _ _ h0 h1).2).symm⟩
  ·exact .inr h
 have hri : rts (frzL id L) id .ro t := rts_frzL.2 (.inl ⟨rfl, rfl, _, h0⟩)
 have hvr : ∀ {x v}, VR (rts L) H w x v → VR (rts (frzL id L)) H w x v := fun {x v} h => VR.leaves (C := fun _ => True) (fun x v hl _ h => by
  have hmv : ∀ {i m t'}, rts L i m t' → ∃ m', rts (frzL id L) i m' t' := fun {i m t'} h => by
   by_cases e : i = id
   ·subst e; obtain ⟨_, rfl⟩ := hr.one _ _ _ _ _ h0 h; exact ⟨_, hri⟩
   ·exact ⟨m, rts_frzL.2 (.inr ⟨e, h⟩)⟩
  cases x with
  | p i q n k c => obtain ⟨m, t', h1, h2⟩ := h; obtain ⟨m', h3⟩ := hmv h1; exact ⟨m', t', h3, h2⟩
  | h i q => obtain ⟨m, t', h1, h2⟩ := h; obtain ⟨m', h3⟩ := hmv h1; exact ⟨m', t', h3, h2⟩
  | a i q n lo len => obtain ⟨m, t', h1, h2⟩ := h; obtain ⟨m', h3⟩ := hmv h1; exact ⟨m', t', h3, h2⟩
  | _ => exact hl.elim) (X.all_true (fun _ => trivial) x) h
 refine ⟨hs.siz, hs.dfr, hs.chg, H, G, ⟨fun i m t' m' t'' h1 h2 => ?_, fun i m t' h1 h2 => ?_, fun i t' h => ?_, fun i t' h => ?_, fun i t' h => ?_, fun i m t' i' m' t'' h1 h2 hne hm x y => ?_, fun s x h => hvr (hr.sl s x (frzL_sl h)), fun i c x h => ?_⟩, fun i m t' h1 h2 x y hg => ?_, fun i m t' hb h => ?_⟩
 ·rcases hrt h1 with ⟨rfl, rfl, rfl⟩ | ⟨a1, a2⟩ <;> rcases hrt h2 with ⟨b1, b2, b3⟩ | ⟨b1, b2⟩
  ·exact ⟨b2.symm, b3.symm⟩
  ·exact absurd rfl b1
  ·exact absurd b1 a1
  ·exact hr.one _ _ _ _ _ a2 b2
 ·rcases hrt h1 with ⟨rfl, rfl, rfl⟩ | ⟨a1, a2⟩
  ·exact absurd rfl h2
  ·exact hr.own _ _ _ a2 h2
 ·rcases hrt h with ⟨rfl, _, rfl⟩ | ⟨a1, a2⟩
  ·exact (hr.own _ _ _ h0 (by simp)).rd
  ·exact hr.ro _ _ a2
 ·rcases hrt h with ⟨rfl, _, rfl⟩ | ⟨a1, a2⟩
  ·exact (hr.own _ _ _ h0 (by simp)).old
  ·exact hr.rold _ _ a2
 ·rcases hrt h with ⟨_, e, _⟩ | ⟨a1, a2⟩
  ·cases e
  ·exact hr.box _ _ a2
 ·rcases hrt h1 with ⟨rfl, rfl, rfl⟩ | ⟨a1, a2⟩
  ·exact absurd rfl hm
  ·rcases hrt h2 with ⟨rfl, rfl, rfl⟩ | ⟨b1, b2⟩
   ·exact hr.dis _ _ _ _ _ _ a2 h0 hne hm x y
   ·exact hr.dis _ _ _ _ _ _ a2 b2 hne hm x y
 ·obtain ⟨n, f, q1, q2, A, v, q3, q4, q5⟩ := hr.al i c x (frzL_al h)
  have hne : i ≠ id := fun e => by
   subst e
   obtain ⟨e, _⟩ := hr.one _ _ _ _ _ h0 q1
   cases e
  exact ⟨n, f, rts_frzL.2 (.inr ⟨hne, q1⟩), q2, A, v, q3, q4, hvr q5⟩
 ·rcases hrt h1 with ⟨rfl, rfl, rfl⟩ | ⟨a1, a2⟩
  ·exact absurd rfl h2
  ·exact hG.1 _ _ _ a2 h2 x y hg
 ·rcases hrt h with ⟨rfl, rfl, rfl⟩ | ⟨a1, a2⟩
  ·exact hG.2 _ _ _ hb h0
  ·exact hG.2 _ _ _ hb a2
open Go Go.RowKit
open Go Go.RowKit
section
variable {P : Program} {N : Nat} {L : List E} {dst : Option Tmp} {ty : TypeId} {pos : String} {af : Array Edge} {g : Option (Nat × Bool)} {d : Nat}
end
open Go Go.RowKit
section
variable {P : Program} {N : Nat} {L : List E} {dst : Option Tmp} {ty : TypeId} {pos : String} {af : Array Edge} {g : Option (Nat × Bool)} {d : Nat}
end
open Go Go.RowKit
open Go Go.RowKit
section
variable {w w' : World}
variable {L : List E} {val : Nat → Value} {H : Nat → Value} {G : Nat → FP} {P : Program} {N : Nat} {cx : Cx} {a : Act} {Q : Exit → List E → Prop}
end
section
variable {P : Program} {ops : Array Oper} {N : Nat} {L : List E}
end
open Go Go.RowKit
section
variable {P : Program} {N : Nat} {L : List E} {Q : Exit → List E → Prop}
end
open Go Go.RowKit
section
variable {P : Program} {N : Nat} {L : List E} {Q : Exit → List E → Prop}
def pickX : X → Nat → X
 | .g xs, i => xs.getD i .j
 | x, _ => x
def setX : X → Nat → X → X
 | .g xs, i, y => .g (xs.set i y)
 | _, _, y => y
end
open Go Go.RowKit
theorem box_set {n : Nat} {f : Nat → Nat → T} {y : T} : ∀ {q : Path}, q ≠ [] → ∃ f', (T.s n 1 f).set q y = .s n 1 f'
  | [], h => absurd rfl h
  | (_, _, _) :: _, _ => ⟨_, by simp only [T.set]; rfl⟩
section
variable {L : List E} {val : Nat → Value} {H : Nat → Value} {G : Nat → FP} {w : World}
end
section
variable {P : Program} {N : Nat} {L : List E} {dst : Option Tmp} {ty : TypeId} {pos : String} {af : Array Edge} {gd : Option (Nat × Bool)} {d : Nat}
end
open Go Go.RowKit Go.Sort
open Go Go.RowKit
section
variable {L : List E} {val : Nat → Value} {H : Nat → Value} {G : Nat → FP} {w w' : World}
theorem Rp.turnN (hr : Rp L val H G w) {id : Nat} {m : M} {t : T} (hm : m ≠ .ro) (hid : rts L id m t) {q : Path} (hq : Okp t q) {n l : Nat} {f : Nat → Nat → T} (ht : t.at q = .s n l f) :
  ∃ (hv : Value) (Gx : FP), VM.hd w (H id) q = some hv ∧ Own w (.s n l f) Gx hv ∧ (∀ a p, Gx a p → G id a p) ∧ ∀ {w' : World} {S : FP} {g : Nat → Nat → T} {Gy : FP}, Chg S w w' → (∀ a p, S a p → Gx a p) → Own w' (.s n l g) Gy hv → (∀ a p, Gy a p → Gx a p) →
   Rp (setWs [(0, id, q, .s n l f)] [(0, .s n l g)] L) val H (updN G id fun a p => (G id a p ∧ ¬ Gx a p) ∨ Gy a p) w' := by
 obtain ⟨hv, Gx, e1, e2, e3, e5, e4⟩ := (hr.own id m t hid hm).setN hq
 rw [ht] at e2
 refine ⟨hv, Gx, e1, e2, e3, fun {w' S g Gy} hC hS hy hGy => ?_⟩
 obtain ⟨k1, k2⟩ := e4 (w' := w') (S := S) (y := .s n l g) (Gy := Gy) hC (fun a p _ h => hS a p h) hy (fun a p h => .inl (hGy a p h))
 have hSo : ∀ {i m' t'}, i ≠ id → rts L i m' t' → ∀ a p, G i a p → ¬ S a p := fun {i m' t'} hne h a p hg hs => hr.dis _ _ _ _ _ _ hid h (Ne.symm hne) hm a p (e3 a p (hS a p hs)) hg
 have hfr : ∀ {i m' t'}, i ≠ id → rts L i m' t' → ∀ r, Okp t' r → VM.hd w' (H i) r = VM.hd w (H i) r := fun {i m' t'} hne h r hr' => hd_frame hC (hr.rd h) hr' (hSo hne h)
 have hf : ∀ i, wFind [(0, .s n l g)] [(0, id, q, .s n l f)] i = if i = id then some (q, .s n l g) else none := fun i => by
  simp only [wFind, lookW, Nat.beq_refl, if_true]
  by_cases e : i = id
  ·subst e; simp
  ·rw [if_neg e, if_neg fun h => e (Nat.eq_of_beq_eq_true h).symm]
 have hnw : ∀ i t0, newW [(0, id, q, .s n l f)] [(0, .s n l g)] i t0 = if i = id then t0.set q (.s n l g) else t0 := fun i t0 => by
  simp only [newW, hf]
  by_cases e : i = id
  ·simp [e]
  ·simp [e]
 have hrt : ∀ {i m' t'}, rts (setWs [(0, id, q, .s n l f)] [(0, .s n l g)] L) i m' t' → (i = id ∧ m' = m ∧ t' = t.set q (.s n l g)) ∨ (i ≠ id ∧ rts L i m' t') := fun {i m' t'} h => by
  obtain ⟨t0, h1, h2⟩ := rts_setWs.1 h
  rw [hnw] at h2
  by_cases e : i = id
  ·subst e
   obtain ⟨rfl, rfl⟩ := hr.one _ _ _ _ _ h1 hid
   rw [if_pos rfl] at h2
   exact .inl ⟨rfl, rfl, h2⟩
  ·rw [if_neg e] at h2
   exact .inr ⟨e, h2 ▸ h1⟩
 have hri : rts (setWs [(0, id, q, .s n l f)] [(0, .s n l g)] L) id m (t.set q (.s n l g)) := rts_setWs.2 ⟨t, hid, by rw [hnw, if_pos rfl]⟩
 have hro : ∀ {i m' t'}, i ≠ id → rts L i m' t' → rts (setWs [(0, id, q, .s n l f)] [(0, .s n l g)] L) i m' t' := fun {i m' t'} h1 h2 => rts_setWs.2 ⟨t', h2, by rw [hnw, if_neg h1]⟩
 have hGs : ∀ i a p, updN G id (fun a p => (G id a p ∧ ¬ Gx a p) ∨ Gy a p) i a p → G i a p := fun i a p h => by
  by_cases e : i = id
  ·subst e
   simp only [updN, if_true] at h
   rcases h with h | h
   ·exact h.1
   ·exact e3 a p (hGy a p h)
  ·simpa only [updN, if_neg e] using h
 have hbeh : ∀ r, keepP [(0, id, q, .s n l f)] [(0, .s n l g)] id r = true ∨ r.length = q.length → ¬ beh q r := fun r h ⟨a, s, e⟩ => by
  subst e
  rcases h with h | h
  ·simp only [keepP, hf, if_true, pre_app, Bool.not_true] at h
   cases h
  ·simp at h
 have hleaf : ∀ {x v}, keepX [(0, id, q, .s n l f)] [(0, .s n l g)] x = true → VR (rts L) H w x v → VR (rts (setWs [(0, id, q, .s n l f)] [(0, .s n l g)] L)) H w' x v := fun hx h =>
  VR.leaves (C := fun x => keepX [(0, id, q, .s n l f)] [(0, .s n l g)] x = true) (fun x v hl hx h => by
   cases x with
   | p i q' n' k' c' =>
    obtain ⟨m', t', h1, h2, ⟨l', f', h3, h4, h5⟩, h6⟩ := h
    by_cases e : i = id
    ·subst e
     obtain ⟨rfl, rfl⟩ := hr.one _ _ _ _ _ h1 hid
     have hb : ¬ beh q q' := by
      simp only [keepX, Bool.or_eq_true] at hx
      refine hbeh q' (hx.imp_right fun hx => ?_)
      simp only [keepN, hf, if_true, Bool.and_eq_true] at hx
      exact Nat.eq_of_beq_eq_true hx.1
     obtain ⟨c1, c2⟩ := set_at (y := .s n l g) hq hb h2
     rcases c2 with ⟨rfl, c3⟩ | ⟨_, c3⟩
     ·rw [ht] at h3; cases h3
      exact ⟨_, _, hri, c1, ⟨_, _, c3, h4, h5⟩, by rw [k2 _ hb h2]; exact h6⟩
     ·obtain ⟨f2, c4⟩ := c3 h3
      exact ⟨_, _, hri, c1, ⟨_, _, c4, h4, h5⟩, by rw [k2 _ hb h2]; exact h6⟩
    ·exact ⟨m', t', hro e h1, h2, ⟨l', f', h3, h4, h5⟩, by rw [hfr e h1 _ h2]; exact h6⟩
   | h i q' =>
    obtain ⟨m', t', h1, h2, ⟨n', l', f', h3⟩, h6⟩ := h
    by_cases e : i = id
    ·subst e
     obtain ⟨rfl, rfl⟩ := hr.one _ _ _ _ _ h1 hid
     have hb : ¬ beh q q' := by
      simp only [keepX, Bool.or_eq_true, hf, if_true, Bool.and_eq_true] at hx
      exact hbeh q' (hx.imp_right fun hx => Nat.eq_of_beq_eq_true hx.1)
     obtain ⟨c1, c2⟩ := set_at (y := .s n l g) hq hb h2
     rcases c2 with ⟨rfl, c3⟩ | ⟨_, c3⟩
     ·exact ⟨_, _, hri, c1, ⟨_, _, _, c3⟩, by rw [k2 _ hb h2]; exact h6⟩
     ·obtain ⟨f2, c4⟩ := c3 h3
      exact ⟨_, _, hri, c1, ⟨_, _, _, c4⟩, by rw [k2 _ hb h2]; exact h6⟩
    ·exact ⟨m', t', hro e h1, h2, ⟨n', l', f', h3⟩, by rw [hfr e h1 _ h2]; exact h6⟩
   | a i q' n' lo ln =>
    obtain ⟨m', t', h1, h2, ⟨l', f', h3, h4⟩, h6⟩ := h
    by_cases e : i = id
    ·subst e
     obtain ⟨rfl, rfl⟩ := hr.one _ _ _ _ _ h1 hid
     have hb := hbeh q' (.inl hx)
     obtain ⟨c1, c2⟩ := set_at (y := .s n l g) hq hb h2
     rcases c2 with ⟨rfl, c3⟩ | ⟨_, c3⟩
     ·rw [ht] at h3; cases h3
      exact ⟨_, _, hri, c1, ⟨_, _, c3, h4⟩, by rw [k2 _ hb h2]; exact h6⟩
     ·obtain ⟨f2, c4⟩ := c3 h3
      exact ⟨_, _, hri, c1, ⟨_, _, c4, h4⟩, by rw [k2 _ hb h2]; exact h6⟩
    ·exact ⟨m', t', hro e h1, h2, ⟨l', f', h3, h4⟩, by rw [hfr e h1 _ h2]; exact h6⟩
   | _ => exact hl.elim) (keepX_all hx) h
 refine ⟨fun i m1 t1 m2 t2 h1 h2 => ?_, fun i m1 t1 h1 h2 => ?_, fun i t1 h1 => ?_, fun i t1 h1 x y hx => ?_, fun i t1 h1 => ?_, fun i m1 t1 i' m2 t2 h1 h2 hne hm1 x y hx hy => ?_, fun s x h => ?_, fun i c x h => ?_⟩
 ·rcases hrt h1 with ⟨rfl, rfl, rfl⟩ | ⟨a1, b1⟩ <;> rcases hrt h2 with ⟨c1, c2, c3⟩ | ⟨c1, c2⟩
  ·exact ⟨c2.symm, c3.symm⟩
  ·exact absurd rfl c1
  ·exact absurd c1 a1
  ·exact hr.one _ _ _ _ _ b1 c2
 ·rcases hrt h1 with ⟨rfl, rfl, rfl⟩ | ⟨a1, b1⟩
  ·simpa only [updN, if_true] using k1
  ·simp only [updN, if_neg a1]; exact (hr.own _ _ _ b1 h2).frame hC (hSo a1 b1)
 ·rcases hrt h1 with ⟨rfl, e, rfl⟩ | ⟨a1, b1⟩
  ·exact absurd e.symm hm
  ·simp only [updN, if_neg a1]; exact (hr.ro _ _ b1).frame hC (hSo a1 b1)
 ·rcases hrt h1 with ⟨rfl, e, rfl⟩ | ⟨a1, b1⟩
  ·exact absurd e.symm hm
  ·simp only [updN, if_neg a1] at hx; exact Nat.lt_of_lt_of_le (hr.rold _ _ b1 x y hx) hC.size
 ·rcases hrt h1 with ⟨rfl, rfl, rfl⟩ | ⟨a1, b1⟩
  ·obtain ⟨n0, f0, rfl⟩ := hr.box _ _ hid
   by_cases hq0 : q = []
   ·subst hq0
    simp only [T.at] at ht
    cases ht
    exact ⟨_, _, by simp only [T.set]; rfl⟩
   ·obtain ⟨f', hf'⟩ := box_set (n := n0) (f := f0) (y := .s n l g) hq0
    exact ⟨_, _, hf'⟩
  ·exact hr.box _ _ b1
 ·have hx' := hGs _ _ _ hx
  have hy' := hGs _ _ _ hy
  rcases hrt h1 with ⟨rfl, rfl, rfl⟩ | ⟨a1, b1⟩ <;> rcases hrt h2 with ⟨rfl, rfl, rfl⟩ | ⟨c1, c2⟩
  ·exact hne rfl
  ·exact hr.dis _ _ _ _ _ _ hid c2 hne hm1 x y hx' hy'
  ·exact hr.dis _ _ _ _ _ _ b1 hid hne hm1 x y hx' hy'
  ·exact hr.dis _ _ _ _ _ _ b1 c2 hne hm1 x y hx' hy'
 ·obtain ⟨g1, g2⟩ := setWs_sl h
  exact hleaf g2 (hr.sl s x g1)
 ·obtain ⟨g1, g2, g3⟩ := setWs_al h
  obtain ⟨n0, f0, h1, h2, A, v, h3, h4, h5⟩ := hr.al i c x g1
  by_cases e : i = id
  ·subst e
   obtain ⟨rfl, rfl⟩ := hr.one _ _ _ _ _ h1 hid
   by_cases hq0 : q = []
   ·subst hq0
    simp only [keepP, hf, if_true, pre, Bool.not_true] at g3
    cases g3
   ·obtain ⟨f', hf'⟩ := box_set (n := n0) (f := f0) (y := .s n l g) hq0
    obtain ⟨b0, o0, rfl, hGb⟩ := box_cell hr h1 h2 h3
    have hA : adr (H i) n0 0 c = some ⟨b0, o0, none⟩ := by
     obtain ⟨a1, l1, c1, q1, q2⟩ := adr_some h3
     rw [q1]; simp only [adr, Option.some.injEq]; rw [q2]; simp
    refine ⟨n0, f', hf' ▸ hri, h2, _, v, h3, hC.cell h4 fun hs => e5 hq0 _ _ _ rfl 0 c b0 o0 (by omega) h2 hA (hS _ _ hs), hleaf g2 h5⟩
  ·obtain ⟨b0, o0, rfl, hGb⟩ := box_cell hr h1 h2 h3
   exact ⟨n0, f0, hro e h1, h2, _, v, h3, hC.cell h4 (hSo e h1 _ _ hGb), hleaf g2 h5⟩
end
section
variable {P : Program} {w : World}
theorem run_copy_n (dT sT ty elem : TypeId) (b o dLen dCap : Nat) (a : Addr) (sLen sCap k : Nat) (cs : List Value) (hu : P.underlying dT = some (.slice elem)) (hs : ∀ w, (sizeOf elem).run P w = .ok k w) (hn : cs.length = Nat.min sLen dLen * k)
  (hsrc : ∀ j v, cs[j]? = some v → w.cell? (a.add j) = some v) (hc : ∀ j, j < cs.length → (w.cell? ⟨b, o + j, none⟩).isSome = true) (hf : ∀ j, j < cs.length → w.frozen? ⟨b, o + j, none⟩ = false) (h1 : ∀ v ∈ cs, v.oneCell' = true) :
  (Builtin.copy_ #[dT, sT] ty #[.slice (some ⟨b, o, none⟩) dLen dCap, .slice (some a) sLen sCap]).run P w = .ok (goInt (Nat.min sLen dLen)) (w.setCells b o cs) := by
 have hl := run_loadCells_list (P := P) w a cs hsrc
 have hst := run_storeCells_cells (P := P) b o cs 0 w (by simpa using hc) (by simpa using hf) h1
 simp [Builtin.copy_, run_underlying hu, Builtin.lenOf, Builtin.firstCells, hs, ← hn, hl, hst]
end
open Go Go.RowKit
def viewX (L : List E) : X → Option (Nat × Path × Nat × Nat)
 | .a id q _ lo m => some (id, q, lo, m)
 | .h id q => match rootL L id with
  | some (_, t) => match t.at q with
   | .s _ len _ => some (id, q, 0, len)
   | _ => none
  | none => none
 | _ => none
def copyT (n l lo m : Nat) (f g : Nat → Nat → T) : T := .s n l fun k c => if lo ≤ k ∧ k < lo + m then flatT (g (k - lo) c) else f k c
section
variable {P : Program} {N : Nat} {L : List E} {dst : Option Tmp} {ty : TypeId} {pos : String} {af : Array Edge} {gd : Option (Nat × Bool)} {d : Nat}
theorem viewX_ok {val : Nat → Value} {H : Nat → Value} {G : Nat → FP} {w : World} (hr : Rp L val H G w) {x : X} {v : Value} (hv : VR (rts L) H w x v) {id lo m n l : Nat} {q : Path} {f : Nat → Nat → T} {mm : M} {t0 : T} (h : viewX L x = some (id, q, lo, m)) (hR : rootL L id = some (mm, t0)) (hT : t0.at q = .s n l f) (hxn : ∀ i q' n' lo' m', x = .a i q' n' lo' m' → n' = n) (hm : 0 < m) :
  Okp t0 q ∧ ∃ hv, VM.hd w (H id) q = some hv ∧ ∃ b off l0 c0 cap, hv = .slice (some ⟨b, off, none⟩) l0 c0 ∧ v = .slice (some ⟨b, off + lo * n, none⟩) m cap ∧ m ≤ cap ∧ lo + m ≤ l := by
 cases x with
 | h i q' =>
  simp only [viewX] at h
  split at h
  ·rename_i m1 t1 hR1
   split at h
   ·rename_i n1 l1 f1 hT1
    cases h
    obtain ⟨m', t', g1, g2, g3, g4⟩ := hv
    obtain ⟨rfl, rfl⟩ := hr.one _ _ _ _ _ g1 (rootL_mem hR)
    rw [hR] at hR1; cases hR1
    rw [hT] at hT1; cases hT1
    obtain ⟨hv', F, e1, e2⟩ := hr.node g1 g2
    rw [g4] at e1; cases e1
    rw [hT] at e2
    obtain ⟨hn, a, cap, h0, hl, hmx, b, off, V, G', h1, _⟩ := e2
    have := h1 hm
    subst this
    exact ⟨g2, _, g4, b, off, _, _, cap, h0, by rw [h0]; simp, hl, by omega⟩
   ·cases h
  ·cases h
 | a i q' n' lo' m' =>
  simp only [viewX, Option.some.injEq, Prod.mk.injEq] at h
  obtain ⟨rfl, rfl, rfl, rfl⟩ := h
  obtain rfl := hxn _ _ _ _ _ rfl
  obtain ⟨m1, t', g1, g2, ⟨l2, f2, g3, g4⟩, hv', g5, ad, cap, g6, g7, g8, g9, _, g11⟩ := hv
  obtain ⟨rfl, rfl⟩ := hr.one _ _ _ _ _ g1 (rootL_mem hR)
  rw [hT] at g3; cases g3
  obtain ⟨hv2, F, e1, e2⟩ := hr.node g1 g2
  rw [g5] at e1; cases e1
  rw [hT] at e2
  obtain ⟨hn, a, cap0, h0, hl, hmx, b, off, V, G', h1, _⟩ := e2
  have := h1 (by omega)
  subst this
  have := g11 b off _ _ h0 (by omega)
  subst this
  exact ⟨g2, _, g5, b, off, _, _, cap, h0, g6, g7, g4⟩
 | _ => simp [viewX] at h
theorem run_copyOp {t tx : TypeId} {s x : Operand} {a : Act} {w w' : World} {v : Value} (h : (Builtin.copy_ #[t, tx] ty #[a.eval s, a.eval x]).run P w = .ok v w') :
  (execOp a.eval ⟨dst, .call { callee := .builtin .copy, args := #[s, x], argTypes := #[t, tx] }, ty, pos, af, gd⟩).run P w = .ok (.value v) w' := by
 simp [execOp, resolve, invoke, builtin, h]
theorem Stp.copy {t tx e : TypeId} {x y : Operand} {zt : List T} [hS : SlI P t e] [hT : TyI P e zt] {id lo m1 m2 l : Nat} {q : Path} {f g : Nat → Nat → T} {mm : M} {t0 : T} (hd : dst = some d) (hN : d < N)
  (hx : viewX L (evX L x) = some (id, q, lo, m1)) (hR : rootL L id = some (mm, t0)) (hmm : mm ≠ .ro) (hT0 : t0.at q = .s zt.length l f) (hxn : ∀ i q' n' lo' m', evX L x = .a i q' n' lo' m' → n' = zt.length) (hy : rowsX L (evX L y) = some (zt.length, m2, g)) (h1 : 0 < m1) (h2 : 0 < m2) :
  Stp P N ⟨dst, .call { callee := .builtin .copy, args := #[x, y], argTypes := #[t, tx] }, ty, pos, af, gd⟩ L (putL (setWs [(0, id, q, .s zt.length l f)] [(0, copyT zt.length l lo (min m2 m1) f g)] L) d (.v (iv (min m2 m1 : Nat)))) :=
 Stp.op (fun cx a w hs => by
  obtain ⟨H, G, hr, hG⟩ := hs.rp
  obtain ⟨hq, hv, e1, b, off, l0, c0, cap, e2, e3, e4, e5⟩ := viewX_ok hr (ev_ok hr x) hx hR hT0 hxn h1
  obtain ⟨hv2, Gx, k1, k2, k3, k4⟩ := hr.turnN hmm (rootL_mem hR) hq hT0
  rw [e1] at k1; cases k1
  obtain ⟨hn, a', cap0, q0, ql, qm, b', off', V, Gk, w1, w2, w3, w4, w5⟩ := k2
  rw [e2] at q0; cases q0
  obtain ⟨q1, sz, q2, q3⟩ := w1 (by omega)
  cases q1
  obtain ⟨Fy, hRd⟩ := rowsX_ok hr (ev_ok hr y) hy
  obtain ⟨_, a2, cap2, r0, rl, rm, b2, off2, V2, G2, r1, r2⟩ := hRd
  have r1' := r1 h2
  subst r1'
  have hpos := hT.pos
  have hmn1 : min m2 m1 ≤ m1 := Nat.min_le_right _ _
  have hmn2 : min m2 m1 ≤ m2 := Nat.min_le_left _ _
  obtain ⟨M, hM⟩ : ∃ M, M = min m2 m1 := ⟨_, rfl⟩
  rw [← hM] at hmn1 hmn2
  obtain ⟨cs, hcs⟩ : ∃ cs, cs = (List.range (M * zt.length)).map fun j => V2 (j / zt.length) (j % zt.length) := ⟨_, rfl⟩
  have hcl : cs.length = M * zt.length := by rw [hcs]; simp
  have hcg : ∀ j u, cs[j]? = some u → j < M * zt.length ∧ u = V2 (j / zt.length) (j % zt.length) := fun j u hj => by
   rw [hcs, List.getElem?_map] at hj
   have hlt : j < M * zt.length := by
    rcases Nat.lt_or_ge j (M * zt.length) with h | h
    ·exact h
    ·rw [List.getElem?_eq_none (by simpa using h)] at hj; cases hj
   rw [List.getElem?_range hlt] at hj
   simp only [Option.map_some, Option.some.injEq] at hj
   exact ⟨hlt, hj.symm⟩
  have hb : lo * zt.length + M * zt.length ≤ c0 * zt.length := by rw [← Nat.add_mul]; exact Nat.mul_le_mul_right _ (by omega)
  have hrun := run_copy_n (P := P) (w := w) t tx ty e b (off + lo * zt.length) m1 cap ⟨b2, off2, none⟩ m2 cap2 zt.length cs hS.sl hT.size (by rw [hcl, hM]) (fun j v hj => by
    obtain ⟨hlt, rfl⟩ := hcg j v hj
    rw [Addr.add_lit]
    have := (r2 (j / zt.length) (j % zt.length) (by have := (Nat.div_lt_iff_lt_mul hpos).2 hlt; omega) (Nat.mod_lt _ hpos)).1
    rwa [show j / zt.length * zt.length + j % zt.length = j by rw [Nat.mul_comm]; exact Nat.div_add_mod j _] at this)
   (fun j hj => q2.cell (by omega)) (fun j _ => q2.frozen _) (fun v hv => by
    obtain ⟨j, hj⟩ := List.getElem?_of_mem hv
    obtain ⟨hlt, rfl⟩ := hcg j v hj
    exact (r2 (j / zt.length) (j % zt.length) (by have := (Nat.div_lt_iff_lt_mul hpos).2 hlt; omega) (Nat.mod_lt _ hpos)).2.1.flat.one)
  rw [← e3, ← r0, show Nat.min m2 m1 = M from hM.symm] at hrun
  have hC : Chg (blkFP b) w (w.setCells b (off + lo * zt.length) cs) := Chg.setCells fun _ _ => rfl
  have hbx : ∀ x y, blkFP b x y → Gx x y := fun x y h => (w5 x y).2 (.inl ⟨by omega, h⟩)
  have hO : Own (w.setCells b (off + lo * zt.length) cs) (copyT zt.length l lo M f g) (fun x y => (0 < c0 ∧ blkFP b x y) ∨ ∃ k c, k < l ∧ c < zt.length ∧ (if lo ≤ k ∧ k < lo + M then (fun _ _ => False : FP) else Gk k c) x y) hv := by
   rw [e2]
   refine ⟨hn, _, c0, rfl, ql, qm, b, off, fun k c => if lo ≤ k ∧ k < lo + M then V2 (k - lo) c else V k c, fun k c => if lo ≤ k ∧ k < lo + M then (fun _ _ => False : FP) else Gk k c, fun _ => ⟨rfl, sz, q2.chg hC, q3⟩, fun k c hk hc => ?_, fun k c k' c' hne hk hc hk' hc' x y h h' => ?_, fun k c hk hc x y h => ?_, fun x y => Iff.rfl⟩
   ·by_cases hin : lo ≤ k ∧ k < lo + M
    ·simp only [if_pos hin]
     have hlt := row_lt (Nat.le_refl M) (show k - lo < M by omega) hc
     refine ⟨?_, ((r2 (k - lo) c (by omega) hc).2.1.flat).frame hC fun _ _ h => h.elim⟩
     have := World.cell?_setCells_in b cs (off + lo * zt.length) w (fun j hj => q2.cell (by omega)) ((k - lo) * zt.length + c) (by omega)
     have he : off + lo * zt.length + ((k - lo) * zt.length + c) = off + (k * zt.length + c) := by
      have : k * zt.length = lo * zt.length + (k - lo) * zt.length := by rw [← Nat.add_mul]; congr 1; omega
      omega
     rw [he] at this
     rw [this]
     have h3 : cs[(k - lo) * zt.length + c]? = some (cs[(k - lo) * zt.length + c]'(by omega)) := List.getElem?_eq_getElem (by omega)
     obtain ⟨_, h4⟩ := hcg _ _ h3
     rw [h4, show ((k - lo) * zt.length + c) / zt.length = k - lo by rw [Nat.mul_comm, Nat.mul_add_div hpos, Nat.div_eq_of_lt hc]; rfl, show ((k - lo) * zt.length + c) % zt.length = c by rw [Nat.mul_comm, Nat.mul_add_mod, Nat.mod_eq_of_lt hc]]
    ·simp only [if_neg hin]
     refine ⟨?_, (w2 k c hk hc).2.frame hC fun x y hg hx => w4 k c hk hc x y hg hx⟩
     rw [World.cell?_setCells_out b cs (off + lo * zt.length) w _ fun _ _ => ?_]
     ·exact (w2 k c hk hc).1
     ·show off + (k * zt.length + c) < off + lo * zt.length ∨ off + lo * zt.length + cs.length ≤ off + (k * zt.length + c)
      rcases Nat.lt_or_ge k lo with h | h
      ·left
       have := row_lt (Nat.le_refl lo) h hc
       omega
      ·right
       have : lo * zt.length + M * zt.length ≤ k * zt.length := by rw [← Nat.add_mul]; exact Nat.mul_le_mul_right _ (by omega)
       omega
   ·by_cases hin : lo ≤ k ∧ k < lo + M
    ·simp only [if_pos hin] at h
    ·by_cases hin' : lo ≤ k' ∧ k' < lo + M
     ·simp only [if_pos hin'] at h'
     ·simp only [if_neg hin] at h
      simp only [if_neg hin'] at h'
      exact w3 k c k' c' hne hk hc hk' hc' x y h h'
   ·by_cases hin : lo ≤ k ∧ k < lo + M
    ·simp only [if_pos hin] at h
    ·simp only [if_neg hin] at h
     exact w4 k c hk hc x y h
  have hGy : ∀ x y, ((0 < c0 ∧ blkFP b x y) ∨ ∃ k c, k < l ∧ c < zt.length ∧ (if lo ≤ k ∧ k < lo + M then (fun _ _ => False : FP) else Gk k c) x y) → Gx x y := fun x y h => by
   rcases h with h | ⟨k, c, hk, hc, h⟩
   ·exact (w5 x y).2 (.inl h)
   ·by_cases hin : lo ≤ k ∧ k < lo + M
    ·simp only [if_pos hin] at h
    ·simp only [if_neg hin] at h
     exact (w5 x y).2 (.inr ⟨k, c, hk, hc, h⟩)
  have r2' := k4 hC hbx hO hGy
  have hmem : ∀ i m2 t2, rts (setWs [(0, id, q, .s zt.length l f)] [(0, copyT zt.length l lo M f g)] L) i m2 t2 → ∃ t1, rts L i m2 t1 := fun i m2 t2 h => by
   obtain ⟨t1, h1, _⟩ := rts_setWs.1 h
   exact ⟨t1, h1⟩
  have hid := rootL_mem hR
  have hs' : Sat N cx (setWs [(0, id, q, .s zt.length l f)] [(0, copyT zt.length l lo M f g)] L) a (w.setCells b (off + lo * zt.length) cs) :=
   ⟨hs.siz, hs.dfr, hs.chg.step hC fun x y hx h => (hG.1 id _ _ hid hmm x y (k3 x y (hbx x y h))).resolve_right (by omega), H, _, r2', fun i m2 t2 h h2 x y h3 => by
    obtain ⟨t1, h1⟩ := hmem _ _ _ h
    by_cases e : i = id
    ·subst e
     simp only [updN, if_true] at h3
     rcases h3 with h3 | h3
     ·exact hG.1 _ _ _ h1 h2 x y h3.1
     ·exact hG.1 _ _ _ h1 h2 x y (k3 x y (hGy x y h3))
    ·simp only [updN, if_neg e] at h3
     exact hG.1 _ _ _ h1 h2 x y h3, fun i m2 t2 h0 h => by
    obtain ⟨t1, h1⟩ := hmem _ _ _ h
    exact hG.2 i m2 t1 h0 h1⟩
  rw [← hM]
  obtain ⟨H2, G2', hr2, hG2⟩ := hs'.rp
  refine ⟨_, _, run_copyOp hrun, ?_⟩
  rw [hd]
  exact hs'.put hr2 hG2 hN rfl)
end
open Go Go.RowKit
def mixF (old : Nat → Nat → T) (new : Nat → T) (k m : Nat) : Nat → Nat → T := fun k' c' => if k' = k ∧ c' < m then new c' else old k' c'
section
variable {old : Nat → Nat → T} {new : Nat → T} {k m n len : Nat}
theorem mixF_at {c : Nat} : mixF old new k m k c = if c < m then new c else old k c := by simp [mixF]
theorem mix_zero {f : Nat → Nat → T} : (T.s n len f).sim (T.s n len (mixF f new k 0)) := T.sim_of fun k' c' _ _ => by simp [mixF]
theorem mix_step {y : T} (h : y.sim (new m)) : (T.s n len (upd (mixF old new k m) k m y)).sim (T.s n len (mixF old new k (m + 1))) := ⟨_, rfl, fun k' c' _ _ => by
 simp only [upd, mixF]
 by_cases e : k' = k ∧ c' = m
 ·obtain ⟨rfl, rfl⟩ := e
  rw [if_pos ⟨rfl, rfl⟩, if_pos ⟨rfl, by omega⟩]
  exact h
 ·rw [if_neg e]
  by_cases e2 : k' = k ∧ c' < m
  ·rw [if_pos e2, if_pos ⟨e2.1, by omega⟩]; exact T.sim_refl _
  ·rw [if_neg e2, if_neg (by omega)]; exact T.sim_refl _⟩
end
def oldF {α : Type} [En α] (g h : Nat → α) (k : Nat) : Nat → Nat → T := fun j c => (En.cs (if j < k then g j else h j)).getD c .j
def newF {α : Type} [En α] (g : Nat → α) (k : Nat) : Nat → T := fun c => (En.cs (g k)).getD c .j
section
variable {α : Type} [En α] {g h : Nat → α} {k len : Nat}
theorem oldF_at {c : Nat} : oldF g h k k c = (En.cs (h k)).getD c .j := by simp [oldF]
theorem oldF_zero {l : List α} : (tr l).sim (T.s (En.n α) l.length (oldF g (fun j => l.getD j En.dflt) 0)) := T.sim_of fun i c _ _ => by simp [oldF]
theorem mix_next : (T.s (En.n α) len (mixF (oldF g h k) (newF g k) k (En.n α))).sim (T.s (En.n α) len (oldF g h (k + 1))) := T.sim_of fun i c _ hc => by
 by_cases e : i = k
 ·subst e
  rw [mixF_at, if_pos hc, oldF, if_pos (by omega)]; rfl
 ·have h1 : mixF (oldF g h k) (newF g k) k (En.n α) i c = oldF g h k i c := by simp [mixF, e]
  rw [h1]
  simp only [oldF]
  have : (if i < k + 1 then g i else h i) = if i < k then g i else h i := by
   by_cases h1 : i < k
   ·rw [if_pos h1, if_pos (by omega)]
   ·rw [if_neg h1, if_neg (by omega)]
  rw [this]
theorem oldF_full {β : Type} [Mk β] (l : List β) (k : Int) {j : Nat} {h : Nat → β} (hj : l.length ≤ j) : (T.s (En.n β) l.length (oldF (mkF l k) h j)).sim (tr (mkL l k)) := trMix_mk l k hj
end
theorem isS_j : T.isS .j = false := rfl
attribute [go_sem] mixF_at oldF_at keepN isS_j Bool.not_false Bool.not_true
open Go Go.RowKit Go.Sort
open Go Go.RowKit Go.Sort
open Go Go.RowKit
section
variable {N : Nat} {L : List E}
theorem rts_mov {a b i : Nat} {m : M} {t : T} : rts (.rt a .row .j :: renL a b L) i m t ↔ (i = a ∧ m = .row ∧ t = .j) ∨ ∃ i0, rts L i0 m t ∧ rn1 a b i0 = i := by
 constructor
 ·intro h
  rcases List.mem_cons.1 h with h | h
  ·cases h; exact .inl ⟨rfl, rfl, rfl⟩
  ·exact .inr (rts_renL.1 h)
 ·rintro (⟨rfl, rfl, rfl⟩ | h)
  ·exact List.mem_cons_self ..
  ·exact List.mem_cons_of_mem _ (rts_renL.2 h)
theorem Weak.movR {a b : Nat} {t0 : T} (ha : rootL L a = some (.row, t0)) (hb : rootL L b = none) (hb1 : b < base) (hab : Nat.beq a b = false) : Weak N L (.rt a .row .j :: renL a b L) := fun cx ac w hs => by
 obtain ⟨H, G, hr, hG⟩ := hs.rp
 have hne : a ≠ b := fun e => by subst e; rw [Nat.beq_refl] at hab; cases hab
 have hra := rootL_mem ha
 have hnb := rootL_none hb
 have hinj : ∀ {i j m t m' t'}, rts L i m t → rts L j m' t' → rn1 a b i = rn1 a b j → i = j := fun {i j m t m' t'} h1 h2 e => by
  have e1 : i ≠ b := fun e => hnb _ _ (e ▸ h1)
  have e2 : j ≠ b := fun e => hnb _ _ (e ▸ h2)
  unfold rn1 at e
  split at e <;> split at e <;> omega
 have hna : ∀ {i}, rn1 a b i ≠ a := fun {i} e => by
  unfold rn1 at e
  split at e <;> omega
 let H' : Nat → Value := fun i => if i = b then H a else H i
 let G' : Nat → FP := fun i => if i = b then G a else if i = a then fun _ _ => False else G i
 have hH : ∀ {i m t}, rts L i m t → H' (rn1 a b i) = H i ∧ G' (rn1 a b i) = G i := fun {i m t} h => by
  have e1 : i ≠ b := fun e => hnb _ _ (e ▸ h)
  simp only [H', G', rn1]
  by_cases e : i = a
  ·subst e; simp
  ·simp [e, e1]
 have hHa : H' a = H a := by simp [H', hne]
 have hGa : ∀ x y, ¬ G' a x y := fun x y => by simp [G', hne]
 have hV : ∀ {x v}, VR (rts L) H w x v → VR (rts (.rt a .row .j :: renL a b L)) H' w (x.ren (rn1 a b)) v := fun h => h.rn fun id m t hh => ⟨rts_mov.2 (.inr ⟨id, hh, rfl⟩), (hH hh).1⟩
 refine ⟨hs.siz, hs.dfr, hs.chg, H', G', ⟨?_, ?_, ?_, ?_, ?_, ?_, ?_, ?_⟩, ?_, ?_⟩
 ·intro i m t m' t' h1 h2
  rcases rts_mov.1 h1 with ⟨rfl, rfl, rfl⟩ | ⟨i0, g1, rfl⟩
  ·rcases rts_mov.1 h2 with ⟨_, rfl, rfl⟩ | ⟨j0, g2, e⟩
   ·exact ⟨rfl, rfl⟩
   ·exact absurd e hna
  ·rcases rts_mov.1 h2 with ⟨e, _, _⟩ | ⟨j0, g2, e⟩
   ·exact absurd e hna
   ·obtain rfl := hinj g2 g1 e
    exact hr.one _ _ _ _ _ g1 g2
 ·intro i m t h1 h2
  rcases rts_mov.1 h1 with ⟨rfl, rfl, rfl⟩ | ⟨i0, g1, rfl⟩
  ·rw [hHa, show G' i = fun _ _ => False from funext fun x => funext fun y => eq_false (hGa x y)]
   exact own_one (hr.own _ _ _ hra (by intro e; cases e))
  ·rw [(hH g1).1, (hH g1).2]
   exact hr.own _ _ _ g1 h2
 ·intro i t h1
  rcases rts_mov.1 h1 with ⟨_, e, _⟩ | ⟨i0, g1, rfl⟩
  ·cases e
  ·rw [(hH g1).1, (hH g1).2]
   exact hr.ro _ _ g1
 ·intro i t h1
  rcases rts_mov.1 h1 with ⟨_, e, _⟩ | ⟨i0, g1, rfl⟩
  ·cases e
  ·rw [(hH g1).2]
   exact hr.rold _ _ g1
 ·intro i t h1
  rcases rts_mov.1 h1 with ⟨_, e, _⟩ | ⟨i0, g1, rfl⟩
  ·cases e
  ·exact hr.box _ _ g1
 ·intro i m t i' m' t' h1 h2 hne' hm x y k1 k2
  rcases rts_mov.1 h1 with ⟨rfl, rfl, rfl⟩ | ⟨i0, g1, rfl⟩
  ·exact hGa _ _ k1
  ·rcases rts_mov.1 h2 with ⟨rfl, rfl, rfl⟩ | ⟨j0, g2, rfl⟩
   ·exact hGa _ _ k2
   ·rw [(hH g1).2] at k1
    rw [(hH g2).2] at k2
    exact hr.dis _ _ _ _ _ _ g1 g2 (fun e => hne' (by rw [e])) hm _ _ k1 k2
 ·intro s x h
  rcases List.mem_cons.1 h with h | h
  ·cases h
  rcases renL_mem h with ⟨s', x', h1, h2⟩ | ⟨i, m, t, h1, h2⟩ | ⟨i, c, x', h1, h2⟩
  ·cases h2; exact hV (hr.sl _ _ h1)
  ·cases h2
  ·cases h2
 ·intro i c x h
  rcases List.mem_cons.1 h with h | h
  ·cases h
  rcases renL_mem h with ⟨s', x', h1, h2⟩ | ⟨i', m, t, h1, h2⟩ | ⟨i', c', x', h1, h2⟩
  ·cases h2
  ·cases h2
  ·cases h2
   obtain ⟨n, f, g1, g2, A, v, g3, g4, g5⟩ := hr.al _ _ _ h1
   exact ⟨n, f, rts_mov.2 (.inr ⟨i', g1, rfl⟩), g2, A, v, by rw [(hH g1).1]; exact g3, g4, hV g5⟩
 ·intro i m t h1 h2 x y hg
  rcases rts_mov.1 h1 with ⟨rfl, rfl, rfl⟩ | ⟨i0, g1, rfl⟩
  ·exact absurd hg (hGa _ _)
  ·rw [(hH g1).2] at hg
   exact hG.1 _ _ _ g1 h2 _ _ hg
 ·intro i m t hi h1
  rcases rts_mov.1 h1 with ⟨rfl, rfl, rfl⟩ | ⟨i0, g1, rfl⟩
  ·rw [hHa]; exact hG.2 _ _ _ hi hra
  ·have e : i0 ≠ a := fun e => by subst e; simp only [rn1, if_true] at hi; omega
   have e2 : rn1 a b i0 = i0 := by simp [rn1, e]
   rw [(hH g1).1]
   rw [e2] at hi
   rw [e2]
   exact hG.2 _ _ _ hi g1
theorem AW.movR {P : Program} {c : Code} {Q : Exit → List E → Prop} (a b : Nat) {t0 : T} (ha : rootL L a = some (.row, t0)) (hb : rootL L b = none) (hb1 : b < base) (hab : Nat.beq a b = false) (k : AW P N c Q (.rt a .row .j :: renL a b L)) : AW P N c Q L := AW.weak (Weak.movR ha hb hb1 hab) k
end
open Go Go.RowKit
section
variable {N : Nat} {L : List E}
end
theorem flatT_v (x : Go.Value) : flatT (.v x) = .v x := rfl
theorem flatT_tr {α : Type} [En α] (l : List α) : flatT (tr l) = .j := rfl
attribute [go_sem] flatT_v flatT_tr setX List.set_cons_zero List.set_cons_succ
open Go Go.RowKit
section
variable {P : Program} {L : List E} {dst : Option Tmp} {ty : TypeId} {pos : String} {af : Array Edge} {g : Option (Nat × Bool)}
end
def selX : Path → Nat → X → X
 | [], 0, x => (match x with | .j => .c | x => x)
 | _, _, _ => .c
theorem cellX_ji (L : List E) (id : Nat) (q : Path) (n k c : Nat) : cellX L id q n k c .j = selX q k (aliasL L id c) := by
 cases q with
 | nil => cases k <;> rfl
 | cons a q => rfl
theorem selX_j (q : Path) (k : Nat) : selX q k .j = .c := by
 cases q with
 | nil => cases k <;> rfl
 | cons a q => rfl
theorem selX_h (i : Nat) (p : Path) : selX [] 0 (.h i p) = .h i p := rfl
theorem selX_p (i : Nat) (p : Path) (n k c : Nat) : selX [] 0 (.p i p n k c) = .p i p n k c := rfl
theorem selX_a (i : Nat) (p : Path) (n k c : Nat) : selX [] 0 (.a i p n k c) = .a i p n k c := rfl
theorem selX_v (v : Go.Value) : selX [] 0 (.v v) = .v v := rfl
theorem selX_c : selX [] 0 .c = .c := rfl
attribute [go_sem] cellX_ji selX_j selX_h selX_p selX_a selX_v selX_c
open Go Go.RowKit
section
variable {P : Program} {N : Nat} {L L' : List E} {Q : Exit → List E → Prop} {ops : Array Oper} {rest : List Oper} {o : Oper} {qs pend todo : List Nat} {S : Array Bool} {d : Nat} {gb : Bool} {dst : Option Tmp} {x y : Operand} {t t2 ty : TypeId} {pos : String} {af : Array Edge} {g : Option (Nat × Bool)}
theorem sr {id : Nat} {l : List Oper} {c : Code} (h : AWL P N l.toArray l (thenQ (AW P N c Q) Q) L) : AW P N (.seq (.region id l.toArray false) c) Q L := AW.seq (AW.region h)
theorem sr2 {id : Nat} {l : List Oper} {c c2 : Code} (h : AWL P N l.toArray l (thenQ (AW P N c (thenQ (AW P N c2 Q) Q)) (thenQ (AW P N c2 Q) Q)) L) : AW P N (.seq (.seq (.region id l.toArray false) c) c2) Q L := AW.seq (AW.seq (AW.region h))
theorem qm (k : AWL P N ops rest Q (putL L d (evX L x))) (hw : wantL ops L ⟨dst, .move x, ty, pos, af, g⟩ = some gb := by exact rfl) (hgb : gb = true := by exact rfl) (hd : dst = some d := by exact rfl) (hN : d < N := by decide) : AWL P N ops (⟨dst, .move x, ty, pos, af, g⟩ :: rest) Q L := qq Qt.move k hw hgb hd hN
theorem ql {id : Nat} {q : Path} {n k c len : Nat} {f : Nat → Nat → T} {m : M} {T0 : T} (hA : Ag P t false) (kk : AWL P N ops rest Q (putL L d (cellX L id q n k c (f k c)))) (hx : evX L x = .p id q n k c := by exact rfl) (hR : rootL L id = some (m, T0) := by exact rfl) (hT : T0.at q = .s n len f := by exact rfl) (hw : wantL ops L ⟨dst, .load t x, ty, pos, af, g⟩ = some gb := by exact rfl) (hgb : gb = true := by exact rfl) (hd : dst = some d := by exact rfl) (hN : d < N := by decide) : AWL P N ops (⟨dst, .load t x, ty, pos, af, g⟩ :: rest) Q L := qq (Qt.load1 hx hR hT hA) kk hw hgb hd hN
theorem rt1 (s : Nat) {fn : Func} {post : X → List E → Prop} (hp : post (retX [slotL L s]) L) (hQ : endQ P fn post .ret L → Q .ret L := by exact fun hq => hq) (hr : fn.results.toList = [.tmp s] := by exact rfl) : AW P N .ret Q L := AW.ret (hQ (endQ_ret (by rw [hr]; exact .cons (.tmp s) .nil) hp))
theorem ae {i : Nat} {X0 : X} (ho : ops[i]? = some o) (h : Qt P o L X0) (k : AWA P N ops qs Q S pend todo (putL L d X0)) (hd : o.dst = some d := by exact rfl) (hp : pend.all (fun k => todo.contains k || k == i || !waits ops k i) = true := by decide +kernel) (hw : wantL ops L o = some gb := by exact rfl) (hgb : gb = true := by exact rfl) (hx : slotL L d = X0 := by exact rfl) : AWA P N ops qs Q S pend (i :: todo) L := AWA.againE ho hd hp (.on hw hgb h) hx k
theorem sA {zt : List T} [hT : TyI P t zt] (hd : dst = some d := by exact rfl) (hN : d < N := by decide) (hb : d < base := by decide) : Stp P N ⟨dst, .alloc t, ty, pos, af, g⟩ L (putL (.rt d .box (zbox zt) :: delR L d) d (.p d [] zt.length 0 0)) := Stp.alloc hd hN hb
theorem sS {e : TypeId} {len : Nat} {parts : Array (Nat × Operand)} {zt : List T} [hS : SlI P t e] [hT : TyI P e zt] {ys : List X} (hd : dst = some d := by exact rfl) (hN : d < N := by decide) (hb : d < base := by decide) (hf : fillX (fun i => some (i * zt.length, zt.length)) ((reps zt len).map T.toX) (evParts L parts) = some ys := by exact rfl) (hsm : len * zt.length ≤ 2 ^ 24 := by decide) (hyl : ys.length = len * zt.length := by exact rfl) (hz : zpos (reps zt len) = true := by exact rfl) (ho : ys.all X.one = true := by exact rfl) (hnd : (movedOf (srcs L (reps zt len) ys)).Nodup := by exact nodup_of rfl) : Stp P N ⟨dst, .buildSlice t len parts, ty, pos, af, g⟩ L (putL (.rt d .row (rowT zt.length len (srcs L (reps zt len) ys)) :: delR (delRs L (movedOf (srcs L (reps zt len) ys))) d) d (.h d [])) := Stp.buildSlice hd hN hb hf hsm hyl hz ho hnd
theorem cd {c : Operand} {c1 c2 : Code} {b : Bool} (ht : b = true → AW P N c1 Q L) (hf : b = false → AW P N c2 Q L) (hc : evX L c = .v (.bool b) := by exact rfl) : AW P N (.cond c c1 c2) Q L := AW.cond hc ht hf
end
theorem ob {P : Program} {f : FuncId} {fn : Func} {c : Code} {xs : List X} {ρ : List E} {post : X → List E → Prop} {n : Nat} (hf : P.funcs[f]? = some fn) (hn : fn.ntmps = n) (h : AW P n c (endQ P fn post) (slotsOf 0 xs ++ ρ)) (hb : fn.body = some c := by exact rfl) (hρ : ∀ t x, E.sl t x ∉ ρ := by simp) : Con P f xs ρ post := Con.of_body hf hb hρ (by rw [hn]; exact h)
section
variable {P : Program} {N : Nat} {L : List E} {Q : Exit → List E → Prop} {ops : Array Oper} {l : List Oper}
theorem wjT (d : Nat) (ds : List Nat) {v v' : Value} {LB : List E} (e : v = v') (K : AWL P N ops l Q (putL LB d (.v v'))) (hB : VM.dropS L ds = LB := by simp only [go_sem, reduceIte, Nat.reduceEqDiff, Nat.reduceBEq, reduceCtorEq]; rfl) (h : slotL L d = .v v := by exact rfl) : AWL P N ops l Q L := wj d ds e hB K h
theorem wjF (d : Nat) (ds : List Nat) {v v' : Value} {LB : List E} (e : v = v') (K : AWL P N ops l Q (putL LB d (.v v'))) (hB : VM.dropS L ds = LB := by simp only [go_sem, reduceIte, Nat.reduceEqDiff, Nat.reduceBEq, reduceCtorEq]) (h : slotL L d = .v v := by exact rfl) : AWL P N ops l Q L := wj d ds e hB K h
end
theorem tsr {t : T} : t.sim t := T.sim_refl t
section
variable {P : Program} {N : Nat} {L L' : List E} {Q : Exit → List E → Prop} {ops : Array Oper} {qs pend pend' : List Nat} {S S' : Array Bool}
theorem auP (K : AWA P N ops qs Q S' pend' [] L') (hw : Weak N L L' := by exact Weak.sim (by repeat (first | exact trivial | refine ⟨rfl, ?_⟩ | refine ⟨⟨_, rfl, tsr⟩, ?_⟩ | refine ⟨⟨rfl, rfl⟩, ?_⟩)) rfl rfl) (hS : S = S' := by decide +kernel) (hp : (pend.all pend'.contains && pend'.all pend.contains) = true := by decide +kernel) : AWA P N ops qs Q S pend [] L := AWA.use hS hp hw K
theorem auR (K : AWA P N ops qs Q S' pend' [] L) (hS : S = S' := by decide +kernel) (hp : (pend.all pend'.contains && pend'.all pend.contains) = true := by decide +kernel) : AWA P N ops qs Q S pend [] L := AWA.use hS hp Weak.refl K
end
open Go Go.RowKit
class AgI (P : Program) (t : TypeId) (b : outParam Bool) : Prop where
 ok : Ag P t b
class SzI (P : Program) (t : TypeId) (n : outParam Nat) : Prop where
 ok : Sz P t n
class FlI (P : Program) (t : TypeId) (i : Nat) (off : outParam Nat) : Prop where
 ok : Fld P t i off
class BoI (P : Program) (t : TypeId) : Prop where
 ok : P.underlying t = some .bool
class StI (P : Program) (t : TypeId) : Prop where
 ok : P.underlying t = some .string
inductive K
 | m | a | f | l | p | i | b | h | G | e | u | n | q | k | c
 | A | B | S | s
 | N | Z | R | R2 | R1 | J | D (qs : List Nat) | t (i : Nat) | o (i : Nat) (pend' : List Nat) | O (i : Nat) (pend' D : List Nat) | g | x
structure GL (ks : List K) (P : Program) (N : Nat) (ops : Array Oper) (rest : List Oper) (Q : Exit → List E → Prop) (L : List E) where
 G : Prop
 f : G → AWL P N ops rest Q L
structure GW (ks : List K) (P : Program) (N : Nat) (c : Code) (Q : Exit → List E → Prop) (L : List E) where
 G : Prop
 f : G → AW P N c Q L
structure GA (ks : List K) (P : Program) (N : Nat) (ops : Array Oper) (qs : List Nat) (Q : Exit → List E → Prop) (S : Array Bool) (pend todo : List Nat) (L : List E) where
 G : Prop
 f : G → AWA P N ops qs Q S pend todo L
structure GP (ks : List K) (A : Prop) where
 G : Prop
 f : G → A
structure QK (k : K) (P : Program) (o : Oper) (L : List E) (x : X) : Prop where
 h : Qt P o L x
structure SK (k : K) (P : Program) (N : Nat) (o : Oper) (L L' : List E) : Prop where
 h : Stp P N o L L'
section
variable {P : Program} {N : Nat} {L L' : List E} {Q : Exit → List E → Prop} {ops : Array Oper} {rest : List Oper} {o : Oper} {d : Nat} {gb : Bool} {x : X} {c : Code} {A : Prop} {qs pend todo : List Nat} {S : Array Bool} {κ : K} {ks : List K}
@[reducible] def zL : GL [] P N ops rest Q L := ⟨_, fun h => h⟩
@[reducible] def zW : GW [] P N c Q L := ⟨_, fun h => h⟩
@[reducible] def zA : GA [] P N ops qs Q S pend todo L := ⟨_, fun h => h⟩
@[reducible] def zP : GP [] A := ⟨_, fun h => h⟩
@[reducible] def pL (k : GL ks P N ops rest Q L) : GP ks (AWL P N ops rest Q L) := ⟨k.G, k.f⟩
@[reducible] def pW (k : GW ks P N c Q L) : GP ks (AW P N c Q L) := ⟨k.G, k.f⟩
@[reducible] def pA (k : GA ks P N ops qs Q S pend todo L) : GP ks (AWA P N ops qs Q S pend todo L) := ⟨k.G, k.f⟩
@[reducible] def qF (h : QK κ P o L x) (k : GL ks P N ops rest Q (putL L d x)) (hw : wantL ops L o = some gb := by exact rfl) (hgb : gb = true := by first | exact rfl | exact nT (by assumption) | exact nF (by assumption) | assumption) (hd : o.dst = some d := by exact rfl) (hN : d < N := by decide) : GL (κ :: ks) P N ops (o :: rest) Q L := ⟨k.G, fun g => qg hgb h.h (k.f g) hw hd hN⟩
@[reducible] def xF (k : GL ks P N ops rest Q (putL L d (.v undef))) (hw : wantL ops L o = some gb := by exact rfl) (hgb : gb = false := by first | exact rfl | exact nT (by assumption) | exact nF (by assumption) | assumption) (hd : o.dst = some d := by exact rfl) (hN : d < N := by decide) : GL (.x :: ks) P N ops (o :: rest) Q L := ⟨k.G, fun g => og hgb (k.f g) hw hd hN⟩
@[reducible] def sF (h : SK κ P N o L L') (k : GL ks P N ops rest Q L') (hw : wantL ops L o = some gb := by exact rfl) (hgb : gb = true := by exact rfl) : GL (κ :: ks) P N ops (o :: rest) Q L := ⟨k.G, fun g => sp h.h (k.f g) hw hgb⟩
@[reducible] def nFx (k : GL ks P N ops rest Q L') (h : L = L' := by simp only [go_sem, Int.reduceToNat, Nat.reduceLT, reduceIte, Nat.reduceEqDiff, Nat.reduceAdd, Nat.reduceMul, Nat.reduceBEq, reduceCtorEq]; rfl) : GL (.N :: ks) P N ops rest Q L := ⟨k.G, fun g => nm (k.f g) h⟩
@[reducible] def nFa (k : GA ks P N ops qs Q S pend todo L') (h : L = L' := by first | (simp only [go_sem, Int.reduceToNat, Nat.reduceLT, reduceIte, Nat.reduceEqDiff, Nat.reduceAdd, Nat.reduceMul, Nat.reduceBEq, reduceCtorEq]; rfl) | rfl) : GA (.N :: ks) P N ops qs Q S pend todo L := ⟨k.G, fun g => na (k.f g) h⟩
@[reducible] def lF (k : GP ks (Q .normal L')) (h : L = L' := by first | (simp only [go_sem, Int.reduceToNat, Nat.reduceLT, reduceIte, Nat.reduceEqDiff, Nat.reduceAdd, Nat.reduceMul, Nat.reduceBEq, reduceCtorEq]; rfl) | rfl) : GL (.Z :: ks) P N ops [] Q L := ⟨k.G, fun g => nl (k.f g) h⟩
@[reducible] def rF {id : Nat} {l : List Oper} {c : Code} (k : GL ks P N l.toArray l (thenQ (AW P N c Q) Q) L) : GW (.R :: ks) P N (.seq (.region id l.toArray false) c) Q L := ⟨k.G, fun g => sr (k.f g)⟩
@[reducible] def rF1 {id : Nat} {l : List Oper} (k : GL ks P N l.toArray l Q L) : GW (.R1 :: ks) P N (.region id l.toArray false) Q L := ⟨k.G, fun g => AW.region (k.f g)⟩
@[reducible] def rF2 {id : Nat} {l : List Oper} {c c2 : Code} (k : GL ks P N l.toArray l (thenQ (AW P N c (thenQ (AW P N c2 Q) Q)) (thenQ (AW P N c2 Q) Q)) L) : GW (.R2 :: ks) P N (.seq (.seq (.region id l.toArray false) c) c2) Q L := ⟨k.G, fun g => sr2 (k.f g)⟩
@[reducible] def jF (k : GP ks (Q .normal L)) : GW (.J :: ks) P N .skip Q L := ⟨k.G, fun g => jd (k.f g)⟩
@[reducible] def dF {qs : List Nat} {id : Nat} (k : GA ks P N ops qs Q (Array.replicate ops.size false) [] [] L) (hm : P.follows .mixedOrders = true := by exact rfl) (hq : quietB ops N qs = true := by decide +kernel) : GW (.D qs :: ks) P N (.region id ops true) Q L := ⟨k.G, fun g => AW.draw qs hm hq (k.f g)⟩
@[reducible] def tF {i : Nat} (ho : ops[i]? = some o) (h : QK κ P o L x) (k : GA ks P N ops qs Q (S.setIfInBounds i true) (i :: pend) [] (putL L d x)) (hd : o.dst = some d := by exact rfl) (hq' : qs.contains i = true := by exact rfl) (hr : (Region.ready .any ops S).contains i = true := by decide +kernel) (hw : wantL ops L o = some gb := by exact rfl) (hgb : gb = true := by first | exact rfl | exact nT (by assumption) | exact nF (by assumption) | assumption) : GA (.t i :: κ :: ks) P N ops qs Q S pend [] L := ⟨k.G, fun g => tg i ho hgb h.h (k.f g) hd hq' hr hw⟩
@[reducible] def tX {i : Nat} (ho : ops[i]? = some o) (k : GA ks P N ops qs Q (S.setIfInBounds i true) (i :: pend) [] (putL L d (.v undef))) (hd : o.dst = some d := by exact rfl) (hq' : qs.contains i = true := by exact rfl) (hr : (Region.ready .any ops S).contains i = true := by decide +kernel) (hw : wantL ops L o = some gb := by exact rfl) (hgb : gb = false := by first | exact rfl | exact nT (by assumption) | exact nF (by assumption) | assumption) : GA (.t i :: .x :: ks) P N ops qs Q S pend [] L := ⟨k.G, fun g => tf i hgb (k.f g) ho hd hq' hr hw⟩
@[reducible] def oF {j : Nat} {pend' : List Nat} (ho : ops[j]? = some o) (h : SK κ P N o L L') (k : GA ks P N ops qs Q (S.setIfInBounds j true) pend' pend' L') (hw : wantL ops L o = some gb := by exact rfl) (hgb : gb = true := by first | exact rfl | exact nT (by assumption) | exact nF (by assumption) | assumption) (hr : Region.ready .any ops S = [j] := by decide +kernel)
    (hD : chainB ops [j] (pend.filter fun i => !pend'.contains i) = true := by decide +kernel) (hp : (pend.all fun i => pend'.contains i || (pend.filter fun i => !pend'.contains i).contains i) = true := by decide +kernel) (hp' : (pend'.all fun i => pend.contains i) = true := by decide +kernel) : GA (.o j pend' :: κ :: ks) P N ops qs Q S pend [] L := ⟨k.G, fun g => a1 j pend' _ ho hgb h.h (k.f g) hr hw hD hp hp'⟩
@[reducible] def OF {j : Nat} {pend' D : List Nat} (ho : ops[j]? = some o) (h : SK κ P N o L L') (k : GA ks P N ops qs Q (S.setIfInBounds j true) pend' pend' L') (hw : wantL ops L o = some gb := by exact rfl) (hgb : gb = true := by first | exact rfl | exact nT (by assumption) | exact nF (by assumption) | assumption) (hr : Region.ready .any ops S = [j] := by decide +kernel)
  (hD : chainB ops [j] D = true := by decide +kernel) (hp : (pend.all fun i => pend'.contains i || D.contains i) = true := by decide +kernel) (hp' : (pend'.all fun i => pend.contains i) = true := by decide +kernel) : GA (.O j pend' D :: κ :: ks) P N ops qs Q S pend [] L := ⟨k.G, fun g => a1 j pend' D ho hgb h.h (k.f g) hr hw hD hp hp'⟩
@[reducible] def oX {j : Nat} {pend' : List Nat} (ho : ops[j]? = some o) (k : GA ks P N ops qs Q (S.setIfInBounds j true) pend' pend' (putL L d (.v undef))) (hw : wantL ops L o = some gb := by exact rfl) (hgb : gb = false := by first | exact rfl | exact nT (by assumption) | exact nF (by assumption) | assumption) (hd : o.dst = some d := by exact rfl) (hN : d < N := by decide) (hr : Region.ready .any ops S = [j] := by decide +kernel)
    (hD : chainB ops [j] (pend.filter fun i => !pend'.contains i) = true := by decide +kernel) (hp : (pend.all fun i => pend'.contains i || (pend.filter fun i => !pend'.contains i).contains i) = true := by decide +kernel) (hp' : (pend'.all fun i => pend.contains i) = true := by decide +kernel) : GA (.o j pend' :: .x :: ks) P N ops qs Q S pend [] L := ⟨k.G, fun g => o1 j pend' _ ho hgb (k.f g) hr hw hD hp hp' hd hN⟩
@[reducible] def OX {j : Nat} {pend' D : List Nat} (ho : ops[j]? = some o) (k : GA ks P N ops qs Q (S.setIfInBounds j true) pend' pend' (putL L d (.v undef))) (hw : wantL ops L o = some gb := by exact rfl) (hgb : gb = false := by first | exact rfl | exact nT (by assumption) | exact nF (by assumption) | assumption) (hd : o.dst = some d := by exact rfl) (hN : d < N := by decide) (hr : Region.ready .any ops S = [j] := by decide +kernel)
  (hD : chainB ops [j] D = true := by decide +kernel) (hp : (pend.all fun i => pend'.contains i || D.contains i) = true := by decide +kernel) (hp' : (pend'.all fun i => pend.contains i) = true := by decide +kernel) : GA (.O j pend' D :: .x :: ks) P N ops qs Q S pend [] L := ⟨k.G, fun g => o1 j pend' D ho hgb (k.f g) hr hw hD hp hp' hd hN⟩
@[reducible] def gF {i : Nat} (ho : ops[i]? = some o) (h : QK κ P o L x) (k : GA ks P N ops qs Q S pend todo (putL L d x)) (hd : o.dst = some d := by exact rfl) (hp : pend.all (fun k => todo.contains k || k == i || !waits ops k i) = true := by decide +kernel) (hw : wantL ops L o = some gb := by exact rfl) (hgb : gb = true := by first | exact rfl | exact nT (by assumption) | exact nF (by assumption) | assumption) (hx : slotL L d = x := by exact rfl) : GA (.g :: κ :: ks) P N ops qs Q S pend (i :: todo) L := ⟨k.G, fun g => AWA.againE ho hd hp (.on hw hgb h.h) hx (k.f g)⟩
@[reducible] def gX {i : Nat} (ho : ops[i]? = some o) (k : GA ks P N ops qs Q S pend todo (putL L d (.v undef))) (hd : o.dst = some d := by exact rfl) (hp : pend.all (fun k => todo.contains k || k == i || !waits ops k i) = true := by decide +kernel) (hw : wantL ops L o = some gb := by exact rfl) (hgb : gb = false := by first | exact rfl | exact nT (by assumption) | exact nF (by assumption) | assumption) (hx : slotL L d = .v undef := by exact rfl) : GA (.g :: .x :: ks) P N ops qs Q S pend (i :: todo) L := ⟨k.G, fun g => AWA.againE ho hd hp (.off hw hgb) hx (k.f g)⟩
@[reducible] def zF (k : GP ks (Q .normal L')) (hr : Region.ready .any ops S = [] := by decide +kernel) (h : L = L' := by first | (simp only [go_sem, Int.reduceToNat, Nat.reduceLT, reduceIte, Nat.reduceEqDiff, Nat.reduceAdd, Nat.reduceMul, Nat.reduceBEq, reduceCtorEq]; rfl) | rfl) : GA (.Z :: ks) P N ops qs Q S pend [] L := ⟨k.G, fun g => nz (k.f g) hr h⟩
end
theorem ws {N : Nat} {L L' : List E} (h : hasS L L' := by repeat (first | exact trivial | refine ⟨(by first | exact ⟨rfl, rfl⟩ | exact Rf rfl | rfl | exact st1), ?_⟩)) (hc : closedB (idsL L') L' = true := by exact rfl) (hu : nodupB (idsL L') = true := by exact rfl) : Weak N L L' := Weak.sim h hc hu
theorem kQ (κ : K) {P : Program} {o : Oper} {L : List E} {x : X} (h : Qt P o L x) : QK κ P o L x := ⟨h⟩
theorem kS (κ : K) {P : Program} {N : Nat} {o : Oper} {L L' : List E} (h : Stp P N o L L') : SK κ P N o L L' := ⟨h⟩
theorem go (ks : List K) {G : Prop} (he : GP ks G := by
  first | refine pW ?_ | refine pL ?_ | refine pA ?_
  repeat
    first
      | (show GL (.N :: _) _ _ _ _ _ _; refine nFx ?_)
      | (show GL (.m :: _) _ _ _ _ _ _; refine qF (kQ .m Qt.move) ?_)
      | (show GL (.f :: _) _ _ _ _ _ _; refine qF (kQ .f (fA FlI.ok)) ?_)
      | (show GL (.l :: _) _ _ _ _ _ _; refine qF (kQ .l (Qt.load1 rfl rfl rfl AgI.ok)) ?_)
      | (show GL (.a :: _) _ _ _ _ _ _; refine qF (kQ .a Qt.assign) ?_)
      | (show GL _ _ _ _ _ _ _; first
          | (show GL (.p :: _) _ _ _ _ _ _; refine qF (kQ .p (Qt.nilCheck rfl)) ?_)
          | (show GL (.b :: _) _ _ _ _ _ _; refine qF (kQ .b (Qt.binOp rfl rfl (by first | exact pbAdd (by omega) | exact pbSub (by omega) | exact pbMul (by omega) | rfl))) ?_)
          | (show GL (.i :: _) _ _ _ _ _ _; refine qF (kQ .i (Qt.indexAddr rfl rfl rfl rfl SlI.sl SzI.ok (by decide) (by first | omega | grind only))) ?_)
          | (show GL (.h :: _) _ _ _ _ _ _; refine qF (kQ .h (Qt.lenH rfl rfl rfl SlI.sl)) ?_)
          | (show GL (.G :: _) _ _ _ _ _ _; refine qF (kQ .G (Qt.loadG rfl rfl rfl AgI.ok SzI.ok (by decide))) ?_)
          | (show GL (.e :: _) _ _ _ _ _ _; refine qF (kQ .e (Qt.extract rfl (of_decide_eq_true rfl))) ?_)
          | (show GL (.u :: _) _ _ _ _ _ _; refine qF (kQ .u (Qt.build rfl)) ?_)
          | (show GL (.n :: _) _ _ _ _ _ _; refine qF (kQ .n (Qt.notB rfl)) ?_)
          | (show GL (.q :: _) _ _ _ _ _ _; refine qF (kQ .q (Qt.eqB rfl rfl BoI.ok)) ?_)
          | (show GL (.k :: _) _ _ _ _ _ _; refine qF (kQ .k (Qt.neB rfl rfl BoI.ok)) ?_)
          | (show GL (.c :: _) _ _ _ _ _ _; refine qF (kQ .c (Qt.lenS rfl StI.ok)) ?_)
          | (show GL (.Z :: _) _ _ _ _ _ _; refine lF ?_; (first | refine pW ?_ | refine pL ?_ | refine pA ?_ | exact zP))
          | (show GL (.s :: _) _ _ _ _ _ _; refine sF (kS .s (by first | exact Stp.storeA rfl rfl rfl rfl (by decide) rfl | exact Stp.store rfl rfl (by simp) rfl rfl rfl (by decide) rfl)) ?_)
          | (show GL (.A :: _) _ _ _ _ _ _; refine sF (kS .A sA) ?_)
          | (show GL (.B :: _) _ _ _ _ _ _; refine sF (kS .B (Stp.boxB rfl (by decide) (by decide) rfl rfl rfl rfl)) ?_)
          | (show GL (.S :: _) _ _ _ _ _ _; refine sF (kS .S sS) ?_)
          | (show GL (.x :: _) _ _ _ _ _ _; refine xF ?_)
          | (show GL [] _ _ _ _ _ _; exact zL))
      | (show GA _ _ _ _ _ _ _ _ _ _; first
          | (show GA (.N :: _) _ _ _ _ _ _ _ _ _; refine nFa ?_)
          | (show GA (.t _ :: .x :: _) _ _ _ _ _ _ _ _ _; refine tX rfl ?_)
          | (show GA (.t _ :: .m :: _) _ _ _ _ _ _ _ _ _; refine tF rfl (kQ .m Qt.move) ?_)
          | (show GA (.t _ :: .f :: _) _ _ _ _ _ _ _ _ _; refine tF rfl (kQ .f (fA FlI.ok)) ?_)
          | (show GA (.t _ :: .l :: _) _ _ _ _ _ _ _ _ _; refine tF rfl (kQ .l (Qt.load1 rfl rfl rfl AgI.ok)) ?_)
          | (show GA (.t _ :: .a :: _) _ _ _ _ _ _ _ _ _; refine tF rfl (kQ .a Qt.assign) ?_)
          | (show GA (.g :: _ :: _) _ _ _ _ _ _ _ _ _; first
              | (show GA (.g :: .x :: _) _ _ _ _ _ _ _ _ _; refine gX rfl ?_)
              | (show GA (.g :: .m :: _) _ _ _ _ _ _ _ _ _; refine gF rfl (kQ .m Qt.move) ?_)
              | (show GA (.g :: .f :: _) _ _ _ _ _ _ _ _ _; refine gF rfl (kQ .f (fA FlI.ok)) ?_)
              | (show GA (.g :: .l :: _) _ _ _ _ _ _ _ _ _; refine gF rfl (kQ .l (Qt.load1 rfl rfl rfl AgI.ok)) ?_)
              | (show GA (.g :: .a :: _) _ _ _ _ _ _ _ _ _; refine gF rfl (kQ .a Qt.assign) ?_)
              | (show GA (.g :: .p :: _) _ _ _ _ _ _ _ _ _; refine gF rfl (kQ .p (Qt.nilCheck rfl)) ?_)
              | (show GA (.g :: .b :: _) _ _ _ _ _ _ _ _ _; refine gF rfl (kQ .b (Qt.binOp rfl rfl (by first | exact pbAdd (by omega) | exact pbSub (by omega) | exact pbMul (by omega) | rfl))) ?_)
              | (show GA (.g :: .i :: _) _ _ _ _ _ _ _ _ _; refine gF rfl (kQ .i (Qt.indexAddr rfl rfl rfl rfl SlI.sl SzI.ok (by decide) (by first | omega | grind only))) ?_)
              | (show GA (.g :: .h :: _) _ _ _ _ _ _ _ _ _; refine gF rfl (kQ .h (Qt.lenH rfl rfl rfl SlI.sl)) ?_)
              | (show GA (.g :: .G :: _) _ _ _ _ _ _ _ _ _; refine gF rfl (kQ .G (Qt.loadG rfl rfl rfl AgI.ok SzI.ok (by decide))) ?_)
              | (show GA (.g :: .e :: _) _ _ _ _ _ _ _ _ _; refine gF rfl (kQ .e (Qt.extract rfl (of_decide_eq_true rfl))) ?_)
              | (show GA (.g :: .u :: _) _ _ _ _ _ _ _ _ _; refine gF rfl (kQ .u (Qt.build rfl)) ?_)
              | (show GA (.g :: .n :: _) _ _ _ _ _ _ _ _ _; refine gF rfl (kQ .n (Qt.notB rfl)) ?_)
              | (show GA (.g :: .q :: _) _ _ _ _ _ _ _ _ _; refine gF rfl (kQ .q (Qt.eqB rfl rfl BoI.ok)) ?_)
              | (show GA (.g :: .k :: _) _ _ _ _ _ _ _ _ _; refine gF rfl (kQ .k (Qt.neB rfl rfl BoI.ok)) ?_)
              | (show GA (.g :: .c :: _) _ _ _ _ _ _ _ _ _; refine gF rfl (kQ .c (Qt.lenS rfl StI.ok)) ?_))
          | (show GA (.t _ :: .p :: _) _ _ _ _ _ _ _ _ _; refine tF rfl (kQ .p (Qt.nilCheck rfl)) ?_)
          | (show GA (.t _ :: .b :: _) _ _ _ _ _ _ _ _ _; refine tF rfl (kQ .b (Qt.binOp rfl rfl (by first | exact pbAdd (by omega) | exact pbSub (by omega) | exact pbMul (by omega) | rfl))) ?_)
          | (show GA (.t _ :: .i :: _) _ _ _ _ _ _ _ _ _; refine tF rfl (kQ .i (Qt.indexAddr rfl rfl rfl rfl SlI.sl SzI.ok (by decide) (by first | omega | grind only))) ?_)
          | (show GA (.t _ :: .h :: _) _ _ _ _ _ _ _ _ _; refine tF rfl (kQ .h (Qt.lenH rfl rfl rfl SlI.sl)) ?_)
          | (show GA (.t _ :: .G :: _) _ _ _ _ _ _ _ _ _; refine tF rfl (kQ .G (Qt.loadG rfl rfl rfl AgI.ok SzI.ok (by decide))) ?_)
          | (show GA (.t _ :: .e :: _) _ _ _ _ _ _ _ _ _; refine tF rfl (kQ .e (Qt.extract rfl (of_decide_eq_true rfl))) ?_)
          | (show GA (.t _ :: .u :: _) _ _ _ _ _ _ _ _ _; refine tF rfl (kQ .u (Qt.build rfl)) ?_)
          | (show GA (.t _ :: .n :: _) _ _ _ _ _ _ _ _ _; refine tF rfl (kQ .n (Qt.notB rfl)) ?_)
          | (show GA (.t _ :: .q :: _) _ _ _ _ _ _ _ _ _; refine tF rfl (kQ .q (Qt.eqB rfl rfl BoI.ok)) ?_)
          | (show GA (.t _ :: .k :: _) _ _ _ _ _ _ _ _ _; refine tF rfl (kQ .k (Qt.neB rfl rfl BoI.ok)) ?_)
          | (show GA (.t _ :: .c :: _) _ _ _ _ _ _ _ _ _; refine tF rfl (kQ .c (Qt.lenS rfl StI.ok)) ?_)
          | (show GA (.o _ _ :: .x :: _) _ _ _ _ _ _ _ _ _; refine oX rfl ?_)
          | (show GA (.o _ _ :: .s :: _) _ _ _ _ _ _ _ _ _; refine oF rfl (kS .s (by first | exact Stp.storeA rfl rfl rfl rfl (by decide) rfl | exact Stp.store rfl rfl (by simp) rfl rfl rfl (by decide) rfl)) ?_)
          | (show GA (.o _ _ :: .A :: _) _ _ _ _ _ _ _ _ _; refine oF rfl (kS .A sA) ?_)
          | (show GA (.o _ _ :: .B :: _) _ _ _ _ _ _ _ _ _; refine oF rfl (kS .B (Stp.boxB rfl (by decide) (by decide) rfl rfl rfl rfl)) ?_)
          | (show GA (.o _ _ :: .S :: _) _ _ _ _ _ _ _ _ _; refine oF rfl (kS .S sS) ?_)
          | (show GA (.O _ _ _ :: .x :: _) _ _ _ _ _ _ _ _ _; refine OX rfl ?_)
          | (show GA (.O _ _ _ :: .s :: _) _ _ _ _ _ _ _ _ _; refine OF rfl (kS .s (by first | exact Stp.storeA rfl rfl rfl rfl (by decide) rfl | exact Stp.store rfl rfl (by simp) rfl rfl rfl (by decide) rfl)) ?_)
          | (show GA (.O _ _ _ :: .A :: _) _ _ _ _ _ _ _ _ _; refine OF rfl (kS .A sA) ?_)
          | (show GA (.O _ _ _ :: .B :: _) _ _ _ _ _ _ _ _ _; refine OF rfl (kS .B (Stp.boxB rfl (by decide) (by decide) rfl rfl rfl rfl)) ?_)
          | (show GA (.O _ _ _ :: .S :: _) _ _ _ _ _ _ _ _ _; refine OF rfl (kS .S sS) ?_)
          | (show GA (.Z :: _) _ _ _ _ _ _ _ _ _; refine zF ?_; (first | refine pW ?_ | refine pL ?_ | refine pA ?_ | exact zP))
          | (show GA [] _ _ _ _ _ _ _ _ _; exact zA))
      | (show GW _ _ _ _ _ _; first
          | (show GW (.R :: _) _ _ _ _ _; refine rF ?_)
          | (show GW (.R2 :: _) _ _ _ _ _; refine rF2 ?_)
          | (show GW (.R1 :: _) _ _ _ _ _; refine rF1 ?_)
          | (show GW (.J :: _) _ _ _ _ _; refine jF ?_; (first | refine pW ?_ | refine pL ?_ | refine pA ?_ | exact zP))
          | (show GW (.D _ :: _) _ _ _ _ _; refine dF ?_)
          | (show GW [] _ _ _ _ _; exact zW))
      | exact zP) (k : he.G) : G := he.f k
open Go Go.RowKit
theorem slB_sn {L : List E} {d : Nat} {x : Operand} {kd : IntKind} {j : Int} (h : evX L x = .v (.int kd j)) (h0 : 0 ≤ j) : slB L d (some x) j.toNat := ⟨kd, j, h, (Int.toNat_of_nonneg h0).symm⟩
open Go Go.RowKit
section
variable {P : Program} {N : Nat} {Q : Exit → List E → Prop} {L : List E} {ops : Array Oper} {rest : List Oper} {dst : Option Tmp} {ty : TypeId} {pos : String} {af : Array Edge} {g : Option (Nat × Bool)} {d : Nat}
end
section
variable {α : Type} (key : α → Int)
end
open Go Go.RowKit
section
variable {P : Program} {N : Nat} {L : List E} {dst : Option Tmp} {ty : TypeId} {pos : String} {af : Array Edge} {g : Option (Nat × Bool)} {d : Nat}
end
open Go Go.RowKit
section
variable {P : Program} {N : Nat} {L : List E} {dst : Option Tmp} {ty : TypeId} {pos : String} {af : Array Edge} {g : Option (Nat × Bool)} {d : Nat}
end
open Go Go.RowKit
open Go Go.RowKit
section
variable {α : Type} (key : α → Int)
end
end Go.Proofs.YthjfgpkjooaahaaGreat.VM
set_option linter.unusedSectionVars false
namespace Go.Proofs.YthjfgpkjooaahaaGreat.VM
open Go Go.RowKit
section
variable {α : Type} [En α] (key : α → Int)
variable {key}
end
end Go.Proofs.YthjfgpkjooaahaaGreat.VM
set_option linter.unusedSectionVars false
namespace Go.Proofs.YthjfgpkjooaahaaGreat.VM
open Go Go.RowKit
section
variable {α : Type} [En α] {key : α → Int}
variable {P X Y S : List α} {a m b : Nat}
end
end Go.Proofs.YthjfgpkjooaahaaGreat.VM
set_option linter.unusedSectionVars false
namespace Go.Proofs.YthjfgpkjooaahaaGreat.VM
open Go Go.RowKit
section
variable {α : Type} (key : α → Int)
end
end Go.Proofs.YthjfgpkjooaahaaGreat.VM
set_option linter.unusedSectionVars false
namespace Go.Proofs.YthjfgpkjooaahaaGreat.VM
open Go Go.RowKit
section
variable {α : Type} [En α] {key : α → Int}
end
open Go Go.RowKit
open Go Go.RowKit Go.Sort
open Go Go.RowKit
section
variable {P : Program} {N : Nat} {L : List E} {dst : Option Tmp} {ty : TypeId} {pos : String} {af : Array Edge} {g : Option (Nat × Bool)} {d : Nat}
theorem Stp.callAQ {f : FuncId} {cal : Operand} {args : Array Operand} {tys : Array TypeId} {cd : Nat} {n l lo len : Nat} {fT : Nat → Nat → T} {xs : List X} {q : Path} {mm : M} {T0 : T}
  (hds : dst = some d) (hN : d < N) (hE : Ent P f) (hcal : evX L cal = .f f [])
  (hargs : args.toList.map (evX L) = .h cd q :: xs) (hxs : onlyV xs = true) (hc : rootL L cd = some (mm, T0)) (hq : Okp T0 q) (hT : T0.at q = .s n l fT) (hle : lo + len ≤ l)
  (hcon : Con P f (.h base [] :: xs) [.rt base .ro (.s n l fT)] (RetW (.a base [] n lo len) [] [])) :
  Stp P N ⟨dst, .call { callee := .value cal, args := args, argTypes := tys }, ty, pos, af, g⟩ L (putL L d (.a cd q n lo len)) := fun cx a w Q hs => by
 obtain ⟨H, G, hr, hG⟩ := hs.rp
 have hcv := ev_ok hr cal
 rw [hcal] at hcv
 obtain ⟨us, hu1, hu2⟩ := hcv
 obtain rfl : us = [] := by cases us with
  | nil => rfl
  | cons _ _ => exact hu2.elim
 unfold Oper.wp
 rw [run_callX hE hu1, List.append_nil]
 have hargsV := evXs_ok hr args.toList
 rw [hargs] at hargsV
 generalize hvs : args.toList.map a.eval = vs at hargsV
 cases vs with
 | nil => exact hargsV.elim
 | cons v0 vs =>
 obtain ⟨hv0, hvs1⟩ := hargsV
 have hc' := rootL_mem hc
 have hRd : Rd w T0 (G cd) (H cd) := by
  by_cases hm : mm = .ro
  ·subst hm; exact hr.ro _ _ hc'
  ·exact (hr.own _ _ _ hc' hm).rd
 have hOld : ∀ x y, G cd x y → x < w.heap.size := fun x y hg => by
  by_cases hm : mm = .ro
  ·subst hm; exact hr.rold _ _ hc' x y hg
  ·exact (hr.own _ _ _ hc' hm).old x y hg
 obtain ⟨h', Gq, e1, e2, e3⟩ := hRd.at hq
 rw [hT] at e2
 obtain rfl : h' = v0 := by
  obtain ⟨m, t, p1, p2, p3, p4⟩ := hv0
  rw [e1] at p4
  exact Option.some.inj p4
 let H' : Nat → Value := fun i => if i = base then h' else undef
 let G' : Nat → FP := fun i => if i = base then Gq else fun _ _ => False
 have eH1 : H' base = h' := if_pos rfl
 have eG1 : G' base = Gq := if_pos rfl
 have hrts : ∀ {id m t}, rts [.rt base .ro (.s n l fT)] id m t → (id = base ∧ m = .ro ∧ t = .s n l fT) := fun {id m t} h => by
  simp only [rts, List.mem_cons, List.not_mem_nil, or_false, E.rt.injEq] at h
  exact h
 have hrp : Rp [.rt base .ro (.s n l fT)] (fun _ => undef) H' G' w := by
  refine ⟨fun id m t m' t' k1 k2 => ?_, fun id m t k1 k2 => ?_, fun id t k => ?_, fun id t k => ?_, fun id t k => ?_, fun id m t id' m' t' k1 k2 hne' hm x y hx hy => ?_, fun t x k => ?_, fun id c x k => ?_⟩
  ·obtain ⟨rfl, rfl, rfl⟩ := hrts k1; obtain ⟨_, rfl, rfl⟩ := hrts k2; exact ⟨rfl, rfl⟩
  ·exact absurd (hrts k1).2.1 k2
  ·obtain ⟨rfl, _, rfl⟩ := hrts k; rw [eH1, eG1]; exact e2
  ·obtain ⟨rfl, _, rfl⟩ := hrts k; rw [eG1]; exact fun x y hg => hOld x y (e3 x y hg)
  ·have := (hrts k).2.1; cases this
  ·exact hm (hrts k1).2.1
  ·simp at k
  ·simp at k
 have hxv : VRs (rts [.rt base .ro (.s n l fT)]) H' w (.h base [] :: xs) (h' :: vs) := by
  refine ⟨?_, onlyV_ok hxs hvs1⟩
  exact ⟨.ro, .s n l fT, by simp [rts], trivial, ⟨_, _, _, rfl⟩, by rw [eH1]; rfl⟩
 simp only [Oper.upon]
 refine (hcon w _ H' G' (cx.now hs.chg) (fun id m t h1 h2 => absurd (hrts h1).2.1 h2) hrp hxv).mono ?_
 rintro e w' ⟨v, x, L2, H2, G2, val2, rfl, ⟨ρ', rfl, hfix, _, _, _⟩, k1, k2, k3, k4, k5⟩
 refine ⟨⟨_, rfl⟩, ?_⟩
 have hC : Chg (fun _ _ => False) w w' := k3.mono fun b o _ hx => by
  obtain ⟨id, m', t, q1, q2, q3⟩ := hx
  exact q2 (hrts q1).2.1
 have hr' := hr.chg hC fun _ _ _ _ _ _ _ h => h
 have hv : VR (rts L) H w' (.a cd q n lo len) v := by
  simp only [X.ren, hfix base (Nat.le_refl _)] at k2
  obtain ⟨m, t, p1, p2, p3, hv, p4, p5⟩ := k2
  refine ⟨mm, _, hc', hq, ⟨l, fT, hT, hle⟩, hv, ?_, p5⟩
  rw [hr.hd hC (fun _ _ _ _ _ _ _ h => h) hc' hq, e1, ← eH1, ← k5 _ _ _ (Nat.le_refl _) p1]
  exact p4
 refine ⟨by rw [hds]; simpa [Go.Act.put] using hs.siz, by rw [hds]; simpa [Go.Act.put] using hs.dfr, hs.chg.trans (hC.mono fun _ _ _ h => h.elim), _, _, ?_, by rw [rts_put]; exact hG⟩
 rw [hds]
 exact (hr'.put hv).val fun t => (Act.val_put (Nat.lt_of_lt_of_le hN hs.siz) t).symm
end
open Go Go.RowKit
theorem Weak.viewAQ {N : Nat} {L : List E} (d new : Nat) {id n lo len l : Nat} {f : Nat → Nat → T} {q : Path} {T0 : T} (h : slotL L d = .a id q n lo len) (hR : rootL L id = some (.ro, T0)) (hq : Okp T0 q) (hT : T0.at q = .s n l f) (hle : Nat.ble (lo + len) l = true ∨ lo + len ≤ l) (hn : rootL L new = none) (hb : new < base) : Weak N L (putL (.rt new .ro (.s n len fun k c => f (lo + k) c) :: L) d (.h new [])) := fun cx a w hs => by
 obtain ⟨H, G, hr, hG⟩ := hs.rp
 have hle : lo + len ≤ l := by rcases hle with h | h; exact Nat.le_of_ble_eq_true h; exact h
 have h0 := rootL_mem hR
 have hnb := rootL_none hn
 have h1 := ev_ok hr (.tmp d)
 simp only [evX, h] at h1
 obtain ⟨m', t', g1, g2, _, hv, g4, ad, cap, g5, g6, g7, g8, _⟩ := h1
 obtain ⟨rfl, rfl⟩ := hr.one _ _ _ _ _ g1 h0
 obtain ⟨h', Gq, e1, e2, e3⟩ := (hr.ro _ _ h0).at hq
 rw [hT] at e2
 obtain rfl : h' = hv := Option.some.inj (e1.symm.trans g4)
 have hRd := e2.sub hle g5 g6 g7 g8
 let H' := updN H new (Act.val a d)
 let G' := updN G new Gq
 have eH : H' new = Act.val a d := by simp [H', updN]
 have eG : G' new = Gq := by simp [G', updN]
 have eo : ∀ {i m t}, rts L i m t → i ≠ new := fun {i m t} h e => hnb _ _ (e ▸ h)
 have eH' : ∀ {i m t}, rts L i m t → H' i = H i := fun h => by simp [H', updN, eo h]
 have eG' : ∀ {i m t}, rts L i m t → G' i = G i := fun h => by simp [G', updN, eo h]
 have hrt : ∀ {i m t}, rts (.rt new .ro (.s n len fun k c => f (lo + k) c) :: L) i m t → (i = new ∧ m = .ro ∧ t = .s n len fun k c => f (lo + k) c) ∨ rts L i m t := fun {i m t} h => by
  rcases List.mem_cons.1 h with h | h
  ·cases h; exact .inl ⟨rfl, rfl, rfl⟩
  ·exact .inr h
 have hrn : rts (.rt new .ro (.s n len fun k c => f (lo + k) c) :: L) new .ro (.s n len fun k c => f (lo + k) c) := List.mem_cons_self ..
 have hvr : ∀ {x v}, VR (rts L) H w x v → VR (rts (.rt new .ro (.s n len fun k c => f (lo + k) c) :: L)) H' w x v := fun h => VR.same (fun i m t hh => ⟨List.mem_cons_of_mem _ hh, eH' hh⟩) h
 have hr2 : Rp (.rt new .ro (.s n len fun k c => f (lo + k) c) :: L) (Act.val a) H' G' w := by
  refine ⟨fun i m t m' t' k1 k2 => ?_, fun i m t k1 k2 => ?_, fun i t k => ?_, fun i t k => ?_, fun i t k => ?_, fun i m t i' m' t' k1 k2 hne hm x y hx hy => ?_, fun s x k => ?_, fun i c x k => ?_⟩
  ·rcases hrt k1 with ⟨rfl, rfl, rfl⟩ | a1 <;> rcases hrt k2 with ⟨b1, b2, b3⟩ | b1
   ·exact ⟨b2.symm, b3.symm⟩
   ·exact absurd rfl (eo b1)
   ·exact absurd b1 (eo a1)
   ·exact hr.one _ _ _ _ _ a1 b1
  ·rcases hrt k1 with ⟨rfl, rfl, rfl⟩ | a1
   ·exact absurd rfl k2
   ·rw [eH' a1, eG' a1]; exact hr.own _ _ _ a1 k2
  ·rcases hrt k with ⟨rfl, _, rfl⟩ | a1
   ·rw [eH, eG]; exact hRd
   ·rw [eH' a1, eG' a1]; exact hr.ro _ _ a1
  ·rcases hrt k with ⟨rfl, _, rfl⟩ | a1
   ·rw [eG]; exact fun x y hg => hr.rold _ _ h0 x y (e3 x y hg)
   ·rw [eG' a1]; exact hr.rold _ _ a1
  ·rcases hrt k with ⟨_, e, _⟩ | a1
   ·cases e
   ·exact hr.box _ _ a1
  ·rcases hrt k1 with ⟨rfl, rfl, rfl⟩ | a1
   ·exact hm rfl
   ·rw [eG' a1] at hx
    rcases hrt k2 with ⟨rfl, rfl, rfl⟩ | b1
    ·rw [eG] at hy
     have hne2 : i ≠ id := fun e => by
      subst e
      exact hm (hr.one _ _ _ _ _ a1 h0).1
     exact hr.dis _ _ _ _ _ _ a1 h0 hne2 hm x y hx (e3 x y hy)
    ·rw [eG' b1] at hy
     exact hr.dis _ _ _ _ _ _ a1 b1 hne hm x y hx hy
  ·rcases List.mem_cons.1 k with k | k
   ·cases k
   ·exact hvr (hr.sl s x k)
  ·rcases List.mem_cons.1 k with k | k
   ·cases k
   ·obtain ⟨n1, f1, q1, q2, A, v, q3, q4, q5⟩ := hr.al i c x k
    exact ⟨n1, f1, List.mem_cons_of_mem _ q1, q2, A, v, by rw [eH' q1]; exact q3, q4, hvr q5⟩
 refine ⟨hs.siz, hs.dfr, hs.chg, H', G', (hr2.put (d := d) (x := .h new []) (v := Act.val a d) ⟨.ro, _, hrn, trivial, ⟨_, _, _, rfl⟩, by rw [eH]; rfl⟩).val fun t => ?_, by
  rw [rts_put]
  refine ⟨fun i m t k1 k2 x y hx => ?_, fun i m t hb1 k => ?_⟩
  ·rcases hrt k1 with ⟨rfl, rfl, rfl⟩ | a1
   ·exact absurd rfl k2
   ·rw [eG' a1] at hx; exact hG.1 _ _ _ a1 k2 x y hx
  ·rcases hrt k with ⟨rfl, _, _⟩ | a1
   ·omega
   ·rw [eH' a1]; exact hG.2 _ _ _ hb1 a1⟩
 split
 ·rename_i e; rw [e]
 ·rfl
open Go Go.RowKit
def flX (b : Bool) (x : X) : X := match b with
 | true => x
 | false => .j
def flT (b : Bool) (t : T) : T := match b with
 | true => t
 | false => .j
def flM (b : Bool) (m : M) : M := match b with
 | true => m
 | false => .row
theorem flX_t (x : X) : flX true x = x := rfl
theorem flT_t (t : T) : flT true t = t := rfl
theorem flM_t (m : M) : flM true m = m := rfl
theorem flX_f (x : X) : flX false x = .j := rfl
theorem flT_f (t : T) : flT false t = .j := rfl
theorem flM_f (m : M) : flM false m = .row := rfl
theorem flX_men {d : Nat} {b : Bool} {x : X} : X.men d (flX b x) = (b && X.men d x) := by cases b <;> rfl
theorem flX_inB {l : List Nat} {b : Bool} {x : X} : X.inB l (flX b x) = (!b || X.inB l x) := by cases b <;> rfl
attribute [go_sem] flX_t flT_t flM_t flX_f flT_f flM_f flX_men flX_inB
section
variable {P : Program} {N : Nat} {Q : Exit → List E → Prop} {L L' : List E} {ops : Array Oper} {cx : Cx} {a b : Act} {w : World} {S R S' : Array Bool} {pend pend' todo qs : List Nat}
theorem Weak.newJ (d id : Nat) (hf : rootL L id = none) (hb : Nat.blt id base = true) : Weak N L (putL (.rt id .row .j :: L) d .j) := fun cx a w hsat => by
 obtain ⟨H, G, hr, hG⟩ := hsat.rp
 have hb : id < base := by simp [Nat.blt] at hb; omega
 have hO : Own w .j (fun _ _ => False) (.int .i64 0) := by
  unfold Own
  exact ⟨rfl, fun _ _ h => h⟩
 have h1 := hr.more (rootL_none hf) hO fun _ _ _ _ _ _ _ h => h
 have h2 := h1.put (d := d) (x := .j) (v := Act.val a d) trivial
 have hr0 : ∀ {i m t}, rts L i m t → i ≠ id := fun {i m t} h e => rootL_none hf m t (e ▸ h)
 refine ⟨hsat.siz, hsat.dfr, hsat.chg, _, _, h2.val fun t => ?_, ?_⟩
 ·split
  ·rename_i e; rw [e]
  ·rfl
 ·rw [rts_put]
  refine ⟨fun i m t k1 k2 x y hx => ?_, fun i m t hb1 k => ?_⟩
  ·rcases List.mem_cons.1 k1 with k1 | k1
   ·cases k1; simp [updN] at hx
   ·rw [show updN G id (fun _ _ => False) i = G i by simp [updN, hr0 k1]] at hx
    exact hG.1 _ _ _ k1 k2 x y hx
  ·rcases List.mem_cons.1 k with k | k
   ·cases k; omega
   ·rw [show updN H id (.int .i64 0) i = H i by simp [updN, hr0 k]]
    exact hG.2 _ _ _ hb1 k
theorem AWA.flag (d id : Nat) (x : X) (m : M) (t : T) (hn : rootL L id = none) (hb : Nat.blt id base = true) (h : ∀ b, b = false → AWA P N ops qs Q S pend todo (putL (.rt id (flM b m) (flT b t) :: L) d (flX b x))) : AWA P N ops qs Q S pend todo L :=
 AWA.weak (Weak.newJ d id hn hb) (h false rfl)
theorem AWA.need (c : Bool) (hf : c = false → AWA P N ops qs Q S pend todo L) (ht : c = true → AWA P N ops qs Q S pend todo L) : AWA P N ops qs Q S pend todo L := match c, hf, ht with
 | false, h, _ => h rfl
 | true, _, h => h rfl
theorem AWA.setS (S' : Array Bool) (e : S = S') (h : AWA P N ops qs Q S' pend todo L) : AWA P N ops qs Q S pend todo L := e ▸ h
theorem free1 {K : Bool → Prop} (h : ∀ a, (a = false → K true) → K a) : ∀ a, K a :=
 have t : K true := h true fun e => by cases e
 fun a => match a with
 | true => t
 | false => h false fun _ => t
theorem free2 {K : Bool → Bool → Prop} (h : ∀ a b, (a = false → K true b) → (b = false → K a true) → K a b) : ∀ a b, K a b :=
 free1 (K := fun a => ∀ b, K a b) fun a ia => free1 fun b ib => h a b (fun e => ia e b) ib
theorem free3 {K : Bool → Bool → Bool → Prop} (h : ∀ a b c, (a = false → K true b c) → (b = false → K a true c) → (c = false → K a b true) → K a b c) : ∀ a b c, K a b c :=
 free1 (K := fun a => ∀ b c, K a b c) fun a ia => free2 fun b c ib ic => h a b c (fun e => ia e b c) ib ic
theorem free4 {K : Bool → Bool → Bool → Bool → Prop} (h : ∀ a b c d, (a = false → K true b c d) → (b = false → K a true c d) → (c = false → K a b true d) → (d = false → K a b c true) → K a b c d) : ∀ a b c d, K a b c d :=
 free1 (K := fun a => ∀ b c d, K a b c d) fun a ia => free3 fun b c d ib ic id => h a b c d (fun e => ia e b c d) ib ic id
theorem free5 {K : Bool → Bool → Bool → Bool → Bool → Prop} (h : ∀ a b c d e, (a = false → K true b c d e) → (b = false → K a true c d e) → (c = false → K a b true d e) → (d = false → K a b c true e) → (e = false → K a b c d true) → K a b c d e) : ∀ a b c d e, K a b c d e :=
 free1 (K := fun a => ∀ b c d e, K a b c d e) fun a ia => free4 fun b c d e ib ic id ie => h a b c d e (fun z => ia z b c d e) ib ic id ie
theorem free6 {K : Bool → Bool → Bool → Bool → Bool → Bool → Prop} (h : ∀ a b c d e f, (a = false → K true b c d e f) → (b = false → K a true c d e f) → (c = false → K a b true d e f) → (d = false → K a b c true e f) → (e = false → K a b c d true f) → (f = false → K a b c d e true) → K a b c d e f) : ∀ a b c d e f, K a b c d e f :=
 free1 (K := fun a => ∀ b c d e f, K a b c d e f) fun a ia => free5 fun b c d e f ib ic id ie ig => h a b c d e f (fun z => ia z b c d e f) ib ic id ie ig
def readyB (ops : Array Oper) (S : Array Bool) (j : Nat) : Bool := Nat.blt j ops.size && (!S.getD j false && match ops[j]? with
 | some o => o.after.toList.all fun e => !Region.binds .any e || S.getD e.on false
 | none => false)
theorem readyB_iff {j : Nat} (hs : S.size = ops.size) : readyB ops S j = true ↔ j ∈ Region.ready .any ops S := by
 rw [ready_iff hs]
 unfold readyB
 constructor
 ·intro h
  simp only [Bool.and_eq_true, Bool.not_eq_true'] at h
  obtain ⟨h1, h2, h3⟩ := h
  have h1 : j < ops.size := by simp [Nat.blt] at h1; omega
  refine ⟨h1, h2, fun i hw => ?_⟩
  have ho : ops[j]? = some ops[j] := Array.getElem?_eq_getElem h1
  obtain ⟨e, he, hb, rfl⟩ := (waits_iff ho).1 hw
  rw [ho] at h3
  have := List.all_eq_true.1 h3 e (by simpa using he)
  simpa [hb] using this
 ·rintro ⟨h1, h2, h3⟩
  have ho : ops[j]? = some ops[j] := Array.getElem?_eq_getElem h1
  simp only [Bool.and_eq_true, Bool.not_eq_true']
  refine ⟨by simp [Nat.blt]; omega, h2, ?_⟩
  rw [ho]
  refine List.all_eq_true.2 fun e he => ?_
  cases hb : Region.binds .any e with
  | false => rfl
  | true =>
   have := h3 e.on ((waits_iff ho).2 ⟨e, by simpa using he, hb, rfl⟩)
   simpa using this
theorem readyS {i : Nat} (hs : S.size = ops.size) (h : readyB ops S i = true) : (Region.ready .any ops S).contains i = true := by
 simpa using (readyB_iff hs).1 h
def amongB (ops : Array Oper) (S : Array Bool) (js : List Nat) : Bool := ((List.range ops.size).all fun j => js.contains j || !readyB ops S j) && js.any (readyB ops S)
def AllArmF (P : Program) (N : Nat) (ops : Array Oper) (qs : List Nat) (Q : Exit → List E → Prop) (S : Array Bool) (pend : List Nat) (L : List E) : List Nat → Prop
 | [] => True
 | j :: r => (S.getD j false = false → Arm P N ops qs Q S pend L j) ∧ AllArmF P N ops qs Q S pend L r
theorem AllArmF.all : ∀ {js : List Nat}, AllArmF P N ops qs Q S pend L js → ∀ j ∈ js, S.getD j false = false → Arm P N ops qs Q S pend L j
 | _ :: _, ⟨h1, h2⟩, j, hj => by
  rcases List.mem_cons.1 hj with rfl | hj
  ·exact h1
  ·exact AllArmF.all h2 j hj
theorem AWA.anyF (js : List Nat) (hs : S.size = ops.size) (hr : amongB ops S js = true) (h : AllArmF P N ops qs Q S pend L js) : AWA P N ops qs Q S pend [] L := by
 unfold amongB at hr
 rw [Bool.and_eq_true] at hr
 obtain ⟨h1, h2⟩ := hr
 refine AWA.run (fun j hj => ?_) fun h0 => ?_
 ·have hb := (readyB_iff hs).2 hj
  obtain ⟨hlt, hS, _⟩ := (ready_iff hs).1 hj
  have := List.all_eq_true.1 h1 j (List.mem_range.2 hlt)
  rw [hb] at this
  exact h.all j (by simpa using this) hS
 ·obtain ⟨j, _, hj⟩ := List.any_eq_true.1 h2
  have := (readyB_iff hs).1 hj
  rw [h0] at this
  cases this
theorem chk1 {p : Bool → Bool} (h : ∀ a, p a = true) (a : Bool) : p a = true := h a
theorem chk4 {p : Bool → Bool → Bool → Bool → Bool} (h : ∀ a b c d, p a b c d = true) (a b c d : Bool) : p a b c d = true := h a b c d
theorem chk5 {p : Bool → Bool → Bool → Bool → Bool → Bool} (h : ∀ a b c d e, p a b c d e = true) (a b c d e : Bool) : p a b c d e = true := h a b c d e
theorem chk6 {p : Bool → Bool → Bool → Bool → Bool → Bool → Bool} (h : ∀ a b c d e f, p a b c d e f = true) (a b c d e f : Bool) : p a b c d e f = true := h a b c d e f
theorem amg4 {ops : Array Oper} (s : Bool → Bool → Bool → Bool → Array Bool) (js : List Nat) (a b c d : Bool) (h : ∀ a b c d, amongB ops (s a b c d) js = true) : amongB ops (s a b c d) js = true := h a b c d
theorem amg5 {ops : Array Oper} (s : Bool → Bool → Bool → Bool → Bool → Array Bool) (js : List Nat) (a b c d e : Bool) (h : ∀ a b c d e, amongB ops (s a b c d e) js = true) : amongB ops (s a b c d e) js = true := h a b c d e
theorem readyC {i : Nat} (h : (Nat.beq S.size ops.size && readyB ops S i) = true) : (Region.ready .any ops S).contains i = true := by
 rw [Bool.and_eq_true] at h
 exact readyS (Nat.eq_of_beq_eq_true h.1) h.2
theorem rdk1 (s : Bool → Array Bool) (i : Nat) (a : Bool) (h : ∀ a, (Nat.beq (s a).size ops.size && readyB ops (s a) i) = true) : (Region.ready .any ops (s a)).contains i = true := readyC (h a)
theorem rdk5 (s : Bool → Bool → Bool → Bool → Bool → Array Bool) (i : Nat) (a b c d e : Bool) (h : ∀ a b c d e, (Nat.beq (s a b c d e).size ops.size && readyB ops (s a b c d e) i) = true) : (Region.ready .any ops (s a b c d e)).contains i = true := readyC (h a b c d e)
theorem fu (K : AWA P N ops qs Q S' pend' [] L') (hp : (pend.all pend'.contains && pend'.all pend.contains) = true := by decide +kernel) (hs : hasS L L' := by repeat (first | exact trivial | refine ⟨rfl, ?_⟩ | refine ⟨⟨_, rfl, T.sim_refl _⟩, ?_⟩ | refine ⟨⟨rfl, rfl⟩, ?_⟩)) (hc : closedB (idsL L') L' = true := by simp only [closedB, go_sem, Int.reduceToNat, Nat.reduceLT, reduceIte, Nat.reduceEqDiff, Nat.reduceAdd, Nat.reduceMul, Nat.reduceBEq, reduceCtorEq]) (hu : nodupB (idsL L') = true := by rfl) : AWA P N ops qs Q S' pend [] L := AWA.use rfl hp (Weak.sim hs hc hu) K
theorem amongN {c : Bool} {js : List Nat} (hc : c = false) (h : (c || amongB ops S js) = true) : amongB ops S js = true := by subst hc; exact h
end
open Go Go.RowKit
attribute [go_sem] renL rn1 hoistL hoistM X.uns X.unss unsP eqE frzL
section
variable {P : Program} {N : Nat} {Q : Exit → List E → Prop} {L L' : List E}
theorem nw {c : Code} (k : AW P N c Q L') (h : L = L' := by simp only [go_sem, Int.reduceToNat, Nat.reduceLT, reduceIte, Nat.reduceEqDiff, Nat.reduceAdd, Nat.reduceMul, Nat.reduceBEq, reduceCtorEq]; rfl) : AW P N c Q L := h ▸ k
end
section
variable {P : Program} {L : List E} {dst : Option Tmp} {ty : TypeId} {pos : String} {af : Array Edge} {g : Option (Nat × Bool)}
def putAt : List X → Nat → List X → List X
 | zs, _, [] => zs
 | [], _, _ :: _ => []
 | _ :: zs, 0, l :: ls => l :: putAt zs 0 ls
 | z :: zs, n + 1, l :: ls => z :: putAt zs n (l :: ls)
def fillZ (fl : List (Nat × Nat)) : List X → List (Nat × X) → List X
 | xs, [] => xs
 | xs, (i, x) :: r => fillZ fl (putAt xs (fl.getD i (0, 0)).1 x.leaves) r
def okP (fl : List (Nat × Nat)) (n : Nat) : List (Nat × X) → Bool
  | [] => true
  | (i, x) :: r => (match fl[i]? with
    | some q => x.flat && (Nat.beq x.leaves.length q.2 && Nat.ble (q.1 + q.2) n)
    | none => false) && okP fl n r
theorem putAt_eq : ∀ {ls xs : List X} {n : Nat}, n + ls.length ≤ xs.length → putAt xs n ls = xs.take n ++ ls ++ xs.drop (n + ls.length)
 | [], xs, n, _ => by simp [putAt]
 | l :: ls, [], n, h => by simp at h
 | l :: ls, x :: xs, 0, h => by
  have := putAt_eq (ls := ls) (xs := xs) (n := 0) (by simp at h ⊢; omega)
  simp only [putAt, this, List.take_zero, List.nil_append, List.length_cons, List.cons_append, Nat.zero_add, List.drop_succ_cons]
 | l :: ls, x :: xs, n + 1, h => by
  have := putAt_eq (ls := l :: ls) (xs := xs) (n := n) (by simp at h ⊢; omega)
  rw [putAt, this, show n + 1 + (l :: ls).length = n + (l :: ls).length + 1 by omega, List.take_succ_cons, List.drop_succ_cons]
  simp
theorem fillZ_eq {fl : List (Nat × Nat)} : ∀ {ps : List (Nat × X)} {xs : List X}, okP fl xs.length ps = true → fillX (fl[·]?) xs ps = some (fillZ fl xs ps)
  | [], xs, _ => rfl
  | (i, x) :: r, xs, h => by
    rw [okP, Bool.and_eq_true] at h
    obtain ⟨h1, h2⟩ := h
    cases hq : fl[i]? with
    | none => rw [hq] at h1; cases h1
    | some q =>
      rw [hq] at h1
      simp only [Bool.and_eq_true, Nat.beq_eq, Nat.ble_eq] at h1
      obtain ⟨g1, g2, g3⟩ := h1
      have e : (fl.getD i (0, 0)).1 = q.1 := by rw [List.getD_eq_getElem?_getD, hq]; rfl
      have hp := putAt_eq (ls := x.leaves) (xs := xs) (n := q.1) (by omega)
      have hl : (putAt xs q.1 x.leaves).length = xs.length := by rw [hp]; simp; omega
      have := fillZ_eq (ps := r) (xs := putAt xs q.1 x.leaves) (by rw [hl]; exact h2)
      rw [fillZ, e, ← this]
      show (match fl[i]? with | none => none | some (off, size) => _) = _
      rw [hq]
      show (if x.flat = true ∧ x.leaves.length = q.2 ∧ q.1 + q.2 ≤ xs.length then fillX (fl[·]?) (xs.take q.1 ++ x.leaves ++ xs.drop (q.1 + q.2)) r else none) = _
      rw [if_pos ⟨g1, g2, g3⟩, hp, g2]
attribute [go_sem] putAt fillZ
theorem bd2 {t : TypeId} {parts : Array (Nat × Operand)} {zt : List T} {fl : List (Nat × Nat)} [hT : TyI P t zt] [hB : BdI P t fl] {ps : List (Nat × X)} (he : evParts L parts = ps := by simp only [evParts, go_sem, Int.reduceToNat, Nat.reduceLT, reduceIte, Nat.reduceEqDiff, Nat.reduceAdd, Nat.reduceMul, Nat.reduceBEq, reduceCtorEq]; rfl) (hf : okP fl zt.length ps = true := by rfl) : Qt P ⟨dst, .build t parts, ty, pos, af, g⟩ L (.g (fillZ fl (zt.map T.toX) ps)) :=
 Qt.build (by rw [he]; exact fillZ_eq (by rw [List.length_map]; exact hf))
end
open Go Go.RowKit
attribute [go_sem] sinkL X.sub X.subs
end Go.Proofs.YthjfgpkjooaahaaGreat.VM
