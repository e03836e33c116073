/- Rules to walk by. No conditions. -/
import Derived.LaidEql
import Derived.Laws.NewBlocks
import Derived.Lib.Join
import Derived.Lib.OthersKept
import Derived.Shelf.Slices.Empties
import Derived.Shelf.Slices.SearchI
import Derived.Shelf.Spec.SlicesInsertGrow
import Derived.Sort.Grow
import Derived.Sort.Row
import Derived.Test.YtekcnnngjoonbaaGreatVmC
set_option linter.all false
namespace Go.Proofs.YtekcnnngjoonbaaGreat.VM
open Go Go.RowKit
mutual
def X.sub (b i : Nat) (e : Nat × Nat × Nat) : X → X
 | .p id q n k k2 => if Nat.beq id b then .p i (e :: q) n k k2 else .p id q n k k2
 | .h id q => if Nat.beq id b then .h i (e :: q) else .h id q
 | .a id q n lo len => if Nat.beq id b then .a i (e :: q) n lo len else .a id q n lo len
 | .g xs => .g (X.subs b i e xs)
 | .t xs => .t (X.subs b i e xs)
 | .f fn xs => .f fn (X.subs b i e xs)
 | .v x => .v x
 | .j => .j
 | .c => .c
def X.subs (b i : Nat) (e : Nat × Nat × Nat) : List X → List X
 | [] => []
 | x :: xs => X.sub b i e x :: X.subs b i e xs
end
def eqE (a b : Nat × Nat × Nat) : Bool := Nat.beq a.1 b.1 && (Nat.beq a.2.1 b.2.1 && Nat.beq a.2.2 b.2.2)
theorem eqE_eq {a b : Nat × Nat × Nat} (h : eqE a b = true) : a = b := by
 obtain ⟨a1, a2, a3⟩ := a
 obtain ⟨b1, b2, b3⟩ := b
 simp only [eqE, Bool.and_eq_true] at h
 rw [Nat.eq_of_beq_eq_true h.1, Nat.eq_of_beq_eq_true h.2.1, Nat.eq_of_beq_eq_true h.2.2]
theorem eqE_refl (a : Nat × Nat × Nat) : eqE a a = true := by simp [eqE]
def unsP (i : Nat) (e : Nat × Nat × Nat) (d id : Nat) (q : Path) : Nat × Path := match q with
 | [] => (id, [])
 | a :: r => if Nat.beq id i && eqE a e then (d, r) else (id, a :: r)
mutual
def X.uns (i : Nat) (e : Nat × Nat × Nat) (d : Nat) : X → X
 | .p id q n k k2 => .p (unsP i e d id q).1 (unsP i e d id q).2 n k k2
 | .h id q => .h (unsP i e d id q).1 (unsP i e d id q).2
 | .a id q n lo len => .a (unsP i e d id q).1 (unsP i e d id q).2 n lo len
 | .g xs => .g (X.unss i e d xs)
 | .t xs => .t (X.unss i e d xs)
 | .f fn xs => .f fn (X.unss i e d xs)
 | .v x => .v x
 | .j => .j
 | .c => .c
def X.unss (i : Nat) (e : Nat × Nat × Nat) (d : Nat) : List X → List X
 | [] => []
 | x :: xs => X.uns i e d x :: X.unss i e d xs
end
section
variable {R R' : RT} {H H' : Nat → Value} {w w' : World}
mutual
theorem VR.subOk {b i : Nat} {e : Nat × Nat × Nat} (hP : ∀ x v, X.leaf x → VR R H w x v → VR R' H' w' (x.sub b i e) v) : ∀ {x : X} {v : Value}, VR R H w x v → VR R' H' w' (x.sub b i e) v
 | .g xs, v, ⟨vs, h1, h2⟩ => ⟨vs, h1, VRs.subOk hP h2⟩
 | .t xs, v, ⟨vs, h1, h2⟩ => ⟨vs, h1, VRs.subOk hP h2⟩
 | .f fn xs, v, ⟨vs, h1, h2⟩ => ⟨vs, h1, VRs.subOk hP h2⟩
 | .v x, v, h => h
 | .j, v, _ => trivial
 | .c, v, h => h
 | .p .., v, h => hP _ _ trivial h
 | .h .., v, h => hP _ _ trivial h
 | .a .., v, h => hP _ _ trivial h
theorem VRs.subOk {b i : Nat} {e : Nat × Nat × Nat} (hP : ∀ x v, X.leaf x → VR R H w x v → VR R' H' w' (x.sub b i e) v) : ∀ {xs : List X} {vs : List Value}, VRs R H w xs vs → VRs R' H' w' (X.subs b i e xs) vs
 | [], [], _ => trivial
 | x :: xs, v :: vs, ⟨h1, h2⟩ => ⟨VR.subOk hP h1, VRs.subOk hP h2⟩
 | [], _ :: _, h => h.elim
 | _ :: _, [], h => h.elim
end
mutual
theorem VR.unsOk {i d : Nat} {e : Nat × Nat × Nat} (hP : ∀ x v, X.leaf x → VR R H w x v → VR R' H' w' (x.uns i e d) v) : ∀ {x : X} {v : Value}, VR R H w x v → VR R' H' w' (x.uns i e d) v
 | .g xs, v, ⟨vs, h1, h2⟩ => ⟨vs, h1, VRs.unsOk hP h2⟩
 | .t xs, v, ⟨vs, h1, h2⟩ => ⟨vs, h1, VRs.unsOk hP h2⟩
 | .f fn xs, v, ⟨vs, h1, h2⟩ => ⟨vs, h1, VRs.unsOk hP h2⟩
 | .v x, v, h => h
 | .j, v, _ => trivial
 | .c, v, h => h
 | .p .., v, h => hP _ _ trivial h
 | .h .., v, h => hP _ _ trivial h
 | .a .., v, h => hP _ _ trivial h
theorem VRs.unsOk {i d : Nat} {e : Nat × Nat × Nat} (hP : ∀ x v, X.leaf x → VR R H w x v → VR R' H' w' (x.uns i e d) v) : ∀ {xs : List X} {vs : List Value}, VRs R H w xs vs → VRs R' H' w' (X.unss i e d xs) vs
 | [], [], _ => trivial
 | x :: xs, v :: vs, ⟨h1, h2⟩ => ⟨VR.unsOk hP h1, VRs.unsOk hP h2⟩
 | [], _ :: _, h => h.elim
 | _ :: _, [], h => h.elim
end
end
def sinkL (b i c n : Nat) (tb : T) : List E → List E
 | [] => []
 | .sl s x :: L => .sl s (x.sub b i (n, 0, c)) :: sinkL b i c n tb L
 | .rt id m t :: L => if Nat.beq id b then sinkL b i c n tb L else .rt id m (if Nat.beq id i then t.put [] 0 c tb else t) :: sinkL b i c n tb L
 | .al id c' x :: L => if Nat.beq id i && Nat.beq c' c then sinkL b i c n tb L else .al id c' (x.sub b i (n, 0, c)) :: sinkL b i c n tb L
def hoistM (i c n d : Nat) : List E → List E
 | [] => []
 | .sl s x :: L => .sl s (x.uns i (n, 0, c) d) :: hoistM i c n d L
 | .rt id m t :: L => .rt id m (if Nat.beq id i then t.put [] 0 c .j else t) :: hoistM i c n d L
 | .al id c' x :: L => .al id c' (x.uns i (n, 0, c) d) :: hoistM i c n d L
def hoistL (i c n d : Nat) (tc : T) (L : List E) : List E := .rt d .row tc :: .al i c (.h d []) :: hoistM i c n d L
theorem hoistM_sl {i c n d : Nat} {s : Nat} {y : X} : ∀ {L : List E}, E.sl s y ∈ hoistM i c n d L → ∃ x, E.sl s x ∈ L ∧ y = x.uns i (n, 0, c) d
 | .sl s' x :: L, h => by
  rcases List.mem_cons.1 h with h | h
  ·cases h; exact ⟨x, List.mem_cons_self .., rfl⟩
  ·obtain ⟨x, h1, h2⟩ := hoistM_sl h; exact ⟨x, List.mem_cons_of_mem _ h1, h2⟩
 | .rt id m t :: L, h => by
  rcases List.mem_cons.1 h with h | h
  ·cases h
  ·obtain ⟨x, h1, h2⟩ := hoistM_sl h; exact ⟨x, List.mem_cons_of_mem _ h1, h2⟩
 | .al id c' x :: L, h => by
  rcases List.mem_cons.1 h with h | h
  ·cases h
  ·obtain ⟨x, h1, h2⟩ := hoistM_sl h; exact ⟨x, List.mem_cons_of_mem _ h1, h2⟩
theorem hoistM_al {i c n d : Nat} {s c1 : Nat} {y : X} : ∀ {L : List E}, E.al s c1 y ∈ hoistM i c n d L → ∃ x, E.al s c1 x ∈ L ∧ y = x.uns i (n, 0, c) d
 | .sl s' x :: L, h => by
  rcases List.mem_cons.1 h with h | h
  ·cases h
  ·obtain ⟨x, h1, h2⟩ := hoistM_al h; exact ⟨x, List.mem_cons_of_mem _ h1, h2⟩
 | .rt id m t :: L, h => by
  rcases List.mem_cons.1 h with h | h
  ·cases h
  ·obtain ⟨x, h1, h2⟩ := hoistM_al h; exact ⟨x, List.mem_cons_of_mem _ h1, h2⟩
 | .al id c' x :: L, h => by
  rcases List.mem_cons.1 h with h | h
  ·cases h; exact ⟨x, List.mem_cons_self .., rfl⟩
  ·obtain ⟨x, h1, h2⟩ := hoistM_al h; exact ⟨x, List.mem_cons_of_mem _ h1, h2⟩
theorem hoistM_rt {i c n d : Nat} {id : Nat} {m : M} {t : T} : ∀ {L : List E}, rts (hoistM i c n d L) id m t ↔ ∃ t0, rts L id m t0 ∧ t = if id = i then t0.put [] 0 c .j else t0
 | [] => by simp [rts, hoistM]
 | .sl s' x :: L => by
  have := hoistM_rt (i := i) (c := c) (n := n) (d := d) (id := id) (m := m) (t := t) (L := L)
  simpa [rts, hoistM] using this
 | .al s' c' x :: L => by
  have := hoistM_rt (i := i) (c := c) (n := n) (d := d) (id := id) (m := m) (t := t) (L := L)
  simpa [rts, hoistM] using this
 | .rt id' m' t' :: L => by
  have ih := hoistM_rt (i := i) (c := c) (n := n) (d := d) (id := id) (m := m) (t := t) (L := L)
  simp only [rts, hoistM] at ih ⊢
  have hi : (if Nat.beq id' i = true then t'.put [] 0 c .j else t') = if id' = i then t'.put [] 0 c .j else t' := by
   by_cases h : id' = i
   ·subst h; simp
   ·rw [if_neg h, if_neg fun h' => h (Nat.eq_of_beq_eq_true h')]
  rw [hi, List.mem_cons, ih, E.rt.injEq]
  constructor
  ·rintro (⟨rfl, rfl, rfl⟩ | ⟨t0, h2, h3⟩)
   ·exact ⟨t', List.mem_cons_self .., rfl⟩
   ·exact ⟨t0, List.mem_cons_of_mem _ h2, h3⟩
  ·rintro ⟨t0, h2, h3⟩
   rcases List.mem_cons.1 h2 with h2 | h2
   ·cases h2; exact .inl ⟨rfl, rfl, h3⟩
   ·exact .inr ⟨t0, h2, h3⟩
theorem upd_at {n c : Nat} {f : Nat → Nat → T} {y : T} : ∀ {q : Path}, Okp (.s n 1 f) q → (∀ r, q ≠ (n, 0, c) :: r) → Okp (.s n 1 (upd f 0 c y)) q ∧ ∀ {n1 len : Nat} {f1 : Nat → Nat → T}, (T.s n 1 f).at q = .s n1 len f1 → ∃ f2, (T.s n 1 (upd f 0 c y)).at q = .s n1 len f2
  | [], _, _ => ⟨trivial, fun h => by simp only [T.at] at h ⊢; cases h; exact ⟨_, rfl⟩⟩
  | (n', k', c') :: q', ⟨hnn, hk, hc, hq⟩, hne => by
    subst hnn
    have hkc : ¬ (k' = 0 ∧ c' = c) := by
      rintro ⟨rfl, rfl⟩
      exact hne q' rfl
    have e : upd f 0 c y k' c' = f k' c' := by simp only [upd, if_neg hkc]
    refine ⟨⟨rfl, hk, hc, by rw [e]; exact hq⟩, fun h => ?_⟩
    simp only [T.at] at h ⊢
    rw [e]
    exact ⟨_, h⟩
theorem hd_cons {w : World} {h x : Value} {n k c b o : Nat} {q : Path} (h1 : adr h n k c = some ⟨b, o, none⟩) (h2 : w.cell? ⟨b, o, none⟩ = some x) : hd w h ((n, k, c) :: q) = hd w x q := by
 simp only [hd, h1, h2]
theorem Weak.hoist {N : Nat} {L : List E} (i c d : Nat) {n n1 len : Nat} {f f1 : Nat → Nat → T} (hi : rootL L i = some (.box, .s n 1 f)) (hc : c < n) (hf : f 0 c = .s n1 len f1) (hd : Nat.blt d base = true) (hn : (idsL L).contains d = false) : Weak N L (hoistL i c n d (.s n1 len f1) L) := fun cx a w hs => by
 obtain ⟨H, G, hr, hG⟩ := hs.rp
 have hi' := rootL_mem hi
 have hdn : ∀ {m t}, ¬ rts L d m t := fun {m t} h => by
  have : d ∈ idsL L := idsL_mem.2 ⟨m, t, h⟩
  simp [this] at hn
 have hdi : d ≠ i := fun e => hdn (e ▸ hi')
 have hdb : d < base := Nat.blt_eq.mp hd
 have hO := hr.own i _ _ hi' (by simp)
 obtain ⟨b0, o0, x0, Gx, g1, g2, g3, g4, g5, g6, g7, g8⟩ := hO.row (k := 0) (c := c) (by omega) hc
 obtain ⟨k1, -⟩ := g8 (w' := w) (S := fun _ _ => False) (y := .j) (x' := x0) (Gy := fun _ _ => False) (Chg.refl _ _) (fun _ _ h => h.elim) g2 ⟨g3.one, fun _ _ h => h⟩ (fun x y hg => hg.elim)
 rw [hf] at g3
 have hrt : ∀ {id m t}, rts (hoistL i c n d (.s n1 len f1) L) id m t → (id = d ∧ m = .row ∧ t = .s n1 len f1) ∨ (id = i ∧ m = .box ∧ t = .s n 1 (upd f 0 c .j)) ∨ (id ≠ i ∧ id ≠ d ∧ rts L id m t) := fun {id m t} h => by
  rcases List.mem_cons.1 h with h | h
  ·cases h; exact .inl ⟨rfl, rfl, rfl⟩
  rcases List.mem_cons.1 h with h | h
  ·cases h
  obtain ⟨t0, h2, h3⟩ := hoistM_rt.1 h
  by_cases e : id = i
  ·subst e
   obtain ⟨rfl, rfl⟩ := hr.one _ _ _ _ _ h2 hi'
   rw [if_pos rfl] at h3
   exact .inr (.inl ⟨rfl, rfl, h3⟩)
  ·rw [if_neg e] at h3
   subst h3
   exact .inr (.inr ⟨e, fun e' => hdn (e' ▸ h2), h2⟩)
 have hrd : rts (hoistL i c n d (.s n1 len f1) L) d .row (.s n1 len f1) := List.mem_cons_self ..
 have hri : rts (hoistL i c n d (.s n1 len f1) L) i .box (.s n 1 (upd f 0 c .j)) := List.mem_cons_of_mem _ (List.mem_cons_of_mem _ (hoistM_rt.2 ⟨_, hi', by rw [if_pos rfl]; rfl⟩))
 have hro : ∀ {id m t}, id ≠ i → rts L id m t → rts (hoistL i c n d (.s n1 len f1) L) id m t := fun {id m t} h1 h => List.mem_cons_of_mem _ (List.mem_cons_of_mem _ (hoistM_rt.2 ⟨t, h, by rw [if_neg h1]⟩))
 let H' : Nat → Value := updN H d x0
 have hHd : H' d = x0 := by simp [H', updN]
 have hHo : ∀ {id m t}, rts L id m t → H' id = H id := fun {id m t} h => by
  have : id ≠ d := fun e => hdn (e ▸ h)
  simp [H', updN, this]
 -- a way through the cell, or past it
 have hway : ∀ {id m t q}, rts L id m t → Okp t q → ∃ m' t', rts (hoistL i c n d (.s n1 len f1) L) (unsP i (n, 0, c) d id q).1 m' t' ∧ Okp t' (unsP i (n, 0, c) d id q).2 ∧ (∀ {n2 l2 : Nat} {f2 : Nat → Nat → T}, t.at q = .s n2 l2 f2 → ∃ f3, t'.at (unsP i (n, 0, c) d id q).2 = .s n2 l2 f3) ∧ VM.hd w (H' (unsP i (n, 0, c) d id q).1) (unsP i (n, 0, c) d id q).2 = VM.hd w (H id) q := fun {id m t q} h hq => by
  have hpast : (∀ r, id = i → q ≠ (n, 0, c) :: r) → ∃ m' t', rts (hoistL i c n d (.s n1 len f1) L) id m' t' ∧ Okp t' q ∧ (∀ {n2 l2 : Nat} {f2 : Nat → Nat → T}, t.at q = .s n2 l2 f2 → ∃ f3, t'.at q = .s n2 l2 f3) ∧ VM.hd w (H' id) q = VM.hd w (H id) q := fun hav => by
   rw [hHo h]
   by_cases e : id = i
   ·subst e
    obtain ⟨rfl, rfl⟩ := hr.one _ _ _ _ _ h hi'
    obtain ⟨p1, p2⟩ := upd_at (y := .j) hq fun r => hav r rfl
    exact ⟨_, _, hri, p1, fun hh => p2 hh, rfl⟩
   ·exact ⟨m, t, hro e h, hq, fun hh => ⟨_, hh⟩, rfl⟩
  cases q with
  | nil => exact hpast fun r _ e => by cases e
  | cons e q =>
   simp only [unsP]
   by_cases hh : (Nat.beq id i && eqE e (n, 0, c)) = true
   ·rw [if_pos hh]
    simp only [Bool.and_eq_true] at hh
    have e1 := Nat.eq_of_beq_eq_true hh.1
    have e2 := eqE_eq hh.2
    subst e1 e2
    obtain ⟨rfl, rfl⟩ := hr.one _ _ _ _ _ h hi'
    obtain ⟨_, _, _, hq'⟩ := hq
    rw [hf] at hq'
    refine ⟨_, _, hrd, hq', fun hh => ⟨_, by simpa only [T.at, hf] using hh⟩, ?_⟩
    rw [hHd, hd_cons g1 g2]
   ·rw [if_neg hh]
    refine hpast fun r h1 h2 => hh ?_
    cases h2
    rw [h1]
    simp [eqE_refl]
 have hleaf : ∀ x v, X.leaf x → VR (rts L) H w x v → VR (rts (hoistL i c n d (.s n1 len f1) L)) H' w (x.uns i (n, 0, c) d) v := fun x v hl h => by
  cases x with
  | p id q n2 k c1 =>
   obtain ⟨m, t, h1, h2, ⟨l2, f2, h3, h4, h5⟩, hv, A1, h6, h7⟩ := h
   obtain ⟨m', t', p1, p2, p3, p4⟩ := hway h1 h2
   obtain ⟨f3, p5⟩ := p3 h3
   exact ⟨m', t', p1, p2, ⟨l2, f3, p5, h4, h5⟩, hv, A1, by rw [p4]; exact h6, h7⟩
  | h id q =>
   obtain ⟨m, t, h1, h2, ⟨n2, l2, f2, h3⟩, h6⟩ := h
   obtain ⟨m', t', p1, p2, p3, p4⟩ := hway h1 h2
   obtain ⟨f3, p5⟩ := p3 h3
   exact ⟨m', t', p1, p2, ⟨n2, l2, f3, p5⟩, by rw [p4]; exact h6⟩
  | a id q n2 lo l2 =>
   obtain ⟨m, t, h1, h2, ⟨l, f2, h3, h4⟩, hv, h6, h7⟩ := h
   obtain ⟨m', t', p1, p2, p3, p4⟩ := hway h1 h2
   obtain ⟨f3, p5⟩ := p3 h3
   exact ⟨m', t', p1, p2, ⟨l, f3, p5, h4⟩, hv, by rw [p4]; exact h6, h7⟩
  | _ => exact hl.elim
 refine ⟨hs.siz, hs.dfr, hs.chg, H', updN (updN G i fun a p => (G i a p ∧ ¬ Gx a p) ∨ False) d Gx, ⟨fun id m t m' t' h1 h2 => ?_, fun id m t h1 h2 => ?_, fun id t h1 => ?_, fun id t h1 => ?_, fun id t h1 => ?_, fun id m t id' m' t' h1 h2 hne2 hm x y hx hy => ?_, fun t x h => ?_, fun id c1 x h => ?_⟩, fun id m t h1 h2 x y hx => ?_, fun id m t h1 h2 => ?_⟩
 ·rcases hrt h1 with ⟨rfl, rfl, rfl⟩ | ⟨rfl, rfl, rfl⟩ | ⟨a1, a2, a3⟩ <;> rcases hrt h2 with ⟨b1, b2, b3⟩ | ⟨b1, b2, b3⟩ | ⟨b1, b2, b3⟩
  ·exact ⟨b2.symm, b3.symm⟩
  ·exact absurd b1 hdi
  ·exact absurd rfl b2
  ·exact absurd b1.symm hdi
  ·exact ⟨b2.symm, b3.symm⟩
  ·exact absurd rfl b1
  ·exact absurd b1 a2
  ·exact absurd b1 a1
  ·exact hr.one _ _ _ _ _ a3 b3
 ·rcases hrt h1 with ⟨rfl, rfl, rfl⟩ | ⟨rfl, rfl, rfl⟩ | ⟨a1, a2, a3⟩
  ·simp only [updN, if_true]; rw [hHd]; exact g3
  ·simp only [updN, if_neg (Ne.symm hdi), if_true]; rw [hHo hi']; exact k1
  ·simp only [updN, if_neg a1, if_neg a2]; rw [hHo a3]; exact hr.own _ _ _ a3 h2
 ·rcases hrt h1 with ⟨_, h, _⟩ | ⟨_, h, _⟩ | ⟨a1, a2, a3⟩
  ·cases h
  ·cases h
  ·simp only [updN, if_neg a1, if_neg a2]; rw [hHo a3]; exact hr.ro _ _ a3
 ·rcases hrt h1 with ⟨_, h, _⟩ | ⟨_, h, _⟩ | ⟨a1, a2, a3⟩
  ·cases h
  ·cases h
  ·simp only [updN, if_neg a1, if_neg a2]; exact hr.rold _ _ a3
 ·rcases hrt h1 with ⟨_, h, _⟩ | ⟨_, _, rfl⟩ | ⟨a1, a2, a3⟩
  ·cases h
  ·exact ⟨_, _, rfl⟩
  ·exact hr.box _ _ a3
 ·rcases hrt h1 with ⟨rfl, rfl, rfl⟩ | ⟨rfl, rfl, rfl⟩ | ⟨a1, a2, a3⟩ <;> rcases hrt h2 with ⟨b1, b2, b3⟩ | ⟨b1, b2, b3⟩ | ⟨b1, b2, b3⟩
  ·exact hne2 b1.symm
  ·subst b1
   simp only [updN, if_true] at hx
   simp only [updN, if_neg (Ne.symm hdi), if_true] at hy
   rcases hy with ⟨_, hy⟩ | hy
   ·exact hy hx
   ·exact hy
  ·simp only [updN, if_true] at hx
   simp only [updN, if_neg b1, if_neg b2] at hy
   exact hr.dis _ _ _ _ _ _ hi' b3 (Ne.symm b1) (by simp) x y (g6 x y hx) hy
  ·subst b1
   simp only [updN, if_true] at hy
   simp only [updN, if_neg (Ne.symm hdi), if_true] at hx
   rcases hx with ⟨_, hx⟩ | hx
   ·exact hx hy
   ·exact hx
  ·exact hne2 b1.symm
  ·simp only [updN, if_neg (Ne.symm hdi), if_true] at hx
   simp only [updN, if_neg b1, if_neg b2] at hy
   rcases hx with ⟨hx, _⟩ | hx
   ·exact hr.dis _ _ _ _ _ _ hi' b3 hne2 (by simp) x y hx hy
   ·exact hx
  ·subst b1
   simp only [updN, if_true] at hy
   simp only [updN, if_neg a1, if_neg a2] at hx
   exact hr.dis _ _ _ _ _ _ hi' a3 (Ne.symm a1) (by simp) x y (g6 x y hy) hx
  ·subst b1
   simp only [updN, if_neg (Ne.symm hdi), if_true] at hy
   simp only [updN, if_neg a1, if_neg a2] at hx
   rcases hy with ⟨hy, _⟩ | hy
   ·exact hr.dis _ _ _ _ _ _ hi' a3 (Ne.symm a1) (by simp) x y hy hx
   ·exact hy
  ·simp only [updN, if_neg a1, if_neg a2] at hx
   simp only [updN, if_neg b1, if_neg b2] at hy
   exact hr.dis _ _ _ _ _ _ a3 b3 hne2 hm x y hx hy
 ·rcases List.mem_cons.1 h with h | h
  ·cases h
  rcases List.mem_cons.1 h with h | h
  ·cases h
  obtain ⟨x', h1, rfl⟩ := hoistM_sl h
  exact VR.unsOk hleaf (hr.sl t x' h1)
 ·rcases List.mem_cons.1 h with h | h
  ·cases h
  rcases List.mem_cons.1 h with h | h
  ·cases h
   refine ⟨n, _, hri, hc, ⟨b0, o0, none⟩, x0, ?_, g2, ⟨_, _, hrd, trivial, ⟨_, _, _, rfl⟩, by rw [hHd]; rfl⟩⟩
   rw [hHo hi']
   obtain ⟨a0, l0, c0, q1, q2⟩ := adr_some g1
   rw [q1] at g1 ⊢
   rw [← g1]
   simp [adr]
  obtain ⟨x', h1, rfl⟩ := hoistM_al h
  obtain ⟨n3, f3, p1, p2, A3, v3, p3, p4, p5⟩ := hr.al id c1 x' h1
  by_cases e : id = i
  ·subst e
   have := (hr.one _ _ _ _ _ hi' p1).2
   cases this
   exact ⟨n, _, hri, p2, A3, v3, by rw [hHo hi']; exact p3, p4, VR.unsOk hleaf p5⟩
  ·exact ⟨n3, f3, hro e p1, p2, A3, v3, by rw [hHo p1]; exact p3, p4, VR.unsOk hleaf p5⟩
 ·rcases hrt h1 with ⟨rfl, rfl, rfl⟩ | ⟨rfl, rfl, rfl⟩ | ⟨a1, a2, a3⟩
  ·simp only [updN, if_true] at hx
   exact hG.1 _ _ _ hi' (by simp) x y (g6 x y hx)
  ·simp only [updN, if_neg (Ne.symm hdi), if_true] at hx
   rcases hx with ⟨hx, _⟩ | hx
   ·exact hG.1 _ _ _ hi' (by simp) x y hx
   ·exact hx.elim
  ·simp only [updN, if_neg a1, if_neg a2] at hx
   exact hG.1 _ _ _ a3 h2 x y hx
 ·rcases hrt h2 with ⟨rfl, rfl, rfl⟩ | ⟨rfl, rfl, rfl⟩ | ⟨a1, a2, a3⟩
  ·omega
  ·rw [hHo hi']; exact hG.2 _ _ _ h1 hi'
  ·rw [hHo a3]; exact hG.2 _ _ _ h1 a3
open Go Go.RowKit
open Go Go.RowKit
section
variable {P : Program} {N : Nat} {L L' : List E} {Q : Exit → List E → Prop} {ops : Array Oper} {rest : List Oper} {o : Oper} {qs pend todo : List Nat} {S : Array Bool}
theorem qq {d : Nat} {x : X} {gb : Bool} (h : Qt P o L x) (k : AWL P N ops rest Q (putL L d x)) (hw : wantL ops L o = some gb := by exact rfl) (hgb : gb = true := by exact rfl) (hd : o.dst = some d := by exact rfl) (hN : d < N := by decide) : AWL P N ops (o :: rest) Q L := AWL.q hw hgb hd hN h k
theorem nm (k : AWL P N ops rest Q L') (h : L = L' := by simp only [go_sem, Int.reduceToNat, Nat.reduceLT, reduceIte, Nat.reduceEqDiff, Nat.reduceAdd, Nat.reduceMul, Nat.reduceBEq, reduceCtorEq]; rfl) : AWL P N ops rest Q L := AWL.nrm h k
theorem nl (k : Q .normal L') (h : L = L' := by simp only [go_sem, Int.reduceToNat, Nat.reduceLT, reduceIte, Nat.reduceEqDiff, Nat.reduceAdd, Nat.reduceMul, Nat.reduceBEq, reduceCtorEq]; rfl) : AWL P N ops [] Q L := AWL.nilE h k
theorem na (k : AWA P N ops qs Q S pend todo L') (h : L = L' := by first | (simp only [go_sem, Int.reduceToNat, Nat.reduceLT, reduceIte, Nat.reduceEqDiff, Nat.reduceAdd, Nat.reduceMul, Nat.reduceBEq, reduceCtorEq]; rfl) | rfl) : AWA P N ops qs Q S pend todo L := AWA.nrm h k
theorem tk (i : Nat) {x : X} {d : Nat} {o : Oper} {gb : Bool} (ho : ops[i]? = some o) (h : Qt P o L x) (k : AWA P N ops qs Q (S.setIfInBounds i true) (i :: pend) [] (putL L d x)) (hd : o.dst = some d := by exact rfl) (hq' : qs.contains i = true := by exact rfl) (hr : (Region.ready .any ops S).contains i = true := by decide +kernel) (hw : wantL ops L o = some gb := by exact rfl) (hgb : gb = true := by exact rfl) : AWA P N ops qs Q S pend [] L :=
 AWA.take i ho hd hq' hr (.on hw hgb h) k
theorem tg (i : Nat) {x : X} {d : Nat} {o : Oper} {gb : Bool} (ho : ops[i]? = some o) (hgb : gb = true) (h : Qt P o L x) (k : AWA P N ops qs Q (S.setIfInBounds i true) (i :: pend) [] (putL L d x)) (hd : o.dst = some d := by exact rfl) (hq' : qs.contains i = true := by exact rfl) (hr : (Region.ready .any ops S).contains i = true := by decide +kernel) (hw : wantL ops L o = some gb := by exact rfl) : AWA P N ops qs Q S pend [] L :=
 AWA.take i ho hd hq' hr (.on hw hgb h) k
theorem tf (i : Nat) {d : Nat} {o : Oper} {gb : Bool} (hgb : gb = false) (k : AWA P N ops qs Q (S.setIfInBounds i true) (i :: pend) [] (putL L d (.v undef))) (ho : ops[i]? = some o := by exact rfl) (hd : o.dst = some d := by exact rfl) (hq' : qs.contains i = true := by exact rfl) (hr : (Region.ready .any ops S).contains i = true := by decide +kernel) (hw : wantL ops L o = some gb := by exact rfl) : AWA P N ops qs Q S pend [] L :=
 AWA.take i ho hd hq' hr (.off hw hgb) k
theorem nz (k : Q .normal L') (hr : Region.ready .any ops S = [] := by decide +kernel) (h : L = L' := by first | (simp only [go_sem, Int.reduceToNat, Nat.reduceLT, reduceIte, Nat.reduceEqDiff, Nat.reduceAdd, Nat.reduceMul, Nat.reduceBEq, reduceCtorEq]; rfl) | rfl) : AWA P N ops qs Q S pend [] L := AWA.nilE hr h k
theorem ss {gb : Bool} (k : AWL P N ops rest Q L') (h : Stp P N o L L' := by first | exact Stp.storeA rfl rfl rfl rfl (by decide) rfl | exact Stp.store rfl rfl (by simp) rfl rfl rfl (by decide) rfl) (hw : wantL ops L o = some gb := by exact rfl) (hgb : gb = true := by exact rfl) : AWL P N ops (o :: rest) Q L := AWL.step hw hgb h k
theorem sp {gb : Bool} (h : Stp P N o L L') (k : AWL P N ops rest Q L') (hw : wantL ops L o = some gb := by exact rfl) (hgb : gb = true := by exact rfl) : AWL P N ops (o :: rest) Q L := AWL.step hw hgb h k
theorem jd (h : Q .normal L) : AW P N .skip Q L := AW.skip h
end
section
variable {P : Program} {L : List E} {dst : Option Tmp} {ty : TypeId} {pos : String} {af : Array Edge} {g : Option (Nat × Bool)}
theorem fA {t : TypeId} {x : Operand} {i off id : Nat} {q : Path} {n k c : Nat} {m : M} {T0 : T} {len : Nat} {f : Nat → Nat → T} (hF : Fld P t i off) (hx : evX L x = .p id q n k c := by exact rfl) (hR : rootL L id = some (m, T0) := by exact rfl) (hT : T0.at q = .s n len f := by exact rfl) (hc : c + off < n := by decide) : Qt P ⟨dst, .fieldAddr t x i, ty, pos, af, g⟩ L (.p id q n k (c + off)) := Qt.fieldAddr hx hF hR hT hc
end
theorem cnd : (∀ (p : Prop) [Decidable p], (decide p = true) = p) ∧ (∀ (p : Prop) [Decidable p], (decide p = false) = ¬ p) ∧ (∀ a b : Int, ((a != b) = true) = ¬ (a = b)) ∧ (∀ a b : Int, ((a == b) = true) = (a = b)) ∧ (∀ a b : Int, ((a == b) = false) = ¬ (a = b)) ∧ (∀ a b : Int, ((a != b) = false) = (a = b)) ∧
    (∀ b : Bool, ((!b) = true) = (b = false)) ∧ (∀ b : Bool, ((!b) = false) = (b = true)) ∧ (∀ a b : Bool, ((a && b) = true) = (a = true ∧ b = true)) ∧ (∀ a b : Bool, ((a || b) = true) = (a = true ∨ b = true)) ∧ (∀ a b : Bool, ((a && b) = false) = (a = false ∨ b = false)) ∧ (∀ a b : Bool, ((a || b) = false) = (a = false ∧ b = false)) ∧
    (∀ a b : Int, (¬ a < b) = (b ≤ a)) ∧ (∀ a b : Int, (¬ a ≤ b) = (b < a)) ∧ (∀ n : Nat, (n : Int).toNat = n) := by
  refine ⟨?_, ?_, ?_, ?_, ?_, ?_, ?_, ?_, ?_, ?_, ?_, ?_, ?_, ?_, ?_⟩ <;> intros <;> first | (simp; done) | (rename_i a b; cases a <;> cases b <;> simp)
section
variable {P : Program} {N : Nat} {L : List E} {Q : Exit → List E → Prop} {ops : Array Oper} {rest : List Oper} {d : Nat} {ty : TypeId} {pos : String} {af : Array Edge} {g : Option (Nat × Bool)}
theorem cv {f : FuncId} {cal : Operand} {caps : List X} {args : Array Operand} {tys : Array TypeId} {xs : List X} {ρ : List E} {m : Nat} {r : Value} {gb : Bool} (hE : Ent P f) (hcal : evX L cal = .f f caps) (hq : roXs L (args.toList.map (evX L) ++ caps) base = (xs, ρ, m)) (hc : Con P f xs ρ fun x _ => x = .v r)
  (k : AWL P N ops rest Q (putL L d (.v r))) (hN : d < N := by decide) (hw : wantL ops L ⟨some d, .call { callee := .value cal, args := args, argTypes := tys }, ty, pos, af, g⟩ = some gb := by exact rfl) (hgb : gb = true := by exact rfl) : AWL P N ops (⟨some d, .call { callee := .value cal, args := args, argTypes := tys }, ty, pos, af, g⟩ :: rest) Q L :=
 AWL.step hw hgb (Stp.callV rfl hN hE hcal hq hc) k
end
open Go Go.RowKit
open Go Go.RowKit
section
variable {P : Program} {N : Nat} {L L' : List E} {Q : Exit → List E → Prop} {ops : Array Oper} {l rest : List Oper} {o : Oper} {qs pend todo : List Nat} {S : Array Bool}
theorem Rf {id : Nat} {m : M} {t : T} (h : rootL L id = some (m, t)) : ∃ t0, rootL L id = some (m, t0) ∧ t0.sim t := ⟨t, h, T.sim_refl t⟩
theorem st1 {a b : X} (h : a = b := by simp only [slotL, reduceIte, Nat.reduceEqDiff]; first | rfl | (rw [IntWalk.i64_in _ (by omega)]; rfl)) : a = b := h
theorem AW.loopW {c : Code} {ι : Type} (J : ι → List E) (μ : ι → Nat) (i : ι) (hw : Weak N L (J i)) (h : ∀ i, AW P N c (thenQ (fun L => ∃ i', Weak N L (J i') ∧ μ i' < μ i) Q) (J i)) : AW P N (.loop c) Q L := AW.weak hw (AW.loop J μ i h)
theorem qg {d : Nat} {x : X} {gb : Bool} (hgb : gb = true) (h : Qt P o L x) (k : AWL P N ops rest Q (putL L d x)) (hw : wantL ops L o = some gb := by exact rfl) (hd : o.dst = some d := by exact rfl) (hN : d < N := by decide) : AWL P N ops (o :: rest) Q L := AWL.q hw hgb hd hN h k
theorem og {d : Nat} {gb : Bool} (hgb : gb = false) (k : AWL P N ops rest Q (putL L d (.v undef))) (hw : wantL ops L o = some gb := by exact rfl) (hd : o.dst = some d := by exact rfl) (hN : d < N := by decide) : AWL P N ops (o :: rest) Q L := AWL.out hw hgb hd hN k
theorem wj (d : Nat) (ds : List Nat) {v v' : Value} {LB : List E} (e : v = v') (hB : VM.dropS L ds = LB) (K : AWL P N ops l Q (putL LB d (.v v'))) (h : slotL L d = .v v := by exact rfl) : AWL P N ops l Q L := AWL.weak (Weak.join h e hB) K
theorem a1 (j : Nat) {L1 : List E} {gb : Bool} (pend' D : List Nat) (ho : ops[j]? = some o) (hgb : gb = true) (h : Stp P N o L L1) (k : AWA P N ops qs Q (S.setIfInBounds j true) pend' pend' L1) (hr : Region.ready .any ops S = [j] := by decide +kernel) (hw : wantL ops L o = some gb := by exact rfl)
  (hD : chainB ops [j] D = true := by decide +kernel) (hp : (pend.all fun i => pend'.contains i || D.contains i) = true := by decide +kernel) (hp' : (pend'.all fun i => pend.contains i) = true := by decide +kernel) : AWA P N ops qs Q S pend [] L := AWA.one j pend' D hr ho hw hgb hD hp hp' h k
theorem o1 (j : Nat) {d : Nat} {gb : Bool} (pend' D : List Nat) (ho : ops[j]? = some o) (hgb : gb = false) (k : AWA P N ops qs Q (S.setIfInBounds j true) pend' pend' (putL L d (.v undef))) (hr : Region.ready .any ops S = [j] := by decide +kernel) (hw : wantL ops L o = some gb := by exact rfl)
  (hD : chainB ops [j] D = true := by decide +kernel) (hp : (pend.all fun i => pend'.contains i || D.contains i) = true := by decide +kernel) (hp' : (pend'.all fun i => pend.contains i) = true := by decide +kernel) (hd : o.dst = some d := by exact rfl) (hN : d < N := by decide) : AWA P N ops qs Q S pend [] L := AWA.oneOff j pend' D hr ho hw hgb hD hp hp' hd hN k
end
open Go Go.RowKit Go.Sort
theorem own_one {w : World} {t : T} {F : FP} {v : Value} (h : Own w t F v) {w' : World} : Own w' .j (fun _ _ => False) v := ⟨h.one, fun _ _ h => h⟩
def newR (t' : T) (cs : List Nat) : List E := .rt 0 .row t' :: cs.map fun id => .rt id .row .j
theorem newR_mem {t' : T} {cs : List Nat} {id : Nat} {m : M} {t : T} : rts (newR t' cs) id m t ↔ (id = 0 ∧ m = .row ∧ t = t') ∨ (id ∈ cs ∧ m = .row ∧ t = .j) := by
 simp only [rts, newR, List.mem_cons, List.mem_map, E.rt.injEq]
 constructor
 ·rintro (⟨a, b, c⟩ | ⟨i, h, a, b, c⟩)
  ·exact .inl ⟨a, b, c⟩
  ·exact .inr ⟨a ▸ h, b.symm, c.symm⟩
 ·rintro (⟨a, b, c⟩ | ⟨h, b, c⟩)
  ·exact .inl ⟨a, b, c⟩
  ·exact .inr ⟨id, h, rfl, b.symm, c.symm⟩
theorem row_new {ρ0 : List E} {w w' : World} {H : Nat → Value} {G : Nat → FP} {t' : T} {F' : FP} {v' : Value} {S : FP} (cs : List Nat) (hr : Rp ρ0 (fun _ => undef) H G w) (hcs : ∀ id ∈ cs, base ≤ id ∧ ∃ m t, m ≠ .ro ∧ rts ρ0 id m t)
  (hC : Chg S w w') (hS : ∀ a o, S a o → ∃ id m t, rts ρ0 id m t ∧ m ≠ .ro ∧ G id a o) (hO : Own w' t' F' v') (hs : t'.isS = true) (hF : ∀ a o, F' a o → (∃ id m t, rts ρ0 id m t ∧ m ≠ .ro ∧ G id a o) ∨ w.heap.size ≤ a) :
  ∃ x L H' G' val, RetW (.h 0 []) [(0, .row, t')] (cs.map fun id => (id, T.j)) x L ∧ Rp L val H' G' w' ∧ VR (rts L) H' w' x v' ∧
   Chg (fun a o => ∃ id m t, rts ρ0 id m t ∧ m ≠ .ro ∧ G id a o) w w' ∧
   (∀ id m t, rts L id m t → m ≠ .ro → ∀ a o, G' id a o → (∃ id m t, rts ρ0 id m t ∧ m ≠ .ro ∧ G id a o) ∨ w.heap.size ≤ a) ∧
   ∀ id m t, base ≤ id → rts L id m t → H' id = H id := by
 obtain ⟨n, len, f, rfl⟩ := T.isS_eq hs
 have hb0 : ∀ id ∈ cs, id ≠ 0 := fun id h e => by have := (hcs id h).1; rw [e, base] at this; omega
 have h0 : rts (newR (.s n len f) cs) 0 .row (.s n len f) := newR_mem.2 (.inl ⟨rfl, rfl, rfl⟩)
 refine ⟨.h 0 [], newR (.s n len f) cs, updN H 0 v', fun id => if id = 0 then F' else fun _ _ => False, fun _ => undef, ⟨fun n => n, rfl, fun _ _ => rfl, by simp, ?_, ?_⟩, ?_, ?_, hC.mono fun a o _ h => hS a o h, ?_, ?_⟩
 ·intro r hr'
  cases List.mem_singleton.1 hr'
  exact ⟨by simp, h0, by simp [base]⟩
 ·intro p hp
  obtain ⟨id, h, rfl⟩ := List.mem_map.1 hp
  exact newR_mem.2 (.inr ⟨h, rfl, rfl⟩)
 ·refine ⟨fun id m t m' t' h h' => ?_, fun id m t h _ => ?_, fun id t h => ?_, fun id t h => ?_, fun id t h => ?_, fun id m t id' m' t' h h' hne _ x y hx hy => ?_, fun t x h => ?_, fun id c x h => ?_⟩
  ·rcases newR_mem.1 h with ⟨a1, a2, a3⟩ | ⟨a1, a2, a3⟩ <;> rcases newR_mem.1 h' with ⟨b1, b2, b3⟩ | ⟨b1, b2, b3⟩
   ·exact ⟨a2.trans b2.symm, a3.trans b3.symm⟩
   ·exact absurd a1 (hb0 id b1)
   ·exact absurd b1 (hb0 id a1)
   ·exact ⟨a2.trans b2.symm, a3.trans b3.symm⟩
  ·rcases newR_mem.1 h with ⟨rfl, rfl, rfl⟩ | ⟨a1, rfl, rfl⟩
   ·simpa [updN] using hO
   ·have hne := hb0 id a1
    obtain ⟨_, m, t, g1, g2⟩ := hcs id a1
    simp only [updN, if_neg hne]
    exact own_one (hr.own id m t g2 g1)
  ·rcases newR_mem.1 h with ⟨_, h, _⟩ | ⟨_, h, _⟩ <;> cases h
  ·rcases newR_mem.1 h with ⟨_, h, _⟩ | ⟨_, h, _⟩ <;> cases h
  ·rcases newR_mem.1 h with ⟨_, h, _⟩ | ⟨_, h, _⟩ <;> cases h
  ·rcases newR_mem.1 h with ⟨rfl, _, _⟩ | ⟨a1, _, _⟩
   ·rw [if_neg (Ne.symm hne)] at hy; exact hy
   ·rw [if_neg (hb0 id a1)] at hx; exact hx
  ·simp [newR] at h
  ·simp [newR] at h
 ·exact ⟨.row, _, h0, trivial, ⟨n, len, f, rfl⟩, by simp [hd, updN]⟩
 ·intro id m t h _ a o hg
  rcases newR_mem.1 h with ⟨rfl, _, _⟩ | ⟨a1, _, _⟩
  ·rw [if_pos rfl] at hg; exact hF a o hg
  ·rw [if_neg (hb0 id a1)] at hg; exact hg.elim
 ·intro id m t hb h
  have : id ≠ 0 := by rw [base] at hb; omega
  simp [updN, this]
theorem own_ints {w : World} {b off cap sz : Nat} {l : List Int} (hc : l.length ≤ cap) (hm : cap ≤ maxLen) (hk : Kd w b sz) (hsz : off + cap ≤ sz) (hcell : ∀ k, k < l.length → w.cell? ⟨b, off + k, none⟩ = some (iv (l.getD k 0))) : Own w (tr l) (fun x _ => 0 < cap ∧ x = b) (.slice (some ⟨b, off, none⟩) l.length cap) := by
 refine ⟨by decide, _, cap, rfl, hc, hm, b, off, fun k _ => iv (l.getD k 0), fun _ _ _ _ => False, fun _ => ⟨rfl, sz, hk, ?_⟩, ?_, ?_, ?_, ?_⟩
 ·have : cap * En.n Int = cap := Nat.mul_one cap
  omega
 ·intro k c hk' hc'
  have hc' : c < 1 := hc'
  obtain rfl : c = 0 := by omega
  rw [show k * En.n Int + 0 = k from Nat.mul_one k]
  exact ⟨hcell k hk', rfl, rfl, fun _ _ h => h⟩
 ·intros; assumption
 ·intro _ _ _ _ _ _ h; exact h.elim
 ·intro x y
  constructor
  ·exact fun h => .inl h
  ·rintro (h | ⟨_, _, _, _, h⟩)
   ·exact h
   ·exact h.elim
open Go Go.RowKit Go.Sort Go.Shelf Go.Proofs
open Go Go.RowKit Go.Sort Go.Shelf Go.Proofs
open Go Go.RowKit
def onlyV : List X → Bool
 | [] => true
 | .v _ :: r => onlyV r
 | _ => false
theorem onlyV_ok {R R' : RT} {H H' : Nat → Value} {w : World} : ∀ {xs : List X} {vs : List Value}, onlyV xs = true → VRs R H w xs vs → VRs R' H' w xs vs
 | [], [], _, _ => trivial
 | .v x :: xs, v :: vs, h, ⟨h1, h2⟩ => ⟨h1, onlyV_ok (xs := xs) h h2⟩
 | _ :: _, [], _, h => h.elim
 | [], _ :: _, _, h => h.elim
 | .j :: _, _ :: _, h, _ => by cases h
 | .c :: _, _ :: _, h, _ => by cases h
 | .p .. :: _, _ :: _, h, _ => by cases h
 | .h .. :: _, _ :: _, h, _ => by cases h
 | .a .. :: _, _ :: _, h, _ => by cases h
 | .g _ :: _, _ :: _, h, _ => by cases h
 | .t _ :: _, _ :: _, h, _ => by cases h
 | .f .. :: _, _ :: _, h, _ => by cases h
section
variable {P : Program} {N : Nat} {L : List E} {dst : Option Tmp} {ty : TypeId} {pos : String} {af : Array Edge} {g : Option (Nat × Bool)} {d : Nat}
def alC (al : Bool) (i cd : Nat) (L : List E) : List E := if al = true then .al i 0 (.h cd []) :: L else L
end
section
variable {P : Program} {N : Nat} {Q : Exit → List E → Prop} {L : List E} {ops : Array Oper} {rest : List Oper} {o : Oper} {K : List E → Prop}
variable {qs pend todo : List Nat} {S : Array Bool}
end
def curF (i h : Int) : Nat → Nat → T := fun _ c => match c with | 0 => .j | 1 => .v (iv i) | 2 => .v (iv h) | _ => .j
theorem curF0 (i h : Int) (k : Nat) : curF i h k 0 = .j := rfl
theorem curF1 (i h : Int) (k : Nat) : curF i h k 1 = .v (iv i) := rfl
theorem curF2 (i h : Int) (k : Nat) : curF i h k 2 = .v (iv h) := rfl
attribute [go_sem] curF0 curF1 curF2 alC repR
open Go Go.RowKit
theorem Weak.putX {N : Nat} {L : List E} {d : Nat} {x x' : X} (h : slotL L d = x) (hv : ∀ val H G w v, Rp L val H G w → VR (rts L) H w x v → VR (rts L) H w x' v) : Weak N L (putL L d x') := fun cx a w hs => by
 obtain ⟨H, G, hr, hG⟩ := hs.rp
 have h1 := ev_ok hr (.tmp d)
 simp only [evX, h] at h1
 have h2 := hv _ _ _ _ _ hr h1
 refine ⟨hs.siz, hs.dfr, hs.chg, H, G, (hr.put (d := d) (x := x') h2).val fun t => ?_, by rw [rts_put]; exact hG⟩
 split
 ·rename_i e; rw [e]; rfl
 ·rfl
def frzL (id : Nat) : List E → List E
 | [] => []
 | .rt i m t :: L => if i = id then .rt i .ro t :: frzL id L else .rt i m t :: frzL id L
 | .sl s x :: L => .sl s x :: frzL id L
 | .al i c x :: L => .al i c x :: frzL id L
attribute [go_sem] frzL
open Go Go.RowKit
open Go Go.RowKit
section
variable {P : Program} {N : Nat} {L : List E} {dst : Option Tmp} {ty : TypeId} {pos : String} {af : Array Edge} {g : Option (Nat × Bool)} {d : Nat}
end
open Go Go.RowKit
section
variable {P : Program} {N : Nat} {L : List E} {dst : Option Tmp} {ty : TypeId} {pos : String} {af : Array Edge} {g : Option (Nat × Bool)} {d : Nat}
end
open Go Go.RowKit
open Go Go.RowKit
section
variable {w w' : World}
variable {L : List E} {val : Nat → Value} {H : Nat → Value} {G : Nat → FP} {P : Program} {N : Nat} {cx : Cx} {a : Act} {Q : Exit → List E → Prop}
end
section
variable {P : Program} {ops : Array Oper} {N : Nat} {L : List E}
end
open Go Go.RowKit
section
variable {P : Program} {N : Nat} {L : List E} {Q : Exit → List E → Prop}
end
open Go Go.RowKit
section
variable {P : Program} {N : Nat} {L : List E} {Q : Exit → List E → Prop}
def pickX : X → Nat → X
 | .g xs, i => xs.getD i .j
 | x, _ => x
def setX : X → Nat → X → X
 | .g xs, i, y => .g (xs.set i y)
 | _, _, y => y
end
open Go Go.RowKit
section
variable {L : List E} {val : Nat → Value} {H : Nat → Value} {G : Nat → FP} {w : World}
end
section
variable {P : Program} {N : Nat} {L : List E} {dst : Option Tmp} {ty : TypeId} {pos : String} {af : Array Edge} {gd : Option (Nat × Bool)} {d : Nat}
end
open Go Go.RowKit Go.Sort
def X.plain : X → Bool
 | .v _ => true
 | .f _ [] => true
 | _ => false
theorem VR.plain {R R' : RT} {H H' : Nat → Value} {w : World} {x : X} {v : Value} (hx : x.plain = true) (h : VR R H w x v) : VR R' H' w x v := by
 cases x with
 | v y => exact h
 | f fn xs =>
  cases xs with
  | nil =>
   obtain ⟨vs, h1, h2⟩ := h
   exact ⟨vs, h1, by cases vs <;> first | trivial | exact h2.elim⟩
  | cons _ _ => cases hx
 | _ => cases hx
theorem VRs.plain {R R' : RT} {H H' : Nat → Value} {w : World} : ∀ {xs : List X} {vs : List Value}, xs.all X.plain = true → VRs R H w xs vs → VRs R' H' w xs vs
 | [], [], _, _ => trivial
 | _ :: _, _ :: _, hx, ⟨h1, h2⟩ => by
  simp only [List.all_cons, Bool.and_eq_true] at hx
  exact ⟨h1.plain hx.1, VRs.plain hx.2 h2⟩
 | [], _ :: _, _, h => h.elim
 | _ :: _, [], _, h => h.elim
open Go Go.RowKit
section
variable {L : List E} {val : Nat → Value} {H : Nat → Value} {G : Nat → FP} {w w' : World}
end
section
variable {P : Program} {w : World}
end
open Go Go.RowKit
section
variable {P : Program} {N : Nat} {L : List E} {dst : Option Tmp} {ty : TypeId} {pos : String} {af : Array Edge} {gd : Option (Nat × Bool)} {d : Nat}
end
open Go Go.RowKit
def mixF (old : Nat → Nat → T) (new : Nat → T) (k m : Nat) : Nat → Nat → T := fun k' c' => if k' = k ∧ c' < m then new c' else old k' c'
section
variable {old : Nat → Nat → T} {new : Nat → T} {k m n len : Nat}
theorem mixF_at {c : Nat} : mixF old new k m k c = if c < m then new c else old k c := by simp [mixF]
theorem mix_zero {f : Nat → Nat → T} : (T.s n len f).sim (T.s n len (mixF f new k 0)) := T.sim_of fun k' c' _ _ => by simp [mixF]
theorem mix_step {y : T} (h : y.sim (new m)) : (T.s n len (upd (mixF old new k m) k m y)).sim (T.s n len (mixF old new k (m + 1))) := ⟨_, rfl, fun k' c' _ _ => by
 simp only [upd, mixF]
 by_cases e : k' = k ∧ c' = m
 ·obtain ⟨rfl, rfl⟩ := e
  rw [if_pos ⟨rfl, rfl⟩, if_pos ⟨rfl, by omega⟩]
  exact h
 ·rw [if_neg e]
  by_cases e2 : k' = k ∧ c' < m
  ·rw [if_pos e2, if_pos ⟨e2.1, by omega⟩]; exact T.sim_refl _
  ·rw [if_neg e2, if_neg (by omega)]; exact T.sim_refl _⟩
end
def oldF {α : Type} [En α] (g h : Nat → α) (k : Nat) : Nat → Nat → T := fun j c => (En.cs (if j < k then g j else h j)).getD c .j
def newF {α : Type} [En α] (g : Nat → α) (k : Nat) : Nat → T := fun c => (En.cs (g k)).getD c .j
section
variable {α : Type} [En α] {g h : Nat → α} {k len : Nat}
theorem oldF_at {c : Nat} : oldF g h k k c = (En.cs (h k)).getD c .j := by simp [oldF]
theorem oldF_zero {l : List α} : (tr l).sim (T.s (En.n α) l.length (oldF g (fun j => l.getD j En.dflt) 0)) := T.sim_of fun i c _ _ => by simp [oldF]
theorem mix_next : (T.s (En.n α) len (mixF (oldF g h k) (newF g k) k (En.n α))).sim (T.s (En.n α) len (oldF g h (k + 1))) := T.sim_of fun i c _ hc => by
 by_cases e : i = k
 ·subst e
  rw [mixF_at, if_pos hc, oldF, if_pos (by omega)]; rfl
 ·have h1 : mixF (oldF g h k) (newF g k) k (En.n α) i c = oldF g h k i c := by simp [mixF, e]
  rw [h1]
  simp only [oldF]
  have : (if i < k + 1 then g i else h i) = if i < k then g i else h i := by
   by_cases h1 : i < k
   ·rw [if_pos h1, if_pos (by omega)]
   ·rw [if_neg h1, if_neg (by omega)]
  rw [this]
theorem oldF_full {β : Type} [Mk β] (l : List β) (k : Int) {j : Nat} {h : Nat → β} (hj : l.length ≤ j) : (T.s (En.n β) l.length (oldF (mkF l k) h j)).sim (tr (mkL l k)) := trMix_mk l k hj
end
theorem isS_j : T.isS .j = false := rfl
attribute [go_sem] mixF_at oldF_at keepN isS_j Bool.not_false Bool.not_true
open Go Go.RowKit Go.Sort
open Go Go.RowKit Go.Sort
open Go Go.RowKit
section
variable {N : Nat} {L : List E}
end
open Go Go.RowKit
section
variable {N : Nat} {L : List E}
end
theorem flatT_v (x : Go.Value) : flatT (.v x) = .v x := rfl
theorem flatT_tr {α : Type} [En α] (l : List α) : flatT (tr l) = .j := rfl
attribute [go_sem] flatT_v flatT_tr setX List.set_cons_zero List.set_cons_succ
open Go Go.RowKit
section
variable {P : Program} {L : List E} {dst : Option Tmp} {ty : TypeId} {pos : String} {af : Array Edge} {g : Option (Nat × Bool)}
end
def selX : Path → Nat → X → X
 | [], 0, x => (match x with | .j => .c | x => x)
 | _, _, _ => .c
theorem cellX_ji (L : List E) (id : Nat) (q : Path) (n k c : Nat) : cellX L id q n k c .j = selX q k (aliasL L id c) := by
 cases q with
 | nil => cases k <;> rfl
 | cons a q => rfl
theorem selX_j (q : Path) (k : Nat) : selX q k .j = .c := by
 cases q with
 | nil => cases k <;> rfl
 | cons a q => rfl
theorem selX_h (i : Nat) (p : Path) : selX [] 0 (.h i p) = .h i p := rfl
theorem selX_p (i : Nat) (p : Path) (n k c : Nat) : selX [] 0 (.p i p n k c) = .p i p n k c := rfl
theorem selX_a (i : Nat) (p : Path) (n k c : Nat) : selX [] 0 (.a i p n k c) = .a i p n k c := rfl
theorem selX_v (v : Go.Value) : selX [] 0 (.v v) = .v v := rfl
theorem selX_c : selX [] 0 .c = .c := rfl
attribute [go_sem] cellX_ji selX_j selX_h selX_p selX_a selX_v selX_c
open Go Go.RowKit
section
variable {P : Program} {N : Nat} {L L' : List E} {Q : Exit → List E → Prop} {ops : Array Oper} {rest : List Oper} {o : Oper} {qs pend todo : List Nat} {S : Array Bool} {d : Nat} {gb : Bool} {dst : Option Tmp} {x y : Operand} {t t2 ty : TypeId} {pos : String} {af : Array Edge} {g : Option (Nat × Bool)}
theorem sr {id : Nat} {l : List Oper} {c : Code} (h : AWL P N l.toArray l (thenQ (AW P N c Q) Q) L) : AW P N (.seq (.region id l.toArray false) c) Q L := AW.seq (AW.region h)
theorem sr2 {id : Nat} {l : List Oper} {c c2 : Code} (h : AWL P N l.toArray l (thenQ (AW P N c (thenQ (AW P N c2 Q) Q)) (thenQ (AW P N c2 Q) Q)) L) : AW P N (.seq (.seq (.region id l.toArray false) c) c2) Q L := AW.seq (AW.seq (AW.region h))
theorem qm (k : AWL P N ops rest Q (putL L d (evX L x))) (hw : wantL ops L ⟨dst, .move x, ty, pos, af, g⟩ = some gb := by exact rfl) (hgb : gb = true := by exact rfl) (hd : dst = some d := by exact rfl) (hN : d < N := by decide) : AWL P N ops (⟨dst, .move x, ty, pos, af, g⟩ :: rest) Q L := qq Qt.move k hw hgb hd hN
theorem qa (k : AWL P N ops rest Q (putL L d (evX L x))) (hw : wantL ops L ⟨dst, .assign x, ty, pos, af, g⟩ = some gb := by exact rfl) (hgb : gb = true := by exact rfl) (hd : dst = some d := by exact rfl) (hN : d < N := by decide) : AWL P N ops (⟨dst, .assign x, ty, pos, af, g⟩ :: rest) Q L := qq Qt.assign k hw hgb hd hN
theorem ql {id : Nat} {q : Path} {n k c len : Nat} {f : Nat → Nat → T} {m : M} {T0 : T} (hA : Ag P t false) (kk : AWL P N ops rest Q (putL L d (cellX L id q n k c (f k c)))) (hx : evX L x = .p id q n k c := by exact rfl) (hR : rootL L id = some (m, T0) := by exact rfl) (hT : T0.at q = .s n len f := by exact rfl) (hw : wantL ops L ⟨dst, .load t x, ty, pos, af, g⟩ = some gb := by exact rfl) (hgb : gb = true := by exact rfl) (hd : dst = some d := by exact rfl) (hN : d < N := by decide) : AWL P N ops (⟨dst, .load t x, ty, pos, af, g⟩ :: rest) Q L := qq (Qt.load1 hx hR hT hA) kk hw hgb hd hN
theorem qb {op : BinOp} {u v r : Value} (k : AWL P N ops rest Q (putL L d (.v r))) (hx : evX L x = .v u := by exact rfl) (hy : evX L y = .v v := by exact rfl) (hr : pureBin op u v = some r := by exact rfl) (hw : wantL ops L ⟨dst, .binOp op t x y t2, ty, pos, af, g⟩ = some gb := by exact rfl) (hgb : gb = true := by exact rfl) (hd : dst = some d := by exact rfl) (hN : d < N := by decide) : AWL P N ops (⟨dst, .binOp op t x y t2, ty, pos, af, g⟩ :: rest) Q L := qq (Qt.binOp hx hy hr) k hw hgb hd hN
theorem ba {op : BinOp} {u v r : Value} (k : AWL P N ops rest Q (putL L d (.v r))) (hx : evX L x = .v u := by exact rfl) (hy : evX L y = .v v := by exact rfl) (hr : pureBin op u v = some r := by first | exact pbAdd (by omega) | rfl) (hw : wantL ops L ⟨dst, .binOp op t x y t2, ty, pos, af, g⟩ = some gb := by exact rfl) (hgb : gb = true := by exact rfl) (hd : dst = some d := by exact rfl) (hN : d < N := by decide) : AWL P N ops (⟨dst, .binOp op t x y t2, ty, pos, af, g⟩ :: rest) Q L := qq (Qt.binOp hx hy hr) k hw hgb hd hN
theorem rt1 (s : Nat) {fn : Func} {post : X → List E → Prop} (hp : post (retX [slotL L s]) L) (hQ : endQ P fn post .ret L → Q .ret L := by exact fun hq => hq) (hr : fn.results.toList = [.tmp s] := by exact rfl) : AW P N .ret Q L := AW.ret (hQ (endQ_ret (by rw [hr]; exact .cons (.tmp s) .nil) hp))
theorem ae {i : Nat} {X0 : X} (ho : ops[i]? = some o) (h : Qt P o L X0) (k : AWA P N ops qs Q S pend todo (putL L d X0)) (hd : o.dst = some d := by exact rfl) (hp : pend.all (fun k => todo.contains k || k == i || !waits ops k i) = true := by decide +kernel) (hw : wantL ops L o = some gb := by exact rfl) (hgb : gb = true := by exact rfl) (hx : slotL L d = X0 := by exact rfl) : AWA P N ops qs Q S pend (i :: todo) L := AWA.againE ho hd hp (.on hw hgb h) hx k
theorem bx {zt : List T} [hT : TyI P t zt] (k : AWL P N ops rest Q (alsOf (idsL (delR L d)) d (srcs [] zt (evX L x).leaves) (evX L x).leaves 0 ++ putL (.rt d .box (rowT zt.length 1 (srcs [] zt (evX L x).leaves)) :: delR L d) d (.p d [] zt.length 0 0))) (hd : dst = some d := by exact rfl) (hN : d < N := by decide) (hb : d < base := by decide) (hx : (evX L x).flat = true := by exact rfl) (hl : (evX L x).leaves.length = zt.length := by exact rfl) (hz : zpos zt = true := by exact rfl) (ho : (evX L x).leaves.all X.one = true := by exact rfl) (hw : wantL ops L ⟨dst, .box t x, ty, pos, af, g⟩ = some gb := by exact rfl) (hgb : gb = true := by exact rfl) : AWL P N ops (⟨dst, .box t x, ty, pos, af, g⟩ :: rest) Q L := sp (Stp.boxB hd hN hb hx hl hz ho) k hw hgb
theorem qh {e : TypeId} {id : Nat} {q : Path} {n len : Nat} {f : Nat → Nat → T} {m : M} {T0 : T} {tt : TypeId} (hS : Sl P tt e) (k : AWL P N ops rest Q (putL L d (.v (iv len)))) (hx : evX L x = .h id q := by exact rfl) (hR : rootL L id = some (m, T0) := by exact rfl) (hT : T0.at q = .s n len f := by exact rfl) (hw : wantL ops L ⟨dst, .call { callee := .builtin .len, args := #[x], argTypes := #[tt] }, ty, pos, af, g⟩ = some gb := by exact rfl) (hgb : gb = true := by exact rfl) (hd : dst = some d := by exact rfl) (hN : d < N := by decide) : AWL P N ops (⟨dst, .call { callee := .builtin .len, args := #[x], argTypes := #[tt] }, ty, pos, af, g⟩ :: rest) Q L := qq (Qt.lenH hx hR hT hS) k hw hgb hd hN
theorem ix {e : TypeId} {id : Nat} {q : Path} {n len : Nat} {f : Nat → Nat → T} {kd : IntKind} {j : Int} {m : M} {T0 : T} (hS : Sl P t e) (hZ : Sz P e n) (hx : evX L x = .h id q := by exact rfl) (hR : rootL L id = some (m, T0) := by exact rfl) (hT : T0.at q = .s n len f := by exact rfl) (hi : evX L y = .v (.int kd j) := by exact rfl) (hn : 0 < n := by decide) (hj : 0 ≤ j ∧ j < len := by first | omega | grind only) : Qt P ⟨dst, .indexAddr t x y, ty, pos, af, g⟩ L (.p id q n j.toNat 0) := Qt.indexAddr hx hR hT hi hS hZ hn hj
theorem qG {id : Nat} {q : Path} {n k c len : Nat} {f : Nat → Nat → T} {sz : Nat} {m : M} {T0 : T} (hA : Ag P t true) (hZ : Sz P t sz) (kk : AWL P N ops rest Q (putL L d (.g (cellsX L id q n k c f sz)))) (hx : evX L x = .p id q n k c := by exact rfl) (hR : rootL L id = some (m, T0) := by exact rfl) (hT : T0.at q = .s n len f := by exact rfl) (hc : c + sz ≤ n := by decide) (hw : wantL ops L ⟨dst, .load t x, ty, pos, af, g⟩ = some gb := by exact rfl) (hgb : gb = true := by exact rfl) (hd : dst = some d := by exact rfl) (hN : d < N := by decide) : AWL P N ops (⟨dst, .load t x, ty, pos, af, g⟩ :: rest) Q L := qq (Qt.loadG hx hR hT hA hZ hc) kk hw hgb hd hN
theorem ns {R : Exit → List E → Prop} {id : Nat} {l : List Oper} {c : Code} (k : AWL P N l.toArray l (thenQ (AW P N c Q) Q) L') (h : L = L' := by simp only [go_sem, Int.reduceToNat, Nat.reduceLT, reduceIte, Nat.reduceEqDiff, Nat.reduceAdd, Nat.reduceMul, Nat.reduceBEq, reduceCtorEq]; rfl) (hR : AW P N (.seq (.region id l.toArray false) c) Q L' → R .normal L' := by exact fun hq => hq) : AWL P N ops [] R L := nl (hR (sr k)) h
theorem qn (k : Q .normal L') (hw : wantL ops L ⟨dst, .assign x, ty, pos, af, g⟩ = some gb := by exact rfl) (hgb : gb = true := by exact rfl) (hd : dst = some d := by exact rfl) (hN : d < N := by decide) (h : putL L d (evX L x) = L' := by simp only [go_sem, Int.reduceToNat, Nat.reduceLT, reduceIte, Nat.reduceEqDiff, Nat.reduceAdd, Nat.reduceMul, Nat.reduceBEq, reduceCtorEq]; rfl) : AWL P N ops [⟨dst, .assign x, ty, pos, af, g⟩] Q L := qa (nl k h) hw hgb hd hN
theorem qs' {R : Exit → List E → Prop} {id : Nat} {l : List Oper} {c : Code} (k : AWL P N l.toArray l (thenQ (AW P N c Q) Q) L') (hw : wantL ops L ⟨dst, .assign x, ty, pos, af, g⟩ = some gb := by exact rfl) (hgb : gb = true := by exact rfl) (hd : dst = some d := by exact rfl) (hN : d < N := by decide) (h : putL L d (evX L x) = L' := by simp only [go_sem, Int.reduceToNat, Nat.reduceLT, reduceIte, Nat.reduceEqDiff, Nat.reduceAdd, Nat.reduceMul, Nat.reduceBEq, reduceCtorEq]; rfl) (hR : AW P N (.seq (.region id l.toArray false) c) Q L' → R .normal L' := by exact fun hq => hq) : AWL P N ops [⟨dst, .assign x, ty, pos, af, g⟩] R L := qa (nl (hR (sr k)) h) hw hgb hd hN
theorem sA {zt : List T} [hT : TyI P t zt] (hd : dst = some d := by exact rfl) (hN : d < N := by decide) (hb : d < base := by decide) : Stp P N ⟨dst, .alloc t, ty, pos, af, g⟩ L (putL (.rt d .box (zbox zt) :: delR L d) d (.p d [] zt.length 0 0)) := Stp.alloc hd hN hb
theorem sS {e : TypeId} {len : Nat} {parts : Array (Nat × Operand)} {zt : List T} [hS : SlI P t e] [hT : TyI P e zt] {ys : List X} (hd : dst = some d := by exact rfl) (hN : d < N := by decide) (hb : d < base := by decide) (hf : fillX (fun i => some (i * zt.length, zt.length)) ((reps zt len).map T.toX) (evParts L parts) = some ys := by exact rfl) (hsm : len * zt.length ≤ 2 ^ 24 := by decide) (hyl : ys.length = len * zt.length := by exact rfl) (hz : zpos (reps zt len) = true := by exact rfl) (ho : ys.all X.one = true := by exact rfl) (hnd : (movedOf (srcs L (reps zt len) ys)).Nodup := by exact nodup_of rfl) : Stp P N ⟨dst, .buildSlice t len parts, ty, pos, af, g⟩ L (putL (.rt d .row (rowT zt.length len (srcs L (reps zt len) ys)) :: delR (delRs L (movedOf (srcs L (reps zt len) ys))) d) d (.h d [])) := Stp.buildSlice hd hN hb hf hsm hyl hz ho hnd
theorem cd {c : Operand} {c1 c2 : Code} {b : Bool} (ht : b = true → AW P N c1 Q L) (hf : b = false → AW P N c2 Q L) (hc : evX L c = .v (.bool b) := by exact rfl) : AW P N (.cond c c1 c2) Q L := AW.cond hc ht hf
theorem qr {R : Exit → List E → Prop} (s : Nat) {fn : Func} {post : X → List E → Prop} (hp : post (retX [slotL L' s]) L') (hw : wantL ops L ⟨dst, .assign x, ty, pos, af, g⟩ = some gb := by exact rfl) (hgb : gb = true := by exact rfl) (hd : dst = some d := by exact rfl) (hN : d < N := by decide) (h : putL L d (evX L x) = L' := by simp only [go_sem, Int.reduceToNat, Nat.reduceLT, reduceIte, Nat.reduceEqDiff, Nat.reduceAdd, Nat.reduceMul, Nat.reduceBEq, reduceCtorEq]; rfl) (hR : AW P N .ret Q L' → R .normal L' := by exact fun hq => hq) (hQ : endQ P fn post .ret L' → Q .ret L' := by exact fun hq => hq) (hr : fn.results.toList = [.tmp s] := by exact rfl) : AWL P N ops [⟨dst, .assign x, ty, pos, af, g⟩] R L := qn (hR (rt1 s hp hQ hr)) hw hgb hd hN h
theorem nc {R : Exit → List E → Prop} {c : Operand} {c1 c2 : Code} {b : Bool} (ht : b = true → AW P N c1 Q L') (hf : b = false → AW P N c2 Q L') (h : L = L' := by simp only [go_sem, Int.reduceToNat, Nat.reduceLT, reduceIte, Nat.reduceEqDiff, Nat.reduceAdd, Nat.reduceMul, Nat.reduceBEq, reduceCtorEq]; rfl) (hR : AW P N (.cond c c1 c2) Q L' → R .normal L' := by exact fun hq => hq) (hc : evX L' c = .v (.bool b) := by exact rfl) : AWL P N ops [] R L := nl (hR (cd ht hf hc)) h
theorem mn (k : AWL P N ops rest Q L') (hw : wantL ops L ⟨dst, .move x, ty, pos, af, g⟩ = some gb := by exact rfl) (hgb : gb = true := by exact rfl) (hd : dst = some d := by exact rfl) (hN : d < N := by decide) (h : putL L d (evX L x) = L' := by simp only [go_sem, Int.reduceToNat, Nat.reduceLT, reduceIte, Nat.reduceEqDiff, Nat.reduceAdd, Nat.reduceMul, Nat.reduceBEq, reduceCtorEq]; rfl) : AWL P N ops (⟨dst, .move x, ty, pos, af, g⟩ :: rest) Q L := qm (nm k h) hw hgb hd hN
end
theorem ob {P : Program} {f : FuncId} {fn : Func} {c : Code} {xs : List X} {ρ : List E} {post : X → List E → Prop} {n : Nat} (hf : P.funcs[f]? = some fn) (hn : fn.ntmps = n) (h : AW P n c (endQ P fn post) (slotsOf 0 xs ++ ρ)) (hb : fn.body = some c := by exact rfl) (hρ : ∀ t x, E.sl t x ∉ ρ := by simp) : Con P f xs ρ post := Con.of_body hf hb hρ (by rw [hn]; exact h)
section
variable {P : Program} {N : Nat} {L : List E} {Q : Exit → List E → Prop} {ops : Array Oper} {l : List Oper}
theorem wjT (d : Nat) (ds : List Nat) {v v' : Value} {LB : List E} (e : v = v') (K : AWL P N ops l Q (putL LB d (.v v'))) (hB : VM.dropS L ds = LB := by simp only [go_sem, reduceIte, Nat.reduceEqDiff, Nat.reduceBEq, reduceCtorEq]; rfl) (h : slotL L d = .v v := by exact rfl) : AWL P N ops l Q L := wj d ds e hB K h
theorem wjF (d : Nat) (ds : List Nat) {v v' : Value} {LB : List E} (e : v = v') (K : AWL P N ops l Q (putL LB d (.v v'))) (hB : VM.dropS L ds = LB := by simp only [go_sem, reduceIte, Nat.reduceEqDiff, Nat.reduceBEq, reduceCtorEq]) (h : slotL L d = .v v := by exact rfl) : AWL P N ops l Q L := wj d ds e hB K h
end
theorem tsr {t : T} : t.sim t := T.sim_refl t
section
variable {P : Program} {N : Nat} {L L' : List E} {Q : Exit → List E → Prop} {ops : Array Oper} {qs pend pend' : List Nat} {S S' : Array Bool}
theorem auP (K : AWA P N ops qs Q S' pend' [] L') (hw : Weak N L L' := by exact Weak.sim (by repeat (first | exact trivial | refine ⟨rfl, ?_⟩ | refine ⟨⟨_, rfl, tsr⟩, ?_⟩ | refine ⟨⟨rfl, rfl⟩, ?_⟩)) rfl rfl) (hS : S = S' := by decide +kernel) (hp : (pend.all pend'.contains && pend'.all pend.contains) = true := by decide +kernel) : AWA P N ops qs Q S pend [] L := AWA.use hS hp hw K
theorem auR (K : AWA P N ops qs Q S' pend' [] L) (hS : S = S' := by decide +kernel) (hp : (pend.all pend'.contains && pend'.all pend.contains) = true := by decide +kernel) : AWA P N ops qs Q S pend [] L := AWA.use hS hp Weak.refl K
end
open Go Go.RowKit
class AgI (P : Program) (t : TypeId) (b : outParam Bool) : Prop where
 ok : Ag P t b
class SzI (P : Program) (t : TypeId) (n : outParam Nat) : Prop where
 ok : Sz P t n
class FlI (P : Program) (t : TypeId) (i : Nat) (off : outParam Nat) : Prop where
 ok : Fld P t i off
class BoI (P : Program) (t : TypeId) : Prop where
 ok : P.underlying t = some .bool
class StI (P : Program) (t : TypeId) : Prop where
 ok : P.underlying t = some .string
inductive K
 | m | a | f | l | p | i | b | h | G | e | u | n | q | k | c
 | A | B | S | s
 | N | Z | R | R2 | R1 | J | D (qs : List Nat) | t (i : Nat) | o (i : Nat) (pend' : List Nat) | O (i : Nat) (pend' D : List Nat) | g | x
structure GL (ks : List K) (P : Program) (N : Nat) (ops : Array Oper) (rest : List Oper) (Q : Exit → List E → Prop) (L : List E) where
 G : Prop
 f : G → AWL P N ops rest Q L
structure GW (ks : List K) (P : Program) (N : Nat) (c : Code) (Q : Exit → List E → Prop) (L : List E) where
 G : Prop
 f : G → AW P N c Q L
structure GA (ks : List K) (P : Program) (N : Nat) (ops : Array Oper) (qs : List Nat) (Q : Exit → List E → Prop) (S : Array Bool) (pend todo : List Nat) (L : List E) where
 G : Prop
 f : G → AWA P N ops qs Q S pend todo L
structure GP (ks : List K) (A : Prop) where
 G : Prop
 f : G → A
structure QK (k : K) (P : Program) (o : Oper) (L : List E) (x : X) : Prop where
 h : Qt P o L x
structure SK (k : K) (P : Program) (N : Nat) (o : Oper) (L L' : List E) : Prop where
 h : Stp P N o L L'
section
variable {P : Program} {N : Nat} {L L' : List E} {Q : Exit → List E → Prop} {ops : Array Oper} {rest : List Oper} {o : Oper} {d : Nat} {gb : Bool} {x : X} {c : Code} {A : Prop} {qs pend todo : List Nat} {S : Array Bool} {κ : K} {ks : List K}
@[reducible] def zL : GL [] P N ops rest Q L := ⟨_, fun h => h⟩
@[reducible] def zW : GW [] P N c Q L := ⟨_, fun h => h⟩
@[reducible] def zA : GA [] P N ops qs Q S pend todo L := ⟨_, fun h => h⟩
@[reducible] def zP : GP [] A := ⟨_, fun h => h⟩
@[reducible] def pL (k : GL ks P N ops rest Q L) : GP ks (AWL P N ops rest Q L) := ⟨k.G, k.f⟩
@[reducible] def pW (k : GW ks P N c Q L) : GP ks (AW P N c Q L) := ⟨k.G, k.f⟩
@[reducible] def pA (k : GA ks P N ops qs Q S pend todo L) : GP ks (AWA P N ops qs Q S pend todo L) := ⟨k.G, k.f⟩
@[reducible] def qF (h : QK κ P o L x) (k : GL ks P N ops rest Q (putL L d x)) (hw : wantL ops L o = some gb := by exact rfl) (hgb : gb = true := by first | exact rfl | exact nT (by assumption) | exact nF (by assumption) | assumption) (hd : o.dst = some d := by exact rfl) (hN : d < N := by decide) : GL (κ :: ks) P N ops (o :: rest) Q L := ⟨k.G, fun g => qg hgb h.h (k.f g) hw hd hN⟩
@[reducible] def xF (k : GL ks P N ops rest Q (putL L d (.v undef))) (hw : wantL ops L o = some gb := by exact rfl) (hgb : gb = false := by first | exact rfl | exact nT (by assumption) | exact nF (by assumption) | assumption) (hd : o.dst = some d := by exact rfl) (hN : d < N := by decide) : GL (.x :: ks) P N ops (o :: rest) Q L := ⟨k.G, fun g => og hgb (k.f g) hw hd hN⟩
@[reducible] def sF (h : SK κ P N o L L') (k : GL ks P N ops rest Q L') (hw : wantL ops L o = some gb := by exact rfl) (hgb : gb = true := by exact rfl) : GL (κ :: ks) P N ops (o :: rest) Q L := ⟨k.G, fun g => sp h.h (k.f g) hw hgb⟩
@[reducible] def nFx (k : GL ks P N ops rest Q L') (h : L = L' := by simp only [go_sem, Int.reduceToNat, Nat.reduceLT, reduceIte, Nat.reduceEqDiff, Nat.reduceAdd, Nat.reduceMul, Nat.reduceBEq, reduceCtorEq]; rfl) : GL (.N :: ks) P N ops rest Q L := ⟨k.G, fun g => nm (k.f g) h⟩
@[reducible] def nFa (k : GA ks P N ops qs Q S pend todo L') (h : L = L' := by first | (simp only [go_sem, Int.reduceToNat, Nat.reduceLT, reduceIte, Nat.reduceEqDiff, Nat.reduceAdd, Nat.reduceMul, Nat.reduceBEq, reduceCtorEq]; rfl) | rfl) : GA (.N :: ks) P N ops qs Q S pend todo L := ⟨k.G, fun g => na (k.f g) h⟩
@[reducible] def lF (k : GP ks (Q .normal L')) (h : L = L' := by first | (simp only [go_sem, Int.reduceToNat, Nat.reduceLT, reduceIte, Nat.reduceEqDiff, Nat.reduceAdd, Nat.reduceMul, Nat.reduceBEq, reduceCtorEq]; rfl) | rfl) : GL (.Z :: ks) P N ops [] Q L := ⟨k.G, fun g => nl (k.f g) h⟩
@[reducible] def rF {id : Nat} {l : List Oper} {c : Code} (k : GL ks P N l.toArray l (thenQ (AW P N c Q) Q) L) : GW (.R :: ks) P N (.seq (.region id l.toArray false) c) Q L := ⟨k.G, fun g => sr (k.f g)⟩
@[reducible] def rF1 {id : Nat} {l : List Oper} (k : GL ks P N l.toArray l Q L) : GW (.R1 :: ks) P N (.region id l.toArray false) Q L := ⟨k.G, fun g => AW.region (k.f g)⟩
@[reducible] def rF2 {id : Nat} {l : List Oper} {c c2 : Code} (k : GL ks P N l.toArray l (thenQ (AW P N c (thenQ (AW P N c2 Q) Q)) (thenQ (AW P N c2 Q) Q)) L) : GW (.R2 :: ks) P N (.seq (.seq (.region id l.toArray false) c) c2) Q L := ⟨k.G, fun g => sr2 (k.f g)⟩
@[reducible] def jF (k : GP ks (Q .normal L)) : GW (.J :: ks) P N .skip Q L := ⟨k.G, fun g => jd (k.f g)⟩
@[reducible] def dF {qs : List Nat} {id : Nat} (k : GA ks P N ops qs Q (Array.replicate ops.size false) [] [] L) (hm : P.follows .mixedOrders = true := by exact rfl) (hq : quietB ops N qs = true := by decide +kernel) : GW (.D qs :: ks) P N (.region id ops true) Q L := ⟨k.G, fun g => AW.draw qs hm hq (k.f g)⟩
@[reducible] def tF {i : Nat} (ho : ops[i]? = some o) (h : QK κ P o L x) (k : GA ks P N ops qs Q (S.setIfInBounds i true) (i :: pend) [] (putL L d x)) (hd : o.dst = some d := by exact rfl) (hq' : qs.contains i = true := by exact rfl) (hr : (Region.ready .any ops S).contains i = true := by decide +kernel) (hw : wantL ops L o = some gb := by exact rfl) (hgb : gb = true := by first | exact rfl | exact nT (by assumption) | exact nF (by assumption) | assumption) : GA (.t i :: κ :: ks) P N ops qs Q S pend [] L := ⟨k.G, fun g => tg i ho hgb h.h (k.f g) hd hq' hr hw⟩
@[reducible] def tX {i : Nat} (ho : ops[i]? = some o) (k : GA ks P N ops qs Q (S.setIfInBounds i true) (i :: pend) [] (putL L d (.v undef))) (hd : o.dst = some d := by exact rfl) (hq' : qs.contains i = true := by exact rfl) (hr : (Region.ready .any ops S).contains i = true := by decide +kernel) (hw : wantL ops L o = some gb := by exact rfl) (hgb : gb = false := by first | exact rfl | exact nT (by assumption) | exact nF (by assumption) | assumption) : GA (.t i :: .x :: ks) P N ops qs Q S pend [] L := ⟨k.G, fun g => tf i hgb (k.f g) ho hd hq' hr hw⟩
@[reducible] def oF {j : Nat} {pend' : List Nat} (ho : ops[j]? = some o) (h : SK κ P N o L L') (k : GA ks P N ops qs Q (S.setIfInBounds j true) pend' pend' L') (hw : wantL ops L o = some gb := by exact rfl) (hgb : gb = true := by first | exact rfl | exact nT (by assumption) | exact nF (by assumption) | assumption) (hr : Region.ready .any ops S = [j] := by decide +kernel)
    (hD : chainB ops [j] (pend.filter fun i => !pend'.contains i) = true := by decide +kernel) (hp : (pend.all fun i => pend'.contains i || (pend.filter fun i => !pend'.contains i).contains i) = true := by decide +kernel) (hp' : (pend'.all fun i => pend.contains i) = true := by decide +kernel) : GA (.o j pend' :: κ :: ks) P N ops qs Q S pend [] L := ⟨k.G, fun g => a1 j pend' _ ho hgb h.h (k.f g) hr hw hD hp hp'⟩
@[reducible] def OF {j : Nat} {pend' D : List Nat} (ho : ops[j]? = some o) (h : SK κ P N o L L') (k : GA ks P N ops qs Q (S.setIfInBounds j true) pend' pend' L') (hw : wantL ops L o = some gb := by exact rfl) (hgb : gb = true := by first | exact rfl | exact nT (by assumption) | exact nF (by assumption) | assumption) (hr : Region.ready .any ops S = [j] := by decide +kernel)
  (hD : chainB ops [j] D = true := by decide +kernel) (hp : (pend.all fun i => pend'.contains i || D.contains i) = true := by decide +kernel) (hp' : (pend'.all fun i => pend.contains i) = true := by decide +kernel) : GA (.O j pend' D :: κ :: ks) P N ops qs Q S pend [] L := ⟨k.G, fun g => a1 j pend' D ho hgb h.h (k.f g) hr hw hD hp hp'⟩
@[reducible] def oX {j : Nat} {pend' : List Nat} (ho : ops[j]? = some o) (k : GA ks P N ops qs Q (S.setIfInBounds j true) pend' pend' (putL L d (.v undef))) (hw : wantL ops L o = some gb := by exact rfl) (hgb : gb = false := by first | exact rfl | exact nT (by assumption) | exact nF (by assumption) | assumption) (hd : o.dst = some d := by exact rfl) (hN : d < N := by decide) (hr : Region.ready .any ops S = [j] := by decide +kernel)
    (hD : chainB ops [j] (pend.filter fun i => !pend'.contains i) = true := by decide +kernel) (hp : (pend.all fun i => pend'.contains i || (pend.filter fun i => !pend'.contains i).contains i) = true := by decide +kernel) (hp' : (pend'.all fun i => pend.contains i) = true := by decide +kernel) : GA (.o j pend' :: .x :: ks) P N ops qs Q S pend [] L := ⟨k.G, fun g => o1 j pend' _ ho hgb (k.f g) hr hw hD hp hp' hd hN⟩
@[reducible] def OX {j : Nat} {pend' D : List Nat} (ho : ops[j]? = some o) (k : GA ks P N ops qs Q (S.setIfInBounds j true) pend' pend' (putL L d (.v undef))) (hw : wantL ops L o = some gb := by exact rfl) (hgb : gb = false := by first | exact rfl | exact nT (by assumption) | exact nF (by assumption) | assumption) (hd : o.dst = some d := by exact rfl) (hN : d < N := by decide) (hr : Region.ready .any ops S = [j] := by decide +kernel)
  (hD : chainB ops [j] D = true := by decide +kernel) (hp : (pend.all fun i => pend'.contains i || D.contains i) = true := by decide +kernel) (hp' : (pend'.all fun i => pend.contains i) = true := by decide +kernel) : GA (.O j pend' D :: .x :: ks) P N ops qs Q S pend [] L := ⟨k.G, fun g => o1 j pend' D ho hgb (k.f g) hr hw hD hp hp' hd hN⟩
@[reducible] def gF {i : Nat} (ho : ops[i]? = some o) (h : QK κ P o L x) (k : GA ks P N ops qs Q S pend todo (putL L d x)) (hd : o.dst = some d := by exact rfl) (hp : pend.all (fun k => todo.contains k || k == i || !waits ops k i) = true := by decide +kernel) (hw : wantL ops L o = some gb := by exact rfl) (hgb : gb = true := by first | exact rfl | exact nT (by assumption) | exact nF (by assumption) | assumption) (hx : slotL L d = x := by exact rfl) : GA (.g :: κ :: ks) P N ops qs Q S pend (i :: todo) L := ⟨k.G, fun g => AWA.againE ho hd hp (.on hw hgb h.h) hx (k.f g)⟩
@[reducible] def gX {i : Nat} (ho : ops[i]? = some o) (k : GA ks P N ops qs Q S pend todo (putL L d (.v undef))) (hd : o.dst = some d := by exact rfl) (hp : pend.all (fun k => todo.contains k || k == i || !waits ops k i) = true := by decide +kernel) (hw : wantL ops L o = some gb := by exact rfl) (hgb : gb = false := by first | exact rfl | exact nT (by assumption) | exact nF (by assumption) | assumption) (hx : slotL L d = .v undef := by exact rfl) : GA (.g :: .x :: ks) P N ops qs Q S pend (i :: todo) L := ⟨k.G, fun g => AWA.againE ho hd hp (.off hw hgb) hx (k.f g)⟩
@[reducible] def zF (k : GP ks (Q .normal L')) (hr : Region.ready .any ops S = [] := by decide +kernel) (h : L = L' := by first | (simp only [go_sem, Int.reduceToNat, Nat.reduceLT, reduceIte, Nat.reduceEqDiff, Nat.reduceAdd, Nat.reduceMul, Nat.reduceBEq, reduceCtorEq]; rfl) | rfl) : GA (.Z :: ks) P N ops qs Q S pend [] L := ⟨k.G, fun g => nz (k.f g) hr h⟩
end
theorem ws {N : Nat} {L L' : List E} (h : hasS L L' := by repeat (first | exact trivial | refine ⟨(by first | exact ⟨rfl, rfl⟩ | exact Rf rfl | rfl | exact st1), ?_⟩)) (hc : closedB (idsL L') L' = true := by exact rfl) (hu : nodupB (idsL L') = true := by exact rfl) : Weak N L L' := Weak.sim h hc hu
theorem kQ (κ : K) {P : Program} {o : Oper} {L : List E} {x : X} (h : Qt P o L x) : QK κ P o L x := ⟨h⟩
theorem kS (κ : K) {P : Program} {N : Nat} {o : Oper} {L L' : List E} (h : Stp P N o L L') : SK κ P N o L L' := ⟨h⟩
theorem go (ks : List K) {G : Prop} (he : GP ks G := by
  first | refine pW ?_ | refine pL ?_ | refine pA ?_
  repeat
    first
      | (show GL (.N :: _) _ _ _ _ _ _; refine nFx ?_)
      | (show GL (.m :: _) _ _ _ _ _ _; refine qF (kQ .m Qt.move) ?_)
      | (show GL (.f :: _) _ _ _ _ _ _; refine qF (kQ .f (fA FlI.ok)) ?_)
      | (show GL (.l :: _) _ _ _ _ _ _; refine qF (kQ .l (Qt.load1 rfl rfl rfl AgI.ok)) ?_)
      | (show GL (.a :: _) _ _ _ _ _ _; refine qF (kQ .a Qt.assign) ?_)
      | (show GL _ _ _ _ _ _ _; first
          | (show GL (.p :: _) _ _ _ _ _ _; refine qF (kQ .p (Qt.nilCheck rfl)) ?_)
          | (show GL (.b :: _) _ _ _ _ _ _; refine qF (kQ .b (Qt.binOp rfl rfl (by first | exact pbAdd (by omega) | exact pbSub (by omega) | exact pbMul (by omega) | rfl))) ?_)
          | (show GL (.i :: _) _ _ _ _ _ _; refine qF (kQ .i (Qt.indexAddr rfl rfl rfl rfl SlI.sl SzI.ok (by decide) (by first | omega | grind only))) ?_)
          | (show GL (.h :: _) _ _ _ _ _ _; refine qF (kQ .h (Qt.lenH rfl rfl rfl SlI.sl)) ?_)
          | (show GL (.G :: _) _ _ _ _ _ _; refine qF (kQ .G (Qt.loadG rfl rfl rfl AgI.ok SzI.ok (by decide))) ?_)
          | (show GL (.e :: _) _ _ _ _ _ _; refine qF (kQ .e (Qt.extract rfl (of_decide_eq_true rfl))) ?_)
          | (show GL (.u :: _) _ _ _ _ _ _; refine qF (kQ .u (Qt.build rfl)) ?_)
          | (show GL (.n :: _) _ _ _ _ _ _; refine qF (kQ .n (Qt.notB rfl)) ?_)
          | (show GL (.q :: _) _ _ _ _ _ _; refine qF (kQ .q (Qt.eqB rfl rfl BoI.ok)) ?_)
          | (show GL (.k :: _) _ _ _ _ _ _; refine qF (kQ .k (Qt.neB rfl rfl BoI.ok)) ?_)
          | (show GL (.c :: _) _ _ _ _ _ _; refine qF (kQ .c (Qt.lenS rfl StI.ok)) ?_)
          | (show GL (.Z :: _) _ _ _ _ _ _; refine lF ?_; (first | refine pW ?_ | refine pL ?_ | refine pA ?_ | exact zP))
          | (show GL (.s :: _) _ _ _ _ _ _; refine sF (kS .s (by first | exact Stp.storeA rfl rfl rfl rfl (by decide) rfl | exact Stp.store rfl rfl (by simp) rfl rfl rfl (by decide) rfl)) ?_)
          | (show GL (.A :: _) _ _ _ _ _ _; refine sF (kS .A sA) ?_)
          | (show GL (.B :: _) _ _ _ _ _ _; refine sF (kS .B (Stp.boxB rfl (by decide) (by decide) rfl rfl rfl rfl)) ?_)
          | (show GL (.S :: _) _ _ _ _ _ _; refine sF (kS .S sS) ?_)
          | (show GL (.x :: _) _ _ _ _ _ _; refine xF ?_)
          | (show GL [] _ _ _ _ _ _; exact zL))
      | (show GA _ _ _ _ _ _ _ _ _ _; first
          | (show GA (.N :: _) _ _ _ _ _ _ _ _ _; refine nFa ?_)
          | (show GA (.t _ :: .x :: _) _ _ _ _ _ _ _ _ _; refine tX rfl ?_)
          | (show GA (.t _ :: .m :: _) _ _ _ _ _ _ _ _ _; refine tF rfl (kQ .m Qt.move) ?_)
          | (show GA (.t _ :: .f :: _) _ _ _ _ _ _ _ _ _; refine tF rfl (kQ .f (fA FlI.ok)) ?_)
          | (show GA (.t _ :: .l :: _) _ _ _ _ _ _ _ _ _; refine tF rfl (kQ .l (Qt.load1 rfl rfl rfl AgI.ok)) ?_)
          | (show GA (.t _ :: .a :: _) _ _ _ _ _ _ _ _ _; refine tF rfl (kQ .a Qt.assign) ?_)
          | (show GA (.g :: _ :: _) _ _ _ _ _ _ _ _ _; first
              | (show GA (.g :: .x :: _) _ _ _ _ _ _ _ _ _; refine gX rfl ?_)
              | (show GA (.g :: .m :: _) _ _ _ _ _ _ _ _ _; refine gF rfl (kQ .m Qt.move) ?_)
              | (show GA (.g :: .f :: _) _ _ _ _ _ _ _ _ _; refine gF rfl (kQ .f (fA FlI.ok)) ?_)
              | (show GA (.g :: .l :: _) _ _ _ _ _ _ _ _ _; refine gF rfl (kQ .l (Qt.load1 rfl rfl rfl AgI.ok)) ?_)
              | (show GA (.g :: .a :: _) _ _ _ _ _ _ _ _ _; refine gF rfl (kQ .a Qt.assign) ?_)
              | (show GA (.g :: .p :: _) _ _ _ _ _ _ _ _ _; refine gF rfl (kQ .p (Qt.nilCheck rfl)) ?_)
              | (show GA (.g :: .b :: _) _ _ _ _ _ _ _ _ _; refine gF rfl (kQ .b (Qt.binOp rfl rfl (by first | exact pbAdd (by omega) | exact pbSub (by omega) | exact pbMul (by omega) | rfl))) ?_)
              | (show GA (.g :: .i :: _) _ _ _ _ _ _ _ _ _; refine gF rfl (kQ .i (Qt.indexAddr rfl rfl rfl rfl SlI.sl SzI.ok (by decide) (by first | omega | grind only))) ?_)
              | (show GA (.g :: .h :: _) _ _ _ _ _ _ _ _ _; refine gF rfl (kQ .h (Qt.lenH rfl rfl rfl SlI.sl)) ?_)
              | (show GA (.g :: .G :: _) _ _ _ _ _ _ _ _ _; refine gF rfl (kQ .G (Qt.loadG rfl rfl rfl AgI.ok SzI.ok (by decide))) ?_)
              | (show GA (.g :: .e :: _) _ _ _ _ _ _ _ _ _; refine gF rfl (kQ .e (Qt.extract rfl (of_decide_eq_true rfl))) ?_)
              | (show GA (.g :: .u :: _) _ _ _ _ _ _ _ _ _; refine gF rfl (kQ .u (Qt.build rfl)) ?_)
              | (show GA (.g :: .n :: _) _ _ _ _ _ _ _ _ _; refine gF rfl (kQ .n (Qt.notB rfl)) ?_)
              | (show GA (.g :: .q :: _) _ _ _ _ _ _ _ _ _; refine gF rfl (kQ .q (Qt.eqB rfl rfl BoI.ok)) ?_)
              | (show GA (.g :: .k :: _) _ _ _ _ _ _ _ _ _; refine gF rfl (kQ .k (Qt.neB rfl rfl BoI.ok)) ?_)
              | (show GA (.g :: .c :: _) _ _ _ _ _ _ _ _ _; refine gF rfl (kQ .c (Qt.lenS rfl StI.ok)) ?_))
          | (show GA (.t _ :: .p :: _) _ _ _ _ _ _ _ _ _; refine tF rfl (kQ .p (Qt.nilCheck rfl)) ?_)
          | (show GA (.t _ :: .b :: _) _ _ _ _ _ _ _ _ _; refine tF rfl (kQ .b (Qt.binOp rfl rfl (by first | exact pbAdd (by omega) | exact pbSub (by omega) | exact pbMul (by omega) | rfl))) ?_)
          | (show GA (.t _ :: .i :: _) _ _ _ _ _ _ _ _ _; refine tF rfl (kQ .i (Qt.indexAddr rfl rfl rfl rfl SlI.sl SzI.ok (by decide) (by first | omega | grind only))) ?_)
          | (show GA (.t _ :: .h :: _) _ _ _ _ _ _ _ _ _; refine tF rfl (kQ .h (Qt.lenH rfl rfl rfl SlI.sl)) ?_)
          | (show GA (.t _ :: .G :: _) _ _ _ _ _ _ _ _ _; refine tF rfl (kQ .G (Qt.loadG rfl rfl rfl AgI.ok SzI.ok (by decide))) ?_)
          | (show GA (.t _ :: .e :: _) _ _ _ _ _ _ _ _ _; refine tF rfl (kQ .e (Qt.extract rfl (of_decide_eq_true rfl))) ?_)
          | (show GA (.t _ :: .u :: _) _ _ _ _ _ _ _ _ _; refine tF rfl (kQ .u (Qt.build rfl)) ?_)
          | (show GA (.t _ :: .n :: _) _ _ _ _ _ _ _ _ _; refine tF rfl (kQ .n (Qt.notB rfl)) ?_)
          | (show GA (.t _ :: .q :: _) _ _ _ _ _ _ _ _ _; refine tF rfl (kQ .q (Qt.eqB rfl rfl BoI.ok)) ?_)
          | (show GA (.t _ :: .k :: _) _ _ _ _ _ _ _ _ _; refine tF rfl (kQ .k (Qt.neB rfl rfl BoI.ok)) ?_)
          | (show GA (.t _ :: .c :: _) _ _ _ _ _ _ _ _ _; refine tF rfl (kQ .c (Qt.lenS rfl StI.ok)) ?_)
          | (show GA (.o _ _ :: .x :: _) _ _ _ _ _ _ _ _ _; refine oX rfl ?_)
          | (show GA (.o _ _ :: .s :: _) _ _ _ _ _ _ _ _ _; refine oF rfl (kS .s (by first | exact Stp.storeA rfl rfl rfl rfl (by decide) rfl | exact Stp.store rfl rfl (by simp) rfl rfl rfl (by decide) rfl)) ?_)
          | (show GA (.o _ _ :: .A :: _) _ _ _ _ _ _ _ _ _; refine oF rfl (kS .A sA) ?_)
          | (show GA (.o _ _ :: .B :: _) _ _ _ _ _ _ _ _ _; refine oF rfl (kS .B (Stp.boxB rfl (by decide) (by decide) rfl rfl rfl rfl)) ?_)
          | (show GA (.o _ _ :: .S :: _) _ _ _ _ _ _ _ _ _; refine oF rfl (kS .S sS) ?_)
          | (show GA (.O _ _ _ :: .x :: _) _ _ _ _ _ _ _ _ _; refine OX rfl ?_)
          | (show GA (.O _ _ _ :: .s :: _) _ _ _ _ _ _ _ _ _; refine OF rfl (kS .s (by first | exact Stp.storeA rfl rfl rfl rfl (by decide) rfl | exact Stp.store rfl rfl (by simp) rfl rfl rfl (by decide) rfl)) ?_)
          | (show GA (.O _ _ _ :: .A :: _) _ _ _ _ _ _ _ _ _; refine OF rfl (kS .A sA) ?_)
          | (show GA (.O _ _ _ :: .B :: _) _ _ _ _ _ _ _ _ _; refine OF rfl (kS .B (Stp.boxB rfl (by decide) (by decide) rfl rfl rfl rfl)) ?_)
          | (show GA (.O _ _ _ :: .S :: _) _ _ _ _ _ _ _ _ _; refine OF rfl (kS .S sS) ?_)
          | (show GA (.Z :: _) _ _ _ _ _ _ _ _ _; refine zF ?_; (first | refine pW ?_ | refine pL ?_ | refine pA ?_ | exact zP))
          | (show GA [] _ _ _ _ _ _ _ _ _; exact zA))
      | (show GW _ _ _ _ _ _; first
          | (show GW (.R :: _) _ _ _ _ _; refine rF ?_)
          | (show GW (.R2 :: _) _ _ _ _ _; refine rF2 ?_)
          | (show GW (.R1 :: _) _ _ _ _ _; refine rF1 ?_)
          | (show GW (.J :: _) _ _ _ _ _; refine jF ?_; (first | refine pW ?_ | refine pL ?_ | refine pA ?_ | exact zP))
          | (show GW (.D _ :: _) _ _ _ _ _; refine dF ?_)
          | (show GW [] _ _ _ _ _; exact zW))
      | exact zP) (k : he.G) : G := he.f k
open Go Go.RowKit
theorem slB_sn {L : List E} {d : Nat} {x : Operand} {kd : IntKind} {j : Int} (h : evX L x = .v (.int kd j)) (h0 : 0 ≤ j) : slB L d (some x) j.toNat := ⟨kd, j, h, (Int.toNat_of_nonneg h0).symm⟩
open Go Go.RowKit
section
variable {P : Program} {N : Nat} {Q : Exit → List E → Prop} {L : List E} {ops : Array Oper} {rest : List Oper} {dst : Option Tmp} {ty : TypeId} {pos : String} {af : Array Edge} {g : Option (Nat × Bool)} {d : Nat}
theorem Stp.storeZ (zs : List T) {t : TypeId} {x y : Operand} {zt : List T} [hTy : TyI P t zt] {id : Nat} {q : Path} {n k c len : Nat} {f : Nat → Nat → T} {m : M} {T0 : T} {L' : List E} (hx : evX L x = .p id q n k c) (hR : rootL L id = some (m, T0)) (hm : m ≠ .ro) (hT : T0.at q = .s n len f)
  (hzl : zs.length = zt.length) (hf : (evX L y).flat = true) (hl : (evX L y).leaves.length = zt.length) (hc : c + zt.length ≤ n) (hst : stCells id q n k c zs (evX L y).leaves L T0 = some L') : Stp P N ⟨none, .store t x y, ty, pos, af, g⟩ L L' :=
 Stp.opu (fun cx a w hs => by
  obtain ⟨H, G, hr, hG⟩ := hs.rp
  have hv := ev_ok hr x
  rw [hx] at hv
  obtain ⟨m', t', g1, g2, ⟨l', f', g3, g4, g5⟩, hv', A, g6, g7, g8⟩ := hv
  obtain ⟨rfl, rfl⟩ := hr.one _ _ _ _ _ g1 (rootL_mem hR)
  rw [hT] at g3; cases g3
  have hy := (ev_ok hr y).cells hr.ones hf
  have hyl := hy.len
  simp only [Array.length_toList] at hyl
  obtain ⟨a0, l0, c0, k1, k2⟩ := adr_some g7
  -- the row's first cell
  have hp : VR (rts L) H w (.p id q n k 0) (.pointer (some ⟨a0.block, a0.off + k * n, none⟩)) :=
   ⟨m', t', g1, g2, ⟨len, f, hT, g4, by omega⟩, hv', _, g6, by rw [k1]; simp [adr], rfl⟩
  obtain ⟨w', G', r1, r2, r3, r4⟩ := cells_store (P := P) (b := a0.block) (o := a0.off + k * n) hm g4 zs _ _ c c L t' G w hr hG hs.chg g1 g2 ⟨f, hT⟩ (by rw [hzl]; exact hc) hp hy hst rfl
  refine ⟨w', ?_, ⟨hs.siz, hs.dfr, r4, H, G', r2, r3⟩⟩
  have hsz : (a.eval y).cells.size = zt.length := by omega
  have hA : ∀ (vs : List Value) (i : Nat) (w : World), (storeCells A vs i).run P w = (storeCells ⟨a0.block, a0.off + k * n, none⟩ vs (c + i)).run P w := by
   intro vs
   induction vs with
   | nil => intro i w; rfl
   | cons u us ih =>
    intro i w
    have hadd : A.add i = (⟨a0.block, a0.off + k * n, none⟩ : Addr).add (c + i) := by
     rw [k2, Addr.add_lit, Addr.add_lit]; congr 1; omega
    simp only [storeCells, Sem.run_bind, hadd]
    congr 1
    funext u w
    rw [ih (i + 1) w]
    congr 2
  have := hA (a.eval y).cells.toList 0 w
  rw [Nat.add_zero, r1] at this
  simp [execOp, g8, Instr.storeAt, Instr.sureAddr, storeVar, hTy.size w, hsz, this])
end
theorem con_lift2 {P : Program} {f : FuncId} {n len : Nat} {fT rT : Nat → Nat → T} (σ : Nat → Nat) (hσ : ∀ k, k < len → σ k < len) (hinj : ∀ k k', k < len → k' < len → σ k = σ k' → k = k') (hrT : ∀ k c, k < len → c < n → rT k c = fT (σ k) c) {xs : List X} (hxs : xs.all X.plain = true)
  (hc : ∀ V : Nat → Nat → Value, (∀ k c, k < len → c < n → (V k c).oneCell' = true) → (∀ k c x, k < len → c < n → fT k c = .v x → V k c = x) → (∀ k c n0 l g, k < len → c < n → fT k c = .s n0 l g → ∃ a cap, V k c = .slice a l cap) → ∃ iT oT : Nat → Nat → T, (∀ k c, k < len → c < n → iT k c = .v (V k c)) ∧ (∀ k c, k < len → c < n → oT k c = .v (V (σ k) c)) ∧ Con P f (.h base [] :: xs) [.rt base .row (.s n len iT)] (RetW (.t []) [] [(base, .s n len oT)])) :
  Con P f (.h base [] :: xs) [.rt base .row (.s n len fT)] (RetW (.t []) [] [(base, .s n len rT)]) := by
 intro w vs H G ht ha hr hv
 match vs, hv with
 | v :: vs, ⟨⟨m, t, hm1, _, _, hh⟩, hvs⟩ =>
 simp only [hd, Option.some.injEq] at hh
 have hb : rts [.rt base .row (.s n len fT)] base .row (.s n len fT) := List.mem_singleton.2 rfl
 obtain ⟨hn, a, cap, e0, hl, hm, b, off, V, Gk, h1, h2, h3, h4, h5⟩ := hr.own base .row _ hb (by simp)
 obtain ⟨iT, oT, hiT, hoT, hc⟩ := hc V (fun k c hk hc => (h2 k c hk hc).2.one) (fun k c x hk hc hf => by have := (h2 k c hk hc).2; rw [hf] at this; exact this.1) (fun k c n0 l g hk hc hf => by have h := (h2 k c hk hc).2; rw [hf] at h; obtain ⟨_, a, cap, h0, _⟩ := h; exact ⟨a, cap, h0⟩)
 have hbf : rts [.rt base .row (.s n len iT)] base .row (.s n len iT) := List.mem_singleton.2 rfl
 have hone : ∀ {id m t}, rts [E.rt base .row (.s n len iT)] id m t → id = base ∧ m = .row ∧ t = .s n len iT := fun h => by
  cases List.mem_singleton.1 h; exact ⟨rfl, rfl, rfl⟩
 let Gf : Nat → FP := fun _ x _ => 0 < cap ∧ x = b
 have hGf : ∀ x y, Gf base x y → G base x y := fun x y h => (h5 x y).2 (.inl h)
 have hrf : Rp [.rt base .row (.s n len iT)] (fun _ => undef) H Gf w := by
  refine ⟨fun id m t m' t' k1 k2 => ?_, fun id m t k1 _ => ?_, fun id t k => ?_, fun id t k => ?_, fun id t k => ?_, fun id m t id' m' t' k1 k2 hne => ?_, fun s x k => ?_, fun id c x k => ?_⟩
  ·obtain ⟨rfl, rfl, rfl⟩ := hone k1
   obtain ⟨_, rfl, rfl⟩ := hone k2
   exact ⟨rfl, rfl⟩
  ·obtain ⟨rfl, rfl, rfl⟩ := hone k1
   exact ⟨hn, a, cap, e0, hl, hm, b, off, V, fun _ _ _ _ => False, h1, fun k c hk hc => ⟨(h2 k c hk hc).1, by rw [hiT k c hk hc]; exact ⟨rfl, (h2 k c hk hc).2.one, fun _ _ h => h⟩⟩, fun _ _ _ _ _ _ _ _ _ _ _ h => h.elim, fun _ _ _ _ _ _ h => h.elim, fun x y => ⟨fun h => .inl h, fun h => h.elim id fun ⟨_, _, _, _, h⟩ => h.elim⟩⟩
  ·obtain ⟨_, e, _⟩ := hone k; cases e
  ·obtain ⟨_, e, _⟩ := hone k; cases e
  ·obtain ⟨_, e, _⟩ := hone k; cases e
  ·obtain ⟨rfl, _, _⟩ := hone k1
   obtain ⟨rfl, _, _⟩ := hone k2
   exact absurd rfl hne
  ·cases List.mem_singleton.1 k
  ·cases List.mem_singleton.1 k
 refine (hc w (v :: vs) H Gf ht (fun id m t k1 k2 x y k3 => by
  obtain ⟨rfl, _, _⟩ := hone k1
  exact ha base .row _ hb (by simp) x y (hGf x y k3)) hrf ⟨⟨.row, _, hbf, trivial, ⟨_, _, _, rfl⟩, by simp only [hd, hh]⟩, hvs.plain hxs⟩).mono ?_
 rintro e w' ⟨v', x, L, H', G', val, rfl, ⟨ρ, rfl, hfix, _, _, hW⟩, hr', hx', hC, hG', hH'⟩
 have hbL : rts L base .row (.s n len oT) := hW _ (List.mem_singleton.2 rfl)
 have hHb : H' base = H base := hH' base _ _ (Nat.le_refl _) hbL
 obtain ⟨_, a', cap', e0', _, _, b', off', V', G0, k1, k2, _, _, _⟩ := hr'.own base .row _ hbL (by simp)
 rw [hHb, e0] at e0'
 cases e0'
 have hC' : Chg (fun x _ => 0 < cap ∧ x = b) w w' := hC.mono fun x y _ ⟨id, m, t, q1, _, q3⟩ => q3
 have hcell : ∀ k c, k < len → c < n → w'.cell? ⟨b, off + (k * n + c), none⟩ = some (V (σ k) c) := fun k c hk hc' => by
  obtain ⟨q1, q2⟩ := k2 k c hk hc'
  rw [hoT k c hk hc'] at q2
  obtain ⟨q2, q3⟩ := q2
  have hp : 0 < cap := by omega
  have e1 := (h1 hp).1
  have e2 := (k1 hp).1
  rw [e1] at e2
  cases e2
  rw [q1, q2]
 have hO : Own w' (.s n len rT) (fun x y => (0 < cap ∧ blkFP b x y) ∨ ∃ k c, k < len ∧ c < n ∧ Gk (σ k) c x y) (H' base) := by
  rw [hHb]
  exact ⟨hn, a, cap, e0, hl, hm, b, off, fun k c => V (σ k) c, fun k c => Gk (σ k) c, fun hp => ⟨(h1 hp).1, let ⟨sz, q1, q2⟩ := (h1 hp).2; ⟨sz, q1.chg hC', q2⟩⟩, fun k c hk hc => ⟨hcell k c hk hc, by rw [hrT k c hk hc]; exact (h2 _ c (hσ k hk) hc).2.frame hC' fun x y hg hx => h4 _ c (hσ k hk) hc x y hg hx.2⟩,
   fun k c k' c' hne hk hc hk' hc' => h3 _ _ _ _ (hne.imp_left fun hne h => hne (hinj k k' hk hk' h)) (hσ k hk) hc (hσ k' hk') hc', fun k c hk hc => h4 _ c (hσ k hk) hc, fun x y => Iff.rfl⟩
 have hone2 : ∀ {id m t}, rts [E.rt base .row (.s n len rT)] id m t → id = base ∧ m = .row ∧ t = .s n len rT := fun h => by
  cases List.mem_singleton.1 h; exact ⟨rfl, rfl, rfl⟩
 have hb2 : rts [.rt base .row (.s n len rT)] base .row (.s n len rT) := List.mem_singleton.2 rfl
 have hFG : ∀ x y, ((0 < cap ∧ blkFP b x y) ∨ ∃ k c, k < len ∧ c < n ∧ Gk (σ k) c x y) → G base x y := fun x y h => by
  rcases h with h | ⟨k, c, hk, hc, h⟩
  ·exact (h5 x y).2 (.inl h)
  ·exact (h5 x y).2 (.inr ⟨σ k, c, hσ k hk, hc, h⟩)
 refine ⟨v', .t [], [.rt base .row (.s n len rT)], H', fun _ x y => (0 < cap ∧ blkFP b x y) ∨ ∃ k c, k < len ∧ c < n ∧ Gk (σ k) c x y, fun _ => undef, rfl, ⟨fun n => n, rfl, fun _ _ => rfl, List.nodup_nil, by simp, fun p hp => by cases List.mem_singleton.1 hp; exact hb2⟩, ?_, ?_, hC.mono fun x y _ ⟨id, m, t, q1, _, q3⟩ => ⟨base, .row, _, hb, by simp, hGf x y q3⟩, fun id m t q1 _ x y q3 => .inl ⟨base, .row, _, hb, by simp, hFG x y q3⟩, fun id m t q1 q2 => ?_⟩
 ·refine ⟨fun id m t m' t' k1 k2 => ?_, fun id m t k1 _ => ?_, fun id t k => ?_, fun id t k => ?_, fun id t k => ?_, fun id m t id' m' t' k1 k2 hne => ?_, fun s x k => ?_, fun id c x k => ?_⟩
  ·obtain ⟨rfl, rfl, rfl⟩ := hone2 k1
   obtain ⟨_, rfl, rfl⟩ := hone2 k2
   exact ⟨rfl, rfl⟩
  ·obtain ⟨rfl, rfl, rfl⟩ := hone2 k1
   exact hO
  ·obtain ⟨_, e, _⟩ := hone2 k; cases e
  ·obtain ⟨_, e, _⟩ := hone2 k; cases e
  ·obtain ⟨_, e, _⟩ := hone2 k; cases e
  ·obtain ⟨rfl, _, _⟩ := hone2 k1
   obtain ⟨rfl, _, _⟩ := hone2 k2
   exact absurd rfl hne
  ·cases List.mem_singleton.1 k
  ·cases List.mem_singleton.1 k
 ·obtain ⟨us, q1, q2⟩ := hx'
  exact ⟨us, q1, by cases us <;> first | trivial | exact q2.elim⟩
 ·obtain ⟨rfl, _, _⟩ := hone2 q2
  exact hHb

def toC : List X → List X → Prop
 | [], [] => True
 | x :: xs, y :: ys => (x = y ∨ (y = .c ∧ ∃ v, x = .v v ∧ v.oneCell' = true)) ∧ toC xs ys
 | _, _ => False
theorem VRs.toC {R : RT} {H : Nat → Value} {w : World} : ∀ {xs ys : List X} {vs : List Value}, toC xs ys → VRs R H w xs vs → VRs R H w ys vs
 | [], [], _, _, h => h
 | x :: xs, y :: ys, v :: vs, ⟨h1, h2⟩, ⟨g1, g2⟩ => ⟨by
   rcases h1 with rfl | ⟨rfl, u, rfl, hu⟩
   ·exact g1
   ·have g : v = u := g1
    rw [g]
    exact hu, VRs.toC h2 g2⟩
 | [], _ :: _, _, h, _ => h.elim
 | _ :: _, [], _, h, _ => h.elim
 | _ :: _, _ :: _, [], _, h => h.elim
theorem Weak.toC {N : Nat} {L : List E} (d : Nat) {xs : List X} (ys : List X) (h : slotL L d = .g xs) (hc : VM.toC xs ys) : Weak N L (putL L d (.g ys)) :=
 Weak.putX h fun _ _ _ _ _ _ ⟨vs, h1, h2⟩ => ⟨vs, h1, VRs.toC hc h2⟩
section
variable {α : Type} (key : α → Int)
def insK : List α → α → List α
 | [], x => [x]
 | y :: l, x => if key x < key y then x :: y :: l else y :: insK l x
def sortK (l : List α) : List α := l.foldl (insK key) []
theorem insK_len : ∀ (l : List α) (x : α), (insK key l x).length = l.length + 1
 | [], _ => rfl
 | y :: l, x => by
  rw [insK]
  split
  ·rfl
  ·rw [List.length_cons, insK_len l x, List.length_cons]
theorem sortK_snoc (l : List α) (x : α) : sortK key (l ++ [x]) = insK key (sortK key l) x := by
 rw [sortK, List.foldl_append]
 rfl
theorem sortK_len (l : List α) : (sortK key l).length = l.length := by
 unfold sortK
 have h : ∀ (l acc : List α), (l.foldl (insK key) acc).length = acc.length + l.length := fun l => by
  induction l with
  | nil => intro acc; rfl
  | cons x l ih => intro acc; rw [List.foldl_cons, ih, insK_len, List.length_cons]; omega
 rw [h, List.length_nil, Nat.zero_add]
def Asc (l : List α) : Prop := l.Pairwise fun a b => key a ≤ key b
theorem insK_mem {l : List α} {x z : α} : z ∈ insK key l x ↔ z = x ∨ z ∈ l := by
 induction l with
 | nil => simp [insK]
 | cons y l ih =>
  rw [insK]
  split
  ·simp
  ·simp only [List.mem_cons, ih]
   constructor
   ·rintro (h | h | h) <;> simp [h]
   ·rintro (h | h | h) <;> simp [h]
theorem insK_asc {l : List α} {x : α} (h : Asc key l) : Asc key (insK key l x) := by
 induction l with
 | nil => exact List.pairwise_singleton _ _
 | cons y l ih =>
  rw [insK]
  obtain ⟨h1, h2⟩ := List.pairwise_cons.1 h
  split
  ·rename_i hlt
   refine List.pairwise_cons.2 ⟨fun z hz => ?_, h⟩
   rcases List.mem_cons.1 hz with rfl | hz
   ·omega
   ·have := h1 z hz; omega
  ·rename_i hlt
   refine List.pairwise_cons.2 ⟨fun z hz => ?_, ih h2⟩
   rcases (insK_mem key).1 hz with rfl | hz
   ·omega
   ·exact h1 z hz
theorem sortK_asc (l : List α) : Asc key (sortK key l) := by
 unfold sortK
 have h : ∀ (l acc : List α), Asc key acc → Asc key (l.foldl (insK key) acc) := fun l => by
  induction l with
  | nil => intro acc h; exact h
  | cons x l ih => intro acc h; exact ih _ (insK_asc key h)
 exact h l [] List.Pairwise.nil
theorem insK_end {l1 l2 : List α} {x : α} (h : Asc key (l1 ++ l2)) (h1 : ∀ y ∈ l1.getLast?, key y ≤ key x) (h2 : ∀ y ∈ l2, key x < key y) : insK key (l1 ++ l2) x = l1 ++ x :: l2 := by
 have hle : ∀ y ∈ l1, key y ≤ key x := fun y hy => by
  rcases List.eq_nil_or_concat l1 with rfl | ⟨l, z, rfl⟩
  ·cases hy
  ·have hz := h1 z (by simp)
   have ha := (List.pairwise_append.1 h).1
   rw [List.concat_eq_append] at ha hy
   rcases List.mem_append.1 hy with hy | hy
   ·have := (List.pairwise_append.1 ha).2.2 y hy z (by simp); omega
   ·rw [List.mem_singleton.1 hy]; exact hz
 clear h h1
 induction l1 with
 | nil =>
  cases l2 with
  | nil => rfl
  | cons y l2 => rw [List.nil_append, insK, if_pos (h2 y (List.mem_cons_self ..))]; rfl
 | cons y l1 ih =>
  have := hle y (List.mem_cons_self ..)
  rw [List.cons_append, insK, if_neg (by omega), ih fun z hz => hle z (List.mem_cons_of_mem _ hz)]
  rfl
theorem insK_map {β : Type} (f : β → α) : ∀ (l : List β) (x : β), insK key (l.map f) (f x) = (insK (fun y => key (f y)) l x).map f
 | [], _ => rfl
 | y :: l, x => by
  rw [List.map_cons, insK, insK]
  split
  ·rfl
  ·rw [insK_map f l x]; rfl
theorem sortK_map {β : Type} (f : β → α) (l : List β) : sortK key (l.map f) = (sortK (fun y => key (f y)) l).map f := by
 have h : ∀ (l acc : List β), (l.map f).foldl (insK key) (acc.map f) = (l.foldl (insK fun y => key (f y)) acc).map f := fun l => by
  induction l with
  | nil => intro acc; rfl
  | cons x l ih => intro acc; rw [List.map_cons, List.foldl_cons, insK_map, ih]; rfl
 exact h l []
theorem insK_perm : ∀ (l : List α) (x : α), (insK key l x).Perm (x :: l)
 | [], _ => List.Perm.refl _
 | y :: l, x => by
  rw [insK]
  split
  ·exact List.Perm.refl _
  ·exact ((insK_perm l x).cons y).trans (List.Perm.swap x y l)
theorem sortK_perm (l : List α) : (sortK key l).Perm l := by
 have h : ∀ (l acc : List α), (l.foldl (insK key) acc).Perm (acc ++ l) := fun l => by
  induction l with
  | nil => intro acc; rw [List.append_nil]; exact List.Perm.refl _
  | cons x l ih =>
   intro acc
   refine (ih (insK key acc x)).trans ?_
   refine ((insK_perm key acc x).append_right l).trans ?_
   exact List.perm_middle.symm
 exact h l []
end
theorem range_getD {α : Type} (l : List α) (d : α) : (List.range l.length).map (fun k => l.getD k d) = l := by
 apply List.ext_getElem
 ·simp
 ·intro k h1 h2
  simp [h2]
theorem con_sort {P : Program} {f : FuncId} {α β : Type} [En α] [En β] (keyA : α → Int) (keyB : β → Int) (hn : En.n β = En.n α) {xs : List X} (hxs : xs.all X.plain = true) (l : List α)
  (hp : ∀ V : Nat → Nat → Value, (∀ k c, k < l.length → c < En.n α → (V k c).oneCell' = true) → (∀ k c x, k < l.length → c < En.n α → (En.cs (l.getD k En.dflt)).getD c .j = .v x → V k c = x) → (∀ k c n0 m g, k < l.length → c < En.n α → (En.cs (l.getD k En.dflt)).getD c .j = .s n0 m g → ∃ a cap, V k c = .slice a m cap) →
   ∃ lp : List β, lp.length = l.length ∧ (∀ k c, k < l.length → c < En.n α → (En.cs (lp.getD k En.dflt)).getD c .j = .v (V k c)) ∧ ∀ k, k < l.length → keyB (lp.getD k En.dflt) = keyA (l.getD k En.dflt))
  (hc : ∀ lp : List β, lp.length = l.length → Con P f (.h base [] :: xs) [.rt base .row (tr lp)] (RetW (.t []) [] [(base, tr (sortK keyB lp))])) :
  Con P f (.h base [] :: xs) [.rt base .row (tr l)] (RetW (.t []) [] [(base, tr (sortK keyA l))]) := by
 let ix := sortK (fun k => keyA (l.getD k En.dflt)) (List.range l.length)
 have hpm : ix.Perm (List.range l.length) := sortK_perm _ _
 have hlen : ix.length = l.length := by rw [hpm.length_eq, List.length_range]
 have hget : ∀ k, (hk : k < l.length) → ix.getD k 0 = ix[k]'(by omega) := fun k hk => by
  rw [List.getD_eq_getElem?_getD, List.getElem?_eq_getElem (by omega)]
  rfl
 have hA : sortK keyA l = ix.map fun k => l.getD k En.dflt := by
  conv => lhs; rw [← range_getD l En.dflt]
  exact sortK_map keyA _ _
 have e1 : ∀ {γ : Type} [En γ] (m : List γ), m.length = l.length → tr m = .s (En.n γ) l.length fun k c => (En.cs (m.getD k En.dflt)).getD c .j := fun m hm => by unfold tr; rw [hm]
 rw [e1 (sortK keyA l) (sortK_len _ _)]
 refine con_lift2 (fT := fun k c => (En.cs (l.getD k En.dflt)).getD c .j) (fun k => ix.getD k 0) (fun k hk => ?_) (fun k k' hk hk' e => ?_) (fun k c hk _ => ?_) hxs fun V h1 h2 h3 => ?_
 ·have hm : ix.getD k 0 ∈ ix := by rw [hget k hk]; exact List.getElem_mem _
  exact List.mem_range.1 (hpm.mem_iff.1 hm)
 ·have hnd : ix.Nodup := hpm.nodup_iff.2 List.nodup_range
  have e' : ix.getD k 0 = ix.getD k' 0 := e
  rw [hget k hk, hget k' hk'] at e'
  exact (List.getElem_inj hnd).1 e'
 ·show (En.cs ((sortK keyA l).getD k En.dflt)).getD c .j = (En.cs (l.getD (ix.getD k 0) En.dflt)).getD c .j
  have hk2 : k < ix.length := by omega
  rw [hA, show (ix.map fun k => l.getD k En.dflt).getD k En.dflt = l.getD (ix.getD k 0) En.dflt by
   rw [hget k hk, List.getD_eq_getElem?_getD, List.getElem?_map, List.getElem?_eq_getElem hk2]
   rfl]
 ·obtain ⟨lp, hl, hcs, hkey⟩ := hp V h1 h2 h3
  have hB : sortK keyB lp = ix.map fun k => lp.getD k En.dflt := by
   conv => lhs; rw [← range_getD lp En.dflt]
   rw [sortK_map keyB, hl]
   have hq : ∀ (m acc : List Nat), (∀ k ∈ m, k < l.length) → (∀ k ∈ acc, k < l.length) → m.foldl (insK fun k => keyB (lp.getD k En.dflt)) acc = m.foldl (insK fun k => keyA (l.getD k En.dflt)) acc := fun m => by
    induction m with
    | nil => intro acc _ _; rfl
    | cons x m ih =>
     intro acc hm ha
     have hi : ∀ acc : List Nat, (∀ k ∈ acc, k < l.length) → insK (fun k => keyB (lp.getD k En.dflt)) acc x = insK (fun k => keyA (l.getD k En.dflt)) acc x := fun acc => by
      induction acc with
      | nil => intro _; rfl
      | cons y acc ih2 =>
       intro ha
       rw [insK, insK, hkey x (hm x (List.mem_cons_self ..)), hkey y (ha y (List.mem_cons_self ..)), ih2 fun k hk => ha k (List.mem_cons_of_mem _ hk)]
     rw [List.foldl_cons, List.foldl_cons, hi acc ha]
     refine ih _ (fun k hk => hm k (List.mem_cons_of_mem _ hk)) fun k hk => ?_
     rcases (insK_mem _).1 hk with rfl | hk
     ·exact hm _ (List.mem_cons_self ..)
     ·exact ha k hk
   congr 1
   exact hq _ [] (fun k hk => List.mem_range.1 hk) fun k hk => by cases hk
  have hc' := hc lp hl
  rw [e1 lp hl, e1 (sortK keyB lp) (by rw [sortK_len, hl]), hn] at hc'
  refine ⟨_, _, fun k c hk hc => hcs k c hk hc, fun k c hk hc => ?_, hc'⟩
  have hk2 : k < ix.length := by omega
  have hm : ix.getD k 0 ∈ ix := by rw [hget k hk]; exact List.getElem_mem _
  rw [hB, show (ix.map fun k => lp.getD k En.dflt).getD k En.dflt = lp.getD (ix.getD k 0) En.dflt by
   rw [hget k hk, List.getD_eq_getElem?_getD, List.getElem?_map, List.getElem?_eq_getElem hk2]
   rfl]
  exact hcs _ c (List.mem_range.1 (hpm.mem_iff.1 hm)) hc
open Go Go.RowKit
section
variable {P : Program} {N : Nat} {L : List E} {dst : Option Tmp} {ty : TypeId} {pos : String} {af : Array Edge} {g : Option (Nat × Bool)} {d : Nat}
theorem Stp.callA {f : FuncId} {cal : Operand} {args : Array Operand} {tys : Array TypeId} {cd : Nat} {n l lo len : Nat} {fT : Nat → Nat → T} {xs : List X}
  (hds : dst = some d) (hN : d < N) (hE : Ent P f) (hcal : evX L cal = .f f [])
  (hargs : args.toList.map (evX L) = .h cd [] :: xs) (hxs : onlyV xs = true) (hc : rootL L cd = some (.ro, .s n l fT)) (hle : lo + len ≤ l)
  (hcon : Con P f (.h base [] :: xs) [.rt base .ro (.s n l fT)] (RetW (.a base [] n lo len) [] [])) :
  Stp P N ⟨dst, .call { callee := .value cal, args := args, argTypes := tys }, ty, pos, af, g⟩ L (putL L d (.a cd [] n lo len)) := fun cx a w Q hs => by
 obtain ⟨H, G, hr, hG⟩ := hs.rp
 have hcv := ev_ok hr cal
 rw [hcal] at hcv
 obtain ⟨us, hu1, hu2⟩ := hcv
 obtain rfl : us = [] := by cases us with
  | nil => rfl
  | cons _ _ => exact hu2.elim
 unfold Oper.wp
 rw [run_callX hE hu1, List.append_nil]
 have hargsV := evXs_ok hr args.toList
 rw [hargs] at hargsV
 generalize hvs : args.toList.map a.eval = vs at hargsV
 cases vs with
 | nil => exact hargsV.elim
 | cons v0 vs =>
 obtain ⟨hv0, hvs1⟩ := hargsV
 have hc' := rootL_mem hc
 let H' : Nat → Value := fun i => if i = base then H cd else undef
 let G' : Nat → FP := fun i => if i = base then G cd else fun _ _ => False
 have eH1 : H' base = H cd := if_pos rfl
 have eG1 : G' base = G cd := if_pos rfl
 have hrts : ∀ {id m t}, rts [.rt base .ro (.s n l fT)] id m t → (id = base ∧ m = .ro ∧ t = .s n l fT) := fun {id m t} h => by
  simp only [rts, List.mem_cons, List.not_mem_nil, or_false, E.rt.injEq] at h
  exact h
 have hrp : Rp [.rt base .ro (.s n l fT)] (fun _ => undef) H' G' w := by
  refine ⟨fun id m t m' t' k1 k2 => ?_, fun id m t k1 k2 => ?_, fun id t k => ?_, fun id t k => ?_, fun id t k => ?_, fun id m t id' m' t' k1 k2 hne' hm x y hx hy => ?_, fun t x k => ?_, fun id c x k => ?_⟩
  ·obtain ⟨rfl, rfl, rfl⟩ := hrts k1; obtain ⟨_, rfl, rfl⟩ := hrts k2; exact ⟨rfl, rfl⟩
  ·exact absurd (hrts k1).2.1 k2
  ·obtain ⟨rfl, _, rfl⟩ := hrts k; rw [eH1, eG1]; exact hr.ro _ _ hc'
  ·obtain ⟨rfl, _, rfl⟩ := hrts k; rw [eG1]; exact hr.rold _ _ hc'
  ·have := (hrts k).2.1; cases this
  ·exact hm (hrts k1).2.1
  ·simp at k
  ·simp at k
 have hxv : VRs (rts [.rt base .ro (.s n l fT)]) H' w (.h base [] :: xs) (v0 :: vs) := by
  refine ⟨?_, onlyV_ok hxs hvs1⟩
  obtain ⟨m, t, p1, p2, p3, p4⟩ := hv0
  obtain ⟨rfl, rfl⟩ := hr.one _ _ _ _ _ hc' p1
  exact ⟨.ro, _, by simp [rts], p2, p3, by rw [eH1]; exact p4⟩
 simp only [Oper.upon]
 refine (hcon w _ H' G' (cx.now hs.chg) (fun id m t h1 h2 => absurd (hrts h1).2.1 h2) hrp hxv).mono ?_
 rintro e w' ⟨v, x, L2, H2, G2, val2, rfl, ⟨ρ', rfl, hfix, _, _, _⟩, k1, k2, k3, k4, k5⟩
 refine ⟨⟨_, rfl⟩, ?_⟩
 have hC : Chg (fun _ _ => False) w w' := k3.mono fun b o _ hx => by
  obtain ⟨id, m', t, q1, q2, q3⟩ := hx
  exact q2 (hrts q1).2.1
 have hr' := hr.chg hC fun _ _ _ _ _ _ _ h => h
 have hv : VR (rts L) H w' (.a cd [] n lo len) v := by
  simp only [X.ren, hfix base (Nat.le_refl _)] at k2
  obtain ⟨m, t, p1, p2, p3, hv, p4, p5⟩ := k2
  refine ⟨.ro, _, hc', trivial, ⟨l, fT, rfl, hle⟩, hv, ?_, p5⟩
  rw [← eH1, ← k5 _ _ _ (Nat.le_refl _) p1]
  exact p4
 refine ⟨by rw [hds]; simpa [Go.Act.put] using hs.siz, by rw [hds]; simpa [Go.Act.put] using hs.dfr, hs.chg.trans (hC.mono fun _ _ _ h => h.elim), _, _, ?_, by rw [rts_put]; exact hG⟩
 rw [hds]
 exact (hr'.put hv).val fun t => (Act.val_put (Nat.lt_of_lt_of_le hN hs.siz) t).symm
end
open Go Go.RowKit
section
variable {P : Program} {N : Nat} {L : List E} {dst : Option Tmp} {ty : TypeId} {pos : String} {af : Array Edge} {g : Option (Nat × Bool)} {d : Nat}
theorem Stp.boxZ (zs : List T) {t : TypeId} {x : Operand} {zt : List T} [hT : TyI P t zt] (hd : dst = some d) (hN : d < N) (hb : d < base) (hx : (evX L x).flat = true) (hl : (evX L x).leaves.length = zt.length) (hzl : zs.length = zt.length) (hz : zpos zs = true) (ho : (evX L x).leaves.all X.one = true) : Stp P N ⟨dst, .box t x, ty, pos, af, g⟩ L
   (alsOf (idsL (delR L d)) d (srcs [] zs (evX L x).leaves) (evX L x).leaves 0 ++ putL (.rt d .box (rowT zt.length 1 (srcs [] zs (evX L x).leaves)) :: delR L d) d (.p d [] zt.length 0 0)) :=
 Stp.op (fun cx a w hs => by
  obtain ⟨H, G, hr, hG⟩ := hs.rp
  have hv := (ev_ok hr x).cells hr.ones hx
  obtain ⟨q1, q2⟩ := srcs0_ok hr (hzl.trans hl.symm) hz hv ho
  have hC : Chg (fun _ _ => False) w (w.alloc (.cells (a.eval x).cells t)) := Chg.alloc _ _ _
  have hcs : (a.eval x).cells.size = zt.length := by have := hv.len; simp only [Array.length_toList] at this; omega
  have hold : ∀ id m t, rts L id m t → ∀ x y, G id x y → x < w.heap.size := fun id m t h x y hg => by
   by_cases hm : m = .ro
   ·subst hm; exact hr.rold id t h x y hg
   ·exact (hr.own id m t h hm).old x y hg
  have g1 := Own.alloc (w := w) (n := zt.length) (len := 1) (cap := 1) (f := fun k c => ((srcs [] zs (evX L x).leaves).getD (k * zt.length + c) (.j, none)).1) hT.pos (Nat.le_refl _) (by simp [maxLen]) (cs := (a.eval x).cells) (e := t) (by omega) (fun _ _ => fun _ _ => False) (fun k c hk hc => by
   have hlt : k * zt.length + c < (a.eval x).cells.size := by
    rw [show k = 0 by omega]; omega
   exact ⟨(a.eval x).cells[k * zt.length + c], by simp [hlt], (q2 _ _ (by simp [hlt])).1⟩) (fun _ _ _ _ _ _ _ _ _ _ _ h => h.elim)
  generalize hF : (fun a o => (0 < 1 ∧ blkFP w.heap.size a o) ∨ ∃ k c, k < 1 ∧ c < zt.length ∧ False) = F at g1
  have hFn : ∀ a o, F a o → a = w.heap.size := fun a o h => by
   rw [← hF] at h
   rcases h with ⟨_, h⟩ | ⟨_, _, _, _, h⟩
   ·exact h
   ·exact h.elim
  have g2 : ∀ id m t, rts L id m t → ∀ a o, G id a o → F a o → False := fun id m t h a o hg hf => by
   have := hold id m t h a o hg
   have := hFn a o hf
   omega
  have g3 : ∀ a o, F a o → cx.S0 a o ∨ cx.w0.heap.size ≤ a := fun a o hf => by
   have := hFn a o hf
   have := hs.chg.size
   exact .inr (by omega)
  refine ⟨.pointer (some ⟨w.heap.size, 0, none⟩), w.alloc (.cells (a.eval x).cells t), run_v (by simp [Instr.box, newVar, newRow]), ?_⟩
  rw [hd]
  generalize hss : srcs [] zs (evX L x).leaves = ss at *
  have h1 := (hr.chg hC fun _ _ _ _ _ _ _ h => h).new d (m := .box) (by simp) g1 (fun _ => ⟨_, _, rfl⟩) (fun id m t _ h => g2 id m t h)
  have hbox := VR.box (o := w.heap.size) (R := rts (.rt d .box (rowT zt.length 1 ss) :: delR L d)) (H := updN H d (.slice (some ⟨w.heap.size, 0, none⟩) 1 1)) (w := w.alloc (.cells (a.eval x).cells t)) (m := .box) (List.mem_cons_self ..) hT.pos (by simp [updN])
  have h2 := (h1.put (d := d) hbox).val fun t => (Act.val_put (a := a) (v := .pointer (some ⟨w.heap.size, 0, none⟩)) (Nat.lt_of_lt_of_le hN hs.siz) t).symm
  have hA : ∀ e ∈ alsOf (idsL (delR L d)) d ss (evX L x).leaves 0, ∃ id c x, e = E.al id c x := fun e he => by
   obtain ⟨k, y, h, _⟩ := alsOf_mem he; exact ⟨_, _, _, h⟩
  have hsat := hs.new (cx := cx) hr hG hC hN hb (m := .box) (by simp) g1 (fun _ => ⟨_, _, rfl⟩) (fun id m t _ h => g2 id m t h) g3 hbox
  obtain ⟨_, _, hs3, _⟩ := hsat
  refine ⟨by simpa [Go.Act.put] using hs.siz, by simpa [Go.Act.put] using hs.dfr, hs3, updN H d (.slice (some ⟨w.heap.size, 0, none⟩) 1 1), updN G d F, h2.als fun e he => ?_, ?_⟩
  ·obtain ⟨k, y, rfl, hk1, hk2, hk3⟩ := alsOf_mem he
   refine ⟨d, 0 + k, y, rfl, zt.length, _, by rw [rts_put]; exact List.mem_cons_self .., ?_, ?_⟩
   ·have hlt : k < (evX L x).leaves.length := by
     rcases Nat.lt_or_ge k (evX L x).leaves.length with h | h
     ·exact h
     ·rw [List.getElem?_eq_none h] at hk1; cases hk1
    omega
   ·have hlt : k < (a.eval x).cells.size := by
     have h6 := hv.len
     rcases Nat.lt_or_ge k (evX L x).leaves.length with h | h
     ·simp only [Array.length_toList] at h6; omega
     ·rw [List.getElem?_eq_none h] at hk1; cases hk1
    have hcell : (w.alloc (.cells (a.eval x).cells t)).cell? ⟨w.heap.size, k, none⟩ = some (a.eval x).cells[k] := by
     have hbk : (w.alloc (.cells (a.eval x).cells t)).heap[w.heap.size]? = some (.cells (a.eval x).cells t (0, 0)) := Array.getElem?_push_size
     simp only [World.cell?, hbk, Option.isSome_none, Bool.false_eq_true, if_false]
     exact Array.getElem?_eq_getElem hlt
    refine ⟨⟨w.heap.size, k, none⟩, (a.eval x).cells[k], by simp [updN, adr], hcell, ?_⟩
    have hvk := hv.nth.2 k
    rw [List.getD_eq_getElem?_getD, hk1] at hvk
    have : ((a.eval x).cells.toList.getD k undef) = (a.eval x).cells[k] := by simp [hlt]
    rw [this] at hvk
    simp only [Option.getD_some] at hvk
    rw [rts_put]
    refine VR.leaves (C := fun x => x.inB (idsL (delR L d)) = true) (fun z u hl' hz' hu => ?_) (X.inB_all hk3) (VR.chg hr hC (fun _ _ _ _ _ _ _ h => h) hvk)
    have hin : ∀ id, (idsL (delR L d)).contains id = true → ∀ m t, rts L id m t → rts (.rt d .box (rowT zt.length 1 ss) :: delR L d) id m t ∧ updN H d (.slice (some ⟨w.heap.size, 0, none⟩) 1 1) id = H id := fun id hi m t hh => by
     obtain ⟨m', t', h'⟩ := idsL_mem.1 (by simpa using hi)
     obtain ⟨h8, h9⟩ := rts_delR.1 h'
     obtain ⟨rfl, rfl⟩ := hr.one _ _ _ _ _ hh h8
     exact ⟨List.mem_cons_of_mem _ h', by simp [updN, h9]⟩
    cases z with
    | p id q n k c => obtain ⟨m, t, h1, h2⟩ := hu; have := hin id (by simpa [X.inB] using hz') _ _ h1; exact ⟨m, t, this.1, by rw [this.2]; exact h2⟩
    | h id q => obtain ⟨m, t, h1, h2⟩ := hu; have := hin id (by simpa [X.inB] using hz') _ _ h1; exact ⟨m, t, this.1, by rw [this.2]; exact h2⟩
    | a id q n lo len => obtain ⟨m, t, h1, h2⟩ := hu; have := hin id (by simpa [X.inB] using hz') _ _ h1; exact ⟨m, t, this.1, by rw [this.2]; exact h2⟩
    | _ => exact hl'.elim
  ·rw [rts_als hA, rts_put]
   refine ⟨fun id m' t' k1 k2 x y k3 => ?_, fun id m' t' k0 k1 => ?_⟩
   ·by_cases e : id = d
    ·subst e
     simp only [updN, if_true] at k3
     exact g3 x y k3
    ·simp only [updN, e, if_false] at k3
     rcases List.mem_cons.1 k1 with k1 | k1
     ·cases k1; exact absurd rfl e
     ·exact hG.1 id m' t' (rts_delR.1 k1).1 k2 x y k3
   ·have e : id ≠ d := by omega
    simp only [updN, e, if_false]
    rcases List.mem_cons.1 k1 with k1 | k1
    ·cases k1; exact absurd rfl e
    ·exact hG.2 id m' t' k0 (rts_delR.1 k1).1)
theorem Stp.buildSliceZ (zs : List T) {t e : TypeId} {len : Nat} {parts : Array (Nat × Operand)} {zt : List T} [hS : SlI P t e] [hT : TyI P e zt] {ys : List X} (hd : dst = some d) (hN : d < N) (hb : d < base)
  (hf : fillX (fun i => some (i * zt.length, zt.length)) ((reps zt len).map T.toX) (evParts L parts) = some ys) (hsm : len * zt.length ≤ 2 ^ 24) (hyl : ys.length = len * zt.length) (hzl : zs.length = len * zt.length) (hz : zpos zs = true) (ho : ys.all X.one = true)
  (hnd : (movedOf (srcs L zs ys)).Nodup) : Stp P N ⟨dst, .buildSlice t len parts, ty, pos, af, g⟩ L (putL (.rt d .row (rowT zt.length len (srcs L zs ys)) :: delR (delRs L (movedOf (srcs L zs ys))) d) d (.h d [])) :=
 Stp.op (fun cx a w hs => by
  obtain ⟨H, G, hr, hG⟩ := hs.rp
  obtain ⟨z, h1, h2, h3⟩ := hT.zero
  obtain ⟨e1, e2⟩ := evParts_ok (ev_ok hr) parts
  have hz0 : VRs (rts L) H w ((reps zt len).map T.toX) (zrow (len * zt.length) z.cells).toList := zrow_ok h2 hT.pos h3 len
  obtain ⟨cs', g1, g2⟩ := fill_ok hr.ones hz0 e1 e2 hf
  have hlm : len ≤ maxLen := by
   have : len * 1 ≤ len * zt.length := Nat.mul_le_mul_left _ hT.pos
   simp only [maxLen]; omega
  obtain ⟨F, k1, k2, k3⟩ := new_row hs hr hG g2 (hzl.trans hyl.symm) hz ho hT.pos hyl hlm hnd (e := e)
  have hpos := hT.pos
  have h0 : (len * zt.length = 0) ↔ len = 0 := by
   constructor
   ·intro h; rcases Nat.mul_eq_zero.1 h with h | h <;> omega
   ·intro h; rw [h, Nat.zero_mul]
  refine ⟨.slice (some ⟨w.heap.size, 0, none⟩) len len, w.alloc (.cells cs' e), run_v ?_, ?_⟩
  ·by_cases hc : len * zt.length = 0
   ·have hf' : Instr.fill (fun i => some (i * zt.length, zt.length)) (Array.map (fun _ => (default : Value)) (Array.range 0)) (List.map (fun x => (x.fst, a.eval x.snd)) parts.toList) = some cs' := by
     rw [show Array.map (fun _ => (default : Value)) (Array.range 0) = zrow (len * zt.length) z.cells by rw [hc]; simp [zrow]]
     exact g1
    simp only [Instr.buildSlice, Sem.run_bind, run_underlying hS.sl w, Result.andThen, hT.size w, hc]
    simp [newRow, hf']
   ·have hgt : ¬ (2 ^ 24 < len * zt.length) := by omega
    have hf' : Instr.fill (fun i => some (i * zt.length, zt.length)) (Array.map (fun x => z.cells[x % z.cells.size]!) (Array.range (len * zt.length))) (List.map (fun x => (x.fst, a.eval x.snd)) parts.toList) = some cs' := g1
    simp only [Instr.buildSlice, Sem.run_bind, run_underlying hS.sl w, Result.andThen, hT.size w]
    simp only [Nat.reducePow] at hgt
    simp [hgt, hc, h1 w, newRow, hf']
  ·rw [hd]
   exact hs.new hr.delRs (Good.sub hG fun _ _ _ h => (rts_delRs.1 h).1) (Chg.alloc _ _ _) hN hb (by simp) k1 (fun h => by cases h) (fun id m t _ h => k2 id m t h) k3 ⟨.row, _, List.mem_cons_self .., by simp [Okp], ⟨_, _, _, by simp only [T.at, rowT]; rfl⟩, by simp only [VM.hd, updN, if_true]⟩)
end
open Go Go.RowKit
theorem con_insV {P : Program} {f : FuncId} {n len : Nat} {fT : Nat → Nat → T} {gT : Nat → T} (src : Nat → Option Nat) (ids : List Nat) (rs : List E) (i : Nat) (hi : i ≤ len) {XA : X} (XB : (Nat → Value) → X)
  (hrs : ∀ id m t, rts rs id m t → id ≠ base)
  (hids : ∀ id ∈ ids, base ≤ id ∧ ∃ t, rts rs id .row t)
  (hsrc : ∀ c id, c < n → src c = some id → rts rs id .row (gT c))
  (hinj : ∀ c c' id, c < n → c' < n → src c = some id → src c' = some id → c = c')
  (hX : ∀ R H w vp, VR R H w XA vp → ∃ U : Nat → Value, (∀ R' H' w', VR R' H' w' (XB U) vp) ∧ ∀ c, c < n → (src c = none → gT c = .v (U c) ∧ (U c).oneCell' = true) ∧ ∀ id, src c = some id → U c = H id)
  (hrun : ∀ (V : Nat → Nat → Value) (U : Nat → Value), (∀ k c x, k < len → c < n → fT k c = .v x → V k c = x) → (∀ k c n0 l g, k < len → c < n → fT k c = .s n0 l g → ∃ a cap, V k c = .slice a l cap) → (∀ c x, c < n → gT c = .v x → U c = x) → (∀ c n0 l g, c < n → gT c = .s n0 l g → ∃ a cap, U c = .slice a l cap) →
   ∃ iT oT : Nat → Nat → T, (∀ k c, k < len → c < n → iT k c = .v (V k c)) ∧ (∀ k c, k < len + 1 → c < n → oT k c = .v (if k < i then V k c else if k = i then U c else V (k - 1) c)) ∧ Con P f [.h base [], XB U] [.rt base .ro (.s n len iT)] (Ret (.h 0 []) [(0, .row, .s n (len + 1) oT)])) :
  Con P f [.h base [], XA] (.rt base .row (.s n len fT) :: rs) (RetW (.h 0 []) [(0, .row, .s n (len + 1) fun k c => if k < i then fT k c else if k = i then gT c else fT (k - 1) c)] ((base :: ids).map fun id => (id, T.j))) := by
 intro w vs H G ht ha hr hv
 match vs, hv with
 | [v, vp], ⟨⟨m, t, _, _, _, hh⟩, hvp, _⟩ =>
 simp only [hd, Option.some.injEq] at hh
 have hb : rts (.rt base .row (.s n len fT) :: rs) base .row (.s n len fT) := List.mem_cons_self ..
 have hO1 := hr.own base .row _ hb (by simp)
 have hold1 := fun x y h => hO1.old x y h
 obtain ⟨hn, a, cap, e0, hl, hm, b, off, V, Gk, h1, h2, h3, h4, h5⟩ := hO1
 obtain ⟨U, hU, hUc⟩ := hX _ _ _ _ hvp
 let Gu : Nat → FP := fun c => match src c with | some id => G id | none => fun _ _ => False
 have eGu : ∀ c id, src c = some id → Gu c = G id := fun c id h => by show (match src c with | some id => G id | none => fun _ _ => False) = _; rw [h]
 have eGn : ∀ c, src c = none → Gu c = fun _ _ => False := fun c h => by show (match src c with | some id => G id | none => fun _ _ => False) = _; rw [h]
 have hsr : ∀ c id, c < n → src c = some id → rts (.rt base .row (.s n len fT) :: rs) id .row (gT c) := fun c id hc h => List.mem_cons_of_mem _ (hsrc c id hc h)
 have hGuO : ∀ c, c < n → Own w (gT c) (Gu c) (U c) := fun c hc => by
  cases hs : src c with
  | none =>
   obtain ⟨e, h⟩ := (hUc c hc).1 hs
   rw [eGn c hs, e]
   exact ⟨rfl, h, fun _ _ h => h⟩
  | some id =>
   rw [eGu c id hs, (hUc c hc).2 id hs]
   exact hr.own id .row _ (hsr c id hc hs) (by simp)
 obtain ⟨iT, oT, hiT, hoT, hcon⟩ := hrun V U (fun k c x hk hc hf => by have := (h2 k c hk hc).2; rw [hf] at this; exact this.1) (fun k c n0 l g hk hc hf => by
   have h := (h2 k c hk hc).2
   rw [hf] at h
   obtain ⟨_, a, cap, h0, _⟩ := h
   exact ⟨a, cap, h0⟩) (fun c x hc hf => by have := hGuO c hc; rw [hf] at this; exact this.1) (fun c n0 l g hc hf => by
   have h := hGuO c hc
   rw [hf] at h
   obtain ⟨_, a, cap, h0, _⟩ := h
   exact ⟨a, cap, h0⟩)
 have hGk : ∀ k c, k < len → c < n → ∀ x y, Gk k c x y → G base x y := fun k c hk hc x y h => (h5 x y).2 (.inr ⟨k, c, hk, hc, h⟩)
 have hgd : ∀ k c c', k < len → c < n → c' < n → ∀ x y, Gk k c x y → Gu c' x y → False := fun k c c' hk hc hc' x y h h' => by
  cases hs : src c' with
  | none => rw [eGn c' hs] at h'; exact h'
  | some id =>
   rw [eGu c' id hs] at h'
   exact hr.dis base .row _ id .row _ hb (hsr c' id hc' hs) (fun e => hrs id .row _ (hsrc c' id hc' hs) e.symm) (by simp) x y (hGk k c hk hc x y h) h'
 have hgg : ∀ c c', c ≠ c' → c < n → c' < n → ∀ x y, Gu c x y → Gu c' x y → False := fun c c' hne hc hc' x y h h' => by
  cases hs : src c with
  | none => rw [eGn c hs] at h; exact h
  | some id =>
   cases hs' : src c' with
   | none => rw [eGn c' hs'] at h'; exact h'
   | some id' =>
    rw [eGu c id hs] at h
    rw [eGu c' id' hs'] at h'
    exact hr.dis id .row _ id' .row _ (hsr c id hc hs) (hsr c' id' hc' hs') (fun e => hne (hinj c c' id hc hc' hs (by rw [hs', e]))) (by simp) x y h h'
 have hGuG : ∀ c, c < n → ∀ x y, Gu c x y → ∃ id m t, rts (.rt base .row (.s n len fT) :: rs) id m t ∧ m ≠ .ro ∧ G id x y := fun c hc x y h => by
  cases hs : src c with
  | none => rw [eGn c hs] at h; exact h.elim
  | some id => rw [eGu c id hs] at h; exact ⟨id, .row, _, hsr c id hc hs, by simp, h⟩
 have hold2 : ∀ c, c < n → ∀ x y, Gu c x y → x < w.heap.size := fun c hc x y h => (hGuO c hc).old x y h
 have hone : ∀ {id m t}, rts [E.rt base .ro (.s n len iT)] id m t → id = base ∧ m = .ro ∧ t = .s n len iT := fun h => by
  cases List.mem_singleton.1 h; exact ⟨rfl, rfl, rfl⟩
 have hb1 : rts [E.rt base .ro (.s n len iT)] base .ro (.s n len iT) := List.mem_singleton.2 rfl
 let G1 : Nat → FP := fun _ x _ => 0 < cap ∧ x = b
 have hrd : Rd w (.s n len iT) (G1 base) (H base) := ⟨hn, a, cap, e0, hl, hm, b, off, V, fun _ _ _ _ => False, fun hp => (h1 (by omega)).1, fun k c hk hc => ⟨(h2 k c hk hc).1, by rw [hiT k c hk hc]; exact ⟨rfl, (h2 k c hk hc).2.one⟩, ⟨by omega, rfl⟩, fun _ _ h => h.elim⟩⟩
 have hrp : Rp [E.rt base .ro (.s n len iT)] (fun _ => undef) H G1 w := by
  refine ⟨fun id m t m' t' k1 k2 => ?_, fun id m t k1 k2 => ?_, fun id t k => ?_, fun id t k => ?_, fun id t k => ?_, fun id m t id' m' t' k1 k2 hne' hm x y hx hy => ?_, fun t x k => ?_, fun id c x k => ?_⟩
  ·obtain ⟨rfl, rfl, rfl⟩ := hone k1; obtain ⟨_, rfl, rfl⟩ := hone k2; exact ⟨rfl, rfl⟩
  ·exact absurd (hone k1).2.1 k2
  ·obtain ⟨rfl, _, rfl⟩ := hone k; exact hrd
  ·exact fun x y h => hold1 x y ((h5 x y).2 (.inl h))
  ·have := (hone k).2.1; cases this
  ·exact hm (hone k1).2.1
  ·simp at k
  ·simp at k
 refine (hcon w [v, vp] H G1 ht (fun id m t k1 k2 => absurd (hone k1).2.1 k2) hrp ⟨⟨.ro, _, hb1, trivial, ⟨_, _, _, rfl⟩, by simp only [hd, hh]⟩, hU _ _ _, trivial⟩).mono ?_
 rintro e w' ⟨v', x, L, H', G', val, rfl, ⟨ρ', rfl, _, hroots⟩, hr', hx', hC, hG', hH'⟩
 obtain ⟨_, hrt⟩ := hroots _ (List.mem_singleton.2 rfl)
 have hOn := hr'.own _ _ _ hrt (by simp)
 have hnew : ∀ x y, G' (ρ' 0) x y → w.heap.size ≤ x := fun x y h => by
  rcases hG' _ _ _ hrt (by simp) x y h with ⟨id, m, t, q1, q2, _⟩ | h
  ·exact absurd (hone q1).2.1 q2
  ·exact h
 have hv' : v' = H' (ρ' 0) := by
  obtain ⟨m, t, _, _, _, q⟩ := hx'
  simp only [hd, Option.some.injEq] at q
  exact q.symm
 have hC' : Chg (fun _ _ => False) w w' := hC.mono fun x y _ ⟨id, m, t, q1, q2, q3⟩ => q2 (hone q1).2.1
 obtain ⟨_, a', cap', e0', hl', hm', b', off', V', G0, k1, k2, k3, k4, k5⟩ := hOn
 have hbn : w.heap.size ≤ b' := hnew b' 0 ((k5 b' 0).2 (.inl ⟨by omega, rfl⟩))
 have hcell : ∀ k c, k < len + 1 → c < n → w'.cell? ⟨b', off' + (k * n + c), none⟩ = some (if k < i then V k c else if k = i then U c else V (k - 1) c) := fun k c hk hc => by
  obtain ⟨q1, q2⟩ := k2 k c hk hc
  rw [hoT k c hk hc] at q2
  rw [q1, q2.1]
 have hnb : ∀ k c, k < len → c < n → ∀ x y, Gk k c x y → x = b' → False := fun k c hk hc x y h e => by
  have := hold1 x y (hGk k c hk hc x y h); omega
 have hnb2 : ∀ c, c < n → ∀ x y, Gu c x y → x = b' → False := fun c hc x y h e => by
  have := hold2 c hc x y h; omega
 have hfr1 : ∀ k c, k < len → c < n → Own w' (fT k c) (Gk k c) (V k c) := fun k c hk hc => (h2 k c hk hc).2.frame hC' fun x y _ hx => hx
 have hfr2 : ∀ c, c < n → Own w' (gT c) (Gu c) (U c) := fun c hc => (hGuO c hc).frame hC' fun x y _ hx => hx
 have hO : Own w' (.s n (len + 1) fun k c => if k < i then fT k c else if k = i then gT c else fT (k - 1) c) (fun x y => (0 < cap' ∧ blkFP b' x y) ∨ ∃ k c, k < len + 1 ∧ c < n ∧ (if k < i then Gk k c else if k = i then Gu c else Gk (k - 1) c) x y) (H' (ρ' 0)) := by
  rw [e0']
  refine ⟨hn, _, cap', rfl, hl', hm', b', off', fun k c => if k < i then V k c else if k = i then U c else V (k - 1) c, fun k c => if k < i then Gk k c else if k = i then Gu c else Gk (k - 1) c, k1, fun k c hk hc => ⟨hcell k c hk hc, ?_⟩, fun k c k' c' hn' hk hc hk' hc' x y h h' => ?_, fun k c hk hc x y h hx => ?_, fun x y => Iff.rfl⟩
  ·by_cases c1 : k < i
   ·simp only [if_pos c1]; exact hfr1 k c (by omega) hc
   ·by_cases c2 : k = i
    ·simp only [if_neg c1, if_pos c2]; exact hfr2 c hc
    ·simp only [if_neg c1, if_neg c2]; exact hfr1 (k - 1) c (by omega) hc
  ·dsimp only at h h'
   by_cases c1 : k < i <;> by_cases d1 : k' < i
   ·rw [if_pos c1] at h; rw [if_pos d1] at h'; exact h3 k c k' c' hn' (by omega) hc (by omega) hc' x y h h'
   ·rw [if_pos c1] at h; rw [if_neg d1] at h'
    by_cases d2 : k' = i
    ·rw [if_pos d2] at h'; exact hgd k c c' (by omega) hc hc' x y h h'
    ·rw [if_neg d2] at h'; exact h3 k c (k' - 1) c' (by omega) (by omega) hc (by omega) hc' x y h h'
   ·rw [if_neg c1] at h; rw [if_pos d1] at h'
    by_cases c2 : k = i
    ·rw [if_pos c2] at h; exact hgd k' c' c (by omega) hc' hc x y h' h
    ·rw [if_neg c2] at h; exact h3 (k - 1) c k' c' (by omega) (by omega) hc (by omega) hc' x y h h'
   ·rw [if_neg c1] at h; rw [if_neg d1] at h'
    by_cases c2 : k = i <;> by_cases d2 : k' = i
    ·rw [if_pos c2] at h; rw [if_pos d2] at h'; exact hgg c c' (by omega) hc hc' x y h h'
    ·rw [if_pos c2] at h; rw [if_neg d2] at h'; exact hgd (k' - 1) c' c (by omega) hc' hc x y h' h
    ·rw [if_neg c2] at h; rw [if_pos d2] at h'; exact hgd (k - 1) c c' (by omega) hc hc' x y h h'
    ·rw [if_neg c2] at h; rw [if_neg d2] at h'; exact h3 (k - 1) c (k' - 1) c' (by omega) (by omega) hc (by omega) hc' x y h h'
  ·dsimp only at h
   by_cases c1 : k < i
   ·rw [if_pos c1] at h; exact hnb k c (by omega) hc x y h hx
   ·rw [if_neg c1] at h
    by_cases c2 : k = i
    ·rw [if_pos c2] at h; exact hnb2 c hc x y h hx
    ·rw [if_neg c2] at h; exact hnb (k - 1) c (by omega) hc x y h hx
 obtain ⟨x, L2, H2, G2, val2, r⟩ := row_new (base :: ids) hr (fun id h => by
  rcases List.mem_cons.1 h with rfl | h
  ·exact ⟨Nat.le_refl _, .row, _, by simp, hb⟩
  ·obtain ⟨q1, t, q2⟩ := hids id h
   exact ⟨q1, .row, t, by simp, List.mem_cons_of_mem _ q2⟩) hC' (fun _ _ h => h.elim) hO rfl (fun x y h => by
  rcases h with ⟨_, h⟩ | ⟨k, c, hk, hc, h⟩
  ·have : x = b' := h
   exact .inr (by omega)
  ·by_cases c1 : k < i
   ·rw [if_pos c1] at h; exact .inl ⟨base, .row, _, hb, by simp, hGk k c (by omega) hc x y h⟩
   ·rw [if_neg c1] at h
    by_cases c2 : k = i
    ·rw [if_pos c2] at h; exact .inl (hGuG c hc x y h)
    ·rw [if_neg c2] at h; exact .inl ⟨base, .row, _, hb, by simp, hGk (k - 1) c (by omega) hc x y h⟩)
 exact ⟨_, x, L2, H2, G2, val2, rfl, hv' ▸ r⟩
open Go Go.RowKit
section
variable {α : Type} (key : α → Int)
def fk (k : Int) (l : List α) : List α := l.filter fun x => key x == k
theorem fk_app (k : Int) (a b : List α) : fk key k (a ++ b) = fk key k a ++ fk key k b := List.filter_append ..
theorem fk_nil_of {k : Int} {l : List α} (h : ∀ x ∈ l, key x ≠ k) : fk key k l = [] := by
 unfold fk
 rw [List.filter_eq_nil_iff]
 intro x hx
 have := h x hx
 simpa using this
theorem mem_fk {k : Int} {l : List α} {x : α} : x ∈ fk key k l ↔ x ∈ l ∧ key x = k := by
 unfold fk
 rw [List.mem_filter]
 simp
theorem asc_uniq : ∀ {l r : List α}, Asc key l → Asc key r → (∀ k, fk key k l = fk key k r) → l = r
 | [], [], _, _, _ => rfl
 | [], y :: r, _, _, h => by
  have := h (key y)
  have hy : y ∈ fk key (key y) (y :: r) := (mem_fk key).2 ⟨List.mem_cons_self .., rfl⟩
  rw [← this] at hy
  cases hy
 | x :: l, [], _, _, h => by
  have := h (key x)
  have hx : x ∈ fk key (key x) (x :: l) := (mem_fk key).2 ⟨List.mem_cons_self .., rfl⟩
  rw [this] at hx
  cases hx
 | x :: l, y :: r, hl, hr, h => by
  obtain ⟨h1, h2⟩ := List.pairwise_cons.1 hl
  obtain ⟨h3, h4⟩ := List.pairwise_cons.1 hr
  have hx : x ∈ y :: r := ((mem_fk key).1 (by rw [← h (key x)]; exact (mem_fk key).2 ⟨List.mem_cons_self .., rfl⟩)).1
  have hy : y ∈ x :: l := ((mem_fk key).1 (by rw [h (key y)]; exact (mem_fk key).2 ⟨List.mem_cons_self .., rfl⟩)).1
  have e1 : key y ≤ key x := by
   rcases List.mem_cons.1 hx with rfl | hx
   ·exact Int.le_refl _
   ·exact h3 x hx
  have e2 : key x ≤ key y := by
   rcases List.mem_cons.1 hy with rfl | hy
   ·exact Int.le_refl _
   ·exact h1 y hy
  have e : key x = key y := by omega
  have hh := h (key x)
  have e3 : fk key (key x) (x :: l) = x :: fk key (key x) l := by unfold fk; rw [List.filter_cons_of_pos (by simp)]
  have e4 : fk key (key x) (y :: r) = y :: fk key (key x) r := by unfold fk; rw [List.filter_cons_of_pos (by simp [e])]
  rw [e3, e4] at hh
  obtain rfl : x = y := (List.cons.inj hh).1
  congr 1
  refine asc_uniq h2 h4 fun k => ?_
  have hk := h k
  unfold fk at hk ⊢
  rw [List.filter_cons, List.filter_cons] at hk
  split at hk
  ·exact (List.cons.inj hk).2
  ·exact hk
theorem fk_ins (k : Int) (x : α) : ∀ {l : List α}, Asc key l → fk key k (insK key l x) = fk key k l ++ fk key k [x]
 | [], _ => rfl
 | y :: l, h => by
  obtain ⟨h1, h2⟩ := List.pairwise_cons.1 h
  rw [insK]
  split
  ·rename_i hlt
   show fk key k ([x] ++ (y :: l)) = _
   rw [fk_app]
   by_cases hc : key x = k
   ·rw [fk_nil_of key (l := y :: l) fun z hz => by
     rcases List.mem_cons.1 hz with rfl | hz
     ·omega
     ·have := h1 z hz; omega]
    rw [List.append_nil, List.nil_append]
   ·rw [fk_nil_of key (l := [x]) fun z hz => by rw [List.mem_singleton.1 hz]; exact hc, List.append_nil, List.nil_append]
  ·show fk key k ([y] ++ insK key l x) = fk key k ([y] ++ l) ++ _
   rw [fk_app, fk_app, fk_ins k x h2, List.append_assoc]
theorem fk_sort (k : Int) (l : List α) : fk key k (sortK key l) = fk key k l := by
 have h : ∀ (l acc : List α), Asc key acc → fk key k (l.foldl (insK key) acc) = fk key k acc ++ fk key k l := fun l => by
  induction l with
  | nil => intro acc _; rw [List.foldl_nil, show fk key k ([] : List α) = [] from rfl, List.append_nil]
  | cons x l ih =>
   intro acc ha
   rw [List.foldl_cons, ih _ (insK_asc key ha), fk_ins key k x ha, List.append_assoc, ← fk_app]
   rfl
 exact (h l [] List.Pairwise.nil).trans (List.nil_append _)
theorem sort_eq {l r : List α} (hr : Asc key r) (h : ∀ k, fk key k l = fk key k r) : sortK key l = r :=
 asc_uniq key (sortK_asc key l) hr fun k => (fk_sort key k l).trans (h k)
theorem sort_sort (x y : List α) : sortK key (sortK key x ++ sortK key y) = sortK key (x ++ y) :=
 sort_eq key (sortK_asc key _) fun k => by rw [fk_app, fk_sort, fk_sort, fk_sort, fk_app]
theorem sort_of_asc {l : List α} (h : Asc key l) : sortK key l = l := sort_eq key h fun _ => rfl
theorem asc_app {a b : List α} (ha : Asc key a) (hb : Asc key b) (h : ∀ x ∈ a, ∀ y ∈ b, key x ≤ key y) : Asc key (a ++ b) := List.pairwise_append.2 ⟨ha, hb, h⟩
theorem sort_front {x : α} {b1 b2 : List α} (hb : Asc key (b1 ++ b2)) (h1 : ∀ y ∈ b1, key y < key x) (h2 : ∀ y ∈ b2, key x ≤ key y) : sortK key ([x] ++ (b1 ++ b2)) = b1 ++ [x] ++ b2 := by
 obtain ⟨p1, p2, p3⟩ := List.pairwise_append.1 hb
 refine sort_eq key (asc_app key (asc_app key p1 (List.pairwise_singleton _ _) fun y hy z hz => ?_) p2 fun y hy z hz => ?_) fun k => ?_
 ·rw [List.mem_singleton.1 hz]; have := h1 y hy; omega
 ·rcases List.mem_append.1 hy with hy | hy
  ·exact p3 y hy z hz
  ·rw [List.mem_singleton.1 hy]; exact h2 z hz
 ·rw [fk_app, fk_app, fk_app, fk_app, ← List.append_assoc]
  congr 1
  by_cases hc : key x = k
  ·rw [fk_nil_of key (l := b1) fun y hy => by have := h1 y hy; omega, List.append_nil, List.nil_append]
  ·rw [fk_nil_of key (l := [x]) fun z hz => by rw [List.mem_singleton.1 hz]; exact hc, List.append_nil, List.nil_append]
theorem sort_back {x : α} {a1 a2 : List α} (ha : Asc key (a1 ++ a2)) (h1 : ∀ y ∈ a1, key y ≤ key x) (h2 : ∀ y ∈ a2, key x < key y) : sortK key ((a1 ++ a2) ++ [x]) = a1 ++ [x] ++ a2 := by
 obtain ⟨p1, p2, p3⟩ := List.pairwise_append.1 ha
 refine sort_eq key (asc_app key (asc_app key p1 (List.pairwise_singleton _ _) fun y hy z hz => ?_) p2 fun y hy z hz => ?_) fun k => ?_
 ·rw [List.mem_singleton.1 hz]; exact h1 y hy
 ·rcases List.mem_append.1 hy with hy | hy
  ·exact p3 y hy z hz
  ·rw [List.mem_singleton.1 hy]; have := h2 z hz; omega
 ·rw [fk_app, fk_app, fk_app, fk_app, List.append_assoc, List.append_assoc]
  congr 1
  by_cases hc : key x = k
  ·rw [fk_nil_of key (l := a2) fun y hy => by have := h2 y hy; omega, List.append_nil, List.nil_append]
  ·rw [fk_nil_of key (l := [x]) fun z hz => by rw [List.mem_singleton.1 hz]; exact hc, List.append_nil, List.nil_append]
theorem sort_halves {a1 a2 b1 b2 : List α} (h12 : ∀ y ∈ b1, ∀ x ∈ a2, key y < key x) (h : ∀ x ∈ a1 ++ b1, ∀ y ∈ a2 ++ b2, key x ≤ key y) : sortK key ((a1 ++ a2) ++ (b1 ++ b2)) = sortK key (a1 ++ b1) ++ sortK key (a2 ++ b2) := by
 refine sort_eq key (asc_app key (sortK_asc key _) (sortK_asc key _) fun x hx y hy => h x ((sortK_perm key _).mem_iff.1 hx) y ((sortK_perm key _).mem_iff.1 hy)) fun k => ?_
 rw [fk_app, fk_app, fk_app, fk_app, fk_sort, fk_sort, fk_app, fk_app, List.append_assoc, List.append_assoc]
 congr 1
 rw [← List.append_assoc, ← List.append_assoc]
 congr 1
 by_cases hc : ∃ y ∈ b1, key y = k
 ·obtain ⟨y, hy, he⟩ := hc
  rw [fk_nil_of key (l := a2) fun x hx => by have := h12 y hy x hx; omega, List.append_nil, List.nil_append]
 ·rw [fk_nil_of key (l := b1) fun y hy he => hc ⟨y, hy, he⟩, List.append_nil, List.nil_append]
end
theorem getD_app {α : Type} {A B : List α} {d : α} {k : Nat} (h : k = A.length) : (A ++ B).getD k d = B.getD 0 d := by
 subst h
 rw [List.getD_eq_getElem?_getD, List.getElem?_append_right (Nat.le_refl _), Nat.sub_self, List.getD_eq_getElem?_getD]
theorem getD_at {α : Type} {A B : List α} {d : α} {k j : Nat} (h : k = A.length + j) : (A ++ B).getD k d = B.getD j d := by
 subst h
 rw [List.getD_eq_getElem?_getD, List.getElem?_append_right (by omega), Nat.add_sub_cancel_left, List.getD_eq_getElem?_getD]
theorem getD_left {α : Type} {A B : List α} {d : α} {k : Nat} (h : k < A.length) : (A ++ B).getD k d = A.getD k d := by
 rw [List.getD_eq_getElem?_getD, List.getElem?_append_left h, List.getD_eq_getElem?_getD]
theorem setApp {α : Type} {A B : List α} {x y : α} {k : Nat} (h : k = A.length) : (A ++ x :: B).set k y = A ++ y :: B := by
 subst h
 rw [List.set_append_right _ _ (Nat.le_refl _), Nat.sub_self]
 rfl
def swp {α : Type} (d : α) (l : List α) (p q : Nat) : List α := (l.set p (l.getD q d)).set q (l.getD p d)
theorem swp_eq {α : Type} {d : α} {A B C : List α} {x y : α} {p q : Nat} (hp : p = A.length) (hq : q = A.length + 1 + B.length) : swp d (A ++ x :: (B ++ y :: C)) p q = A ++ y :: (B ++ x :: C) := by
 have e1 : (A ++ x :: (B ++ y :: C)).getD q d = y := by
  rw [getD_at (j := 1 + B.length) (by omega), show x :: (B ++ y :: C) = ([x] ++ B) ++ y :: C by simp, getD_app (by simp; omega)]
  rfl
 have e2 : (A ++ x :: (B ++ y :: C)).getD p d = x := by rw [getD_app hp]; rfl
 rw [swp, e1, e2, setApp hp, show A ++ y :: (B ++ y :: C) = (A ++ y :: B) ++ y :: C by simp, setApp (by simp; omega)]
 simp
theorem take_succ' {α : Type} {l : List α} {k : Nat} {d : α} (h : k < l.length) : l.take (k + 1) = l.take k ++ [l.getD k d] := by
 rw [List.take_add_one, List.getElem?_eq_getElem h, List.getD_eq_getElem?_getD, List.getElem?_eq_getElem h]
 rfl
theorem drop_succ' {α : Type} {l : List α} {k : Nat} {d : α} (h : k < l.length) : l.drop k = l.getD k d :: l.drop (k + 1) := by
 rw [List.drop_eq_getElem_cons h, List.getD_eq_getElem?_getD, List.getElem?_eq_getElem h]
 rfl
def swR {α : Type} (P U M V S : List α) (i : Nat) : List α := P ++ (V.take i ++ (U.drop i ++ (M ++ (U.take i ++ (V.drop i ++ S)))))
theorem swR_step {α : Type} {d : α} {P U M V S : List α} {i p q : Nat} (hi : i < U.length) (hl : U.length = V.length) (hp : p = P.length + i) (hq : q = P.length + U.length + M.length + i) : swp d (swR P U M V S i) p q = swR P U M V S (i + 1) := by
 have e1 : swR P U M V S i = (P ++ V.take i) ++ U.getD i d :: ((U.drop (i + 1) ++ M ++ U.take i) ++ V.getD i d :: (V.drop (i + 1) ++ S)) := by
  unfold swR
  rw [drop_succ' (d := d) hi, drop_succ' (l := V) (d := d) (by omega)]
  simp only [List.append_assoc, List.cons_append]
 rw [e1, swp_eq (by rw [List.length_append, List.length_take]; omega) (by simp only [List.length_append, List.length_take, List.length_drop]; omega)]
 unfold swR
 rw [take_succ' (d := d) hi, take_succ' (l := V) (d := d) (by omega)]
 simp only [List.append_assoc, List.cons_append, List.nil_append]
theorem swR_zero {α : Type} (P U M V S : List α) : swR P U M V S 0 = P ++ (U ++ (M ++ (V ++ S))) := by simp [swR]
theorem swR_full {α : Type} {P U M V S : List α} (hl : U.length = V.length) {i : Nat} (h : i = U.length) : swR P U M V S i = P ++ (V ++ (M ++ (U ++ S))) := by
 subst h
 simp only [swR, List.take_length, List.drop_length, List.nil_append, hl, List.drop_length, List.take_length]
 rw [← hl, List.take_length, List.drop_length, List.nil_append]
def wnd {α : Type} (P : List α) (x : α) (Y S : List α) (t : Nat) : List α := P ++ (Y.take t ++ x :: (Y.drop t ++ S))
theorem wnd_up {α : Type} {d : α} {P Y S : List α} {x : α} {t p q : Nat} (ht : t < Y.length) (hp : p = P.length + t) (hq : q = P.length + t + 1) : swp d (wnd P x Y S t) p q = wnd P x Y S (t + 1) := by
 have e1 : wnd P x Y S t = (P ++ Y.take t) ++ x :: ([] ++ Y.getD t d :: (Y.drop (t + 1) ++ S)) := by
  unfold wnd
  rw [drop_succ' (d := d) ht]
  simp only [List.append_assoc, List.cons_append, List.nil_append]
 rw [e1, swp_eq (by rw [List.length_append, List.length_take]; omega) (by simp only [List.length_append, List.length_take, List.length_nil]; omega)]
 unfold wnd
 rw [take_succ' (d := d) ht]
 simp only [List.append_assoc, List.cons_append, List.nil_append]
theorem wnd_down {α : Type} {d : α} {P Y S : List α} {x : α} {t p q : Nat} (ht : t + 1 ≤ Y.length) (hp : p = P.length + t + 1) (hq : q = P.length + t) : swp d (wnd P x Y S (t + 1)) p q = wnd P x Y S t := by
 have e1 : wnd P x Y S (t + 1) = (P ++ Y.take t) ++ Y.getD t d :: ([] ++ x :: (Y.drop (t + 1) ++ S)) := by
  unfold wnd
  rw [take_succ' (d := d) (by omega)]
  simp only [List.append_assoc, List.cons_append, List.nil_append]
 have e2 : swp d (wnd P x Y S (t + 1)) p q = swp d (wnd P x Y S (t + 1)) q p := by
  unfold swp
  rw [List.set_comm _ _ (by omega)]
 rw [e2, e1, swp_eq (by rw [List.length_append, List.length_take]; omega) (by simp only [List.length_append, List.length_take, List.length_nil]; omega)]
 unfold wnd
 rw [drop_succ' (d := d) (show t < Y.length by omega)]
 simp only [List.append_assoc, List.cons_append, List.nil_append]
end Go.Proofs.YtekcnnngjoonbaaGreat.VM
set_option linter.unusedSectionVars false
namespace Go.Proofs.YtekcnnngjoonbaaGreat.VM
open Go Go.RowKit
section
variable {α : Type} [En α] (key : α → Int)
structure WI (P : List α) (x : α) (Z : List α) where
 t : Nat
 j : Nat
 le : t ≤ Z.length
 ej : j = P.length + t
 gt : ∀ y ∈ Z.drop t, key x < key y
variable {key}
theorem WI.next {P : List α} {x : α} {Z : List α} (i : WI key P x Z) (h0 : P.length < i.j) (h : key x < key (Z.getD (i.t - 1) En.dflt)) : ∀ y ∈ Z.drop (i.t - 1), key x < key y := by
 have h1 := i.ej
 have h2 := i.le
 intro y hy
 rw [drop_succ' (d := En.dflt) (show i.t - 1 < Z.length by omega)] at hy
 rcases List.mem_cons.1 hy with rfl | hy
 ·exact h
 ·exact i.gt y (by rwa [show i.t - 1 + 1 = i.t by omega] at hy)
theorem WI.done {P : List α} {x : α} {Z : List α} (i : WI key P x Z) (ha : Asc key Z) (h : i.j = P.length ∨ ¬ key x < key (Z.getD (i.t - 1) En.dflt)) : Z.take i.t ++ x :: Z.drop i.t = insK key Z x := by
 have h1 := i.ej
 have h2 := i.le
 have e := insK_end key (l1 := Z.take i.t) (l2 := Z.drop i.t) (x := x) (by rw [List.take_append_drop]; exact ha) (fun y hy => ?_) i.gt
 ·rw [← e, List.take_append_drop]
 ·rcases h with h | h
  ·rw [show i.t = 0 by omega] at hy; cases hy
  ·have h3 : 0 < i.t := by
    rcases Nat.eq_zero_or_pos i.t with h0 | h0
    ·rw [h0] at hy; cases hy
    ·exact h0
   have h4 : Z.take i.t = Z.take (i.t - 1) ++ [Z.getD (i.t - 1) En.dflt] := by
    have := take_succ' (l := Z) (k := i.t - 1) (d := En.dflt) (by omega)
    rwa [show i.t - 1 + 1 = i.t by omega] at this
   rw [h4, List.getLast?_concat] at hy
   cases hy
   omega
theorem wnd_get {P Z S : List α} {x : α} {t k : Nat} (ht : t ≤ Z.length) (hk : k = P.length + t) : (wnd P x Z S t).getD k En.dflt = x := by
 rw [wnd, getD_at hk, getD_app (by rw [List.length_take]; omega)]
 rfl
theorem wnd_prev {P Z S : List α} {x : α} {t k : Nat} (ht : t ≤ Z.length) (h0 : 0 < t) (hk : k = P.length + t - 1) : (wnd P x Z S t).getD k En.dflt = Z.getD (t - 1) En.dflt := by
 rw [wnd, getD_at (j := t - 1) (by omega), getD_left (by rw [List.length_take]; omega), List.getD_eq_getElem?_getD, List.getElem?_take, if_pos (by omega), List.getD_eq_getElem?_getD]
theorem wnd_len {P Z S : List α} {x : α} {t : Nat} : (wnd P x Z S t).length = P.length + Z.length + 1 + S.length := by
 have : (Z.take t).length + (Z.drop t).length = Z.length := by rw [← List.length_append, List.take_append_drop]
 simp only [wnd, List.length_append, List.length_cons]
 omega
def insR (P X S : List α) (key : α → Int) (k : Nat) : List α := P ++ (sortK key (X.take k) ++ (X.drop k ++ S))
theorem insR_wnd {P X S : List α} {k : Nat} (hk : k < X.length) : insR P X S key k = wnd P (X.getD k En.dflt) (sortK key (X.take k)) (X.drop (k + 1) ++ S) k := by
 have hl : (sortK key (X.take k)).length = k := by rw [sortK_len, List.length_take]; omega
 rw [insR, wnd, drop_succ' (d := En.dflt) hk, List.take_of_length_le (l := sortK key (X.take k)) (by omega), List.drop_of_length_le (l := sortK key (X.take k)) (by omega)]
 rfl
theorem insR_next {P X S : List α} {k : Nat} (hk : k < X.length) (i : WI key P (X.getD k En.dflt) (sortK key (X.take k))) (h : i.j = P.length ∨ ¬ key (X.getD k En.dflt) < key ((sortK key (X.take k)).getD (i.t - 1) En.dflt)) : wnd P (X.getD k En.dflt) (sortK key (X.take k)) (X.drop (k + 1) ++ S) i.t = insR P X S key (k + 1) := by
 rw [insR, take_succ' (d := En.dflt) hk, sortK_snoc, ← i.done (sortK_asc key _) h, wnd]
 simp only [List.append_assoc, List.cons_append]
theorem insR_full {P X S : List α} {k : Nat} (hk : X.length ≤ k) : insR P X S key k = P ++ (sortK key X ++ S) := by
 rw [insR, List.take_of_length_le hk, List.drop_of_length_le hk]
 rfl
theorem insR_one {P X S : List α} : P ++ (X ++ S) = insR P X S key 1 := by
 rw [insR]
 cases X with
 | nil => rfl
 | cons x X => rfl
end
structure BS (Q : Nat → Prop) (lo hi : Nat) where
 i : Nat
 j : Nat
 h1 : lo ≤ i
 h2 : i ≤ j
 h3 : j ≤ hi
 yes : ∀ t, lo ≤ t → t < i → Q t
 no : ∀ t, j ≤ t → t < hi → ¬ Q t
theorem BS.up {Q : Nat → Prop} {lo hi : Nat} (s : BS Q lo hi) (hm : ∀ h t, lo ≤ t → t ≤ h → h < hi → Q h → Q t) {h : Nat} (hj : h < s.j) (hq : Q h) : ∀ t, lo ≤ t → t < h + 1 → Q t := fun t h1 h2 => by
 have := s.h3
 exact hm h t h1 (by omega) (by omega) hq
theorem BS.down {Q : Nat → Prop} {lo hi : Nat} (s : BS Q lo hi) (hm : ∀ h t, lo ≤ t → t ≤ h → h < hi → Q h → Q t) {h : Nat} (hi1 : s.i ≤ h) (hq : ¬ Q h) : ∀ t, h ≤ t → t < hi → ¬ Q t := fun t h1 h2 hc => by
 have := s.h1
 exact hq (hm t h (by omega) h1 h2 hc)
theorem mid_shr (a b : Nat) (h : a + b < 9223372036854775808) : pureBin .shr (.int .u64 (IntKind.u64.wrap ((a : Int) + (b : Int)))) (.int .u64 1) = some (.int .u64 (((a + b) / 2 : Nat) : Int)) := by
 have e : IntKind.u64.wrap ((a : Int) + (b : Int)) = ((a + b : Nat) : Int) := by
  rw [IntKind.wrap_u64]; omega
 rw [e]
 show some (Value.int .u64 (((a + b : Nat) : Int).fdiv 2)) = _
 rw [Int.fdiv_eq_ediv_of_nonneg _ (by omega)]
 congr 2
theorem mid_val (k : Nat) (h : k < 9223372036854775808) : Value.int .i64 (IntKind.i64.wrap ((k : Nat) : Int)) = iv k := by
 rw [IntWalk.i64_in _ (by omega)]
theorem swR_len {α : Type} {P U M V S : List α} {i : Nat} : (swR P U M V S i).length = P.length + U.length + M.length + V.length + S.length := by
 have h1 : (U.take i).length + (U.drop i).length = U.length := by rw [← List.length_append, List.take_append_drop]
 have h2 : (V.take i).length + (V.drop i).length = V.length := by rw [← List.length_append, List.take_append_drop]
 simp only [swR, List.length_append]
 omega
structure RI {α : Type} (T : List α) (m : Nat) where
 P : List α
 U : List α
 V : List α
 S : List α
 eT : P ++ (V ++ (U ++ S)) = T
 em : P.length + U.length = m
 hu : 0 < U.length
 hv : 0 < V.length
def RI.row {α : Type} {T : List α} {m : Nat} (i : RI T m) : List α := i.P ++ (i.U ++ (i.V ++ i.S))
theorem RI.len {α : Type} {T : List α} {m : Nat} (i : RI T m) : i.P.length + i.U.length + i.V.length + i.S.length = T.length := by
 have := congrArg List.length i.eT
 simp only [List.length_append] at this
 omega
def RI.a {α : Type} {T : List α} {m : Nat} (i : RI T m) (h : i.V.length < i.U.length) : RI T m :=
 ⟨i.P ++ i.V, i.U.drop i.V.length, i.U.take i.V.length, i.S, Eq.trans (by rw [List.append_assoc, ← List.append_assoc (List.take _ _), List.take_append_drop]) i.eT, by have := i.em; rw [List.length_append, List.length_drop]; omega, by rw [List.length_drop]; omega, by have := i.hv; rw [List.length_take]; omega⟩
theorem RI.a_row {α : Type} {T : List α} {m : Nat} (i : RI T m) (h : i.V.length < i.U.length) : (i.a h).row = i.P ++ (i.V ++ (i.U.drop i.V.length ++ (i.U.take i.V.length ++ i.S))) := by
 simp only [RI.a, RI.row, List.append_assoc]
theorem RI.a_pre {α : Type} {T : List α} {m : Nat} (i : RI T m) : i.row = i.P ++ (i.U.take i.V.length ++ (i.U.drop i.V.length ++ (i.V ++ i.S))) := by
 rw [← List.append_assoc (List.take _ _), List.take_append_drop]
 rfl
def RI.b {α : Type} {T : List α} {m : Nat} (i : RI T m) (h : i.U.length < i.V.length) : RI T m :=
 ⟨i.P, i.V.drop (i.V.length - i.U.length), i.V.take (i.V.length - i.U.length), i.U ++ i.S, Eq.trans (by rw [← List.append_assoc (List.take _ _), List.take_append_drop]) i.eT, by have := i.em; rw [List.length_drop]; omega, by have := i.hu; rw [List.length_drop]; omega, by rw [List.length_take]; omega⟩
theorem RI.b_row {α : Type} {T : List α} {m : Nat} (i : RI T m) (h : i.U.length < i.V.length) : (i.b h).row = i.P ++ (i.V.drop (i.V.length - i.U.length) ++ (i.V.take (i.V.length - i.U.length) ++ (i.U ++ i.S))) := rfl
theorem RI.b_pre {α : Type} {T : List α} {m : Nat} (i : RI T m) : i.row = i.P ++ (i.U ++ (i.V.take (i.V.length - i.U.length) ++ (i.V.drop (i.V.length - i.U.length) ++ i.S))) := by
 rw [← List.append_assoc (List.take _ _), List.take_append_drop]
 rfl
end Go.Proofs.YtekcnnngjoonbaaGreat.VM
