/- Rules to walk by. No conditions. -/
import Derived.Deep.Slices
import Derived.Laws.MakeOwn
import Derived.OpenShut
import Derived.ProofKit
import Derived.ShutString
import Derived.Test.YthjfgpkjooaahaaGreatVmA
set_option linter.all false
namespace Go.Proofs.YthjfgpkjooaahaaGreat.VM
open Go Go.RowKit

def pre : Path → Path → Bool
  | [], _ => true
  | (_, _, c) :: q, p => match p with
    | [] => false
    | (_, _, c') :: p => Nat.beq c c' && pre q p
theorem pre_thru : ∀ {q r : Path} {n k c : Nat}, thru q k c r → pre (q ++ [(n, k, c)]) r = true
  | [], r, n, k, c, ⟨n', s, h⟩ => by
    subst h
    simp [pre]
  | (n0, k0, c0) :: q, r, n, k, c, ⟨n', s, h⟩ => by
    subst h
    simp only [List.cons_append, pre, Nat.beq_refl, Bool.true_and]
    exact pre_thru ⟨n', s, rfl⟩
mutual
def X.thr (id : Nat) (q : Path) : X → Bool
 | .p id' q' .. => Nat.beq id' id && pre q q'
 | .h id' q' => Nat.beq id' id && pre q q'
 | .a id' q' .. => Nat.beq id' id && pre q q'
 | .g xs => X.thrs id q xs
 | .t xs => X.thrs id q xs
 | .f _ xs => X.thrs id q xs
 | _ => false
def X.thrs (id : Nat) (q : Path) : List X → Bool
 | [] => false
 | x :: xs => X.thr id q x || X.thrs id q xs
end
mutual
theorem X.all_thr {id : Nat} {q : Path} : ∀ {x : X}, X.thr id q x = false → X.all (fun x => X.thr id q x = false) x
 | .g _, e => X.alls_thr e
 | .t _, e => X.alls_thr e
 | .f _ _, e => X.alls_thr e
 | .v _, e => e
 | .j, e => e
 | .c, e => e
 | .p .., e => e
 | .h .., e => e
 | .a .., e => e
theorem X.alls_thr {id : Nat} {q : Path} : ∀ {xs : List X}, X.thrs id q xs = false → X.alls (fun x => X.thr id q x = false) xs
 | [], _ => trivial
 | x :: xs, e => by
  simp only [X.thrs, Bool.or_eq_false_iff] at e
  exact ⟨X.all_thr e.1, X.alls_thr e.2⟩
end

theorem put_at : ∀ {q : Path} {t : T} {k c : Nat} {y : T} {r : Path}, Okp t q → ¬ thru q k c r → Okp t r → Okp (t.put q k c y) r ∧ ∀ {n len : Nat} {f : Nat → Nat → T}, t.at r = .s n len f → ∃ f', (t.put q k c y).at r = .s n len f'
  | q, t, k, c, y, [], _, _, _ => by
    refine ⟨by simp [Okp], fun {n len f} h => ?_⟩
    simp only [T.at] at h ⊢
    subst h
    cases q with
    | nil => exact ⟨_, by simp only [T.put]; rfl⟩
    | cons a q => exact ⟨_, by simp only [T.put]; rfl⟩
  | [], .s n1 l1 f1, k, c, y, (n', k', c') :: r, _, h, hq => by
    obtain ⟨h1, h2, h3, h4⟩ := hq
    have hne : ¬ (k' = k ∧ c' = c) := by rintro ⟨rfl, rfl⟩; exact h ⟨n', r, rfl⟩
    simp only [T.put, Okp, T.at, VM.upd, hne, if_false]
    exact ⟨⟨h1, h2, h3, h4⟩, fun h => ⟨_, h⟩⟩
  | (n0, k0, c0) :: q, .s n1 l1 f1, k, c, y, (n', k', c') :: r, hq0, h, hq => by
    obtain ⟨h1, h2, h3, h4⟩ := hq
    obtain ⟨e1, _, _, e4⟩ := hq0
    simp only [T.put, Okp, T.at]
    by_cases e : k' = k0 ∧ c' = c0
    · obtain ⟨rfl, rfl⟩ := e
      simp only [VM.upd, and_self, if_true]
      have hr : ¬ thru q k c r := fun ⟨n2, s, hs⟩ => h ⟨n2, s, by rw [hs, h1, e1]; rfl⟩
      obtain ⟨g1, g2⟩ := put_at (y := y) e4 hr h4
      exact ⟨⟨h1, h2, h3, g1⟩, g2⟩
    · simp only [VM.upd, e, if_false]
      exact ⟨⟨h1, h2, h3, h4⟩, fun h => ⟨_, h⟩⟩
  | [], .v _, _, _, _, _ :: _, _, _, hq => hq.elim
  | [], .j, _, _, _, _ :: _, _, _, hq => hq.elim
  | _ :: _, .v _, _, _, _, _ :: _, _, _, hq => hq.elim
  | _ :: _, .j, _, _, _, _ :: _, _, _, hq => hq.elim

def setQ : List E → Nat → Path → T → List E
 | [], _, _, _ => []
 | .sl s x :: L, id, r, t => if X.thr id r x then setQ L id r t else .sl s x :: setQ L id r t
 | .rt i m t' :: L, id, r, t => if i = id then .rt i m t :: setQ L id r t else .rt i m t' :: setQ L id r t
 | .al i c x :: L, id, r, t => if (Nat.beq i id && pre r [(0, 0, c)]) || X.thr id r x then setQ L id r t else .al i c x :: setQ L id r t
theorem setQ_sl : ∀ {L : List E} {id : Nat} {r : Path} {t : T} {s : Nat} {x : X}, E.sl s x ∈ setQ L id r t → E.sl s x ∈ L ∧ X.thr id r x = false
 | .sl s' x' :: L, id, r, t, s, x, h => by
  simp only [setQ] at h
  split at h
  ·obtain ⟨h1, h2⟩ := setQ_sl h; exact ⟨List.mem_cons_of_mem _ h1, h2⟩
  ·rename_i hx
   rcases List.mem_cons.1 h with h | h
   ·cases h; exact ⟨List.mem_cons_self .., by simpa using hx⟩
   ·obtain ⟨h1, h2⟩ := setQ_sl h; exact ⟨List.mem_cons_of_mem _ h1, h2⟩
 | .rt i m t' :: L, id, r, t, s, x, h => by
  simp only [setQ] at h
  split at h <;>
  ·rcases List.mem_cons.1 h with h | h
   ·cases h
   ·obtain ⟨h1, h2⟩ := setQ_sl h; exact ⟨List.mem_cons_of_mem _ h1, h2⟩
 | .al i c x' :: L, id, r, t, s, x, h => by
  simp only [setQ] at h
  split at h
  ·obtain ⟨h1, h2⟩ := setQ_sl h; exact ⟨List.mem_cons_of_mem _ h1, h2⟩
  ·rcases List.mem_cons.1 h with h | h
   ·cases h
   ·obtain ⟨h1, h2⟩ := setQ_sl h; exact ⟨List.mem_cons_of_mem _ h1, h2⟩
theorem setQ_al : ∀ {L : List E} {id : Nat} {r : Path} {t : T} {s c : Nat} {x : X}, E.al s c x ∈ setQ L id r t → E.al s c x ∈ L ∧ X.thr id r x = false ∧ (s = id → pre r [(0, 0, c)] = false)
 | .sl s' x' :: L, id, r, t, s, c, x, h => by
  simp only [setQ] at h
  split at h
  ·obtain ⟨h1, h2⟩ := setQ_al h; exact ⟨List.mem_cons_of_mem _ h1, h2⟩
  ·rcases List.mem_cons.1 h with h | h
   ·cases h
   ·obtain ⟨h1, h2⟩ := setQ_al h; exact ⟨List.mem_cons_of_mem _ h1, h2⟩
 | .rt i m t' :: L, id, r, t, s, c, x, h => by
  simp only [setQ] at h
  split at h <;>
  ·rcases List.mem_cons.1 h with h | h
   ·cases h
   ·obtain ⟨h1, h2⟩ := setQ_al h; exact ⟨List.mem_cons_of_mem _ h1, h2⟩
 | .al i c' x' :: L, id, r, t, s, c, x, h => by
  simp only [setQ] at h
  split at h
  ·obtain ⟨h1, h2⟩ := setQ_al h; exact ⟨List.mem_cons_of_mem _ h1, h2⟩
  ·rename_i hx
   rcases List.mem_cons.1 h with h | h
   ·cases h
    simp only [Bool.or_eq_true, not_or, Bool.not_eq_true, Bool.and_eq_false_iff] at hx
    refine ⟨List.mem_cons_self .., hx.2, fun e => ?_⟩
    subst e
    rcases hx.1 with h | h
    ·simp at h
    ·exact h
   ·obtain ⟨h1, h2⟩ := setQ_al h; exact ⟨List.mem_cons_of_mem _ h1, h2⟩
theorem rts_setQ : ∀ {L : List E} {id : Nat} {r : Path} {t : T} {i : Nat} {m : M} {t' : T}, rts (setQ L id r t) i m t' ↔ (i = id ∧ t' = t ∧ ∃ t0, rts L id m t0) ∨ (i ≠ id ∧ rts L i m t')
 | [], _, _, _, _, _, _ => by simp [rts, setQ]
 | .sl s x :: L, id, r, t, i, m, t' => by
  have := rts_setQ (L := L) (id := id) (r := r) (t := t) (i := i) (m := m) (t' := t')
  simp only [rts, setQ] at this ⊢
  split <;> simp [this]
 | .al s c x :: L, id, r, t, i, m, t' => by
  have := rts_setQ (L := L) (id := id) (r := r) (t := t) (i := i) (m := m) (t' := t')
  simp only [rts, setQ] at this ⊢
  split <;> simp [this]
 | .rt j m1 t1 :: L, id, r, t, i, m, t' => by
  have := rts_setQ (L := L) (id := id) (r := r) (t := t) (i := i) (m := m) (t' := t')
  simp only [rts, setQ] at this ⊢
  split
  ·rename_i hj; subst hj
   simp only [List.mem_cons, this, E.rt.injEq]
   constructor
   ·rintro (⟨rfl, rfl, rfl⟩ | ⟨rfl, rfl, t0, h⟩ | ⟨h1, h2⟩)
    ·exact .inl ⟨rfl, rfl, t1, .inl (by simp)⟩
    ·exact .inl ⟨rfl, rfl, t0, .inr h⟩
    ·exact .inr ⟨h1, .inr h2⟩
   ·rintro (⟨rfl, rfl, t0, ⟨_, rfl, rfl⟩ | h⟩ | ⟨h1, ⟨rfl, _⟩ | h2⟩)
    ·exact .inl ⟨rfl, rfl, rfl⟩
    ·exact .inr (.inl ⟨rfl, rfl, t0, h⟩)
    ·exact absurd rfl h1
    ·exact .inr (.inr ⟨h1, h2⟩)
  ·rename_i hj
   simp only [List.mem_cons, this, E.rt.injEq]
   constructor
   ·rintro (⟨rfl, rfl, rfl⟩ | ⟨rfl, rfl, t0, h⟩ | ⟨h1, h2⟩)
    ·exact .inr ⟨hj, .inl ⟨rfl, rfl, rfl⟩⟩
    ·exact .inl ⟨rfl, rfl, t0, .inr h⟩
    ·exact .inr ⟨h1, .inr h2⟩
   ·rintro (⟨rfl, rfl, t0, ⟨rfl, _⟩ | h⟩ | ⟨h1, ⟨rfl, rfl, rfl⟩ | h2⟩)
    ·exact absurd rfl hj
    ·exact .inr (.inl ⟨rfl, rfl, t0, h⟩)
    ·exact .inl ⟨rfl, rfl, rfl⟩
    ·exact .inr (.inr ⟨h1, h2⟩)
open Go Go.RowKit

section
variable {L : List E} {val : Nat → Value} {H : Nat → Value} {G : Nat → FP} {w w' : World}
theorem Rp.rd (hr : Rp L val H G w) {id : Nat} {m : M} {t : T} (h : rts L id m t) : Rd w t (G id) (H id) := by
 cases m with
 | ro => exact hr.ro id t h
 | box => exact (hr.own id _ t h (by simp)).rd
 | row => exact (hr.own id _ t h (by simp)).rd
theorem box_put {n : Nat} {f : Nat → Nat → T} {q : Path} {k c : Nat} {y : T} : ∃ f', (T.s n 1 f).put q k c y = .s n 1 f' := by
 cases q with
 | nil => exact ⟨_, by simp only [T.put]; rfl⟩
 | cons a q => exact ⟨_, by simp only [T.put]; rfl⟩

theorem Rp.store (hr : Rp L val H G w) {id : Nat} {m : M} {t : T} (hm : m ≠ .ro) (hid : rts L id m t) {q : Path} (hq : Okp t q) {n len : Nat} {f : Nat → Nat → T} (ht : t.at q = .s n len f) {k c : Nat} (hk : k < len) (hc : c < n) :
  ∃ (h' : Value) (b o : Nat) (x : Value) (Gx : FP), VM.hd w (H id) q = some h' ∧ adr h' n k c = some ⟨b, o, none⟩ ∧ w.cell? ⟨b, o, none⟩ = some x ∧ Own w (f k c) Gx x ∧ (∃ sz, Kd w b sz) ∧ G id b o ∧ (∀ a p, Gx a p → G id a p) ∧ ¬ Gx b o ∧
   ∀ {L1 : List E} {w' : World} {S : FP} {y : T} {x' : Value} {Gy : FP}, Rp L1 val H G w → rts L1 id m t → (∀ i m t, rts L1 i m t → rts L i m t) → Chg S w w' → (∀ a p, S a p → (a = b ∧ p = o) ∨ Gx a p) → w'.cell? ⟨b, o, none⟩ = some x' → Own w' y Gy x' →
    (∀ a p, Gy a p → Gx a p ∨ ∀ i m t, rts L1 i m t → ¬ G i a p) →
    Rp (setQ L1 id (q ++ [(n, k, c)]) (t.put q k c y)) val H (updN G id fun a p => (G id a p ∧ ¬ Gx a p) ∨ Gy a p) w' ∧ ∀ {x v}, X.thr id (q ++ [(n, k, c)]) x = false → VR (rts L1) H w x v → VR (rts (setQ L1 id (q ++ [(n, k, c)]) (t.put q k c y))) H w' x v := by
 obtain ⟨h', b, o, x, Gx, e1, e2, e3, e4, e5, e6, e7, e8, e9⟩ := (hr.own id m t hid hm).upd hq ht hk hc
 refine ⟨h', b, o, x, Gx, e1, e2, e3, e4, e6, e5, e7, e8, ?_⟩
 intro L1 w' S y x' Gy hr1 hid1 hsub hC hS hx' hy hGy
 obtain ⟨k1, k2⟩ := e9 hC hS hx' hy fun a p h => (hGy a p h).imp_right fun h => h _ _ _ hid1
 have hSG : ∀ a p, S a p → G id a p := fun a p h => by
  rcases hS a p h with ⟨rfl, rfl⟩ | h
  ·exact e5
  ·exact e7 a p h
 have hoth : ∀ i m' t', i ≠ id → rts L1 i m' t' → ∀ a p, G i a p → ¬ S a p := fun i m' t' hne h a p hg hs => hr1.dis id m t i m' t' hid1 h (Ne.symm hne) hm a p (hSG a p hs) hg
 have hrt : ∀ {i m' t'}, rts (setQ L1 id (q ++ [(n, k, c)]) (t.put q k c y)) i m' t' → (i = id ∧ m' = m ∧ t' = t.put q k c y) ∨ (i ≠ id ∧ rts L1 i m' t') := fun h => by
  rcases rts_setQ.1 h with ⟨rfl, rfl, t0, h⟩ | h
  ·obtain ⟨rfl, _⟩ := hr1.one _ _ _ _ _ h hid1; exact .inl ⟨rfl, rfl, rfl⟩
  ·exact .inr h
 have hnew : rts (setQ L1 id (q ++ [(n, k, c)]) (t.put q k c y)) id m (t.put q k c y) := rts_setQ.2 (.inl ⟨rfl, rfl, t, hid1⟩)
 have hleaf : ∀ i q' m' t', rts L1 i m' t' → Okp t' q' → (Nat.beq i id && pre (q ++ [(n, k, c)]) q') = false →
   ∃ m2 t2, rts (setQ L1 id (q ++ [(n, k, c)]) (t.put q k c y)) i m2 t2 ∧ Okp t2 q' ∧ (∀ {n len : Nat} {f : Nat → Nat → T}, t'.at q' = .s n len f → ∃ f', t2.at q' = .s n len f') ∧ VM.hd w' (H i) q' = VM.hd w (H i) q' := fun i q' m' t' h hq' hthr => by
  by_cases e : i = id
  ·subst e
   obtain ⟨rfl, rfl⟩ := hr1.one _ _ _ _ _ h hid1
   have hn : ¬ thru q k c q' := fun ht => by
    have := pre_thru (n := n) ht
    simp [this] at hthr
   obtain ⟨g1, g2⟩ := put_at (y := y) hq hn hq'
   exact ⟨_, _, hnew, g1, g2, k2 q' hn hq'⟩
  ·exact ⟨m', t', rts_setQ.2 (.inr ⟨e, h⟩), hq', fun h => ⟨_, h⟩, hd_frame hC (hr1.rd h) hq' (hoth i m' t' e h)⟩
 have hvr : ∀ {x v}, X.thr id (q ++ [(n, k, c)]) x = false → VR (rts L1) H w x v → VR (rts (setQ L1 id (q ++ [(n, k, c)]) (t.put q k c y))) H w' x v := fun hx h =>
  VR.leaves (C := fun x => X.thr id (q ++ [(n, k, c)]) x = false) (fun x v hl hx h => by
   cases x with
   | p i q' n' k' c' =>
    obtain ⟨m', t', h1, h2, ⟨l', f', h3, h4, h5⟩, h6⟩ := h
    obtain ⟨m2, t2, g1, g2, g3, g4⟩ := hleaf i q' m' t' h1 h2 hx
    obtain ⟨f2, g5⟩ := g3 h3
    exact ⟨m2, t2, g1, g2, ⟨l', f2, g5, h4, h5⟩, by rw [g4]; exact h6⟩
   | h i q' =>
    obtain ⟨m', t', h1, h2, ⟨n', l', f', h3⟩, h6⟩ := h
    obtain ⟨m2, t2, g1, g2, g3, g4⟩ := hleaf i q' m' t' h1 h2 hx
    obtain ⟨f2, g5⟩ := g3 h3
    exact ⟨m2, t2, g1, g2, ⟨n', l', f2, g5⟩, by rw [g4]; exact h6⟩
   | a i q' n' lo ln =>
    obtain ⟨m', t', h1, h2, ⟨l', f', h3, h4⟩, h6⟩ := h
    obtain ⟨m2, t2, g1, g2, g3, g4⟩ := hleaf i q' m' t' h1 h2 hx
    obtain ⟨f2, g5⟩ := g3 h3
    exact ⟨m2, t2, g1, g2, ⟨l', f2, g5, h4⟩, by rw [g4]; exact h6⟩
   | _ => exact hl.elim) (X.all_thr hx) h
 refine ⟨⟨?_, ?_, ?_, ?_, ?_, ?_, ?_, ?_⟩, hvr⟩
 ·intro i m1 t1 m2 t2 h1 h2
  rcases hrt h1 with ⟨rfl, rfl, rfl⟩ | ⟨a1, b1⟩ <;> rcases hrt h2 with ⟨e, rfl, rfl⟩ | ⟨a2, b2⟩
  ·exact ⟨rfl, rfl⟩
  ·exact absurd rfl a2
  ·exact absurd e a1
  ·exact hr1.one _ _ _ _ _ b1 b2
 ·intro i m1 t1 h1 hm1
  rcases hrt h1 with ⟨rfl, rfl, rfl⟩ | ⟨a1, b1⟩
  ·simpa [updN] using k1
  ·simp only [updN, a1, if_false]
   exact (hr1.own i m1 t1 b1 hm1).frame hC (hoth i m1 t1 a1 b1)
 ·intro i t1 h1
  rcases hrt h1 with ⟨rfl, rfl, rfl⟩ | ⟨a1, b1⟩
  ·exact absurd rfl hm
  ·simp only [updN, a1, if_false]
   exact (hr1.ro i t1 b1).frame hC (hoth i _ t1 a1 b1)
 ·intro i t1 h1 x y hg
  rcases hrt h1 with ⟨rfl, rfl, rfl⟩ | ⟨a1, b1⟩
  ·exact absurd rfl hm
  ·simp only [updN, a1, if_false] at hg
   exact Nat.lt_of_lt_of_le (hr1.rold i t1 b1 x y hg) hC.size
 ·intro i t1 h1
  rcases hrt h1 with ⟨rfl, rfl, rfl⟩ | ⟨a1, b1⟩
  ·obtain ⟨n', f', rfl⟩ := hr1.box _ _ hid1
   obtain ⟨f2, h2⟩ := box_put (n := n') (f := f') (q := q) (k := k) (c := c) (y := y)
   exact ⟨n', f2, h2⟩
  ·exact hr1.box i t1 b1
 ·intro i m1 t1 i' m2 t2 h1 h2 hne hm1 a p g1 g2
  rcases hrt h1 with ⟨rfl, rfl, rfl⟩ | ⟨a1, b1⟩ <;> rcases hrt h2 with ⟨rfl, rfl, rfl⟩ | ⟨a2, b2⟩
  ·exact absurd rfl hne
  ·simp only [updN, if_true, a2, if_false] at g1 g2
   rcases g1 with ⟨g1, _⟩ | g1
   ·exact hr1.dis _ _ _ _ _ _ hid1 b2 hne hm1 a p g1 g2
   ·rcases hGy a p g1 with h | h
    ·exact hr1.dis _ _ _ _ _ _ hid1 b2 hne hm1 a p (e7 a p h) g2
    ·exact h _ _ _ b2 g2
  ·simp only [updN, if_true, a1, if_false] at g1 g2
   rcases g2 with ⟨g2, _⟩ | g2
   ·exact hr1.dis _ _ _ _ _ _ hid1 b1 (Ne.symm hne) hm a p g2 g1
   ·rcases hGy a p g2 with h | h
    ·exact hr1.dis _ _ _ _ _ _ hid1 b1 (Ne.symm hne) hm a p (e7 a p h) g1
    ·exact h _ _ _ b1 g1
  ·simp only [updN, a1, a2, if_false] at g1 g2
   exact hr1.dis _ _ _ _ _ _ b1 b2 hne hm1 a p g1 g2
 ·intro s x' h
  obtain ⟨g1, g2⟩ := setQ_sl h
  exact hvr g2 (hr1.sl s x' g1)
 ·intro i c' x' h
  obtain ⟨g1, g2, g3⟩ := setQ_al h
  obtain ⟨n', f', h1, h2, A, v, h3, h4, h5⟩ := hr1.al i c' x' g1
  obtain ⟨b', o', rfl, hG⟩ := box_cell hr1 h1 h2 h3
  by_cases e : i = id
  ·subst e
   obtain ⟨rfl, rfl⟩ := hr1.one _ _ _ _ _ h1 hid1
   obtain ⟨f2, hf2⟩ := box_put (n := n') (f := f') (q := q) (k := k) (c := c) (y := y)
   refine ⟨n', f2, by rw [← hf2]; exact hnew, h2, _, v, h3, ?_, hvr g2 h5⟩
   have hn : ¬ thru q k c [(n', 0, c')] := fun ht => by
    have h7 := pre_thru (n := n) ht
    have h8 := g3 rfl
    have : pre (q ++ [(n, k, c)]) [(n', 0, c')] = pre (q ++ [(n, k, c)]) [(0, 0, c')] := by
     cases q with
     | nil => simp [pre]
     | cons a q => obtain ⟨_, _, _⟩ := a; simp [pre]
    rw [this, h8] at h7; cases h7
   have hh := k2 [(n', 0, c')] hn ⟨rfl, by omega, h2, by simp [Okp]⟩
   have hH : ∃ hv, adr (H i) n' 0 c' = some ⟨b', o', none⟩ ∧ hv = H i := ⟨_, by
    obtain ⟨a0, l0, c0, e1, e2⟩ := adr_some h3
    rw [e1]; simp only [adr, Option.some.injEq]
    simp only [Nat.zero_mul, Nat.zero_add] at e2 ⊢
    exact e2.symm, rfl⟩
   obtain ⟨_, hA, _⟩ := hH
   simp only [VM.hd, hA, h4] at hh
   cases hw : w'.cell? ⟨b', o', none⟩ with
   | none => rw [hw] at hh; cases hh
   | some v' => rw [hw] at hh; simp only [VM.hd, Option.some.injEq] at hh; rw [hh]
  ·exact ⟨n', f', rts_setQ.2 (.inr ⟨e, h1⟩), h2, _, v, h3, hC.cell h4 (hoth i _ _ e h1 _ _ hG), hvr g2 h5⟩
end
open Go Go.RowKit

theorem Chg.step {S S' : FP} {a b c : World} (h : Chg S a b) (k : Chg S' b c) (hs : ∀ x y, x < a.heap.size → S' x y → S x y) : Chg S a c :=
 ⟨k.os.trans h.os, k.tape.trans h.tape, k.output.trans h.output, Nat.le_trans h.size k.size, fun i cur e fr hi => by
  have hlt : i < a.heap.size := (Array.getElem?_eq_some_iff.1 hi).1
  obtain ⟨c1, h1, h2, h3⟩ := h.cells i cur e fr hi
  obtain ⟨c2, k1, k2, k3⟩ := k.cells i c1 e fr h1
  exact ⟨c2, k1, k2.trans h2, fun o ho => (k3 o fun hS => ho (hs i o hlt hS)).trans (h3 o ho)⟩, fun i o hi ho => k.other i o (h.other i o hi ho) ho⟩

def dropM (L : List E) : Option Nat → List E
 | some id => delR L id
 | none => L
def menM : Option Nat → X → Bool
 | some id, x => X.men id x
 | none, _ => false
def stL (L : List E) (id : Nat) (t : T) (q : Path) (n k c : Nat) (s : T × Option Nat) : List E := setQ (dropM L s.2) id (q ++ [(n, k, c)]) (t.put q k c s.1)

section
variable {L : List E} {val : Nat → Value} {H : Nat → Value} {G : Nat → FP} {w w' : World} {cx : Cx}
theorem cell_store (hr : Rp L val H G w) (hG : Good cx L H G) (hch : Chg cx.S0 cx.w0 w) {id : Nat} {m : M} {t : T} (hm : m ≠ .ro) (hid : rts L id m t) {q : Path} (hq : Okp t q) {n len : Nat} {f : Nat → Nat → T} (ht : t.at q = .s n len f) {k c : Nat} (hk : k < len) (hc : c < n)
  {z : T} {x : X} {v : Value} (hz : zpos [z] = true) (hv : VR (rts L) H w x v) (hx : x.one = true) (hne : (srcT L z x).2 ≠ some id) :
  ∃ (h' : Value) (b o sz : Nat) (G' : Nat → FP), VM.hd w (H id) q = some h' ∧ adr h' n k c = some ⟨b, o, none⟩ ∧ Kd w b sz ∧ o < sz ∧ Rp (stL L id t q n k c (srcT L z x)) val H G' (w.setCell ⟨b, o, none⟩ v) ∧ Good cx (stL L id t q n k c (srcT L z x)) H G' ∧ Chg cx.S0 cx.w0 (w.setCell ⟨b, o, none⟩ v) ∧
   rts (stL L id t q n k c (srcT L z x)) id m (t.put q k c (srcT L z x).1) ∧
   ∀ {y u}, menM (srcT L z x).2 y = false → X.thr id (q ++ [(n, k, c)]) y = false → VR (rts L) H w y u → VR (rts (stL L id t q n k c (srcT L z x))) H (w.setCell ⟨b, o, none⟩ v) y u := by
 obtain ⟨h', b, o, xo, Gx, e1, e2, e3, e4, ⟨sz, e5⟩, e6, e7, e8, e9⟩ := hr.store hm hid hq ht hk hc
 obtain ⟨s1, s2⟩ := srcT_ok hr hz hv hx
 generalize srcT L z x = s at s1 s2 hne
 obtain ⟨y, mv⟩ := s
 simp only at s1 s2 hne
 have hlt : o < sz := by
  obtain ⟨cur, e, k1, k2⟩ := e5
  simp only [World.cell?, k1] at e3
  rw [← k2]
  rcases Nat.lt_or_ge o cur.size with h | h
  ·exact h
  ·simp [h] at e3
 have hC : Chg (fun a p => a = b ∧ p = o) w (w.setCell ⟨b, o, none⟩ v) := Chg.setCell ⟨rfl, rfl⟩
 have hcell : (w.setCell ⟨b, o, none⟩ v).cell? ⟨b, o, none⟩ = some v := World.cell?_setCell_same w _ v e3
 have hr1 : Rp (dropM L mv) val H G w := by
  cases mv with
  | none => exact hr
  | some i => exact hr.delR i
 have hsub : ∀ i m t, rts (dropM L mv) i m t → rts L i m t := fun i m t h => by
  cases mv with
  | none => exact h
  | some i => exact (rts_delR.1 h).1
 have hid1 : rts (dropM L mv) id m t := by
  cases mv with
  | none => exact hid
  | some i => exact rts_delR.2 ⟨hid, fun e => hne (by rw [e])⟩
 have hGy : ∀ a p, fpOf G mv a p → Gx a p ∨ ∀ i m t, rts (dropM L mv) i m t → ¬ G i a p := fun a p h => by
  cases mv with
  | none => exact h.elim
  | some i =>
   obtain ⟨t', ht'⟩ := s2 i rfl
   exact .inr fun j m2 t2 hj hg => hr.dis i .row t' j m2 t2 ht' (rts_delR.1 hj).1 (fun e => (rts_delR.1 hj).2 e.symm) (by simp) a p h hg
 have hyw : Own (w.setCell ⟨b, o, none⟩ v) y (fpOf G mv) v := s1.frame hC fun a p hf ⟨ha, hp⟩ => by
  subst ha hp
  cases mv with
  | none => exact hf.elim
  | some i =>
   obtain ⟨t', ht'⟩ := s2 i rfl
   exact hr.dis i .row t' id m t ht' hid (fun e => hne (by rw [e])) (by simp) _ _ hf e6
 obtain ⟨r1, r2⟩ := e9 hr1 hid1 hsub hC (fun a p h => .inl h) hcell hyw hGy
 have hS0 : cx.S0 b o ∨ cx.w0.heap.size ≤ b := hG.1 id m t hid hm b o e6
 refine ⟨h', b, o, sz, _, e1, e2, e5, hlt, r1, ⟨?_, ?_⟩, hch.step hC fun a p ha ⟨h1, h2⟩ => ?_, rts_setQ.2 (.inl ⟨rfl, rfl, t, hid1⟩), fun {y' u} h1 h2 h3 => r2 h2 ?_⟩
 ·intro i m1 t1 h1 h2 a p h3
  rcases rts_setQ.1 h1 with ⟨rfl, rfl, t0, h4⟩ | ⟨h4, h5⟩
  ·simp only [updN, if_true] at h3
   rcases h3 with ⟨h3, _⟩ | h3
   ·exact hG.1 _ _ _ hid hm a p h3
   ·cases mv with
    | none => exact h3.elim
    | some j =>
     obtain ⟨t', ht'⟩ := s2 j rfl
     exact hG.1 j _ _ ht' (by simp) a p h3
  ·simp only [updN, h4, if_false] at h3
   exact hG.1 i m1 t1 (hsub _ _ _ h5) h2 a p h3
 ·intro i m1 t1 h0 h1
  rcases rts_setQ.1 h1 with ⟨rfl, rfl, t0, h4⟩ | ⟨h4, h5⟩
  ·exact hG.2 _ _ _ h0 hid
  ·exact hG.2 i m1 t1 h0 (hsub _ _ _ h5)
 ·subst h1 h2
  exact hS0.resolve_right (by omega)
 ·cases mv with
  | none => exact h3
  | some i => exact h3.drop (d := i) (fun j m2 t2 hj h => ⟨rts_delR.2 ⟨h, hj⟩, rfl⟩) h1
end
open Go Go.RowKit

theorem not_thru_self {q : Path} {k c : Nat} : ¬ thru q k c q := fun ⟨n, s, h⟩ => by
 have := congrArg List.length h
 simp at this
theorem pre_self : ∀ {q : Path} {n k c : Nat}, pre (q ++ [(n, k, c)]) q = false
  | [], _, _, _ => rfl
  | (a, b, d) :: q, n, k, c => by simp [pre, pre_self (q := q)]
def neM : Option Nat → Nat → Bool
 | some i, id => !(Nat.beq i id)
 | none, _ => true
def stOk (id : Nat) (q : Path) (n k c : Nat) (z : T) (x : X) (xs : List X) (s : T × Option Nat) : Bool := x.one && neM s.2 id && zpos [z] && xs.all (fun y => !menM s.2 y && !X.thr id (q ++ [(n, k, c)]) y)
def stCells (id : Nat) (q : Path) (n k : Nat) : Nat → List T → List X → List E → T → Option (List E)
 | c, z :: zs, x :: xs, L, t =>
  if stOk id q n k c z x xs (srcT L z x) = true then
   stCells id q n k (c + 1) zs xs (stL L id t q n k c (srcT L z x)) (t.put q k c (srcT L z x).1)
  else none
 | _, [], [], L, _ => some L
 | _, _, _, _, _ => none

section
variable {L : List E} {val : Nat → Value} {H : Nat → Value} {G : Nat → FP} {w w' : World} {cx : Cx} {P : Program}
theorem run_store1 {b o sz : Nat} {v : Value} (hk : Kd w b sz) (ho : o < sz) (hv : v.oneCell' = true) : (store ⟨b, o, none⟩ v).run P w = .ok () (w.setCell ⟨b, o, none⟩ v) := by
 rw [run_store P w _ v .plain hv]
 obtain ⟨x, hx⟩ := Option.isSome_iff_exists.1 (hk.cell ho)
 simp [hx, hk.frozen o]
theorem cells_store {id : Nat} {m : M} (hm : m ≠ .ro) {q : Path} {n k len b o : Nat} (hkl : k < len) : ∀ (zs : List T) (xs : List X) (vs : List Value) (c i : Nat) (L : List E) (t : T) (G : Nat → FP) (w : World) {L' : List E}, Rp L val H G w → Good cx L H G → Chg cx.S0 cx.w0 w → rts L id m t → Okp t q → (∃ f, t.at q = .s n len f) → c + zs.length ≤ n →
  VR (rts L) H w (.p id q n k 0) (.pointer (some ⟨b, o, none⟩)) → VRs (rts L) H w xs vs → stCells id q n k c zs xs L t = some L' → i = c →
  ∃ w' G', (storeCells ⟨b, o, none⟩ vs i).run P w = .ok () w' ∧ Rp L' val H G' w' ∧ Good cx L' H G' ∧ Chg cx.S0 cx.w0 w'
 | [], [], [], c, i, L, t, G, w, L', hr, hG, hch, _, _, _, _, _, _, e, _ => by
  simp only [stCells, Option.some.injEq] at e; subst e
  exact ⟨w, G, rfl, hr, hG, hch⟩
 | z :: zs, x :: xs, v :: vs, c, i, L, t, G, w, L', hr, hG, hch, hid, hq, ⟨f, ht⟩, hc, hp, ⟨hv, hvs⟩, e, hi => by
  subst hi
  rw [stCells] at e
  split at e
  ·rename_i hcond
   simp only [stOk, Bool.and_eq_true] at hcond
   obtain ⟨⟨⟨c1, c2⟩, c3⟩, c4⟩ := hcond
   simp only [List.length_cons] at hc
   have hne : (srcT L z x).2 ≠ some id := by
    intro h; rw [h] at c2; simp [neM, Nat.beq_refl] at c2
   obtain ⟨h', b', o', sz, G', e1, e2, e3, e4, e5, e6, e7, e8, e9⟩ := cell_store hr hG hch hm hid hq ht hkl (by omega : i < n) c3 hv c1 hne
   have hadr : b' = b ∧ o' = o + i := by
    obtain ⟨m1, t1, g1, g2, ⟨l1, f1, g3, g4, g5⟩, hv', A, g6, g7, g8⟩ := hp
    rw [e1] at g6; cases g6
    obtain ⟨a0, l0, c0, k1, k2⟩ := adr_some g7
    cases g8
    rw [k1] at e2
    simp only [adr, Option.some.injEq, Addr.mk.injEq] at e2
    simp only [Addr.mk.injEq] at k2
    omega
   obtain ⟨rfl, rfl⟩ := hadr
   have hmen : menM (srcT L z x).2 (.p id q n k 0) = false := by
    generalize (srcT L z x).2 = o at hne
    cases o with
    | none => rfl
    | some j =>
     simp only [menM, X.men, beq_eq_false_iff_ne]
     exact fun h => hne (by rw [h])
   have hp' := e9 (y := .p id q n k 0) hmen (by simp [X.thr, pre_self]) hp
   have hvs' : VRs (rts (stL L id t q n k i (srcT L z x))) H (w.setCell ⟨b', o + i, none⟩ v) xs vs := by
    clear e
    induction xs generalizing vs with
    | nil => cases vs with
     | nil => trivial
     | cons _ _ => exact hvs.elim
    | cons y ys ih =>
     cases vs with
     | nil => exact hvs.elim
     | cons u us =>
      simp only [List.all_cons, Bool.and_eq_true, Bool.not_eq_true'] at c4
      exact ⟨e9 c4.1.1 c4.1.2 hvs.1, ih us hvs.2 c4.2⟩
   obtain ⟨g1, g2⟩ := put_at (y := (srcT L z x).1) (k := k) (c := i) hq not_thru_self hq
   obtain ⟨w', G2, r1, r2, r3, r4⟩ := cells_store hm hkl zs xs vs (i + 1) (i + 1) _ _ G' _ e5 e6 e7 e8 g1 (g2 ht) (by omega) hp' hvs' e rfl
   refine ⟨w', G2, ?_, r2, r3, r4⟩
   have hone := hr.ones x v hv c1
   have hs : (store ((⟨b', o, none⟩ : Addr).add i) v).run P w = .ok () (w.setCell ⟨b', o + i, none⟩ v) := by
    rw [Addr.add_lit]; exact run_store1 e3 e4 hone
   simp only [storeCells, Sem.run_bind, hs, Result.andThen]
   exact r1
  ·exact absurd e (by simp)
 | [], [], _ :: _, _, _, _, _, _, _, _, _, _, _, _, _, _, _, _, h, _, _ => h.elim
 | _, _ :: _, [], _, _, _, _, _, _, _, _, _, _, _, _, _, _, _, h, _, _ => h.elim
 | [], _ :: _, _, _, _, _, _, _, _, _, _, _, _, _, _, _, _, _, _, e, _ => by simp [stCells] at e
 | _ :: _, [], _, _, _, _, _, _, _, _, _, _, _, _, _, _, _, _, _, e, _ => by simp [stCells] at e
end

section
variable {P : Program} {N : Nat} {Q : Exit → List E → Prop} {L : List E} {ops : Array Oper} {rest : List Oper} {dst : Option Tmp} {ty : TypeId} {pos : String} {af : Array Edge} {g : Option (Nat × Bool)} {d : Nat}
theorem Stp.store {t : TypeId} {x y : Operand} {zt : List T} [hTy : TyI P t zt] {id : Nat} {q : Path} {n k c len : Nat} {f : Nat → Nat → T} {m : M} {T0 : T} {L' : List E} (hx : evX L x = .p id q n k c) (hR : rootL L id = some (m, T0)) (hm : m ≠ .ro) (hT : T0.at q = .s n len f)
  (hf : (evX L y).flat = true) (hl : (evX L y).leaves.length = zt.length) (hc : c + zt.length ≤ n) (hst : stCells id q n k c zt (evX L y).leaves L T0 = some L') : Stp P N ⟨none, .store t x y, ty, pos, af, g⟩ L L' :=
 Stp.opu (fun cx a w hs => by
  obtain ⟨H, G, hr, hG⟩ := hs.rp
  have hv := ev_ok hr x
  rw [hx] at hv
  obtain ⟨m', t', g1, g2, ⟨l', f', g3, g4, g5⟩, hv', A, g6, g7, g8⟩ := hv
  obtain ⟨rfl, rfl⟩ := hr.one _ _ _ _ _ g1 (rootL_mem hR)
  rw [hT] at g3; cases g3
  have hy := (ev_ok hr y).cells hr.ones hf
  have hyl := hy.len
  simp only [Array.length_toList] at hyl
  obtain ⟨a0, l0, c0, k1, k2⟩ := adr_some g7
  -- the row's first cell
  have hp : VR (rts L) H w (.p id q n k 0) (.pointer (some ⟨a0.block, a0.off + k * n, none⟩)) :=
   ⟨m', t', g1, g2, ⟨len, f, hT, g4, by omega⟩, hv', _, g6, by rw [k1]; simp [adr], rfl⟩
  obtain ⟨w', G', r1, r2, r3, r4⟩ := cells_store (P := P) (b := a0.block) (o := a0.off + k * n) hm g4 zt _ _ c c L t' G w hr hG hs.chg g1 g2 ⟨f, hT⟩ hc hp hy hst rfl
  refine ⟨w', ?_, ⟨hs.siz, hs.dfr, r4, H, G', r2, r3⟩⟩
  have hsz : (a.eval y).cells.size = zt.length := by omega
  have hA : ∀ (vs : List Value) (i : Nat) (w : World), (storeCells A vs i).run P w = (storeCells ⟨a0.block, a0.off + k * n, none⟩ vs (c + i)).run P w := by
   intro vs
   induction vs with
   | nil => intro i w; rfl
   | cons u us ih =>
    intro i w
    have hadd : A.add i = (⟨a0.block, a0.off + k * n, none⟩ : Addr).add (c + i) := by
     rw [k2, Addr.add_lit, Addr.add_lit]; congr 1; omega
    simp only [storeCells, Sem.run_bind, hadd]
    congr 1
    funext u w
    rw [ih (i + 1) w]
    congr 2
  have := hA (a.eval y).cells.toList 0 w
  rw [Nat.add_zero, r1] at this
  simp [execOp, g8, Instr.storeAt, Instr.sureAddr, storeVar, hTy.size w, hsz, this])
end
open Go Go.RowKit

def splitLast : Path → Option (Path × (Nat × Nat × Nat))
 | [] => none
 | [a] => some ([], a)
 | a :: q => match splitLast q with
  | some (r, b) => some (a :: r, b)
  | none => none
theorem splitLast_eq : ∀ {q r : Path} {b : Nat × Nat × Nat}, splitLast q = some (r, b) → q = r ++ [b]
 | [a], r, b, h => by simp only [splitLast, Option.some.injEq, Prod.mk.injEq] at h; obtain ⟨rfl, rfl⟩ := h; rfl
 | a :: a' :: q, r, b, h => by
  simp only [splitLast] at h
  split at h
  ·rename_i r' b' hq
   cases h
   have := splitLast_eq hq
   rw [this]; rfl
  ·cases h
def takeX (L : List E) (n : Nat) : X → Option (List E × T)
 | .v y => match y with
  | .slice none 0 0 => some (L, .s n 0 fun _ _ => .j)
  | _ => none
 | .h id q => match rootL L id with
  | some (m, t) => match q with
   | [] => match m with
    | .row => some (delR L id, t)
    | _ => none
   | a :: q' => match m with
    | .ro => none
    | _ => match splitLast (a :: q') with
     | some (r, (_, k, c)) => some (setQ L id (a :: q') (t.put r k c .j), t.at (a :: q'))
     | none => none
  | none => none
 | _ => none
def lostX : X → X → Bool
 | .h id q, y => match q with
  | [] => X.men id y
  | q => X.thr id q y
 | _, _ => false

section
variable {L : List E} {val : Nat → Value} {H : Nat → Value} {G : Nat → FP} {w w' : World} {cx : Cx} {P : Program} {N : Nat} {a : Act}
theorem okp_split : ∀ {r : Path} {t : T} {n k c : Nat}, Okp t (r ++ [(n, k, c)]) → Okp t r ∧ ∃ len f, t.at r = .s n len f ∧ k < len ∧ c < n
  | [], .s n1 l1 f1, n, k, c, ⟨h1, h2, h3, _⟩ => ⟨by simp [Okp], l1, f1, by simp only [T.at]; rw [h1], h2, by rw [h1]; exact h3⟩
  | (n0, k0, c0) :: r, .s n1 l1 f1, n, k, c, ⟨h1, h2, h3, h4⟩ => by
    obtain ⟨g1, l, f, g2, g3, g4⟩ := okp_split h4
    exact ⟨⟨h1, h2, h3, g1⟩, l, f, by simpa only [T.at] using g2, g3, g4⟩
  | [], .v _, _, _, _, h => h.elim
  | [], .j, _, _, _, h => h.elim
  | _ :: _, .v _, _, _, _, h => h.elim
  | _ :: _, .j, _, _, _, h => h.elim

theorem take_ok (hr : Rp L val H G w) (hG : Good cx L H G) {n : Nat} (hn : 0 < n) {s : X} {v : Value} (hv : VR (rts L) H w s v) {L1 : List E} {t1 : T} (h : takeX L n s = some (L1, t1)) :
  ∃ (G1 : Nat → FP) (F : FP), Rp L1 val H G1 w ∧ Good cx L1 H G1 ∧ Own w t1 F v ∧ (∀ i m t, rts L1 i m t → ∀ a o, G1 i a o → F a o → False) ∧ (∀ a o, F a o → cx.S0 a o ∨ cx.w0.heap.size ≤ a) ∧
   (∀ y u, lostX s y = false → VR (rts L) H w y u → VR (rts L1) H w y u) ∧ (∀ a o, F a o → ∃ i m t, rts L i m t ∧ m ≠ .ro ∧ G i a o) ∧ (∀ i m t, rts L1 i m t → (∃ t0, rts L i m t0) ∧ ∀ a o, G1 i a o → G i a o) := by
 cases s with
 | v y =>
  simp only [takeX] at h
  split at h
  ·cases h
   have hv : v = .slice none 0 0 := hv
   subst hv
   exact ⟨G, fun _ _ => False, hr, hG, ZC.own (t := .s n 0 fun _ _ => .j) ⟨hn, rfl, rfl⟩, fun _ _ _ _ _ _ _ h => h, fun _ _ h => h.elim, fun _ _ _ h => h, fun _ _ h => h.elim, fun i m t h => ⟨⟨t, h⟩, fun _ _ h => h⟩⟩
  ·cases h
 | h id q =>
  simp only [takeX] at h
  split at h
  ·rename_i m t hR
   have hR := rootL_mem hR
   cases q with
   | nil =>
    simp only at h
    split at h
    ·cases h
     obtain ⟨m', t', g1, g2, g3, g4⟩ := hv
     simp only [VM.hd, Option.some.injEq] at g4
     subst g4
     refine ⟨G, G id, hr.delR id, Good.sub hG fun _ _ _ h => (rts_delR.1 h).1, hr.own id .row _ hR (by simp), fun i m t h a o h1 h2 => ?_, hG.1 id _ _ hR (by simp), fun y u h1 h2 => ?_, fun a o h => ⟨id, _, _, hR, by simp, h⟩, fun i m t h => ⟨⟨t, (rts_delR.1 h).1⟩, fun _ _ h => h⟩⟩
     ·obtain ⟨e1, e2⟩ := rts_delR.1 h
      exact hr.dis id .row _ i m t hR e1 (Ne.symm e2) (by simp) a o h2 h1
     ·exact h2.drop (d := id) (fun j m2 t2 hj h => ⟨rts_delR.2 ⟨h, hj⟩, rfl⟩) h1
    ·cases h
   | cons b q' =>
    simp only at h
    split at h
    ·cases h
    ·rename_i hm
     split at h
     ·rename_i r n0 k c hsp
      cases h
      have hq := splitLast_eq hsp
      obtain ⟨m', t', g1, g2, ⟨n1, l1, f1, g3⟩, g4⟩ := hv
      obtain ⟨rfl, rfl⟩ := hr.one _ _ _ _ _ g1 hR
      have hlost : ∀ y, lostX (.h id (b :: q')) y = X.thr id (r ++ [(n0, k, c)]) y := fun y => by simp only [lostX]; rw [hq]
      simp only [hlost]
      rw [hq] at g2 g3 g4 ⊢
      obtain ⟨k1, len, f, k2, k3, k4⟩ := okp_split g2
      have hm' : m' ≠ .ro := fun e => hm (by rw [e])
      obtain ⟨h', b', o, x, Gx, e1, e2, e3, e4, ⟨sz, e5⟩, e6, e7, e8, e9⟩ := hr.store hm' hR k1 k2 k3 k4
      have hvx : v = x := by
       have := hd_snoc e1 e2 e3
       rw [g4] at this; cases this; rfl
      subst hvx
      obtain ⟨r1, r2⟩ := e9 (L1 := L) (w' := w) (S := fun _ _ => False) (y := .j) (x' := v) (Gy := fun _ _ => False) hr hR (fun _ _ _ h => h) (Chg.refl _ _) (fun _ _ h => h.elim) e3 ⟨e4.one, fun _ _ h => h⟩ (fun _ _ h => h.elim)
      have hf : f k c = t'.at (r ++ [(n0, k, c)]) := (at_snoc k2).symm
      rw [hf] at e4
      refine ⟨_, Gx, r1, ⟨?_, ?_⟩, e4, ?_, fun a o h => hG.1 id m' t' hR hm' a o (e7 a o h), fun y u h1 h2 => ?_, fun a o h => ⟨id, m', t', hR, hm', e7 a o h⟩, fun i m t h => ?_⟩
      ·intro i m t h1 h2 a p h3
       rcases rts_setQ.1 h1 with ⟨rfl, rfl, t0, h4⟩ | ⟨h4, h5⟩
       ·simp only [updN, if_true] at h3
        rcases h3 with ⟨h3, _⟩ | h3
        ·exact hG.1 _ _ _ hR hm' a p h3
        ·exact h3.elim
       ·simp only [updN, h4, if_false] at h3
        exact hG.1 i m t h5 h2 a p h3
      ·intro i m t h0 h1
       rcases rts_setQ.1 h1 with ⟨rfl, rfl, t0, h4⟩ | ⟨h4, h5⟩
       ·exact hG.2 _ _ _ h0 hR
       ·exact hG.2 i m t h0 h5
      ·intro i m t h1 a p h3 h6
       rcases rts_setQ.1 h1 with ⟨rfl, rfl, t0, h4⟩ | ⟨h4, h5⟩
       ·simp only [updN, if_true] at h3
        rcases h3 with ⟨_, h3⟩ | h3
        ·exact h3 h6
        ·exact h3
       ·simp only [updN, h4, if_false] at h3
        exact hr.dis id m' t' i m t hR h5 (Ne.symm h4) hm' a p (e7 a p h6) h3
      ·exact r2 h1 h2
      ·rcases rts_setQ.1 h with ⟨rfl, rfl, t0, h4⟩ | ⟨h4, h5⟩
       ·refine ⟨⟨_, h4⟩, fun a p h3 => ?_⟩
        simp only [updN, if_true] at h3
        rcases h3 with ⟨h3, _⟩ | h3
        ·exact h3
        ·exact h3.elim
       ·refine ⟨⟨_, h5⟩, fun a p h3 => ?_⟩
        simp only [updN, h4, if_false] at h3
        exact h3
     ·cases h
  ·cases h
 | _ => simp [takeX] at h

theorem Sat.newS {L1 : List E} {S : FP} (hs : Sat N cx L a w) {G1 : Nat → FP} (hr1 : Rp L1 (Act.val a) H G1 w) (hG : Good cx L1 H G1) (hC : Chg S w w') (hS : ∀ i m t, rts L1 i m t → ∀ a o, G1 i a o → ¬ S a o) (hS0 : ∀ a o, S a o → cx.S0 a o ∨ cx.w0.heap.size ≤ a) {d : Nat} (hN : d < N) (hb : d < base) {m : M} {t : T} {F : FP} {h : Value} (hm : m ≠ .ro) (hO : Own w' t F h) (hbx : m = .box → ∃ n f, t = .s n 1 f)
  (hF1 : ∀ id m t, id ≠ d → rts L1 id m t → ∀ a o, G1 id a o → F a o → False) (hF2 : ∀ a o, F a o → cx.S0 a o ∨ cx.w0.heap.size ≤ a) {x : X} {v : Value} (hx : VR (rts (.rt d m t :: delR L1 d)) (updN H d h) w' x v) :
  Sat N cx (putL (.rt d m t :: delR L1 d) d x) (Go.Act.put a (some d) v) w' := by
 have h1 := (hr1.chg hC hS).new d hm hO hbx hF1
 refine ⟨by simpa [Go.Act.put] using hs.siz, by simpa [Go.Act.put] using hs.dfr, hs.chg.step hC fun x y hx hy => (hS0 x y hy).resolve_right (by omega), updN H d h, updN G1 d F, (h1.put hx).val fun t => (Act.val_put (Nat.lt_of_lt_of_le hN hs.siz) t).symm, ?_, ?_⟩
 ·rw [rts_put]
  intro id m' t' k1 k2 x y k3
  by_cases e : id = d
  ·subst e
   simp only [updN, if_true] at k3
   exact hF2 x y k3
  ·simp only [updN, e, if_false] at k3
   rcases List.mem_cons.1 k1 with k1 | k1
   ·cases k1; exact absurd rfl e
   ·exact hG.1 id m' t' (rts_delR.1 k1).1 k2 x y k3
 ·rw [rts_put]
  intro id m' t' k0 k1
  have e : id ≠ d := by omega
  simp only [updN, e, if_false]
  rcases List.mem_cons.1 k1 with k1 | k1
  ·cases k1; exact absurd rfl e
  ·exact hG.2 id m' t' k0 (rts_delR.1 k1).1

def flatT : T → T
 | .v y => .v y
 | _ => .j
theorem Rd.flat {t : T} {F : FP} {c : Value} (h : Rd w t F c) : Own w (flatT t) (fun _ _ => False) c := by
 cases t with
 | v y => exact ⟨h.1, h.2, fun _ _ h => h⟩
 | j => exact ⟨h, fun _ _ h => h⟩
 | s n len f => obtain ⟨_, a, cap, h, _⟩ := h; exact ⟨by rw [h]; rfl, fun _ _ h => h⟩
theorem Rd.src {tx e : TypeId} {n m : Nat} {g : Nat → Nat → T} {F : FP} {v : Value} (h : Rd w (.s n m g) F v) (hS : SlI P tx e) : ∃ news, Src P n tx v m news w ∧ ∀ k c, k < m → c < n → ∃ x, news[k * n + c]? = some x ∧ Own w (flatT (g k c)) (fun _ _ => False) x := by
 obtain ⟨hn, a, cap, rfl, hl, hm, b, off, V, G, h1, h2⟩ := h
 by_cases hm0 : m = 0
 ·subst hm0
  refine ⟨[], ?_, fun k c hk => by omega⟩
  cases a with
  | none => exact Src.ofNil (P := P) w hS.sl cap
  | some a => exact Src.ofSlice (P := P) w hS.sl a 0 cap [] (by simp) (by simp) (by simp)
 ·have ha := h1 (by omega)
  subst ha
  refine ⟨(List.range (m * n)).map fun j => V (j / n) (j % n), Src.ofSlice (P := P) w hS.sl _ m cap _ (by simp) (fun j u hj => ?_) (fun u hu => ?_), fun k c hk hc => ?_⟩
  ·simp only [List.getElem?_map] at hj
   have hlt : j < m * n := by
    rcases Nat.lt_or_ge j (m * n) with h | h
    ·exact h
    ·rw [List.getElem?_eq_none (by simpa using h)] at hj; cases hj
   rw [List.getElem?_range hlt] at hj
   simp only [Option.map_some, Option.some.injEq] at hj
   rw [← hj, Addr.add_lit]
   have := (h2 (j / n) (j % n) ((Nat.div_lt_iff_lt_mul hn).2 hlt) (Nat.mod_lt _ hn)).1
   rwa [show j / n * n + j % n = j by rw [Nat.mul_comm]; exact Nat.div_add_mod j n] at this
  ·obtain ⟨j, hj, rfl⟩ := List.mem_map.1 hu
   have hlt : j < m * n := List.mem_range.1 hj
   exact ((h2 (j / n) (j % n) ((Nat.div_lt_iff_lt_mul hn).2 hlt) (Nat.mod_lt _ hn)).2.1.flat).one
  ·have hlt := row_lt (Nat.le_refl m) hk hc
   refine ⟨V k c, ?_, (h2 k c hk hc).2.1.flat⟩
   simp only [List.getElem?_map, List.getElem?_range hlt, Option.map_some]
   rw [show (k * n + c) / n = k by rw [Nat.mul_comm, Nat.mul_add_div hn, Nat.div_eq_of_lt hc]; rfl, show (k * n + c) % n = c by rw [Nat.mul_comm, Nat.mul_add_mod, Nat.mod_eq_of_lt hc]]
theorem Own.src {tx e : TypeId} {n m : Nat} {g : Nat → Nat → T} {F : FP} {v : Value} (h : Own w (.s n m g) F v) (hS : SlI P tx e) : ∃ (news : List Value) (Gn : Nat → Nat → FP), Src P n tx v m news w ∧ (∀ k c, k < m → c < n → ∃ x, news[k * n + c]? = some x ∧ Own w (g k c) (Gn k c) x) ∧
  (∀ k c k' c', (k ≠ k' ∨ c ≠ c') → k < m → c < n → k' < m → c' < n → ∀ x y, Gn k c x y → Gn k' c' x y → False) ∧ ∀ k c, k < m → c < n → ∀ x y, Gn k c x y → F x y := by
 obtain ⟨news, h1, h2⟩ := h.rd.src hS
 obtain ⟨hn, a, cap, rfl, hl, hm, b, off, V, G, g1, g2, g3, g4, g5⟩ := h
 refine ⟨news, G, h1, fun k c hk hc => ?_, g3, fun k c hk hc x y h => (g5 x y).2 (.inr ⟨k, c, hk, hc, h⟩)⟩
 obtain ⟨x, e1, e2⟩ := h2 k c hk hc
 refine ⟨x, e1, ?_⟩
 have ha := (g1 (by omega)).1
 subst ha
 have hc' := h1.cells
 obtain ⟨cs, hcs⟩ : ∃ cs, cs = (List.range (m * n)).map fun j => V (j / n) (j % n) := ⟨_, rfl⟩
 have hf := run_firstCells_some (P := P) w n m ⟨b, off, none⟩ m cap cs (by rw [hcs]; simp) (fun j u hj => by
  rw [hcs, List.getElem?_map] at hj
  have hlt : j < m * n := by
   rcases Nat.lt_or_ge j (m * n) with h | h
   ·exact h
   ·rw [List.getElem?_eq_none (by simpa using h)] at hj; cases hj
  rw [List.getElem?_range hlt] at hj
  simp only [Option.map_some, Option.some.injEq] at hj
  rw [← hj, Addr.add_lit]
  have := (g2 (j / n) (j % n) ((Nat.div_lt_iff_lt_mul hn).2 hlt) (Nat.mod_lt _ hn)).1
  rwa [show j / n * n + j % n = j by rw [Nat.mul_comm]; exact Nat.div_add_mod j n] at this)
 rw [hf] at hc'
 simp only [Result.ok.injEq, and_true] at hc'
 have hcn : cs = news := by simpa using congrArg Array.toList hc'
 have hlt := row_lt (Nat.le_refl m) hk hc
 rw [← hcn, hcs, List.getElem?_map, List.getElem?_range hlt] at e1
 simp only [Option.map_some, Option.some.injEq] at e1
 rw [show (k * n + c) / n = k by rw [Nat.mul_comm, Nat.mul_add_div hn, Nat.div_eq_of_lt hc]; rfl, show (k * n + c) % n = c by rw [Nat.mul_comm, Nat.mul_add_mod, Nat.mod_eq_of_lt hc]] at e1
 rw [← e1]
 exact (g2 k c hk hc).2
end
open Go Go.RowKit

def appT (n len : Nat) (f : Nat → Nat → T) (m : Nat) (g : Nat → Nat → T) : T := .s n (len + m) fun k c => if k < len then f k c else g (k - len) c
section
variable {P : Program} {N : Nat} {Q : Exit → List E → Prop} {L : List E} {ops : Array Oper} {rest : List Oper} {dst : Option Tmp} {ty : TypeId} {pos : String} {af : Array Edge} {gd : Option (Nat × Bool)} {d : Nat}
theorem VR.newRow {R : RT} {H : Nat → Value} {w : World} {d n len : Nat} {f : Nat → Nat → T} (h : R d .row (.s n len f)) : VR R H w (.h d []) (H d) := VR.root h

theorem VR.here {H : Nat → Value} {w : World} {n len : Nat} {f : Nat → Nat → T} {v : Value} {L : List E} : VR (rts (.rt d .row (.s n len f) :: L)) (updN H d v) w (.h d []) v := by
 have := VR.newRow (R := rts (.rt d .row (.s n len f) :: L)) (H := updN H d v) (w := w) (d := d) (n := n) (len := len) (f := f) (List.mem_cons_self ..)
 simpa [updN] using this
theorem run_append {t tx : TypeId} {s x : Operand} {a : Act} {w w' : World} {v : Value} (h : (Builtin.append_ #[t, tx] ty #[a.eval s, a.eval x]).run P w = .ok v w') :
  (execOp a.eval ⟨dst, .call { callee := .builtin .append, args := #[s, x], argTypes := #[t, tx] }, ty, pos, af, gd⟩).run P w = .ok (.value v) w' := by
 simp [execOp, resolve, invoke, builtin, h]

theorem Stp.appendM {t tx e : TypeId} {s x : Operand} {zt : List T} [hS : SlI P t e] [hSx : SlI P tx e] [hT : TyI P e zt] {L1 L2 : List E} {len m : Nat} {f g : Nat → Nat → T} (hd : dst = some d) (hN : d < N) (hb : d < base)
  (h1 : takeX L zt.length (evX L s) = some (L1, .s zt.length len f)) (hlost : lostX (evX L s) (evX L x) = false) (h2 : takeX L1 zt.length (evX L x) = some (L2, .s zt.length m g)) (hbig : len + m ≤ 4194304) : Stp P N ⟨dst, .call { callee := .builtin .append, args := #[s, x], argTypes := #[t, tx] }, ty, pos, af, gd⟩ L (putL (.rt d .row (appT zt.length len f m g) :: delR L2 d) d (.h d [])) :=
 Stp.op (fun cx a w hs => by
  obtain ⟨H, G, hr, hG⟩ := hs.rp
  obtain ⟨G1, F1, r1, q1, o1, d1, s1, k1, u1, v1⟩ := take_ok hr hG hT.pos (ev_ok hr s) h1
  obtain ⟨G2, F2, r2, q2, o2, d2, s2, k2, u2, v2⟩ := take_ok r1 q1 hT.pos (k1 _ _ hlost (ev_ok hr x)) h2
  obtain ⟨news, Gn, e1, e2, e3, e4⟩ := o2.src (P := P) hSx
  have hap : ∀ a o, F1 a o → F2 a o → False := fun a o h h' => by
   obtain ⟨i, m', t', h3, _, h4⟩ := u2 a o h'
   exact d1 i m' t' h3 a o h4 h
  have hd1 : ∀ i m t, rts L2 i m t → ∀ a o, G2 i a o → F1 a o → False := fun i m' t' h a o h3 h4 => by
   obtain ⟨⟨t0, h5⟩, h6⟩ := v2 i m' t' h
   exact d1 i m' t0 h5 a o (h6 a o h3) h4
  obtain ⟨v', w', F', g1, g2, g3, g4⟩ := own_app (ty := ty) hS hT o1 e1 e2 e3 (fun k c hk hc x y h h' => hap x y h' (e4 k c hk hc x y h)) hbig
  have hF' : ∀ a o, F' a o → F1 a o ∨ F2 a o ∨ w.heap.size ≤ a := fun a o h => by
   rcases g4 a o h with h | ⟨k, c, hk, hc, h⟩ | h
   ·exact .inl h
   ·exact .inr (.inl (e4 k c hk hc a o h))
   ·exact .inr (.inr h)
  refine ⟨v', w', run_append g1, ?_⟩
  rw [hd]
  refine hs.newS r2 q2 g3 (fun i m t h a o h3 h4 => hd1 i m t h a o h3 h4) s1 hN hb (by simp) (t := appT zt.length len f m g) (F := F') (h := v') g2 (fun h => by cases h) (fun id m' t' _ h a o h3 h4 => ?_) (fun a o h => ?_) VR.here
  ·rcases hF' a o h4 with h5 | h5 | h5
   ·exact hd1 id m' t' h a o h3 h5
   ·exact d2 id m' t' h a o h3 h5
   ·have : a < w.heap.size := by
     by_cases hm : m' = .ro
     ·subst hm; exact r2.rold id t' h a o h3
     ·exact (r2.own id m' t' h hm).old a o h3
    omega
  ·rcases hF' a o h with h5 | h5 | h5
   ·exact s1 a o h5
   ·exact s2 a o h5
   ·have := hs.chg.size; exact .inr (by omega))

def rowsX (L : List E) : X → Option (Nat × Nat × (Nat → Nat → T))
 | .h id q => match rootL L id with
  | some (_, t) => match t.at q with
   | .s n len f => some (n, len, f)
   | _ => none
  | none => none
 | .a id q n lo len => match rootL L id with
  | some (_, t) => match t.at q with
   | .s n' _ f => if n' = n then some (n, len, fun k c => f (lo + k) c) else none
   | _ => none
  | none => none
 | _ => none
theorem rowsX_ok {val : Nat → Value} {H : Nat → Value} {G : Nat → FP} {w : World} (hr : Rp L val H G w) {x : X} {v : Value} (hv : VR (rts L) H w x v) {n len : Nat} {f : Nat → Nat → T} (h : rowsX L x = some (n, len, f)) : ∃ F, Rd w (.s n len f) F v := by
 cases x with
 | h id q =>
  simp only [rowsX] at h
  split at h
  ·rename_i m t hR
   split at h
   ·rename_i n' l' f' hT
    cases h
    obtain ⟨m', t', g1, g2, g3, g4⟩ := hv
    obtain ⟨rfl, rfl⟩ := hr.one _ _ _ _ _ g1 (rootL_mem hR)
    obtain ⟨hv', F, e1, e2⟩ := hr.node g1 g2
    rw [g4] at e1; cases e1
    rw [hT] at e2
    exact ⟨F, e2⟩
   ·cases h
  ·cases h
 | a id q nn lo ln =>
  simp only [rowsX] at h
  split at h
  ·rename_i m t hR
   split at h
   ·rename_i n' l' f' hT
    split at h
    ·rename_i hn
     subst hn
     cases h
     obtain ⟨m', t', g1, g2, ⟨l2, f2, g3, g4⟩, hv', g5, ad, cap, g6, g7, g8, g9, _⟩ := hv
     obtain ⟨rfl, rfl⟩ := hr.one _ _ _ _ _ g1 (rootL_mem hR)
     rw [hT] at g3; cases g3
     obtain ⟨hw, F, e1, e2⟩ := hr.node g1 g2
     rw [g5] at e1; cases e1
     rw [hT] at e2
     exact ⟨F, e2.sub g4 g6 g7 g8 g9⟩
    ·cases h
   ·cases h
  ·cases h
 | _ => simp [rowsX] at h
theorem Stp.appendC {t tx e : TypeId} {s x : Operand} {zt : List T} [hS : SlI P t e] [hSx : SlI P tx e] [hT : TyI P e zt] {L1 : List E} {len m : Nat} {f g : Nat → Nat → T} (hd : dst = some d) (hN : d < N) (hb : d < base)
  (h1 : takeX L zt.length (evX L s) = some (L1, .s zt.length len f)) (h2 : rowsX L (evX L x) = some (zt.length, m, g)) (hbig : len + m ≤ 4194304) : Stp P N ⟨dst, .call { callee := .builtin .append, args := #[s, x], argTypes := #[t, tx] }, ty, pos, af, gd⟩ L (putL (.rt d .row (appT zt.length len f m fun k c => flatT (g k c)) :: delR L1 d) d (.h d [])) :=
 Stp.op (fun cx a w hs => by
  obtain ⟨H, G, hr, hG⟩ := hs.rp
  obtain ⟨G1, F1, r1, q1, o1, d1, s1, k1, u1, v1⟩ := take_ok hr hG hT.pos (ev_ok hr s) h1
  obtain ⟨Fx, hx⟩ := rowsX_ok hr (ev_ok hr x) h2
  obtain ⟨news, e1, e2⟩ := hx.src (P := P) hSx
  obtain ⟨v', w', F', g1, g2, g3, g4⟩ := own_app (ty := ty) hS hT o1 e1 e2 (fun _ _ _ _ _ _ _ _ _ _ _ h => h.elim) (fun _ _ _ _ _ _ h => h.elim) hbig
  have hF' : ∀ a o, F' a o → F1 a o ∨ w.heap.size ≤ a := fun a o h => by
   rcases g4 a o h with h | ⟨k, c, hk, hc, h⟩ | h
   ·exact .inl h
   ·exact h.elim
   ·exact .inr h
  refine ⟨v', w', run_append g1, ?_⟩
  rw [hd]
  refine hs.newS r1 q1 g3 (fun i m t h a o h3 h4 => d1 i m t h a o h3 h4) s1 hN hb (by simp) (t := appT zt.length len f m fun k c => flatT (g k c)) (F := F') (h := v') g2 (fun h => by cases h) (fun id m' t' _ h a o h3 h4 => ?_) (fun a o h => ?_) VR.here
  ·rcases hF' a o h4 with h5 | h5
   ·exact d1 id m' t' h a o h3 h5
   ·have : a < w.heap.size := by
     by_cases hm : m' = .ro
     ·subst hm; exact r1.rold id t' h a o h3
     ·exact (r1.own id m' t' h hm).old a o h3
    omega
  ·rcases hF' a o h with h5 | h5
   ·exact s1 a o h5
   ·have := hs.chg.size; exact .inr (by omega))
end
open Go Go.RowKit

def waits (ops : Array Oper) (j i : Nat) : Bool := match ops[j]? with
 | some o => o.after.any fun e => Region.binds .any e && e.on == i
 | none => false
def dstO (ops : Array Oper) (i : Nat) : Option Tmp := (ops[i]?).bind (·.dst)
def lookO (ops : Array Oper) (i : Nat) : List Tmp := match ops[i]? with
 | some o => o.looksAt ops
 | none => []
def quietB (ops : Array Oper) (N : Nat) (qs : List Nat) : Bool :=
 Region.noSelect ops &&
 ((List.range ops.size).all fun j => match ops[j]? with | some o => o.after.all fun e => !Region.binds .any e || decide (e.on < j) | none => true) &&
 qs.all fun i => match dstO ops i with
  | none => false
  | some d => decide (i < ops.size) && decide (d < N) && !(lookO ops i).contains d && (List.range ops.size).all fun j => j == i || waits ops j i ||
   (!(lookO ops j).contains d && dstO ops j != some d && (waits ops i j || match dstO ops j with | some e => !(lookO ops i).contains e | none => true))

section
variable {P : Program} {N : Nat} {Q : Exit → List E → Prop} {L : List E} {ops : Array Oper} {cx : Cx} {a b : Act} {w : World} {o : Oper} {S R : Array Bool} {pend todo qs : List Nat}

theorem quiet_back (h : quietB ops N qs = true) {j : Nat} {o : Oper} (ho : ops[j]? = some o) {e : Edge} (he : e ∈ o.after) (hb : Region.binds .any e = true) : e.on < j := by
 simp only [quietB, Bool.and_eq_true] at h
 have := List.all_eq_true.1 h.1.2 j (List.mem_range.2 (Array.getElem?_eq_some_iff.1 ho).1)
 simp only [ho] at this
 have := Array.all_eq_true_iff_forall_mem.1 this e he
 simpa [hb] using this
theorem quiet_sel (h : quietB ops N qs = true) {j : Nat} {o : Oper} (ho : ops[j]? = some o) : ∀ cs b, o.op ≠ .select cs b := fun cs b => by
 simp only [quietB, Bool.and_eq_true] at h
 exact Region.noSelect_spec h.1.1 j o cs b ho
theorem quiet_at (h : quietB ops N qs = true) {i : Nat} (hi : i ∈ qs) : ∃ o d, ops[i]? = some o ∧ o.dst = some d ∧ d < N ∧ d ∉ o.looksAt ops ∧
  ∀ (j : Nat) (o' : Oper), ops[j]? = some o' → j ≠ i → waits ops j i = false → d ∉ o'.looksAt ops ∧ o'.dst ≠ some d ∧ (waits ops i j = false → ∀ e, o'.dst = some e → e ∉ o.looksAt ops) := by
 simp only [quietB, Bool.and_eq_true] at h
 have := List.all_eq_true.1 h.2 i hi
 split at this
 ·cases this
 ·rename_i d hd
  simp only [Bool.and_eq_true, decide_eq_true_eq, Bool.not_eq_true', List.all_eq_true, List.mem_range] at this
  obtain ⟨⟨⟨h1, h2⟩, h3⟩, h4⟩ := this
  obtain ⟨o, ho⟩ : ∃ o, ops[i]? = some o := ⟨_, Array.getElem?_eq_getElem h1⟩
  have hd' : o.dst = some d := by simpa [dstO, ho] using hd
  refine ⟨o, d, ho, hd', h2, by simpa [lookO, ho] using h3, fun j o' hj hne hw => ?_⟩
  have := h4 j (Array.getElem?_eq_some_iff.1 hj).1
  simp only [hw, Bool.or_eq_true, beq_iff_eq, hne, false_or, Bool.false_eq_true, Bool.and_eq_true, Bool.not_eq_true', bne_iff_ne, ne_eq, lookO, hj, dstO, Option.bind_some, ho] at this
  refine ⟨by simpa using this.1.1, this.1.2, fun hw' e he => ?_⟩
  have h5 := this.2
  simp only [hw', Bool.false_eq_true, false_or, he] at h5
  simpa using h5

theorem eval_agr {x : Operand} (h : ∀ t, x = .tmp t → b.tmps[t]? = a.tmps[t]?) : Act.eval b x = Act.eval a x := by
 cases x with
 | tmp t => simp only [Act.eval, Array.getD_eq_getD_getElem?, h t rfl]
 | _ => rfl
theorem exec_agr (hs : ∀ cs b, o.op ≠ .select cs b) (h : ∀ t ∈ o.looksAt ops, b.tmps[t]? = a.tmps[t]?) : execOp (Act.eval b) o = execOp (Act.eval a) o :=
 execOp_congr o hs fun x hx => eval_agr fun t ht => h t (by
  subst ht
  simp only [Oper.looksAt, List.mem_append, List.mem_filterMap]
  exact .inl ⟨.tmp t, by simpa using hx, rfl⟩)
theorem wanted_agr (h : ∀ t ∈ o.looksAt ops, b.tmps[t]? = a.tmps[t]?) : Region.wanted o (yielded ops b.tmps) = Region.wanted o (yielded ops a.tmps) := by
 unfold Region.wanted
 cases hg : o.guard with
 | none => rfl
 | some p =>
  obtain ⟨g, want⟩ := p
  simp only
  have : yielded ops b.tmps g = yielded ops a.tmps g := by
   unfold yielded
   cases hb : (ops[g]?).bind (·.dst) with
   | none => rfl
   | some t =>
    have := h t (by simp [Oper.looksAt, hg, hb])
    simp only [Option.bind_some, this]
  rw [this]

def Dv (P : Program) (ops : Array Oper) (o : Oper) (a : Act) (w : World) (v : Value) : Prop :=
 (Region.wanted o (yielded ops a.tmps) = true ∧ (execOp (Act.eval a) o).run P w = .ok (.value v) w) ∨ (Region.wanted o (yielded ops a.tmps) = false ∧ v = undef)
theorem Dv.agr {v : Value} (hs : ∀ cs b, o.op ≠ .select cs b) (h : ∀ t ∈ o.looksAt ops, b.tmps[t]? = a.tmps[t]?) (hd : Dv P ops o a w v) : Dv P ops o b w v := by
 unfold Dv at *
 rw [exec_agr hs h, wanted_agr h]; exact hd
theorem put_get {d t : Nat} {v : Value} : (Go.Act.put a (some d) v).tmps[t]? = if t = d ∧ d < a.tmps.size then some v else a.tmps[t]? := by
 simp only [Go.Act.put]
 by_cases h : t = d
 ·subst h
  by_cases h2 : t < a.tmps.size
  ·simp [h2]
  ·simp [h2, Array.setIfInBounds]
 ·rw [if_neg (fun hh => h hh.1)]
  exact Array.getElem?_setIfInBounds_ne (Ne.symm h)

structure VS (P : Program) (ops : Array Oper) (qs : List Nat) (S : Array Bool) (pend todo : List Nat) (R : Array Bool) (a b : Act) (w : World) : Prop where
 rsz : R.size = ops.size
 ssz : S.size = ops.size
 sub : ∀ i, R.getD i false = true → S.getD i false = true
 pen : ∀ i, S.getD i false = true → R.getD i false = false → i ∈ pend
 inq : ∀ i ∈ pend, i ∈ qs ∧ S.getD i false = true
 aft : ∀ i ∈ pend, ∀ j, waits ops i j = true → S.getD j false = true
 tsz : b.tmps.size = a.tmps.size
 dfr : b.defers = a.defers
 agr : ∀ t, (∀ i ∈ pend, R.getD i false = false → dstO ops i ≠ some t) → b.tmps[t]? = a.tmps[t]?
 con : ∀ i ∈ pend, i ∉ todo → R.getD i false = false → ∀ o d, ops[i]? = some o → o.dst = some d → ∃ v, Dv P ops o b w v ∧ b.tmps[d]? = some v
 clo : ∀ i j, R.getD i false = true → waits ops i j = true → R.getD j false = true

def chainB (ops : Array Oper) : List Nat → List Nat → Bool
 | _, [] => true
 | known, d :: r => known.any (fun e => waits ops e d) && chainB ops (d :: known) r
theorem chain_run {ops : Array Oper} {R : Array Bool} (hc : ∀ i j, R.getD i false = true → waits ops i j = true → R.getD j false = true) {j : Nat} (h3 : ∀ i, waits ops j i = true → R.getD i false = true) : ∀ {D known : List Nat}, (∀ e ∈ known, e = j ∨ R.getD e false = true) → chainB ops known D = true → ∀ d ∈ D, R.getD d false = true
 | [], _, _, _, d, hd => by cases hd
 | x :: D, known, hk, h, d, hd => by
  simp only [chainB, Bool.and_eq_true, List.any_eq_true] at h
  obtain ⟨⟨e, he, hw⟩, h2⟩ := h
  have hx : R.getD x false = true := by
   rcases hk e he with rfl | h'
   ·exact h3 x hw
   ·exact hc e x h' hw
  rcases List.mem_cons.1 hd with rfl | hd
  ·exact hx
  ·exact chain_run hc h3 (known := x :: known) (fun e he => by
    rcases List.mem_cons.1 he with rfl | he
    ·exact .inr hx
    ·exact hk e he) h2 d hd
theorem waits_iff {i j : Nat} {o : Oper} (ho : ops[i]? = some o) : waits ops i j = true ↔ ∃ e ∈ o.after, Region.binds .any e = true ∧ e.on = j := by
 simp only [waits, ho, Array.any_eq_true', Bool.and_eq_true, beq_iff_eq]
theorem ready_iff {S : Array Bool} {j : Nat} (hs : S.size = ops.size) : j ∈ Region.ready .any ops S ↔ j < ops.size ∧ S.getD j false = false ∧ ∀ i, waits ops j i = true → S.getD i false = true := by
 rw [mem_ready]
 constructor
 ·rintro ⟨h1, o, ho, h2⟩
  have hlt := (Array.getElem?_eq_some_iff.1 ho).1
  refine ⟨hlt, ?_, fun i hw => ?_⟩
  ·rw [Array.getD_eq_getD_getElem?] at h1 ⊢
   rw [Array.getElem?_eq_getElem (by omega)] at h1 ⊢
   exact h1
  ·obtain ⟨e, he, hb, rfl⟩ := (waits_iff ho).1 hw
   exact h2 e he hb
 ·rintro ⟨hlt, h1, h2⟩
  refine ⟨?_, _, Array.getElem?_eq_getElem hlt, fun e he hb => h2 _ ((waits_iff (Array.getElem?_eq_getElem hlt)).2 ⟨e, he, hb, rfl⟩)⟩
  rw [Array.getD_eq_getD_getElem?] at h1 ⊢
  rw [Array.getElem?_eq_getElem (by omega)] at h1 ⊢
  exact h1
theorem set_get {S : Array Bool} {i j : Nat} (hi : i < S.size) : (S.setIfInBounds i true).getD j false = if j = i then true else S.getD j false := by
 simp only [Array.getD_eq_getD_getElem?]
 by_cases h : j = i
 ·subst h; simp [hi]
 ·rw [if_neg h, Array.getElem?_setIfInBounds_ne (Ne.symm h)]

def und (n : Nat) (R : Array Bool) : Nat := (List.range n).countP fun i => !R.getD i false
theorem countP_lt {l : List Nat} {p q : Nat → Bool} (h : ∀ x, q x = true → p x = true) {i : Nat} (hi : i ∈ l) (hp : p i = true) (hq : q i = false) : l.countP q < l.countP p := by
 induction l with
 | nil => cases hi
 | cons x l ih =>
  have hle : l.countP q ≤ l.countP p := List.countP_mono_left fun x _ => h x
  simp only [List.countP_cons]
  rcases List.mem_cons.1 hi with rfl | hm
  ·rw [hp, hq]; simp; omega
  ·have := ih hm
   have hx := h x
   cases hqx : q x
   ·simp; split <;> omega
   ·rw [hx hqx]; simp; omega
theorem und_set {R : Array Bool} {n i : Nat} (hn : i < n) (hs : R.size = n) (h : R.getD i false = false) : und n (R.setIfInBounds i true) < und n R := by
 refine countP_lt (i := i) (fun x hx => ?_) (List.mem_range.2 hn) (by simp [h]) (by simp [set_get (hs ▸ hn)])
 rw [set_get (hs ▸ hn)] at hx
 split at hx
 ·simp at hx
 ·exact hx
theorem und_zero {R : Array Bool} {n : Nat} (h : und n R = 0) : ∀ i, i < n → R.getD i false = true := fun i hi => by
 unfold und at h
 rw [List.countP_eq_zero] at h
 simpa using h i (List.mem_range.2 hi)

theorem some_ready (hq : quietB ops N qs = true) (hs : R.size = ops.size) : ∀ i, i < ops.size → R.getD i false = false → ∃ j, j ∈ Region.ready .any ops R := by
 intro i
 induction i using Nat.strongRecOn with
 | _ i ih =>
  intro hi h
  by_cases hall : ∀ j, waits ops i j = true → R.getD j false = true
  ·exact ⟨i, (ready_iff hs).2 ⟨hi, h, hall⟩⟩
  ·simp only [Classical.not_forall] at hall
   obtain ⟨j, hw, hj⟩ := hall
   obtain ⟨e, he, heb, rfl⟩ := (waits_iff (Array.getElem?_eq_getElem hi)).1 hw
   have hlt := quiet_back hq (Array.getElem?_eq_getElem hi) he heb
   exact ih e.on hlt (by omega) (by simpa using hj)
end
open Go Go.RowKit

section
variable {P : Program} {N : Nat} {Q : Exit → List E → Prop} {L : List E} {ops : Array Oper} {cx : Cx} {a b : Act} {w : World} {o : Oper} {S R : Array Bool} {pend todo qs : List Nat}

def AWA (P : Program) (N : Nat) (ops : Array Oper) (qs : List Nat) (Q : Exit → List E → Prop) (S : Array Bool) (pend todo : List Nat) (L : List E) : Prop :=
 quietB ops N qs = true → ∀ (cx : CxP P) a b w R fuel, und ops.size R ≤ fuel → VS P ops qs S pend todo R a b w → Sat N cx L b w → wpAny P .any ops (QQ N cx Q) fuel R a w

theorem Sat.agr (hs : Sat N cx L b w) (h1 : b.tmps.size = a.tmps.size) (h2 : b.defers = a.defers) (h : ∀ t : Nat, b.tmps[t]? = a.tmps[t]?) : Sat N cx L a w := by
 obtain ⟨H, G, hr, hG⟩ := hs.rp
 exact ⟨h1 ▸ hs.siz, h2 ▸ hs.dfr, hs.chg, H, G, hr.val fun t => by simp only [Act.val, Array.getD_eq_getD_getElem?, h t], hG⟩

def StpK (P : Program) (N : Nat) (o : Oper) (L : List E) (K : List E → Prop) : Prop := ∀ (cx : CxP P) a w Q, Sat N cx L a w → o.wp P a w (fun b w' => (∃ v, b = a.put o.dst v) ∧ ∃ L1, K L1 ∧ Sat N cx L1 b w') Q
theorem Stp.k {L1 : List E} {o : Oper} (h : Stp P N o L L1) : StpK P N o L (fun L' => L' = L1) := fun cx a w Q hs => Oper.wp_mono (fun _ _ hb => ⟨hb.1, _, rfl, hb.2⟩) (h cx a w Q hs)
def Arm (P : Program) (N : Nat) (ops : Array Oper) (qs : List Nat) (Q : Exit → List E → Prop) (S : Array Bool) (pend : List Nat) (L : List E) (j : Nat) : Prop :=
 ∃ o, ∃ K : List E → Prop, ∃ pend', ops[j]? = some o ∧ ((wantL ops L o = some true ∧ StpK P N o L K) ∨ (wantL ops L o = some false ∧ ∃ d, o.dst = some d ∧ d < N ∧ K (putL L d (.v undef)))) ∧ (∃ D, chainB ops [j] D = true ∧ ∀ i ∈ pend, i ∈ pend' ∨ i ∈ D) ∧ (∀ i ∈ pend', i ∈ pend) ∧ ∀ L1, K L1 → AWA P N ops qs Q (S.setIfInBounds j true) pend' pend' L1

theorem wp_agr {K : Act → World → Prop} {F : Act → World → Prop} {Q Q' : Exit → Act → World → Prop} (hE : execOp (Act.eval a) o = execOp (Act.eval b) o) (hQ : Q' = fun _ _ _ => False)
    (h : o.wp P b w (fun b' w' => (∃ v, b' = b.put o.dst v) ∧ F b' w') Q') (hK : ∀ v w', F (b.put o.dst v) w' → K (a.put o.dst v) w') : o.wp P a w K Q := by
  unfold Oper.wp at *
  rw [hE]
  generalize (execOp (Act.eval b) o).run P w = r at *
  cases r with
  | ok n w' =>
    cases n <;> simp only [Oper.upon] at h ⊢
    case value u => exact hK _ _ h.2
    case skip => exact hK _ _ h.2
    case defer d =>
      obtain ⟨⟨v, hv⟩, _⟩ := h
      have := congrArg Act.defers hv
      generalize o.dst = x at this
      exfalso
      cases x <;> · have := congrArg List.length this; simp [Go.Act.put] at this
    case enter f args =>
      refine Calls.mono h fun e w'' he => ?_
      cases e with
      | returned u => exact hK _ _ he.2
      | panicked c => rw [hQ] at he; exact he.elim
      | outgrown => rw [hQ] at he; obtain ⟨_, _, he⟩ := he; exact he.elim
    case row row args => exact Rows.mono h fun u w'' he => hK _ _ he.2
  | halt x w' =>
    cases x <;> simp only [Oper.upon] at h ⊢
    case panic u => rw [hQ] at h; exact h.elim

theorem AWA.run (hS : ∀ j ∈ Region.ready .any ops S, Arm P N ops qs Q S pend L j) (hN : Region.ready .any ops S = [] → Q .normal L) : AWA P N ops qs Q S pend [] L := by
 intro hq cx a b w R fuel
 have hdone : ∀ (R : Array Bool) (a : Act), VS P ops qs S pend [] R a b w → Sat N cx L b w → (∀ i, i < ops.size → R.getD i false = true) → QQ N cx Q .normal a w := by
  intro R a hv hs hall
  have hne : Region.ready .any ops S = [] := by
   apply List.eq_nil_iff_forall_not_mem.2
   intro j hj
   obtain ⟨h1, h2, _⟩ := (ready_iff hv.ssz).1 hj
   rw [hv.sub j (hall j h1)] at h2
   cases h2
  refine ⟨L, hN hne, hs.agr hv.tsz hv.dfr fun t => hv.agr t fun i hi hR => ?_⟩
  obtain ⟨o, d, ho, _⟩ := quiet_at hq (hv.inq i hi).1
  rw [hall i (Array.getElem?_eq_some_iff.1 ho).1] at hR
  cases hR
 induction fuel generalizing a R with
 | zero =>
  intro hu hv hs
  have hall := und_zero (Nat.le_zero.1 hu)
  refine ⟨?_, hdone R a hv hs hall⟩
  apply List.eq_nil_iff_forall_not_mem.2
  intro j hj
  obtain ⟨h1, h2, _⟩ := (ready_iff hv.rsz).1 hj
  rw [hall j h1] at h2
  cases h2
 | succ fuel ih =>
  intro hu hv hs
  refine ⟨fun h0 => hdone R a hv hs fun i hi => ?_, fun i hi => ?_⟩
  ·cases h : R.getD i false with
   | true => rfl
   | false =>
    obtain ⟨j, hj⟩ := some_ready hq hv.rsz i hi h
    rw [h0] at hj; cases hj
  ·obtain ⟨h1, h2, h3⟩ := (ready_iff hv.rsz).1 hi
   have hlt := und_set h1 hv.rsz h2
   have hRi : i < R.size := by rw [hv.rsz]; exact h1
   have hclo : ∀ k j, (R.setIfInBounds i true).getD k false = true → waits ops k j = true → (R.setIfInBounds i true).getD j false = true := fun k j hk hw => by
    rw [set_get hRi] at hk ⊢
    split
    ·rfl
    ·split at hk
     ·rename_i e; subst e; exact h3 j hw
     ·exact hv.clo k j hk hw
   -- the undone quiet ones touch nothing of i's
   have hap : ∀ k ∈ pend, R.getD k false = false → k ≠ i → ∀ o, ops[i]? = some o → ∀ ok dk, ops[k]? = some ok → ok.dst = some dk → dk ∉ o.looksAt ops ∧ o.dst ≠ some dk := by
    intro k hk hRk hne o ho ok dk hok hdk
    obtain ⟨ok', dk', hok', hdk', _, _, h5⟩ := quiet_at hq (hv.inq k hk).1
    rw [hok] at hok'; cases hok'
    rw [hdk] at hdk'; cases hdk'
    have hw : waits ops i k = false := by
     cases hw : waits ops i k with
     | false => rfl
     | true => rw [h3 k hw] at hRk; cases hRk
    exact ⟨(h5 i o ho (Ne.symm hne) hw).1, (h5 i o ho (Ne.symm hne) hw).2.1⟩
   by_cases hSi : S.getD i false = true
   ·-- a quiet one
    have hip := hv.pen i hSi h2
    obtain ⟨o, d, ho, hd, hN', hself, h5⟩ := quiet_at hq (hv.inq i hip).1
    obtain ⟨v, hD, hbv⟩ := hv.con i hip (by simp) h2 o d ho hd
    have hag : ∀ t ∈ o.looksAt ops, a.tmps[t]? = b.tmps[t]? := fun t ht => (hv.agr t fun k hk hRk e => by
     by_cases hki : k = i
     ·subst hki; rw [dstO, ho] at e; simp only [Option.bind_some, hd, Option.some.injEq] at e; subst e; exact hself ht
     ·obtain ⟨ok, dk, hok, hdk, _⟩ := quiet_at hq (hv.inq k hk).1
      rw [dstO, hok] at e; simp only [Option.bind_some, hdk, Option.some.injEq] at e; subst e
      exact (hap k hk hRk hki o ho ok dk hok hdk).1 ht).symm
    have hDa : Dv P ops o a w v := hD.agr (quiet_sel hq ho) hag
    have hVS : VS P ops qs S pend [] (R.setIfInBounds i true) (a.put (some d) v) b w := by
     refine ⟨by simp [hv.rsz], hv.ssz, fun k hk => ?_, fun k hk hR => ?_, hv.inq, hv.aft, by simpa [Go.Act.put] using hv.tsz, by simpa [Go.Act.put] using hv.dfr, fun t ht => ?_, fun k hk hkt hR => ?_, hclo⟩
     ·rw [set_get hRi] at hk
      split at hk
      ·rename_i e; subst e; exact hSi
      ·exact hv.sub k hk
     ·rw [set_get hRi] at hR
      split at hR
      ·cases hR
      ·exact hv.pen k hk hR
     ·rw [put_get]
      split
      ·rename_i e; rw [e.1]; exact hbv
      ·rename_i e
       refine hv.agr t fun k hk hR hkd => ?_
       by_cases hki : k = i
       ·subst hki
        rw [dstO, ho] at hkd; simp only [Option.bind_some, hd, Option.some.injEq] at hkd; subst hkd
        have : d < b.tmps.size := (Array.getElem?_eq_some_iff.1 hbv).1
        exact e ⟨rfl, hv.tsz ▸ this⟩
       ·exact ht k hk (by rw [set_get hRi, if_neg hki]; exact hR) hkd
     ·rw [set_get hRi] at hR
      split at hR
      ·cases hR
      ·exact hv.con k hk hkt hR
    have hgo := ih (a.put (some d) v) (R.setIfInBounds i true) (by omega) hVS hs
    unfold wpOp
    simp only [ho]
    rcases hDa with ⟨hw, hx⟩ | ⟨hw, rfl⟩
    ·simp only [hw, if_true]
     refine .inl ?_
     unfold Oper.wp
     rw [hx]
     simp only [Oper.upon, hd]
     exact hgo
    ·simp only [hw, Bool.false_eq_true, if_false]
     rw [hd]; exact hgo
   ·-- one that counts
    have hSi' : S.getD i false = false := by simpa using hSi
    have hiS : i ∈ Region.ready .any ops S := (ready_iff hv.ssz).2 ⟨h1, hSi', fun k hw => hv.sub k (h3 k hw)⟩
    obtain ⟨o, K, pend', ho, hwS, ⟨D, hD1, hp1⟩, hp2, hA⟩ := hS i hiS
    have hDR := chain_run hv.clo h3 (known := [i]) (fun e he => .inl (List.mem_singleton.1 he)) hD1
    have hne : ∀ k ∈ pend, k ≠ i := fun k hk e => by subst e; rw [(hv.inq k hk).2] at hSi'; cases hSi'
    have hag : ∀ t ∈ o.looksAt ops, a.tmps[t]? = b.tmps[t]? := fun t ht => (hv.agr t fun k hk hRk e => by
     obtain ⟨ok, dk, hok, hdk, _⟩ := quiet_at hq (hv.inq k hk).1
     rw [dstO, hok] at e; simp only [Option.bind_some, hdk, Option.some.injEq] at e; subst e
     exact (hap k hk hRk (hne k hk) o ho ok dk hok hdk).1 ht).symm
    obtain ⟨H, G, hr, hG⟩ := hs.rp
    have hSR : i < S.size := by rw [hv.ssz]; exact h1
    have key : ∀ v w', (∃ L1, K L1 ∧ Sat N cx L1 (b.put o.dst v) w') → wpAny P .any ops (QQ N cx Q) fuel (R.setIfInBounds i true) (a.put o.dst v) w' := fun v w' hs' => by
     obtain ⟨L1, hK, hs'⟩ := hs'
     refine hA L1 hK hq cx _ _ w' _ fuel (by omega) ?_ hs'
     refine ⟨by simp [hv.rsz], by simp [hv.ssz], fun k hk => ?_, fun k hk hR => ?_, fun k hk => ?_, fun k hk j hw => ?_, ?_, ?_, fun t ht => ?_, fun k hk hkt => absurd hk hkt, hclo⟩
     ·rw [set_get hRi] at hk
      rw [set_get hSR]
      split at hk
      ·rename_i e; rw [if_pos e]
      ·rename_i e; rw [if_neg e]; exact hv.sub k hk
     ·rw [set_get hSR] at hk
      rw [set_get hRi] at hR
      split at hR
      ·cases hR
      ·rename_i e
       rw [if_neg e] at hk
       rcases hp1 k (hv.pen k hk hR) with h | h
       ·exact h
       ·rw [hDR k h] at hR; cases hR
     ·refine ⟨(hv.inq k (hp2 k hk)).1, ?_⟩
      rw [set_get hSR]; split
      ·rfl
      ·exact (hv.inq k (hp2 k hk)).2
     ·rw [set_get hSR]; split
      ·rfl
      ·exact hv.aft k (hp2 k hk) j hw
     ·cases o.dst <;> simpa [Go.Act.put] using hv.tsz
     ·cases o.dst <;> simpa [Go.Act.put] using hv.dfr
     ·have hold : (∀ d, o.dst = some d → t ≠ d) → b.tmps[t]? = a.tmps[t]? := fun hd => hv.agr t fun k hk hR e => by
       have hki := hne k hk
       rcases hp1 k hk with h | h
       ·exact ht k h (by rw [set_get hRi, if_neg hki]; exact hR) e
       ·rw [hDR k h] at hR; cases hR
      cases hd : o.dst with
      | none => simp only [Go.Act.put]; exact hold (by simp [hd])
      | some d =>
       rw [put_get, put_get, hv.tsz]
       split
       ·rfl
       ·rename_i e
        by_cases htd : t = d
        ·subst htd
         have : ¬ t < a.tmps.size := fun h => e ⟨rfl, h⟩
         rw [Array.getElem?_eq_none (xs := b.tmps) (by rw [hv.tsz]; omega), Array.getElem?_eq_none (xs := a.tmps) (by omega)]
        ·exact hold fun d' hd' => by rw [hd] at hd'; cases hd'; exact htd
    unfold wpOp
    rcases hwS with ⟨hw, hSt⟩ | ⟨hw, d, hd, hdN, hK⟩
    ·have hwa : Region.wanted o (yielded ops a.tmps) = true := by rw [wanted_agr hag]; exact wantL_ok hw hr
     simp only [ho, hwa, if_true]
     exact .inl (wp_agr (exec_agr (quiet_sel hq ho) hag) rfl (hSt cx b w (fun _ _ _ => False) hs) fun v w' hs' => key v w' hs')
    ·have hwa : Region.wanted o (yielded ops a.tmps) = false := by rw [wanted_agr hag]; exact wantL_ok hw hr
     simp only [ho, hwa, Bool.false_eq_true, if_false]
     refine key undef w ⟨_, hK, ?_⟩
     rw [hd]
     exact hs.put hr hG hdN rfl
end
open Go Go.RowKit

section
variable {P : Program} {N : Nat} {Q : Exit → List E → Prop} {L : List E} {ops : Array Oper} {cx : Cx} {a b : Act} {w : World} {o : Oper} {S R : Array Bool} {pend todo qs : List Nat}

def Qd (P : Program) (ops : Array Oper) (o : Oper) (L : List E) (x : X) : Prop := (wantL ops L o = some true ∧ Qt P o L x) ∨ (wantL ops L o = some false ∧ x = .v undef)
theorem Qd.on {x : X} {gb : Bool} (hw : wantL ops L o = some gb) (hgb : gb = true) (h : Qt P o L x) : Qd P ops o L x := .inl ⟨by rw [hw, hgb], h⟩
theorem Qd.off {gb : Bool} (hw : wantL ops L o = some gb) (hgb : gb = false) : Qd P ops o L (.v undef) := .inr ⟨by rw [hw, hgb], rfl⟩
theorem Qd.run {x : X} (h : Qd P ops o L x) {H : Nat → Value} {G : Nat → FP} (hr : Rp L (Act.val b) H G w) : ∃ v, Dv P ops o b w v ∧ VR (rts L) H w x v := by
 rcases h with ⟨h1, h2⟩ | ⟨h1, rfl⟩
 ·obtain ⟨v, e1, e2⟩ := h2 H w b (ev_ok hr) ⟨_, G, hr⟩
  exact ⟨v, .inl ⟨wantL_ok h1 hr, e1⟩, e2⟩
 ·exact ⟨undef, .inr ⟨wantL_ok h1 hr, rfl⟩, rfl⟩

theorem AWA.take (i : Nat) {x : X} {d : Nat} {o : Oper} (ho : ops[i]? = some o) (hd : o.dst = some d) (hq' : qs.contains i = true) (hr : (Region.ready .any ops S).contains i = true)
  (h : Qd P ops o L x) (k : AWA P N ops qs Q (S.setIfInBounds i true) (i :: pend) [] (putL L d x)) : AWA P N ops qs Q S pend [] L := by
 intro hq cx a b w R fuel hu hv hs
 have hiq : i ∈ qs := by simpa using hq'
 obtain ⟨o', d', ho', hd', hN, hself, h5⟩ := quiet_at hq hiq
 rw [ho] at ho'; cases ho'
 rw [hd] at hd'; cases hd'
 obtain ⟨h1, h2, h3⟩ := (ready_iff hv.ssz).1 (by simpa using hr)
 obtain ⟨H, G, hrp, hG⟩ := hs.rp
 obtain ⟨v, hD, hx⟩ := h.run hrp
 have hSi : i < S.size := by rw [hv.ssz]; exact h1
 have hRi : R.getD i false = false := by
  cases hR : R.getD i false with
  | false => rfl
  | true => rw [hv.sub i hR] at h2; cases h2
 have hbs : d < b.tmps.size := Nat.lt_of_lt_of_le hN hs.siz
 have hne : ∀ m ∈ pend, m ≠ i := fun m hm e => by have h6 := (hv.inq m hm).2; rw [e, h2] at h6; cases h6
 refine k hq cx a (b.put (some d) v) w R fuel hu ?_ (hs.put hrp hG hN hx)
 refine ⟨hv.rsz, by simp [hv.ssz], fun k hk => ?_, fun k hk hR => ?_, fun k hk => ?_, fun k hk j hw => ?_, by simpa [Go.Act.put] using hv.tsz, by simpa [Go.Act.put] using hv.dfr, fun t ht => ?_, fun k hk hkt hR ok dk hok hdk => ?_, hv.clo⟩
 ·rw [set_get hSi]; split
  ·rfl
  ·exact hv.sub k hk
 ·rw [set_get hSi] at hk
  split at hk
  ·rename_i e; subst e; exact List.mem_cons_self ..
  ·exact List.mem_cons_of_mem _ (hv.pen k hk hR)
 ·rw [set_get hSi]
  rcases List.mem_cons.1 hk with rfl | hk
  ·exact ⟨hiq, if_pos rfl⟩
  ·refine ⟨(hv.inq k hk).1, ?_⟩
   split
   ·rfl
   ·exact (hv.inq k hk).2
 ·rw [set_get hSi]; split
  ·rfl
  ·rcases List.mem_cons.1 hk with rfl | hk
   ·exact h3 j hw
   ·exact hv.aft k hk j hw
 ·rw [put_get, if_neg]
  ·exact hv.agr t fun k hk => ht k (List.mem_cons_of_mem _ hk)
  ·rintro ⟨rfl, _⟩
   exact ht i (List.mem_cons_self ..) hRi (by rw [dstO, ho]; exact hd)
 ·rcases List.mem_cons.1 hk with rfl | hk
  ·rw [ho] at hok; cases hok
   rw [hd] at hdk; cases hdk
   refine ⟨v, hD.agr (quiet_sel hq ho) fun t ht => ?_, by rw [put_get, if_pos ⟨rfl, hbs⟩]⟩
   rw [put_get, if_neg]
   rintro ⟨rfl, _⟩; exact hself ht
  ·obtain ⟨v', hD', hv'⟩ := hv.con k hk (by simp) hR ok dk hok hdk
   have hw : waits ops k i = false := by
    cases hw : waits ops k i with
    | false => rfl
    | true => rw [hv.aft k hk i hw] at h2; cases h2
   obtain ⟨g1, g2, _⟩ := h5 k ok hok (hne k hk) hw
   refine ⟨v', hD'.agr (quiet_sel hq hok) fun t ht => ?_, ?_⟩
   ·rw [put_get, if_neg]
    rintro ⟨rfl, _⟩; exact g1 ht
   ·rw [put_get, if_neg]
    ·exact hv'
    ·rintro ⟨rfl, _⟩; exact g2 hdk

theorem AWA.again {i : Nat} {d : Nat} {o : Oper} (ho : ops[i]? = some o) (hd : o.dst = some d) (hp : pend.all (fun k => todo.contains k || k == i || !waits ops k i) = true)
  (h : Qd P ops o L (slotL L d)) (k : AWA P N ops qs Q S pend todo (putL L d (slotL L d))) : AWA P N ops qs Q S pend (i :: todo) L := by
 intro hq cx a b w R fuel hu hv hs
 obtain ⟨H, G, hrp, hG⟩ := hs.rp
 by_cases hc : i ∈ pend ∧ R.getD i false = false
 ·obtain ⟨hip, hRi⟩ := hc
  obtain ⟨o', d', ho', hd', hN, hself, h5⟩ := quiet_at hq (hv.inq i hip).1
  rw [ho] at ho'; cases ho'
  rw [hd] at hd'; cases hd'
  obtain ⟨v, hD, hx⟩ := h.run hrp
  have hbs : d < b.tmps.size := Nat.lt_of_lt_of_le hN hs.siz
  refine k hq cx a (b.put (some d) v) w R fuel hu ?_ (hs.put hrp hG hN hx)
  refine ⟨hv.rsz, hv.ssz, hv.sub, hv.pen, hv.inq, hv.aft, by simpa [Go.Act.put] using hv.tsz, by simpa [Go.Act.put] using hv.dfr, fun t ht => ?_, fun k hk hkt hR ok dk hok hdk => ?_, hv.clo⟩
  ·rw [put_get, if_neg]
   ·exact hv.agr t ht
   ·rintro ⟨rfl, _⟩
    exact ht i hip hRi (by rw [dstO, ho]; exact hd)
  ·by_cases hki : k = i
   ·subst hki
    rw [ho] at hok; cases hok
    rw [hd] at hdk; cases hdk
    refine ⟨v, hD.agr (quiet_sel hq ho) fun t ht => ?_, by rw [put_get, if_pos ⟨rfl, hbs⟩]⟩
    rw [put_get, if_neg]
    rintro ⟨rfl, _⟩; exact hself ht
   ·obtain ⟨v', hD', hv'⟩ := hv.con k hk (fun hh => (List.mem_cons.1 hh).elim hki hkt) hR ok dk hok hdk
    have hw : waits ops k i = false := by
     have := List.all_eq_true.1 hp k hk
     simp only [Bool.or_eq_true, List.contains_iff_mem, hkt, beq_iff_eq, hki, false_or, Bool.not_eq_true'] at this
     exact this
    obtain ⟨g1, g2, _⟩ := h5 k ok hok hki hw
    refine ⟨v', hD'.agr (quiet_sel hq hok) fun t ht => ?_, ?_⟩
    ·rw [put_get, if_neg]
     rintro ⟨rfl, _⟩; exact g1 ht
    ·rw [put_get, if_neg]
     ·exact hv'
     ·rintro ⟨rfl, _⟩; exact g2 hdk
 ·have hsl : VR (rts L) H w (slotL L d) (Act.val b d) := ev_ok hrp (.tmp d)
  refine k hq cx a b w R fuel hu ⟨hv.rsz, hv.ssz, hv.sub, hv.pen, hv.inq, hv.aft, hv.tsz, hv.dfr, hv.agr, fun k hk hkt hR ok dk hok hdk => hv.con k hk (fun hh => (List.mem_cons.1 hh).elim (fun e => hc ⟨e ▸ hk, e ▸ hR⟩) hkt) hR ok dk hok hdk, hv.clo⟩ ?_
  refine ⟨hs.siz, hs.dfr, hs.chg, H, G, (hrp.put hsl).val fun t => ?_, by rw [rts_put]; exact hG⟩
  split
  ·rename_i e; rw [e]
  ·rfl

theorem AWA.oneK (j : Nat) {K : List E → Prop} {o : Oper} (pend' D : List Nat) (hr : Region.ready .any ops S = [j]) (ho : ops[j]? = some o) {gb : Bool} (hw : wantL ops L o = some gb) (hgb : gb = true)
  (hD : chainB ops [j] D = true) (hp : (pend.all fun i => pend'.contains i || D.contains i) = true) (hp' : (pend'.all fun i => pend.contains i) = true) (h : StpK P N o L K)
  (k : ∀ L1, K L1 → AWA P N ops qs Q (S.setIfInBounds j true) pend' pend' L1) : AWA P N ops qs Q S pend [] L :=
 AWA.run (fun i hi => by
  rw [hr, List.mem_singleton] at hi
  subst hi
  refine ⟨o, K, pend', ho, .inl ⟨by rw [hw, hgb], h⟩, ⟨D, hD, fun i hi => ?_⟩, fun i hi => by simpa using List.all_eq_true.1 hp' i hi, k⟩
  have := List.all_eq_true.1 hp i hi
  simpa using this) fun h0 => by rw [hr] at h0; cases h0
theorem AWA.one (j : Nat) {L1 : List E} {o : Oper} (pend' D : List Nat) (hr : Region.ready .any ops S = [j]) (ho : ops[j]? = some o) {gb : Bool} (hw : wantL ops L o = some gb) (hgb : gb = true)
  (hD : chainB ops [j] D = true) (hp : (pend.all fun i => pend'.contains i || D.contains i) = true) (hp' : (pend'.all fun i => pend.contains i) = true) (h : Stp P N o L L1)
  (k : AWA P N ops qs Q (S.setIfInBounds j true) pend' pend' L1) : AWA P N ops qs Q S pend [] L :=
 AWA.oneK j pend' D hr ho hw hgb hD hp hp' h.k fun _ e => e ▸ k
theorem AWA.arm (j : Nat) {L1 : List E} {o : Oper} (pend' D : List Nat) (ho : ops[j]? = some o) {gb : Bool} (hw : wantL ops L o = some gb) (hgb : gb = true)
  (hD : chainB ops [j] D = true) (hp : (pend.all fun i => pend'.contains i || D.contains i) = true) (hp' : (pend'.all fun i => pend.contains i) = true) (h : Stp P N o L L1)
  (k : AWA P N ops qs Q (S.setIfInBounds j true) pend' pend' L1) : Arm P N ops qs Q S pend L j :=
 ⟨o, _, pend', ho, .inl ⟨by rw [hw, hgb], h.k⟩, ⟨D, hD, fun i hi => by simpa using List.all_eq_true.1 hp i hi⟩, fun i hi => by simpa using List.all_eq_true.1 hp' i hi, fun _ e => e ▸ k⟩
theorem AWA.armOff (j : Nat) {d : Nat} {o : Oper} (pend' D : List Nat) (ho : ops[j]? = some o) {gb : Bool} (hw : wantL ops L o = some gb) (hgb : gb = false)
  (hD : chainB ops [j] D = true) (hp : (pend.all fun i => pend'.contains i || D.contains i) = true) (hp' : (pend'.all fun i => pend.contains i) = true) (hd : o.dst = some d) (hN : d < N)
  (k : AWA P N ops qs Q (S.setIfInBounds j true) pend' pend' (putL L d (.v undef))) : Arm P N ops qs Q S pend L j :=
 ⟨o, fun L' => L' = putL L d (.v undef), pend', ho, .inr ⟨by rw [hw, hgb], d, hd, hN, rfl⟩, ⟨D, hD, fun i hi => by simpa using List.all_eq_true.1 hp i hi⟩, fun i hi => by simpa using List.all_eq_true.1 hp' i hi, fun _ e => e ▸ k⟩
theorem AWA.oneOff (j : Nat) {d : Nat} {o : Oper} (pend' D : List Nat) (hr : Region.ready .any ops S = [j]) (ho : ops[j]? = some o) {gb : Bool} (hw : wantL ops L o = some gb) (hgb : gb = false)
  (hD : chainB ops [j] D = true) (hp : (pend.all fun i => pend'.contains i || D.contains i) = true) (hp' : (pend'.all fun i => pend.contains i) = true) (hd : o.dst = some d) (hN : d < N)
  (k : AWA P N ops qs Q (S.setIfInBounds j true) pend' pend' (putL L d (.v undef))) : AWA P N ops qs Q S pend [] L :=
 AWA.run (fun i hi => by
  rw [hr, List.mem_singleton] at hi
  subst hi
  exact AWA.armOff i pend' D ho hw hgb hD hp hp' hd hN k) fun h0 => by rw [hr] at h0; cases h0
theorem AWA.any (js : List Nat) (hr : Region.ready .any ops S = js) (hne : js.isEmpty = false) (h : ∀ j ∈ js, Arm P N ops qs Q S pend L j) : AWA P N ops qs Q S pend [] L :=
 AWA.run (fun i hi => h i (hr ▸ hi)) fun h0 => by rw [hr] at h0; subst h0; cases hne
theorem AWA.split (t : Nat) {b : Bool} (_ : slotL L t = .v (.bool b)) (ht : b = true → AWA P N ops qs Q S pend todo L) (hf : b = false → AWA P N ops qs Q S pend todo L) : AWA P N ops qs Q S pend todo L := by
 cases b
 ·exact hf rfl
 ·exact ht rfl
theorem AWA.nil (hr : Region.ready .any ops S = []) (h : Q .normal L) : AWA P N ops qs Q S pend [] L :=
 AWA.run (fun i hi => by rw [hr] at hi; cases hi) fun _ => h
theorem AWA.weak {L' : List E} (hw : Weak N L L') (h : AWA P N ops qs Q S pend todo L') : AWA P N ops qs Q S pend todo L :=
 fun hq cx a b w R fuel hu hv hs => h hq cx a b w R fuel hu hv (hw cx b w hs)
theorem Sat.drawn (hs : Sat N cx L a w) (n : Nat) : Sat N cx L a { w with drawn := n } := by
 have hC : Chg (fun _ _ => False) w { w with drawn := n } := ⟨rfl, rfl, rfl, Nat.le_refl _, fun _ cur _ _ h => ⟨cur, h, rfl, fun _ _ => rfl⟩, fun _ _ h _ => h⟩
 obtain ⟨H, G, hr, hG⟩ := hs.rp
 exact ⟨hs.siz, hs.dfr, hs.chg.trans (hC.mono fun _ _ _ h => h.elim), H, G, hr.chg hC fun _ _ _ _ _ _ _ h => h, hG⟩
theorem AW.draw (qs : List Nat) {id : Nat} (hm : P.follows .mixedOrders = true) (hq : quietB ops N qs = true) (h : AWA P N ops qs Q (Array.replicate ops.size false) [] [] L) : AW P N (.region id ops true) Q L := fun cx a w hs => by
 refine wp_region_any hm (h hq cx a a _ _ _ ?_ ?_ (hs.drawn _))
 ·exact Nat.le_trans List.countP_le_length (by simp)
 ·refine ⟨by simp, by simp, fun i h => ?_, fun i h => ?_, by simp, by simp, rfl, rfl, fun _ _ => rfl, by simp, fun i j h => ?_⟩
  ·simp [Array.getD_eq_getD_getElem?, Array.getElem?_replicate] at h
   split at h <;> simp_all
  ·simp [Array.getD_eq_getD_getElem?, Array.getElem?_replicate] at h
   split at h <;> simp_all
  ·simp [Array.getD_eq_getD_getElem?, Array.getElem?_replicate] at h
   split at h <;> simp_all
end
open Go Go.RowKit

def X.isJ : X → Bool
 | .j => true
 | _ => false
def hasE (L : List E) : List E → Prop
 | [] => True
 | .sl t x :: r => slotL L t = x ∧ hasE L r
 | .rt id m t :: r => rootL L id = some (m, t) ∧ hasE L r
 | .al id c x :: r => (aliasL L id c = x ∧ x.isJ = false) ∧ hasE L r
def idsL : List E → List Nat
 | [] => []
 | .rt id _ _ :: r => id :: idsL r
 | _ :: r => idsL r
mutual
def X.inB (ids : List Nat) : X → Bool
 | .p id .. => ids.contains id
 | .h id _ => ids.contains id
 | .a id .. => ids.contains id
 | .g xs => X.insB ids xs
 | .t xs => X.insB ids xs
 | .f _ xs => X.insB ids xs
 | _ => true
def X.insB (ids : List Nat) : List X → Bool
 | [] => true
 | x :: xs => X.inB ids x && X.insB ids xs
end
def closedB (ids : List Nat) : List E → Bool
 | [] => true
 | .sl _ x :: r => x.inB ids && closedB ids r
 | .rt .. :: r => closedB ids r
 | .al id _ x :: r => x.inB ids && ids.contains id && closedB ids r

section
variable {P : Program} {N : Nat} {L L' : List E}
theorem idsL_mem {id : Nat} : ∀ {L : List E}, id ∈ idsL L ↔ ∃ m t, rts L id m t
 | [] => by simp [idsL, rts]
 | .rt i m t :: r => by
  simp only [idsL, List.mem_cons, idsL_mem (L := r), rts]
  constructor
  ·rintro (h | ⟨m', t', h⟩)
   ·subst h; exact ⟨m, t, .inl rfl⟩
   ·exact ⟨m', t', .inr h⟩
  ·rintro ⟨m', t', h | h⟩
   ·cases h; exact .inl rfl
   ·exact .inr ⟨m', t', h⟩
 | .sl .. :: r => by simp [idsL, idsL_mem (L := r), rts]
 | .al .. :: r => by simp [idsL, idsL_mem (L := r), rts]
mutual
theorem X.inB_all {ids : List Nat} : ∀ {x : X}, x.inB ids = true → X.all (fun x => x.inB ids = true) x
 | .g _, e => X.insB_all e
 | .t _, e => X.insB_all e
 | .f _ _, e => X.insB_all e
 | .v _, e => e
 | .j, e => e
 | .c, e => e
 | .p .., e => e
 | .h .., e => e
 | .a .., e => e
theorem X.insB_all {ids : List Nat} : ∀ {xs : List X}, X.insB ids xs = true → X.alls (fun x => x.inB ids = true) xs
 | [], _ => trivial
 | x :: xs, e => by
  simp only [X.insB, Bool.and_eq_true] at e
  exact ⟨X.inB_all e.1, X.insB_all e.2⟩
end
theorem closedB_mem {ids : List Nat} : ∀ {L : List E}, closedB ids L = true → (∀ t x, E.sl t x ∈ L → x.inB ids = true) ∧ ∀ id c x, E.al id c x ∈ L → x.inB ids = true ∧ id ∈ ids
 | [], _ => ⟨by simp, by simp⟩
 | .sl t x :: r, h => by
  simp only [closedB, Bool.and_eq_true] at h
  obtain ⟨a1, a2⟩ := closedB_mem h.2
  refine ⟨fun t' x' hh => ?_, fun id c x hh => ?_⟩
  ·rcases List.mem_cons.1 hh with e | hh
   ·cases e; exact h.1
   ·exact a1 _ _ hh
  ·rcases List.mem_cons.1 hh with e | hh
   ·cases e
   ·exact a2 _ _ _ hh
 | .rt .. :: r, h => by
  simp only [closedB] at h
  obtain ⟨a1, a2⟩ := closedB_mem h
  refine ⟨fun t' x' hh => ?_, fun id c x hh => ?_⟩
  ·rcases List.mem_cons.1 hh with e | hh
   ·cases e
   ·exact a1 _ _ hh
  ·rcases List.mem_cons.1 hh with e | hh
   ·cases e
   ·exact a2 _ _ _ hh
 | .al i c x :: r, h => by
  simp only [closedB, Bool.and_eq_true] at h
  obtain ⟨a1, a2⟩ := closedB_mem h.2
  refine ⟨fun t' x' hh => ?_, fun id c x hh => ?_⟩
  ·rcases List.mem_cons.1 hh with e | hh
   ·cases e
   ·exact a1 _ _ hh
  ·rcases List.mem_cons.1 hh with e | hh
   ·cases e; exact ⟨h.1.1, by simpa using h.1.2⟩
   ·exact a2 _ _ _ hh
end
open Go Go.RowKit
section
variable {P : Program} {N : Nat} {L : List E} {Q : Exit → List E → Prop}
theorem endQ_ret {fn : Func} {post : X → List E → Prop} {xs : List X} (hx : RVs P L fn.results.toList xs) (hp : post (retX xs) L) : endQ P fn post .ret L :=
 ⟨.inl rfl, xs, hx, hp⟩
end
open Go Go.RowKit
section
variable {P : Program} {N : Nat} {L : List E} {Q : Exit → List E → Prop} {ops : Array Oper} {S : Array Bool} {pend qs : List Nat}
theorem AWL.nilE {L' : List E} (h : L = L') (k : Q .normal L') : AWL P N ops [] Q L := AWL.nil (h ▸ k)
theorem AWA.nilE {L' : List E} (hr : Region.ready .any ops S = []) (h : L = L') (k : Q .normal L') : AWA P N ops qs Q S pend [] L := AWA.nil hr (h ▸ k)
end
open Go Go.RowKit

def X.ptrB : X → Bool
 | .p .. => true
 | .h .. => true
 | .a .. => true
 | _ => false
def alsOf (ids : List Nat) (d : Nat) : List (T × Option Nat) → List X → Nat → List E
  | s :: ss, x :: xs, c => match s with
    | (.j, none) => if x.ptrB && x.inB ids then .al d c x :: alsOf ids d ss xs (c + 1) else alsOf ids d ss xs (c + 1)
    | _ => alsOf ids d ss xs (c + 1)
  | _, _, _ => []
theorem alsOf_mem {ids : List Nat} {d : Nat} : ∀ {ss : List (T × Option Nat)} {xs : List X} {c : Nat} {e : E}, e ∈ alsOf ids d ss xs c → ∃ k x, e = .al d (c + k) x ∧ xs[k]? = some x ∧ k < ss.length ∧ x.inB ids = true
 | [], _, _, e, h => by simp [alsOf] at h
 | _ :: _, [], _, e, h => by simp [alsOf] at h
 | s :: ss, x :: xs, c, e, h => by
  have hrec : e ∈ alsOf ids d ss xs (c + 1) → ∃ k y, e = .al d (c + k) y ∧ (x :: xs)[k]? = some y ∧ k < (s :: ss).length ∧ y.inB ids = true := fun h => by
   obtain ⟨k, y, h1, h2, h3, h4⟩ := alsOf_mem h
   exact ⟨k + 1, y, by rw [h1]; congr 1; omega, h2, by simp; omega, h4⟩
  simp only [alsOf] at h
  split at h
  ·split at h
   ·rename_i hc
    rcases List.mem_cons.1 h with h | h
    ·refine ⟨0, x, by rw [h]; rfl, rfl, by simp, ?_⟩
     simp only [Bool.and_eq_true] at hc; exact hc.2
    ·exact hrec h
   ·exact hrec h
  ·exact hrec h

section
variable {L L' A : List E} {val : Nat → Value} {H : Nat → Value} {G : Nat → FP} {w w' : World} {S : FP} {P : Program} {N : Nat} {cx : Cx} {a : Act}
theorem Rp.als (hr : Rp L val H G w) (h : ∀ e ∈ A, ∃ id c x, e = .al id c x ∧ ∃ n f, rts L id .box (.s n 1 f) ∧ c < n ∧ ∃ A v, adr (H id) 0 0 c = some A ∧ w.cell? A = some v ∧ VR (rts L) H w x v) : Rp (A ++ L) val H G w := by
 have hrt : rts (A ++ L) = rts L := by
  funext id m t
  simp only [rts, List.mem_append, eq_iff_iff]
  constructor
  ·rintro (hh | hh)
   ·obtain ⟨_, _, _, he, _⟩ := h _ hh; cases he
   ·exact hh
  ·exact .inr
 refine ⟨?_, ?_, ?_, ?_, ?_, ?_, ?_, ?_⟩
 ·rw [hrt]; exact hr.one
 ·rw [hrt]; exact hr.own
 ·rw [hrt]; exact hr.ro
 ·rw [hrt]; exact hr.rold
 ·rw [hrt]; exact hr.box
 ·rw [hrt]; exact hr.dis
 ·rw [hrt]
  intro t x hm
  rcases List.mem_append.1 hm with hm | hm
  ·obtain ⟨_, _, _, he, _⟩ := h _ hm; cases he
  ·exact hr.sl t x hm
 ·rw [hrt]
  intro id c x hm
  rcases List.mem_append.1 hm with hm | hm
  ·obtain ⟨_, _, _, he, k⟩ := h _ hm; cases he; exact k
  ·exact hr.al id c x hm
theorem rts_als (h : ∀ e ∈ A, ∃ id c x, e = E.al id c x) : rts (A ++ L) = rts L := by
 funext id m t
 simp only [rts, List.mem_append, eq_iff_iff]
 constructor
 ·rintro (hh | hh)
  ·obtain ⟨_, _, _, he⟩ := h _ hh; cases he
  ·exact hh
 ·exact .inr
end

section
variable {P : Program} {N : Nat} {L : List E} {dst : Option Tmp} {ty : TypeId} {pos : String} {af : Array Edge} {g : Option (Nat × Bool)} {d : Nat}
end
open Go Go.RowKit

mutual
def X.ren (ρ : Nat → Nat) : X → X
 | .p id q n k cc => .p (ρ id) q n k cc
 | .h id q => .h (ρ id) q
 | .a id q n lo len => .a (ρ id) q n lo len
 | .g xs => .g (X.rens ρ xs)
 | .t xs => .t (X.rens ρ xs)
 | .f fn xs => .f fn (X.rens ρ xs)
 | x => x
def X.rens (ρ : Nat → Nat) : List X → List X
 | [] => []
 | x :: xs => X.ren ρ x :: X.rens ρ xs
end
def Ret (X0 : X) (L0 : List (Nat × M × T)) (x : X) (L : List E) : Prop :=
 ∃ ρ : Nat → Nat, x = X0.ren ρ ∧ (L0.map fun r => ρ r.1).Nodup ∧ (∀ r ∈ L0, r.2.1 ≠ .ro ∧ rts L (ρ r.1) r.2.1 r.2.2)
def newsL (L : List E) : List (Nat × M × T) → List E
  | [] => L
  | (i, m, t) :: rs => .rt i m t :: delR (newsL L rs) i

section
variable {L : List E} {val : Nat → Value} {H : Nat → Value} {G : Nat → FP} {w w' : World} {P : Program} {N : Nat} {cx : Cx} {a : Act}
mutual
theorem VR.ren {R R' : RT} {H H' : Nat → Value} {w : World} {ρ ν : Nat → Nat} {ids : List Nat} (hR : ∀ id ∈ ids, ∀ m t, R (ρ id) m t → R' (ν id) m t ∧ H' (ν id) = H (ρ id)) : ∀ {x : X} {v : Value}, x.inB ids = true → VR R H w (x.ren ρ) v → VR R' H' w (x.ren ν) v
 | .g xs, v, hx, ⟨vs, h1, h2⟩ => ⟨vs, h1, VRs.ren hR hx h2⟩
 | .t xs, v, hx, ⟨vs, h1, h2⟩ => ⟨vs, h1, VRs.ren hR hx h2⟩
 | .f fn xs, v, hx, ⟨vs, h1, h2⟩ => ⟨vs, h1, VRs.ren hR hx h2⟩
 | .v x, v, _, h => h
 | .j, v, _, _ => trivial
 | .c, v, _, h => h
 | .p id q n k c, v, hx, ⟨m, t, h1, h2⟩ => by
  obtain ⟨g1, g2⟩ := hR id (by simpa [X.inB] using hx) _ _ h1
  exact ⟨m, t, g1, by rw [g2]; exact h2⟩
 | .h id q, v, hx, ⟨m, t, h1, h2⟩ => by
  obtain ⟨g1, g2⟩ := hR id (by simpa [X.inB] using hx) _ _ h1
  exact ⟨m, t, g1, by rw [g2]; exact h2⟩
 | .a id q n lo len, v, hx, ⟨m, t, h1, h2⟩ => by
  obtain ⟨g1, g2⟩ := hR id (by simpa [X.inB] using hx) _ _ h1
  exact ⟨m, t, g1, by rw [g2]; exact h2⟩
theorem VRs.ren {R R' : RT} {H H' : Nat → Value} {w : World} {ρ ν : Nat → Nat} {ids : List Nat} (hR : ∀ id ∈ ids, ∀ m t, R (ρ id) m t → R' (ν id) m t ∧ H' (ν id) = H (ρ id)) : ∀ {xs : List X} {vs : List Value}, X.insB ids xs = true → VRs R H w (X.rens ρ xs) vs → VRs R' H' w (X.rens ν xs) vs
 | [], [], _, _ => trivial
 | x :: xs, v :: vs, hx, ⟨g1, g2⟩ => by
  simp only [X.insB, Bool.and_eq_true] at hx
  exact ⟨VR.ren hR hx.1 g1, VRs.ren hR hx.2 g2⟩
 | [], _ :: _, _, h => h.elim
 | _ :: _, [], _, h => h.elim
end
theorem rts_newsL {m : M} {t : T} {id : Nat} : ∀ {rs : List (Nat × M × T)}, (rs.map (·.1)).Nodup → (rts (newsL L rs) id m t ↔ (id, m, t) ∈ rs ∨ (rts L id m t ∧ id ∉ rs.map (·.1)))
  | [], _ => by simp [newsL]
  | (i, m', t') :: rs, hn => by
    simp only [List.map_cons, List.nodup_cons] at hn
    have ih := rts_newsL (m := m) (t := t) (id := id) hn.2
    have hd := rts_delR (L := newsL L rs) (d := i) (id := id) (m := m) (t := t)
    have hc : rts (newsL L ((i, m', t') :: rs)) id m t ↔ (id, m, t) = (i, m', t') ∨ rts (delR (newsL L rs) i) id m t := by
      simp only [newsL, rts, List.mem_cons]
      constructor
      · rintro (h | h)
        · cases h; exact .inl rfl
        · exact .inr h
      · rintro (h | h)
        · cases h; exact .inl rfl
        · exact .inr h
    rw [hc, hd, ih, List.mem_cons, List.map_cons, List.mem_cons]
    constructor
    · rintro (h | ⟨h1 | ⟨h1, h2⟩, h3⟩)
      · exact .inl (.inl h)
      · exact .inl (.inr h1)
      · exact .inr ⟨h1, fun h => h.elim h3 h2⟩
    · rintro ((h | h) | ⟨h1, h2⟩)
      · exact .inl h
      · refine .inr ⟨.inl h, fun e => hn.1 ?_⟩
        subst e
        exact List.mem_map.2 ⟨_, h, rfl⟩
      · exact .inr ⟨.inr ⟨h1, fun h => h2 (.inr h)⟩, fun e => h2 (.inl e)⟩
theorem Rp.news (hr : Rp L val H G w) (F : Nat → FP) (h : Nat → Value) : ∀ (rs : List (Nat × M × T)), (rs.map (·.1)).Nodup → (∀ r ∈ rs, ∀ b o, F r.1 b o → ∀ id m t, rts L id m t → G id b o → False) → (∀ r ∈ rs, r.2.1 ≠ .ro ∧ Own w r.2.2 (F r.1) (h r.1) ∧ (r.2.1 = .box → ∃ n f, r.2.2 = .s n 1 f)) →
    (∀ r ∈ rs, ∀ r' ∈ rs, r.1 ≠ r'.1 → ∀ b o, F r.1 b o → F r'.1 b o → False) → Rp (newsL L rs) val (fun i => if i ∈ rs.map (·.1) then h i else H i) (fun i => if i ∈ rs.map (·.1) then F i else G i) w
  | [], _, _, _, _ => by simpa [newsL] using hr
  | (i, m, t) :: rs, hn, hF0, hO, hD => by
    have hn' := hn
    simp only [List.map_cons, List.nodup_cons] at hn
    have ih := Rp.news hr F h rs hn.2 (fun r h => hF0 r (List.mem_cons_of_mem _ h)) (fun r h => hO r (List.mem_cons_of_mem _ h)) (fun r h r' h' => hD r (List.mem_cons_of_mem _ h) r' (List.mem_cons_of_mem _ h'))
    obtain ⟨h1, h2, h3⟩ := hO _ (List.mem_cons_self ..)
    have := ih.new i h1 h2 h3 (fun id m' t' hne hid b o hG hF => by
      rcases (rts_newsL hn.2).1 hid with hh | ⟨hh, hni⟩
      · have hmem : id ∈ rs.map (·.1) := List.mem_map.2 ⟨_, hh, rfl⟩
        simp only [hmem, if_true] at hG
        exact hD _ (List.mem_cons_of_mem _ hh) _ (List.mem_cons_self ..) hne b o hG hF
      · simp only [hni, if_false] at hG
        exact hF0 _ (List.mem_cons_self ..) b o hF _ _ _ hh hG)
    have e1 : updN (fun j => if j ∈ rs.map (·.1) then h j else H j) i (h i) = fun j => if j ∈ ((i, m, t) :: rs).map (·.1) then h j else H j := by
      funext j
      by_cases e : j = i
      · subst e; simp [updN]
      · simp only [updN, List.map_cons, List.mem_cons, e, false_or, if_false]
    have e2 : updN (fun j => if j ∈ rs.map (·.1) then F j else G j) i (F i) = fun j => if j ∈ ((i, m, t) :: rs).map (·.1) then F j else G j := by
      funext j
      by_cases e : j = i
      · subst e; simp [updN]
      · simp only [updN, List.map_cons, List.mem_cons, e, false_or, if_false]
    rw [e1, e2] at this
    exact this
end
theorem map_inj {α β : Type} {f : α → β} : ∀ {l : List α}, (l.map f).Nodup → ∀ {x y : α}, x ∈ l → y ∈ l → f x = f y → x = y
 | [], _, _, _, hx, _, _ => by cases hx
 | z :: l, hn, x, y, hx, hy, e => by
  simp only [List.map_cons, List.nodup_cons] at hn
  rcases List.mem_cons.1 hx with h1 | h1 <;> rcases List.mem_cons.1 hy with h2 | h2
  ·rw [h1, h2]
  ·exact absurd (List.mem_map.2 ⟨_, h2, by rw [← e, h1]⟩) hn.1
  ·exact absurd (List.mem_map.2 ⟨_, h1, by rw [e, h2]⟩) hn.1
  ·exact map_inj hn.2 h1 h2 e
def nu (d i : Nat) : Nat := d + 1000 * i
section
variable {P : Program} {N : Nat} {L : List E} {dst : Option Tmp} {ty : TypeId} {pos : String} {af : Array Edge} {g : Option (Nat × Bool)} {d : Nat}
def rens (d : Nat) (L0 : List (Nat × M × T)) : List (Nat × M × T) := L0.map fun r => (nu d r.1, r.2)
theorem run_callX {f : FuncId} {cal : Operand} {args : Array Operand} {tys : Array TypeId} {a : Act} {w : World} {us : List Value} (hE : Ent P f) (hc : a.eval cal = .func (.func f) #[] us.toArray) : (execOp a.eval ⟨dst, .call { callee := .value cal, args := args, argTypes := tys }, ty, pos, af, g⟩).run P w = .ok (.enter f (args.toList.map a.eval ++ us).toArray) w := by
 have : (args.toList.map a.eval ++ us).toArray = args.map a.eval ++ us.toArray := by rw [← Array.toList_map]; simp
 simp [execOp, resolve, hc, Deferred.ofValue, invoke, hE _ w, this]
theorem VRs.app {R : RT} {H : Nat → Value} {w : World} {xs ys : List X} {vs us : List Value} (h1 : VRs R H w xs vs) (h2 : VRs R H w ys us) : VRs R H w (xs ++ ys) (vs ++ us) := VRs.append h1 h2
theorem Stp.callR {f : FuncId} {cal : Operand} {caps : List X} {args : Array Operand} {tys : Array TypeId} {xs : List X} {ρ : List E} {m : Nat} {X0 : X} {L0 : List (Nat × M × T)} (hd : dst = some d) (hN : d < N) (hE : Ent P f) (hcal : evX L cal = .f f caps) (hq : roXs L (args.toList.map (evX L) ++ caps) base = (xs, ρ, m)) (hc : Con P f xs ρ (Ret X0 L0))
  (hn : (L0.map (·.1)).Nodup) (hb : (L0.all fun r => nu d r.1 < base) = true) (hx0 : X0.inB (L0.map (·.1)) = true) : Stp P N ⟨dst, .call { callee := .value cal, args := args, argTypes := tys }, ty, pos, af, g⟩ L (putL (newsL L (rens d L0)) d (X0.ren (nu d))) := fun cx a w Q hs => by
 obtain ⟨H, G, hr, hG⟩ := hs.rp
 have hcv := ev_ok hr cal
 rw [hcal] at hcv
 obtain ⟨us, hu1, hu2⟩ := hcv
 unfold Oper.wp
 rw [run_callX hE hu1]
 have hro := roXs_ok hr (args.toList.map (evX L) ++ caps) base (VRs.app (evXs_ok hr args.toList) hu2)
 rw [hq] at hro
 obtain ⟨_, h2, H', G', h3, h4, h5⟩ := hro
 have hm : ∀ id m t, rts ρ id m t → m = .ro := fun id m t h => by obtain ⟨_, _, he, _⟩ := h2 _ h; cases he; rfl
 have hrp : Rp ρ (fun _ => undef) H' G' w := by
  refine ⟨fun id m t m' t' k1 k2 => ?_, fun id m t k1 k2 => absurd (hm _ _ _ k1) k2, fun id t k => (h3 id t k).1, fun id t k => (h3 id t k).2, fun id t k => ?_, fun id m t _ _ _ k1 _ _ k2 => absurd (hm _ _ _ k1) k2, fun t x k => ?_, fun id c x k => ?_⟩
  ·obtain rfl := hm _ _ _ k1; obtain rfl := hm _ _ _ k2; exact ⟨rfl, h4 _ _ _ k1 k2⟩
  ·have := hm _ _ _ k; cases this
  ·obtain ⟨_, _, he, _⟩ := h2 _ k; cases he
  ·obtain ⟨_, _, he, _⟩ := h2 _ k; cases he
 simp only [Oper.upon]
 refine (hc w _ H' G' (cx.now hs.chg) (fun id m t h1 h2 => absurd (hm _ _ _ h1) h2) hrp h5).mono ?_
 rintro e w' ⟨v, x, L2, H2, G2, val2, rfl, ⟨ρ', rfl, r1, r2⟩, k1, k2, k3, k4, k5⟩
 refine ⟨⟨_, rfl⟩, ?_⟩
 have hC : Chg (fun _ _ => False) w w' := k3.mono fun b o _ hx => by obtain ⟨id, m, t, q1, q2, _⟩ := hx; exact q2 (hm _ _ _ q1)
 have hr' := hr.chg hC fun _ _ _ _ _ _ _ h => h
 have hinv : ∀ i, (nu d i - d) / 1000 = i := fun i => by simp only [nu]; omega
 have hold : ∀ id m t, rts L id m t → ∀ x y, G id x y → x < w.heap.size := fun id m t h x y hg => by
  by_cases hm : m = .ro
  ·subst hm; exact hr.rold id t h x y hg
  ·exact (hr.own id m t h hm).old x y hg
 have hfresh : ∀ r ∈ L0, ∀ b o, G2 (ρ' r.1) b o → w.heap.size ≤ b := fun r hr b o hg => by
  obtain ⟨g1, g2⟩ := r2 r hr
  rcases k4 _ _ _ g2 g1 b o hg with ⟨id, m, t, q1, q2, _⟩ | h
  ·exact absurd (hm _ _ _ q1) q2
  ·exact h
 have hmem : ∀ r ∈ rens d L0, ∃ r0 ∈ L0, r = (nu d r0.1, r0.2) := fun r hr => by
  obtain ⟨r0, h, e⟩ := List.mem_map.1 hr; exact ⟨r0, h, e.symm⟩
 have hnd : ((rens d L0).map (·.1)).Nodup := by
  have e : (rens d L0).map (·.1) = (L0.map (·.1)).map (nu d) := by simp [rens]
  rw [e]
  exact List.pairwise_map.2 (hn.imp fun {x y} h e => h (by simp only [nu] at e; omega))
 have hnews := hr'.news (fun i => G2 (ρ' ((i - d) / 1000))) (fun i => H2 (ρ' ((i - d) / 1000))) (rens d L0) hnd (fun r hr b o hF id m t hid hG => by
   obtain ⟨r0, h0, rfl⟩ := hmem r hr
   simp only [hinv] at hF
   have := hfresh r0 h0 b o hF
   have := hold id m t hid b o hG
   omega) (fun r hr => by
   obtain ⟨r0, h0, rfl⟩ := hmem r hr
   obtain ⟨g1, g2⟩ := r2 r0 h0
   simp only [hinv]
   exact ⟨g1, k1.own _ _ _ g2 g1, fun e => by rw [e] at g2; exact k1.box _ _ g2⟩) (fun r hr r' hr' hne b o hF hF' => by
   obtain ⟨r0, h0, rfl⟩ := hmem r hr
   obtain ⟨r0', h0', rfl⟩ := hmem r' hr'
   simp only [hinv] at hF hF'
   have hne' : ρ' r0.1 ≠ ρ' r0'.1 := fun e => hne (by rw [map_inj r1 h0 h0' e])
   exact k1.dis _ _ _ _ _ _ (r2 r0 h0).2 (r2 r0' h0').2 hne' (r2 r0 h0).1 b o hF hF')
 have hv : VR (rts (newsL L (rens d L0))) (fun i => if i ∈ (rens d L0).map (·.1) then H2 (ρ' ((i - d) / 1000)) else H i) w' (X0.ren (nu d)) v := by
  refine VR.ren (ids := L0.map (·.1)) (fun id hid m t hh => ?_) hx0 k2
  obtain ⟨r0, h0, rfl⟩ := List.mem_map.1 hid
  obtain ⟨g1, g2⟩ := r2 r0 h0
  obtain ⟨rfl, rfl⟩ := k1.one _ _ _ _ _ hh g2
  have hin : nu d r0.1 ∈ (rens d L0).map (·.1) := List.mem_map.2 ⟨_, List.mem_map.2 ⟨r0, h0, rfl⟩, rfl⟩
  refine ⟨(rts_newsL hnd).2 (.inl (List.mem_map.2 ⟨r0, h0, rfl⟩)), ?_⟩
  simp only [hin, if_true, hinv]
 have hgood : Good cx (newsL L (rens d L0)) (fun i => if i ∈ (rens d L0).map (·.1) then H2 (ρ' ((i - d) / 1000)) else H i) (fun i => if i ∈ (rens d L0).map (·.1) then G2 (ρ' ((i - d) / 1000)) else G i) := by
  refine ⟨fun id m t hid hne x y hF => ?_, fun id m t hbs hid => ?_⟩
  ·rcases (rts_newsL hnd).1 hid with hh | ⟨hh, hni⟩
   ·obtain ⟨⟨i0, m0, t0⟩, h0, e⟩ := hmem _ hh
    cases e
    have hin : nu d i0 ∈ (rens d L0).map (·.1) := List.mem_map.2 ⟨_, hh, rfl⟩
    simp only [hin, if_true, hinv] at hF
    have := hfresh _ h0 x y hF
    have := hs.chg.size
    exact .inr (by omega)
   ·simp only [hni, if_false] at hF
    exact hG.1 id m t hh hne x y hF
  ·rcases (rts_newsL hnd).1 hid with hh | ⟨hh, hni⟩
   ·obtain ⟨⟨i0, m0, t0⟩, h0, e⟩ := hmem _ hh
    cases e
    have := List.all_eq_true.1 hb _ h0
    replace this : nu d i0 < base := by simpa using this
    have h6 : base ≤ nu d i0 := hbs
    omega
   ·simp only [hni, if_false]
    exact hG.2 id m t hbs hh
 refine ⟨by rw [hd]; simpa [Go.Act.put] using hs.siz, by rw [hd]; simpa [Go.Act.put] using hs.dfr, hs.chg.trans (hC.mono fun _ _ _ h => h.elim), _, _, ?_, by rw [rts_put]; exact hgood⟩
 rw [hd]
 exact (hnews.put hv).val fun t => (Act.val_put (Nat.lt_of_lt_of_le hN hs.siz) t).symm
theorem Stp.callV {f : FuncId} {cal : Operand} {caps : List X} {args : Array Operand} {tys : Array TypeId} {xs : List X} {ρ : List E} {m : Nat} {r : Value} (hd : dst = some d) (hN : d < N) (hE : Ent P f) (hcal : evX L cal = .f f caps) (hq : roXs L (args.toList.map (evX L) ++ caps) base = (xs, ρ, m)) (hc : Con P f xs ρ fun x _ => x = .v r) :
  Stp P N ⟨dst, .call { callee := .value cal, args := args, argTypes := tys }, ty, pos, af, g⟩ L (putL L d (.v r)) :=
 Stp.callR (X0 := .v r) (L0 := []) hd hN hE hcal hq (hc.mono fun x L h => ⟨id, by rw [h]; rfl, by simp, by simp⟩) (by simp) rfl rfl
end
open Go Go.RowKit
section
variable {P : Program} {N : Nat} {L : List E} {dst : Option Tmp} {ty : TypeId} {pos : String} {af : Array Edge} {g : Option (Nat × Bool)} {d : Nat}
theorem Stp.makeSlice {t e : TypeId} {zt : List T} [hS : SlI P t e] [hT : TyI P e zt] {x y : Operand} {kl kc : IntKind} {l c : Int} (hd : dst = some d) (hN : d < N) (hb : d < base) (hx : evX L x = .v (.int kl l)) (hy : evX L y = .v (.int kc c)) (h0 : 0 ≤ l) (hlc : l ≤ c) (hc : c ≤ 4194304) :
  Stp P N ⟨dst, .makeSlice t x y, ty, pos, af, g⟩ L (putL (.rt d .row (.s zt.length l.toNat fun _ j => zt.getD j .j) :: delR L d) d (.h d [])) :=
 Stp.op (fun cx a w hs => by
  obtain ⟨H, G, hr, hG⟩ := hs.rp
  obtain ⟨i, z, i1, i2, i3, i4, i5, i6⟩ := hT.info
  have hx' := ev_ok hr x
  have hy' := ev_ok hr y
  rw [hx] at hx'
  rw [hy] at hy'
  simp only [VR] at hx' hy'
  have hrun := run_make (P := P) w t e i z hS.sl i1 i4 kl kc l c h0 hlc (by
   have : (i.bytes : Int) ≤ 1024 := by omega
   have h2 : (i.bytes : Int) * c ≤ 1024 * 4194304 := Int.mul_le_mul this hc (by omega) (by omega)
   omega) (by omega)
  have hpos := hT.pos
  have hmc : madeCells z.cells (c.toNat * i.size) = zrow (c.toNat * zt.length) z.cells := by rw [i2]; rfl
  rw [hmc] at hrun
  refine ⟨.slice (some ⟨w.heap.size, 0, none⟩) l.toNat c.toNat, w.alloc (.cells (zrow (c.toNat * zt.length) z.cells) e), run_v (by simp only [hx', hy']; exact hrun), ?_⟩
  rw [hd]
  have hO := Own.alloc (w := w) (n := zt.length) (len := l.toNat) (cap := c.toNat) (f := fun _ j => zt.getD j .j) hpos (by omega) (by simp only [maxLen]; omega) (cs := zrow (c.toNat * zt.length) z.cells) (e := e) (by simp [zrow]) (fun _ _ => fun _ _ => False) (fun k j hk hj => by
   have hi : k * zt.length + j < c.toNat * zt.length := row_lt (by omega) hk hj
   rw [zrow_get hi (by omega), i5, show (k * zt.length + j) % zt.length = j by rw [Nat.mul_comm, Nat.mul_add_mod, Nat.mod_eq_of_lt hj]]
   have hz : zt[j]? = some (zt.getD j .j) := by simp [hj]
   obtain ⟨cv, h1, h2⟩ := i6 j _ hz
   exact ⟨cv, h1, h2.own⟩) (fun _ _ _ _ _ _ _ _ _ _ _ h => h.elim)
  exact hs.new hr hG (Chg.alloc _ _ _) hN hb (by simp) hO (fun h => by cases h) (fun id m t _ hid b o hg hf => by
   rcases hf with ⟨_, hx⟩ | ⟨_, _, _, _, h⟩
   ·replace hx : b = _ := hx
    have : b < w.heap.size := by
     by_cases hm : m = .ro
     ·subst hm; exact hr.rold id t hid b o hg
     ·exact (hr.own id m t hid hm).old b o hg
    omega
   ·exact h) (fun b o hf => by
   rcases hf with ⟨_, hx⟩ | ⟨_, _, _, _, h⟩
   ·replace hx : b = _ := hx
    have := hs.chg.size; exact .inr (by omega)
   ·exact h.elim) ⟨.row, _, List.mem_cons_self .., by simp [Okp], ⟨_, _, _, by simp only [T.at]; rfl⟩, by simp only [VM.hd, updN, if_true]⟩)
end
open Go Go.RowKit

abbrev iv (n : Int) : Value := .int .i64 n
abbrev bv (b : UInt8) : Value := .int .u8 b.toNat
class En (α : Type) where
 n : Nat
 npos : 0 < n
 cs : α → List T
 len : ∀ a, (cs a).length = n
 fit : α → Prop
 dflt : α
def tr {α : Type} [En α] (l : List α) : T := .s (En.n α) l.length fun k c => (En.cs (l.getD k En.dflt)).getD c .j
instance : En Int := ⟨1, by omega, fun a => [.v (iv a)], fun _ => rfl, fun n => -9223372036854775808 ≤ n ∧ n ≤ 9223372036854775807, 0⟩
instance : En Bool := ⟨1, by omega, fun a => [.v (.bool a)], fun _ => rfl, fun _ => True, false⟩
instance : En UInt8 := ⟨1, by omega, fun a => [.v (bv a)], fun _ => rfl, fun _ => True, 0⟩
instance : En ByteArray := ⟨1, by omega, fun a => [.v (.string a)], fun _ => rfl, fun s => s.size ≤ maxLen, ByteArray.empty⟩
instance instEnList {α : Type} [En α] : En (List α) := ⟨1, by omega, fun a => [tr a], fun _ => rfl, fun l => l.length ≤ maxLen ∧ ∀ x ∈ l, En.fit x, []⟩

def F0 (w : World) : FP := fun b _ => b < w.heap.size
def RdC (w : World) (ts : List T) (vs : List Value) : Prop := ts.length = vs.length ∧ ∀ (i : Nat) t v, ts[i]? = some t → vs[i]? = some v → Rd w t (F0 w) v
section
variable {P : Program}
def Rds (P : Program) (t : TypeId) (α : Type) [En α] : Prop :=
 ∀ {H : Type} {enc : TypeId × Value → H} {w : World} {base : Nat} {spare : Nat → Bool} {held : Bool} {fuel : Nat} {cs : List Value} {x : DataW H × List MemPlace},
  DataW.trod enc P w base spare held fuel t cs = some x → ∃ a : α, RdC w (En.cs a) cs ∧ En.fit a
theorem i64_wf {n : Int} (h : (Lit.int .i64 n).wf = true) : -9223372036854775808 ≤ n ∧ n ≤ 9223372036854775807 := by
 simpa [Lit.wf, IntKind.min, IntKind.max, IntKind.bits, IntKind.signed] using h
theorem RdC.one {w : World} {x : Value} (h : x.oneCell' = true) : RdC w [.v x] [x] := ⟨rfl, fun i t v h1 h2 => by
 match i, h1, h2 with
 | 0, h1, h2 => cases h1; cases h2; exact ⟨rfl, h⟩
 | i + 1, h1, _ => simp at h1⟩
theorem rds_int {t : TypeId} (ht : P.underlying t = some (.int .i64)) : Rds P t Int := fun h => by
 obtain ⟨n, rfl, _, hw⟩ := DataW.trod_int ht h
 exact ⟨n, RdC.one rfl, i64_wf hw⟩
theorem list_of {α : Type} (p : Nat → α → Prop) (d : α) : ∀ (n : Nat), (∀ i, i < n → ∃ a, p i a) → ∃ l : List α, l.length = n ∧ ∀ i, i < n → p i (l.getD i d)
 | 0, _ => ⟨[], rfl, fun i h => absurd h (Nat.not_lt_zero i)⟩
 | n + 1, h => by
  obtain ⟨l, h1, h2⟩ := list_of p d n fun i hi => h i (by omega)
  obtain ⟨a, ha⟩ := h n (by omega)
  refine ⟨l ++ [a], by simp [h1], fun i hi => ?_⟩
  rcases Nat.lt_or_ge i n with hlt | hge
  ·have := h2 i hlt
   rwa [List.getD_eq_getElem?_getD, List.getElem?_append_left (by omega), ← List.getD_eq_getElem?_getD]
  ·have : i = n := by omega
   subst this
   rwa [List.getD_eq_getElem?_getD, List.getElem?_append_right (by omega), h1, Nat.sub_self]
theorem rds_slice {α : Type} [En α] {t e : TypeId} (ht : P.underlying t = some (.slice e)) (hc : P.cellsOf e = En.n α) (he : Rds P e α) : Rds P t (List α) := fun {H enc w base spare held fuel cs x} h => by
 have hn := En.npos (α := α)
 have wrapC : ∀ {l : List α} {v : Value}, Rd w (tr l) (F0 w) v → RdC w (En.cs l) [v] := fun h => ⟨rfl, fun i t v h1 h2 => by
  match i, h1, h2 with
  | 0, h1, h2 => cases h1; cases h2; exact h
  | i + 1, h1, _ => simp [En.cs] at h1⟩
 rcases Go.Deep.open_slice ht h with ⟨rfl, _⟩ | ⟨a, len, cap, m, n, D, Pl, rfl, _, hl, hm, hmm, _, hx⟩
 ·exact ⟨[], wrapC ⟨hn, none, 0, rfl, Nat.le_refl _, Nat.zero_le _, 0, 0, fun _ _ => undef, fun _ _ _ _ => False, fun h => absurd h (by simp), fun k c hk => absurd hk (Nat.not_lt_zero k)⟩, Nat.zero_le _, by intro x hx; cases hx⟩
 have hlm : len ≤ m := by rw [hmm]; split <;> omega
 obtain ⟨l, hl1, hl2⟩ := list_of (fun i (p : α × List Value) => RdC w (En.cs p.1) p.2 ∧ En.fit p.1 ∧ ∀ j, j < En.n α → w.cell? (a.add (i * En.n α + j)) = p.2[j]?) (En.dflt, []) len (fun i hi => by
  obtain ⟨cs', h1, h2⟩ := hx i (by omega)
  obtain ⟨_, e1, e2⟩ := World.cells?_some h1
  obtain ⟨y, e3, e4⟩ := he h2
  exact ⟨(y, cs'), e3, e4, fun j hj => by
   have := e2 j (by rw [hc]; exact hj)
   rw [Go.Deep.add_add, hc] at this
   exact this⟩)
 have hsp : 0 < len → a.spot = none := fun h0 => by
  obtain ⟨h1, _, h2⟩ := hl2 0 h0
  have h3 := h2 0 hn
  have hlen : 0 < (l.getD 0 (En.dflt, [])).2.length := by rw [← h1.1, En.len]; exact hn
  rw [List.getElem?_eq_getElem hlen] at h3
  simp only [Nat.zero_mul, Nat.zero_add, Addr.add, if_true] at h3
  cases hs : a.spot with
  | none => rfl
  | some k =>
   simp only [World.cell?, hs] at h3
   split at h3 <;> simp at h3
 refine ⟨l.map (·.1), wrapC ?_, by simp [hl1]; omega, fun x hx' => ?_⟩
 ·refine ⟨hn, some a, cap, by simp [hl1], by simp [hl1]; omega, hm, a.block, a.off, fun k c => (l.getD k (En.dflt, [])).2.getD c undef, fun _ _ => F0 w, fun h0 => ?_, fun k c hk hc' => ?_⟩
  ·have h0' : 0 < len := by simpa [hl1] using h0
   have := hsp h0'
   obtain ⟨b, off, sp⟩ := a
   simp only at this
   rw [this]
  ·have hk' : k < len := by simpa [hl1] using hk
   obtain ⟨h1, _, h2⟩ := hl2 k hk'
   have hlen : c < (l.getD k (En.dflt, [])).2.length := by rw [← h1.1, En.len]; exact hc'
   have h3 := h2 c hc'
   rw [List.getElem?_eq_getElem hlen] at h3
   have hcell : w.cell? ⟨a.block, a.off + (k * En.n α + c), none⟩ = some ((l.getD k (En.dflt, [])).2.getD c undef) := by
    have hs := hsp (by omega)
    obtain ⟨b, off, sp⟩ := a
    simp only at hs
    subst hs
    rw [Addr.add_lit] at h3
    rw [h3, List.getD_eq_getElem?_getD (i := c), List.getElem?_eq_getElem hlen]; rfl
   have hlt := cell_lt hcell
   refine ⟨hcell, ?_, hlt, fun _ _ h => h⟩
   have hkl : k < l.length := by omega
   have e1 : ((l.map (·.1)).getD k En.dflt) = (l.getD k (En.dflt, [])).1 := by simp [hkl]
   show Rd w ((En.cs ((l.map (·.1)).getD k En.dflt)).getD c .j) (F0 w) ((l.getD k (En.dflt, [])).2.getD c undef)
   rw [e1]
   have hcl : c < (En.cs (l.getD k (En.dflt, [])).1).length := by rw [En.len]; exact hc'
   refine h1.2 c _ _ ?_ ?_
   ·rw [List.getD_eq_getElem?_getD (l := En.cs _), List.getElem?_eq_getElem hcl]; rfl
   ·rw [List.getD_eq_getElem?_getD (i := c), List.getElem?_eq_getElem hlen]; rfl
 ·obtain ⟨p, hp, rfl⟩ := List.mem_map.1 hx'
  obtain ⟨i, hi, rfl⟩ := List.mem_iff_getElem.1 hp
  have := (hl2 i (by omega)).2.1
  simpa [hi] using this
end
open Go Go.RowKit

def argXs : List T → Nat → List X × List E × Nat
 | [], n => ([], [], n)
 | t :: ts, n => match t with
  | .v x => let (ys, r, m) := argXs ts n; (.v x :: ys, r, m)
  | .j => let (ys, r, m) := argXs ts n; (.c :: ys, r, m)
  | .s w l f => let (ys, r, m) := argXs ts (n + 1); (.h n [] :: ys, .rt n .ro (.s w l f) :: r, m)
def argsX : List (Bool × List T) → Nat → List X × List E × Nat
  | [], n => ([], [], n)
  | (b, ts) :: as, n => let (ys, r, m) := argXs ts n; let (zs, r', m') := argsX as m; ((if b then .g ys else ys.headD .j) :: zs, r ++ r', m')
def AllArg (w : World) : List (Bool × List T) → List Value → Prop
  | [], [] => True
  | (b, ts) :: as, v :: vs => (∃ cs, RdC w ts cs ∧ if b then v = .agg cs.toArray else ts.length = 1 ∧ cs = [v]) ∧ AllArg w as vs
  | _, _ => False

section
variable {w : World} {P : Program}
theorem RdC.tail {t : T} {ts : List T} {v : Value} {vs : List Value} (h : RdC w (t :: ts) (v :: vs)) : Rd w t (F0 w) v ∧ RdC w ts vs :=
 ⟨h.2 0 t v rfl rfl, by simpa using h.1, fun i t' v' h1 h2 => h.2 (i + 1) t' v' h1 h2⟩
theorem argXs_ok : ∀ (ts : List T) (n : Nat) {vs : List Value}, RdC w ts vs → RoOk w (argXs ts n).2.1 n (argXs ts n).2.2 fun R H => VRs R H w (argXs ts n).1 vs
 | [], n, [], _ => RoOk.nil fun _ => trivial
 | [], _, _ :: _, h => by simp [RdC] at h
 | _ :: _, _, [], h => by simp [RdC] at h
 | t :: ts, n, v :: vs, h => by
  obtain ⟨h1, h2⟩ := h.tail
  cases t with
  | v x =>
   obtain ⟨a, b, H, G, c, d, e⟩ := argXs_ok ts n h2
   exact ⟨a, b, H, G, c, d, h1.1, e⟩
  | j =>
   obtain ⟨a, b, H, G, c, d, e⟩ := argXs_ok ts n h2
   exact ⟨a, b, H, G, c, d, h1, e⟩
  | s k l f =>
   have hone : RoOk w [.rt n .ro (.s k l f)] n (n + 1) fun R H => VR R H w (.h n []) v := RoOk.one h1 (fun x y h => h) (VR.root (H := fun _ => v) (m := .ro) (by simp [rts]; exact ⟨rfl, rfl, rfl⟩))
   exact hone.append (argXs_ok ts (n + 1) h2) fun R H R' H' R2 H2 k1 k2 k3 k4 => ⟨k1.same k3, k2.same k4⟩
theorem argsX_ok : ∀ (as : List (Bool × List T)) (n : Nat) {vs : List Value}, AllArg w as vs → RoOk w (argsX as n).2.1 n (argsX as n).2.2 fun R H => VRs R H w (argsX as n).1 vs
  | [], n, [], _ => RoOk.nil fun _ => trivial
  | [], _, _ :: _, h => h.elim
  | _ :: _, _, [], h => h.elim
  | (b, ts) :: as, n, v :: vs, ⟨⟨cs, h1, h2⟩, h3⟩ => by
    refine (argXs_ok ts n h1).append (argsX_ok as _ h3) fun R H R' H' R2 H2 k1 k2 k3 k4 => ⟨?_, k2.same k4⟩
    have k5 : VRs R2 H2 w (argXs ts n).1 cs := k1.same k3
    cases b with
    | true =>
      simp only [if_true] at h2 ⊢
      exact ⟨cs, h2, k5⟩
    | false =>
      simp only [Bool.false_eq_true, if_false] at h2 ⊢
      obtain ⟨h4, rfl⟩ := h2
      match hx : (argXs ts n).1, k5 with
      | [x], k5 => exact k5.1
      | [], k5 => exact k5.elim
      | x :: y :: r, k5 => exact (k5.2).elim

theorem Chg.below {w w' : World} (h : Chg (fun _ _ => False) w w') : Below w.heap.size w w' := by
 refine ⟨h.os, h.tape, h.output, h.size, fun k hk => ?_⟩
 have hb : w.heap[k]? = some w.heap[k] := Array.getElem?_eq_getElem hk
 cases ho : w.heap[k] with
 | cells cur e fr =>
  rw [ho] at hb
  obtain ⟨c', h1, h2, h3⟩ := h.cells k cur e fr hb
  have : c' = cur := Array.ext_getElem? fun i => h3 i (by simp)
  rw [h1, hb, this]
 | _ =>
  rw [ho] at hb
  rw [hb]
  exact h.other k _ hb (by intro _ _ _ hh; cases hh)
theorem law_of_con {f : FuncId} {bs : List (Bool × List T)} {vs : List Value} {xs : List X} {ρ : List E} {m : Nat} (hc : Con P f xs ρ fun x _ => x = .v (.bool true)) (hq : argsX bs base = (xs, ρ, m)) (ha : AllArg w bs vs) (ht : TabsOk P w := by exact tabs_none (by kernel_rfl) _) :
  Calls P f vs.toArray w fun e w' => e = .returned (.bool true) ∧ Below w.heap.size w w' := by
 have hro := argsX_ok bs base ha
 rw [hq] at hro
 obtain ⟨_, h2, H', G', h3, h4, h5⟩ := hro
 have hm : ∀ id m t, rts ρ id m t → m = .ro := fun id m t h => by obtain ⟨_, _, he, _⟩ := h2 _ h; cases he; rfl
 have hrp : Rp ρ (fun _ => undef) H' G' w := by
  refine ⟨fun id m t m' t' k1 k2 => ?_, fun id m t k1 k2 => absurd (hm _ _ _ k1) k2, fun id t k => (h3 id t k).1, fun id t k => (h3 id t k).2, fun id t k => ?_, fun id m t _ _ _ k1 _ _ k2 => absurd (hm _ _ _ k1) k2, fun t x k => ?_, fun id c x k => ?_⟩
  ·obtain rfl := hm _ _ _ k1; obtain rfl := hm _ _ _ k2; exact ⟨rfl, h4 _ _ _ k1 k2⟩
  ·have := hm _ _ _ k; cases this
  ·obtain ⟨_, _, he, _⟩ := h2 _ k; cases he
  ·obtain ⟨_, _, he, _⟩ := h2 _ k; cases he
 refine (hc w _ H' G' ht (fun id m t h1 h2 => absurd (hm _ _ _ h1) h2) hrp h5).mono ?_
 rintro e w' ⟨v, x, L2, H2, G2, val2, rfl, rfl, k1, k2, k3, k4, k5⟩
 simp only [VR] at k2
 subst k2
 exact ⟨rfl, (k3.mono fun b o _ hx => by obtain ⟨id, m, t, q1, q2, _⟩ := hx; exact q2 (hm _ _ _ q1) : Chg (fun _ _ => False) w w').below⟩
end

section
variable {H : Type} {enc : TypeId × Value → H} {P : Program}
theorem trodAll_stay (hl : laidOutB P = true) {W W' : World} (hb : Below W.heap.size W W') : ∀ {ts : List TypeId} {vs : List Value} {ds : List (DataW H)} {ps : List MemPlace},
  (∀ t ∈ ts, P.readableRec t = true ∧ t < P.types.size) → DataW.TrodAll enc P W 0 (fun _ => true) true ts vs ds ps → (∀ x ∈ ps, x.block < W.heap.size) →
  DataW.TrodAll enc P W' 0 (fun b => decide (b < W.heap.size)) true ts vs ds ps
 | [], [], [], _, _, h, _ => h
 | t :: ts, v :: vs, d :: ds, ps, hr, ⟨p, q, h1, h2, h3⟩, hlt =>
  ⟨p, q, Below.trod hl (hr t (by simp)).1 (hr t (by simp)).2 h1 hb (fun x hx => hlt x (by rw [h3]; exact List.mem_append.2 (.inl hx))),
   trodAll_stay hl hb (fun t ht => hr t (by simp [ht])) h2 (fun x hx => hlt x (by rw [h3]; exact List.mem_append.2 (.inr hx))), h3⟩
 | [], [], _ :: _, _, _, h, _ => h.elim
 | [], _ :: _, _, _, _, h, _ => by cases ‹List (DataW H)› <;> exact h.elim
 | _ :: _, [], _, _, _, h, _ => by cases ‹List (DataW H)› <;> exact h.elim
 | _ :: _, _ :: _, [], _, _, h, _ => h.elim
theorem law_fin {f : Func} {F : FuncId} {s : ChangeSpec} {W : World} {args : Array Value} {ds gs : List (DataW H)} {before : List MemPlace} {tb : TypeId}
  (hl : laidOutB P = true) (hr : f.params.toList.all (fun t => P.readableRec t && decide (t < P.types.size)) = true) (hv : s.vars = [])
  (hres : f.resultTypes = #[tb]) (htb : P.underlying tb = some .bool) (hW : DataW.Whole enc P f.params.toList s.vars false W args.toList ds gs before)
  (hs1 : (s.fn H (ds ++ gs)).results = [.lit (.bool true)]) (hs2 : (s.fn H (ds ++ gs)).args = ds) (hs3 : (s.fn H (ds ++ gs)).vars = [])
  (h : Calls P F args W fun e W' => e = .returned (.bool true) ∧ Below W.heap.size W W') :
  Calls P F args W fun e W' => ∃ v, e = .returned v ∧ s.post enc P f false true false false W args v W' := by
 refine h.mono fun e W' ⟨he, hb⟩ => ⟨_, he, ?_⟩
 have hlt := hW.lt
 have hW' := hW
 obtain ⟨p, q, hA, hV, rfl, _, _⟩ := hW
 have hr' : ∀ t ∈ f.params.toList, P.readableRec t = true ∧ t < P.types.size := fun t ht => by simpa using List.all_eq_true.1 hr t ht
 refine ⟨ds, gs, p ++ q, [], p, [], hW', ?_, ?_, ?_, hb.frame _, fun h => by cases h⟩
 ·rw [hs1, hres]
  refine ⟨[], [], ⟨1, ?_⟩, rfl, rfl⟩
  simp [DataW.trod, htb, Value.cells]
 ·rw [hs2]
  exact trodAll_stay hl hb hr' hA (fun x hx => hlt x (List.mem_append.2 (.inl hx)))
 ·rw [hs3, hv]; rfl
theorem rds_parts {t : TypeId} {fs : Array Field} (ht : P.underlying t = some (.struct fs)) {w : World} {base : Nat} {spare : Nat → Bool} {held : Bool} {fuel : Nat} {cs : List Value} {x : DataW H × List MemPlace}
  (h : DataW.trod enc P w base spare held fuel t cs = some x) : cs.length = P.cellsOf t ∧ ∃ n, ∀ (i : Nat) (f : Field), fs[i]? = some f → ∃ y, DataW.trod enc P w base spare held n f.type ((cs.drop f.offset).take (P.cellsOf f.type)) = some y := by
 obtain ⟨xs, n, _, _, hl, hlen, hf⟩ := DataW.trod_struct ht h
 refine ⟨hl, n, fun i f hi => ?_⟩
 have hi' : i < xs.length := by
  rw [hlen]
  have := (Array.getElem?_eq_some_iff.1 hi).1
  simpa using this
 exact ⟨xs[i], by rw [hf i f (by simpa using hi)]; simp [hi']⟩
theorem rds_part {α : Type} [En α] {t : TypeId} (hr : Rds P t α) {w : World} {base : Nat} {spare : Nat → Bool} {held : Bool} {fuel : Nat} {cs : List Value} {o k : Nat}
  (h : ∃ y, DataW.trod enc P w base spare held fuel t ((cs.drop o).take (P.cellsOf t)) = some y) (hk : P.cellsOf t = k) : ∃ a : α, RdC w (En.cs a) ((cs.drop o).take k) ∧ En.fit a := by
 obtain ⟨y, hy⟩ := h
 rw [hk] at hy
 exact hr hy
end
theorem RdC.append {w : World} {ts ts' : List T} {vs vs' : List Value} (h : RdC w ts vs) (h' : RdC w ts' vs') : RdC w (ts ++ ts') (vs ++ vs') := by
 refine ⟨by simp [h.1, h'.1], fun i t v h1 h2 => ?_⟩
 by_cases hi : i < ts.length
 ·rw [List.getElem?_append_left hi] at h1
  rw [List.getElem?_append_left (by rw [← h.1]; exact hi)] at h2
  exact h.2 i t v h1 h2
 ·rw [List.getElem?_append_right (by omega)] at h1
  rw [List.getElem?_append_right (by rw [← h.1]; omega), ← h.1] at h2
  exact h'.2 _ t v h1 h2
open Go Go.RowKit
def ZCs : List T → List Value → Prop
 | t :: ts, c :: cs => ZC t c ∧ ZCs ts cs
 | _, _ => True
theorem ZCs.get : ∀ {ts : List T} {cs : List Value}, ts.length = cs.length → ZCs ts cs → ∀ (i : Nat) y, ts[i]? = some y → ∃ c, cs[i]? = some c ∧ ZC y c
 | [], _, _, _, i, y, hy => by simp at hy
 | _ :: _, [], hl, _, _, _, _ => by simp at hl
 | t :: ts, c :: cs, hl, ⟨h1, h2⟩, i, y, hy => by
  cases i with
  | zero => cases hy; exact ⟨c, rfl, h1⟩
  | succ i => exact ZCs.get (by simpa using hl) h2 i y hy
theorem TyI.mk' {P : Program} {t : TypeId} {zt : List T} {i : TypeInfo} {z : Value} (h : P.info? t = some i) (h1 : i.size = zt.length) (h2 : i.bytes ≤ 1024) (h3 : i.zero = some z) (h4 : zt.length = z.cells.toList.length ∧ 0 < zt.length) (h5 : ZCs zt z.cells.toList) : TyI P t zt :=
 ⟨⟨i, z, h, h1, h2, h3, by simpa using h4.1.symm, fun i y hy => by simpa using ZCs.get h4.1 h5 i y hy⟩, h4.2⟩
theorem Fld.mk' {P : Program} {t : TypeId} {fs : Array Field} (i : Nat) (f : Field) {k : Nat} (h : P.underlying t = some (.struct fs)) (hf : fs[i]? = some f) (hs : Sz P f.type (k + 1)) : Fld P t i f.offset := fun b o w => by
 have h1 : ∀ w, (Instr.sureAddr (.pointer (some ⟨b, o, none⟩))).run P w = .ok ⟨b, o, none⟩ w := fun w => rfl
 simp only [Instr.fieldAt, Sem.run_bind, run_underlying h w, Result.andThen, hf, h1, fieldPlace, hs w, Nat.succ_ne_zero, if_false]
 simp [Addr.add]
open Go Go.RowKit
section
variable {P : Program} {L : List E} {dst : Option Tmp} {ty : TypeId} {pos : String} {af : Array Edge} {g : Option (Nat × Bool)}
theorem Qt.pickT {c x y : Operand} {b : Bool} (hc : evX L c = .v (.bool b)) (hb : b = true) : Qt P ⟨dst, .pick c x y, ty, pos, af, g⟩ L (evX L x) := by
 have h := Qt.pick (P := P) (dst := dst) (ty := ty) (pos := pos) (af := af) (g := g) (x := x) (y := y) hc
 rw [hb, if_pos rfl] at h; exact h
theorem Qt.pickF {c x y : Operand} {b : Bool} (hc : evX L c = .v (.bool b)) (hb : b = false) : Qt P ⟨dst, .pick c x y, ty, pos, af, g⟩ L (evX L y) := by
 have h := Qt.pick (P := P) (dst := dst) (ty := ty) (pos := pos) (af := af) (g := g) (x := x) (y := y) hc
 rw [hb, if_neg (by simp)] at h; exact h
end
open Go Go.RowKit
def nodupB : List Nat → Bool
 | [] => true
 | x :: xs => !(xs.any (Nat.beq x)) && nodupB xs
theorem nodup_of : ∀ {l : List Nat}, nodupB l = true → l.Nodup
 | [], _ => List.nodup_nil
 | x :: xs, h => by
  simp only [nodupB, Bool.and_eq_true, Bool.not_eq_true', List.any_eq_false] at h
  refine List.nodup_cons.2 ⟨fun hm => ?_, nodup_of h.2⟩
  exact absurd (Nat.beq_refl x) (h.1 x hm)

def T.sim : T → T → Prop
 | .v x, t => t = .v x
 | .j, t => t = .j
 | .s n len f, t => ∃ g, t = .s n len g ∧ ∀ k c, k < len → c < n → (f k c).sim (g k c)
theorem T.sim_refl : ∀ t : T, t.sim t
 | .v _ => rfl
 | .j => rfl
 | .s n len f => ⟨f, rfl, fun k c _ _ => T.sim_refl (f k c)⟩
theorem T.sim_of {n len : Nat} {f g : Nat → Nat → T} (h : ∀ k c, k < len → c < n → f k c = g k c) : (T.s n len f).sim (.s n len g) :=
 ⟨g, rfl, fun k c hk hc => by rw [h k c hk hc]; exact T.sim_refl _⟩
theorem Own.sim {w : World} : ∀ {t t' : T} {F : FP} {c : Value}, t.sim t' → Own w t F c → Own w t' F c
 | .v _, _, _, _, h, ho => by cases h; exact ho
 | .j, _, _, _, h, ho => by cases h; exact ho
 | .s n len f, _, F, c, ⟨g, rfl, hs⟩, ⟨hn, a, cap, h0, hl, hm, b, off, V, G, h1, h2, h3, h4, h5⟩ =>
  ⟨hn, a, cap, h0, hl, hm, b, off, V, G, h1, fun k c hk hc => ⟨(h2 k c hk hc).1, Own.sim (hs k c hk hc) (h2 k c hk hc).2⟩, h3, h4, h5⟩
theorem Rd.sim {w : World} : ∀ {t t' : T} {F : FP} {c : Value}, t.sim t' → Rd w t F c → Rd w t' F c
 | .v _, _, _, _, h, ho => by cases h; exact ho
 | .j, _, _, _, h, ho => by cases h; exact ho
 | .s n len f, _, F, c, ⟨g, rfl, hs⟩, ⟨hn, a, cap, h0, hl, hm, b, off, V, G, h1, h2⟩ =>
  ⟨hn, a, cap, h0, hl, hm, b, off, V, G, h1, fun k c hk hc => ⟨(h2 k c hk hc).1, Rd.sim (hs k c hk hc) (h2 k c hk hc).2.1, (h2 k c hk hc).2.2⟩⟩
theorem sim_at : ∀ {q : Path} {t t' : T}, t.sim t' → Okp t q → Okp t' q ∧ (t.at q).sim (t'.at q)
  | [], t, t', h, _ => ⟨by simp [Okp], by simpa only [T.at] using h⟩
  | (n', k, c) :: q, .s n len f, _, ⟨g, rfl, hs⟩, ⟨h1, h2, h3, h4⟩ => by
    obtain ⟨e1, e2⟩ := sim_at (q := q) (hs k c h2 h3) h4
    exact ⟨⟨h1, h2, h3, e1⟩, by simpa only [T.at] using e2⟩
  | _ :: _, .v _, _, _, hq => hq.elim
  | _ :: _, .j, _, _, hq => hq.elim

def hasS (L : List E) : List E → Prop
 | [] => True
 | .sl t x :: r => slotL L t = x ∧ hasS L r
 | .rt id m t :: r => (∃ t0, rootL L id = some (m, t0) ∧ t0.sim t) ∧ hasS L r
 | .al id c x :: r => (aliasL L id c = x ∧ x.isJ = false) ∧ hasS L r
theorem hasS_mem {L : List E} : ∀ {L' : List E}, hasS L L' → (∀ t x, E.sl t x ∈ L' → slotL L t = x) ∧ (∀ id m t, E.rt id m t ∈ L' → ∃ t0, rootL L id = some (m, t0) ∧ t0.sim t) ∧ ∀ id c x, E.al id c x ∈ L' → aliasL L id c = x ∧ x.isJ = false
 | [], _ => ⟨by simp, by simp, by simp⟩
 | .sl t x :: r, ⟨h1, h2⟩ => by
  obtain ⟨a1, a2, a3⟩ := hasS_mem h2
  refine ⟨fun t' x' h => ?_, fun id m t' h => ?_, fun id c x' h => ?_⟩
  ·rcases List.mem_cons.1 h with h | h
   ·cases h; exact h1
   ·exact a1 _ _ h
  ·rcases List.mem_cons.1 h with h | h
   ·cases h
   ·exact a2 _ _ _ h
  ·rcases List.mem_cons.1 h with h | h
   ·cases h
   ·exact a3 _ _ _ h
 | .rt i m0 t0 :: r, ⟨h1, h2⟩ => by
  obtain ⟨a1, a2, a3⟩ := hasS_mem h2
  refine ⟨fun t' x' h => ?_, fun id m t' h => ?_, fun id c x' h => ?_⟩
  ·rcases List.mem_cons.1 h with h | h
   ·cases h
   ·exact a1 _ _ h
  ·rcases List.mem_cons.1 h with h | h
   ·cases h; exact h1
   ·exact a2 _ _ _ h
  ·rcases List.mem_cons.1 h with h | h
   ·cases h
   ·exact a3 _ _ _ h
 | .al i c0 x0 :: r, ⟨h1, h2⟩ => by
  obtain ⟨a1, a2, a3⟩ := hasS_mem h2
  refine ⟨fun t' x' h => ?_, fun id m t' h => ?_, fun id c x' h => ?_⟩
  ·rcases List.mem_cons.1 h with h | h
   ·cases h
   ·exact a1 _ _ h
  ·rcases List.mem_cons.1 h with h | h
   ·cases h
   ·exact a2 _ _ _ h
  ·rcases List.mem_cons.1 h with h | h
   ·cases h; exact h1
   ·exact a3 _ _ _ h

theorem VR.sim {R R' : RT} {H : Nat → Value} {w : World} {ids : List Nat} (hR : ∀ id ∈ ids, ∀ m t, R id m t → ∃ t', R' id m t' ∧ t.sim t') {x : X} {v : Value} (hx : x.inB ids = true) (h : VR R H w x v) : VR R' H w x v :=
 VR.leaves (C := fun x => x.inB ids = true) (fun x v hl hx h => by
  cases x with
  | p id q n k c =>
   obtain ⟨m, t, h1, h2, ⟨len, f, h3, h4, h5⟩, h6⟩ := h
   obtain ⟨t', e1, e2⟩ := hR id (by simpa [X.inB] using hx) m t h1
   obtain ⟨e3, e4⟩ := sim_at e2 h2
   rw [h3] at e4
   obtain ⟨g, e5, _⟩ := e4
   exact ⟨m, t', e1, e3, ⟨len, g, e5, h4, h5⟩, h6⟩
  | h id q =>
   obtain ⟨m, t, h1, h2, ⟨n, len, f, h3⟩, h6⟩ := h
   obtain ⟨t', e1, e2⟩ := hR id (by simpa [X.inB] using hx) m t h1
   obtain ⟨e3, e4⟩ := sim_at e2 h2
   rw [h3] at e4
   obtain ⟨g, e5, _⟩ := e4
   exact ⟨m, t', e1, e3, ⟨n, len, g, e5⟩, h6⟩
  | a id q n lo len =>
   obtain ⟨m, t, h1, h2, ⟨l, f, h3, h4⟩, h6⟩ := h
   obtain ⟨t', e1, e2⟩ := hR id (by simpa [X.inB] using hx) m t h1
   obtain ⟨e3, e4⟩ := sim_at e2 h2
   rw [h3] at e4
   obtain ⟨g, e5, _⟩ := e4
   exact ⟨m, t', e1, e3, ⟨l, g, e5, h4⟩, h6⟩
  | _ => exact hl.elim) (X.inB_all hx) h
theorem Weak.sim {N : Nat} {L L' : List E} (h : hasS L L') (hc : closedB (idsL L') L' = true) (hu : nodupB (idsL L') = true) : Weak N L L' := fun cx a w hs => by
 obtain ⟨H, G, hr, hG⟩ := hs.rp
 obtain ⟨a1, a2, a3⟩ := hasS_mem h
 obtain ⟨c1, c2⟩ := closedB_mem hc
 have hrt : ∀ id m t, rts L' id m t → ∃ t0, rts L id m t0 ∧ t0.sim t := fun id m t hh => by
  obtain ⟨t0, e1, e2⟩ := a2 id m t hh
  exact ⟨t0, rootL_mem e1, e2⟩
 have huniq : ∀ id m t m' t', rts L' id m t → rts L' id m' t' → m = m' ∧ t = t' := by
  have : ∀ {M : List E}, (idsL M).Nodup → ∀ id m t m' t', rts M id m t → rts M id m' t' → m = m' ∧ t = t' := by
   intro M
   induction M with
   | nil => intro _ id m t m' t' h; cases h
   | cons e r ih =>
    intro hn id m t m' t' h h'
    cases e with
    | sl s x =>
     rcases List.mem_cons.1 h with h | h
     ·cases h
     rcases List.mem_cons.1 h' with h' | h'
     ·cases h'
     exact ih hn id m t m' t' h h'
    | al s c x =>
     rcases List.mem_cons.1 h with h | h
     ·cases h
     rcases List.mem_cons.1 h' with h' | h'
     ·cases h'
     exact ih hn id m t m' t' h h'
    | rt i m0 t0 =>
     simp only [idsL, List.nodup_cons] at hn
     rcases List.mem_cons.1 h with k | k <;> rcases List.mem_cons.1 h' with k' | k'
     ·cases k; cases k'; exact ⟨rfl, rfl⟩
     ·cases k; exact absurd (idsL_mem.2 ⟨m', t', k'⟩) hn.1
     ·cases k'; exact absurd (idsL_mem.2 ⟨m, t, k⟩) hn.1
     ·exact ih hn.2 id m t m' t' k k'
  exact this (nodup_of hu)
 have hV : ∀ {x : X} {v : Value}, x.inB (idsL L') = true → VR (rts L) H w x v → VR (rts L') H w x v := fun hx hv => by
  refine VR.sim (ids := idsL L') (fun id hid m t ht => ?_) hx hv
  obtain ⟨m', t', e⟩ := idsL_mem.1 hid
  obtain ⟨t0, e1, e2⟩ := hrt id m' t' e
  obtain ⟨rfl, rfl⟩ := hr.one _ _ _ _ _ ht e1
  exact ⟨t', e, e2⟩
 refine ⟨hs.siz, hs.dfr, hs.chg, H, G, ⟨huniq, ?_, ?_, ?_, ?_, ?_, ?_, ?_⟩, ?_, ?_⟩
 ·intro id m t h1 h2
  obtain ⟨t0, e1, e2⟩ := hrt id m t h1
  exact (hr.own id m t0 e1 h2).sim e2
 ·intro id t h1
  obtain ⟨t0, e1, e2⟩ := hrt id _ t h1
  exact (hr.ro id t0 e1).sim e2
 ·intro id t h1
  obtain ⟨t0, e1, e2⟩ := hrt id _ t h1
  exact hr.rold id t0 e1
 ·intro id t h1
  obtain ⟨t0, e1, e2⟩ := hrt id _ t h1
  obtain ⟨n, f, rfl⟩ := hr.box id t0 e1
  obtain ⟨g, rfl, _⟩ := e2
  exact ⟨n, g, rfl⟩
 ·intro id m t id' m' t' h1 h2
  obtain ⟨t0, e1, _⟩ := hrt id _ t h1
  obtain ⟨t1, e2, _⟩ := hrt id' _ t' h2
  exact hr.dis id m t0 id' m' t1 e1 e2
 ·intro t x h1
  have e := a1 t x h1
  have hx := c1 t x h1
  rcases slotL_mem (L := L) (d := t) with h | h
  ·rw [e] at h; subst h; trivial
  ·rw [e] at h; exact hV hx (hr.sl t x h)
 ·intro id c x h1
  obtain ⟨e, ej⟩ := a3 id c x h1
  obtain ⟨hx, hid⟩ := c2 id c x h1
  rcases aliasL_mem (L := L) (id := id) (c := c) with h | h
  ·rw [e] at h; subst h; cases ej
  ·rw [e] at h
   obtain ⟨n, f, g1, g2, A, v, g3, g4, g5⟩ := hr.al id c x h
   obtain ⟨m', t', e1⟩ := idsL_mem.1 hid
   obtain ⟨t0, e2, e3⟩ := hrt id m' t' e1
   obtain ⟨rfl, rfl⟩ := hr.one _ _ _ _ _ g1 e2
   obtain ⟨g, rfl, _⟩ := e3
   exact ⟨n, g, e1, g2, A, v, g3, g4, hV hx g5⟩
 ·intro id m t h1
  obtain ⟨t0, e1, _⟩ := hrt id _ t h1
  exact hG.1 id m t0 e1
 ·intro id m t hb h1
  obtain ⟨t0, e1, _⟩ := hrt id _ t h1
  exact hG.2 id m t0 hb e1
open Go Go.RowKit
section
variable {P : Program} {N : Nat} {Q : Exit → List E → Prop} {L L' : List E} {ops : Array Oper} {l : List Oper} {qs pend todo : List Nat} {S : Array Bool}
theorem AWL.nrm (h : L = L') (k : AWL P N ops l Q L') : AWL P N ops l Q L := h ▸ k
theorem AWA.nrm (h : L = L') (k : AWA P N ops qs Q S pend todo L') : AWA P N ops qs Q S pend todo L := h ▸ k
end
end Go.Proofs.YthjfgpkjooaahaaGreat.VM
