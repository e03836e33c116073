/- Rules to walk by. No conditions. -/
import Derived.Below
import Derived.Deep.AppendSrc
import Derived.Laws.AppendOwn
import Derived.Laws.Cells
import Derived.Laws.Small
import Derived.Lib.ItoaNum
import Derived.Lib.LaidTab
import Derived.Orders
import Derived.Tactics
import Derived.WalkKit
set_option linter.all false
namespace Go.Proofs.YthjfgpkjooaahaaGreat.VM
open Go Go.RowKit

abbrev FP := Nat → Nat → Prop
abbrev Path := List (Nat × Nat × Nat)

inductive T where
 | v (x : Value)
 | j
 | s (n len : Nat) (f : Nat → Nat → T)
instance : Inhabited T := ⟨.j⟩

structure Chg (S : FP) (w w' : World) : Prop where
 os : w'.os = w.os
 tape : w'.tape = w.tape
 output : w'.output = w.output
 size : w.heap.size ≤ w'.heap.size
 cells : ∀ (b : Nat) (cur : Array Value) (e : TypeId) (fr : Nat × Nat), w.heap[b]? = some (.cells cur e fr) → ∃ cur', w'.heap[b]? = some (.cells cur' e fr) ∧ cur'.size = cur.size ∧ ∀ o, ¬ S b o → cur'[o]? = cur[o]?
 other : ∀ (b : Nat) (o : Obj), w.heap[b]? = some o → (∀ c e f, o ≠ Obj.cells c e f) → w'.heap[b]? = some o

theorem Chg.refl (S : FP) (w : World) : Chg S w w :=
 ⟨rfl, rfl, rfl, Nat.le_refl _, fun _ cur _ _ h => ⟨cur, h, rfl, fun _ _ => rfl⟩, fun _ _ h _ => h⟩
theorem Chg.mono {S S' : FP} {w w' : World} (h : Chg S w w') (hs : ∀ b o, b < w.heap.size → S b o → S' b o) : Chg S' w w' :=
 ⟨h.os, h.tape, h.output, h.size, fun b cur e fr hb => by
  obtain ⟨cur', h1, h2, h3⟩ := h.cells b cur e fr hb
  have hlt : b < w.heap.size := (Array.getElem?_eq_some_iff.1 hb).1
  exact ⟨cur', h1, h2, fun o ho => h3 o fun hS => ho (hs b o hlt hS)⟩, h.other⟩
theorem Chg.trans {S : FP} {a b c : World} (h : Chg S a b) (k : Chg S b c) : Chg S a c :=
 ⟨k.os.trans h.os, k.tape.trans h.tape, k.output.trans h.output, Nat.le_trans h.size k.size, fun i cur e fr hi => by
  obtain ⟨c1, h1, h2, h3⟩ := h.cells i cur e fr hi
  obtain ⟨c2, k1, k2, k3⟩ := k.cells i c1 e fr h1
  exact ⟨c2, k1, k2.trans h2, fun o ho => (k3 o ho).trans (h3 o ho)⟩, fun i o hi ho => k.other i o (h.other i o hi ho) ho⟩
theorem Chg.cell {S : FP} {w w' : World} (h : Chg S w w') {b o : Nat} {v : Value} (hc : w.cell? ⟨b, o, none⟩ = some v) (hS : ¬ S b o) : w'.cell? ⟨b, o, none⟩ = some v := by
 simp only [World.cell?] at hc ⊢
 split at hc
 ·rename_i cur e fr hb
  obtain ⟨cur', h1, _, h3⟩ := h.cells b cur e fr hb
  simp only [Option.isSome_none, Bool.false_eq_true, if_false] at hc ⊢
  simp only [h1]
  rw [h3 o hS]; exact hc
 ·cases hc
theorem cell_lt {w : World} {b o : Nat} {v : Value} (hc : w.cell? ⟨b, o, none⟩ = some v) : b < w.heap.size := World.block_lt_of_cell? w _ hc

def Kd (w : World) (b sz : Nat) : Prop := ∃ cur e, w.heap[b]? = some (.cells cur e (0, 0)) ∧ cur.size = sz
theorem Kd.chg {S : FP} {w w' : World} {b sz : Nat} (h : Kd w b sz) (hc : Chg S w w') : Kd w' b sz := by
 obtain ⟨cur, e, h1, h2⟩ := h
 obtain ⟨c', k1, k2, _⟩ := hc.cells b cur e (0, 0) h1
 exact ⟨c', e, k1, k2.trans h2⟩
theorem Kd.lt {w : World} {b sz : Nat} (h : Kd w b sz) : b < w.heap.size := by
 obtain ⟨_, _, h1, _⟩ := h
 exact (Array.getElem?_eq_some_iff.1 h1).1

def rowFP (b o m : Nat) : FP := fun b' o' => b' = b ∧ o ≤ o' ∧ o' < o + m
def blkFP (b : Nat) : FP := fun b' _ => b' = b

def Own (w : World) : T → FP → Value → Prop
 | .v x, F, c => c = x ∧ x.oneCell' = true ∧ ∀ b o, ¬ F b o
 | .j, F, c => c.oneCell' = true ∧ ∀ b o, ¬ F b o
 | .s n len f, F, c => 0 < n ∧ ∃ (a : Option Addr) (cap : Nat), c = .slice a len cap ∧ len ≤ cap ∧ cap ≤ maxLen ∧ ∃ (b off : Nat) (V : Nat → Nat → Value) (G : Nat → Nat → FP),
   (0 < cap → a = some ⟨b, off, none⟩ ∧ ∃ sz, Kd w b sz ∧ off + cap * n ≤ sz) ∧
   (∀ k c, k < len → c < n → w.cell? ⟨b, off + (k * n + c), none⟩ = some (V k c) ∧ Own w (f k c) (G k c) (V k c)) ∧
   (∀ k c k' c', (k ≠ k' ∨ c ≠ c') → k < len → c < n → k' < len → c' < n → ∀ x y, G k c x y → G k' c' x y → False) ∧
   (∀ k c, k < len → c < n → ∀ x y, G k c x y → blkFP b x y → False) ∧
   (∀ x y, F x y ↔ (0 < cap ∧ blkFP b x y) ∨ ∃ k c, k < len ∧ c < n ∧ G k c x y)

def Rd (w : World) : T → FP → Value → Prop
 | .v x, _, c => c = x ∧ x.oneCell' = true
 | .j, _, c => c.oneCell' = true
 | .s n len f, F, c => 0 < n ∧ ∃ (a : Option Addr) (cap : Nat), c = .slice a len cap ∧ len ≤ cap ∧ cap ≤ maxLen ∧ ∃ (b off : Nat) (V : Nat → Nat → Value) (G : Nat → Nat → FP),
   (0 < len → a = some ⟨b, off, none⟩) ∧
   (∀ k c, k < len → c < n → w.cell? ⟨b, off + (k * n + c), none⟩ = some (V k c) ∧ Rd w (f k c) (G k c) (V k c) ∧ F b (off + (k * n + c)) ∧ ∀ x y, G k c x y → F x y)

theorem Own.one {w : World} : ∀ {t : T} {F : FP} {c : Value}, Own w t F c → c.oneCell' = true
 | .v _, _, _, h => by rw [h.1]; exact h.2.1
 | .j, _, _, h => h.1
 | .s .., _, _, ⟨_, _, _, h, _⟩ => by rw [h]; rfl

theorem Own.old {w : World} : ∀ {t : T} {F : FP} {c : Value}, Own w t F c → ∀ x y, F x y → x < w.heap.size
 | .v _, _, _, h, x, y, hF => (h.2.2 x y hF).elim
 | .j, _, _, h, x, y, hF => (h.2 x y hF).elim
 | .s n len f, F, c, ⟨_, a, cap, _, _, _, b, off, V, G, h1, h2, _, _, h5⟩, x, y, hF => by
  rcases (h5 x y).1 hF with ⟨hc, rfl, _⟩ | ⟨k, c, hk, hc, hG⟩
  ·obtain ⟨_, sz, hk, _⟩ := h1 hc
   exact hk.lt
  ·exact Own.old (h2 k c hk hc).2 x y hG

theorem Own.frame {S : FP} {w w' : World} (hC : Chg S w w') : ∀ {t : T} {F : FP} {c : Value}, Own w t F c → (∀ x y, F x y → ¬ S x y) → Own w' t F c
 | .v _, _, _, h, _ => h
 | .j, _, _, h, _ => h
 | .s n len f, F, c, ⟨hn, a, cap, h0, hl, hm, b, off, V, G, h1, h2, h3, h4, h5⟩, hS =>
  ⟨hn, a, cap, h0, hl, hm, b, off, V, G, fun hc => ⟨(h1 hc).1, let ⟨sz, k1, k2⟩ := (h1 hc).2; ⟨sz, k1.chg hC, k2⟩⟩, fun k c hk hc => by
   obtain ⟨e1, e2⟩ := h2 k c hk hc
   have hcap : 0 < cap := by omega
   have hrow : blkFP b b (off + (k * n + c)) := rfl
   exact ⟨hC.cell e1 (hS _ _ ((h5 _ _).2 (.inl ⟨hcap, hrow⟩))), Own.frame hC e2 fun x y hG => hS x y ((h5 x y).2 (.inr ⟨k, c, hk, hc, hG⟩))⟩, h3, h4, h5⟩

theorem Rd.mono {w : World} : ∀ {t : T} {F F' : FP} {c : Value}, Rd w t F c → (∀ x y, F x y → F' x y) → Rd w t F' c
 | .v _, _, _, _, h, _ => h
 | .j, _, _, _, h, _ => h
 | .s .., _, _, _, ⟨hn, a, cap, h0, hl, hm, b, off, V, G, h1, h2⟩, hF => ⟨hn, a, cap, h0, hl, hm, b, off, V, G, h1, fun k c hk hc =>
  let ⟨e1, e2, e3, e4⟩ := h2 k c hk hc; ⟨e1, e2, hF _ _ e3, fun x y h => hF x y (e4 x y h)⟩⟩
theorem Rd.frame {S : FP} {w w' : World} (hC : Chg S w w') : ∀ {t : T} {F : FP} {c : Value}, Rd w t F c → (∀ x y, F x y → ¬ S x y) → Rd w' t F c
 | .v _, _, _, h, _ => h
 | .j, _, _, h, _ => h
 | .s .., _, _, ⟨hn, a, cap, h0, hl, hm, b, off, V, G, h1, h2⟩, hS => ⟨hn, a, cap, h0, hl, hm, b, off, V, G, h1, fun k c hk hc =>
  let ⟨e1, e2, e3, e4⟩ := h2 k c hk hc; ⟨hC.cell e1 (hS _ _ e3), Rd.frame hC e2 fun x y h => hS x y (e4 x y h), e3, e4⟩⟩
theorem Own.rd {w : World} : ∀ {t : T} {F : FP} {c : Value}, Own w t F c → Rd w t F c
 | .v _, _, _, h => ⟨h.1, h.2.1⟩
 | .j, _, _, h => h.1
 | .s n len f, F, c, ⟨hn, a, cap, h0, hl, hm, b, off, V, G, h1, h2, h3, h4, h5⟩ =>
  ⟨hn, a, cap, h0, hl, hm, b, off, V, G, fun h => (h1 (by omega)).1, fun k c hk hc => by
   obtain ⟨e1, e2⟩ := h2 k c hk hc
   have hcap : 0 < cap := by omega
   have hrow : blkFP b b (off + (k * n + c)) := rfl
   exact ⟨e1, Own.rd e2, (h5 _ _).2 (.inl ⟨hcap, hrow⟩), fun x y hG => (h5 x y).2 (.inr ⟨k, c, hk, hc, hG⟩)⟩⟩

def T.at (t : T) (q : Path) : T :=
  match q with
  | [] => t
  | (_, k, c) :: q => match t with
    | .s _ _ f => (f k c).at q
    | _ => .j
def Okp : T → Path → Prop
 | _, [] => True
 | .s n len f, (n', k, c) :: q => n' = n ∧ k < len ∧ c < n ∧ Okp (f k c) q
 | _, _ => False
def adr : Value → Nat → Nat → Nat → Option Addr
 | .slice (some a) _ _, n, k, c => some ⟨a.block, a.off + (k * n + c), none⟩
 | _, _, _, _ => none
def hd (w : World) : Value → Path → Option Value
 | h, [] => some h
 | h, (n, k, c) :: q => match adr h n k c with
  | some a => match w.cell? a with
   | some h' => hd w h' q
   | none => none
  | none => none

theorem Rd.at {w : World} : ∀ {q : Path} {t : T} {F : FP} {h : Value}, Rd w t F h → Okp t q → ∃ h' G, hd w h q = some h' ∧ Rd w (t.at q) G h' ∧ ∀ x y, G x y → F x y
  | [], t, F, h, hR, _ => ⟨h, F, rfl, (by simpa only [T.at] using hR), fun _ _ h => h⟩
  | (n', k, c) :: q, .s n len f, F, h, ⟨hn, a, cap, h0, hl, hm, b, off, V, G, h1, h2⟩, ⟨hnn, hk, hc, hq⟩ => by
    subst hnn
    obtain ⟨e1, e2, e3, e4⟩ := h2 k c hk hc
    obtain ⟨h', G', g1, g2, g3⟩ := Rd.at e2 hq
    have ha := h1 (by omega)
    refine ⟨h', G', ?_, g2, fun x y h => e4 x y (g3 x y h)⟩
    rw [h0, ha]
    simp only [hd, adr, e1]
    exact g1
  | _ :: _, .v _, _, _, _, hq => hq.elim
  | _ :: _, .j, _, _, _, hq => hq.elim

open Go Go.RowKit

theorem Own.cong {w : World} {t : T} {F F' : FP} {c : Value} (h : Own w t F c) (hF : ∀ x y, F x y ↔ F' x y) : Own w t F' c := by
 have : F = F' := funext fun x => funext fun y => propext (hF x y)
 exact this ▸ h

def upd (f : Nat → Nat → T) (k c : Nat) (y : T) : Nat → Nat → T := fun k' c' => if k' = k ∧ c' = c then y else f k' c'
def T.put (t : T) (q : Path) (k c : Nat) (y : T) : T :=
  match q with
  | [] => match t with
    | .s n len f => .s n len (upd f k c y)
    | t => t
  | (_, k0, c0) :: q' => match t with
    | .s n len f => .s n len (upd f k0 c0 ((f k0 c0).put q' k c y))
    | t => t

theorem row_lt {len cap n k c : Nat} (hl : len ≤ cap) (hk : k < len) (hc : c < n) : k * n + c < cap * n := by
 have h1 : (k + 1) * n ≤ cap * n := Nat.mul_le_mul_right n (by omega)
 rw [Nat.add_mul] at h1; omega
theorem row_ne {n k c k' c' : Nat} (hc : c < n) (hc' : c' < n) (h : k ≠ k' ∨ c ≠ c') : k * n + c ≠ k' * n + c' := by
 intro e
 have h1 : (k * n + c) / n = k := by rw [Nat.mul_comm, Nat.mul_add_div (by omega), Nat.div_eq_of_lt hc]; rfl
 have h2 : (k' * n + c') / n = k' := by rw [Nat.mul_comm, Nat.mul_add_div (by omega), Nat.div_eq_of_lt hc']; rfl
 have hk : k = k' := by rw [← h1, ← h2, e]
 subst hk
 omega

theorem hd_frame {S : FP} {w w' : World} (hC : Chg S w w') : ∀ {q : Path} {t : T} {F : FP} {h : Value}, Rd w t F h → Okp t q → (∀ x y, F x y → ¬ S x y) → hd w' h q = hd w h q
  | [], _, _, _, _, _, _ => rfl
  | (n', k, c) :: q, .s n len f, F, h, ⟨hn, a, cap, h0, hl, hm, b, off, V, G, h1, h2⟩, ⟨hnn, hk, hc, hq⟩, hS => by
    subst hnn
    obtain ⟨e1, e2, e3, e4⟩ := h2 k c hk hc
    rw [h0, h1 (by omega)]
    simp only [hd, adr, e1, hC.cell e1 (hS _ _ e3)]
    exact hd_frame hC e2 hq fun x y h => hS x y (e4 x y h)
  | _ :: _, .v _, _, _, _, hq, _ => hq.elim
  | _ :: _, .j, _, _, _, hq, _ => hq.elim

theorem Own.row {w : World} {n len : Nat} {f : Nat → Nat → T} {F : FP} {h : Value} (hO : Own w (.s n len f) F h) {k c : Nat} (hk : k < len) (hc : c < n) :
  ∃ (b o : Nat) (x : Value) (Gx : FP), adr h n k c = some ⟨b, o, none⟩ ∧ w.cell? ⟨b, o, none⟩ = some x ∧ Own w (f k c) Gx x ∧ F b o ∧ (∃ sz, Kd w b sz) ∧ (∀ a p, Gx a p → F a p) ∧ ¬ Gx b o ∧
   ∀ {w' : World} {S : FP} {y : T} {x' : Value} {Gy : FP}, Chg S w w' → (∀ a p, S a p → (a = b ∧ p = o) ∨ Gx a p) → w'.cell? ⟨b, o, none⟩ = some x' → Own w' y Gy x' → (∀ a p, Gy a p → Gx a p ∨ ¬ F a p) →
    Own w' (.s n len (upd f k c y)) (fun a p => (F a p ∧ ¬ Gx a p) ∨ Gy a p) h ∧
    ∀ n' k' c' r, (k' ≠ k ∨ c' ≠ c) → Okp (.s n len f) ((n', k', c') :: r) → hd w' h ((n', k', c') :: r) = hd w h ((n', k', c') :: r) := by
 obtain ⟨hn, a, cap, h0, hl, hm, b, off, V, G, h1, h2, h3, h4, h5⟩ := hO
 have hcap : 0 < cap := by omega
 have hrow : ∀ k' c', k' < len → c' < n → blkFP b b (off + (k' * n + c')) := fun _ _ _ _ => rfl
 obtain ⟨ha, sz, hsz, hoff⟩ := h1 hcap
 obtain ⟨e1, e2⟩ := h2 k c hk hc
 refine ⟨b, off + (k * n + c), V k c, G k c, ?_, e1, e2, (h5 _ _).2 (.inl ⟨hcap, hrow k c hk hc⟩), ⟨sz, hsz⟩, fun x y hG => (h5 x y).2 (.inr ⟨k, c, hk, hc, hG⟩), fun hG => h4 k c hk hc _ _ hG (hrow k c hk hc), ?_⟩
 ·rw [h0, ha]; rfl
 intro w' S y x' Gy hC hS hx' hy hGy
 have hoth : ∀ k' c', (k' ≠ k ∨ c' ≠ c) → k' < len → c' < n → w'.cell? ⟨b, off + (k' * n + c'), none⟩ = some (V k' c') ∧ Own w' (f k' c') (G k' c') (V k' c') := fun k' c' hne hk' hc' => by
  obtain ⟨g1, g2⟩ := h2 k' c' hk' hc'
  refine ⟨hC.cell g1 fun hs => ?_, g2.frame hC fun x y hG hs => ?_⟩
  ·rcases hS _ _ hs with ⟨_, he⟩ | hG
   ·have := row_ne hc' hc hne
    omega
   ·exact h4 k c hk hc _ _ hG (hrow k' c' hk' hc')
  ·rcases hS _ _ hs with ⟨rfl, rfl⟩ | hG'
   ·exact h4 k' c' hk' hc' _ _ hG (hrow k c hk hc)
   ·exact h3 k' c' k c hne hk' hc' hk hc x y hG hG'
 refine ⟨⟨hn, a, cap, h0, hl, hm, b, off, fun k' c' => if k' = k ∧ c' = c then x' else V k' c', fun k' c' => if k' = k ∧ c' = c then Gy else G k' c', fun _ => ⟨ha, sz, hsz.chg hC, hoff⟩, ?_, ?_, ?_, ?_⟩, ?_⟩
 ·intro k' c' hk' hc'
  by_cases he : k' = k ∧ c' = c
  ·obtain ⟨rfl, rfl⟩ := he
   simp only [and_self, if_true, upd]
   exact ⟨hx', hy⟩
  ·simp only [upd, he, if_false]
   exact hoth k' c' (by omega) hk' hc'
 ·intro k1 c1 k2 c2 hne hk1 hc1 hk2 hc2 x y g1 g2
  by_cases e1 : k1 = k ∧ c1 = c
  ·have e2 : ¬ (k2 = k ∧ c2 = c) := by omega
   simp only [e1, and_self, if_true] at g1
   simp only [e2, if_false] at g2
   rcases hGy x y g1 with h | h
   ·exact h3 k c k2 c2 (by omega) hk hc hk2 hc2 x y h g2
   ·exact h ((h5 x y).2 (.inr ⟨k2, c2, hk2, hc2, g2⟩))
  ·simp only [e1, if_false] at g1
   by_cases e2 : k2 = k ∧ c2 = c
   ·simp only [e2, and_self, if_true] at g2
    rcases hGy x y g2 with h | h
    ·exact h3 k c k1 c1 (by omega) hk hc hk1 hc1 x y h g1
    ·exact h ((h5 x y).2 (.inr ⟨k1, c1, hk1, hc1, g1⟩))
   ·simp only [e2, if_false] at g2
    exact h3 k1 c1 k2 c2 hne hk1 hc1 hk2 hc2 x y g1 g2
 ·intro k' c' hk' hc' x y g hr
  by_cases e1 : k' = k ∧ c' = c
  ·simp only [e1, and_self, if_true] at g
   rcases hGy x y g with h | h
   ·exact h4 k c hk hc x y h hr
   ·exact h ((h5 x y).2 (.inl ⟨hcap, hr⟩))
  ·simp only [e1, if_false] at g
   exact h4 k' c' hk' hc' x y g hr
 ·intro x y
  constructor
  ·rintro (⟨hF, hG⟩ | hG)
   ·rcases (h5 x y).1 hF with h | ⟨k', c', hk', hc', h⟩
    ·exact .inl h
    ·refine .inr ⟨k', c', hk', hc', ?_⟩
     have e1 : ¬ (k' = k ∧ c' = c) := by rintro ⟨rfl, rfl⟩; exact hG h
     simp only [e1, if_false]; exact h
   ·exact .inr ⟨k, c, hk, hc, by simp only [and_self, if_true]; exact hG⟩
  ·rintro (⟨h, hr⟩ | ⟨k', c', hk', hc', g⟩)
   ·exact .inl ⟨(h5 x y).2 (.inl ⟨h, hr⟩), fun hG => h4 k c hk hc x y hG hr⟩
   ·by_cases e1 : k' = k ∧ c' = c
    ·simp only [e1, and_self, if_true] at g
     exact .inr g
    ·simp only [e1, if_false] at g
     exact .inl ⟨(h5 x y).2 (.inr ⟨k', c', hk', hc', g⟩), fun hG => h3 k' c' k c (by omega) hk' hc' hk hc x y g hG⟩
 ·intro n' k' c' r hne hq
  obtain ⟨hnn, hk', hc', hr⟩ := hq
  subst hnn
  rw [h0, ha]
  obtain ⟨g1, g2⟩ := hoth k' c' hne hk' hc'
  obtain ⟨g3, g4⟩ := h2 k' c' hk' hc'
  simp only [hd, adr, g1, g3]
  refine hd_frame hC g4.rd hr fun x y hG hs => ?_
  rcases hS _ _ hs with ⟨rfl, rfl⟩ | hG'
  ·exact h4 k' c' hk' hc' _ _ hG (hrow k c hk hc)
  ·exact h3 k' c' k c hne hk' hc' hk hc x y hG hG'

def thru (q : Path) (k c : Nat) (r : Path) : Prop := ∃ n s, r = q ++ (n, k, c) :: s

theorem Own.upd {w : World} : ∀ {q : Path} {t : T} {F : FP} {h : Value}, Own w t F h → Okp t q → ∀ {n len : Nat} {f : Nat → Nat → T}, t.at q = .s n len f → ∀ {k c : Nat}, k < len → c < n →
    ∃ (h' : Value) (b o : Nat) (x : Value) (Gx : FP), hd w h q = some h' ∧ adr h' n k c = some ⟨b, o, none⟩ ∧ w.cell? ⟨b, o, none⟩ = some x ∧ Own w (f k c) Gx x ∧ F b o ∧ (∃ sz, Kd w b sz) ∧ (∀ a p, Gx a p → F a p) ∧ ¬ Gx b o ∧
      ∀ {w' : World} {S : FP} {y : T} {x' : Value} {Gy : FP}, Chg S w w' → (∀ a p, S a p → (a = b ∧ p = o) ∨ Gx a p) → w'.cell? ⟨b, o, none⟩ = some x' → Own w' y Gy x' → (∀ a p, Gy a p → Gx a p ∨ ¬ F a p) →
        Own w' (t.put q k c y) (fun a p => (F a p ∧ ¬ Gx a p) ∨ Gy a p) h ∧
        ∀ r, ¬ thru q k c r → Okp t r → hd w' h r = hd w h r
  | [], t, F, h, hO, _, n, len, f, hat, k, c, hk, hc => by
    simp only [T.at] at hat
    subst hat
    obtain ⟨b, o, x, Gx, g1, g2, g3, g4, g5, g6, g7, g8⟩ := hO.row hk hc
    refine ⟨h, b, o, x, Gx, rfl, g1, g2, g3, g4, g5, g6, g7, ?_⟩
    intro w' S y x' Gy hC hS hx hy hG
    obtain ⟨k1, k2⟩ := g8 hC hS hx hy hG
    refine ⟨k1, fun r hr hok => ?_⟩
    cases r with
    | nil => rfl
    | cons a r =>
      obtain ⟨n', k', c'⟩ := a
      refine k2 n' k' c' r ?_ hok
      by_cases e : k' = k ∧ c' = c
      · obtain ⟨rfl, rfl⟩ := e
        exact absurd ⟨n', r, rfl⟩ hr
      · omega
  | (n0, k0, c0) :: q, .s n1 len1 f1, F, h, hO, ⟨hnn, hk0, hc0, hq⟩, n, len, f, hat, k, c, hk, hc => by
    subst hnn
    simp only [T.at] at hat
    obtain ⟨b1, o1, x1, G1, g1, g2, g3, g4, g5, g6, g7, g8⟩ := hO.row hk0 hc0
    obtain ⟨h', b, o, x, Gx, e1, e2, e3, e4, e5, e6, e7, e8, e9⟩ := Own.upd g3 hq hat hk hc
    refine ⟨h', b, o, x, Gx, ?_, e2, e3, e4, g6 _ _ e5, e6, fun a p hG => g6 a p (e7 a p hG), e8, ?_⟩
    · simp only [hd, g1, g2]; exact e1
    intro w' S y x' Gy hC hS hx hy hG
    obtain ⟨k1, k2⟩ := e9 hC hS hx hy fun a p hGy => (hG a p hGy).imp_right fun hF hG1 => hF (g6 a p hG1)
    have hS1 : ∀ a p, S a p → G1 a p := fun a p hs => by
      rcases hS a p hs with ⟨rfl, rfl⟩ | hG'
      · exact e5
      · exact e7 a p hG'
    have hx1 : w'.cell? ⟨b1, o1, none⟩ = some x1 := hC.cell g2 fun hs => g7 (hS1 _ _ hs)
    obtain ⟨m1, m2⟩ := g8 hC (fun a p hs => .inr (hS1 a p hs)) hx1 k1 (fun a p hg => by
      rcases hg with ⟨h1, _⟩ | h1
      · exact .inl h1
      · exact (hG a p h1).imp_left (e7 a p))
    refine ⟨m1.cong fun a p => ?_, fun r hr hok => ?_⟩
    · constructor
      · rintro (⟨hF, h1⟩ | ⟨h1, h2⟩ | h1)
        · exact .inl ⟨hF, fun hGx => h1 (e7 a p hGx)⟩
        · exact .inl ⟨g6 a p h1, h2⟩
        · exact .inr h1
      · rintro (⟨hF, h1⟩ | h1)
        · by_cases hG1 : G1 a p
          · exact .inr (.inl ⟨hG1, h1⟩)
          · exact .inl ⟨hF, hG1⟩
        · exact .inr (.inr h1)
    · cases r with
      | nil => rfl
      | cons a r =>
        obtain ⟨n', k', c'⟩ := a
        by_cases e : k' = k0 ∧ c' = c0
        · obtain ⟨rfl, rfl⟩ := e
          obtain ⟨hnn, _, _, hok⟩ := hok
          subst hnn
          simp only [hd, g1, g2, hx1]
          refine k2 r (fun ⟨n2, s, hs⟩ => hr ⟨n2, s, by rw [hs]; rfl⟩) hok
        · exact m2 n' k' c' r (by omega) hok
  | _ :: _, .v _, _, _, _, hq, _, _, _, _, _, _, _, _ => hq.elim
  | _ :: _, .j, _, _, _, hq, _, _, _, _, _, _, _, _ => hq.elim
open Go Go.RowKit

inductive X where
 | v (x : Value)
 | j
 | c                                           -- some value of one cell
 | p (id : Nat) (q : Path) (n k c : Nat)       -- the cell (k, c) of the node at q
 | h (id : Nat) (q : Path)                     -- the header of the node at q
 | a (id : Nat) (q : Path) (n lo len : Nat)    -- rows lo .. of the node at q
 | g (xs : List X)
 | t (xs : List X)
 | f (fn : FuncId) (caps : List X)
instance : Inhabited X := ⟨.j⟩

inductive M where | box | row | ro
 deriving DecidableEq

inductive E where
 | sl (t : Nat) (x : X)
 | rt (id : Nat) (m : M) (t : T)
 | al (id c : Nat) (x : X)

abbrev RT := Nat → M → T → Prop
def rts (L : List E) : RT := fun id m t => E.rt id m t ∈ L

mutual
def VR (R : RT) (H : Nat → Value) (w : World) : X → Value → Prop
 | .v x, v => v = x
 | .j, _ => True
 | .c, v => v.oneCell' = true
 | .p id q n k c, v => ∃ m t, R id m t ∧ Okp t q ∧ (∃ len f, t.at q = .s n len f ∧ k < len ∧ c < n) ∧ ∃ h A, hd w (H id) q = some h ∧ adr h n k c = some A ∧ v = .pointer (some A)
 | .h id q, v => ∃ m t, R id m t ∧ Okp t q ∧ (∃ n len f, t.at q = .s n len f) ∧ hd w (H id) q = some v
 | .a id q n lo len, v => ∃ m t, R id m t ∧ Okp t q ∧ (∃ l f, t.at q = .s n l f ∧ lo + len ≤ l) ∧ ∃ hv, hd w (H id) q = some hv ∧ ∃ ad cap, v = .slice ad len cap ∧ len ≤ cap ∧ cap ≤ maxLen ∧ (0 < len → adr hv n lo 0 = ad) ∧ (∃ a0 l0, hv = .slice a0 l0 (lo + cap)) ∧ ∀ b off l0 c0, hv = .slice (some ⟨b, off, none⟩) l0 c0 → 0 < cap → ad = some ⟨b, off + lo * n, none⟩
 | .g xs, v => ∃ vs : List Value, v = .agg vs.toArray ∧ VRs R H w xs vs
 | .t xs, v => ∃ vs : List Value, v = .tuple vs.toArray ∧ VRs R H w xs vs
 | .f fn xs, v => ∃ vs : List Value, v = .func (.func fn) #[] vs.toArray ∧ VRs R H w xs vs
def VRs (R : RT) (H : Nat → Value) (w : World) : List X → List Value → Prop
 | [], [] => True
 | x :: xs, v :: vs => VR R H w x v ∧ VRs R H w xs vs
 | _, _ => False
end

mutual
def X.men (id : Nat) : X → Bool
 | .p id' .. => id' == id
 | .h id' _ => id' == id
 | .a id' .. => id' == id
 | .g xs => X.mens id xs
 | .t xs => X.mens id xs
 | .f _ xs => X.mens id xs
 | _ => false
def X.mens (id : Nat) : List X → Bool
 | [] => false
 | x :: xs => X.men id x || X.mens id xs
end

/- the leaves of X all pass -/
mutual
def X.all (P : X → Prop) : X → Prop
 | .g xs => X.alls P xs
 | .t xs => X.alls P xs
 | .f _ xs => X.alls P xs
 | x => P x
def X.alls (P : X → Prop) : List X → Prop
 | [] => True
 | x :: xs => X.all P x ∧ X.alls P xs
end

/- a turn of roots and world that leaves each single leaf in force leaves the whole in force -/
mutual
theorem X.all_true {P : X → Prop} (hh : ∀ x, P x) : ∀ x : X, X.all P x
 | .g xs => X.alls_true hh xs
 | .t xs => X.alls_true hh xs
 | .f _ xs => X.alls_true hh xs
 | .v _ => hh _
 | .j => hh _
 | .c => hh _
 | .p .. => hh _
 | .h .. => hh _
 | .a .. => hh _
theorem X.alls_true {P : X → Prop} (hh : ∀ x, P x) : ∀ xs : List X, X.alls P xs
 | [] => trivial
 | x :: xs => ⟨X.all_true hh x, X.alls_true hh xs⟩
end
mutual
theorem X.all_men {id : Nat} : ∀ {x : X}, X.men id x = false → X.all (fun x => X.men id x = false) x
 | .g _, e => X.alls_men e
 | .t _, e => X.alls_men e
 | .f _ _, e => X.alls_men e
 | .v _, e => e
 | .j, e => e
 | .c, e => e
 | .p .., e => e
 | .h .., e => e
 | .a .., e => e
theorem X.alls_men {id : Nat} : ∀ {xs : List X}, X.mens id xs = false → X.alls (fun x => X.men id x = false) xs
 | [], _ => trivial
 | x :: xs, e => by
  simp only [X.mens, Bool.or_eq_false_iff] at e
  exact ⟨X.all_men e.1, X.alls_men e.2⟩
end

structure Rp (L : List E) (val : Nat → Value) (H : Nat → Value) (G : Nat → FP) (w : World) : Prop where
 one : ∀ id m t m' t', rts L id m t → rts L id m' t' → m = m' ∧ t = t'
 own : ∀ id m t, rts L id m t → m ≠ .ro → Own w t (G id) (H id)
 ro : ∀ id t, rts L id .ro t → Rd w t (G id) (H id)
 rold : ∀ id t, rts L id .ro t → ∀ x y, G id x y → x < w.heap.size
 box : ∀ id t, rts L id .box t → ∃ n f, t = .s n 1 f
 dis : ∀ id m t id' m' t', rts L id m t → rts L id' m' t' → id ≠ id' → m ≠ .ro → ∀ x y, G id x y → G id' x y → False
 sl : ∀ t x, E.sl t x ∈ L → VR (rts L) H w x (val t)
 al : ∀ id c x, E.al id c x ∈ L → ∃ n f, rts L id .box (.s n 1 f) ∧ c < n ∧ ∃ A v, adr (H id) 0 0 c = some A ∧ w.cell? A = some v ∧ VR (rts L) H w x v

def Act.val (a : Act) (t : Nat) : Value := a.tmps.getD t undef

structure Cx where
 w0 : World
 S0 : FP
 H0 : Nat → Value
def base : Nat := 100000
def isErrVar : Array Value → Prop := fun cs => ∃ ev, cs = #[ev] ∧ (ev = .nilIface ∨ ∃ te pe, ev = .iface te pe)
def tabList : List (String × (Array Value → Prop)) := [("internal/strconv.uint64pow10", fun cs => cs = (Lib.pow10Tab.map fun z => Value.int .u64 z).toArray), ("strconv.ErrSyntax", isErrVar), ("strconv.ErrRange", isErrVar)]
def tabNames : List String := tabList.map (·.1)
def TabsOk (P : Program) (w : World) : Prop := ∀ e ∈ tabList, ∀ g, P.globalNamed e.1 = some g → ∃ cs, w.var? P e.1 = some cs ∧ e.2 cs
def TabBlk (P : Program) (a : Nat) : Prop := ∃ e ∈ tabList, P.globalNamed e.1 = some a
theorem TabsOk.cells {P : Program} {w : World} (h : TabsOk P w) {e : String × (Array Value → Prop)} (he : e ∈ tabList) {g : Nat} (hg : P.globalNamed e.1 = some g) : ∃ cs t fr, w.heap[g]? = some (.cells cs t fr) ∧ e.2 cs := by
 obtain ⟨cs, h1, h2⟩ := h e he g hg
 unfold World.var? at h1
 rw [hg, Option.bind_some] at h1
 split at h1
 ·rename_i c t fr hh
  cases h1
  exact ⟨_, _, _, hh, h2⟩
 ·cases h1
theorem TabsOk.old {P : Program} {w : World} (h : TabsOk P w) {a : Nat} (hb : TabBlk P a) : a < w.heap.size := by
 obtain ⟨e, he, hg⟩ := hb
 obtain ⟨cs, t, fr, h1, _⟩ := h.cells he hg
 exact (Array.getElem?_eq_some_iff.1 h1).1
theorem TabsOk.chg {P : Program} {S : FP} {w w' : World} (h : TabsOk P w) (hC : Chg S w w') (hS : ∀ a o, S a o → ¬ TabBlk P a) : TabsOk P w' := fun e he g hg => by
 obtain ⟨cs, t, fr, h1, h2⟩ := h.cells he hg
 obtain ⟨cs', k1, k2, k3⟩ := hC.cells g cs t fr h1
 have : cs' = cs := by
  apply Array.ext k2
  intro i hi hi'
  have := k3 i fun hs => hS g i hs ⟨e, he, hg⟩
  rw [Array.getElem?_eq_getElem hi, Array.getElem?_eq_getElem hi'] at this
  exact Option.some.inj this
 subst this
 refine ⟨cs', ?_, h2⟩
 unfold World.var?
 rw [hg, Option.bind_some, k1]
theorem tabs_none {P : Program} (h : (tabNames.all fun n => (P.globalNamed n).isNone) = true) (w : World) : TabsOk P w := fun e he g hg => by
 have h1 : e.1 ∈ tabNames := List.mem_map.2 ⟨e, he, rfl⟩
 have := List.all_eq_true.1 h _ h1
 rw [hg] at this
 cases this
structure CxP (P : Program) extends Cx where
 tab : TabsOk P w0
 av : ∀ a o, S0 a o → ¬ TabBlk P a
instance {P : Program} : CoeOut (CxP P) Cx := ⟨CxP.toCx⟩
theorem CxP.now {P : Program} (cx : CxP P) {w : World} (h : Chg cx.S0 cx.w0 w) : TabsOk P w := cx.tab.chg h cx.av
theorem CxP.avN {P : Program} (cx : CxP P) {a o : Nat} (h : cx.S0 a o ∨ cx.w0.heap.size ≤ a) : ¬ TabBlk P a := fun hb => by
 rcases h with h | h
 ·exact cx.av a o h hb
 ·have := cx.tab.old hb; omega
structure Sat (N : Nat) (cx : Cx) (L : List E) (a : Act) (w : World) : Prop where
 siz : N ≤ a.tmps.size
 dfr : a.defers = []
 chg : Chg cx.S0 cx.w0 w
 rp : ∃ H G, Rp L (Act.val a) H G w ∧ (∀ id m t, rts L id m t → m ≠ .ro → ∀ x y, G id x y → cx.S0 x y ∨ cx.w0.heap.size ≤ x) ∧ ∀ id m t, base ≤ id → rts L id m t → H id = cx.H0 id

def QQ (N : Nat) (cx : Cx) (Q : Exit → List E → Prop) : Exit → Act → World → Prop := fun e a w => ∃ L, Q e L ∧ Sat N cx L a w
def AW (P : Program) (N : Nat) (c : Code) (Q : Exit → List E → Prop) (L : List E) : Prop := ∀ (cx : CxP P) a w, Sat N cx L a w → c.wp P (QQ N cx Q) a w

section
variable {P : Program} {N : Nat} {Q : Exit → List E → Prop} {L : List E}
theorem AW.skip (h : Q .normal L) : AW P N .skip Q L := fun _ _ _ hs => wp_skip ⟨L, h, hs⟩
theorem AW.ret (h : Q .ret L) : AW P N .ret Q L := fun _ _ _ hs => wp_ret ⟨L, h, hs⟩
theorem AW.exit {i : Nat} (h : Q (.exit i) L) : AW P N (.exit i) Q L := fun _ _ _ hs => wp_exit ⟨L, h, hs⟩
@[reducible] def thenQ (K : List E → Prop) (Q : Exit → List E → Prop) : Exit → List E → Prop := fun e L => match e with | .normal => K L | e => Q e L
theorem AW.seq {x y : Code} (h : AW P N x (thenQ (AW P N y Q) Q) L) : AW P N (.seq x y) Q L := fun cx a w hs =>
 wp_seq (Code.wp_mono (fun e a w ⟨L, h1, h2⟩ => by cases e <;> first | exact h1 cx a w h2 | exact ⟨L, h1, h2⟩) (h cx a w hs))
@[reducible] def blockQ (i : Nat) (Q : Exit → List E → Prop) : Exit → List E → Prop := fun e L => match e with | .exit j => if j = i then Q .normal L else Q (.exit j) L | e => Q e L
theorem AW.block {i : Nat} {c : Code} (h : AW P N c (blockQ i Q) L) : AW P N (.block i c) Q L := fun cx a w hs =>
 wp_block (Code.wp_mono (fun e a w ⟨L, h1, h2⟩ => by
  cases e with
  | exit j =>
   simp only [blockQ] at h1
   simp only [Exit.inBlock]
   split
   ·rename_i he; rw [if_pos he] at h1; exact ⟨L, h1, h2⟩
   ·rename_i he; rw [if_neg he] at h1; exact ⟨L, h1, h2⟩
  | _ => exact ⟨L, h1, h2⟩) (h cx a w hs))
def Weak (N : Nat) (L L' : List E) : Prop := ∀ cx a w, Sat N cx L a w → Sat N cx L' a w
theorem AW.weak {c : Code} {L' : List E} (hw : Weak N L L') (h : AW P N c Q L') : AW P N c Q L := fun cx a w hs => h cx a w (hw cx a w hs)
theorem least_ex {p : Nat → Prop} (h : ∃ n, p n) : ∃ n, p n ∧ ∀ m, p m → n ≤ m := by
 obtain ⟨n, hn⟩ := h
 induction n using Nat.strongRecOn with
 | _ n ih =>
  by_cases hm : ∃ m, m < n ∧ p m
  ·obtain ⟨m, h1, h2⟩ := hm
   exact ih m h1 h2
  ·exact ⟨n, hn, fun m hp => Nat.le_of_not_lt fun hlt => hm ⟨m, hlt, hp⟩⟩
open Classical in
noncomputable def least (p : Nat → Prop) : Nat := if h : ∃ n, p n then (least_ex h).choose else 0
theorem least_spec {p : Nat → Prop} (h : ∃ n, p n) : p (least p) := by unfold least; rw [dif_pos h]; exact (least_ex h).choose_spec.1
theorem least_le {p : Nat → Prop} {n : Nat} (h : p n) : least p ≤ n := by
 have hh : ∃ n, p n := ⟨n, h⟩
 unfold least; rw [dif_pos hh]; exact (least_ex hh).choose_spec.2 n h
theorem AW.loop {c : Code} {ι : Type} (J : ι → List E) (μ : ι → Nat) (i : ι) (h : ∀ i, AW P N c (thenQ (fun L => ∃ i', Weak N L (J i') ∧ μ i' < μ i) Q) (J i)) : AW P N (.loop c) Q (J i) := fun cx a w hs => by
 refine wp_loop (fun a w => ∃ n i, μ i = n ∧ Sat N cx (J i) a w) (fun a w => least fun n => ∃ i, μ i = n ∧ Sat N cx (J i) a w) ⟨_, i, rfl, hs⟩ ?_
 intro a w hI
 obtain ⟨i, hi, hsi⟩ := least_spec hI
 refine Code.wp_mono (fun e a w ⟨L, h1, h2⟩ => ?_) (h i cx a w hsi)
 cases e with
 | normal =>
  obtain ⟨i', hW, hlt⟩ := h1
  have := hW _ _ _ h2
  exact ⟨⟨_, i', rfl, this⟩, Nat.lt_of_le_of_lt (least_le ⟨i', rfl, this⟩) (hi ▸ hlt)⟩
 | _ => exact ⟨L, h1, h2⟩
end
open Go Go.RowKit

def slotL : List E → Nat → X
 | [], _ => .j
 | .sl t x :: r, d => if t = d then x else slotL r d
 | _ :: r, d => slotL r d
def rootL : List E → Nat → Option (M × T)
 | [], _ => none
 | .rt i m t :: r, d => if i = d then some (m, t) else rootL r d
 | _ :: r, d => rootL r d
def delS : List E → Nat → List E
 | [], _ => []
 | .sl t x :: r, d => if t = d then delS r d else .sl t x :: delS r d
 | .rt i m t :: r, d => .rt i m t :: delS r d
 | .al i c x :: r, d => .al i c x :: delS r d
def putL (L : List E) (d : Nat) (x : X) : List E := .sl d x :: delS L d
def evX (L : List E) : Operand → X
 | .tmp t => slotL L t
 | .const v => .v v
 | .func f => .f f []
 | .global _ => .j

theorem slotL_mem : ∀ {L : List E} {d : Nat}, slotL L d = .j ∨ E.sl d (slotL L d) ∈ L
 | [], _ => .inl rfl
 | .sl t x :: r, d => by
  simp only [slotL]
  split
  ·rename_i h; subst h; exact .inr (List.mem_cons_self ..)
  ·exact (slotL_mem (L := r)).imp_right (List.mem_cons_of_mem _)
 | .rt .. :: r, d => (slotL_mem (L := r)).imp_right (List.mem_cons_of_mem _)
 | .al .. :: r, d => (slotL_mem (L := r)).imp_right (List.mem_cons_of_mem _)
theorem rootL_mem : ∀ {L : List E} {d : Nat} {m : M} {t : T}, rootL L d = some (m, t) → rts L d m t
 | .sl .. :: r, d, m, t, h => List.mem_cons_of_mem _ (rootL_mem (L := r) h)
 | .al .. :: r, d, m, t, h => List.mem_cons_of_mem _ (rootL_mem (L := r) h)
 | .rt i m' t' :: r, d, m, t, h => by
  simp only [rootL] at h
  split at h
  ·rename_i he; subst he; cases h; exact List.mem_cons_self ..
  ·exact List.mem_cons_of_mem _ (rootL_mem (L := r) h)
theorem delS_mem : ∀ {L : List E} {d : Nat} {e : E}, e ∈ delS L d ↔ e ∈ L ∧ ∀ x, e ≠ .sl d x
 | [], _, _ => by simp [delS]
 | .sl t x :: r, d, e => by
  simp only [delS]
  split
  ·rename_i h; subst h
   rw [delS_mem]
   constructor
   ·rintro ⟨h1, h2⟩; exact ⟨List.mem_cons_of_mem _ h1, h2⟩
   ·rintro ⟨h1, h2⟩
    rcases List.mem_cons.1 h1 with h | h
    ·exact absurd h (h2 x)
    ·exact ⟨h, h2⟩
  ·rename_i h
   rw [List.mem_cons, delS_mem, List.mem_cons]
   constructor
   ·rintro (h1 | ⟨h1, h2⟩)
    ·subst h1; exact ⟨.inl rfl, fun y hy => by cases hy; exact h rfl⟩
    ·exact ⟨.inr h1, h2⟩
   ·rintro ⟨h1 | h1, h2⟩
    ·exact .inl h1
    ·exact .inr ⟨h1, h2⟩
 | .rt i m t :: r, d, e => by
  simp only [delS]
  rw [List.mem_cons, delS_mem, List.mem_cons]
  constructor
  ·rintro (h1 | ⟨h1, h2⟩)
   ·subst h1; exact ⟨.inl rfl, fun y hy => by cases hy⟩
   ·exact ⟨.inr h1, h2⟩
  ·rintro ⟨h1 | h1, h2⟩
   ·exact .inl h1
   ·exact .inr ⟨h1, h2⟩
 | .al i c x :: r, d, e => by
  simp only [delS]
  rw [List.mem_cons, delS_mem, List.mem_cons]
  constructor
  ·rintro (h1 | ⟨h1, h2⟩)
   ·subst h1; exact ⟨.inl rfl, fun y hy => by cases hy⟩
   ·exact ⟨.inr h1, h2⟩
  ·rintro ⟨h1 | h1, h2⟩
   ·exact .inl h1
   ·exact .inr ⟨h1, h2⟩
theorem rts_put {L : List E} {d : Nat} {x : X} : rts (putL L d x) = rts L := by
 funext id m t
 simp only [rts, putL, List.mem_cons, delS_mem]
 simp

theorem Act.val_put {a : Act} {d : Nat} {v : Value} (hd : d < a.tmps.size) (t : Nat) : Act.val (a.put (some d) v) t = if t = d then v else Act.val a t := by
 simp only [Act.val, Go.Act.put]
 by_cases h : t = d
 ·subst h; simp [hd]
 ·rw [if_neg h]; simp [Array.getElem?_setIfInBounds_ne (Ne.symm h)]
theorem VRs.nth {R : RT} {H : Nat → Value} {w : World} : ∀ {xs : List X} {vs : List Value}, VRs R H w xs vs → xs.length = vs.length ∧ ∀ i, VR R H w (xs.getD i .j) (vs.getD i undef)
 | [], [], _ => ⟨rfl, fun i => by simp [VR]⟩
 | x :: xs, v :: vs, ⟨h1, h2⟩ => ⟨by simp [(VRs.nth h2).1], fun i => by
  cases i with
  | zero => exact h1
  | succ i => exact (VRs.nth h2).2 i⟩
 | [], _ :: _, h => h.elim
 | _ :: _, [], h => h.elim

section
variable {P : Program} {N : Nat} {Q : Exit → List E → Prop} {L : List E} {cx : Cx} {a : Act} {w : World}

theorem Rp.put {val : Nat → Value} {H : Nat → Value} {G : Nat → FP} (h : Rp L val H G w) {d : Nat} {x : X} {v : Value} (hx : VR (rts L) H w x v) : Rp (putL L d x) (fun t => if t = d then v else val t) H G w := by
 refine ⟨?_, ?_, ?_, ?_, ?_, ?_, ?_, ?_⟩
 ·rw [rts_put]; exact h.one
 ·rw [rts_put]; exact h.own
 ·rw [rts_put]; exact h.ro
 ·rw [rts_put]; exact h.rold
 ·rw [rts_put]; exact h.box
 ·rw [rts_put]; exact h.dis
 ·rw [rts_put]
  intro t y hy
  rcases List.mem_cons.1 hy with he | he
  ·cases he; simp only [if_true]; exact hx
  ·obtain ⟨h1, h2⟩ := delS_mem.1 he
   have hne : t ≠ d := fun e => h2 y (by rw [e])
   simp only [hne, if_false]; exact h.sl t y h1
 ·rw [rts_put]
  intro id c y hy
  rcases List.mem_cons.1 hy with he | he
  ·cases he
  ·exact h.al id c y (delS_mem.1 he).1
theorem Rp.val {val val' : Nat → Value} {H : Nat → Value} {G : Nat → FP} (h : Rp L val H G w) (he : ∀ t, val t = val' t) : Rp L val' H G w := by
 have : val = val' := funext he
 exact this ▸ h
theorem Sat.put {H : Nat → Value} {G : Nat → FP} (h : Sat N cx L a w) (hr : Rp L (Act.val a) H G w) (hg : (∀ id m t, rts L id m t → m ≠ .ro → ∀ x y, G id x y → cx.S0 x y ∨ cx.w0.heap.size ≤ x) ∧ ∀ id m t, base ≤ id → rts L id m t → H id = cx.H0 id) {d : Nat} (hd : d < N) {x : X} {v : Value} (hx : VR (rts L) H w x v) : Sat N cx (putL L d x) (a.put (some d) v) w :=
 ⟨by simpa [Go.Act.put] using h.siz, by simpa [Go.Act.put] using h.dfr, h.chg, H, G, (hr.put hx).val fun t => (Act.val_put (Nat.lt_of_lt_of_le hd h.siz) t).symm, by rw [rts_put]; exact hg⟩

theorem ev_ok {H : Nat → Value} {G : Nat → FP} (hr : Rp L (Act.val a) H G w) : ∀ x : Operand, VR (rts L) H w (evX L x) (a.eval x)
 | .tmp t => by
  simp only [evX, Act.eval]
  rcases slotL_mem (L := L) (d := t) with h | h
  ·rw [h]; trivial
  ·exact hr.sl t _ h
 | .const v => rfl
 | .func f => ⟨[], rfl, trivial⟩
 | .global _ => trivial

def AWL (P : Program) (N : Nat) (ops : Array Oper) (l : List Oper) (Q : Exit → List E → Prop) (L : List E) : Prop := ∀ (cx : CxP P) a w, Sat N cx L a w → wpList P ops (QQ N cx Q) l a w
theorem AW.region {id : Nat} {l : List Oper} (h : AWL P N l.toArray l Q L) : AW P N (.region id l.toArray false) Q L := fun cx a w hs => wp_region_lit (h cx a w hs)
variable {ops : Array Oper} {o : Oper} {rest : List Oper}
theorem AWL.nil (h : Q .normal L) : AWL P N ops [] Q L := fun _ _ _ hs => wpList_nil ⟨L, h, hs⟩
theorem AWL.weak {l : List Oper} {L' : List E} (hw : Weak N L L') (h : AWL P N ops l Q L') : AWL P N ops l Q L := fun cx a w hs => h cx a w (hw cx a w hs)
def wantL (ops : Array Oper) (L : List E) (o : Oper) : Option Bool :=
 match o.guard with
 | none => some true
 | some (j, want) => match (ops[j]?).bind (·.dst) with
  | none => none
  | some t => match slotL L t with
   | .v (.bool b) => some (match want with | true => b | false => !b)
   | .v (.tuple _) => some false
   | _ => none
theorem wantL_ok {ops : Array Oper} {b : Bool} (h : wantL ops L o = some b) {H : Nat → Value} {G : Nat → FP} (hr : Rp L (Act.val a) H G w) : Region.wanted o (yielded ops a.tmps) = b := by
 unfold wantL at h
 unfold Region.wanted
 split at h
 ·rename_i hg; rw [hg]; simpa using h
 ·rename_i j want hg
  rw [hg]
  split at h
  ·cases h
  ·rename_i t ht
   split at h
   ·rename_i b' hb
    have := ev_ok hr (.tmp t)
    simp only [evX, hb, VR, Act.eval] at this
    have h2 : a.tmps[t]? = some (.bool b') := by
     rcases Nat.lt_or_ge t a.tmps.size with hl | hl
     ·rw [Array.getElem?_eq_getElem hl]; simpa [hl] using this
     ·simp [Array.getElem?_eq_none hl, undef] at this
    have hy : yielded ops a.tmps j = some b' := by simp only [yielded, ht, Option.bind_some, h2]
    simp only [hy]
    simp only [Option.some.injEq] at h
    rw [← h]
    cases b' <;> cases want <;> rfl
   ·rename_i us hb
    have := ev_ok hr (.tmp t)
    simp only [evX, hb, VR, Act.eval] at this
    have hy : yielded ops a.tmps j = none := by
     simp only [yielded, ht, Option.bind_some]
     rcases Nat.lt_or_ge t a.tmps.size with hl | hl
     ·rw [Array.getElem?_eq_getElem hl]
      have h3 : a.tmps[t] = .tuple us := by simpa [hl] using this
      rw [h3]
     ·rw [Array.getElem?_eq_none hl]
    simp only [hy]
    simp only [Option.some.injEq] at h
    rw [← h]
    rfl
   ·cases h
def Qt (P : Program) (o : Oper) (L : List E) (x : X) : Prop := ∀ (H : Nat → Value) (w : World) (a : Act), (∀ y, VR (rts L) H w (evX L y) (Act.eval a y)) → (∃ val G, Rp L val H G w) → ∃ v, (execOp a.eval o).run P w = .ok (.value v) w ∧ VR (rts L) H w x v
def Stp (P : Program) (N : Nat) (o : Oper) (L L' : List E) : Prop := ∀ (cx : CxP P) a w Q, Sat N cx L a w → o.wp P a w (fun b w' => (∃ v, b = a.put o.dst v) ∧ Sat N cx L' b w') Q
theorem Stp.op {L' : List E} (h : ∀ cx a w, Sat N cx L a w → ∃ v w', (execOp a.eval o).run P w = .ok (.value v) w' ∧ Sat N cx L' (a.put o.dst v) w') : Stp P N o L L' := fun cx a w Q hs => by
 obtain ⟨v, w', h1, h2⟩ := h cx a w hs
 unfold Oper.wp
 rw [h1]
 exact ⟨⟨v, rfl⟩, h2⟩
theorem Stp.opu {L' : List E} (h : ∀ cx a w, Sat N cx L a w → ∃ w', (execOp a.eval o).run P w = .ok .skip w' ∧ Sat N cx L' (a.put o.dst undef) w') : Stp P N o L L' := fun cx a w Q hs => by
 obtain ⟨w', h1, h2⟩ := h cx a w hs
 unfold Oper.wp
 rw [h1]
 exact ⟨⟨_, rfl⟩, h2⟩
theorem Stp.q {d : Nat} {x : X} (hd : o.dst = some d) (hN : d < N) (h : Qt P o L x) : Stp P N o L (putL L d x) :=
 Stp.op fun cx a w hs => by
  obtain ⟨H, G, hr, hG⟩ := hs.rp
  obtain ⟨v, h1, h2⟩ := h H w a (ev_ok hr) ⟨_, G, hr⟩
  exact ⟨v, w, h1, by rw [hd]; exact hs.put hr hG hN h2⟩
theorem AWL.step {L' : List E} {gb : Bool} (hw : wantL ops L o = some gb) (hgb : gb = true) (h : Stp P N o L L') (k : AWL P N ops rest Q L') : AWL P N ops (o :: rest) Q L := fun cx a w hs => by
 obtain ⟨H, G, hr, hG⟩ := hs.rp
 subst hgb
 simp only [wpList, wantL_ok hw hr, if_true]
 exact .inl (Oper.wp_mono (fun b w' hb => k cx _ _ hb.2) (h cx a w _ hs))
theorem AWL.q {d : Nat} {x : X} {gb : Bool} (hw : wantL ops L o = some gb) (hgb : gb = true) (hd : o.dst = some d) (hN : d < N) (h : Qt P o L x) (k : AWL P N ops rest Q (putL L d x)) : AWL P N ops (o :: rest) Q L :=
 AWL.step hw hgb (Stp.q hd hN h) k
theorem AWL.out {d : Nat} {gb : Bool} (hw : wantL ops L o = some gb) (hgb : gb = false) (hd : o.dst = some d) (hN : d < N) (k : AWL P N ops rest Q (putL L d (.v undef))) : AWL P N ops (o :: rest) Q L := fun cx a w hs => by
 obtain ⟨H, G, hr, hG⟩ := hs.rp
 subst hgb
 simp only [wpList, wantL_ok hw hr]
 rw [hd]
 exact k cx _ _ (hs.put hr hG hN rfl)
theorem AWL.split {l : List Oper} (t : Nat) {b : Bool} (_ : slotL L t = .v (.bool b)) (ht : b = true → AWL P N ops l Q L) (hf : b = false → AWL P N ops l Q L) : AWL P N ops l Q L := by
 cases b
 ·exact hf rfl
 ·exact ht rfl
theorem Qt.move {dst : Option Tmp} {x : Operand} {ty : TypeId} {pos : String} {af : Array Edge} {g : Option (Nat × Bool)} : Qt P ⟨dst, .move x, ty, pos, af, g⟩ L (evX L x) :=
 fun _ _ a he _ => ⟨a.eval x, rfl, he x⟩
theorem Qt.assign {dst : Option Tmp} {x : Operand} {ty : TypeId} {pos : String} {af : Array Edge} {g : Option (Nat × Bool)} : Qt P ⟨dst, .assign x, ty, pos, af, g⟩ L (evX L x) :=
 fun _ _ a he _ => ⟨a.eval x, rfl, he x⟩
theorem AW.cond {c : Operand} {x y : Code} {t : Bool} (hc : evX L c = .v (.bool t)) (ht : t = true → AW P N x Q L) (hf : t = false → AW P N y Q L) : AW P N (.cond c x y) Q L := fun cx a w hs => by
 obtain ⟨H, G, hr, hG⟩ := hs.rp
 have h := ev_ok hr c
 rw [hc] at h
 exact wp_cond_split h (fun e => ht e cx a w hs) (fun e => hf e cx a w hs)
end
open Go Go.RowKit

theorem adr_some {h : Value} {n k c : Nat} {A : Addr} (e : adr h n k c = some A) : ∃ a l cap, h = .slice (some a) l cap ∧ A = ⟨a.block, a.off + (k * n + c), none⟩ := by
 unfold adr at e
 split at e
 ·cases e; exact ⟨_, _, _, rfl, rfl⟩
 ·cases e
theorem at_snoc : ∀ {q : Path} {t : T} {n len : Nat} {f : Nat → Nat → T} {n' k c : Nat}, t.at q = .s n len f → t.at (q ++ [(n', k, c)]) = f k c
  | [], t, n, len, f, n', k, c, h => by simp only [T.at] at h; subst h; simp [T.at]
  | (n0, k0, c0) :: q, .s n1 l1 f1, n, len, f, n', k, c, h => by
    simp only [List.cons_append, T.at] at h ⊢
    exact at_snoc h
  | _ :: _, .v _, _, _, _, _, _, _, h => by simp [T.at] at h
  | _ :: _, .j, _, _, _, _, _, _, h => by simp [T.at] at h
theorem okp_snoc : ∀ {q : Path} {t : T} {n len : Nat} {f : Nat → Nat → T} {k c : Nat}, Okp t q → t.at q = .s n len f → k < len → c < n → Okp t (q ++ [(n, k, c)])
  | [], t, n, len, f, k, c, _, h, hk, hc => by simp only [T.at] at h; subst h; exact ⟨rfl, hk, hc, by simp [Okp]⟩
  | (n0, k0, c0) :: q, .s n1 l1 f1, n, len, f, k, c, ⟨h1, h2, h3, h4⟩, h, hk, hc => ⟨h1, h2, h3, okp_snoc h4 (by simpa only [T.at] using h) hk hc⟩
  | _ :: _, .v _, _, _, _, _, _, h, _, _, _ => h.elim
  | _ :: _, .j, _, _, _, _, _, h, _, _, _ => h.elim
theorem hd_snoc {w : World} : ∀ {q : Path} {h h' : Value} {n k c : Nat} {A : Addr} {v : Value}, hd w h q = some h' → adr h' n k c = some A → w.cell? A = some v → hd w h (q ++ [(n, k, c)]) = some v
  | [], h, h', n, k, c, A, v, e, ha, hv => by
    simp only [hd, Option.some.injEq] at e; subst e
    simp only [List.nil_append, hd, ha, hv]
  | (n0, k0, c0) :: q, h, h', n, k, c, A, v, e, ha, hv => by
    simp only [List.cons_append, hd] at e ⊢
    split at e
    · split at e
      · exact hd_snoc e ha hv
      · cases e
    · cases e

def Sl (P : Program) (t e : TypeId) : Prop := P.underlying t = some (.slice e)
def Sz (P : Program) (t : TypeId) (n : Nat) : Prop := ∀ w, (sizeOf t).run P w = .ok n w
def Ag (P : Program) (t : TypeId) (b : Bool) : Prop := ∀ w, (isAgg t).run P w = .ok b w
def Fld (P : Program) (t : TypeId) (i off : Nat) : Prop := ∀ (b o : Nat) w, (Instr.fieldAt t (.pointer (some ⟨b, o, none⟩)) i).run P w = .ok (.pointer (some ⟨b, o + off, none⟩)) w

section
variable {P : Program} {N : Nat} {Q : Exit → List E → Prop} {L : List E} {val : Nat → Value} {H : Nat → Value} {G : Nat → FP} {w : World}

theorem Rp.node' (hr : Rp L val H G w) {id : Nat} {m : M} {t : T} (h : rts L id m t) {q : Path} (hq : Okp t q) : ∃ h' F, hd w (H id) q = some h' ∧ Rd w (t.at q) F h' ∧ ∀ x y, F x y → x < w.heap.size := by
 have : Rd w t (G id) (H id) := by
  cases m with
  | ro => exact hr.ro id t h
  | box => exact (hr.own id _ t h (by simp)).rd
  | row => exact (hr.own id _ t h (by simp)).rd
 obtain ⟨h', F, h1, h2, h3⟩ := this.at hq
 refine ⟨h', F, h1, h2, fun x y hF => ?_⟩
 cases m with
 | ro => exact hr.rold id t h x y (h3 x y hF)
 | box => exact (hr.own id _ t h (by simp)).old x y (h3 x y hF)
 | row => exact (hr.own id _ t h (by simp)).old x y (h3 x y hF)
theorem Rp.node (hr : Rp L val H G w) {id : Nat} {m : M} {t : T} (h : rts L id m t) {q : Path} (hq : Okp t q) : ∃ h' F, hd w (H id) q = some h' ∧ Rd w (t.at q) F h' :=
 let ⟨h', F, h1, h2, _⟩ := hr.node' h hq
 ⟨h', F, h1, h2⟩
theorem Rd.row {w : World} {n len : Nat} {f : Nat → Nat → T} {F : FP} {h : Value} (hR : Rd w (.s n len f) F h) {k c : Nat} (hk : k < len) (hc : c < n) :
  ∃ b o cap off, h = .slice (some ⟨b, off, none⟩) len cap ∧ o = off + (k * n + c) ∧ adr h n k c = some ⟨b, o, none⟩ ∧ ∀ i, c + i < n → ∃ x F', w.cell? ⟨b, o + i, none⟩ = some x ∧ Rd w (f k (c + i)) F' x := by
 obtain ⟨hn, a, cap, h0, hl, hm, b, off, V, G, h1, h2⟩ := hR
 have ha := h1 (by omega)
 subst ha
 refine ⟨b, off + (k * n + c), cap, off, h0, rfl, by rw [h0]; rfl, fun i hi => ?_⟩
 obtain ⟨e1, e2, _, _⟩ := h2 k (c + i) hk hi
 exact ⟨_, _, by rw [← e1]; congr 2; omega, e2⟩
theorem Rd.hdr {w : World} {n len : Nat} {f : Nat → Nat → T} {F : FP} {h : Value} (hR : Rd w (.s n len f) F h) : ∃ a cap, h = .slice a len cap ∧ len ≤ cap ∧ cap ≤ maxLen := by
 obtain ⟨_, a, cap, h0, hl, hm, _⟩ := hR
 exact ⟨a, cap, h0, hl, hm⟩

def aliasL : List E → Nat → Nat → X
 | [], _, _ => .j
 | .al i c x :: r, id, c' => if i = id ∧ c = c' then x else aliasL r id c'
 | _ :: r, id, c' => aliasL r id c'
theorem aliasL_mem : ∀ {L : List E} {id c : Nat}, aliasL L id c = .j ∨ E.al id c (aliasL L id c) ∈ L
 | [], _, _ => .inl rfl
 | .al i c x :: r, id, c' => by
  simp only [aliasL]
  split
  ·rename_i h; obtain ⟨rfl, rfl⟩ := h; exact .inr (List.mem_cons_self ..)
  ·exact (aliasL_mem (L := r)).imp_right (List.mem_cons_of_mem _)
 | .sl .. :: r, _, _ => (aliasL_mem (L := r)).imp_right (List.mem_cons_of_mem _)
 | .rt .. :: r, _, _ => (aliasL_mem (L := r)).imp_right (List.mem_cons_of_mem _)
def cellX (L : List E) (id : Nat) (q : Path) (n k c : Nat) : T → X
 | .v y => .v y
 | .s .. => .h id (q ++ [(n, k, c)])
 | .j => match q, k with | [], 0 => (match aliasL L id c with | .j => .c | x => x) | _, _ => .c

theorem cellX_ok (hr : Rp L val H G w) {id : Nat} {m : M} {t : T} (h : rts L id m t) {q : Path} (hq : Okp t q) {n len : Nat} {f : Nat → Nat → T} (ht : t.at q = .s n len f) {k c : Nat} (hk : k < len) (hc : c < n)
  {h' : Value} {b o : Nat} {x : Value} {F : FP} (h1 : hd w (H id) q = some h') (h2 : adr h' n k c = some ⟨b, o, none⟩) (h3 : w.cell? ⟨b, o, none⟩ = some x) (h4 : Rd w (f k c) F x) : VR (rts L) H w (cellX L id q n k c (f k c)) x := by
 cases hf : f k c with
 | v y => rw [hf] at h4; exact h4.1
 | s n' len' f' =>
  refine ⟨m, t, h, okp_snoc hq ht hk hc, ⟨n', len', f', by rw [at_snoc ht]; exact hf⟩, hd_snoc h1 h2 h3⟩
 | j =>
  have hone : VR (rts L) H w .c x := by
   rw [hf] at h4; exact h4
  simp only [cellX]
  split
  ·split
   ·exact hone
   ·rcases aliasL_mem (L := L) (id := id) (c := c) with e | e
    ·rw [e]; trivial
    ·obtain ⟨_, _, _, _, A, v, g1, g2, g3⟩ := hr.al _ _ _ e
     simp only [hd, Option.some.injEq] at h1
     subst h1
     have : A = ⟨b, o, none⟩ := by
      obtain ⟨a0, l0, c0, hH, e1⟩ := adr_some g1
      obtain ⟨a1, l1, c1, hH', e2⟩ := adr_some h2
      rw [hH] at hH'; cases hH'
      rw [e1, e2]; simp
     subst this
     rw [g2] at h3
     cases h3
     exact g3
  ·exact hone
end

section
variable {P : Program} {N : Nat} {Q : Exit → List E → Prop} {L : List E} {ops : Array Oper} {rest : List Oper} {dst : Option Tmp} {ty : TypeId} {pos : String} {af : Array Edge} {g : Option (Nat × Bool)}

theorem Qt.fieldAddr {t : TypeId} {x : Operand} {i off id : Nat} {q : Path} {n k c : Nat} (hx : evX L x = .p id q n k c) (hF : Fld P t i off) {m : M} {T0 : T} (hR : rootL L id = some (m, T0)) {len : Nat} {f : Nat → Nat → T} (hT : T0.at q = .s n len f) (hc : c + off < n) : Qt P ⟨dst, .fieldAddr t x i, ty, pos, af, g⟩ L (.p id q n k (c + off)) :=
 (fun H w a he ⟨val, G, hr⟩ => by
  have h := he x
  rw [hx] at h
  obtain ⟨m', t', g1, g2, ⟨l', f', g3, g4, g5⟩, hv, A, g6, g7, g8⟩ := h
  obtain ⟨rfl, rfl⟩ := hr.one _ _ _ _ _ g1 (rootL_mem hR)
  have hA : ∃ b o, A = ⟨b, o, none⟩ ∧ adr hv n k (c + off) = some ⟨b, o + off, none⟩ := by
   obtain ⟨a0, l0, c0, e1, e2⟩ := adr_some g7
   exact ⟨_, _, e2, by rw [e1]; simp only [adr, Option.some.injEq]; congr 1; omega⟩
  obtain ⟨b, o, rfl, hA2⟩ := hA
  refine ⟨.pointer (some ⟨b, o + off, none⟩), ?_, m', t', g1, g2, ⟨l', f', g3, g4, ?_⟩, hv, _, g6, hA2, rfl⟩
  ·simp only [execOp, g8]
   simp [hF b o w]
  ·rw [hT] at g3; cases g3; exact hc)
theorem Qt.nilCheck {x : Operand} {id : Nat} {q : Path} {n k c : Nat} (hx : evX L x = .p id q n k c) : Qt P ⟨dst, .nilCheck x, ty, pos, af, g⟩ L (.p id q n k c) :=
 (fun H w a he ⟨val, G, hr⟩ => by
  have h := he x
  rw [hx] at h
  obtain ⟨m', t', g1, g2, g3, hv, A, g6, g7, g8⟩ := h
  refine ⟨.pointer (some A), ?_, m', t', g1, g2, g3, hv, A, g6, g7, rfl⟩
  simp only [execOp, g8]
  rfl)
theorem Qt.indexAddr {t e : TypeId} {x i : Operand} {id : Nat} {q : Path} {n len : Nat} {f : Nat → Nat → T} {kd : IntKind} {j : Int} (hx : evX L x = .h id q) {m : M} {T0 : T} (hR : rootL L id = some (m, T0)) (hT : T0.at q = .s n len f)
  (hi : evX L i = .v (.int kd j)) (hS : Sl P t e) (hZ : Sz P e n) (hn : 0 < n) (hj : 0 ≤ j ∧ j < len) : Qt P ⟨dst, .indexAddr t x i, ty, pos, af, g⟩ L (.p id q n j.toNat 0) :=
 (fun H w a he ⟨val, G, hr⟩ => by
  have h := he x
  have h' := he i
  rw [hx] at h
  rw [hi] at h'
  simp only [VR] at h'
  obtain ⟨m', t', g1, g2, g3, g4⟩ := h
  obtain ⟨rfl, rfl⟩ := hr.one _ _ _ _ _ g1 (rootL_mem hR)
  obtain ⟨hw, F, e1, e2⟩ := hr.node g1 g2
  rw [hT] at e2
  obtain ⟨b, o, cap, off, e3, e4, e5, e6⟩ := e2.row (k := j.toNat) (c := 0) (by omega) hn
  rw [e1] at g4
  cases g4
  refine ⟨.pointer (some ⟨b, o, none⟩), ?_, m', t', g1, g2, ⟨len, f, hT, by omega, hn⟩, _, _, e1, e5, rfl⟩
  have hrun := run_indexAt_slice (P := P) w t ⟨b, off, none⟩ len cap kd j (by rw [hS, Program.elem, hS])
  rw [if_pos hj, show P.elem t = e by rw [Program.elem, hS], hZ w] at hrun
  simp only [execOp, e3, h']
  simp only [Result.andThen] at hrun
  simp [hrun]
  subst e4
  rw [Addr.add]
  split <;> simp_all)
end
open Go Go.RowKit

def pureBin (op : BinOp) : Value → Value → Option Value
 | .int k a, .int k' b =>
  match op with
  | .shl => if b < 0 then none else some (.int k (k.wrap (a * 2 ^ (min b.toNat k.bits))))
  | .shr => if b < 0 then none else some (.int k (a.fdiv (2 ^ (min b.toNat k.bits))))
  | op => if k ≠ k' then none else
   match op with
   | .add => some (.int k (k.wrap (a + b)))
   | .sub => some (.int k (k.wrap (a - b)))
   | .mul => some (.int k (k.wrap (a * b)))
   | .quo => if b = 0 then none else some (.int k (k.wrap (a.tdiv b)))
   | .rem => if b = 0 then none else some (.int k (a.tmod b))
   | .and => some (.int k (k.wrap (BitVec.ofInt k.bits a &&& BitVec.ofInt k.bits b).toNat))
   | .or => some (.int k (k.wrap (BitVec.ofInt k.bits a ||| BitVec.ofInt k.bits b).toNat))
   | .xor => some (.int k (k.wrap (BitVec.ofInt k.bits a ^^^ BitVec.ofInt k.bits b).toNat))
   | .andNot => some (.int k (k.wrap (BitVec.ofInt k.bits a &&& ~~~ BitVec.ofInt k.bits b).toNat))
   | .eql => some (.bool (a == b))
   | .neq => some (.bool (a != b))
   | .lss => some (.bool (decide (a < b)))
   | .leq => some (.bool (decide (a ≤ b)))
   | .gtr => some (.bool (decide (a > b)))
   | .geq => some (.bool (decide (a ≥ b)))
   | _ => none
 | .string a, .string b =>
  match op with
  | .add => if a.size + b.size ≤ 9223372036854775807 then some (.string (a ++ b)) else none
  | .eql => some (.bool (a.toList == b.toList))
  | .neq => some (.bool !(a.toList == b.toList))
  | _ => none
 | _, _ => none
theorem run_guard {op : BinOp} {t : TypeId} {x y : Operand} {u v : Value} (h : (∃ k n, u = .int k n) ∨ (∃ s, u = .string s) ∨ ∃ b, u = .bool b) : eqGuard op t x y u v = pure () := by
 rcases h with ⟨k, n, rfl⟩ | ⟨s, rfl⟩ | ⟨b, rfl⟩
 ·exact eqGuard_at_int ..
 ·exact eqGuard_at_string ..
 ·exact eqGuard_at_bool ..
theorem run_pureBin {P : Program} {op : BinOp} {t : TypeId} {x y : Operand} {u v r : Value} (h : pureBin op u v = some r) (w : World) : (do eqGuard op t x y u v; binOp op t u v).run P w = .ok r w := by
  unfold pureBin at h
  split at h
  · rename_i k a k' b
    rw [run_guard (.inl ⟨k, a, rfl⟩)]
    split at h
    · split at h
      · cases h
      · rename_i hb; cases h; simp [binOp_shl, Op.shift, hb]
    · split at h
      · cases h
      · rename_i hb; cases h; simp [binOp_shr, Op.shift, hb]
    · split at h
      · cases h
      · rename_i hk
        obtain rfl : k = k' := by simpa using hk
        split at h <;> first
          | (cases h; simp [go_sem, Op.intArith, Op.intBits]; done)
          | (split at h
             · cases h
             · rename_i hb; cases h; simp [go_sem, Op.intDiv, hb])
          | cases h
  · rename_i a b
    rw [run_guard (.inr (.inl ⟨a, rfl⟩))]
    split at h
    · split at h
      · rename_i hs; cases h
        have : ¬ (9223372036854775807 < (a.size : Int) + (b.size : Int)) := by omega
        simp [binOp, Op.stringOp, this]
      · cases h
    · cases h; simp [binOp, Op.stringOp]
    · cases h; simp [binOp, Op.stringOp]
    · cases h
  · cases h

theorem run_v {P : Program} {s : Sem Value} {w w' : World} {r : Value} (h : s.run P w = .ok r w') : (do pure (Next.value (← s)) : Sem Next).run P w = .ok (.value r) w' := by simp [h]
section
variable {P : Program} {N : Nat} {Q : Exit → List E → Prop} {L : List E} {ops : Array Oper} {rest : List Oper} {dst : Option Tmp} {ty : TypeId} {pos : String} {af : Array Edge} {g : Option (Nat × Bool)}

theorem Qt.binOp {op : BinOp} {t t2 : TypeId} {x y : Operand} {u v r : Value} (hx : evX L x = .v u) (hy : evX L y = .v v) (hr : pureBin op u v = some r) : Qt P ⟨dst, .binOp op t x y t2, ty, pos, af, g⟩ L (.v r) :=
 (fun H w a he _ => by
  have h1 := he x
  have h2 := he y
  rw [hx] at h1
  rw [hy] at h2
  simp only [VR] at h1 h2
  refine ⟨r, ?_, rfl⟩
  have := run_pureBin (P := P) (t := t) (x := x) (y := y) hr w
  rw [← h1, ← h2] at this
  exact run_v this)
theorem Qt.eqlB {op : BinOp} {t t2 : TypeId} {x y : Operand} {u v : Bool} (hx : evX L x = .v (.bool u)) (hy : evX L y = .v (.bool v)) (hop : op = .eql ∨ op = .neq) (ht : P.underlying t = some .bool) : Qt P ⟨dst, .binOp op t x y t2, ty, pos, af, g⟩ L (.v (.bool (if op matches .eql then u == v else !(u == v)))) :=
 (fun H w a he _ => by
  have h1 := he x
  have h2 := he y
  rw [hx] at h1
  rw [hy] at h2
  simp only [VR] at h1 h2
  rcases hop with rfl | rfl
  ·have := run_eql_bool (P := P) (w := w) t u v ht
   refine ⟨_, ?_, rfl⟩
   simp only [execOp, h1, h2, eqGuard_at_bool]
   exact run_v (by simpa using this)
  ·have := run_neq_bool (P := P) (w := w) t u v ht
   refine ⟨_, ?_, rfl⟩
   simp only [execOp, h1, h2, eqGuard_at_bool]
   exact run_v (by simpa using this))
theorem Qt.notB {t : TypeId} {x : Operand} {b : Bool} (hx : evX L x = .v (.bool b)) : Qt P ⟨dst, .unOp .not t x, ty, pos, af, g⟩ L (.v (.bool !b)) :=
 (fun H w a he _ => by
  have h1 := he x
  rw [hx] at h1
  simp only [VR] at h1
  exact ⟨_, by simp [execOp, h1, Op.unary], rfl⟩)
theorem Qt.pick {c x y : Operand} {b : Bool} (hc : evX L c = .v (.bool b)) : Qt P ⟨dst, .pick c x y, ty, pos, af, g⟩ L (if b then evX L x else evX L y) :=
 (fun H w a he _ => by
  have h1 := he c
  rw [hc] at h1
  simp only [VR] at h1
  refine ⟨if b then a.eval x else a.eval y, by simp [execOp, h1, asBool], ?_⟩
  split
  ·exact he x
  ·exact he y)
theorem Qt.extract {x : Operand} {i : Nat} {xs : List X} (hx : evX L x = .t xs) (hi : i < xs.length) : Qt P ⟨dst, .extract x i, ty, pos, af, g⟩ L (xs.getD i .j) :=
 (fun H w a he _ => by
  have h1 := he x
  rw [hx] at h1
  obtain ⟨vs, h2, h3⟩ := h1
  obtain ⟨h4, h5⟩ := h3.nth
  have hlt : i < vs.length := by omega
  refine ⟨vs.getD i undef, ?_, h5 i⟩
  simp [execOp, h2, Instr.extract, hlt])
theorem Qt.convI {s t : TypeId} {x : Operand} {k k' : IntKind} {n : Int} (hx : evX L x = .v (.int k n)) (hs : (P.underlying s).isSome = true) (ht : P.underlying t = some (.int k')) : Qt P ⟨dst, .convert s t x, ty, pos, af, g⟩ L (.v (.int k' (k'.wrap n))) :=
 (fun H w a he _ => by
  have h1 := he x
  rw [hx] at h1
  simp only [VR] at h1
  have hk : P.intKind t = k' := by simp [Program.intKind, ht]
  have := run_convert_int (P := P) w s t k n hs (by rw [hk]; exact ht)
  rw [hk] at this
  exact ⟨_, by simp [execOp, h1, this], rfl⟩)
theorem Qt.lenH {t : TypeId} {x : Operand} {e : TypeId} {id : Nat} {q : Path} {n len : Nat} {f : Nat → Nat → T} (hx : evX L x = .h id q) {m : M} {T0 : T} (hR : rootL L id = some (m, T0)) (hT : T0.at q = .s n len f) (hS : Sl P t e) : Qt P ⟨dst, .call { callee := .builtin .len, args := #[x], argTypes := #[t] }, ty, pos, af, g⟩ L (.v (.int .i64 len)) :=
 (fun H w a he ⟨val, G, hr⟩ => by
  have h := he x
  rw [hx] at h
  obtain ⟨m', t', g1, g2, g3, g4⟩ := h
  obtain ⟨rfl, rfl⟩ := hr.one _ _ _ _ _ g1 (rootL_mem hR)
  obtain ⟨hv, F, e1, e2⟩ := hr.node g1 g2
  rw [hT] at e2
  obtain ⟨ad, cap, e3, _⟩ := e2.hdr
  rw [e1] at g4
  cases g4
  have hrun := run_len_slice (P := P) w t ty ad len cap (by rw [hS, Program.elem, hS])
  exact ⟨.int .i64 len, by simp [execOp, e3, resolve, invoke, builtin, hrun, goInt], rfl⟩)
theorem Qt.load1 {t : TypeId} {x : Operand} {id : Nat} {q : Path} {n k c len : Nat} {f : Nat → Nat → T} (hx : evX L x = .p id q n k c) {m : M} {T0 : T} (hR : rootL L id = some (m, T0)) (hT : T0.at q = .s n len f) (hA : Ag P t false) : Qt P ⟨dst, .load t x, ty, pos, af, g⟩ L (cellX L id q n k c (f k c)) :=
 (fun H w a he ⟨val, G, hr⟩ => by
  have h := he x
  rw [hx] at h
  obtain ⟨m', t', g1, g2, ⟨l', f', g3, g4, g5⟩, hv, A, g6, g7, g8⟩ := h
  obtain ⟨rfl, rfl⟩ := hr.one _ _ _ _ _ g1 (rootL_mem hR)
  rw [hT] at g3; cases g3
  obtain ⟨hw, F, e1, e2⟩ := hr.node g1 g2
  rw [hT] at e2
  rw [g6] at e1; cases e1
  obtain ⟨b, o, cap, off, e3, e4, e5, e6⟩ := e2.row g4 g5
  rw [g7] at e5; cases e5
  obtain ⟨v, F', e7, e8⟩ := e6 0 (by omega)
  simp only [Nat.add_zero] at e7 e8
  refine ⟨v, ?_, cellX_ok hr g1 g2 hT g4 g5 g6 g7 e7 e8⟩
  simp [execOp, g8, Instr.loadAt, Instr.sureAddr, loadVar, hA w, e7])
def cellsX (L : List E) (id : Nat) (q : Path) (n k c : Nat) (f : Nat → Nat → T) (m : Nat) : List X := (List.range' c m).map fun i => cellX L id q n k i (f k i)
theorem cellsX_ok {R : RT} {H : Nat → Value} {w : World} {g : Nat → X} {V : Nat → Value} : ∀ (m c : Nat), (∀ i, c ≤ i → i < c + m → VR R H w (g i) (V i)) → VRs R H w ((List.range' c m).map g) ((List.range' c m).map V)
 | 0, _, _ => trivial
 | m + 1, c, h => ⟨h c (Nat.le_refl _) (by omega), cellsX_ok m (c + 1) fun i h1 h2 => h i (by omega) (by omega)⟩
theorem Qt.loadG {t : TypeId} {x : Operand} {id : Nat} {q : Path} {n k c len : Nat} {f : Nat → Nat → T} {sz : Nat} (hx : evX L x = .p id q n k c) {m : M} {T0 : T} (hR : rootL L id = some (m, T0)) (hT : T0.at q = .s n len f) (hA : Ag P t true) (hZ : Sz P t sz) (hc : c + sz ≤ n) : Qt P ⟨dst, .load t x, ty, pos, af, g⟩ L (.g (cellsX L id q n k c f sz)) :=
 (fun H w a he ⟨val, G, hr⟩ => by
  have h := he x
  rw [hx] at h
  obtain ⟨m', t', g1, g2, ⟨l', f', g3, g4, g5⟩, hv, A, g6, g7, g8⟩ := h
  obtain ⟨rfl, rfl⟩ := hr.one _ _ _ _ _ g1 (rootL_mem hR)
  rw [hT] at g3; cases g3
  obtain ⟨hw, F, e1, e2⟩ := hr.node g1 g2
  rw [hT] at e2
  rw [g6] at e1; cases e1
  obtain ⟨b, o, cap, off, e3, e4, e5, e6⟩ := e2.row g4 g5
  rw [g7] at e5; cases e5
  have hV : ∃ V : Nat → Value, ∀ i, c ≤ i → i < c + sz → w.cell? ⟨b, o + (i - c), none⟩ = some (V i) ∧ VR (rts L) H w (cellX L id q n k i (f k i)) (V i) := by
   refine ⟨fun i => (w.cell? ⟨b, o + (i - c), none⟩).getD undef, fun i h1 h2 => ?_⟩
   obtain ⟨v, F', e7, e8⟩ := e6 (i - c) (by omega)
   rw [show c + (i - c) = i by omega] at e8
   have hv : (w.cell? ⟨b, o + (i - c), none⟩).getD undef = v := by rw [e7]; rfl
   show w.cell? ⟨b, o + (i - c), none⟩ = some ((w.cell? ⟨b, o + (i - c), none⟩).getD undef) ∧ VR (rts L) H w _ ((w.cell? ⟨b, o + (i - c), none⟩).getD undef)
   rw [hv]
   refine ⟨e7, cellX_ok hr g1 g2 hT g4 (by omega) g6 ?_ e7 e8⟩
   rw [e3]; simp only [adr]
   rw [e3] at g7; simp only [adr, Option.some.injEq, Addr.mk.injEq] at g7
   congr 2; omega
  obtain ⟨V, hV⟩ := hV
  refine ⟨.agg ((List.range' c sz).map V).toArray, ?_, _, rfl, cellsX_ok sz c fun i h1 h2 => (hV i h1 h2).2⟩
  have hl := run_loadCells_list (P := P) (w := w) ⟨b, o, none⟩ ((List.range' c sz).map V) (fun j v hj => by
   rw [List.getElem?_map] at hj
   have hlt : j < sz := by
    rcases Nat.lt_or_ge j sz with h | h
    ·exact h
    ·rw [List.getElem?_eq_none (by simpa using h)] at hj; cases hj
   rw [List.getElem?_range' hlt] at hj
   simp only [Option.map_some, Option.some.injEq, Nat.one_mul] at hj
   have := (hV (c + j) (by omega) (by omega)).1
   rw [hj, show c + j - c = j by omega] at this
   rw [Addr.add]
   split
   ·subst_vars; simpa using this
   ·exact this)
  simp only [List.length_map, List.length_range'] at hl
  simp [execOp, g8, Instr.loadAt, Instr.sureAddr, loadVar, hA w, hZ w, hl])
end
open Go Go.RowKit

def Con (P : Program) (f : FuncId) (xs : List X) (ρ : List E) (post : X → List E → Prop) : Prop :=
 ∀ (w : World) (vs : List Value) (H : Nat → Value) (G : Nat → FP), TabsOk P w → (∀ id m t, rts ρ id m t → m ≠ .ro → ∀ a o, G id a o → ¬ TabBlk P a) → Rp ρ (fun _ => undef) H G w → VRs (rts ρ) H w xs vs →
  Calls P f vs.toArray w fun e w' => ∃ v x L H' G' val, e = .returned v ∧ post x L ∧ Rp L val H' G' w' ∧ VR (rts L) H' w' x v ∧
   Chg (fun a o => ∃ id m t, rts ρ id m t ∧ m ≠ .ro ∧ G id a o) w w' ∧
   (∀ id m t, rts L id m t → m ≠ .ro → ∀ a o, G' id a o → (∃ id m t, rts ρ id m t ∧ m ≠ .ro ∧ G id a o) ∨ w.heap.size ≤ a) ∧
   ∀ id m t, base ≤ id → rts L id m t → H' id = H id

theorem Con.mono {P : Program} {f : FuncId} {xs : List X} {ρ : List E} {post post' : X → List E → Prop} (h : Con P f xs ρ post) (hp : ∀ x L, post x L → post' x L) : Con P f xs ρ post' :=
 fun w vs H G ht ha h1 h2 => (h w vs H G ht ha h1 h2).mono fun _ _ ⟨v, x, L, H', G', val, a, b, c⟩ => ⟨v, x, L, H', G', val, a, hp x L b, c⟩

def slotsOf : Nat → List X → List E
 | _, [] => []
 | i, x :: xs => .sl i x :: slotsOf (i + 1) xs
theorem slotsOf_mem : ∀ {i : Nat} {xs : List X} {e : E}, e ∈ slotsOf i xs → ∃ k x, xs[k]? = some x ∧ e = .sl (i + k) x
 | i, x :: xs, e, h => by
  rcases List.mem_cons.1 h with rfl | h
  ·exact ⟨0, x, rfl, rfl⟩
  ·obtain ⟨k, y, h1, h2⟩ := slotsOf_mem h
   exact ⟨k + 1, y, h1, by rw [h2]; congr 1; omega⟩
theorem rts_slotsOf {i : Nat} {xs : List X} {ρ : List E} : rts (slotsOf i xs ++ ρ) = rts ρ := by
 funext id m t
 simp only [rts, List.mem_append, eq_iff_iff]
 constructor
 ·rintro (h | h)
  ·obtain ⟨_, _, _, h⟩ := slotsOf_mem h; cases h
  ·exact h
 ·exact .inr

inductive RV (P : Program) (L : List E) : ResultVar → X → Prop
 | tmp (t : Nat) : RV P L (.tmp t) (slotL L t)
 | cell1 (a : Nat) (t : TypeId) {id : Nat} {q : Path} {n k c len : Nat} {f : Nat → Nat → T} {m : M} {T0 : T} (hx : slotL L a = .p id q n k c) (hR : rootL L id = some (m, T0)) (hT : T0.at q = .s n len f) (hA : Ag P t false) : RV P L (.cell a t) (cellX L id q n k c (f k c))
 | cellG (a : Nat) (t : TypeId) {id : Nat} {q : Path} {n k c len sz : Nat} {f : Nat → Nat → T} {m : M} {T0 : T} (hx : slotL L a = .p id q n k c) (hR : rootL L id = some (m, T0)) (hT : T0.at q = .s n len f) (hA : Ag P t true) (hZ : Sz P t sz) (hc : c + sz ≤ n) : RV P L (.cell a t) (.g (cellsX L id q n k c f sz))

section
variable {P : Program} {N : Nat} {L : List E} {val : Nat → Value} {H : Nat → Value} {G : Nat → FP} {w : World}
theorem Rp.place (hr : Rp L val H G w) {id : Nat} {q : Path} {n k c : Nat} {v : Value} (h : VR (rts L) H w (.p id q n k c) v) {m : M} {T0 : T} (hR : rootL L id = some (m, T0)) {len : Nat} {f : Nat → Nat → T} (hT : T0.at q = .s n len f) :
  ∃ b o, v = .pointer (some ⟨b, o, none⟩) ∧ ∀ i, c + i < n → ∃ x, w.cell? ⟨b, o + i, none⟩ = some x ∧ VR (rts L) H w (cellX L id q n k (c + i) (f k (c + i))) x := by
 obtain ⟨m', t', g1, g2, ⟨l', f', g3, g4, g5⟩, hv, A, g6, g7, g8⟩ := h
 obtain ⟨rfl, rfl⟩ := hr.one _ _ _ _ _ g1 (rootL_mem hR)
 rw [hT] at g3; cases g3
 obtain ⟨hw, F, e1, e2⟩ := hr.node g1 g2
 rw [hT] at e2
 rw [g6] at e1; cases e1
 obtain ⟨b, o, cap, off, e3, e4, e5, e6⟩ := e2.row g4 g5
 rw [g7] at e5; cases e5
 refine ⟨b, o, g8, fun i hi => ?_⟩
 obtain ⟨x, F', e7, e8⟩ := e6 i hi
 refine ⟨x, e7, cellX_ok hr g1 g2 hT g4 hi g6 ?_ e7 e8⟩
 rw [e3]; simp only [adr]
 rw [e3] at g7; simp only [adr, Option.some.injEq, Addr.mk.injEq] at g7
 congr 2; omega

def resV (a : Act) : ResultVar → Sem Value
 | .tmp t => pure (a.tmps.getD t undef)
 | .cell b t => do loadVar t (← asAddr (a.tmps.getD b undef))
theorem RV.run (hr : Rp L val H G w) {a : Act} (he : ∀ t, VR (rts L) H w (slotL L t) (a.tmps.getD t undef)) {r : ResultVar} {x : X} (h : RV P L r x) :
  ∃ v, (resV a r).run P w = .ok v w ∧ VR (rts L) H w x v := by
 cases h with
 | tmp t => exact ⟨_, rfl, he t⟩
 | cell1 b t hx hR hT hA =>
  have := he b
  rw [hx] at this
  obtain ⟨b', o, h1, h2⟩ := hr.place this hR hT
  simp only [resV]
  rw [h1]
  obtain ⟨_, _, _, _, ⟨_, _, e3, _, e5⟩, _⟩ := this
  obtain ⟨rfl, rfl⟩ := hr.one _ _ _ _ _ ‹rts L _ _ _› (rootL_mem hR)
  rw [hT] at e3; cases e3
  obtain ⟨x, h3, h4⟩ := h2 0 (by omega)
  simp only [Nat.add_zero] at h3 h4
  exact ⟨x, by simp [asAddr, loadVar, hA w, h3], h4⟩
 | @cellG b t id q n k c len sz f m T0 hx hR hT hA hZ hc =>
  have := he b
  rw [hx] at this
  obtain ⟨b', o, h1, h2⟩ := hr.place this hR hT
  simp only [resV]
  rw [h1]
  have hV : ∃ V : Nat → Value, ∀ i, c ≤ i → i < c + sz → w.cell? ⟨b', o + (i - c), none⟩ = some (V i) ∧ VR (rts L) H w (cellX L id q n k i (f k i)) (V i) := by
   refine ⟨fun i => (w.cell? ⟨b', o + (i - c), none⟩).getD undef, fun i h1 h2' => ?_⟩
   obtain ⟨v, e7, e8⟩ := h2 (i - c) (by omega)
   rw [show c + (i - c) = i by omega] at e8
   have hv : (w.cell? ⟨b', o + (i - c), none⟩).getD undef = v := by rw [e7]; rfl
   show w.cell? ⟨b', o + (i - c), none⟩ = some ((w.cell? ⟨b', o + (i - c), none⟩).getD undef) ∧ VR (rts L) H w _ ((w.cell? ⟨b', o + (i - c), none⟩).getD undef)
   rw [hv]
   exact ⟨e7, e8⟩
  obtain ⟨V, hV⟩ := hV
  refine ⟨.agg ((List.range' c sz).map V).toArray, ?_, _, rfl, cellsX_ok sz c fun i h1 h2 => (hV i h1 h2).2⟩
  have hl := run_loadCells_list (P := P) (w := w) ⟨b', o, none⟩ ((List.range' c sz).map V) (fun j v hj => by
   rw [List.getElem?_map] at hj
   have hlt : j < sz := by
    rcases Nat.lt_or_ge j sz with h | h
    ·exact h
    ·rw [List.getElem?_eq_none (by simpa using h)] at hj; cases hj
   rw [List.getElem?_range' hlt] at hj
   simp only [Option.map_some, Option.some.injEq, Nat.one_mul] at hj
   have := (hV (c + j) (by omega) (by omega)).1
   rw [hj, show c + j - c = j by omega] at this
   rw [Addr.add]
   split
   ·subst_vars; simpa using this
   ·exact this)
  simp only [List.length_map, List.length_range'] at hl
  simp [asAddr, loadVar, hA w, hZ w, hl]

inductive RVs (P : Program) (L : List E) : List ResultVar → List X → Prop
 | nil : RVs P L [] []
 | cons {r x rs xs} : RV P L r x → RVs P L rs xs → RVs P L (r :: rs) (x :: xs)
def retX : List X → X
 | [x] => x
 | xs => .t xs
theorem RVs.run (hr : Rp L val H G w) {a : Act} (he : ∀ t, VR (rts L) H w (slotL L t) (a.tmps.getD t undef)) : ∀ {rs : List ResultVar} {xs : List X}, RVs P L rs xs →
  ∃ vs, (rs.mapM (resV a)).run P w = .ok vs w ∧ VRs (rts L) H w xs vs
 | _, _, .nil => ⟨[], rfl, trivial⟩
 | _, _, .cons h hs => by
  obtain ⟨v, h1, h2⟩ := h.run hr he
  obtain ⟨vs, h3, h4⟩ := RVs.run hr he hs
  refine ⟨v :: vs, ?_, h2, h4⟩
  rw [List.mapM_cons]
  simp only [Sem.run_bind, h1, Result.andThen, h3]
  rfl
theorem run_results {fn : Func} {a : Act} (hr : Rp L val H G w) (he : ∀ t, VR (rts L) H w (slotL L t) (a.tmps.getD t undef)) {xs : List X} (h : RVs P L fn.results.toList xs) :
  ∃ v, (results fn a.tmps).run P w = .ok v w ∧ VR (rts L) H w (retX xs) v := by
 obtain ⟨vs, h1, h2⟩ := h.run hr he
 have hm : (fn.results.mapM (resV a)).run P w = Result.ok vs.toArray w := by
  rw [Array.mapM_eq_mapM_toList]
  simp [h1]
 have he : results fn a.tmps = (do let vs ← fn.results.mapM (resV a); pure (if h : vs.size = 1 then vs[0] else .tuple vs)) := by
  unfold results
  congr 1
 rw [he]
 match xs, vs, h2 with
 | [], [], _ => exact ⟨.tuple #[], by simp [hm], [], rfl, trivial⟩
 | [x], [v], h2 => exact ⟨v, by simp [hm], h2.1⟩
 | x :: y :: xs, v :: u :: vs, h2 => exact ⟨.tuple (v :: u :: vs).toArray, by simp [hm], _, rfl, h2⟩
end

def endQ (P : Program) (fn : Func) (post : X → List E → Prop) : Exit → List E → Prop := fun e L => (e = .ret ∨ e = .normal) ∧ ∃ xs, RVs P L fn.results.toList xs ∧ post (retX xs) L

section
variable {P : Program}
theorem Con.of_body {f : FuncId} {fn : Func} {c : Code} {xs : List X} {ρ : List E} {post : X → List E → Prop} (hf : P.funcs[f]? = some fn) (hb : fn.body = some c) (hρ : ∀ t x, E.sl t x ∉ ρ)
  (h : AW P fn.ntmps c (endQ P fn post) (slotsOf 0 xs ++ ρ)) : Con P f xs ρ post := by
 intro w vs H G ht ha hr hx
 obtain ⟨hl, hn⟩ := hx.nth
 have hrt : rts (slotsOf 0 xs ++ ρ) = rts ρ := rts_slotsOf
 have hsat : Sat fn.ntmps ⟨w, fun a o => ∃ id m t, rts ρ id m t ∧ m ≠ .ro ∧ G id a o, H⟩ (slotsOf 0 xs ++ ρ) { tmps := vs.toArray ++ Array.replicate (fn.ntmps - vs.toArray.size) undef, defers := [] } w := by
  refine ⟨by simp; omega, rfl, Chg.refl _ _, H, G, ⟨?_, ?_, ?_, ?_, ?_, ?_, ?_, ?_⟩, ?_, ?_⟩
  ·rw [hrt]; exact hr.one
  ·rw [hrt]; exact hr.own
  ·rw [hrt]; exact hr.ro
  ·rw [hrt]; exact hr.rold
  ·rw [hrt]; exact hr.box
  ·rw [hrt]; exact hr.dis
  ·rw [hrt]
   intro t x hm
   rcases List.mem_append.1 hm with hm | hm
   ·obtain ⟨k, y, h1, h2⟩ := slotsOf_mem hm
    cases h2
    have hk : k < xs.length := by
     rcases Nat.lt_or_ge k xs.length with h | h
     ·exact h
     ·rw [List.getElem?_eq_none h] at h1; cases h1
    have h3 := hn k
    rw [List.getD_eq_getElem?_getD, h1] at h3
    simp only [Option.getD_some] at h3
    have : Act.val { tmps := vs.toArray ++ Array.replicate (fn.ntmps - vs.toArray.size) undef, defers := [] } (0 + k) = vs.getD k undef := by
     simp only [Act.val, Nat.zero_add]
     have hk2 : k < vs.length := by omega
     simp [Array.getD_eq_getD_getElem?, Array.getElem?_append, hk2]
    rw [this]; exact h3
   ·exact absurd hm (hρ t x)
  ·rw [hrt]
   intro id c x hm
   rcases List.mem_append.1 hm with hm | hm
   ·obtain ⟨_, _, _, h2⟩ := slotsOf_mem hm; cases h2
   ·exact hr.al id c x hm
  ·intro id m t h1 h2 x y h3
   rw [hrt] at h1
   exact .inl ⟨id, m, t, h1, h2, h3⟩
  ·intro _ _ _ _ _; rfl
 refine calls_of_wp hf hb (Code.wp_mono ?_ (h ⟨⟨w, fun a o => ∃ id m t, rts ρ id m t ∧ m ≠ .ro ∧ G id a o, H⟩, ht, fun a o hs => by obtain ⟨id, m, t, h1, h2, h3⟩ := hs; exact ha id m t h1 h2 a o h3⟩ _ _ hsat))
 rintro e a w' ⟨L, ⟨he, ys, h1, h2⟩, h3⟩
 obtain ⟨H', G', g1, g2, g3⟩ := h3.rp
 obtain ⟨v, k1, k2⟩ := run_results g1 (fun t => by
  rcases slotL_mem (L := L) (d := t) with h | h
  ·rw [h]; trivial
  ·exact g1.sl t _ h) h1
 rcases he with rfl | rfl
 all_goals exact ⟨h3.dfr, v, k1, v, _, L, H', G', _, rfl, h2, g1, k2, h3.chg, g2, g3⟩

def seenT (L : List E) : X → T
 | .h id q => match rootL L id with
  | some (_, t) => t.at q
  | none => .j
 | .v y => .v y
 | _ => .j
def deepT (L : List E) (id : Nat) (q : Path) (n : Nat) (f : Nat → Nat → T) : Nat → Nat → T := fun k c => match f k c with
 | .j => seenT L (cellX L id q n k c .j)
 | t => t
/- arguments, handed over to be read: each node under a number of its own -/
mutual
def roX (L : List E) : X → Nat → X × List E × Nat
 | .h id q, n => match rootL L id with
  | some (_, t) => match t.at q with
   | .s w len f => (.h n [], [.rt n .ro (.s w len f)], n + 1)
   | _ => (.j, [], n)
  | none => (.j, [], n)
 | .a id q w lo len, n => match rootL L id with
  | some (_, t) => match t.at q with
   | .s w' _ f => if w' = w then (.h n [], [.rt n .ro (.s w len fun k c => f (lo + k) c)], n + 1) else (.j, [], n)
   | _ => (.j, [], n)
  | none => (.j, [], n)
 | .p id q w k c, n => match rootL L id with
  | some (_, t) => match t.at q with
   | .s w' len f => (.p n [] w k c, [.rt n .ro (.s w' len (deepT L id q w' f))], n + 1)
   | _ => (.j, [], n)
  | none => (.j, [], n)
 | .g xs, n => let (ys, r, m) := roXs L xs n; (.g ys, r, m)
 | .f fn xs, n => let (ys, r, m) := roXs L xs n; (.f fn ys, r, m)
 | .v x, n => (.v x, [], n)
 | .c, n => (.c, [], n)
 | _, n => (.j, [], n)
def roXs (L : List E) : List X → Nat → List X × List E × Nat
 | [], n => ([], [], n)
 | x :: xs, n => let (y, r, m) := roX L x n; let (ys, rs, m') := roXs L xs m; (y :: ys, r ++ rs, m')
end
end
open Go Go.RowKit

def X.leaf : X → Prop
 | .p .. | .h .. | .a .. => True
 | _ => False
mutual
theorem VR.leaves {R R' : RT} {H H' : Nat → Value} {w w' : World} {C : X → Prop} (hP : ∀ x v, X.leaf x → C x → VR R H w x v → VR R' H' w' x v) : ∀ {x : X} {v : Value}, X.all C x → VR R H w x v → VR R' H' w' x v
 | .g xs, v, hx, ⟨vs, h1, h2⟩ => ⟨vs, h1, VRs.leaves hP hx h2⟩
 | .t xs, v, hx, ⟨vs, h1, h2⟩ => ⟨vs, h1, VRs.leaves hP hx h2⟩
 | .f fn xs, v, hx, ⟨vs, h1, h2⟩ => ⟨vs, h1, VRs.leaves hP hx h2⟩
 | .v x, v, _, h => h
 | .j, v, _, _ => trivial
 | .c, v, _, h => h
 | .p .., v, hx, h => hP _ _ trivial hx h
 | .h .., v, hx, h => hP _ _ trivial hx h
 | .a .., v, hx, h => hP _ _ trivial hx h
theorem VRs.leaves {R R' : RT} {H H' : Nat → Value} {w w' : World} {C : X → Prop} (hP : ∀ x v, X.leaf x → C x → VR R H w x v → VR R' H' w' x v) : ∀ {xs : List X} {vs : List Value}, X.alls C xs → VRs R H w xs vs → VRs R' H' w' xs vs
 | [], [], _, _ => trivial
 | x :: xs, v :: vs, ⟨h1, h2⟩, ⟨g1, g2⟩ => ⟨VR.leaves hP h1 g1, VRs.leaves hP h2 g2⟩
 | [], _ :: _, _, h => h.elim
 | _ :: _, [], _, h => h.elim
end
theorem VR.same {R R' : RT} {H H' : Nat → Value} {w : World} (hR : ∀ id m t, R id m t → R' id m t ∧ H' id = H id) {x : X} {v : Value} (h : VR R H w x v) : VR R' H' w x v :=
 VR.leaves (C := fun _ => True) (fun x v hl _ h => by
  cases x with
  | p id q n k c => obtain ⟨m, t, h1, h2⟩ := h; exact ⟨m, t, (hR _ _ _ h1).1, by rw [(hR _ _ _ h1).2]; exact h2⟩
  | h id q => obtain ⟨m, t, h1, h2⟩ := h; exact ⟨m, t, (hR _ _ _ h1).1, by rw [(hR _ _ _ h1).2]; exact h2⟩
  | a id q n lo len => obtain ⟨m, t, h1, h2⟩ := h; exact ⟨m, t, (hR _ _ _ h1).1, by rw [(hR _ _ _ h1).2]; exact h2⟩
  | _ => exact hl.elim) (X.all_true (fun _ => trivial) x) h
theorem VRs.same {R R' : RT} {H H' : Nat → Value} {w : World} (hR : ∀ id m t, R id m t → R' id m t ∧ H' id = H id) : ∀ {xs : List X} {vs : List Value}, VRs R H w xs vs → VRs R' H' w xs vs
 | [], [], _ => trivial
 | _ :: _, _ :: _, ⟨h1, h2⟩ => ⟨h1.same hR, VRs.same hR h2⟩
 | [], _ :: _, h => h.elim
 | _ :: _, [], h => h.elim

section
variable {L : List E} {val : Nat → Value} {H : Nat → Value} {G : Nat → FP} {w w' : World} {S : FP}
theorem Rp.hd (hr : Rp L val H G w) (hC : Chg S w w') (hS : ∀ id m t, rts L id m t → ∀ a o, G id a o → ¬ S a o) {id : Nat} {m : M} {t : T} (h : rts L id m t) {q : Path} (hq : Okp t q) : hd w' (H id) q = hd w (H id) q := by
 have : Rd w t (G id) (H id) := by
  cases m with
  | ro => exact hr.ro id t h
  | box => exact (hr.own id _ t h (by simp)).rd
  | row => exact (hr.own id _ t h (by simp)).rd
 exact hd_frame hC this hq (hS id m t h)
theorem VR.chg (hr : Rp L val H G w) (hC : Chg S w w') (hS : ∀ id m t, rts L id m t → ∀ a o, G id a o → ¬ S a o) {x : X} {v : Value} (h : VR (rts L) H w x v) : VR (rts L) H w' x v :=
 VR.leaves (C := fun _ => True) (fun x v hl _ h => by
  cases x with
  | p id q n k c => obtain ⟨m, t, h1, h2, h3, h4⟩ := h; exact ⟨m, t, h1, h2, h3, by rw [hr.hd hC hS h1 h2]; exact h4⟩
  | h id q => obtain ⟨m, t, h1, h2, h3, h4⟩ := h; exact ⟨m, t, h1, h2, h3, by rw [hr.hd hC hS h1 h2]; exact h4⟩
  | a id q n lo len => obtain ⟨m, t, h1, h2, h3, h4⟩ := h; exact ⟨m, t, h1, h2, h3, by rw [hr.hd hC hS h1 h2]; exact h4⟩
  | _ => exact hl.elim) (X.all_true (fun _ => trivial) x) h
theorem box_cell (hr : Rp L val H G w) {id n c : Nat} {f : Nat → Nat → T} (h : rts L id .box (.s n 1 f)) (hc : c < n) {A : Addr} (hA : adr (H id) 0 0 c = some A) : ∃ b o, A = ⟨b, o, none⟩ ∧ G id b o := by
 obtain ⟨hn, a, cap, h0, hl, hm, b, off, V, Gx, h1, h2, h3, h4, h5⟩ := hr.own id _ _ h (by simp)
 have ha := (h1 (by omega)).1
 subst ha
 rw [h0] at hA
 simp only [adr, Nat.zero_mul, Nat.zero_add, Option.some.injEq] at hA
 refine ⟨b, off + c, hA.symm, (h5 _ _).2 (.inl ⟨by omega, rfl⟩)⟩
theorem Rp.chg (hr : Rp L val H G w) (hC : Chg S w w') (hS : ∀ id m t, rts L id m t → ∀ a o, G id a o → ¬ S a o) : Rp L val H G w' := by
 refine ⟨hr.one, fun id m t h1 h2 => (hr.own id m t h1 h2).frame hC (hS id m t h1), fun id t h => (hr.ro id t h).frame hC (hS id _ t h), fun id t h x y hG => Nat.lt_of_lt_of_le (hr.rold id t h x y hG) hC.size, hr.box, hr.dis, fun t x h => (hr.sl t x h).chg hr hC hS, fun id c x h => ?_⟩
 obtain ⟨n, f, h1, h2, A, v, h3, h4, h5⟩ := hr.al id c x h
 obtain ⟨b, o, rfl, hG⟩ := box_cell hr h1 h2 h3
 exact ⟨n, f, h1, h2, _, v, h3, hC.cell h4 (hS id _ _ h1 _ _ hG), h5.chg hr hC hS⟩

theorem Rd.sub {n l lo len : Nat} {f : Nat → Nat → T} {F : FP} {hv v : Value} (h : Rd w (.s n l f) F hv) (hl : lo + len ≤ l) {ad : Option Addr} {cap : Nat} (hv' : v = .slice ad len cap) (hc : len ≤ cap) (hm : cap ≤ maxLen) (ha : 0 < len → adr hv n lo 0 = ad) : Rd w (.s n len fun k c => f (lo + k) c) F v := by
 obtain ⟨hn, a, cap', h0, hl', hm', b, off, V, G, h1, h2⟩ := h
 refine ⟨hn, ad, cap, hv', hc, hm, b, off + lo * n, fun k c => V (lo + k) c, fun k c => G (lo + k) c, fun hp => ?_, fun k c hk hc' => ?_⟩
 ·rw [← ha hp, h0, h1 (by omega)]
  simp [adr]
 ·obtain ⟨e1, e2, e3, e4⟩ := h2 (lo + k) c (by omega) hc'
  have he : off + lo * n + (k * n + c) = off + ((lo + k) * n + c) := by rw [Nat.add_mul]; omega
  exact ⟨by rw [he]; exact e1, e2, by rw [he]; exact e3, e4⟩

theorem rts_append {ρ ρ' : List E} {id : Nat} {m : M} {t : T} : rts (ρ ++ ρ') id m t ↔ rts ρ id m t ∨ rts ρ' id m t := List.mem_append
def RoOk (w : World) (ρ : List E) (n m : Nat) (K : RT → (Nat → Value) → Prop) : Prop :=
 n ≤ m ∧ (∀ e ∈ ρ, ∃ id t, e = E.rt id .ro t ∧ n ≤ id ∧ id < m) ∧ ∃ (H' : Nat → Value) (G' : Nat → FP), (∀ id t, E.rt id .ro t ∈ ρ → Rd w t (G' id) (H' id) ∧ ∀ x y, G' id x y → x < w.heap.size) ∧ (∀ id t t', E.rt id .ro t ∈ ρ → E.rt id .ro t' ∈ ρ → t = t') ∧ K (rts ρ) H'
theorem RoOk.nil {n : Nat} {K : RT → (Nat → Value) → Prop} (h : ∀ H, K (rts []) H) : RoOk w [] n n K :=
 ⟨Nat.le_refl _, by simp, fun _ => undef, fun _ _ _ => False, by simp, by simp, h _⟩
theorem RoOk.one {n : Nat} {t : T} {F : FP} {v : Value} (h : Rd w t F v) (ho : ∀ x y, F x y → x < w.heap.size) {K : RT → (Nat → Value) → Prop} (hK : K (rts [.rt n .ro t]) fun _ => v) : RoOk w [.rt n .ro t] n (n + 1) K :=
 ⟨by omega, by simp, fun _ => v, fun _ => F, fun id t' h' => by simp at h'; obtain ⟨rfl, rfl⟩ := h'; exact ⟨h, ho⟩, fun id t t' h1 h2 => by simp at h1 h2; rw [h1.2, h2.2], hK⟩
theorem RoOk.append {ρ ρ' : List E} {n m p : Nat} {K K' K'' : RT → (Nat → Value) → Prop} (h : RoOk w ρ n m K) (h' : RoOk w ρ' m p K')
  (hK : ∀ R H R' H' R2 H2, K R H → K' R' H' → (∀ id m t, R id m t → R2 id m t ∧ H2 id = H id) → (∀ id m t, R' id m t → R2 id m t ∧ H2 id = H' id) → K'' R2 H2) : RoOk w (ρ ++ ρ') n p K'' := by
 obtain ⟨a1, a2, H1, G1, a3, a4, a5⟩ := h
 obtain ⟨b1, b2, H2, G2, b3, b4, b5⟩ := h'
 have e1 : ∀ id m' t, rts ρ id m' t → n ≤ id ∧ id < m := fun id m' t h => by obtain ⟨_, _, he, hh⟩ := a2 _ h; cases he; exact hh
 have e2 : ∀ id m' t, rts ρ' id m' t → m ≤ id ∧ id < p := fun id m' t h => by obtain ⟨_, _, he, hh⟩ := b2 _ h; cases he; exact hh
 refine ⟨by omega, fun e he => ?_, fun id => if id < m then H1 id else H2 id, fun id => if id < m then G1 id else G2 id, ?_, ?_, ?_⟩
 ·rcases List.mem_append.1 he with h | h
  ·obtain ⟨id, t, h1, h2, h3⟩ := a2 e h; exact ⟨id, t, h1, h2, by omega⟩
  ·obtain ⟨id, t, h1, h2, h3⟩ := b2 e h; exact ⟨id, t, h1, by omega, h3⟩
 ·intro id t h
  rcases List.mem_append.1 h with h | h
  ·show Rd w t (if id < m then G1 id else G2 id) (if id < m then H1 id else H2 id) ∧ ∀ x y, (if id < m then G1 id else G2 id) x y → _
   rw [if_pos (e1 _ _ _ h).2, if_pos (e1 _ _ _ h).2]; exact a3 id t h
  ·have := (e2 _ _ _ h).1
   show Rd w t (if id < m then G1 id else G2 id) (if id < m then H1 id else H2 id) ∧ ∀ x y, (if id < m then G1 id else G2 id) x y → _
   rw [if_neg (by omega), if_neg (by omega)]; exact b3 id t h
 ·intro id t t' h h'
  rcases List.mem_append.1 h with h | h <;> rcases List.mem_append.1 h' with h' | h'
  ·exact a4 id t t' h h'
  ·have := e1 _ _ _ h; have := e2 _ _ _ h'; omega
  ·have := e2 _ _ _ h; have := e1 _ _ _ h'; omega
  ·exact b4 id t t' h h'
 ·refine hK _ _ _ _ _ _ a5 b5 (fun id m' t h => ⟨rts_append.2 (.inl h), ?_⟩) (fun id m' t h => ⟨rts_append.2 (.inr h), ?_⟩)
  ·exact if_pos (e1 _ _ _ h).2
  ·have := (e2 _ _ _ h).1
   exact if_neg (by omega)

theorem VR.root {R : RT} {H : Nat → Value} {w : World} {n w' len : Nat} {m : M} {f : Nat → Nat → T} (h : R n m (.s w' len f)) : VR R H w (.h n []) (H n) := ⟨m, _, h, by simp [Okp], ⟨_, _, _, by simp only [T.at]; rfl⟩, rfl⟩
theorem seenT_ok (hr : Rp L val H G w) : ∀ {x : X} {v : Value}, v.oneCell' = true → VR (rts L) H w x v → ∃ F, Rd w (seenT L x) F v ∧ ∀ x y, F x y → x < w.heap.size
 | .h id q, v, h1, ⟨m, t, g1, g2, g3, g4⟩ => by
  simp only [seenT]
  split
  ·rename_i m' t' hR
   obtain ⟨rfl, rfl⟩ := hr.one _ _ _ _ _ g1 (rootL_mem hR)
   obtain ⟨hv, F, e1, e2, eo⟩ := hr.node' g1 g2
   rw [g4] at e1; cases e1
   exact ⟨F, e2, eo⟩
  ·exact ⟨fun _ _ => False, h1, fun _ _ h => h.elim⟩
 | .v y, v, h1, h => ⟨fun _ _ => False, ⟨h, h ▸ h1⟩, fun _ _ h => h.elim⟩
 | .j, v, h1, _ => ⟨fun _ _ => False, h1, fun _ _ h => h.elim⟩
 | .c, v, h1, _ => ⟨fun _ _ => False, h1, fun _ _ h => h.elim⟩
 | .p .., v, h1, _ => ⟨fun _ _ => False, h1, fun _ _ h => h.elim⟩
 | .a .., v, h1, _ => ⟨fun _ _ => False, h1, fun _ _ h => h.elim⟩
 | .g _, v, h1, _ => ⟨fun _ _ => False, h1, fun _ _ h => h.elim⟩
 | .t _, v, h1, _ => ⟨fun _ _ => False, h1, fun _ _ h => h.elim⟩
 | .f _ _, v, h1, _ => ⟨fun _ _ => False, h1, fun _ _ h => h.elim⟩
theorem deepT_ok (hr : Rp L val H G w) {id : Nat} {m : M} {t : T} (h : rts L id m t) {q : Path} (hq : Okp t q) {n len : Nat} {f : Nat → Nat → T} (ht : t.at q = .s n len f) {h' : Value} (hd' : hd w (H id) q = some h') : Rd w (.s n len (deepT L id q n f)) (fun b _ => b < w.heap.size) h' := by
 obtain ⟨hv, F, e1, e2, eo⟩ := hr.node' h hq
 rw [hd'] at e1; cases e1
 rw [ht] at e2
 obtain ⟨hn, a, cap, h0, hl, hm, b, off, V, Gx, h1, h2⟩ := e2
 refine ⟨hn, a, cap, h0, hl, hm, b, off, V, fun _ _ b _ => b < w.heap.size, h1, fun k c hk hc => ?_⟩
 obtain ⟨k1, k2, k3, k4⟩ := h2 k c hk hc
 refine ⟨k1, ?_, cell_lt k1, fun x y h => h⟩
 have hold : ∀ x y, Gx k c x y → x < w.heap.size := fun x y hg => eo x y (k4 x y hg)
 unfold deepT
 split
 ·rename_i hf
  have hone : (V k c).oneCell' = true := by rw [hf] at k2; exact k2
  have ha := h1 (by omega)
  have hvr := cellX_ok hr h hq ht hk hc hd' (by rw [h0, ha]; rfl) k1 k2
  rw [hf] at hvr
  obtain ⟨F', r1, r2⟩ := seenT_ok hr hone hvr
  exact r1.mono r2
 ·exact k2.mono hold
mutual
theorem roX_ok (hr : Rp L val H G w) : ∀ (x : X) (n : Nat) {v : Value}, VR (rts L) H w x v → RoOk w (roX L x n).2.1 n (roX L x n).2.2 fun R H' => VR R H' w (roX L x n).1 v
 | .v x, n, v, h => RoOk.nil fun _ => h
 | .j, n, v, _ => RoOk.nil fun _ => trivial
 | .c, n, v, h => RoOk.nil fun _ => h
 | .p id q nn k c, n, v, h => by
  simp only [roX]
  split
  ·rename_i m t hR
   split
   ·rename_i w' len f hT
    obtain ⟨m', t', g1, g2, ⟨len', f', g3, g4, g5⟩, hv, A, g6, g7, g8⟩ := h
    obtain ⟨rfl, rfl⟩ := hr.one _ _ _ _ _ g1 (rootL_mem hR)
    rw [hT] at g3; cases g3
    exact RoOk.one (deepT_ok hr g1 g2 hT g6) (fun _ _ h => h) ⟨.ro, _, List.mem_singleton.2 rfl, by simp [Okp], ⟨_, _, by simp only [T.at]; rfl, g4, g5⟩, hv, A, rfl, g7, g8⟩
   ·exact RoOk.nil fun _ => trivial
  ·exact RoOk.nil fun _ => trivial
 | .t _, n, v, _ => RoOk.nil fun _ => trivial
 | .f fn xs, n, v, ⟨vs, h1, h2⟩ => by
  obtain ⟨a, b, H', G', c, d, e⟩ := roXs_ok hr xs n h2
  exact ⟨a, b, H', G', c, d, vs, h1, e⟩
 | .g xs, n, v, ⟨vs, h1, h2⟩ => by
  obtain ⟨a, b, H', G', c, d, e⟩ := roXs_ok hr xs n h2
  exact ⟨a, b, H', G', c, d, vs, h1, e⟩
 | .h id q, n, v, h => by
  simp only [roX]
  split
  ·rename_i m t hR
   split
   ·rename_i w' len f hT
    obtain ⟨m', t', g1, g2, g3, g4⟩ := h
    obtain ⟨rfl, rfl⟩ := hr.one _ _ _ _ _ g1 (rootL_mem hR)
    obtain ⟨hv, F, e1, e2, eo⟩ := hr.node' g1 g2
    rw [g4] at e1; cases e1
    rw [hT] at e2
    exact RoOk.one e2 eo (VR.root (H := fun _ => v) (m := .ro) (by simp [rts]; exact ⟨rfl, rfl, rfl⟩))
   ·exact RoOk.nil fun _ => trivial
  ·exact RoOk.nil fun _ => trivial
 | .a id q nn lo len, n, v, h => by
  simp only [roX]
  split
  ·rename_i m t hR
   split
   ·rename_i w' l f hT
    split
    ·rename_i hw
     subst hw
     obtain ⟨m', t', g1, g2, ⟨l', f', g3, g4⟩, hv, g5, ad, cap, g6, g7, g8, g9, _⟩ := h
     obtain ⟨rfl, rfl⟩ := hr.one _ _ _ _ _ g1 (rootL_mem hR)
     rw [hT] at g3; cases g3
     obtain ⟨hv', F, e1, e2, eo⟩ := hr.node' g1 g2
     rw [g5] at e1; cases e1
     rw [hT] at e2
     exact RoOk.one (e2.sub g4 g6 g7 g8 g9) eo (VR.root (H := fun _ => v) (m := .ro) (by simp [rts]; exact ⟨rfl, rfl, rfl⟩))
    ·exact RoOk.nil fun _ => trivial
   ·exact RoOk.nil fun _ => trivial
  ·exact RoOk.nil fun _ => trivial
theorem roXs_ok (hr : Rp L val H G w) : ∀ (xs : List X) (n : Nat) {vs : List Value}, VRs (rts L) H w xs vs → RoOk w (roXs L xs n).2.1 n (roXs L xs n).2.2 fun R H' => VRs R H' w (roXs L xs n).1 vs
 | [], n, [], _ => RoOk.nil fun _ => trivial
 | x :: xs, n, v :: vs, ⟨h1, h2⟩ => by
  simp only [roXs]
  exact (roX_ok hr x n h1).append (roXs_ok hr xs _ h2) fun R H R' H' R2 H2 k1 k2 k3 k4 => ⟨k1.same k3, k2.same k4⟩
 | [], _, _ :: _, h => h.elim
 | _ :: _, _, [], h => h.elim
end
end

section
variable {P : Program} {N : Nat} {Q : Exit → List E → Prop} {L : List E} {ops : Array Oper} {rest : List Oper} {dst : Option Tmp} {ty : TypeId} {pos : String} {af : Array Edge} {g : Option (Nat × Bool)} {d : Nat}
def Ent (P : Program) (f : FuncId) : Prop := ∀ args w, (callFunc f args).run P w = .ok (.enter f args) w
theorem evXs_ok {a : Act} {H : Nat → Value} {G : Nat → FP} {w : World} (hr : Rp L (Act.val a) H G w) : ∀ xs : List Operand, VRs (rts L) H w (xs.map (evX L)) (xs.map a.eval)
 | [] => trivial
 | x :: xs => ⟨ev_ok hr x, evXs_ok hr xs⟩
end
open Go Go.RowKit

def delR : List E → Nat → List E
 | [], _ => []
 | .sl t x :: r, d => if X.men d x then delR r d else .sl t x :: delR r d
 | .rt i m t :: r, d => if i = d then delR r d else .rt i m t :: delR r d
 | .al i c x :: r, d => if i = d then delR r d else if X.men d x then delR r d else .al i c x :: delR r d
theorem delR_sub : ∀ {L : List E} {d : Nat} {e : E}, e ∈ delR L d → e ∈ L
 | .sl t x :: r, d, e, h => by
  simp only [delR] at h
  split at h
  ·exact List.mem_cons_of_mem _ (delR_sub h)
  ·rcases List.mem_cons.1 h with rfl | h
   ·exact List.mem_cons_self ..
   ·exact List.mem_cons_of_mem _ (delR_sub h)
 | .rt i m t :: r, d, e, h => by
  simp only [delR] at h
  split at h
  ·exact List.mem_cons_of_mem _ (delR_sub h)
  ·rcases List.mem_cons.1 h with rfl | h
   ·exact List.mem_cons_self ..
   ·exact List.mem_cons_of_mem _ (delR_sub h)
 | .al i c x :: r, d, e, h => by
  simp only [delR] at h
  split at h
  ·exact List.mem_cons_of_mem _ (delR_sub h)
  ·split at h
   ·exact List.mem_cons_of_mem _ (delR_sub h)
   ·rcases List.mem_cons.1 h with rfl | h
    ·exact List.mem_cons_self ..
    ·exact List.mem_cons_of_mem _ (delR_sub h)
theorem delR_sl : ∀ {L : List E} {d t : Nat} {x : X}, E.sl t x ∈ delR L d → X.men d x = false
 | .sl t' x' :: r, d, t, x, h => by
  simp only [delR] at h
  split at h
  ·exact delR_sl h
  ·rename_i hm
   rcases List.mem_cons.1 h with h | h
   ·cases h; simpa using hm
   ·exact delR_sl h
 | .rt i m t :: r, d, _, x, h => by
  simp only [delR] at h
  split at h
  ·exact delR_sl h
  ·rcases List.mem_cons.1 h with h | h
   ·cases h
   ·exact delR_sl h
 | .al i c y :: r, d, _, x, h => by
  simp only [delR] at h
  split at h
  ·exact delR_sl h
  ·split at h
   ·exact delR_sl h
   ·rcases List.mem_cons.1 h with h | h
    ·cases h
    ·exact delR_sl h
theorem delR_al : ∀ {L : List E} {d i c : Nat} {x : X}, E.al i c x ∈ delR L d → X.men d x = false ∧ i ≠ d
 | .sl t' x' :: r, d, i, c, x, h => by
  simp only [delR] at h
  split at h
  ·exact delR_al h
  ·rcases List.mem_cons.1 h with h | h
   ·cases h
   ·exact delR_al h
 | .rt i' m t :: r, d, i, c, x, h => by
  simp only [delR] at h
  split at h
  ·exact delR_al h
  ·rcases List.mem_cons.1 h with h | h
   ·cases h
   ·exact delR_al h
 | .al i' c' y :: r, d, i, c, x, h => by
  simp only [delR] at h
  split at h
  ·exact delR_al h
  ·rename_i hi
   split at h
   ·exact delR_al h
   ·rename_i hm
    rcases List.mem_cons.1 h with h | h
    ·cases h; exact ⟨by simpa using hm, hi⟩
    ·exact delR_al h
theorem rts_delR : ∀ {L : List E} {d id : Nat} {m : M} {t : T}, rts (delR L d) id m t ↔ rts L id m t ∧ id ≠ d
 | [], _, _, _, _ => by simp [rts, delR]
 | .sl t' x' :: r, d, id, m, t => by
  have := rts_delR (L := r) (d := d) (id := id) (m := m) (t := t)
  simp only [rts, delR] at this ⊢
  split <;> simp [this]
 | .al i c y :: r, d, id, m, t => by
  have := rts_delR (L := r) (d := d) (id := id) (m := m) (t := t)
  simp only [rts, delR] at this ⊢
  split
  ·simp [this]
  ·split <;> simp [this]
 | .rt i m' t' :: r, d, id, m, t => by
  have := rts_delR (L := r) (d := d) (id := id) (m := m) (t := t)
  simp only [rts, delR] at this ⊢
  split
  ·rename_i hi
   rw [this]; simp only [List.mem_cons]
   constructor
   ·rintro ⟨h1, h2⟩; exact ⟨.inr h1, h2⟩
   ·rintro ⟨h1 | h1, h2⟩
    ·cases h1; exact absurd hi h2
    ·exact ⟨h1, h2⟩
  ·rename_i hi
   simp only [List.mem_cons, this]
   constructor
   ·rintro (h1 | ⟨h1, h2⟩)
    ·cases h1; exact ⟨.inl rfl, hi⟩
    ·exact ⟨.inr h1, h2⟩
   ·rintro ⟨h1 | h1, h2⟩
    ·exact .inl h1
    ·exact .inr ⟨h1, h2⟩

theorem VR.drop {R R' : RT} {H H' : Nat → Value} {w : World} {d : Nat} (hR : ∀ id m t, id ≠ d → R id m t → R' id m t ∧ H' id = H id) {x : X} {v : Value} (hm : X.men d x = false) (h : VR R H w x v) : VR R' H' w x v :=
 VR.leaves (C := fun x => X.men d x = false) (fun x v hl hm h => by
  cases x with
  | p id q n k c => obtain ⟨m, t, h1, h2⟩ := h; have := hR _ _ _ (by simpa [X.men] using hm) h1; exact ⟨m, t, this.1, by rw [this.2]; exact h2⟩
  | h id q => obtain ⟨m, t, h1, h2⟩ := h; have := hR _ _ _ (by simpa [X.men] using hm) h1; exact ⟨m, t, this.1, by rw [this.2]; exact h2⟩
  | a id q n lo len => obtain ⟨m, t, h1, h2⟩ := h; have := hR _ _ _ (by simpa [X.men] using hm) h1; exact ⟨m, t, this.1, by rw [this.2]; exact h2⟩
  | _ => exact hl.elim) (X.all_men hm) h

section
variable {L : List E} {val : Nat → Value} {H : Nat → Value} {G : Nat → FP} {w w' : World} {S : FP} {P : Program} {N : Nat} {cx : Cx}
theorem Rp.delR (hr : Rp L val H G w) (d : Nat) : Rp (VM.delR L d) val H G w := by
 have hv : ∀ {x v}, X.men d x = false → VR (rts L) H w x v → VR (rts (VM.delR L d)) H w x v := fun hm h => h.drop (fun id m t hne h => ⟨rts_delR.2 ⟨h, hne⟩, rfl⟩) hm
 refine ⟨fun id m t m' t' h1 h2 => hr.one _ _ _ _ _ (rts_delR.1 h1).1 (rts_delR.1 h2).1, fun id m t h => hr.own _ _ _ (rts_delR.1 h).1, fun id t h => hr.ro _ _ (rts_delR.1 h).1, fun id t h => hr.rold _ _ (rts_delR.1 h).1, fun id t h => hr.box _ _ (rts_delR.1 h).1, fun id m t id' m' t' h1 h2 => hr.dis _ _ _ _ _ _ (rts_delR.1 h1).1 (rts_delR.1 h2).1, fun t x h => hv (delR_sl h) (hr.sl t x (delR_sub h)), fun id c x h => ?_⟩
 obtain ⟨n, f, h1, h2, A, v, h3, h4, h5⟩ := hr.al id c x (delR_sub h)
 obtain ⟨e1, e2⟩ := delR_al h
 exact ⟨n, f, rts_delR.2 ⟨h1, e2⟩, h2, A, v, h3, h4, hv e1 h5⟩

def updN {α : Type} (f : Nat → α) (d : Nat) (x : α) : Nat → α := fun i => if i = d then x else f i
theorem Rp.new (hr : Rp L val H G w) (d : Nat) {m : M} {t : T} {F : FP} {h : Value} (hm : m ≠ .ro) (hO : Own w t F h) (hb : m = .box → ∃ n f, t = .s n 1 f) (hF : ∀ id m t, id ≠ d → rts L id m t → ∀ a o, G id a o → F a o → False) :
  Rp (.rt d m t :: VM.delR L d) val (updN H d h) (updN G d F) w := by
 have hd := hr.delR d
 have hrt : ∀ {id m' t'}, rts (.rt d m t :: VM.delR L d) id m' t' → (id = d ∧ m' = m ∧ t' = t) ∨ (id ≠ d ∧ rts L id m' t') := fun h => by
  rcases List.mem_cons.1 h with h | h
  ·cases h; exact .inl ⟨rfl, rfl, rfl⟩
  ·exact .inr ⟨(rts_delR.1 h).2, (rts_delR.1 h).1⟩
 have hsub : ∀ {x v}, X.men d x = false → VR (rts (VM.delR L d)) H w x v → VR (rts (.rt d m t :: VM.delR L d)) (updN H d h) w x v := fun hx h => h.drop (d := d) (fun id m t hne h => ⟨List.mem_cons_of_mem _ h, by simp [updN, hne]⟩) hx
 refine ⟨?_, ?_, ?_, ?_, ?_, ?_, ?_, ?_⟩
 ·intro id m1 t1 m2 t2 h1 h2
  rcases hrt h1 with ⟨rfl, rfl, rfl⟩ | ⟨hne, h1⟩ <;> rcases hrt h2 with ⟨e, rfl, rfl⟩ | ⟨hne', h2⟩
  ·exact ⟨rfl, rfl⟩
  ·exact absurd rfl hne'
  ·exact absurd e hne
  ·exact hr.one _ _ _ _ _ h1 h2
 ·intro id m1 t1 h1 hm1
  rcases hrt h1 with ⟨rfl, rfl, rfl⟩ | ⟨hne, h1⟩
  ·simpa [updN] using hO
  ·simpa [updN, hne] using hr.own _ _ _ h1 hm1
 ·intro id t1 h1
  rcases hrt h1 with ⟨rfl, e, rfl⟩ | ⟨hne, h1⟩
  ·exact absurd e.symm hm
  ·simpa [updN, hne] using hr.ro _ _ h1
 ·intro id t1 h1
  rcases hrt h1 with ⟨rfl, e, rfl⟩ | ⟨hne, h1⟩
  ·exact absurd e.symm hm
  ·simpa [updN, hne] using hr.rold _ _ h1
 ·intro id t1 h1
  rcases hrt h1 with ⟨rfl, e, rfl⟩ | ⟨hne, h1⟩
  ·exact hb e.symm
  ·exact hr.box _ _ h1
 ·intro id m1 t1 id' m2 t2 h1 h2 hne hm1 x y
  rcases hrt h1 with ⟨rfl, rfl, rfl⟩ | ⟨hne1, k1⟩ <;> rcases hrt h2 with ⟨rfl, rfl, rfl⟩ | ⟨hne2, k2⟩
  ·exact absurd rfl hne
  ·simp only [updN, if_true, hne2, if_false]
   exact fun a b => hF _ _ _ hne2 k2 x y b a
  ·simp only [updN, if_true, hne1, if_false]
   exact fun a b => hF _ _ _ hne1 k1 x y a b
  ·simp only [updN, hne1, hne2, if_false]
   exact hr.dis _ _ _ _ _ _ k1 k2 hne hm1 x y
 ·intro t1 x h1
  rcases List.mem_cons.1 h1 with h1 | h1
  ·cases h1
  ·exact hsub (delR_sl h1) (hd.sl t1 x h1)
 ·intro id c x h1
  rcases List.mem_cons.1 h1 with h1 | h1
  ·cases h1
  ·obtain ⟨e1, e2⟩ := delR_al h1
   obtain ⟨n, f, g1, g2, A, v, g3, g4, g5⟩ := hd.al id c x h1
   refine ⟨n, f, List.mem_cons_of_mem _ g1, g2, A, v, ?_, g4, hsub e1 g5⟩
   simpa [updN, e2] using g3

theorem Chg.alloc (S : FP) (w : World) (o : Obj) : Chg S w (w.alloc o) := by
 have hlt : ∀ {b : Nat} {x : Obj}, w.heap[b]? = some x → (w.alloc o).heap[b]? = some x := fun {b x} h => by
  have hb : b < w.heap.size := (Array.getElem?_eq_some_iff.1 h).1
  rw [Below.heap_alloc _ _ _ hb]; exact h
 exact ⟨rfl, rfl, rfl, by simp, fun b cur e fr h => ⟨cur, hlt h, rfl, fun _ _ => rfl⟩, fun b o' h _ => hlt h⟩

theorem Own.alloc {n len cap : Nat} {f : Nat → Nat → T} (hn : 0 < n) (hl : len ≤ cap) (hm : cap ≤ maxLen) {cs : Array Value} {e : TypeId} (hcs : cs.size = cap * n) (Gs : Nat → Nat → FP)
  (h : ∀ k c, k < len → c < n → ∃ v, cs[k * n + c]? = some v ∧ Own w (f k c) (Gs k c) v) (hd : ∀ k c k' c', (k ≠ k' ∨ c ≠ c') → k < len → c < n → k' < len → c' < n → ∀ x y, Gs k c x y → Gs k' c' x y → False) :
  Own (w.alloc (.cells cs e)) (.s n len f) (fun a o => (0 < cap ∧ blkFP w.heap.size a o) ∨ ∃ k c, k < len ∧ c < n ∧ Gs k c a o) (.slice (some ⟨w.heap.size, 0, none⟩) len cap) := by
 have hb : (w.alloc (.cells cs e)).heap[w.heap.size]? = some (.cells cs e (0, 0)) := Array.getElem?_push_size
 refine ⟨hn, _, cap, rfl, hl, hm, w.heap.size, 0, fun k c => (cs[k * n + c]?).getD undef, Gs, fun _ => ⟨rfl, cs.size, ⟨cs, e, hb, rfl⟩, by omega⟩, fun k c hk hc => ?_, hd, fun k c hk hc x y hG hR => ?_, fun x y => Iff.rfl⟩
 ·obtain ⟨v, h1, h2⟩ := h k c hk hc
  refine ⟨?_, ?_⟩
  ·simp only [World.cell?, hb, Nat.zero_add, h1]; rfl
  ·simp only [h1, Option.getD_some]
   exact h2.frame (Chg.alloc (fun _ _ => False) _ _) fun _ _ _ h => h
 ·obtain ⟨v, _, h2⟩ := h k c hk hc
  have := h2.old x y hG
  obtain ⟨h3, _⟩ := hR
  omega
end
open Go Go.RowKit

def ZC : T → Value → Prop
 | .v x, c => c = x ∧ x.oneCell' = true
 | .s n len _, c => 0 < n ∧ len = 0 ∧ c = .slice none 0 0
 | .j, _ => False
theorem ZC.own {w : World} : ∀ {t : T} {c : Value}, ZC t c → Own w t (fun _ _ => False) c
 | .v _, _, ⟨h1, h2⟩ => ⟨h1, h2, fun _ _ h => h⟩
 | .s n len f, _, ⟨h1, h2, h3⟩ => ⟨h1, none, 0, by rw [h3, h2], by omega, by simp [maxLen], 0, 0, fun _ _ => undef, fun _ _ _ _ => False, fun h => by omega, fun k c hk => by omega, fun k c k' c' _ hk => by omega, fun k c hk => by omega, fun x y => by
  constructor
  ·exact fun h => h.elim
  ·rintro (⟨h, _⟩ | ⟨_, _, _, _, h⟩)
   ·omega
   ·exact h⟩
class TyI (P : Program) (t : TypeId) (zt : outParam (List T)) : Prop where
 info : ∃ (i : TypeInfo) (z : Value), P.info? t = some i ∧ i.size = zt.length ∧ i.bytes ≤ 1024 ∧ i.zero = some z ∧ z.cells.size = zt.length ∧ ∀ (i : Nat) (y : T), zt[i]? = some y → ∃ c, z.cells[i]? = some c ∧ ZC y c
 pos : 0 < zt.length
theorem TyI.size {P : Program} {t : TypeId} {zt : List T} (h : TyI P t zt) (w : World) : (sizeOf t).run P w = .ok zt.length w := by
 obtain ⟨i, z, h1, h2, _⟩ := h.info
 simp [sizeOf, typeInfo, h1, h2]
theorem TyI.zero {P : Program} {t : TypeId} {zt : List T} (h : TyI P t zt) : ∃ z : Value, (∀ w, (zeroValue t).run P w = .ok z w) ∧ z.cells.size = zt.length ∧ ∀ (i : Nat) (y : T), zt[i]? = some y → ∃ c, z.cells[i]? = some c ∧ ZC y c := by
 obtain ⟨i, z, h1, _, _, h3, h4, h5⟩ := h.info
 exact ⟨z, fun w => by simp [zeroValue, typeInfo, h1, h3], h4, h5⟩

section
variable {L : List E} {val : Nat → Value} {H : Nat → Value} {G : Nat → FP} {w w' : World} {S : FP} {P : Program} {N : Nat} {cx : Cx} {a : Act}

def Good (cx : Cx) (L : List E) (H : Nat → Value) (G : Nat → FP) : Prop := (∀ id m t, rts L id m t → m ≠ .ro → ∀ x y, G id x y → cx.S0 x y ∨ cx.w0.heap.size ≤ x) ∧ ∀ id m t, base ≤ id → rts L id m t → H id = cx.H0 id
theorem Good.sub {L1 : List E} (h : Good cx L H G) (hs : ∀ id m t, rts L1 id m t → rts L id m t) : Good cx L1 H G := ⟨fun id m t h1 => h.1 id m t (hs _ _ _ h1), fun id m t h0 h1 => h.2 id m t h0 (hs _ _ _ h1)⟩

theorem Sat.new {L1 : List E} (hs : Sat N cx L a w) (hr1 : Rp L1 (Act.val a) H G w) (hG : Good cx L1 H G) (hC : Chg (fun _ _ => False) w w') {d : Nat} (hN : d < N) (hb : d < base) {m : M} {t : T} {F : FP} {h : Value} (hm : m ≠ .ro) (hO : Own w' t F h) (hbx : m = .box → ∃ n f, t = .s n 1 f)
  (hF1 : ∀ id m t, id ≠ d → rts L1 id m t → ∀ a o, G id a o → F a o → False) (hF2 : ∀ a o, F a o → cx.S0 a o ∨ cx.w0.heap.size ≤ a) {x : X} {v : Value} (hx : VR (rts (.rt d m t :: delR L1 d)) (updN H d h) w' x v) :
  Sat N cx (putL (.rt d m t :: delR L1 d) d x) (a.put (some d) v) w' := by
 have h1 := (hr1.chg hC fun _ _ _ _ _ _ _ h => h).new d hm hO hbx hF1
 refine ⟨by simpa [Go.Act.put] using hs.siz, by simpa [Go.Act.put] using hs.dfr, hs.chg.trans (hC.mono fun _ _ _ h => h.elim), updN H d h, updN G d F, (h1.put hx).val fun t => (Act.val_put (Nat.lt_of_lt_of_le hN hs.siz) t).symm, ?_, ?_⟩
 ·rw [rts_put]
  intro id m' t' k1 k2 x y k3
  by_cases e : id = d
  ·subst e
   simp only [updN, if_true] at k3
   exact hF2 x y k3
  ·simp only [updN, e, if_false] at k3
   rcases List.mem_cons.1 k1 with k1 | k1
   ·cases k1; exact absurd rfl e
   ·exact hG.1 id m' t' (rts_delR.1 k1).1 k2 x y k3
 ·rw [rts_put]
  intro id m' t' k0 k1
  have e : id ≠ d := by omega
  simp only [updN, e, if_false]
  rcases List.mem_cons.1 k1 with k1 | k1
  ·cases k1; exact absurd rfl e
  ·exact hG.2 id m' t' k0 (rts_delR.1 k1).1

theorem VR.box {R : RT} {d n : Nat} {f : Nat → Nat → T} {m : M} (h : R d m (.s n 1 f)) (hn : 0 < n) {o : Nat} {H : Nat → Value} (hH : H d = .slice (some ⟨o, 0, none⟩) 1 1) : VR R H w (.p d [] n 0 0) (.pointer (some ⟨o, 0, none⟩)) :=
 ⟨m, _, h, by simp [Okp], ⟨1, f, by simp only [T.at], by omega, hn⟩, H d, ⟨o, 0, none⟩, by simp only [VM.hd], by rw [hH]; simp [adr], rfl⟩
end

section
variable {P : Program} {N : Nat} {Q : Exit → List E → Prop} {L : List E} {ops : Array Oper} {rest : List Oper} {dst : Option Tmp} {ty : TypeId} {pos : String} {af : Array Edge} {g : Option (Nat × Bool)} {d : Nat}
def zbox (zt : List T) : T := .s zt.length 1 fun _ c => zt.getD c .j
theorem Stp.alloc {t : TypeId} {zt : List T} [hT : TyI P t zt] (hd : dst = some d) (hN : d < N) (hb : d < base) : Stp P N ⟨dst, .alloc t, ty, pos, af, g⟩ L (putL (.rt d .box (zbox zt) :: delR L d) d (.p d [] zt.length 0 0)) :=
 Stp.op (fun cx a w hs => by
  obtain ⟨H, G, hr, hG⟩ := hs.rp
  obtain ⟨z, h1, h2, h3⟩ := hT.zero
  refine ⟨.pointer (some ⟨w.heap.size, 0, none⟩), w.alloc (.cells z.cells t), ?_, ?_⟩
  ·refine run_v ?_
   simp [Instr.alloc, h1 w, newVar, newRow]
  ·rw [hd]
   have hO : Own (w.alloc (.cells z.cells t)) (zbox zt) (fun a o => (0 < 1 ∧ blkFP w.heap.size a o) ∨ ∃ k c, k < 1 ∧ c < zt.length ∧ False) (.slice (some ⟨w.heap.size, 0, none⟩) 1 1) :=
    Own.alloc (n := zt.length) (len := 1) (cap := 1) hT.pos (Nat.le_refl _) (by simp [maxLen]) (by rw [h2, Nat.one_mul]) (fun _ _ _ _ => False) (fun k c hk hc => by
     obtain ⟨v, g1, g2⟩ := h3 c _ (List.getElem?_eq_getElem hc)
     refine ⟨v, by rw [show k = 0 by omega]; simpa using g1, ?_⟩
     have := g2.own (w := w)
     rw [show zt.getD c .j = zt[c] by simp [List.getD, hc]]
     exact this) (by intro _ _ _ _ _ _ _ _ _ _ _ h; exact h.elim)
   have hnew : ∀ x y, ((0 < 1 ∧ blkFP w.heap.size x y) ∨ ∃ k c, k < 1 ∧ c < zt.length ∧ False) → x = w.heap.size := by
    rintro x y (⟨_, h⟩ | ⟨_, _, _, _, h⟩)
    ·exact h
    ·exact h.elim
   refine hs.new hr hG (Chg.alloc _ _ _) hN hb (by simp) hO (fun _ => ⟨_, _, rfl⟩) (fun id m t hne h x y hg hf => ?_) (fun x y hf => ?_) (VR.box (m := .box) (List.mem_cons_self ..) hT.pos (by simp [updN]))
   ·have e := hnew x y hf
    have : x < w.heap.size := by
     by_cases hm : m = .ro
     ·subst hm; exact hr.rold id t h x y hg
     ·exact (hr.own id m t h hm).old x y hg
    omega
   ·have e := hnew x y hf
    have := hs.chg.size
    exact .inr (by omega))
end
open Go Go.RowKit

def X.leaves : X → List X
 | .g xs => xs
 | x => [x]
def X.one : X → Bool
 | .v y => y.oneCell'
 | .c | .p .. | .h .. | .a .. | .f .. => true
 | _ => false
def X.flat : X → Bool
 | .g _ => true
 | x => x.one
def Ones (R : RT) (H : Nat → Value) (w : World) : Prop := ∀ (x : X) (v : Value), VR R H w x v → x.one = true → v.oneCell' = true
theorem Rp.ones {L : List E} {val : Nat → Value} {H : Nat → Value} {G : Nat → FP} {w : World} (hr : Rp L val H G w) : Ones (rts L) H w := fun x v h hx => by
 cases x with
 | v y => rw [show v = y from h]; exact hx
 | c => exact h
 | p => obtain ⟨_, _, _, _, _, _, _, _, _, h⟩ := h; rw [h]; rfl
 | h id q =>
  obtain ⟨m, t, h1, h2, ⟨n, len, f, h3⟩, h4⟩ := h
  obtain ⟨hv, F, e1, e2⟩ := hr.node h1 h2
  rw [h3] at e2
  rw [h4] at e1; cases e1
  obtain ⟨a, cap, e, _⟩ := e2.hdr
  rw [e]; rfl
 | a => obtain ⟨_, _, _, _, _, _, _, _, _, h, _⟩ := h; rw [h]; rfl
 | f => obtain ⟨_, h, _⟩ := h; rw [h]; rfl
 | _ => simp [X.one] at hx
theorem cells_one {v : Value} (h : v.oneCell' = true) : v.cells = #[v] := by cases v <;> first | rfl | (simp [Value.oneCell'] at h)
theorem VR.cells {R : RT} {H : Nat → Value} {w : World} (ho : Ones R H w) {x : X} {v : Value} (h : VR R H w x v) (hx : x.flat = true) : VRs R H w x.leaves v.cells.toList := by
 cases x with
 | g xs => obtain ⟨vs, rfl, h⟩ := h; exact h
 | _ => rw [cells_one (ho _ _ h hx)]; exact ⟨h, trivial⟩
theorem VRs.len {R : RT} {H : Nat → Value} {w : World} {xs : List X} {vs : List Value} (h : VRs R H w xs vs) : xs.length = vs.length := h.nth.1
theorem VRs.append {R : RT} {H : Nat → Value} {w : World} : ∀ {xs ys : List X} {vs us : List Value}, VRs R H w xs vs → VRs R H w ys us → VRs R H w (xs ++ ys) (vs ++ us)
 | [], _, [], _, _, h => h
 | _ :: _, _, _ :: _, _, ⟨h1, h2⟩, h => ⟨h1, h2.append h⟩
 | [], _, _ :: _, _, h, _ => h.elim
 | _ :: _, _, [], _, h, _ => h.elim
theorem VRs.take {R : RT} {H : Nat → Value} {w : World} : ∀ {xs : List X} {vs : List Value} (n : Nat), VRs R H w xs vs → VRs R H w (xs.take n) (vs.take n)
 | _, _, 0, _ => by simp [VRs]
 | [], [], _ + 1, _ => trivial
 | _ :: _, _ :: _, n + 1, ⟨h1, h2⟩ => ⟨h1, h2.take n⟩
 | [], _ :: _, _ + 1, h => h.elim
 | _ :: _, [], _ + 1, h => h.elim
theorem VRs.drop {R : RT} {H : Nat → Value} {w : World} : ∀ {xs : List X} {vs : List Value} (n : Nat), VRs R H w xs vs → VRs R H w (xs.drop n) (vs.drop n)
 | _, _, 0, h => by simpa using h
 | [], [], _ + 1, _ => trivial
 | _ :: _, _ :: _, n + 1, ⟨_, h2⟩ => h2.drop n
 | [], _ :: _, _ + 1, h => h.elim
 | _ :: _, [], _ + 1, h => h.elim

theorem fold_set (off : Nat) : ∀ (l : List Value) (k : Nat) (cs : Array Value), off + k + l.length ≤ cs.size → ((l.zipIdx k).foldl (fun cs (c, j) => cs.setIfInBounds (off + j) c) cs).toList = cs.toList.take (off + k) ++ l ++ cs.toList.drop (off + k + l.length)
 | [], k, cs, _ => by simp
 | v :: l, k, cs, h => by
  simp only [List.length_cons] at h
  simp only [List.zipIdx_cons, List.foldl_cons]
  rw [fold_set off l (k + 1) _ (by simp; omega)]
  have hlt : off + k < cs.toList.length := by simp; omega
  simp only [Array.toList_setIfInBounds, List.length_cons]
  rw [List.drop_set_of_lt (by omega), List.set_eq_take_append_cons_drop, if_pos hlt]
  have h1 : (cs.toList.take (off + k)).length = off + k := by rw [List.length_take]; omega
  rw [show off + (k + 1) = (cs.toList.take (off + k)).length + 1 by omega, List.take_append, h1]
  simp only [List.take_take, Nat.add_sub_cancel_left, Nat.min_def]
  rw [if_neg (by omega)]
  simp only [List.take_succ_cons, List.take_zero, List.append_assoc, List.singleton_append, List.cons_append, List.nil_append]
  rw [show off + k + 1 + l.length = off + k + (l.length + 1) by omega]
theorem fold_arr (off : Nat) (v cs : Array Value) (h : off + v.size ≤ cs.size) : (v.zipIdx.foldl (fun cs (c, j) => cs.setIfInBounds (off + j) c) cs).toList = cs.toList.take off ++ v.toList ++ cs.toList.drop (off + v.size) := by
 have := fold_set off v.toList 0 cs (by simpa using h)
 simp only [Nat.add_zero, Array.length_toList] at this
 rw [← this, ← Array.foldl_toList]
 simp

def fillX (place : Nat → Option (Nat × Nat)) : List X → List (Nat × X) → Option (List X)
 | xs, [] => some xs
 | xs, (i, x) :: rest => match place i with
  | none => none
  | some (off, size) => if x.flat = true ∧ x.leaves.length = size ∧ off + size ≤ xs.length then fillX place (xs.take off ++ x.leaves ++ xs.drop (off + size)) rest else none
theorem fill_ok {R : RT} {H : Nat → Value} {w : World} (ho : Ones R H w) {place : Nat → Option (Nat × Nat)} : ∀ {ps : List (Nat × X)} {vs : List (Nat × Value)} {xs ys : List X} {cs : Array Value}, VRs R H w xs cs.toList → ps.length = vs.length → (∀ (i : Nat) p v, ps[i]? = some p → vs[i]? = some v → p.1 = v.1 ∧ VR R H w p.2 v.2) →
    fillX place xs ps = some ys → ∃ cs', Instr.fill place cs vs = some cs' ∧ VRs R H w ys cs'.toList
  | [], [], xs, ys, cs, h, _, _, e => by simp only [fillX, Option.some.injEq] at e; subst e; exact ⟨cs, rfl, h⟩
  | (i, x) :: ps, (i', v) :: vs, xs, ys, cs, h, hl, hp, e => by
    obtain ⟨h1, h2⟩ := hp 0 (i, x) (i', v) rfl rfl
    simp only at h1 h2
    subst h1
    simp only [fillX] at e
    split at e
    · cases e
    · rename_i off size hpl
      split at e
      · rename_i hc
        obtain ⟨hc1, hc2, hc3⟩ := hc
        have hv := h2.cells ho hc1
        have hvl := hv.len
        have hxl := h.len
        simp only [Array.length_toList] at hvl hxl
        have hb : off + v.cells.size ≤ cs.size := by omega
        have hcond : (v.cells.size ≠ size || off + v.cells.size > cs.size) = false := by simp; omega
        obtain ⟨cs', g1, g2⟩ := fill_ok ho (place := place) (cs := v.cells.zipIdx.foldl (fun cs (c, j) => cs.setIfInBounds (off + j) c) cs) (ps := ps) (vs := vs) (xs := xs.take off ++ x.leaves ++ xs.drop (off + size)) (ys := ys) (by
          rw [fold_arr off v.cells cs hb, show v.cells.size = size by omega]
          exact ((h.take off).append hv).append (h.drop _)) (by simpa using hl) (fun j p u k1 k2 => hp (j + 1) p u k1 k2) e
        refine ⟨cs', ?_, g2⟩
        simp only [Instr.fill, hpl, hcond]
        exact g1
      · cases e
  | [], _ :: _, _, _, _, _, hl, _, _ => by simp at hl
  | _ :: _, [], _, _, _, _, hl, _, _ => by simp at hl
open Go Go.RowKit

def T.toX : T → X
 | .v y => .v y
 | .s .. => .v (.slice none 0 0)
 | .j => .j
class BdI (P : Program) (t : TypeId) (fl : outParam (List (Nat × Nat))) : Prop where
 st : ∃ fs, P.underlying t = some (.struct fs) ∧ ∀ w, (fs.mapM fun f => do pure (f.offset, ← sizeOf f.type) : Sem (Array (Nat × Nat))).run P w = .ok fl.toArray w
theorem zero_ok {R : RT} {H : Nat → Value} {w : World} : ∀ {zt : List T} {cs : List Value}, zt.length = cs.length → (∀ (i : Nat) y, zt[i]? = some y → ∃ c, cs[i]? = some c ∧ ZC y c) → VRs R H w (zt.map T.toX) cs
 | [], [], _, _ => trivial
 | y :: zt, c :: cs, hl, h => by
  refine ⟨?_, zero_ok (by simpa using hl) fun i y hy => by simpa using h (i + 1) y (by simpa using hy)⟩
  obtain ⟨c', h1, h2⟩ := h 0 y rfl
  cases h1
  cases y with
  | v x => exact h2.1
  | j => exact h2.elim
  | s n len f => exact h2.2.2
 | [], _ :: _, hl, _ => by simp at hl
 | _ :: _, [], hl, _ => by simp at hl

def srcT (L : List E) (z : T) (x : X) : T × Option Nat :=
 match x with
 | .v y => match z with
  | .s n _ _ => match y with
   | .slice none 0 0 => (.s n 0 fun _ _ => .j, none)
   | y => (.v y, none)
  | _ => (.v y, none)
 | .h id q => match q with
  | [] => match rootL L id with
   | some (.row, t) => (t, some id)
   | _ => (.j, none)
  | _ => (.j, none)
 | _ => (.j, none)
def srcs (L : List E) : List T → List X → List (T × Option Nat)
 | z :: zs, x :: xs => srcT L z x :: srcs L zs xs
 | _, _ => []
def movedOf : List (T × Option Nat) → List Nat
  | [] => []
  | (_, some id) :: r => id :: movedOf r
  | (_, none) :: r => movedOf r
def fpOf (G : Nat → FP) : Option Nat → FP
 | some id => G id
 | none => fun _ _ => False
def zpos : List T → Bool
 | [] => true
 | .s n _ _ :: r => decide (0 < n) && zpos r
 | _ :: r => zpos r

section
variable {L : List E} {val : Nat → Value} {H : Nat → Value} {G : Nat → FP} {w w' : World} {P : Program} {N : Nat} {cx : Cx} {a : Act}
theorem srcT_ok (hr : Rp L val H G w) {z : T} {x : X} {v : Value} (hz : zpos [z] = true) (h : VR (rts L) H w x v) (hx : x.one = true) : Own w (srcT L z x).1 (fpOf G (srcT L z x).2) v ∧ ∀ id, (srcT L z x).2 = some id → ∃ t, rts L id .row t := by
 have hj : Own w .j (fpOf G none) v := ⟨hr.ones x v h hx, fun _ _ h => h⟩
 cases x with
 | v y =>
  have hv : v = y := h
  subst hv
  simp only [srcT]
  split
  ·rename_i n l f
   split
   ·refine ⟨?_, by simp⟩
    exact ZC.own (t := .s n 0 fun _ _ => .j) ⟨by simpa [zpos] using hz, rfl, rfl⟩
   ·exact ⟨⟨rfl, hx, fun _ _ h => h⟩, by simp⟩
  ·exact ⟨⟨rfl, hx, fun _ _ h => h⟩, by simp⟩
 | h id q =>
  simp only [srcT]
  split
  ·split
   ·rename_i t hR
    have hR := rootL_mem hR
    obtain ⟨m', t', g1, g2, g3, g4⟩ := h
    simp only [VM.hd, Option.some.injEq] at g4
    subst g4
    exact ⟨hr.own id .row t hR (by simp), fun i hi => by cases hi; exact ⟨t, hR⟩⟩
   ·exact ⟨hj, by simp⟩
  ·exact ⟨hj, by simp⟩
 | _ => exact ⟨hj, by simp [srcT]⟩

theorem srcs_ok (hr : Rp L val H G w) : ∀ {zs : List T} {xs : List X} {vs : List Value}, zs.length = xs.length → zpos zs = true → VRs (rts L) H w xs vs → xs.all X.one = true →
  (srcs L zs xs).length = xs.length ∧ ∀ i v, vs[i]? = some v → Own w ((srcs L zs xs).getD i (.j, none)).1 (fpOf G ((srcs L zs xs).getD i (.j, none)).2) v ∧ ∀ id, ((srcs L zs xs).getD i (.j, none)).2 = some id → ∃ t, rts L id .row t
 | [], [], [], _, _, _, _ => ⟨rfl, fun i v h => by simp at h⟩
 | z :: zs, x :: xs, v :: vs, hl, hz, ⟨h1, h2⟩, ho => by
  simp only [List.all_cons, Bool.and_eq_true] at ho
  have hz2 : zpos [z] = true ∧ zpos zs = true := by
   cases z <;> simp [zpos] at hz ⊢ <;> exact hz
  obtain ⟨g1, g2⟩ := srcs_ok hr (zs := zs) (by simpa using hl) hz2.2 h2 ho.2
  refine ⟨by simp [srcs, g1], fun i u hu => ?_⟩
  cases i with
  | zero =>
   simp only [List.getElem?_cons_zero, Option.some.injEq] at hu
   subst hu
   exact srcT_ok hr hz2.1 h1 ho.1
  | succ i => exact g2 i u (by simpa using hu)
 | [], _ :: _, _, hl, _, _, _ => by simp at hl
 | _ :: _, [], _, hl, _, _, _ => by simp at hl
 | _ :: _, _ :: _, [], _, _, h, _ => h.elim
 | [], [], _ :: _, _, _, h, _ => h.elim

def delRs (L : List E) : List Nat → List E
 | [] => L
 | d :: r => delRs (delR L d) r
theorem rts_delRs : ∀ {ms : List Nat} {L : List E} {id : Nat} {m : M} {t : T}, rts (delRs L ms) id m t ↔ rts L id m t ∧ id ∉ ms
 | [], _, _, _, _ => by simp [delRs]
 | d :: ms, L, id, m, t => by
  rw [delRs, rts_delRs, rts_delR, List.mem_cons]
  constructor
  ·rintro ⟨⟨h1, h2⟩, h3⟩; exact ⟨h1, fun h => h.elim h2 h3⟩
  ·rintro ⟨h1, h2⟩; exact ⟨⟨h1, fun h => h2 (.inl h)⟩, fun h => h2 (.inr h)⟩
theorem Rp.delRs : ∀ {ms : List Nat} {L : List E}, Rp L val H G w → Rp (VM.delRs L ms) val H G w
 | [], _, h => h
 | d :: ms, L, h => by rw [VM.delRs]; exact Rp.delRs (h.delR d)

theorem moved_mem : ∀ {ss : List (T × Option Nat)} {i id : Nat}, (ss.getD i (.j, none)).2 = some id → id ∈ movedOf ss
  | [], i, id, h => by simp at h
  | (t, some id') :: r, i, id, h => by
    cases i with
    | zero => simp at h; subst h; simp [movedOf]
    | succ i => simp only [movedOf]; exact List.mem_cons_of_mem _ (moved_mem (i := i) (by simpa using h))
  | (t, none) :: r, i, id, h => by
    cases i with
    | zero => simp at h
    | succ i => simp only [movedOf]; exact moved_mem (i := i) (by simpa using h)
theorem moved_inj : ∀ {ss : List (T × Option Nat)}, (movedOf ss).Nodup → ∀ {i j id : Nat}, (ss.getD i (.j, none)).2 = some id → (ss.getD j (.j, none)).2 = some id → i = j
  | [], _, i, j, id, h, _ => by simp at h
  | (t, some id') :: r, hn, i, j, id, h, h' => by
    simp only [movedOf, List.nodup_cons] at hn
    cases i <;> cases j
    · rfl
    · rename_i j; simp at h; subst h; exact absurd (moved_mem (i := j) (by simpa using h')) hn.1
    · rename_i i; simp at h'; subst h'; exact absurd (moved_mem (i := i) (by simpa using h)) hn.1
    · rename_i i j; rw [moved_inj hn.2 (i := i) (j := j) (by simpa using h) (by simpa using h')]
  | (t, none) :: r, hn, i, j, id, h, h' => by
    simp only [movedOf] at hn
    cases i <;> cases j
    · rfl
    · simp at h
    · simp at h'
    · rename_i i j; rw [moved_inj hn (i := i) (j := j) (by simpa using h) (by simpa using h')]

def rowT (n len : Nat) (ss : List (T × Option Nat)) : T := .s n len fun k c => (ss.getD (k * n + c) (.j, none)).1

theorem new_row (hs : Sat N cx L a w) (hr : Rp L (Act.val a) H G w) (hG : Good cx L H G) {zs : List T} {xs : List X} {cs : Array Value} (hV : VRs (rts L) H w xs cs.toList) (hl : zs.length = xs.length) (hz : zpos zs = true) (ho : xs.all X.one = true)
  {n len : Nat} (hn : 0 < n) (hlen : xs.length = len * n) (hm : len ≤ maxLen) (hnd : (movedOf (srcs L zs xs)).Nodup) {e : TypeId} :
  ∃ F, Own (w.alloc (.cells cs e)) (rowT n len (srcs L zs xs)) F (.slice (some ⟨w.heap.size, 0, none⟩) len len) ∧
   (∀ id m t, rts (delRs L (movedOf (srcs L zs xs))) id m t → ∀ a o, G id a o → F a o → False) ∧ (∀ a o, F a o → cx.S0 a o ∨ cx.w0.heap.size ≤ a) := by
 obtain ⟨g1, g2⟩ := srcs_ok hr hl hz hV ho
 have hcs : cs.size = len * n := by have := hV.len; simp only [Array.length_toList] at this; omega
 have hold : ∀ id m t, rts L id m t → ∀ x y, G id x y → x < w.heap.size := fun id m t h x y hg => by
  by_cases hm : m = .ro
  ·subst hm; exact hr.rold id t h x y hg
  ·exact (hr.own id m t h hm).old x y hg
 refine ⟨_, Own.alloc (n := n) (len := len) (cap := len) hn (Nat.le_refl _) hm hcs (fun k c => fpOf G ((srcs L zs xs).getD (k * n + c) (.j, none)).2) (fun k c hk hc => ?_) (fun k c k' c' hne hk hc hk' hc' x y h1 h2 => ?_), fun id m t hid x y hg hf => ?_, fun x y hf => ?_⟩
 ·have hlt : k * n + c < cs.size := by rw [hcs]; exact row_lt (Nat.le_refl _) hk hc
  exact ⟨cs[k * n + c], by simp [hlt], (g2 _ _ (by simp [hlt])).1⟩
 ·have hi := row_ne hc hc' hne
  generalize he1 : ((srcs L zs xs).getD (k * n + c) (.j, none)).2 = o1 at h1
  generalize he2 : ((srcs L zs xs).getD (k' * n + c') (.j, none)).2 = o2 at h2
  cases o1 with
  | none => exact h1
  | some i1 =>
   cases o2 with
   | none => exact h2
   | some i2 =>
    have hne' : i1 ≠ i2 := fun e => hi (moved_inj hnd (by rw [he1, e]) he2)
    have hlt1 : k * n + c < cs.size := by rw [hcs]; exact row_lt (Nat.le_refl _) hk hc
    have hlt2 : k' * n + c' < cs.size := by rw [hcs]; exact row_lt (Nat.le_refl _) hk' hc'
    obtain ⟨t1, r1⟩ := (g2 (k * n + c) _ (by simp [hlt1]; rfl)).2 i1 he1
    obtain ⟨t2, r2⟩ := (g2 (k' * n + c') _ (by simp [hlt2]; rfl)).2 i2 he2
    exact hr.dis _ _ _ _ _ _ r1 r2 hne' (by simp) x y h1 h2
 ·obtain ⟨hid1, hid2⟩ := rts_delRs.1 hid
  rcases hf with ⟨_, hx⟩ | ⟨k, c, hk, hc, h1⟩
  ·replace hx : x = _ := hx
   have := hold _ _ _ hid1 x y hg; omega
  ·generalize he1 : ((srcs L zs xs).getD (k * n + c) (.j, none)).2 = o1 at h1
   cases o1 with
   | none => exact h1
   | some i1 =>
    have hlt1 : k * n + c < cs.size := by rw [hcs]; exact row_lt (Nat.le_refl _) hk hc
    obtain ⟨t1, r1⟩ := (g2 (k * n + c) _ (by simp [hlt1]; rfl)).2 i1 he1
    have hne : i1 ≠ id := fun e => hid2 (e ▸ moved_mem he1)
    exact hr.dis _ _ _ _ _ _ r1 hid1 hne (by simp) x y h1 hg
 ·rcases hf with ⟨_, hx, _⟩ | ⟨k, c, hk, hc, h1⟩
  ·have := hs.chg.size; exact .inr (by omega)
  ·generalize he1 : ((srcs L zs xs).getD (k * n + c) (.j, none)).2 = o1 at h1
   cases o1 with
   | none => exact h1.elim
   | some i1 =>
    have hlt1 : k * n + c < cs.size := by rw [hcs]; exact row_lt (Nat.le_refl _) hk hc
    obtain ⟨t1, r1⟩ := (g2 (k * n + c) _ (by simp [hlt1]; rfl)).2 i1 he1
    exact hG.1 i1 _ _ r1 (by simp) x y h1
end
open Go Go.RowKit

section
variable {P : Program} {N : Nat} {Q : Exit → List E → Prop} {L : List E} {ops : Array Oper} {rest : List Oper} {dst : Option Tmp} {ty : TypeId} {pos : String} {af : Array Edge} {g : Option (Nat × Bool)} {d : Nat}
def evParts (L : List E) (parts : Array (Nat × Operand)) : List (Nat × X) := parts.toList.map fun p => (p.1, evX L p.2)
theorem evParts_ok {a : Act} {H : Nat → Value} {w : World} (he : ∀ y, VR (rts L) H w (evX L y) (Act.eval a y)) (parts : Array (Nat × Operand)) : (evParts L parts).length = (parts.toList.map fun p => (p.1, a.eval p.2)).length ∧
  ∀ (i : Nat) p v, (evParts L parts)[i]? = some p → (parts.toList.map fun p => (p.1, a.eval p.2))[i]? = some v → p.1 = v.1 ∧ VR (rts L) H w p.2 v.2 := by
 refine ⟨by simp [evParts], fun i p v h1 h2 => ?_⟩
 simp only [evParts, List.getElem?_map] at h1 h2
 cases hp : parts.toList[i]? with
 | none => rw [hp] at h1; cases h1
 | some q =>
  rw [hp] at h1 h2
  cases h1; cases h2
  exact ⟨rfl, he _⟩
theorem toList_parts {a : Act} (parts : Array (Nat × Operand)) : (parts.map fun x => (x.1, a.eval x.2)).toList = parts.toList.map fun p => (p.1, a.eval p.2) := by simp

theorem Qt.build {t : TypeId} {parts : Array (Nat × Operand)} {zt : List T} {fl : List (Nat × Nat)} [hT : TyI P t zt] [hB : BdI P t fl] {ys : List X} (hf : fillX (fl[·]?) (zt.map T.toX) (evParts L parts) = some ys) : Qt P ⟨dst, .build t parts, ty, pos, af, g⟩ L (.g ys) :=
 (fun H w a he ⟨val, G, hr⟩ => by
  obtain ⟨z, h1, h2, h3⟩ := hT.zero
  obtain ⟨fs, h4, h5⟩ := hB.st
  obtain ⟨e1, e2⟩ := evParts_ok he parts
  have hz : VRs (rts L) H w (zt.map T.toX) z.cells.toList := zero_ok (by simp [h2]) fun i y hy => by
   obtain ⟨c, k1, k2⟩ := h3 i y hy
   exact ⟨c, by simpa using k1, k2⟩
  obtain ⟨cs', g1, g2⟩ := fill_ok hr.ones hz e1 e2 hf
  refine ⟨.agg cs', run_v ?_, cs'.toList, by simp, g2⟩
  simp only [Instr.build, Sem.run_bind, h1 w, Result.andThen, run_underlying h4 w, h5 w]
  have hg : Instr.fill (fun i => fl.toArray[i]?) z.cells (parts.map fun x => (x.1, a.eval x.2)).toList = some cs' := by
   rw [toList_parts]; simpa using g1
  simp only [hg]
  rfl)

end
open Go Go.RowKit

section
variable {P : Program} {N : Nat} {Q : Exit → List E → Prop} {L : List E} {ops : Array Oper} {rest : List Oper} {dst : Option Tmp} {ty : TypeId} {pos : String} {af : Array Edge} {g : Option (Nat × Bool)} {d : Nat}
class SlI (P : Program) (t : TypeId) (e : outParam TypeId) : Prop where
 sl : P.underlying t = some (.slice e)

def reps (zt : List T) : Nat → List T
 | 0 => []
 | k + 1 => zt ++ reps zt k
theorem reps_len (zt : List T) : ∀ k, (reps zt k).length = k * zt.length
 | 0 => by simp [reps]
 | k + 1 => by rw [reps, List.length_append, reps_len zt k, Nat.add_mul, Nat.one_mul, Nat.add_comm]
theorem reps_get (zt : List T) : ∀ (k i : Nat), i < k * zt.length → (reps zt k)[i]? = zt[i % zt.length]?
 | 0, i, h => by simp at h
 | k + 1, i, h => by
  rw [reps]
  by_cases hi : i < zt.length
  ·rw [List.getElem?_append_left hi, Nat.mod_eq_of_lt hi]
  ·rw [List.getElem?_append_right (by omega), reps_get zt k (i - zt.length) (by rw [Nat.add_mul, Nat.one_mul] at h; omega)]
   congr 1
   rw [Nat.mod_eq_sub_mod (a := i) (by omega)]
def zrow (n : Nat) (z : Array Value) : Array Value := (Array.range n).map (z[· % z.size]!)
theorem zrow_get {n : Nat} {z : Array Value} {i : Nat} (hi : i < n) (hz : 0 < z.size) : (zrow n z)[i]? = z[i % z.size]? := by
 have : i % z.size < z.size := Nat.mod_lt _ hz
 simp [zrow, hi, this]
theorem zrow_ok {R : RT} {H : Nat → Value} {w : World} {zt : List T} {z : Array Value} (hs : z.size = zt.length) (hp : 0 < zt.length) (h : ∀ (i : Nat) (y : T), zt[i]? = some y → ∃ c, z[i]? = some c ∧ ZC y c) (k : Nat) : VRs R H w ((reps zt k).map T.toX) (zrow (k * zt.length) z).toList := by
 refine zero_ok (by simp [reps_len, zrow]) fun i y hy => ?_
 have hi : i < k * zt.length := by
  rcases Nat.lt_or_ge i (k * zt.length) with h | h
  ·exact h
  ·rw [List.getElem?_eq_none (by rw [reps_len]; exact h)] at hy; cases hy
 rw [reps_get zt k i hi] at hy
 obtain ⟨c, h1, h2⟩ := h _ _ hy
 refine ⟨c, ?_, h2⟩
 rw [Array.getElem?_toList, zrow_get hi (by omega), hs]; exact h1

theorem Stp.buildSlice {t e : TypeId} {len : Nat} {parts : Array (Nat × Operand)} {zt : List T} [hS : SlI P t e] [hT : TyI P e zt] {ys : List X} (hd : dst = some d) (hN : d < N) (hb : d < base)
  (hf : fillX (fun i => some (i * zt.length, zt.length)) ((reps zt len).map T.toX) (evParts L parts) = some ys) (hsm : len * zt.length ≤ 2 ^ 24) (hyl : ys.length = len * zt.length) (hz : zpos (reps zt len) = true) (ho : ys.all X.one = true)
  (hnd : (movedOf (srcs L (reps zt len) ys)).Nodup) : Stp P N ⟨dst, .buildSlice t len parts, ty, pos, af, g⟩ L (putL (.rt d .row (rowT zt.length len (srcs L (reps zt len) ys)) :: delR (delRs L (movedOf (srcs L (reps zt len) ys))) d) d (.h d [])) :=
 Stp.op (fun cx a w hs => by
  obtain ⟨H, G, hr, hG⟩ := hs.rp
  obtain ⟨z, h1, h2, h3⟩ := hT.zero
  obtain ⟨e1, e2⟩ := evParts_ok (ev_ok hr) parts
  have hz0 : VRs (rts L) H w ((reps zt len).map T.toX) (zrow (len * zt.length) z.cells).toList := zrow_ok h2 hT.pos h3 len
  obtain ⟨cs', g1, g2⟩ := fill_ok hr.ones hz0 e1 e2 hf
  have hlm : len ≤ maxLen := by
   have : len * 1 ≤ len * zt.length := Nat.mul_le_mul_left _ hT.pos
   simp only [maxLen]; omega
  obtain ⟨F, k1, k2, k3⟩ := new_row hs hr hG g2 (by rw [reps_len, hyl]) hz ho hT.pos hyl hlm hnd (e := e)
  have hpos := hT.pos
  have h0 : (len * zt.length = 0) ↔ len = 0 := by
   constructor
   ·intro h; rcases Nat.mul_eq_zero.1 h with h | h <;> omega
   ·intro h; rw [h, Nat.zero_mul]
  refine ⟨.slice (some ⟨w.heap.size, 0, none⟩) len len, w.alloc (.cells cs' e), run_v ?_, ?_⟩
  ·by_cases hc : len * zt.length = 0
   ·have hf' : Instr.fill (fun i => some (i * zt.length, zt.length)) (Array.map (fun _ => (default : Value)) (Array.range 0)) (List.map (fun x => (x.fst, a.eval x.snd)) parts.toList) = some cs' := by
     rw [show Array.map (fun _ => (default : Value)) (Array.range 0) = zrow (len * zt.length) z.cells by rw [hc]; simp [zrow]]
     exact g1
    simp only [Instr.buildSlice, Sem.run_bind, run_underlying hS.sl w, Result.andThen, hT.size w, hc]
    simp [newRow, hf']
   ·have hgt : ¬ (2 ^ 24 < len * zt.length) := by omega
    have hf' : Instr.fill (fun i => some (i * zt.length, zt.length)) (Array.map (fun x => z.cells[x % z.cells.size]!) (Array.range (len * zt.length))) (List.map (fun x => (x.fst, a.eval x.snd)) parts.toList) = some cs' := g1
    simp only [Instr.buildSlice, Sem.run_bind, run_underlying hS.sl w, Result.andThen, hT.size w]
    simp only [Nat.reducePow] at hgt
    simp [hgt, hc, h1 w, newRow, hf']
  ·rw [hd]
   exact hs.new hr.delRs (Good.sub hG fun _ _ _ h => (rts_delRs.1 h).1) (Chg.alloc _ _ _) hN hb (by simp) k1 (fun h => by cases h) (fun id m t _ h => k2 id m t h) k3 ⟨.row, _, List.mem_cons_self .., by simp [Okp], ⟨_, _, _, by simp only [T.at, rowT]; rfl⟩, by simp only [VM.hd, updN, if_true]⟩)
end
open Go Go.RowKit

theorem modify_get {h : Array Obj} {b i : Nat} {f : Obj → Obj} : (h.modify b f)[i]? = if b = i then h[i]?.map f else h[i]? := by
 rw [Array.getElem?_modify]
theorem Chg.setCell {S : FP} {w : World} {b o : Nat} {v : Value} (hS : S b o) : Chg S w (w.setCell ⟨b, o, none⟩ v) := by
 refine ⟨rfl, rfl, rfl, by simp [World.setCell], fun i cur e fr h => ?_, fun i x h hx => ?_⟩
 ·by_cases hi : b = i
  ·subst hi
   refine ⟨cur.setIfInBounds o v, ?_, by simp, fun o' ho' => ?_⟩
   ·simp only [World.setCell]
    rw [modify_get, if_pos rfl, h]
    rfl
   ·have : o ≠ o' := fun e => ho' (e ▸ hS)
    rw [Array.getElem?_setIfInBounds_ne this]
  ·refine ⟨cur, ?_, rfl, fun _ _ => rfl⟩
   simp only [World.setCell]
   rw [modify_get, if_neg hi]; exact h
 ·simp only [World.setCell]
  rw [modify_get]
  split
  ·rename_i hi; subst hi
   rw [h]
   cases x with
   | cells c e f => exact absurd rfl (hx c e f)
   | _ => rfl
  ·exact h
theorem Chg.setCells {S : FP} {b : Nat} : ∀ {vs : List Value} {o : Nat} {w : World}, (∀ j, j < vs.length → S b (o + j)) → Chg S w (w.setCells b o vs)
 | [], _, _, _ => Chg.refl _ _
 | v :: vs, o, w, h => by
  have h1 : Chg S w (w.setCell ⟨b, o, none⟩ v) := Chg.setCell (by simpa using h 0 (by simp))
  refine h1.trans (Chg.setCells (vs := vs) (o := o + 1) fun j hj => ?_)
  have := h (j + 1) (by simp; omega)
  rwa [show o + (j + 1) = o + 1 + j by omega] at this
theorem Kd.frozen {w : World} {b sz : Nat} (h : Kd w b sz) (o : Nat) : w.frozen? ⟨b, o, none⟩ = false := by
 obtain ⟨cur, e, h1, _⟩ := h
 simp [World.frozen?, h1]
theorem Kd.cell {w : World} {b sz o : Nat} (h : Kd w b sz) (ho : o < sz) : (w.cell? ⟨b, o, none⟩).isSome = true := by
 obtain ⟨cur, e, h1, h2⟩ := h
 simp [World.cell?, h1, h2 ▸ ho]
theorem Chg.drew {S : FP} (w : World) : Chg S w w.drew := ⟨rfl, rfl, rfl, Nat.le_refl _, fun _ cur _ _ h => ⟨cur, h, rfl, fun _ _ => rfl⟩, fun _ _ h _ => h⟩

section
variable {P : Program} {w : World}
theorem own_app {t tx ty e : TypeId} {zt : List T} (hS : SlI P t e) (hT : TyI P e zt) {len : Nat} {f : Nat → Nat → T} {F : FP} {h : Value} (hO : Own w (.s zt.length len f) F h) {x : Value} {m : Nat} {news : List Value} (hs : Src P zt.length tx x m news w)
  {g : Nat → Nat → T} {Gn : Nat → Nat → FP} (hg : ∀ k c, k < m → c < zt.length → ∃ v, news[k * zt.length + c]? = some v ∧ Own w (g k c) (Gn k c) v)
  (hgd : ∀ k c k' c', (k ≠ k' ∨ c ≠ c') → k < m → c < zt.length → k' < m → c' < zt.length → ∀ x y, Gn k c x y → Gn k' c' x y → False)
  (hgF : ∀ k c, k < m → c < zt.length → ∀ x y, Gn k c x y → F x y → False) (hbig : len + m ≤ 4194304) :
  ∃ v' w' F', (Builtin.append_ #[t, tx] ty #[h, x]).run P w = .ok v' w' ∧ Own w' (.s zt.length (len + m) fun k c => if k < len then f k c else g (k - len) c) F' v' ∧ Chg F w w' ∧
   ∀ a o, F' a o → F a o ∨ (∃ k c, k < m ∧ c < zt.length ∧ Gn k c a o) ∨ w.heap.size ≤ a := by
 obtain ⟨i, z, hi, hsz, hby, hz, hzc, _⟩ := hT.info
 have hpos := hT.pos
 rw [← hsz] at hs
 obtain ⟨hn, a, cap, rfl, hl, hm, b, off, V, G, h1, h2, h3, h4, h5⟩ := hO
 have hmx : len + m ≤ maxLen := by simp only [maxLen]; omega
 by_cases hroom : len + m ≤ cap
 ·by_cases hc0 : cap = 0
  ·have hl0 : len = 0 := by omega
   have hm0 : m = 0 := by omega
   subst hl0 hm0 hc0
   have hn0 : news = [] := List.length_eq_zero_iff.1 (by rw [hs.newsLen, Nat.zero_mul])
   subst hn0
   refine ⟨.slice a 0 0, w, F, ?_, ⟨hn, a, 0, rfl, Nat.le_refl _, by simp [maxLen], b, off, V, G, fun h => by omega, fun k c hk => by omega, fun k c k' c' _ hk => by omega, fun k c hk => by omega, fun x y => ?_⟩, Chg.refl _ _, fun _ _ h => .inl h⟩
   ·have hst : ∀ ad w, (storeCells ad []).run P w = .ok () w := fun _ _ => rfl
    rcases hs.kind with ⟨e', hk⟩ | hk <;> cases a <;> simp [Builtin.append_, run_underlying hS.sl, run_underlying hk, sizeOf, typeInfo, hi, hs.len, hs.cells, hst]
   ·rw [h5]
  ·obtain ⟨rfl, sz, hk, hoff⟩ := h1 (by omega)
   have hnl : news.length = m * zt.length := by rw [hs.newsLen, hsz]
   have hin : ∀ j, j < news.length → off + len * zt.length + j < off + cap * zt.length := fun j hj => by
    have : (len + m) * zt.length ≤ cap * zt.length := Nat.mul_le_mul_right _ hroom
    rw [Nat.add_mul] at this
    omega
   have hr := run_append_room_src (P := P) w t tx ty e i hS.sl hi b off len cap x m news hs hroom (fun j hj => hk.cell (by rw [hsz]; have := hin j hj; omega)) (fun j _ => hk.frozen _)
   rw [hsz] at hr
   have hC : Chg (rowFP b (off + len * zt.length) news.length) w (w.setCells b (off + len * zt.length) news) := Chg.setCells fun j hj => ⟨rfl, by omega, by omega⟩
   have hsub : ∀ x y, rowFP b (off + len * zt.length) news.length x y → blkFP b x y := fun x y ⟨e1, e2, e3⟩ => e1
   have hrowF : ∀ x y, blkFP b x y → F x y := fun x y h => (h5 x y).2 (.inl ⟨by omega, h⟩)
   refine ⟨_, _, fun a o => F a o ∨ ∃ k c, k < m ∧ c < zt.length ∧ Gn k c a o, hr, ⟨hn, _, cap, rfl, hroom, hm, b, off, fun k c => if k < len then V k c else (news[(k - len) * zt.length + c]?).getD undef, fun k c => if k < len then G k c else Gn (k - len) c, fun _ => ⟨rfl, sz, hk.chg hC, hoff⟩, ?_, ?_, ?_, ?_⟩, hC.mono fun b' o' _ h => hrowF _ _ (hsub _ _ h), fun a o h => h.imp_right .inl⟩
   ·intro k c hk' hc
    by_cases hlt : k < len
    ·simp only [hlt, if_true]
     obtain ⟨e1, e2⟩ := h2 k c hlt hc
     refine ⟨hC.cell e1 fun ⟨_, h, _⟩ => ?_, e2.frame hC fun x y hG hx => h4 k c hlt hc x y hG (hsub x y hx)⟩
     have := row_lt (Nat.le_refl len) hlt hc
     omega
    ·simp only [hlt, if_false]
     obtain ⟨v, e1, e2⟩ := hg (k - len) c (by omega) hc
     have hj : (k - len) * zt.length + c < news.length := by rw [hnl]; exact row_lt (Nat.le_refl m) (by omega) hc
     refine ⟨?_, ?_⟩
     ·have := World.cell?_setCells_in b news (off + len * zt.length) w (fun j hj => hk.cell (by have := hin j hj; omega)) _ hj
      rw [show off + (k * zt.length + c) = off + len * zt.length + ((k - len) * zt.length + c) by rw [Nat.sub_mul]; have : len * zt.length ≤ k * zt.length := Nat.mul_le_mul_right _ (by omega); omega]
      rw [this, List.getElem?_eq_getElem hj]; rfl
     ·rw [e1]
      exact e2.frame hC fun x y hG hx => hgF (k - len) c (by omega) hc x y hG (hrowF _ _ (hsub x y hx))
   ·intro k c k' c' hne hk1 hc1 hk2 hc2 x y g1 g2
    by_cases e1 : k < len <;> by_cases e2 : k' < len <;> simp only [e1, e2, if_true, if_false] at g1 g2
    ·exact h3 k c k' c' hne e1 hc1 e2 hc2 x y g1 g2
    ·exact hgF (k' - len) c' (by omega) hc2 x y g2 ((h5 x y).2 (.inr ⟨k, c, e1, hc1, g1⟩))
    ·exact hgF (k - len) c (by omega) hc1 x y g1 ((h5 x y).2 (.inr ⟨k', c', e2, hc2, g2⟩))
    ·exact hgd (k - len) c (k' - len) c' (by omega) (by omega) hc1 (by omega) hc2 x y g1 g2
   ·intro k c hk1 hc1 x y g hrow
    by_cases e1 : k < len <;> simp only [e1, if_true, if_false] at g
    ·exact h4 k c e1 hc1 x y g hrow
    ·exact hgF (k - len) c (by omega) hc1 x y g (hrowF x y hrow)
   ·intro x y
    constructor
    ·rintro (h | ⟨k, c, hk1, hc1, h⟩)
     ·rcases (h5 x y).1 h with h | ⟨k, c, hk1, hc1, h⟩
      ·exact .inl h
      ·exact .inr ⟨k, c, by omega, hc1, by simp only [hk1, if_true]; exact h⟩
     ·exact .inr ⟨len + k, c, by omega, hc1, by show (if len + k < len then _ else _ : FP) x y; rw [if_neg (by omega), Nat.add_sub_cancel_left]; exact h⟩
    ·rintro (h | ⟨k, c, hk1, hc1, h⟩)
     ·exact .inl ((h5 x y).2 (.inl h))
     ·by_cases e1 : k < len <;> simp only [e1, if_true, if_false] at h
      ·exact .inl ((h5 x y).2 (.inr ⟨k, c, e1, hc1, h⟩))
      ·exact .inr ⟨k - len, c, by omega, hc1, h⟩
 ·have hb2 : (len + m) * i.bytes ≤ 140737488355328 := by
   have := Nat.mul_le_mul hbig hby; omega
  have holds : ∃ olds : List Value, olds.length = len * zt.length ∧ (∀ k c, k < len → c < zt.length → olds[k * zt.length + c]? = some (V k c)) ∧ (Builtin.firstCells i.size len (.slice a len cap)).run P w.drew = .ok olds.toArray w.drew := by
   by_cases hl0 : len = 0
   ·subst hl0
    refine ⟨[], by simp, fun k c hk => by omega, ?_⟩
    cases a with
    | none => simp [Builtin.firstCells]
    | some a => exact run_firstCells_some (P := P) w.drew i.size 0 a 0 cap [] (by simp) (by simp)
   ·obtain ⟨rfl, _⟩ := h1 (by omega)
    refine ⟨(List.range (len * zt.length)).map fun j => V (j / zt.length) (j % zt.length), by simp, fun k c hk hc => ?_, ?_⟩
    ·have hlt := row_lt (Nat.le_refl len) hk hc
     simp only [List.getElem?_map, List.getElem?_range hlt, Option.map_some]
     rw [show (k * zt.length + c) / zt.length = k by rw [Nat.mul_comm, Nat.mul_add_div hpos, Nat.div_eq_of_lt hc]; rfl, show (k * zt.length + c) % zt.length = c by rw [Nat.mul_comm, Nat.mul_add_mod, Nat.mod_eq_of_lt hc]]
    ·refine run_firstCells_some (P := P) w.drew i.size len ⟨b, off, none⟩ len cap _ (by simp [hsz]) fun j v hj => ?_
     simp only [List.getElem?_map] at hj
     have hlt : j < len * zt.length := by
      rcases Nat.lt_or_ge j (len * zt.length) with h | h
      ·exact h
      ·rw [List.getElem?_eq_none (by simpa using h)] at hj; cases hj
     rw [List.getElem?_range hlt] at hj
     simp only [Option.map_some, Option.some.injEq] at hj
     rw [← hj, Addr.add_lit]
     have hd : j / zt.length < len := (Nat.div_lt_iff_lt_mul hpos).2 hlt
     have := (h2 (j / zt.length) (j % zt.length) hd (Nat.mod_lt _ hpos)).1
     rw [show j / zt.length * zt.length + j % zt.length = j by rw [Nat.mul_comm]; exact Nat.div_add_mod j zt.length] at this
     simpa using this
  obtain ⟨olds, o1, o2, o3⟩ := holds
  have hr := run_append_grow_src (P := P) w t tx ty e i z hS.sl hi hz a len cap olds o3 x m news hs (by omega) (by omega) (growslice_fits (by omega) hb2)
  have hge := grownCap_ge w (len + m) cap e
  have hcm := grownCap_le_maxLen w (len + m) cap e hmx
  have hnl : news.length = m * zt.length := by rw [hs.newsLen, hsz]
  have hold : ∀ k c, k < len → c < zt.length → ∀ x y, G k c x y → F x y := fun k c hk hc x y h => (h5 x y).2 (.inr ⟨k, c, hk, hc, h⟩)
  refine ⟨_, _, _, hr, (Own.alloc (w := w.drew) (n := zt.length) (len := len + m) (cap := grownCap w (len + m) cap e) hn hge hcm ?_ (fun k c => if k < len then G k c else Gn (k - len) c) ?_ ?_), (Chg.drew w).trans (Chg.alloc _ _ _), ?_⟩
  ·simp only [Array.size_append, List.size_toArray, List.length_append, size_zeroCells, hzc, o1, hnl, ← Nat.add_mul]
   congr 1; omega
  ·intro k c hk hc
   by_cases e1 : k < len
   ·simp only [e1, if_true]
    have hlt := row_lt (Nat.le_refl len) e1 hc
    refine ⟨V k c, ?_, (h2 k c e1 hc).2.frame (Chg.drew (S := fun _ _ => False) w) fun _ _ _ h => h⟩
    rw [Array.getElem?_append_left (by simp; omega)]
    simp only [List.getElem?_toArray]
    rw [List.getElem?_append_left (by omega)]
    exact o2 k c e1 hc
   ·simp only [e1, if_false]
    obtain ⟨v, g1, g2⟩ := hg (k - len) c (by omega) hc
    have hlt := row_lt (Nat.le_refl m) (show k - len < m by omega) hc
    refine ⟨v, ?_, g2.frame (Chg.drew (S := fun _ _ => False) w) fun _ _ _ h => h⟩
    have hk2 : k * zt.length + c = len * zt.length + ((k - len) * zt.length + c) := by
     rw [Nat.sub_mul]; have : len * zt.length ≤ k * zt.length := Nat.mul_le_mul_right _ (by omega); omega
    rw [Array.getElem?_append_left (by simp; omega)]
    simp only [List.getElem?_toArray]
    rw [List.getElem?_append_right (by omega), hk2, o1, Nat.add_sub_cancel_left]
    exact g1
  ·intro k c k' c' hne hk1 hc1 hk2 hc2 x y g1 g2
   by_cases e1 : k < len <;> by_cases e2 : k' < len <;> simp only [e1, e2, if_true, if_false] at g1 g2
   ·exact h3 k c k' c' hne e1 hc1 e2 hc2 x y g1 g2
   ·exact hgF (k' - len) c' (by omega) hc2 x y g2 (hold k c e1 hc1 x y g1)
   ·exact hgF (k - len) c (by omega) hc1 x y g1 (hold k' c' e2 hc2 x y g2)
   ·exact hgd (k - len) c (k' - len) c' (by omega) (by omega) hc1 (by omega) hc2 x y g1 g2
  ·rintro x y (⟨_, h⟩ | ⟨k, c, hk1, hc1, h⟩)
   ·replace h : x = _ := h
    exact .inr (.inr (by simp at h; omega))
   ·by_cases e1 : k < len <;> simp only [e1, if_true, if_false] at h
    ·exact .inl (hold k c e1 hc1 x y h)
    ·exact .inr (.inl ⟨k - len, c, by omega, hc1, h⟩)
end
end Go.Proofs.YthjfgpkjooaahaaGreat.VM
