/- Trees of owned cells, states over them, and rules to walk by. No conditions. -/
import Derived.LaidEql
import Derived.Laws.NewBlocks
import Derived.Lib.Join
import Derived.Shelf.Slices.Empties
import Derived.Shelf.Slices.SearchI
import Derived.Shelf.Spec.SlicesInsertGrow
import Derived.Sort.Grow
import Derived.Sort.Row
import Derived.Test.YtfbefcmeghpalaaVmC
set_option linter.all false
namespace Go.Proofs.Ytfbefcmeghpalaa.VM
open Go Go.RowKit
mutual
theorem VR.rn {R R' : RT} {H H' : Nat → Value} {w : World} {ρ : Nat → Nat} (hR : ∀ id m t, R id m t → R' (ρ id) m t ∧ H' (ρ id) = H id) : ∀ {x : X} {v : Value}, VR R H w x v → VR R' H' w (x.ren ρ) v
 | .g xs, v, ⟨vs, h1, h2⟩ => ⟨vs, h1, VRs.rn hR h2⟩
 | .t xs, v, ⟨vs, h1, h2⟩ => ⟨vs, h1, VRs.rn hR h2⟩
 | .f fn xs, v, ⟨vs, h1, h2⟩ => ⟨vs, h1, VRs.rn hR h2⟩
 | .v x, v, h => h
 | .j, v, _ => trivial
 | .c, v, h => h
 | .p id q n k c, v, h => by obtain ⟨m, t, h1, h2⟩ := h; exact ⟨m, t, (hR _ _ _ h1).1, by rw [(hR _ _ _ h1).2]; exact h2⟩
 | .h id q, v, h => by obtain ⟨m, t, h1, h2⟩ := h; exact ⟨m, t, (hR _ _ _ h1).1, by rw [(hR _ _ _ h1).2]; exact h2⟩
 | .a id q n lo len, v, h => by obtain ⟨m, t, h1, h2⟩ := h; exact ⟨m, t, (hR _ _ _ h1).1, by rw [(hR _ _ _ h1).2]; exact h2⟩
theorem VRs.rn {R R' : RT} {H H' : Nat → Value} {w : World} {ρ : Nat → Nat} (hR : ∀ id m t, R id m t → R' (ρ id) m t ∧ H' (ρ id) = H id) : ∀ {xs : List X} {vs : List Value}, VRs R H w xs vs → VRs R' H' w (X.rens ρ xs) vs
 | [], [], _ => trivial
 | x :: xs, v :: vs, ⟨h1, h2⟩ => ⟨h1.rn hR, VRs.rn hR h2⟩
 | [], _ :: _, h => h.elim
 | _ :: _, [], h => h.elim
end
def rn1 (a b i : Nat) : Nat := if i = a then b else i
/-- root a is called b -/
def renL (a b : Nat) : List E → List E
 | [] => []
 | .sl s x :: L => .sl s (x.ren (rn1 a b)) :: renL a b L
 | .rt i m t :: L => .rt (rn1 a b i) m t :: renL a b L
 | .al i c x :: L => .al (rn1 a b i) c (x.ren (rn1 a b)) :: renL a b L
theorem renL_mem {a b : Nat} : ∀ {L : List E} {e : E}, e ∈ renL a b L → (∃ s x, .sl s x ∈ L ∧ e = .sl s (x.ren (rn1 a b))) ∨ (∃ i m t, .rt i m t ∈ L ∧ e = .rt (rn1 a b i) m t) ∨ ∃ i c x, .al i c x ∈ L ∧ e = .al (rn1 a b i) c (x.ren (rn1 a b))
 | .sl s x :: L, e, h => by
  rcases List.mem_cons.1 h with h | h
  ·exact .inl ⟨s, x, List.mem_cons_self .., h⟩
  ·rcases renL_mem h with ⟨s, x, h1, h2⟩ | ⟨i, m, t, h1, h2⟩ | ⟨i, c, x, h1, h2⟩
   ·exact .inl ⟨s, x, List.mem_cons_of_mem _ h1, h2⟩
   ·exact .inr (.inl ⟨i, m, t, List.mem_cons_of_mem _ h1, h2⟩)
   ·exact .inr (.inr ⟨i, c, x, List.mem_cons_of_mem _ h1, h2⟩)
 | .rt i m t :: L, e, h => by
  rcases List.mem_cons.1 h with h | h
  ·exact .inr (.inl ⟨i, m, t, List.mem_cons_self .., h⟩)
  ·rcases renL_mem h with ⟨s, x, h1, h2⟩ | ⟨i, m, t, h1, h2⟩ | ⟨i, c, x, h1, h2⟩
   ·exact .inl ⟨s, x, List.mem_cons_of_mem _ h1, h2⟩
   ·exact .inr (.inl ⟨i, m, t, List.mem_cons_of_mem _ h1, h2⟩)
   ·exact .inr (.inr ⟨i, c, x, List.mem_cons_of_mem _ h1, h2⟩)
 | .al i c x :: L, e, h => by
  rcases List.mem_cons.1 h with h | h
  ·exact .inr (.inr ⟨i, c, x, List.mem_cons_self .., h⟩)
  ·rcases renL_mem h with ⟨s, x, h1, h2⟩ | ⟨i, m, t, h1, h2⟩ | ⟨i, c, x, h1, h2⟩
   ·exact .inl ⟨s, x, List.mem_cons_of_mem _ h1, h2⟩
   ·exact .inr (.inl ⟨i, m, t, List.mem_cons_of_mem _ h1, h2⟩)
   ·exact .inr (.inr ⟨i, c, x, List.mem_cons_of_mem _ h1, h2⟩)
theorem rts_renL {a b : Nat} {i : Nat} {m : M} {t : T} {L : List E} : rts (renL a b L) i m t ↔ ∃ i0, rts L i0 m t ∧ rn1 a b i0 = i := by
 induction L with
 | nil => simp [rts, renL]
 | cons e L ih =>
  simp only [rts] at ih ⊢
  cases e with
  | sl s x => simp only [renL, List.mem_cons, ih]; simp
  | al i' c x => simp only [renL, List.mem_cons, ih]; simp
  | rt j m1 t1 =>
   simp only [renL, List.mem_cons, ih, E.rt.injEq]
   constructor
   ·rintro (⟨rfl, rfl, rfl⟩ | ⟨i0, h1, h2⟩)
    ·exact ⟨j, .inl ⟨rfl, rfl, rfl⟩, rfl⟩
    ·exact ⟨i0, .inr h1, h2⟩
   ·rintro ⟨i0, ⟨rfl, rfl, rfl⟩ | h1, h2⟩
    ·exact .inl ⟨h2.symm, rfl, rfl⟩
    ·exact .inr ⟨i0, h1, h2⟩
theorem Weak.renR {N : Nat} {L : List E} {a b : Nat} (hb : rootL L b = none) (ha1 : a < base) (hb1 : b < base) : Weak N L (renL a b L) := fun cx ac w hs => by
 obtain ⟨H, G, hr, hG⟩ := hs.rp
 have hnb := rootL_none hb
 have hinj : ∀ {i j m t m' t'}, rts L i m t → rts L j m' t' → rn1 a b i = rn1 a b j → i = j := fun {i j m t m' t'} h1 h2 e => by
  have e1 : i ≠ b := fun e => hnb _ _ (e ▸ h1)
  have e2 : j ≠ b := fun e => hnb _ _ (e ▸ h2)
  unfold rn1 at e
  split at e <;> split at e <;> omega
 let H' : Nat → Value := fun i => if i = b then H a else H i
 let G' : Nat → FP := fun i => if i = b then G a else G i
 have hH : ∀ {i m t}, rts L i m t → H' (rn1 a b i) = H i ∧ G' (rn1 a b i) = G i := fun {i m t} h => by
  have e1 : i ≠ b := fun e => hnb _ _ (e ▸ h)
  simp only [H', G', rn1]
  by_cases e : i = a
  ·subst e; simp
  ·simp [e, e1]
 have hV : ∀ {x v}, VR (rts L) H w x v → VR (rts (renL a b L)) H' w (x.ren (rn1 a b)) v := fun h => h.rn fun id m t hh => ⟨rts_renL.2 ⟨id, hh, rfl⟩, (hH hh).1⟩
 refine ⟨hs.siz, hs.dfr, hs.chg, H', G', ⟨?_, ?_, ?_, ?_, ?_, ?_, ?_, ?_⟩, ?_, ?_⟩
 ·intro i m t m' t' h1 h2
  obtain ⟨i0, g1, rfl⟩ := rts_renL.1 h1
  obtain ⟨j0, g2, e⟩ := rts_renL.1 h2
  obtain rfl := hinj g2 g1 e
  exact hr.one _ _ _ _ _ g1 g2
 ·intro i m t h1 h2
  obtain ⟨i0, g1, rfl⟩ := rts_renL.1 h1
  rw [(hH g1).1, (hH g1).2]
  exact hr.own _ _ _ g1 h2
 ·intro i t h1
  obtain ⟨i0, g1, rfl⟩ := rts_renL.1 h1
  rw [(hH g1).1, (hH g1).2]
  exact hr.ro _ _ g1
 ·intro i t h1
  obtain ⟨i0, g1, rfl⟩ := rts_renL.1 h1
  rw [(hH g1).2]
  exact hr.rold _ _ g1
 ·intro i t h1
  obtain ⟨i0, g1, rfl⟩ := rts_renL.1 h1
  exact hr.box _ _ g1
 ·intro i m t i' m' t' h1 h2 hne hm
  obtain ⟨i0, g1, rfl⟩ := rts_renL.1 h1
  obtain ⟨j0, g2, rfl⟩ := rts_renL.1 h2
  rw [(hH g1).2, (hH g2).2]
  exact hr.dis _ _ _ _ _ _ g1 g2 (fun e => hne (by rw [e])) hm
 ·intro s x h
  rcases renL_mem h with ⟨s', x', h1, h2⟩ | ⟨i, m, t, h1, h2⟩ | ⟨i, c, x', h1, h2⟩
  ·cases h2; exact hV (hr.sl _ _ h1)
  ·cases h2
  ·cases h2
 ·intro i c x h
  rcases renL_mem h with ⟨s', x', h1, h2⟩ | ⟨i', m, t, h1, h2⟩ | ⟨i', c', x', h1, h2⟩
  ·cases h2
  ·cases h2
  ·cases h2
   obtain ⟨n, f, g1, g2, A, v, g3, g4, g5⟩ := hr.al _ _ _ h1
   exact ⟨n, f, rts_renL.2 ⟨_, g1, rfl⟩, g2, A, v, by rw [(hH g1).1]; exact g3, g4, hV g5⟩
 ·intro i m t h1
  obtain ⟨i0, g1, rfl⟩ := rts_renL.1 h1
  rw [(hH g1).2]
  exact hG.1 _ _ _ g1
 ·intro i m t hbs h1
  obtain ⟨i0, g1, e⟩ := rts_renL.1 h1
  have : i0 = i := by
   unfold rn1 at e
   split at e
   ·subst e; omega
   ·exact e
  subst this
  have := hH g1
  rw [e] at this
  rw [this.1]
  exact hG.2 _ _ _ hbs g1
section
variable {P : Program} {N : Nat} {Q : Exit → List E → Prop} {L : List E}
theorem AW.renR {c : Code} (a b : Nat) (hb : rootL L b = none) (ha1 : a < base) (hb1 : b < base) (k : AW P N c Q (renL a b L)) : AW P N c Q L := AW.weak (Weak.renR hb ha1 hb1) k
end
attribute [go_sem] renL rn1
end Go.Proofs.Ytfbefcmeghpalaa.VM
namespace Go.Proofs.Ytfbefcmeghpalaa.VM
open Go Go.RowKit
end Go.Proofs.Ytfbefcmeghpalaa.VM
namespace Go.Proofs.Ytfbefcmeghpalaa.VM
open Go Go.RowKit
/-! slice expressions -/
section
variable {P : Program} {N : Nat} {L : List E} {dst : Option Tmp} {ty : TypeId} {pos : String} {af : Array Edge} {g : Option (Nat × Bool)}
/-- a bound of a slice expression -/
def slB (L : List E) (d : Nat) : Option Operand → Nat → Prop
 | none, k => k = d
 | some x, k => ∃ kd j, evX L x = .v (.int kd j) ∧ j = (k : Int)
theorem slB_no {d : Nat} : slB L d none d := rfl
theorem slB_so {d k : Nat} {x : Operand} {kd : IntKind} {j : Int} (h : evX L x = .v (.int kd j)) (hj : j = (k : Int)) : slB L d (some x) k := ⟨kd, j, h, hj⟩
theorem slB_ev {d k : Nat} {o : Option Operand} (h : slB L d o k) {H : Nat → Value} {w : World} {a : Act} (he : ∀ y, VR (rts L) H w (evX L y) (Act.eval a y)) : (o.map a.eval = none ∧ k = d) ∨ ∃ kd, o.map a.eval = some (.int kd (k : Int)) := by
 cases o with
 | none => exact .inl ⟨rfl, h⟩
 | some x =>
  obtain ⟨kd, j, h1, h2⟩ := h
  have h3 := he x
  rw [h1] at h3
  simp only [VR] at h3
  exact .inr ⟨kd, by rw [Option.map_some, h3, h2]⟩
theorem run_sliceBound {w : World} {kd : IntKind} {k y : Nat} {code : BoundsCode} (h : k ≤ y) : (Instr.sliceBound (.int kd (k : Int)) y code).run P w = .ok k w := by
 have h2 : (0 : Int) ≤ k ∧ (k : Int) ≤ y := by omega
 simp [Instr.sliceBound, asIntOf, h2, go_sem]
theorem run_sliceBounds {w : World} {b : Bool} {len cap lo hi : Nat} {ol oh : Option Value} (hl : (ol = none ∧ lo = 0) ∨ ∃ kd, ol = some (.int kd (lo : Int))) (hh : (oh = none ∧ hi = len) ∨ ∃ kd, oh = some (.int kd (hi : Int))) (h1 : lo ≤ hi) (h2 : hi ≤ cap) : (Instr.sliceBounds b len cap ol oh none).run P w = .ok (lo, hi, cap) w := by
 have hb := @run_sliceBound P
 rcases hl with ⟨rfl, rfl⟩ | ⟨kl, rfl⟩ <;> rcases hh with ⟨rfl, rfl⟩ | ⟨kh, rfl⟩ <;> simp [Instr.sliceBounds, go_sem, hb, h1, h2]
theorem run_sliceX {w : World} {t e : TypeId} {ad : Option Addr} {len cap lo hi n : Nat} {ol oh : Option Value} (h : P.underlying t = some (.slice e)) (hz : (sizeOf e).run P w = .ok n w) (hb : (Instr.sliceBounds true len cap ol oh none).run P w = .ok (lo, hi, cap) w) : (Instr.slice t (.slice ad len cap) ol oh none).run P w = .ok (.slice (if cap = lo then ad else ad.map (·.add (lo * n))) (hi - lo) (cap - lo)) w := by
 simp only [Instr.slice, Sem.run_bind, run_underlying h, Result.andThen, hb, hz, Sem.run_pure]
/-- a slice of a slice whose node is known -/
theorem Qt.sliceH {t e : TypeId} {x : Operand} {ol oh : Option Operand} {id : Nat} {q : Path} {n len lo hi : Nat} {f : Nat → Nat → T} (hx : evX L x = .h id q) {m : M} {T0 : T} (hR : rootL L id = some (m, T0)) (hT : T0.at q = .s n len f) (hS : Sl P t e) (hZ : Sz P e n) (hn : 0 < n) (hl : slB L 0 ol lo) (hh : slB L len oh hi) (h1 : lo ≤ hi) (h2 : hi ≤ len) : Qt P ⟨dst, .slice t x ol oh none, ty, pos, af, g⟩ L (.a id q n lo (hi - lo)) :=
 (fun H w a he ⟨val, G, hr⟩ => by
  have h := he x
  rw [hx] at h
  obtain ⟨m', t', g1, g2, g3, g4⟩ := h
  obtain ⟨rfl, rfl⟩ := hr.one _ _ _ _ _ g1 (rootL_mem hR)
  obtain ⟨hv, F, e1, e2⟩ := hr.node g1 g2
  rw [hT] at e2
  obtain ⟨ad, cap, e3, e4, e5⟩ := e2.hdr
  rw [e1] at g4
  cases g4
  have hb := run_sliceBounds (P := P) (w := w) (b := true) (len := len) (cap := cap) (slB_ev hl he) (slB_ev hh he) h1 (by omega)
  refine ⟨.slice (if cap = lo then ad else ad.map (·.add (lo * n))) (hi - lo) (cap - lo), ?_, m', t', g1, g2, ⟨len, f, hT, by omega⟩, _, e1, _, _, rfl, by omega, by omega, fun hp => ?_, ⟨ad, len, by rw [e3, Nat.add_sub_cancel' (by omega)]⟩, fun b off l0 c0 e hp => ?_⟩
  ·have hu : P.underlying t = some (.slice e) := hS
   have hq := run_sliceX (ad := ad) hu (hZ w) hb
   have hq2 := run_underlying (P := P) (w := w) hu
   simp only [execOp, e3, Instr.sliceAt, Option.map_none]
   generalize Instr.slice t (.slice ad len cap) (Option.map a.eval ol) (Option.map a.eval oh) none = B at hq ⊢
   simp [go_sem, hq, hq2]
  ·rw [e3]
   have hne : ¬ cap = lo := by omega
   rw [if_neg hne]
   obtain ⟨b, o, cap', off, e6, e7, e8, e9⟩ := e2.row (k := lo) (c := 0) (by omega) hn
   rw [e3] at e6
   cases e6
   simp [adr, Addr.add]
  ·rw [e3] at e
   cases e
   rw [if_neg (by omega)]
   simp [Addr.add])
end
end Go.Proofs.Ytfbefcmeghpalaa.VM
namespace Go.Proofs.Ytfbefcmeghpalaa.VM
open Go Go.RowKit Go.Sort

theorem rowPut_get {w : World} {b off n : Nat} {d : Array Int} {os : Array Obj} {b' : Nat} (h : b' < w.heap.size) :
  (grow (putRow (Value.int .i64) (Sort.ahead w n) b off d) os).heap[b']? = if b = b' then (w.heap[b']?).map (onCells (putCells (Value.int .i64) off d)) else w.heap[b']? := by
 simp only [grow, putRow, mapBlock, Sort.ahead]
 rw [Array.getElem?_append_left (by simpa using h), Array.getElem?_modify]
theorem rowPut_chg {w : World} {b off n : Nat} {d : Array Int} {os : Array Obj} : Chg (rowFP b off d.size) w (grow (putRow (Value.int .i64) (Sort.ahead w n) b off d) os) := by
 refine ⟨rfl, rfl, rfl, ?_, ?_, ?_⟩
 ·simp [grow, putRow, mapBlock, Sort.ahead]
 ·intro b' cur e fr h
  rw [rowPut_get (Array.getElem?_eq_some_iff.1 h).1, h]
  by_cases hb : b = b'
  ·refine ⟨putCells (Value.int .i64) off d cur, by simp [hb, onCells], by simp [putCells], fun o ho => ?_⟩
   simp only [putCells, Array.getElem?_mapIdx]
   cases cur[o]? with
   | none => rfl
   | some x =>
    simp only [Option.map_some]
    rw [if_neg (fun hh => ho ⟨hb.symm, hh.1, hh.2⟩)]
  ·exact ⟨cur, by simp [hb], rfl, fun _ _ => rfl⟩
 ·intro b' o h ho
  rw [rowPut_get (Array.getElem?_eq_some_iff.1 h).1, h]
  by_cases hb : b = b'
  ·simp only [hb, if_true, Option.map_some]
   cases o with
   | cells c e f => exact absurd rfl (ho c e f)
   | _ => rfl
  ·simp [hb]
theorem rowPut_cell {w : World} {b off n k : Nat} {d : Array Int} {os : Array Obj} {v : Value} (hc : w.cell? ⟨b, off + k, none⟩ = some v) (hk : k < d.size) :
  (grow (putRow (Value.int .i64) (Sort.ahead w n) b off d) os).cell? ⟨b, off + k, none⟩ = some (.int .i64 d[k]!) := by
 have hlt := cell_lt hc
 simp only [World.cell?] at hc ⊢
 rw [rowPut_get hlt]
 split at hc
 ·rename_i cur e fr hb
  simp only [Option.isSome_none, Bool.false_eq_true, if_false] at hc
  simp only [if_true, hb, Option.map_some, onCells, Option.isSome_none, Bool.false_eq_true, if_false]
  simp only [putCells, Array.getElem?_mapIdx, hc, Option.map_some]
  rw [if_pos ⟨by omega, by omega⟩, show off + k - off = k by omega]
 ·cases hc
theorem row_fin {l l' : List Int} {w w' : World} {H : Nat → Value} {G : Nat → FP} (hr : Rp [.rt base .row (tr l)] (fun _ => undef) H G w) (hC : Chg (G base) w w') (hO : Own w' (tr l') (G base) (H base)) :
  ∃ x L H' G' val, RetW (.t []) [] [(base, tr l')] x L ∧ Rp L val H' G' w' ∧ VR (rts L) H' w' x (.tuple #[]) ∧
   Chg (fun a o => ∃ id m t, rts [.rt base .row (tr l)] id m t ∧ m ≠ .ro ∧ G id a o) w w' ∧
   (∀ id m t, rts L id m t → m ≠ .ro → ∀ a o, G' id a o → (∃ id m t, rts [.rt base .row (tr l)] id m t ∧ m ≠ .ro ∧ G id a o) ∨ w.heap.size ≤ a) ∧
   ∀ id m t, base ≤ id → rts L id m t → H' id = H id := by
 have hm : ∀ {t0 : T} {id : Nat} {m : M} {t : T}, rts [.rt base .row t0] id m t → id = base ∧ m = .row ∧ t = t0 := fun h => by
  cases List.mem_singleton.1 h; exact ⟨rfl, rfl, rfl⟩
 have hb : rts [.rt base .row (tr l)] base .row (tr l) := List.mem_singleton.2 rfl
 refine ⟨.t [], [.rt base .row (tr l')], H, G, fun _ => undef, ⟨fun n => n, rfl, fun _ _ => rfl, List.nodup_nil, by simp, ?_⟩, ?_, ⟨[], rfl, trivial⟩, hC.mono fun a o _ h => ⟨base, .row, tr l, hb, by simp, h⟩, ?_, fun _ _ _ _ _ => rfl⟩
 ·intro p hp
  cases List.mem_singleton.1 hp
  exact List.mem_singleton.2 rfl
 ·refine ⟨fun id m t m' t' h h' => ?_, fun id m t h _ => ?_, fun id t h => ?_, fun id t h => ?_, fun id t h => ?_, fun id m t id' m' t' h h' hne => ?_, fun t x h => ?_, fun id c x h => ?_⟩
  ·obtain ⟨_, rfl, rfl⟩ := hm h
   obtain ⟨_, rfl, rfl⟩ := hm h'
   exact ⟨rfl, rfl⟩
  ·obtain ⟨rfl, rfl, rfl⟩ := hm h; exact hO
  ·obtain ⟨_, h, _⟩ := hm h; cases h
  ·obtain ⟨_, h, _⟩ := hm h; cases h
  ·obtain ⟨_, h, _⟩ := hm h; cases h
  ·exact absurd ((hm h).1.trans (hm h').1.symm) hne
  ·cases List.mem_singleton.1 h
  ·cases List.mem_singleton.1 h
 ·intro id m t h _ a o hg
  obtain ⟨rfl, rfl, rfl⟩ := hm h
  exact .inl ⟨base, .row, tr l, hb, by simp, hg⟩
/-- a callee that turns a row of numbers in place -/
theorem con_ints {P : Program} {f : FuncId} {S : List Int → List Int} (hS : ∀ l, (S l).length = l.length)
  (hs : ∀ (blk off cap : Nat) (zs : List Int) (w : World), Holds (Value.int .i64) w blk off zs.toArray → blk < w.heap.size → zs.length < 4611686018427387904 → Calls P f #[.slice (some ⟨blk, off, none⟩) zs.length cap] w fun e w' => e = .returned (.tuple #[]) ∧ ∃ n os, w' = grow (putRow (Value.int .i64) (Sort.ahead w n) blk off (S zs).toArray) os)
  (h0 : ∀ (p : Option Addr) (cap : Nat) (w : World), Calls P f #[.slice p 0 cap] w fun e w' => e = .returned (.tuple #[]) ∧ w' = w) (l : List Int) (hlen : l.length < 4611686018427387904) :
  Con P f [.h base []] [.rt base .row (tr l)] (RetW (.t []) [] [(base, tr (S l))]) := by
 intro w vs H G _ _ hr hv
 cases vs with
 | nil => exact hv.elim
 | cons v vs =>
 cases vs with
 | cons _ _ => exact hv.2.elim
 | nil =>
 obtain ⟨⟨m, t, _, _, _, hh⟩, _⟩ := hv
 simp only [hd, Option.some.injEq] at hh
 have hO := hr.own base .row (tr l) (List.mem_singleton.2 rfl) (by simp)
 have hO0 := hO
 obtain ⟨hn, a, cap, e0, hl, hm, b, off, V, Gk, h1, h2, h3, h4, h5⟩ := hO
 have hv : v = .slice a l.length cap := by rw [← hh, e0]
 subst hv
 rcases Nat.eq_zero_or_pos l.length with hz | hp
 ·rw [hz]
  refine (h0 a cap w).mono ?_
  rintro e w' ⟨rfl, rfl⟩
  have hl0 : l = [] := List.eq_nil_of_length_eq_zero hz
  have hS0 : S l = [] := List.eq_nil_of_length_eq_zero (by rw [hS, hz])
  obtain ⟨x, L, H', G', val, r⟩ := row_fin (l' := S l) hr (Chg.refl _ _) (by rw [hS0, ← hl0]; exact hO0)
  exact ⟨_, x, L, H', G', val, rfl, r⟩
 ·have hc0 : 0 < cap := by omega
  obtain ⟨rfl, sz, hK, hoff⟩ := h1 hc0
  have hcell : ∀ k, k < l.length → w.cell? ⟨b, off + k, none⟩ = some (iv (l.getD k 0)) ∧ ∀ x y, ¬ Gk k 0 x y := fun k hk => by
   obtain ⟨g1, g2⟩ := h2 k 0 hk (by decide)
   rw [show k * En.n Int + 0 = k from Nat.mul_one k] at g1
   obtain ⟨g3, _, g4⟩ := g2
   rw [g1, g3]
   exact ⟨rfl, g4⟩
  have hfro : ∀ k, w.frozen? ⟨b, off + k, none⟩ = false := fun k => by
   obtain ⟨cur, e, g1, _⟩ := hK
   simp [World.frozen?, g1]
  refine (hs b off cap l w (fun j hj => ⟨?_, hfro j⟩) hK.lt hlen).mono ?_
  ·have hj' : j < l.length := by simpa using hj
   rw [(hcell j hj').1]
   simp [List.getD_eq_getElem?_getD, hj', iv]
  rintro e w' ⟨rfl, n, os, rfl⟩
  have hsz : (S l).toArray.size = l.length := by simp [hS]
  have hF : ∀ x y, rowFP b off (S l).toArray.size x y → G base x y := fun x y hxy => (h5 x y).2 (.inl ⟨hc0, hxy.1⟩)
  have hC := rowPut_chg (w := w) (b := b) (off := off) (n := n) (d := (S l).toArray) (os := os)
  suffices hfin : Own _ (tr (S l)) (G base) (H base) from (by
   obtain ⟨x, L, H', G', val, r⟩ := row_fin hr (hC.mono fun x y _ h => hF x y h) hfin
   exact ⟨_, x, L, H', G', val, rfl, r⟩)
  refine ⟨hn, some ⟨b, off, none⟩, cap, by rw [hS]; exact e0, by rw [hS]; exact hl, hm, b, off, fun k _ => iv ((S l).getD k 0), fun _ _ _ _ => False, fun _ => ⟨rfl, sz, hK.chg hC, hoff⟩, ?_, ?_, ?_, ?_⟩
  ·intro k c hk hc
   have hk' : k < l.length := by rw [← hS]; exact hk
   have hc' : c < 1 := hc
   obtain rfl : c = 0 := by omega
   refine ⟨?_, rfl, rfl, fun _ _ h => h⟩
   rw [show k * En.n Int + 0 = k from Nat.mul_one k, rowPut_cell (hcell k hk').1 (by rw [hsz]; exact hk')]
   simp [List.getD_eq_getElem?_getD, hS, hk', iv]
  ·intros; assumption
  ·intro _ _ _ _ _ _ h; exact h.elim
  ·intro x y
   rw [h5]
   constructor
   ·rintro (h | ⟨k, c, hk, hc, hg⟩)
    ·exact .inl h
    ·have hc' : c < 1 := hc
     obtain rfl : c = 0 := by omega
     exact ((hcell k hk).2 x y hg).elim
   ·rintro (h | ⟨_, _, _, _, h⟩)
    ·exact .inl h
    ·exact h.elim
end Go.Proofs.Ytfbefcmeghpalaa.VM
namespace Go.Proofs.Ytfbefcmeghpalaa.VM
open Go Go.RowKit
def allRt : List E → Bool
 | [] => true
 | .rt .. :: r => allRt r
 | _ :: _ => false
theorem allRt_mem : ∀ {L : List E}, allRt L = true → ∀ e ∈ L, ∃ id m t, e = .rt id m t
 | [], _, e, he => by cases he
 | .rt i m t :: r, h, e, he => by
  rcases List.mem_cons.1 he with rfl | he
  ·exact ⟨_, _, _, rfl⟩
  ·exact allRt_mem (L := r) h e he
theorem ids_uniq {M : List E} (hn : (idsL M).Nodup) : ∀ id m t m' t', rts M id m t → rts M id m' t' → m = m' ∧ t = t' := by
 induction M with
 | nil => intro id m t m' t' h; cases h
 | cons e r ih =>
  intro id m t m' t' h h'
  cases e with
  | sl s x =>
   rcases List.mem_cons.1 h with h | h
   ·cases h
   rcases List.mem_cons.1 h' with h' | h'
   ·cases h'
   exact ih hn id m t m' t' h h'
  | al s c x =>
   rcases List.mem_cons.1 h with h | h
   ·cases h
   rcases List.mem_cons.1 h' with h' | h'
   ·cases h'
   exact ih hn id m t m' t' h h'
  | rt i m0 t0 =>
   simp only [idsL, List.nodup_cons] at hn
   rcases List.mem_cons.1 h with k | k <;> rcases List.mem_cons.1 h' with k' | k'
   ·cases k; cases k'; exact ⟨rfl, rfl⟩
   ·cases k; exact absurd (idsL_mem.2 ⟨m', t', k'⟩) hn.1
   ·cases k'; exact absurd (idsL_mem.2 ⟨m, t, k⟩) hn.1
   ·exact ih hn.2 id m t m' t' k k'
/-- what is handed over may be seen otherwise, if it holds the same -/
theorem Con.sim {P : Program} {f : FuncId} {xs : List X} {ρ0 ρ : List E} {post : X → List E → Prop} (hs : hasS ρ0 ρ) (h : Con P f xs ρ post) (hl : allRt ρ = true) (hu : nodupB (idsL ρ) = true) (hx : X.insB (idsL ρ) xs = true) : Con P f xs ρ0 post := by
 intro w vs H G ht ha hr hv
 obtain ⟨_, a2, _⟩ := hasS_mem hs
 have hrt : ∀ id m t, rts ρ id m t → ∃ t0, rts ρ0 id m t0 ∧ t0.sim t := fun id m t hh => by
  obtain ⟨t0, e1, e2⟩ := a2 id m t hh
  exact ⟨t0, rootL_mem e1, e2⟩
 have hV : VRs (rts ρ) H w xs vs := by
  have : VR (rts ρ) H w (.g xs) (.agg vs.toArray) := VR.sim (R := rts ρ0) (ids := idsL ρ) (fun id hid m t ht => by
   obtain ⟨m', t', e⟩ := idsL_mem.1 hid
   obtain ⟨t0, e1, e2⟩ := hrt id m' t' e
   obtain ⟨rfl, rfl⟩ := hr.one _ _ _ _ _ ht e1
   exact ⟨t', e, e2⟩) (x := .g xs) (by simpa only [X.inB] using hx) ⟨vs, rfl, hv⟩
  obtain ⟨us, e, h⟩ := this
  simp only [Value.agg.injEq] at e
  have : vs = us := by simpa using congrArg Array.toList e
  rw [this]; exact h
 refine (h w vs H G ht (fun id m t h1 h2 a o h3 => by obtain ⟨t0, e1, _⟩ := hrt id m t h1; exact ha id m t0 e1 h2 a o h3) ⟨ids_uniq (nodup_of hu), ?_, ?_, ?_, ?_, ?_, ?_, ?_⟩ hV).mono ?_
 ·intro id m t h1 h2
  obtain ⟨t0, e1, e2⟩ := hrt id m t h1
  exact (hr.own id m t0 e1 h2).sim e2
 ·intro id t h1
  obtain ⟨t0, e1, e2⟩ := hrt id _ t h1
  exact (hr.ro id t0 e1).sim e2
 ·intro id t h1
  obtain ⟨t0, e1, e2⟩ := hrt id _ t h1
  exact hr.rold id t0 e1
 ·intro id t h1
  obtain ⟨t0, e1, e2⟩ := hrt id _ t h1
  obtain ⟨n, f, rfl⟩ := hr.box id t0 e1
  obtain ⟨g, rfl, _⟩ := e2
  exact ⟨n, g, rfl⟩
 ·intro id m t id' m' t' h1 h2
  obtain ⟨t0, e1, _⟩ := hrt id _ t h1
  obtain ⟨t1, e2, _⟩ := hrt id' _ t' h2
  exact hr.dis id m t0 id' m' t1 e1 e2
 ·intro t x h1
  obtain ⟨_, _, _, e⟩ := allRt_mem hl _ h1
  cases e
 ·intro id c x h1
  obtain ⟨_, _, _, e⟩ := allRt_mem hl _ h1
  cases e
 ·rintro e w' ⟨v, x, L, H', G', val, rfl, k1, k2, k3, k4, k5, k6⟩
  have hin : ∀ a o, (∃ id m t, rts ρ id m t ∧ m ≠ .ro ∧ G id a o) → ∃ id m t, rts ρ0 id m t ∧ m ≠ .ro ∧ G id a o := fun a o ⟨id, m, t, h1, h2, h3⟩ => by
   obtain ⟨t0, e1, _⟩ := hrt id m t h1
   exact ⟨id, m, t0, e1, h2, h3⟩
  exact ⟨v, x, L, H', G', val, rfl, k1, k2, k3, k4.mono fun a o _ h => hin a o h, fun id m t h1 h2 a o h3 => (k5 id m t h1 h2 a o h3).imp_left (hin a o), k6⟩
end Go.Proofs.Ytfbefcmeghpalaa.VM
namespace Go.Proofs.Ytfbefcmeghpalaa.VM
open Go Go.RowKit
section
variable {P : Program} {N : Nat} {L : List E} {dst : Option Tmp} {ty : TypeId} {pos : String} {af : Array Edge} {g : Option (Nat × Bool)} {d : Nat}
theorem vrs_evals {H : Nat → Value} {w : World} {a : Act} (he : ∀ y, VR (rts L) H w (evX L y) (Act.eval a y)) : ∀ xs : List Operand, VRs (rts L) H w (xs.map (evX L)) (xs.map a.eval)
 | [] => trivial
 | x :: xs => ⟨he x, vrs_evals he xs⟩
/-- a function value with what it has captured -/
theorem Qt.makeFunc {f : FuncId} {caps : Array Operand} : Qt P ⟨dst, .makeFunc (.func f) #[] caps, ty, pos, af, g⟩ L (.f f (caps.toList.map (evX L))) :=
 fun H w a he _ => ⟨.func (.func f) #[] (caps.toList.map a.eval).toArray, by
  have : (caps.toList.map a.eval).toArray = caps.map a.eval := by rw [← Array.toList_map]
  simp [execOp, Instr.makeFunc, this], _, rfl, vrs_evals he _⟩
end
end Go.Proofs.Ytfbefcmeghpalaa.VM
namespace Go.Proofs.Ytfbefcmeghpalaa.VM
open Go Go.RowKit
/-! ### what lies in a box by alias, and what lies in it outright -/
mutual
/-- what spoke of root b speaks of the node at e of root i -/
def X.sub (b i : Nat) (e : Nat × Nat × Nat) : X → X
 | .p id q n k k2 => if Nat.beq id b then .p i (e :: q) n k k2 else .p id q n k k2
 | .h id q => if Nat.beq id b then .h i (e :: q) else .h id q
 | .a id q n lo len => if Nat.beq id b then .a i (e :: q) n lo len else .a id q n lo len
 | .g xs => .g (X.subs b i e xs)
 | .t xs => .t (X.subs b i e xs)
 | .f fn xs => .f fn (X.subs b i e xs)
 | .v x => .v x
 | .j => .j
 | .c => .c
def X.subs (b i : Nat) (e : Nat × Nat × Nat) : List X → List X
 | [] => []
 | x :: xs => X.sub b i e x :: X.subs b i e xs
end
def eqE (a b : Nat × Nat × Nat) : Bool := Nat.beq a.1 b.1 && (Nat.beq a.2.1 b.2.1 && Nat.beq a.2.2 b.2.2)
theorem eqE_eq {a b : Nat × Nat × Nat} (h : eqE a b = true) : a = b := by
 obtain ⟨a1, a2, a3⟩ := a
 obtain ⟨b1, b2, b3⟩ := b
 simp only [eqE, Bool.and_eq_true] at h
 rw [Nat.eq_of_beq_eq_true h.1, Nat.eq_of_beq_eq_true h.2.1, Nat.eq_of_beq_eq_true h.2.2]
theorem eqE_refl (a : Nat × Nat × Nat) : eqE a a = true := by simp [eqE]
def unsP (i : Nat) (e : Nat × Nat × Nat) (d id : Nat) (q : Path) : Nat × Path := match q with
 | [] => (id, [])
 | a :: r => if Nat.beq id i && eqE a e then (d, r) else (id, a :: r)
mutual
/-- what spoke of the node at e of root i speaks of root d -/
def X.uns (i : Nat) (e : Nat × Nat × Nat) (d : Nat) : X → X
 | .p id q n k k2 => .p (unsP i e d id q).1 (unsP i e d id q).2 n k k2
 | .h id q => .h (unsP i e d id q).1 (unsP i e d id q).2
 | .a id q n lo len => .a (unsP i e d id q).1 (unsP i e d id q).2 n lo len
 | .g xs => .g (X.unss i e d xs)
 | .t xs => .t (X.unss i e d xs)
 | .f fn xs => .f fn (X.unss i e d xs)
 | .v x => .v x
 | .j => .j
 | .c => .c
def X.unss (i : Nat) (e : Nat × Nat × Nat) (d : Nat) : List X → List X
 | [] => []
 | x :: xs => X.uns i e d x :: X.unss i e d xs
end
section
variable {R R' : RT} {H H' : Nat → Value} {w w' : World}
mutual
theorem VR.subOk {b i : Nat} {e : Nat × Nat × Nat} (hP : ∀ x v, X.leaf x → VR R H w x v → VR R' H' w' (x.sub b i e) v) : ∀ {x : X} {v : Value}, VR R H w x v → VR R' H' w' (x.sub b i e) v
 | .g xs, v, ⟨vs, h1, h2⟩ => ⟨vs, h1, VRs.subOk hP h2⟩
 | .t xs, v, ⟨vs, h1, h2⟩ => ⟨vs, h1, VRs.subOk hP h2⟩
 | .f fn xs, v, ⟨vs, h1, h2⟩ => ⟨vs, h1, VRs.subOk hP h2⟩
 | .v x, v, h => h
 | .j, v, _ => trivial
 | .c, v, h => h
 | .p .., v, h => hP _ _ trivial h
 | .h .., v, h => hP _ _ trivial h
 | .a .., v, h => hP _ _ trivial h
theorem VRs.subOk {b i : Nat} {e : Nat × Nat × Nat} (hP : ∀ x v, X.leaf x → VR R H w x v → VR R' H' w' (x.sub b i e) v) : ∀ {xs : List X} {vs : List Value}, VRs R H w xs vs → VRs R' H' w' (X.subs b i e xs) vs
 | [], [], _ => trivial
 | x :: xs, v :: vs, ⟨h1, h2⟩ => ⟨VR.subOk hP h1, VRs.subOk hP h2⟩
 | [], _ :: _, h => h.elim
 | _ :: _, [], h => h.elim
end
mutual
theorem VR.unsOk {i d : Nat} {e : Nat × Nat × Nat} (hP : ∀ x v, X.leaf x → VR R H w x v → VR R' H' w' (x.uns i e d) v) : ∀ {x : X} {v : Value}, VR R H w x v → VR R' H' w' (x.uns i e d) v
 | .g xs, v, ⟨vs, h1, h2⟩ => ⟨vs, h1, VRs.unsOk hP h2⟩
 | .t xs, v, ⟨vs, h1, h2⟩ => ⟨vs, h1, VRs.unsOk hP h2⟩
 | .f fn xs, v, ⟨vs, h1, h2⟩ => ⟨vs, h1, VRs.unsOk hP h2⟩
 | .v x, v, h => h
 | .j, v, _ => trivial
 | .c, v, h => h
 | .p .., v, h => hP _ _ trivial h
 | .h .., v, h => hP _ _ trivial h
 | .a .., v, h => hP _ _ trivial h
theorem VRs.unsOk {i d : Nat} {e : Nat × Nat × Nat} (hP : ∀ x v, X.leaf x → VR R H w x v → VR R' H' w' (x.uns i e d) v) : ∀ {xs : List X} {vs : List Value}, VRs R H w xs vs → VRs R' H' w' (X.unss i e d xs) vs
 | [], [], _ => trivial
 | x :: xs, v :: vs, ⟨h1, h2⟩ => ⟨VR.unsOk hP h1, VRs.unsOk hP h2⟩
 | [], _ :: _, h => h.elim
 | _ :: _, [], h => h.elim
end
end
def sinkL (b i c n : Nat) (tb : T) : List E → List E
 | [] => []
 | .sl s x :: L => .sl s (x.sub b i (n, 0, c)) :: sinkL b i c n tb L
 | .rt id m t :: L => if Nat.beq id b then sinkL b i c n tb L else .rt id m (if Nat.beq id i then t.put [] 0 c tb else t) :: sinkL b i c n tb L
 | .al id c' x :: L => if Nat.beq id i && Nat.beq c' c then sinkL b i c n tb L else .al id c' (x.sub b i (n, 0, c)) :: sinkL b i c n tb L
def hoistM (i c n d : Nat) : List E → List E
 | [] => []
 | .sl s x :: L => .sl s (x.uns i (n, 0, c) d) :: hoistM i c n d L
 | .rt id m t :: L => .rt id m (if Nat.beq id i then t.put [] 0 c .j else t) :: hoistM i c n d L
 | .al id c' x :: L => .al id c' (x.uns i (n, 0, c) d) :: hoistM i c n d L
def hoistL (i c n d : Nat) (tc : T) (L : List E) : List E := .rt d .row tc :: .al i c (.h d []) :: hoistM i c n d L
theorem sinkL_sl {b i c n : Nat} {tb : T} {s : Nat} {y : X} : ∀ {L : List E}, E.sl s y ∈ sinkL b i c n tb L → ∃ x, E.sl s x ∈ L ∧ y = x.sub b i (n, 0, c)
 | .sl s' x :: L, h => by
  rcases List.mem_cons.1 h with h | h
  ·cases h; exact ⟨x, List.mem_cons_self .., rfl⟩
  ·obtain ⟨x, h1, h2⟩ := sinkL_sl h; exact ⟨x, List.mem_cons_of_mem _ h1, h2⟩
 | .rt id m t :: L, h => by
  simp only [sinkL] at h
  split at h
  ·obtain ⟨x, h1, h2⟩ := sinkL_sl h; exact ⟨x, List.mem_cons_of_mem _ h1, h2⟩
  ·rcases List.mem_cons.1 h with h | h
   ·cases h
   ·obtain ⟨x, h1, h2⟩ := sinkL_sl h; exact ⟨x, List.mem_cons_of_mem _ h1, h2⟩
 | .al id c' x :: L, h => by
  simp only [sinkL] at h
  split at h
  ·obtain ⟨x, h1, h2⟩ := sinkL_sl h; exact ⟨x, List.mem_cons_of_mem _ h1, h2⟩
  ·rcases List.mem_cons.1 h with h | h
   ·cases h
   ·obtain ⟨x, h1, h2⟩ := sinkL_sl h; exact ⟨x, List.mem_cons_of_mem _ h1, h2⟩
theorem sinkL_al {b i c n : Nat} {tb : T} {s c1 : Nat} {y : X} : ∀ {L : List E}, E.al s c1 y ∈ sinkL b i c n tb L → ∃ x, E.al s c1 x ∈ L ∧ y = x.sub b i (n, 0, c) ∧ ¬ (s = i ∧ c1 = c)
 | .sl s' x :: L, h => by
  rcases List.mem_cons.1 h with h | h
  ·cases h
  ·obtain ⟨x, h1, h2⟩ := sinkL_al h; exact ⟨x, List.mem_cons_of_mem _ h1, h2⟩
 | .rt id m t :: L, h => by
  simp only [sinkL] at h
  split at h
  ·obtain ⟨x, h1, h2⟩ := sinkL_al h; exact ⟨x, List.mem_cons_of_mem _ h1, h2⟩
  ·rcases List.mem_cons.1 h with h | h
   ·cases h
   ·obtain ⟨x, h1, h2⟩ := sinkL_al h; exact ⟨x, List.mem_cons_of_mem _ h1, h2⟩
 | .al id c' x :: L, h => by
  simp only [sinkL] at h
  split at h
  ·obtain ⟨x, h1, h2⟩ := sinkL_al h; exact ⟨x, List.mem_cons_of_mem _ h1, h2⟩
  ·rename_i hne
   rcases List.mem_cons.1 h with h | h
   ·cases h
    refine ⟨x, List.mem_cons_self .., rfl, fun ⟨e1, e2⟩ => hne ?_⟩
    rw [e1, e2]; simp
   ·obtain ⟨x, h1, h2⟩ := sinkL_al h; exact ⟨x, List.mem_cons_of_mem _ h1, h2⟩
theorem sinkL_rt {b i c n : Nat} {tb : T} {id : Nat} {m : M} {t : T} : ∀ {L : List E}, rts (sinkL b i c n tb L) id m t ↔ id ≠ b ∧ ∃ t0, rts L id m t0 ∧ t = if id = i then t0.put [] 0 c tb else t0
 | [] => by simp [rts, sinkL]
 | .sl s' x :: L => by
  have := sinkL_rt (b := b) (i := i) (c := c) (n := n) (tb := tb) (id := id) (m := m) (t := t) (L := L)
  simpa [rts, sinkL] using this
 | .al s' c' x :: L => by
  have := sinkL_rt (b := b) (i := i) (c := c) (n := n) (tb := tb) (id := id) (m := m) (t := t) (L := L)
  simp only [rts, sinkL] at this ⊢
  split <;> simpa using this
 | .rt id' m' t' :: L => by
  have ih := sinkL_rt (b := b) (i := i) (c := c) (n := n) (tb := tb) (id := id) (m := m) (t := t) (L := L)
  simp only [rts, sinkL] at ih ⊢
  by_cases hb : id' = b
  ·subst hb
   simp only [Nat.beq_refl, if_true, ih, List.mem_cons, E.rt.injEq]
   constructor
   ·rintro ⟨h1, t0, h2, h3⟩; exact ⟨h1, t0, .inr h2, h3⟩
   ·rintro ⟨h1, t0, ⟨rfl, _⟩ | h2, h3⟩
    ·exact absurd rfl h1
    ·exact ⟨h1, t0, h2, h3⟩
  ·have hb' : ¬ (Nat.beq id' b = true) := fun h => hb (Nat.eq_of_beq_eq_true h)
   have hi : (if Nat.beq id' i = true then t'.put [] 0 c tb else t') = if id' = i then t'.put [] 0 c tb else t' := by
    by_cases h : id' = i
    ·subst h; simp
    ·rw [if_neg h, if_neg fun h' => h (Nat.eq_of_beq_eq_true h')]
   rw [if_neg hb', hi, List.mem_cons, ih, E.rt.injEq]
   constructor
   ·rintro (⟨rfl, rfl, rfl⟩ | ⟨h1, t0, h2, h3⟩)
    ·exact ⟨hb, t', List.mem_cons_self .., rfl⟩
    ·exact ⟨h1, t0, List.mem_cons_of_mem _ h2, h3⟩
   ·rintro ⟨h1, t0, h2, h3⟩
    rcases List.mem_cons.1 h2 with h2 | h2
    ·cases h2; exact .inl ⟨rfl, rfl, h3⟩
    ·exact .inr ⟨h1, t0, h2, h3⟩
theorem hoistM_sl {i c n d : Nat} {s : Nat} {y : X} : ∀ {L : List E}, E.sl s y ∈ hoistM i c n d L → ∃ x, E.sl s x ∈ L ∧ y = x.uns i (n, 0, c) d
 | .sl s' x :: L, h => by
  rcases List.mem_cons.1 h with h | h
  ·cases h; exact ⟨x, List.mem_cons_self .., rfl⟩
  ·obtain ⟨x, h1, h2⟩ := hoistM_sl h; exact ⟨x, List.mem_cons_of_mem _ h1, h2⟩
 | .rt id m t :: L, h => by
  rcases List.mem_cons.1 h with h | h
  ·cases h
  ·obtain ⟨x, h1, h2⟩ := hoistM_sl h; exact ⟨x, List.mem_cons_of_mem _ h1, h2⟩
 | .al id c' x :: L, h => by
  rcases List.mem_cons.1 h with h | h
  ·cases h
  ·obtain ⟨x, h1, h2⟩ := hoistM_sl h; exact ⟨x, List.mem_cons_of_mem _ h1, h2⟩
theorem hoistM_al {i c n d : Nat} {s c1 : Nat} {y : X} : ∀ {L : List E}, E.al s c1 y ∈ hoistM i c n d L → ∃ x, E.al s c1 x ∈ L ∧ y = x.uns i (n, 0, c) d
 | .sl s' x :: L, h => by
  rcases List.mem_cons.1 h with h | h
  ·cases h
  ·obtain ⟨x, h1, h2⟩ := hoistM_al h; exact ⟨x, List.mem_cons_of_mem _ h1, h2⟩
 | .rt id m t :: L, h => by
  rcases List.mem_cons.1 h with h | h
  ·cases h
  ·obtain ⟨x, h1, h2⟩ := hoistM_al h; exact ⟨x, List.mem_cons_of_mem _ h1, h2⟩
 | .al id c' x :: L, h => by
  rcases List.mem_cons.1 h with h | h
  ·cases h; exact ⟨x, List.mem_cons_self .., rfl⟩
  ·obtain ⟨x, h1, h2⟩ := hoistM_al h; exact ⟨x, List.mem_cons_of_mem _ h1, h2⟩
theorem hoistM_rt {i c n d : Nat} {id : Nat} {m : M} {t : T} : ∀ {L : List E}, rts (hoistM i c n d L) id m t ↔ ∃ t0, rts L id m t0 ∧ t = if id = i then t0.put [] 0 c .j else t0
 | [] => by simp [rts, hoistM]
 | .sl s' x :: L => by
  have := hoistM_rt (i := i) (c := c) (n := n) (d := d) (id := id) (m := m) (t := t) (L := L)
  simpa [rts, hoistM] using this
 | .al s' c' x :: L => by
  have := hoistM_rt (i := i) (c := c) (n := n) (d := d) (id := id) (m := m) (t := t) (L := L)
  simpa [rts, hoistM] using this
 | .rt id' m' t' :: L => by
  have ih := hoistM_rt (i := i) (c := c) (n := n) (d := d) (id := id) (m := m) (t := t) (L := L)
  simp only [rts, hoistM] at ih ⊢
  have hi : (if Nat.beq id' i = true then t'.put [] 0 c .j else t') = if id' = i then t'.put [] 0 c .j else t' := by
   by_cases h : id' = i
   ·subst h; simp
   ·rw [if_neg h, if_neg fun h' => h (Nat.eq_of_beq_eq_true h')]
  rw [hi, List.mem_cons, ih, E.rt.injEq]
  constructor
  ·rintro (⟨rfl, rfl, rfl⟩ | ⟨t0, h2, h3⟩)
   ·exact ⟨t', List.mem_cons_self .., rfl⟩
   ·exact ⟨t0, List.mem_cons_of_mem _ h2, h3⟩
  ·rintro ⟨t0, h2, h3⟩
   rcases List.mem_cons.1 h2 with h2 | h2
   ·cases h2; exact .inl ⟨rfl, rfl, h3⟩
   ·exact .inr ⟨t0, h2, h3⟩
/-- ways that avoid one cell -/
theorem upd_at {n c : Nat} {f : Nat → Nat → T} {y : T} : ∀ {q : Path}, Okp (.s n 1 f) q → (∀ r, q ≠ (n, 0, c) :: r) → Okp (.s n 1 (upd f 0 c y)) q ∧ ∀ {n1 len : Nat} {f1 : Nat → Nat → T}, (T.s n 1 f).at q = .s n1 len f1 → ∃ f2, (T.s n 1 (upd f 0 c y)).at q = .s n1 len f2
  | [], _, _ => ⟨trivial, fun h => by simp only [T.at] at h ⊢; cases h; exact ⟨_, rfl⟩⟩
  | (n', k', c') :: q', ⟨hnn, hk, hc, hq⟩, hne => by
    subst hnn
    have hkc : ¬ (k' = 0 ∧ c' = c) := by
      rintro ⟨rfl, rfl⟩
      exact hne q' rfl
    have e : upd f 0 c y k' c' = f k' c' := by simp only [upd, if_neg hkc]
    refine ⟨⟨rfl, hk, hc, by rw [e]; exact hq⟩, fun h => ?_⟩
    simp only [T.at] at h ⊢
    rw [e]
    exact ⟨_, h⟩
theorem hd_cons {w : World} {h x : Value} {n k c b o : Nat} {q : Path} (h1 : adr h n k c = some ⟨b, o, none⟩) (h2 : w.cell? ⟨b, o, none⟩ = some x) : hd w h ((n, k, c) :: q) = hd w x q := by
 simp only [hd, h1, h2]
theorem Weak.sink {N : Nat} {L : List E} (b i c : Nat) {n : Nat} {f : Nat → Nat → T} {tb : T} (hi : rootL L i = some (.box, .s n 1 f)) (hc : c < n) (hf : f 0 c = .j) (hb : rootL L b = some (.row, tb)) (hal : aliasL L i c = .h b []) (hne : Nat.beq b i = false) : Weak N L (sinkL b i c n tb L) := fun cx a w hs => by
 obtain ⟨H, G, hr, hG⟩ := hs.rp
 have hi' := rootL_mem hi
 have hb' := rootL_mem hb
 have hne' : b ≠ i := fun e => by rw [e, Nat.beq_refl] at hne; cases hne
 have hal' : E.al i c (.h b []) ∈ L := by
  rcases aliasL_mem (L := L) (id := i) (c := c) with h | h
  ·rw [hal] at h; cases h
  ·rw [hal] at h; exact h
 obtain ⟨n2, f2, e1, e2, A, v, e3, e4, e5⟩ := hr.al i c _ hal'
 have e6 := (hr.one _ _ _ _ _ hi' e1).2
 cases e6
 have hv : v = H b := by
  obtain ⟨m, t, _, _, _, h⟩ := e5
  simp only [VM.hd, Option.some.injEq] at h
  exact h.symm
 subst hv
 have hO := hr.own i _ _ hi' (by simp)
 obtain ⟨b0, o0, x0, Gx, g1, g2, g3, g4, g5, g6, g7, g8⟩ := hO.row (k := 0) (c := c) (by omega) hc
 have hA : A = ⟨b0, o0, none⟩ := by
  obtain ⟨a0, l0, c0, q1, q2⟩ := adr_some e3
  rw [q1] at g1
  simp only [adr, Option.some.injEq] at g1
  rw [q2, ← g1]
  simp
 rw [hA, g2] at e4
 cases e4
 have hGx : ∀ x y, ¬ Gx x y := by rw [hf] at g3; exact g3.2
 have hOb := hr.own b _ _ hb' (by simp)
 obtain ⟨k1, -⟩ := g8 (w' := w) (S := fun _ _ => False) (y := tb) (x' := H b) (Gy := G b) (Chg.refl _ _) (fun _ _ h => h.elim) g2 hOb (fun x y hg => .inr fun hF => hr.dis _ _ _ _ _ _ hb' hi' hne' (by simp) x y hg hF)
 have hrt : ∀ {id m t}, rts (sinkL b i c n tb L) id m t → (id = i ∧ m = .box ∧ t = .s n 1 (upd f 0 c tb)) ∨ (id ≠ i ∧ id ≠ b ∧ rts L id m t) := fun {id m t} h => by
  obtain ⟨h1, t0, h2, h3⟩ := sinkL_rt.1 h
  by_cases e : id = i
  ·subst e
   obtain ⟨rfl, rfl⟩ := hr.one _ _ _ _ _ h2 hi'
   rw [if_pos rfl] at h3
   exact .inl ⟨rfl, rfl, h3⟩
  ·rw [if_neg e] at h3
   subst h3
   exact .inr ⟨e, h1, h2⟩
 have hri : rts (sinkL b i c n tb L) i .box (.s n 1 (upd f 0 c tb)) := sinkL_rt.2 ⟨fun e => hne' e.symm, _, hi', by rw [if_pos rfl]; rfl⟩
 have hro : ∀ {id m t}, id ≠ i → id ≠ b → rts L id m t → rts (sinkL b i c n tb L) id m t := fun {id m t} h1 h2 h => sinkL_rt.2 ⟨h2, t, h, by rw [if_neg h1]⟩
 have havoid : ∀ {q : Path} {n1 len : Nat} {f1 : Nat → Nat → T}, (T.s n 1 f).at q = .s n1 len f1 → ∀ r, q ≠ (n, 0, c) :: r := fun {q n1 len f1} h r e => by
  subst e
  simp only [T.at, hf] at h
  cases r <;> simp [T.at] at h
 have hleaf : ∀ x v, X.leaf x → VR (rts L) H w x v → VR (rts (sinkL b i c n tb L)) H w (x.sub b i (n, 0, c)) v := fun x v hl h => by
  cases x with
  | p id q n1 k c1 =>
   obtain ⟨m, t, h1, h2, ⟨len, f1, h3, h4, h5⟩, hv, A1, h6, h7⟩ := h
   by_cases e : id = b
   ·subst e
    obtain ⟨rfl, rfl⟩ := hr.one _ _ _ _ _ h1 hb'
    simp only [X.sub, Nat.beq_refl, if_true]
    exact ⟨_, _, hri, ⟨rfl, Nat.zero_lt_one, hc, by simpa [upd] using h2⟩, ⟨len, f1, by simpa [T.at, upd] using h3, h4, h5⟩, hv, A1, by rw [hd_cons g1 g2]; exact h6, h7⟩
   ·simp only [X.sub, if_neg fun h => e (Nat.eq_of_beq_eq_true h)]
    by_cases e' : id = i
    ·subst e'
     obtain ⟨rfl, rfl⟩ := hr.one _ _ _ _ _ h1 hi'
     obtain ⟨p1, p2⟩ := upd_at (y := tb) h2 (havoid h3)
     obtain ⟨f2, p3⟩ := p2 h3
     exact ⟨_, _, hri, p1, ⟨len, f2, p3, h4, h5⟩, hv, A1, h6, h7⟩
    ·exact ⟨m, t, hro e' e h1, h2, ⟨len, f1, h3, h4, h5⟩, hv, A1, h6, h7⟩
  | h id q =>
   obtain ⟨m, t, h1, h2, ⟨n1, len, f1, h3⟩, h6⟩ := h
   by_cases e : id = b
   ·subst e
    obtain ⟨rfl, rfl⟩ := hr.one _ _ _ _ _ h1 hb'
    simp only [X.sub, Nat.beq_refl, if_true]
    exact ⟨_, _, hri, ⟨rfl, Nat.zero_lt_one, hc, by simpa [upd] using h2⟩, ⟨n1, len, f1, by simpa [T.at, upd] using h3⟩, by rw [hd_cons g1 g2]; exact h6⟩
   ·simp only [X.sub, if_neg fun h => e (Nat.eq_of_beq_eq_true h)]
    by_cases e' : id = i
    ·subst e'
     obtain ⟨rfl, rfl⟩ := hr.one _ _ _ _ _ h1 hi'
     obtain ⟨p1, p2⟩ := upd_at (y := tb) h2 (havoid h3)
     obtain ⟨f2, p3⟩ := p2 h3
     exact ⟨_, _, hri, p1, ⟨n1, len, f2, p3⟩, h6⟩
    ·exact ⟨m, t, hro e' e h1, h2, ⟨n1, len, f1, h3⟩, h6⟩
  | a id q n1 lo len =>
   obtain ⟨m, t, h1, h2, ⟨l, f1, h3, h4⟩, hv, h6, h7⟩ := h
   by_cases e : id = b
   ·subst e
    obtain ⟨rfl, rfl⟩ := hr.one _ _ _ _ _ h1 hb'
    simp only [X.sub, Nat.beq_refl, if_true]
    exact ⟨_, _, hri, ⟨rfl, Nat.zero_lt_one, hc, by simpa [upd] using h2⟩, ⟨l, f1, by simpa [T.at, upd] using h3, h4⟩, hv, by rw [hd_cons g1 g2]; exact h6, h7⟩
   ·simp only [X.sub, if_neg fun h => e (Nat.eq_of_beq_eq_true h)]
    by_cases e' : id = i
    ·subst e'
     obtain ⟨rfl, rfl⟩ := hr.one _ _ _ _ _ h1 hi'
     obtain ⟨p1, p2⟩ := upd_at (y := tb) h2 (havoid h3)
     obtain ⟨f2, p3⟩ := p2 h3
     exact ⟨_, _, hri, p1, ⟨l, f2, p3, h4⟩, hv, h6, h7⟩
    ·exact ⟨m, t, hro e' e h1, h2, ⟨l, f1, h3, h4⟩, hv, h6, h7⟩
  | _ => exact hl.elim
 refine ⟨hs.siz, hs.dfr, hs.chg, H, updN G i fun a p => (G i a p ∧ ¬ Gx a p) ∨ G b a p, ⟨fun id m t m' t' h1 h2 => ?_, fun id m t h1 h2 => ?_, fun id t h1 => ?_, fun id t h1 => ?_, fun id t h1 => ?_, fun id m t id' m' t' h1 h2 hne2 hm x y hx hy => ?_, fun t x h => ?_, fun id c1 x h => ?_⟩, fun id m t h1 h2 x y hx => ?_, fun id m t h1 h2 => ?_⟩
 ·rcases hrt h1 with ⟨rfl, rfl, rfl⟩ | ⟨a1, a2, a3⟩ <;> rcases hrt h2 with ⟨b1, b2, b3⟩ | ⟨b1, b2, b3⟩
  ·exact ⟨b2.symm, b3.symm⟩
  ·exact absurd rfl b1
  ·exact absurd b1 a1
  ·exact hr.one _ _ _ _ _ a3 b3
 ·rcases hrt h1 with ⟨rfl, rfl, rfl⟩ | ⟨a1, a2, a3⟩
  ·simp only [updN, if_true]; exact k1
  ·simp only [updN, if_neg a1]; exact hr.own _ _ _ a3 h2
 ·rcases hrt h1 with ⟨_, h, _⟩ | ⟨a1, a2, a3⟩
  ·cases h
  ·simp only [updN, if_neg a1]; exact hr.ro _ _ a3
 ·rcases hrt h1 with ⟨_, h, _⟩ | ⟨a1, a2, a3⟩
  ·cases h
  ·simp only [updN, if_neg a1]; exact hr.rold _ _ a3
 ·rcases hrt h1 with ⟨_, _, rfl⟩ | ⟨a1, a2, a3⟩
  ·exact ⟨_, _, rfl⟩
  ·exact hr.box _ _ a3
 ·rcases hrt h1 with ⟨rfl, rfl, rfl⟩ | ⟨a1, a2, a3⟩ <;> rcases hrt h2 with ⟨b1, b2, b3⟩ | ⟨b1, b2, b3⟩
  ·exact hne2 b1.symm
  ·simp only [updN, if_true] at hx
   simp only [updN, if_neg b1] at hy
   rcases hx with ⟨hx, _⟩ | hx
   ·exact hr.dis _ _ _ _ _ _ hi' b3 hne2 (by simp) x y hx hy
   ·exact hr.dis _ _ _ _ _ _ hb' b3 (Ne.symm b2) (by simp) x y hx hy
  ·subst b1
   simp only [updN, if_true] at hy
   simp only [updN, if_neg a1] at hx
   rcases hy with ⟨hy, _⟩ | hy
   ·exact hr.dis _ _ _ _ _ _ hi' a3 (Ne.symm hne2) (by simp) x y hy hx
   ·exact hr.dis _ _ _ _ _ _ hb' a3 (Ne.symm a2) (by simp) x y hy hx
  ·simp only [updN, if_neg a1] at hx
   simp only [updN, if_neg b1] at hy
   exact hr.dis _ _ _ _ _ _ a3 b3 hne2 hm x y hx hy
 ·obtain ⟨x', h1, rfl⟩ := sinkL_sl h
  exact VR.subOk hleaf (hr.sl t x' h1)
 ·obtain ⟨x', h1, rfl, h3⟩ := sinkL_al h
  obtain ⟨n3, f3, p1, p2, A3, v3, p3, p4, p5⟩ := hr.al id c1 x' h1
  by_cases e : id = i
  ·subst e
   have := (hr.one _ _ _ _ _ hi' p1).2
   cases this
   exact ⟨n, _, hri, p2, A3, v3, p3, p4, VR.subOk hleaf p5⟩
  ·have e' : id ≠ b := fun e' => by
    subst e'
    obtain ⟨hh, _⟩ := hr.one _ _ _ _ _ hb' p1
    cases hh
   exact ⟨n3, f3, hro e e' p1, p2, A3, v3, p3, p4, VR.subOk hleaf p5⟩
 ·rcases hrt h1 with ⟨rfl, rfl, rfl⟩ | ⟨a1, a2, a3⟩
  ·simp only [updN, if_true] at hx
   rcases hx with ⟨hx, _⟩ | hx
   ·exact hG.1 _ _ _ hi' (by simp) x y hx
   ·exact hG.1 _ _ _ hb' (by simp) x y hx
  ·simp only [updN, if_neg a1] at hx
   exact hG.1 _ _ _ a3 h2 x y hx
 ·rcases hrt h2 with ⟨rfl, rfl, rfl⟩ | ⟨a1, a2, a3⟩
  ·exact hG.2 _ _ _ h1 hi'
  ·exact hG.2 _ _ _ h1 a3
theorem Weak.hoist {N : Nat} {L : List E} (i c d : Nat) {n n1 len : Nat} {f f1 : Nat → Nat → T} (hi : rootL L i = some (.box, .s n 1 f)) (hc : c < n) (hf : f 0 c = .s n1 len f1) (hd : Nat.blt d base = true) (hn : (idsL L).contains d = false) : Weak N L (hoistL i c n d (.s n1 len f1) L) := fun cx a w hs => by
 obtain ⟨H, G, hr, hG⟩ := hs.rp
 have hi' := rootL_mem hi
 have hdn : ∀ {m t}, ¬ rts L d m t := fun {m t} h => by
  have : d ∈ idsL L := idsL_mem.2 ⟨m, t, h⟩
  simp [this] at hn
 have hdi : d ≠ i := fun e => hdn (e ▸ hi')
 have hdb : d < base := Nat.blt_eq.mp hd
 have hO := hr.own i _ _ hi' (by simp)
 obtain ⟨b0, o0, x0, Gx, g1, g2, g3, g4, g5, g6, g7, g8⟩ := hO.row (k := 0) (c := c) (by omega) hc
 obtain ⟨k1, -⟩ := g8 (w' := w) (S := fun _ _ => False) (y := .j) (x' := x0) (Gy := fun _ _ => False) (Chg.refl _ _) (fun _ _ h => h.elim) g2 ⟨g3.one, fun _ _ h => h⟩ (fun x y hg => hg.elim)
 rw [hf] at g3
 have hrt : ∀ {id m t}, rts (hoistL i c n d (.s n1 len f1) L) id m t → (id = d ∧ m = .row ∧ t = .s n1 len f1) ∨ (id = i ∧ m = .box ∧ t = .s n 1 (upd f 0 c .j)) ∨ (id ≠ i ∧ id ≠ d ∧ rts L id m t) := fun {id m t} h => by
  rcases List.mem_cons.1 h with h | h
  ·cases h; exact .inl ⟨rfl, rfl, rfl⟩
  rcases List.mem_cons.1 h with h | h
  ·cases h
  obtain ⟨t0, h2, h3⟩ := hoistM_rt.1 h
  by_cases e : id = i
  ·subst e
   obtain ⟨rfl, rfl⟩ := hr.one _ _ _ _ _ h2 hi'
   rw [if_pos rfl] at h3
   exact .inr (.inl ⟨rfl, rfl, h3⟩)
  ·rw [if_neg e] at h3
   subst h3
   exact .inr (.inr ⟨e, fun e' => hdn (e' ▸ h2), h2⟩)
 have hrd : rts (hoistL i c n d (.s n1 len f1) L) d .row (.s n1 len f1) := List.mem_cons_self ..
 have hri : rts (hoistL i c n d (.s n1 len f1) L) i .box (.s n 1 (upd f 0 c .j)) := List.mem_cons_of_mem _ (List.mem_cons_of_mem _ (hoistM_rt.2 ⟨_, hi', by rw [if_pos rfl]; rfl⟩))
 have hro : ∀ {id m t}, id ≠ i → rts L id m t → rts (hoistL i c n d (.s n1 len f1) L) id m t := fun {id m t} h1 h => List.mem_cons_of_mem _ (List.mem_cons_of_mem _ (hoistM_rt.2 ⟨t, h, by rw [if_neg h1]⟩))
 let H' : Nat → Value := updN H d x0
 have hHd : H' d = x0 := by simp [H', updN]
 have hHo : ∀ {id m t}, rts L id m t → H' id = H id := fun {id m t} h => by
  have : id ≠ d := fun e => hdn (e ▸ h)
  simp [H', updN, this]
 -- a way through the cell, or past it
 have hway : ∀ {id m t q}, rts L id m t → Okp t q → ∃ m' t', rts (hoistL i c n d (.s n1 len f1) L) (unsP i (n, 0, c) d id q).1 m' t' ∧ Okp t' (unsP i (n, 0, c) d id q).2 ∧ (∀ {n2 l2 : Nat} {f2 : Nat → Nat → T}, t.at q = .s n2 l2 f2 → ∃ f3, t'.at (unsP i (n, 0, c) d id q).2 = .s n2 l2 f3) ∧ VM.hd w (H' (unsP i (n, 0, c) d id q).1) (unsP i (n, 0, c) d id q).2 = VM.hd w (H id) q := fun {id m t q} h hq => by
  have hpast : (∀ r, id = i → q ≠ (n, 0, c) :: r) → ∃ m' t', rts (hoistL i c n d (.s n1 len f1) L) id m' t' ∧ Okp t' q ∧ (∀ {n2 l2 : Nat} {f2 : Nat → Nat → T}, t.at q = .s n2 l2 f2 → ∃ f3, t'.at q = .s n2 l2 f3) ∧ VM.hd w (H' id) q = VM.hd w (H id) q := fun hav => by
   rw [hHo h]
   by_cases e : id = i
   ·subst e
    obtain ⟨rfl, rfl⟩ := hr.one _ _ _ _ _ h hi'
    obtain ⟨p1, p2⟩ := upd_at (y := .j) hq fun r => hav r rfl
    exact ⟨_, _, hri, p1, fun hh => p2 hh, rfl⟩
   ·exact ⟨m, t, hro e h, hq, fun hh => ⟨_, hh⟩, rfl⟩
  cases q with
  | nil => exact hpast fun r _ e => by cases e
  | cons e q =>
   simp only [unsP]
   by_cases hh : (Nat.beq id i && eqE e (n, 0, c)) = true
   ·rw [if_pos hh]
    simp only [Bool.and_eq_true] at hh
    have e1 := Nat.eq_of_beq_eq_true hh.1
    have e2 := eqE_eq hh.2
    subst e1 e2
    obtain ⟨rfl, rfl⟩ := hr.one _ _ _ _ _ h hi'
    obtain ⟨_, _, _, hq'⟩ := hq
    rw [hf] at hq'
    refine ⟨_, _, hrd, hq', fun hh => ⟨_, by simpa only [T.at, hf] using hh⟩, ?_⟩
    rw [hHd, hd_cons g1 g2]
   ·rw [if_neg hh]
    refine hpast fun r h1 h2 => hh ?_
    cases h2
    rw [h1]
    simp [eqE_refl]
 have hleaf : ∀ x v, X.leaf x → VR (rts L) H w x v → VR (rts (hoistL i c n d (.s n1 len f1) L)) H' w (x.uns i (n, 0, c) d) v := fun x v hl h => by
  cases x with
  | p id q n2 k c1 =>
   obtain ⟨m, t, h1, h2, ⟨l2, f2, h3, h4, h5⟩, hv, A1, h6, h7⟩ := h
   obtain ⟨m', t', p1, p2, p3, p4⟩ := hway h1 h2
   obtain ⟨f3, p5⟩ := p3 h3
   exact ⟨m', t', p1, p2, ⟨l2, f3, p5, h4, h5⟩, hv, A1, by rw [p4]; exact h6, h7⟩
  | h id q =>
   obtain ⟨m, t, h1, h2, ⟨n2, l2, f2, h3⟩, h6⟩ := h
   obtain ⟨m', t', p1, p2, p3, p4⟩ := hway h1 h2
   obtain ⟨f3, p5⟩ := p3 h3
   exact ⟨m', t', p1, p2, ⟨n2, l2, f3, p5⟩, by rw [p4]; exact h6⟩
  | a id q n2 lo l2 =>
   obtain ⟨m, t, h1, h2, ⟨l, f2, h3, h4⟩, hv, h6, h7⟩ := h
   obtain ⟨m', t', p1, p2, p3, p4⟩ := hway h1 h2
   obtain ⟨f3, p5⟩ := p3 h3
   exact ⟨m', t', p1, p2, ⟨l, f3, p5, h4⟩, hv, by rw [p4]; exact h6, h7⟩
  | _ => exact hl.elim
 refine ⟨hs.siz, hs.dfr, hs.chg, H', updN (updN G i fun a p => (G i a p ∧ ¬ Gx a p) ∨ False) d Gx, ⟨fun id m t m' t' h1 h2 => ?_, fun id m t h1 h2 => ?_, fun id t h1 => ?_, fun id t h1 => ?_, fun id t h1 => ?_, fun id m t id' m' t' h1 h2 hne2 hm x y hx hy => ?_, fun t x h => ?_, fun id c1 x h => ?_⟩, fun id m t h1 h2 x y hx => ?_, fun id m t h1 h2 => ?_⟩
 ·rcases hrt h1 with ⟨rfl, rfl, rfl⟩ | ⟨rfl, rfl, rfl⟩ | ⟨a1, a2, a3⟩ <;> rcases hrt h2 with ⟨b1, b2, b3⟩ | ⟨b1, b2, b3⟩ | ⟨b1, b2, b3⟩
  ·exact ⟨b2.symm, b3.symm⟩
  ·exact absurd b1 hdi
  ·exact absurd rfl b2
  ·exact absurd b1.symm hdi
  ·exact ⟨b2.symm, b3.symm⟩
  ·exact absurd rfl b1
  ·exact absurd b1 a2
  ·exact absurd b1 a1
  ·exact hr.one _ _ _ _ _ a3 b3
 ·rcases hrt h1 with ⟨rfl, rfl, rfl⟩ | ⟨rfl, rfl, rfl⟩ | ⟨a1, a2, a3⟩
  ·simp only [updN, if_true]; rw [hHd]; exact g3
  ·simp only [updN, if_neg (Ne.symm hdi), if_true]; rw [hHo hi']; exact k1
  ·simp only [updN, if_neg a1, if_neg a2]; rw [hHo a3]; exact hr.own _ _ _ a3 h2
 ·rcases hrt h1 with ⟨_, h, _⟩ | ⟨_, h, _⟩ | ⟨a1, a2, a3⟩
  ·cases h
  ·cases h
  ·simp only [updN, if_neg a1, if_neg a2]; rw [hHo a3]; exact hr.ro _ _ a3
 ·rcases hrt h1 with ⟨_, h, _⟩ | ⟨_, h, _⟩ | ⟨a1, a2, a3⟩
  ·cases h
  ·cases h
  ·simp only [updN, if_neg a1, if_neg a2]; exact hr.rold _ _ a3
 ·rcases hrt h1 with ⟨_, h, _⟩ | ⟨_, _, rfl⟩ | ⟨a1, a2, a3⟩
  ·cases h
  ·exact ⟨_, _, rfl⟩
  ·exact hr.box _ _ a3
 ·rcases hrt h1 with ⟨rfl, rfl, rfl⟩ | ⟨rfl, rfl, rfl⟩ | ⟨a1, a2, a3⟩ <;> rcases hrt h2 with ⟨b1, b2, b3⟩ | ⟨b1, b2, b3⟩ | ⟨b1, b2, b3⟩
  ·exact hne2 b1.symm
  ·subst b1
   simp only [updN, if_true] at hx
   simp only [updN, if_neg (Ne.symm hdi), if_true] at hy
   rcases hy with ⟨_, hy⟩ | hy
   ·exact hy hx
   ·exact hy
  ·simp only [updN, if_true] at hx
   simp only [updN, if_neg b1, if_neg b2] at hy
   exact hr.dis _ _ _ _ _ _ hi' b3 (Ne.symm b1) (by simp) x y (g6 x y hx) hy
  ·subst b1
   simp only [updN, if_true] at hy
   simp only [updN, if_neg (Ne.symm hdi), if_true] at hx
   rcases hx with ⟨_, hx⟩ | hx
   ·exact hx hy
   ·exact hx
  ·exact hne2 b1.symm
  ·simp only [updN, if_neg (Ne.symm hdi), if_true] at hx
   simp only [updN, if_neg b1, if_neg b2] at hy
   rcases hx with ⟨hx, _⟩ | hx
   ·exact hr.dis _ _ _ _ _ _ hi' b3 hne2 (by simp) x y hx hy
   ·exact hx
  ·subst b1
   simp only [updN, if_true] at hy
   simp only [updN, if_neg a1, if_neg a2] at hx
   exact hr.dis _ _ _ _ _ _ hi' a3 (Ne.symm a1) (by simp) x y (g6 x y hy) hx
  ·subst b1
   simp only [updN, if_neg (Ne.symm hdi), if_true] at hy
   simp only [updN, if_neg a1, if_neg a2] at hx
   rcases hy with ⟨hy, _⟩ | hy
   ·exact hr.dis _ _ _ _ _ _ hi' a3 (Ne.symm a1) (by simp) x y hy hx
   ·exact hy
  ·simp only [updN, if_neg a1, if_neg a2] at hx
   simp only [updN, if_neg b1, if_neg b2] at hy
   exact hr.dis _ _ _ _ _ _ a3 b3 hne2 hm x y hx hy
 ·rcases List.mem_cons.1 h with h | h
  ·cases h
  rcases List.mem_cons.1 h with h | h
  ·cases h
  obtain ⟨x', h1, rfl⟩ := hoistM_sl h
  exact VR.unsOk hleaf (hr.sl t x' h1)
 ·rcases List.mem_cons.1 h with h | h
  ·cases h
  rcases List.mem_cons.1 h with h | h
  ·cases h
   refine ⟨n, _, hri, hc, ⟨b0, o0, none⟩, x0, ?_, g2, ⟨_, _, hrd, trivial, ⟨_, _, _, rfl⟩, by rw [hHd]; rfl⟩⟩
   rw [hHo hi']
   obtain ⟨a0, l0, c0, q1, q2⟩ := adr_some g1
   rw [q1] at g1 ⊢
   rw [← g1]
   simp [adr]
  obtain ⟨x', h1, rfl⟩ := hoistM_al h
  obtain ⟨n3, f3, p1, p2, A3, v3, p3, p4, p5⟩ := hr.al id c1 x' h1
  by_cases e : id = i
  ·subst e
   have := (hr.one _ _ _ _ _ hi' p1).2
   cases this
   exact ⟨n, _, hri, p2, A3, v3, by rw [hHo hi']; exact p3, p4, VR.unsOk hleaf p5⟩
  ·exact ⟨n3, f3, hro e p1, p2, A3, v3, by rw [hHo p1]; exact p3, p4, VR.unsOk hleaf p5⟩
 ·rcases hrt h1 with ⟨rfl, rfl, rfl⟩ | ⟨rfl, rfl, rfl⟩ | ⟨a1, a2, a3⟩
  ·simp only [updN, if_true] at hx
   exact hG.1 _ _ _ hi' (by simp) x y (g6 x y hx)
  ·simp only [updN, if_neg (Ne.symm hdi), if_true] at hx
   rcases hx with ⟨hx, _⟩ | hx
   ·exact hG.1 _ _ _ hi' (by simp) x y hx
   ·exact hx.elim
  ·simp only [updN, if_neg a1, if_neg a2] at hx
   exact hG.1 _ _ _ a3 h2 x y hx
 ·rcases hrt h2 with ⟨rfl, rfl, rfl⟩ | ⟨rfl, rfl, rfl⟩ | ⟨a1, a2, a3⟩
  ·omega
  ·rw [hHo hi']; exact hG.2 _ _ _ h1 hi'
  ·rw [hHo a3]; exact hG.2 _ _ _ h1 a3
end Go.Proofs.Ytfbefcmeghpalaa.VM
namespace Go.Proofs.Ytfbefcmeghpalaa.VM
open Go Go.RowKit
theorem pbRem4 (k : Nat) : pureBin .rem (iv k) (iv 4) = some (iv ((k % 4 : Nat) : Int)) := by
 show some (Value.int .i64 ((k : Int).tmod 4)) = _
 have : ((k : Int).tmod 4) = ((k % 4 : Nat) : Int) := by rw [Int.tmod_eq_emod_of_nonneg (by omega)]; omega
 rw [this]
end Go.Proofs.Ytfbefcmeghpalaa.VM
namespace Go.Proofs.Ytfbefcmeghpalaa.VM
open Go Go.RowKit
/-! short words for the walks -/
section
variable {P : Program} {N : Nat} {L L' : List E} {Q : Exit → List E → Prop} {ops : Array Oper} {rest : List Oper} {o : Oper} {qs pend todo : List Nat} {S : Array Bool}
theorem qq {d : Nat} {x : X} {gb : Bool} (h : Qt P o L x) (k : AWL P N ops rest Q (putL L d x)) (hw : wantL ops L o = some gb := by exact rfl) (hgb : gb = true := by exact rfl) (hd : o.dst = some d := by exact rfl) (hN : d < N := by decide) : AWL P N ops (o :: rest) Q L := AWL.q hw hgb hd hN h k
theorem nm (k : AWL P N ops rest Q L') (h : L = L' := by simp only [go_sem, Int.reduceToNat, Nat.reduceLT, reduceIte, Nat.reduceEqDiff, Nat.reduceAdd, Nat.reduceMul, Nat.reduceBEq, reduceCtorEq]; rfl) : AWL P N ops rest Q L := AWL.nrm h k
theorem nl (k : Q .normal L') (h : L = L' := by simp only [go_sem, Int.reduceToNat, Nat.reduceLT, reduceIte, Nat.reduceEqDiff, Nat.reduceAdd, Nat.reduceMul, Nat.reduceBEq, reduceCtorEq]; rfl) : AWL P N ops [] Q L := AWL.nilE h k
theorem na (k : AWA P N ops qs Q S pend todo L') (h : L = L' := by first | (simp only [go_sem, Int.reduceToNat, Nat.reduceLT, reduceIte, Nat.reduceEqDiff, Nat.reduceAdd, Nat.reduceMul, Nat.reduceBEq, reduceCtorEq]; rfl) | rfl) : AWA P N ops qs Q S pend todo L := AWA.nrm h k
theorem tk (i : Nat) {x : X} {d : Nat} {o : Oper} {gb : Bool} (ho : ops[i]? = some o) (h : Qt P o L x) (k : AWA P N ops qs Q (S.setIfInBounds i true) (i :: pend) [] (putL L d x)) (hd : o.dst = some d := by exact rfl) (hq' : qs.contains i = true := by exact rfl) (hr : (Region.ready .any ops S).contains i = true := by decide +kernel) (hw : wantL ops L o = some gb := by exact rfl) (hgb : gb = true := by exact rfl) : AWA P N ops qs Q S pend [] L :=
 AWA.take i ho hd hq' hr (.on hw hgb h) k
theorem nz (k : Q .normal L') (hr : Region.ready .any ops S = [] := by decide +kernel) (h : L = L' := by first | (simp only [go_sem, Int.reduceToNat, Nat.reduceLT, reduceIte, Nat.reduceEqDiff, Nat.reduceAdd, Nat.reduceMul, Nat.reduceBEq, reduceCtorEq]; rfl) | rfl) : AWA P N ops qs Q S pend [] L := AWA.nilE hr h k
theorem ss {gb : Bool} (k : AWL P N ops rest Q L') (h : Stp P N o L L' := by first | exact Stp.storeA rfl rfl rfl rfl (by decide) rfl | exact Stp.store rfl rfl (by simp) rfl rfl rfl (by decide) rfl) (hw : wantL ops L o = some gb := by exact rfl) (hgb : gb = true := by exact rfl) : AWL P N ops (o :: rest) Q L := AWL.step hw hgb h k
theorem sp {gb : Bool} (h : Stp P N o L L') (k : AWL P N ops rest Q L') (hw : wantL ops L o = some gb := by exact rfl) (hgb : gb = true := by exact rfl) : AWL P N ops (o :: rest) Q L := AWL.step hw hgb h k
theorem jd (h : Q .normal L) : AW P N .skip Q L := AW.skip h
end
section
variable {P : Program} {L : List E} {dst : Option Tmp} {ty : TypeId} {pos : String} {af : Array Edge} {g : Option (Nat × Bool)}
theorem fA {t : TypeId} {x : Operand} {i off id : Nat} {q : Path} {n k c : Nat} {m : M} {T0 : T} {len : Nat} {f : Nat → Nat → T} (hF : Fld P t i off) (hx : evX L x = .p id q n k c := by exact rfl) (hR : rootL L id = some (m, T0) := by exact rfl) (hT : T0.at q = .s n len f := by exact rfl) (hc : c + off < n := by decide) : Qt P ⟨dst, .fieldAddr t x i, ty, pos, af, g⟩ L (.p id q n k (c + off)) := Qt.fieldAddr hx hF hR hT hc
end
/-- what a test says, in plain words -/
theorem cnd : (∀ (p : Prop) [Decidable p], (decide p = true) = p) ∧ (∀ (p : Prop) [Decidable p], (decide p = false) = ¬ p) ∧ (∀ a b : Int, ((a != b) = true) = ¬ (a = b)) ∧ (∀ a b : Int, ((a == b) = true) = (a = b)) ∧ (∀ a b : Int, ((a == b) = false) = ¬ (a = b)) ∧ (∀ a b : Int, ((a != b) = false) = (a = b)) ∧
    (∀ b : Bool, ((!b) = true) = (b = false)) ∧ (∀ b : Bool, ((!b) = false) = (b = true)) ∧ (∀ a b : Bool, ((a && b) = true) = (a = true ∧ b = true)) ∧ (∀ a b : Bool, ((a || b) = true) = (a = true ∨ b = true)) ∧ (∀ a b : Bool, ((a && b) = false) = (a = false ∨ b = false)) ∧ (∀ a b : Bool, ((a || b) = false) = (a = false ∧ b = false)) ∧
    (∀ a b : Int, (¬ a < b) = (b ≤ a)) ∧ (∀ a b : Int, (¬ a ≤ b) = (b < a)) ∧ (∀ n : Nat, (n : Int).toNat = n) := by
  refine ⟨?_, ?_, ?_, ?_, ?_, ?_, ?_, ?_, ?_, ?_, ?_, ?_, ?_, ?_, ?_⟩ <;> intros <;> first | (simp; done) | (rename_i a b; cases a <;> cases b <;> simp)
section
variable {P : Program} {N : Nat} {L : List E} {Q : Exit → List E → Prop} {ops : Array Oper} {rest : List Oper} {d : Nat} {ty : TypeId} {pos : String} {af : Array Edge} {g : Option (Nat × Bool)}
theorem cv {f : FuncId} {cal : Operand} {caps : List X} {args : Array Operand} {tys : Array TypeId} {xs : List X} {ρ : List E} {m : Nat} {r : Value} {gb : Bool} (hE : Ent P f) (hcal : evX L cal = .f f caps) (hq : roXs L (args.toList.map (evX L) ++ caps) base = (xs, ρ, m)) (hc : Con P f xs ρ fun x _ => x = .v r)
  (k : AWL P N ops rest Q (putL L d (.v r))) (hN : d < N := by decide) (hw : wantL ops L ⟨some d, .call { callee := .value cal, args := args, argTypes := tys }, ty, pos, af, g⟩ = some gb := by exact rfl) (hgb : gb = true := by exact rfl) : AWL P N ops (⟨some d, .call { callee := .value cal, args := args, argTypes := tys }, ty, pos, af, g⟩ :: rest) Q L :=
 AWL.step hw hgb (Stp.callV rfl hN hE hcal hq hc) k
end
end Go.Proofs.Ytfbefcmeghpalaa.VM
namespace Go.Proofs.Ytfbefcmeghpalaa.VM
open Go Go.RowKit
/-! strings laid together -/
theorem Chg.of_below {S : FP} {w w' : World} (h : Below w.heap.size w w') : Chg S w w' := by
 refine ⟨h.os, h.tape, h.output, h.size, fun b cur e fr hb => ⟨cur, ?_, rfl, fun _ _ => rfl⟩, fun b o hb _ => ?_⟩
 ·rw [h.block b (Array.getElem?_eq_some_iff.1 hb).1]; exact hb
 ·rw [h.block b (Array.getElem?_eq_some_iff.1 hb).1]; exact hb
def joinB (l : List ByteArray) : ByteArray := l.foldl (· ++ ·) ByteArray.empty
theorem foldl_data (r : List ByteArray) : ∀ a : ByteArray, (r.foldl (· ++ ·) a).data.toList = a.data.toList ++ (r.map (·.data.toList)).flatten := by
  induction r with
  | nil => intro a; simp
  | cons x r ih => intro a; rw [List.foldl_cons, ih]; simp [List.append_assoc]
theorem joinB_join (l : List ByteArray) : (⟨(Go.Lib.join (l.map (·.data.toList)) ByteArray.empty.data.toList).toArray⟩ : ByteArray) = joinB l := by
 have h : ∀ xs : List (List UInt8), Go.Lib.join xs [] = xs.flatten := fun xs => by
  cases xs with
  | nil => rfl
  | cons x r =>
   rw [Go.Lib.join_cons, Go.Lib.joinTail]
   simp
 have h2 := foldl_data l ByteArray.empty
 have e : (joinB l).data.toList = (l.map (·.data.toList)).flatten := by rw [joinB, h2]; simp
 show (⟨(Go.Lib.join (l.map (·.data.toList)) []).toArray⟩ : ByteArray) = joinB l
 rw [h, ← e]
theorem con_join {P : Program} {f : FuncId}
  (hj : ∀ (bk o c : Nat) (xs : List ByteArray) (w : World), (∀ (j : Nat) x, xs[j]? = some x → w.cell? ⟨bk, o + j, none⟩ = some (.string x)) → bk < w.heap.size → xs.length ≤ 140737488355328 → xs.length ≤ c → (Go.Lib.join (xs.map (·.data.toList)) ByteArray.empty.data.toList).length ≤ 140737488355328 →
   Calls P f #[.slice (some ⟨bk, o, none⟩) xs.length c, .string ByteArray.empty] w fun e w' => e = .returned (.string ⟨(Go.Lib.join (xs.map (·.data.toList)) ByteArray.empty.data.toList).toArray⟩) ∧ Below w.heap.size w w')
  (h0 : ∀ (a : Option Addr) (c : Nat) (w : World), Calls P f #[.slice a 0 c, .string ByteArray.empty] w fun e w' => e = .returned (.string ⟨#[]⟩) ∧ w' = w)
  (l : List ByteArray) (hN : l.length ≤ 140737488355328) (hs : (joinB l).size ≤ 140737488355328) :
  Con P f [.h base [], .v (.string ByteArray.empty)] [.rt base .ro (tr l)] (fun y _ => y = .v (.string (joinB l))) := by
 intro w vs H G _ _ hr hv
 match vs, hv with
 | [v, s], ⟨⟨m, t, _, _, _, hh⟩, hs2, _⟩ =>
 simp only [hd, Option.some.injEq] at hh
 obtain rfl : s = .string ByteArray.empty := hs2
 have hR := hr.ro base (tr l) (List.mem_singleton.2 rfl)
 have hold := hr.rold base (tr l) (List.mem_singleton.2 rfl)
 obtain ⟨hn, a, cap, e0, hl, hm, b, off, V, Gk, h1, h2⟩ := hR
 have hv : v = .slice a l.length cap := by rw [← hh, e0]
 subst hv
 have fin : ∀ (e : Ending) (w' : World), e = .returned (.string (joinB l)) → Below w.heap.size w w' → ∃ v x L H' G' val, e = .returned v ∧ x = X.v (.string (joinB l)) ∧ Rp L val H' G' w' ∧ VR (rts L) H' w' x v ∧
   Chg (fun a o => ∃ id m t, rts [E.rt base .ro (tr l)] id m t ∧ m ≠ .ro ∧ G id a o) w w' ∧
   (∀ id m t, rts L id m t → m ≠ .ro → ∀ a o, G' id a o → (∃ id m t, rts [E.rt base .ro (tr l)] id m t ∧ m ≠ .ro ∧ G id a o) ∨ w.heap.size ≤ a) ∧
   ∀ id m t, base ≤ id → rts L id m t → H' id = H id := fun e w' he hb => by
  refine ⟨_, _, [], H, G, fun _ => undef, he, rfl, ?_, rfl, Chg.of_below hb, ?_, ?_⟩
  ·have no : ∀ {α : Prop} {e : E}, e ∈ ([] : List E) → α := fun h => by cases h
   exact ⟨fun _ _ _ _ _ h => no h, fun _ _ _ h => no h, fun _ _ h => no h, fun _ _ h => no h, fun _ _ h => no h, fun _ _ _ _ _ _ h => no h, fun _ _ h => no h, fun _ _ _ h => no h⟩
  ·intro _ _ _ h; cases h
  ·intro _ _ _ _ h; cases h
 rcases Nat.eq_zero_or_pos l.length with hz | hp
 ·have hl0 : l = [] := List.eq_nil_of_length_eq_zero hz
  subst hl0
  refine (h0 a cap w).mono fun e w' ⟨he, hw⟩ => fin e w' (he.trans rfl) (hw ▸ Below.refl _ _)
 ·obtain rfl := h1 hp
  have hcell : ∀ (j : Nat) x, l[j]? = some x → w.cell? ⟨b, off + j, none⟩ = some (.string x) := fun j x hx => by
   have hj : j < l.length := (List.getElem?_eq_some_iff.1 hx).1
   obtain ⟨g1, g2, _⟩ := h2 j 0 hj (by decide)
   rw [show j * En.n ByteArray + 0 = j from Nat.mul_one j] at g1
   have g3 : V j 0 = .string (l.getD j En.dflt) := g2.1
   rw [g1, g3]
   simp [List.getD_eq_getElem?_getD, hx]
  obtain ⟨g1, _, g3, _⟩ := h2 0 0 hp (by decide)
  refine (hj b off cap l w hcell (hold _ _ g3) hN hl ?_).mono fun e w' ⟨he, hw⟩ => fin e w' (he.trans (by rw [joinB_join])) hw
  have := congrArg ByteArray.size (joinB_join l)
  have h4 : (⟨(Go.Lib.join (l.map (·.data.toList)) ByteArray.empty.data.toList).toArray⟩ : ByteArray).size = (Go.Lib.join (l.map (·.data.toList)) ByteArray.empty.data.toList).length := by
   show Array.size _ = _
   simp
  omega
theorem sim_cells {α : Type} [En α] {l : List α} {n m : Nat} {f : Nat → Nat → T} (hn : n = En.n α) (hm : m = l.length) (h : ∀ k c, k < m → c < n → f k c = (En.cs (l.getD k En.dflt)).getD c .j) : (T.s n m f).sim (tr l) := by
 subst hn hm
 exact T.sim_of h
theorem sim_row1 {α : Type} [En α] {l : List α} {n m : Nat} {f : Nat → Nat → T} (h1 : En.n α = 1) (hn : n = En.n α) (hm : m = l.length) (h : ∀ k, k < m → f k 0 = (En.cs (l.getD k En.dflt)).getD 0 .j) : (T.s n m f).sim (tr l) :=
 sim_cells hn hm fun k c hk hc => by
  obtain rfl : c = 0 := by omega
  exact h k hk
/-- the pieces so far, laid together, are s -/
structure JInv (s : Nat → ByteArray) (n m0 w : Nat) where
 k : Nat
 le : k ≤ n
 acc : List ByteArray
 eq : joinB acc = s k
 len : acc.length ≤ m0 + w * k
theorem JInv.more {s : Nat → ByteArray} {n m0 w : Nat} (i : JInv s n m0 w) (ys : List ByteArray) (h : ys.length = w) : (i.acc ++ ys).length ≤ m0 + w * (i.k + 1) := by
 rw [List.length_append, h, Nat.mul_add]; have := i.len; omega
end Go.Proofs.Ytfbefcmeghpalaa.VM
namespace Go.Proofs.Ytfbefcmeghpalaa.VM
open Go Go.RowKit
/-! shorter words for the walks -/
section
variable {P : Program} {N : Nat} {L L' : List E} {Q : Exit → List E → Prop} {ops : Array Oper} {l rest : List Oper} {o : Oper} {qs pend todo : List Nat} {S : Array Bool}
theorem Rf {id : Nat} {m : M} {t : T} (h : rootL L id = some (m, t)) : ∃ t0, rootL L id = some (m, t0) ∧ t0.sim t := ⟨t, h, T.sim_refl t⟩
theorem st1 {a b : X} (h : a = b := by simp only [slotL, reduceIte, Nat.reduceEqDiff]; first | rfl | (rw [IntWalk.i64_in _ (by omega)]; rfl)) : a = b := h
theorem AW.loopW {c : Code} {ι : Type} (J : ι → List E) (μ : ι → Nat) (i : ι) (hw : Weak N L (J i)) (h : ∀ i, AW P N c (thenQ (fun L => ∃ i', Weak N L (J i') ∧ μ i' < μ i) Q) (J i)) : AW P N (.loop c) Q L := AW.weak hw (AW.loop J μ i h)
theorem qg {d : Nat} {x : X} {gb : Bool} (hgb : gb = true) (h : Qt P o L x) (k : AWL P N ops rest Q (putL L d x)) (hw : wantL ops L o = some gb := by exact rfl) (hd : o.dst = some d := by exact rfl) (hN : d < N := by decide) : AWL P N ops (o :: rest) Q L := AWL.q hw hgb hd hN h k
theorem og {d : Nat} {gb : Bool} (hgb : gb = false) (k : AWL P N ops rest Q (putL L d (.v undef))) (hw : wantL ops L o = some gb := by exact rfl) (hd : o.dst = some d := by exact rfl) (hN : d < N := by decide) : AWL P N ops (o :: rest) Q L := AWL.out hw hgb hd hN k
theorem wj (d : Nat) (ds : List Nat) {v v' : Value} {LB : List E} (e : v = v') (hB : VM.dropS L ds = LB) (K : AWL P N ops l Q (putL LB d (.v v'))) (h : slotL L d = .v v := by exact rfl) : AWL P N ops l Q L := AWL.weak (Weak.join h e hB) K
theorem a1 (j : Nat) {L1 : List E} {gb : Bool} (pend' D : List Nat) (ho : ops[j]? = some o) (hgb : gb = true) (h : Stp P N o L L1) (k : AWA P N ops qs Q (S.setIfInBounds j true) pend' pend' L1) (hr : Region.ready .any ops S = [j] := by decide +kernel) (hw : wantL ops L o = some gb := by exact rfl)
  (hD : chainB ops [j] D = true := by decide +kernel) (hp : (pend.all fun i => pend'.contains i || D.contains i) = true := by decide +kernel) (hp' : (pend'.all fun i => pend.contains i) = true := by decide +kernel) : AWA P N ops qs Q S pend [] L := AWA.one j pend' D hr ho hw hgb hD hp hp' h k
theorem o1 (j : Nat) {d : Nat} {gb : Bool} (pend' D : List Nat) (ho : ops[j]? = some o) (hgb : gb = false) (k : AWA P N ops qs Q (S.setIfInBounds j true) pend' pend' (putL L d (.v undef))) (hr : Region.ready .any ops S = [j] := by decide +kernel) (hw : wantL ops L o = some gb := by exact rfl)
  (hD : chainB ops [j] D = true := by decide +kernel) (hp : (pend.all fun i => pend'.contains i || D.contains i) = true := by decide +kernel) (hp' : (pend'.all fun i => pend.contains i) = true := by decide +kernel) (hd : o.dst = some d := by exact rfl) (hN : d < N := by decide) : AWA P N ops qs Q S pend [] L := AWA.oneOff j pend' D hr ho hw hgb hD hp hp' hd hN k
end
end Go.Proofs.Ytfbefcmeghpalaa.VM
namespace Go.Proofs.Ytfbefcmeghpalaa.VM
open Go Go.RowKit Go.Sort
/-! rows that are handed over and come back as a row of their own -/
theorem own_one {w : World} {t : T} {F : FP} {v : Value} (h : Own w t F v) {w' : World} : Own w' .j (fun _ _ => False) v := ⟨h.one, fun _ _ h => h⟩
/-- the roots behind such a call -/
def newR (t' : T) (cs : List Nat) : List E := .rt 0 .row t' :: cs.map fun id => .rt id .row .j
theorem newR_mem {t' : T} {cs : List Nat} {id : Nat} {m : M} {t : T} : rts (newR t' cs) id m t ↔ (id = 0 ∧ m = .row ∧ t = t') ∨ (id ∈ cs ∧ m = .row ∧ t = .j) := by
 simp only [rts, newR, List.mem_cons, List.mem_map, E.rt.injEq]
 constructor
 ·rintro (⟨a, b, c⟩ | ⟨i, h, a, b, c⟩)
  ·exact .inl ⟨a, b, c⟩
  ·exact .inr ⟨a ▸ h, b.symm, c.symm⟩
 ·rintro (⟨a, b, c⟩ | ⟨h, b, c⟩)
  ·exact .inl ⟨a, b, c⟩
  ·exact .inr ⟨id, h, rfl, b.symm, c.symm⟩
theorem row_new {ρ0 : List E} {w w' : World} {H : Nat → Value} {G : Nat → FP} {t' : T} {F' : FP} {v' : Value} {S : FP} (cs : List Nat) (hr : Rp ρ0 (fun _ => undef) H G w) (hcs : ∀ id ∈ cs, base ≤ id ∧ ∃ m t, m ≠ .ro ∧ rts ρ0 id m t)
  (hC : Chg S w w') (hS : ∀ a o, S a o → ∃ id m t, rts ρ0 id m t ∧ m ≠ .ro ∧ G id a o) (hO : Own w' t' F' v') (hs : t'.isS = true) (hF : ∀ a o, F' a o → (∃ id m t, rts ρ0 id m t ∧ m ≠ .ro ∧ G id a o) ∨ w.heap.size ≤ a) :
  ∃ x L H' G' val, RetW (.h 0 []) [(0, .row, t')] (cs.map fun id => (id, T.j)) x L ∧ Rp L val H' G' w' ∧ VR (rts L) H' w' x v' ∧
   Chg (fun a o => ∃ id m t, rts ρ0 id m t ∧ m ≠ .ro ∧ G id a o) w w' ∧
   (∀ id m t, rts L id m t → m ≠ .ro → ∀ a o, G' id a o → (∃ id m t, rts ρ0 id m t ∧ m ≠ .ro ∧ G id a o) ∨ w.heap.size ≤ a) ∧
   ∀ id m t, base ≤ id → rts L id m t → H' id = H id := by
 obtain ⟨n, len, f, rfl⟩ := T.isS_eq hs
 have hb0 : ∀ id ∈ cs, id ≠ 0 := fun id h e => by have := (hcs id h).1; rw [e, base] at this; omega
 have h0 : rts (newR (.s n len f) cs) 0 .row (.s n len f) := newR_mem.2 (.inl ⟨rfl, rfl, rfl⟩)
 refine ⟨.h 0 [], newR (.s n len f) cs, updN H 0 v', fun id => if id = 0 then F' else fun _ _ => False, fun _ => undef, ⟨fun n => n, rfl, fun _ _ => rfl, by simp, ?_, ?_⟩, ?_, ?_, hC.mono fun a o _ h => hS a o h, ?_, ?_⟩
 ·intro r hr'
  cases List.mem_singleton.1 hr'
  exact ⟨by simp, h0, by simp [base]⟩
 ·intro p hp
  obtain ⟨id, h, rfl⟩ := List.mem_map.1 hp
  exact newR_mem.2 (.inr ⟨h, rfl, rfl⟩)
 ·refine ⟨fun id m t m' t' h h' => ?_, fun id m t h _ => ?_, fun id t h => ?_, fun id t h => ?_, fun id t h => ?_, fun id m t id' m' t' h h' hne _ x y hx hy => ?_, fun t x h => ?_, fun id c x h => ?_⟩
  ·rcases newR_mem.1 h with ⟨a1, a2, a3⟩ | ⟨a1, a2, a3⟩ <;> rcases newR_mem.1 h' with ⟨b1, b2, b3⟩ | ⟨b1, b2, b3⟩
   ·exact ⟨a2.trans b2.symm, a3.trans b3.symm⟩
   ·exact absurd a1 (hb0 id b1)
   ·exact absurd b1 (hb0 id a1)
   ·exact ⟨a2.trans b2.symm, a3.trans b3.symm⟩
  ·rcases newR_mem.1 h with ⟨rfl, rfl, rfl⟩ | ⟨a1, rfl, rfl⟩
   ·simpa [updN] using hO
   ·have hne := hb0 id a1
    obtain ⟨_, m, t, g1, g2⟩ := hcs id a1
    simp only [updN, if_neg hne]
    exact own_one (hr.own id m t g2 g1)
  ·rcases newR_mem.1 h with ⟨_, h, _⟩ | ⟨_, h, _⟩ <;> cases h
  ·rcases newR_mem.1 h with ⟨_, h, _⟩ | ⟨_, h, _⟩ <;> cases h
  ·rcases newR_mem.1 h with ⟨_, h, _⟩ | ⟨_, h, _⟩ <;> cases h
  ·rcases newR_mem.1 h with ⟨rfl, _, _⟩ | ⟨a1, _, _⟩
   ·rw [if_neg (Ne.symm hne)] at hy; exact hy
   ·rw [if_neg (hb0 id a1)] at hx; exact hx
  ·simp [newR] at h
  ·simp [newR] at h
 ·exact ⟨.row, _, h0, trivial, ⟨n, len, f, rfl⟩, by simp [hd, updN]⟩
 ·intro id m t h _ a o hg
  rcases newR_mem.1 h with ⟨rfl, _, _⟩ | ⟨a1, _, _⟩
  ·rw [if_pos rfl] at hg; exact hF a o hg
  ·rw [if_neg (hb0 id a1)] at hg; exact hg.elim
 ·intro id m t hb h
  have : id ≠ 0 := by rw [base] at hb; omega
  simp [updN, this]
theorem own_ints {w : World} {b off cap sz : Nat} {l : List Int} (hc : l.length ≤ cap) (hm : cap ≤ maxLen) (hk : Kd w b sz) (hsz : off + cap ≤ sz) (hcell : ∀ k, k < l.length → w.cell? ⟨b, off + k, none⟩ = some (iv (l.getD k 0))) : Own w (tr l) (fun x _ => 0 < cap ∧ x = b) (.slice (some ⟨b, off, none⟩) l.length cap) := by
 refine ⟨by decide, _, cap, rfl, hc, hm, b, off, fun k _ => iv (l.getD k 0), fun _ _ _ _ => False, fun _ => ⟨rfl, sz, hk, ?_⟩, ?_, ?_, ?_, ?_⟩
 ·have : cap * En.n Int = cap := Nat.mul_one cap
  omega
 ·intro k c hk' hc'
  have hc' : c < 1 := hc'
  obtain rfl : c = 0 := by omega
  rw [show k * En.n Int + 0 = k from Nat.mul_one k]
  exact ⟨hcell k hk', rfl, rfl, fun _ _ h => h⟩
 ·intros; assumption
 ·intro _ _ _ _ _ _ h; exact h.elim
 ·intro x y
  constructor
  ·exact fun h => .inl h
  ·rintro (h | ⟨_, _, _, _, h⟩)
   ·exact h
   ·exact h.elim
theorem ints_own {w : World} {l : List Int} {F : FP} {h : Value} (hO : Own w (tr l) F h) : ∃ a cap b off, h = .slice a l.length cap ∧ l.length ≤ cap ∧ cap ≤ maxLen ∧ (0 < cap → a = some ⟨b, off, none⟩ ∧ ∃ sz, Kd w b sz ∧ off + cap ≤ sz) ∧ (∀ k, k < l.length → w.cell? ⟨b, off + k, none⟩ = some (iv (l.getD k 0))) ∧ ∀ x y, F x y ↔ 0 < cap ∧ x = b := by
 obtain ⟨hn, a, cap, e0, hl, hm, b, off, V, Gk, h1, h2, h3, h4, h5⟩ := hO
 have hcell : ∀ k, k < l.length → w.cell? ⟨b, off + k, none⟩ = some (iv (l.getD k 0)) ∧ ∀ x y, ¬ Gk k 0 x y := fun k hk => by
  obtain ⟨g1, g2⟩ := h2 k 0 hk (by decide)
  rw [show k * En.n Int + 0 = k from Nat.mul_one k] at g1
  obtain ⟨g3, _, g4⟩ := g2
  rw [g1, g3]
  exact ⟨rfl, g4⟩
 refine ⟨a, cap, b, off, e0, hl, hm, fun hc => ?_, fun k hk => (hcell k hk).1, fun x y => ?_⟩
 ·obtain ⟨e1, sz, e2, e3⟩ := h1 hc
  have : cap * En.n Int = cap := Nat.mul_one cap
  exact ⟨e1, sz, e2, by omega⟩
 ·rw [h5]
  constructor
  ·rintro (h | ⟨k, c, hk, hc, hg⟩)
   ·exact h
   ·have hc' : c < 1 := hc
    obtain rfl : c = 0 := by omega
    exact ((hcell k hk).2 x y hg).elim
  ·exact fun h => .inl h
theorem Kd.frozen' {w : World} {b sz : Nat} (h : Kd w b sz) (o : Nat) : w.frozen? ⟨b, o, none⟩ = false := by
 obtain ⟨cur, e, g1, _⟩ := h
 simp [World.frozen?, g1]
theorem con_del {P : Program} {f : FuncId}
  (hs : ∀ (blk off cap i j : Nat) (zs : List Int) (w : World), Holds (Value.int .i64) w blk off zs.toArray → zs.length ≤ cap → cap ≤ 9223372036854775807 → i ≤ j → j ≤ zs.length →
   Calls P f #[.slice (some ⟨blk, off, none⟩) zs.length cap, .int .i64 i, .int .i64 j] w fun e w' => e = .returned (.slice (some ⟨blk, off, none⟩) (zs.length - (j - i)) cap) ∧ ∃ q, w' = putRow (Value.int .i64) (Sort.ahead w q) blk off (zs.take i ++ zs.drop j ++ List.replicate (j - i) 0).toArray)
  (l : List Int) (i j : Nat) (hij : i < j) (hj : j ≤ l.length) : Con P f [.h base [], .v (iv i), .v (iv j)] [.rt base .row (tr l)] (RetW (.h 0 []) [(0, .row, tr (l.take i ++ l.drop j))] [(base, .j)]) := by
 intro w vs H G _ _ hr hv
 match vs, hv with
 | [v, v1, v2], ⟨⟨m, t, _, _, _, hh⟩, hv1, hv2, _⟩ =>
 simp only [hd, Option.some.injEq] at hh
 obtain rfl : v1 = iv i := hv1
 obtain rfl : v2 = iv j := hv2
 have hb : rts [.rt base .row (tr l)] base .row (tr l) := List.mem_singleton.2 rfl
 obtain ⟨a, cap, b, off, e0, hl, hm, h1, h2, h3⟩ := ints_own (hr.own base .row (tr l) hb (by simp))
 obtain ⟨rfl, sz, hK, hsz⟩ := h1 (by omega)
 have hv : v = .slice (some ⟨b, off, none⟩) l.length cap := by rw [← hh, e0]
 subst hv
 refine (hs b off cap i j l w (fun k hk => ⟨?_, hK.frozen' _⟩) hl hm (by omega) hj).mono ?_
 ·have hk' : k < l.length := by simpa using hk
  rw [h2 k hk']
  simp [List.getD_eq_getElem?_getD, hk']
 rintro e w' ⟨rfl, q, rfl⟩
 let d := l.take i ++ l.drop j ++ List.replicate (j - i) 0
 have hd : d.length = l.length := by simp [d]; omega
 have hds : d.toArray.size = l.length := by simpa using hd
 have e1 : ∀ W : World, grow W #[] = W := grow_empty
 have hC := rowPut_chg (w := w) (b := b) (off := off) (n := q) (d := d.toArray) (os := #[])
 rw [e1] at hC
 have hlen : (l.take i ++ l.drop j).length = l.length - (j - i) := by simp; omega
 have hO : Own (putRow (Value.int .i64) (Sort.ahead w q) b off d.toArray) (tr (l.take i ++ l.drop j)) (fun x _ => 0 < cap ∧ x = b) (.slice (some ⟨b, off, none⟩) (l.take i ++ l.drop j).length cap) :=
  own_ints (by omega) hm (hK.chg hC) hsz fun k hk => by
   have hk2 : k < l.length := by omega
   have := rowPut_cell (n := q) (d := d.toArray) (os := #[]) (h2 k hk2) (by omega)
   rw [e1] at this
   rw [this]
   have hg : d.toArray[k]! = (l.take i ++ l.drop j).getD k 0 := by
    simp only [d, List.getElem!_toArray, List.getD_eq_getElem?_getD]
    rw [List.getElem!_eq_getElem?_getD, List.getElem?_append_left hk]
    rfl
   rw [hg]
 rw [hlen] at hO
 have hS : ∀ a o, rowFP b off d.toArray.size a o → ∃ id m t, rts [E.rt base .row (tr l)] id m t ∧ m ≠ .ro ∧ G id a o := fun a o h => ⟨base, .row, tr l, hb, by simp, (h3 a o).2 ⟨by omega, h.1⟩⟩
 obtain ⟨x, L, H', G', val, r⟩ := row_new [base] hr (fun id h => by cases List.mem_singleton.1 h; exact ⟨Nat.le_refl _, .row, _, by simp, hb⟩) hC hS hO rfl (fun a o h => .inl ⟨base, .row, tr l, hb, by simp, (h3 a o).2 h⟩)
 exact ⟨_, x, L, H', G', val, rfl, r⟩
end Go.Proofs.Ytfbefcmeghpalaa.VM
namespace Go.Proofs.Ytfbefcmeghpalaa.VM
open Go Go.RowKit Go.Sort Go.Shelf Go.Proofs
/-! a number put into a row of numbers (slices.Insert) -/
def insI (l : List Int) (i : Nat) (x : Int) : List Int := l.take i ++ ([x] ++ l.drop i)
theorem insI_len {l : List Int} {i : Nat} {x : Int} (h : i ≤ l.length) : (insI l i x).length = l.length + 1 := by simp [insI]; omega
theorem insI_get {l : List Int} {i : Nat} {x : Int} (h : i ≤ l.length) (k : Nat) : (insI l i x).getD k 0 = if k < i then l.getD k 0 else if k = i then x else l.getD (k - 1) 0 := by
 simp only [insI, List.getD_eq_getElem?_getD]
 by_cases h1 : k < i
 ·rw [if_pos h1, List.getElem?_append_left (by simp; omega), List.getElem?_take_of_lt h1]
 ·rw [if_neg h1, List.getElem?_append_right (by simp; omega)]
  have hm : (l.take i).length = i := by simp; omega
  rw [hm]
  by_cases h2 : k = i
  ·rw [if_pos h2, h2]; simp
  ·rw [if_neg h2, List.getElem?_append_right (by simp; omega), List.getElem?_drop]
   simp only [List.length_cons, List.length_nil]
   rw [show i + (k - i - (0 + 1)) = k - 1 by omega]
theorem set_out {w : World} {b o k : Nat} {vs : List Value} (h : k < o ∨ o + vs.length ≤ k) : (w.setCells b o vs).cell? ⟨b, k, none⟩ = w.cell? ⟨b, k, none⟩ := World.cell?_setCells_out b vs o w ⟨b, k, none⟩ fun _ _ => h
theorem set_in {w : World} {b o k : Nat} {vs : List Value} (hs : ∀ j, j < vs.length → (w.cell? ⟨b, o + j, none⟩).isSome = true) (h1 : o ≤ k) (h2 : k < o + vs.length) : (w.setCells b o vs).cell? ⟨b, k, none⟩ = vs[k - o]? := by
 have := World.cell?_setCells_in b vs o w hs (k - o) (by omega)
 rw [show o + (k - o) = k by omega] at this
 rw [this, List.getElem?_eq_getElem (by omega)]
theorem map_drop_get {l : List Int} {i j : Nat} (h : i + j < l.length) : ((l.map iv).drop i)[j]? = some (iv (l.getD (i + j) 0)) := by
 rw [List.getElem?_drop, List.getElem?_map]
 simp [List.getD_eq_getElem?_getD, h]
theorem Kd.shape {w : World} {b sz : Nat} (h : Kd w b sz) : ∃ e, w.shape? b = some (e, sz) := by
 obtain ⟨cur, e, g1, g2⟩ := h
 exact ⟨e, by simp [World.shape?, g1, g2]⟩
set_option maxHeartbeats 4000000 in
theorem con_ins {P : Program} {ρ : Ren} (L : Lays2.n21 P ρ) (l : List Int) (i : Nat) (x : Int) (hi : i ≤ l.length) (hlen : l.length ≤ 1000000) :
  Con P (ρ.f 21) [.h base [], .v (iv i), .h (base + 1) []] [.rt base .row (tr l), .rt (base + 1) .row (tr [x])] (RetW (.h 0 []) [(0, .row, tr (insI l i x))] [(base, .j), (base + 1, .j)]) := by
 intro w vs H G _ _ hr hv
 match vs, hv with
 | [v, v1, v2], ⟨⟨m, t, _, _, _, hh⟩, hv1, ⟨m2, t2, _, _, _, hh2⟩, _⟩ =>
 simp only [hd, Option.some.injEq] at hh hh2
 obtain rfl : v1 = iv i := hv1
 have hb : rts [.rt base .row (tr l), .rt (base + 1) .row (tr [x])] base .row (tr l) := List.mem_cons_self ..
 have hb2 : rts [.rt base .row (tr l), .rt (base + 1) .row (tr [x])] (base + 1) .row (tr [x]) := List.mem_cons_of_mem _ (List.mem_cons_self ..)
 obtain ⟨a, cap, b, off, e0, hl, hm, h1, h2, h3⟩ := ints_own (hr.own base .row (tr l) hb (by simp))
 obtain ⟨a', cap2, vb, voff, e02, hl2, hm2, h12, h22, h32⟩ := ints_own (hr.own (base + 1) .row (tr [x]) hb2 (by simp))
 have hl2' : 1 ≤ cap2 := hl2
 obtain ⟨rfl, sz2, hK2, hsz2⟩ := h12 (by omega)
 have hv : v = .slice a l.length cap := by rw [← hh, e0]
 have hv2 : v2 = .slice (some ⟨vb, voff, none⟩) 1 cap2 := by rw [← hh2, e02]; rfl
 subst hv hv2
 have hvs : ∀ j v, [iv x][j]? = some v → w.cell? ⟨vb, voff + j, none⟩ = some v := fun j v hj => by
  have hj0 : j < 1 := (List.getElem?_eq_some_iff.1 hj).1
  obtain rfl : j = 0 := by omega
  have := h22 0 (by simp)
  rw [this]
  simpa using hj
 have h1v : ∀ v ∈ [iv x], v.oneCell' = true := fun v hv => by cases List.mem_singleton.1 hv; rfl
 have h1c : ∀ v ∈ l.map iv, v.oneCell' = true := fun v hv => by obtain ⟨_, _, rfl⟩ := List.mem_map.1 hv; rfl
 have hcs : ∀ j v, (l.map iv)[j]? = some v → w.cell? ⟨b, off + j, none⟩ = some v := fun j v hj => by
  have hj' : j < l.length := by simpa using (List.getElem?_eq_some_iff.1 hj).1
  rw [h2 j hj', ← hj, List.getElem?_map]
  simp [List.getD_eq_getElem?_getD, hj']
 have hown : ∀ x y, 0 < cap ∧ x = b → ∃ id m t, rts [.rt base .row (tr l), .rt (base + 1) .row (tr [‹Int›])] id m t ∧ m ≠ .ro ∧ G id x y := fun x y h => ⟨base, .row, tr l, hb, by simp, (h3 x y).2 h⟩
 have hcons : ∀ id ∈ [base, base + 1], base ≤ id ∧ ∃ m t, m ≠ .ro ∧ rts [.rt base .row (tr l), .rt (base + 1) .row (tr [x])] id m t := fun id h => by
  rcases List.mem_cons.1 h with rfl | h
  ·exact ⟨Nat.le_refl _, .row, _, by simp, hb⟩
  ·cases List.mem_singleton.1 h
   exact ⟨by omega, .row, _, by simp, hb2⟩
 have fin : ∀ {w' : World} {F' : FP} {v' : Value} {S : FP}, Chg S w w' → (∀ x y, S x y → 0 < cap ∧ x = b) → Own w' (tr (insI l i x)) F' v' → (∀ x y, F' x y → (0 < cap ∧ x = b) ∨ w.heap.size ≤ x) →
   ∃ v x L H' G' val, Ending.returned v' = .returned v ∧ RetW (.h 0 []) [(0, .row, tr (insI l i ‹Int›))] [(base, .j), (base + 1, .j)] x L ∧ Rp L val H' G' w' ∧ VR (rts L) H' w' x v ∧
   Chg (fun a o => ∃ id m t, rts [.rt base .row (tr l), .rt (base + 1) .row (tr [‹Int›])] id m t ∧ m ≠ .ro ∧ G id a o) w w' ∧
   (∀ id m t, rts L id m t → m ≠ .ro → ∀ a o, G' id a o → (∃ id m t, rts [.rt base .row (tr l), .rt (base + 1) .row (tr [‹Int›])] id m t ∧ m ≠ .ro ∧ G id a o) ∨ w.heap.size ≤ a) ∧
   ∀ id m t, base ≤ id → rts L id m t → H' id = H id := fun hC hS hO hF => by
  obtain ⟨x, L, H', G', val, r⟩ := row_new [base, base + 1] hr hcons hC (fun a o h => hown a o (hS a o h)) hO rfl (fun a o h => (hF a o h).imp_left fun h => hown a o h)
  exact ⟨_, x, L, H', G', val, rfl, r⟩
 have hil := insI_len (x := x) hi
 have hnew : ∀ (Wd : World), Chg (fun _ _ => False) w Wd → Wd.heap.size = w.heap.size → True := fun _ _ _ => trivial
 rcases Nat.lt_or_ge i l.length with hlt | hge
 ·have hc0 : 0 < cap := by omega
  obtain ⟨rfl, sz, hK, hsz⟩ := h1 hc0
  have hne : vb ≠ b := fun e => hr.dis (base + 1) .row _ base .row _ hb2 hb (by omega) (by simp) b 0 ((h32 b 0).2 ⟨by omega, e.symm⟩) ((h3 b 0).2 ⟨hc0, rfl⟩)
  rcases Nat.lt_or_ge cap (l.length + 1) with hfull | hroom
  ·-- a new row
   refine (Any2.slices_Insert_int_grow L b off l.length cap i vb voff 1 cap2 (l.map iv) [iv x] w hlt (by omega) hl hfull (by omega) (by simp) rfl hcs hvs h1c h1v).mono ?_
   rintro e w' ⟨rfl, rfl⟩
   obtain ⟨g, hg⟩ : ∃ g, g = grownCap w (l.length + 1) cap (ρ.t 3) := ⟨_, rfl⟩
   have hgn : l.length + 1 ≤ g := hg ▸ grownCap_ge w _ _ _
   have hgm : g ≤ maxLen := hg ▸ grownCap_le_maxLen w (l.length + 1) cap (ρ.t 3) (by simp only [maxLen]; omega)
   rw [← hg]
   obtain ⟨R, hR⟩ : ∃ R : Array Value, R = ((l.map iv).take i).toArray ++ Builtin.zeroCells (Value.int .i64 0).cells (l.length + 1 - i) ++ Builtin.zeroCells (Value.int .i64 0).cells (g - (l.length + 1)) := ⟨_, rfl⟩
   have hRs : R.size = g := by rw [hR]; simp [Builtin.zeroCells, Value.cells]; omega
   rw [← hR]
   let W1 := (w.alloc (.cells R (ρ.t 3))).drew
   have hK1 : Kd W1 w.heap.size g := ⟨R, ρ.t 3, Array.getElem?_push_size, hRs⟩
   let W2 := (W1.setCells w.heap.size i [iv x]).drew
   have hC1 : Chg (fun _ _ => False) w W1 := (Chg.alloc _ w _).trans (Chg.drew _)
   have hC2 : Chg (blkFP w.heap.size) W1 W2 := (Chg.setCells fun _ _ => rfl).trans (Chg.drew _)
   have hC3 : Chg (blkFP w.heap.size) W2 (W2.setCells w.heap.size (i + 1) ((l.map iv).drop i)) := Chg.setCells fun _ _ => rfl
   have hCC : Chg (fun _ _ => False) w (W2.setCells w.heap.size (i + 1) ((l.map iv).drop i)) :=
    Chg.step hC1 (hC2.trans hC3) fun a o ha (h : a = w.heap.size) => absurd ha (by omega)
   have hK3 := (hK1.chg hC2).chg hC3
   have hdl : ((l.map iv).drop i).length = l.length - i := by simp
   have hO := own_ints (l := insI l i x) (off := 0) (cap := g) (by omega) hgm hK3 (by omega) fun k hk => by
    rw [insI_get hi, Nat.zero_add]
    have hs2 : ∀ j, j < ((l.map iv).drop i).length → (W2.cell? ⟨w.heap.size, i + 1 + j, none⟩).isSome = true := fun j hj => (hK1.chg hC2).cell (by omega)
    by_cases q1 : k < i
    ·rw [if_pos q1, set_out (.inl (by omega))]
     show (W1.setCells w.heap.size i [iv x]).cell? _ = _
     rw [set_out (.inl q1)]
     show (w.alloc (.cells R (ρ.t 3))).cell? _ = _
     rw [World.cell?_alloc_at R (ρ.t 3) w.heap.size k rfl, hR, Array.getElem?_append_left (by simp [Builtin.zeroCells, Value.cells]; omega), Array.getElem?_append_left (by simp; omega)]
     have : k < l.length := by omega
     simp [List.getElem?_take_of_lt q1, List.getD_eq_getElem?_getD, this]
    ·rw [if_neg q1]
     by_cases q2 : k = i
     ·subst q2
      rw [if_pos rfl, set_out (.inl (by omega))]
      show (W1.setCells w.heap.size k [iv x]).cell? _ = _
      rw [set_in (fun j hj => hK1.cell (by simp at hj; omega)) (Nat.le_refl _) (by simp)]
      simp
     ·rw [if_neg q2, set_in hs2 (by omega) (by omega), show k - (i + 1) = k - 1 - i by omega, map_drop_get (by omega), show i + (k - 1 - i) = k - 1 by omega]
   rw [hil] at hO
   exact fin hCC (fun _ _ h => h.elim) hO (fun a o h => .inr (by omega))
  ·-- in place
   obtain ⟨tA, hA⟩ := hK2.shape
   obtain ⟨tB, hB⟩ := hK.shape
   refine (Any2.slices_Insert_int_shift L b off l.length cap i vb voff 1 cap2 (l.map iv) [iv x] w hlt (by omega) hroom hm hne (by simp) rfl hcs (fun j hj => hK.cell (by omega)) (fun j _ => hK.frozen' _) hvs h1c h1v tA tB sz2 sz hA hB (by omega) (hK2.frozen' _) (hK2.frozen' _)).mono ?_
   rintro e w' ⟨rfl, rfl⟩
   let W1 := w.drew.setCells b (off + (i + 1)) ((l.map iv).drop i)
   have hC1 : Chg (blkFP b) w W1 := (Chg.drew _).trans (Chg.setCells fun _ _ => rfl)
   have hC2 : Chg (blkFP b) W1 (W1.setCells b (off + i) [iv x]) := Chg.setCells fun _ _ => rfl
   have hdl : ((l.map iv).drop i).length = l.length - i := by simp
   have hO := own_ints (l := insI l i x) (off := off) (cap := cap) (by omega) hm ((hK.chg hC1).chg hC2) hsz fun k hk => by
    rw [insI_get hi]
    by_cases q1 : k < i
    ·rw [if_pos q1, set_out (.inl (by omega)), set_out (.inl (by omega))]
     exact h2 k (by omega)
    ·rw [if_neg q1]
     by_cases q2 : k = i
     ·subst q2
      rw [if_pos rfl, set_in (fun j hj => (hK.chg hC1).cell (by simp at hj; omega)) (Nat.le_refl _) (by simp)]
      simp
     ·rw [if_neg q2, set_out (.inr (by simp; omega)), set_in (fun j hj => (hK.chg (Chg.drew (S := blkFP b) w)).cell (by omega)) (by omega) (by omega), show off + k - (off + (i + 1)) = k - 1 - i by omega, map_drop_get (by omega), show i + (k - 1 - i) = k - 1 by omega]
   rw [hil] at hO
   exact fin (hC1.trans hC2) (fun _ _ h => ⟨hc0, h⟩) hO (fun a o h => .inl h)
 ·obtain rfl : i = l.length := by omega
  rcases Nat.lt_or_ge cap (l.length + 1) with hfull | hroom
  ·refine (Any2.slices_Insert_int_end_grow L a l.length cap vb voff 1 cap2 (l.map iv) [iv x] w (by omega) hl hfull (by omega) (by simp) rfl (fun ha => ?_) (fun ad ha j v hj => ?_) hvs h1v).mono ?_
   ·rcases Nat.eq_zero_or_pos cap with h0 | h0
    ·omega
    ·rw [(h1 h0).1] at ha; cases ha
   ·have hj' : j < l.length := by simpa using (List.getElem?_eq_some_iff.1 hj).1
    have := (h1 (by omega)).1
    rw [this] at ha
    cases ha
    rw [Addr.add_lit]
    exact hcs j v hj
   rintro e w' ⟨rfl, rfl⟩
   obtain ⟨g, hg⟩ : ∃ g, g = grownCap w (l.length + 1) cap (ρ.t 3) := ⟨_, rfl⟩
   have hgn : l.length + 1 ≤ g := hg ▸ grownCap_ge w _ _ _
   have hgm : g ≤ maxLen := hg ▸ grownCap_le_maxLen w (l.length + 1) cap (ρ.t 3) (by simp only [maxLen]; omega)
   rw [← hg]
   obtain ⟨R, hR⟩ : ∃ R : Array Value, R = (l.map iv ++ [iv x]).toArray ++ Builtin.zeroCells (Value.int .i64 0).cells (g - (l.length + 1)) := ⟨_, rfl⟩
   have hRs : R.size = g := by rw [hR]; simp [Builtin.zeroCells, Value.cells]; omega
   rw [← hR]
   have hC1 : Chg (fun _ _ => False) w (w.drew.alloc (.cells R (ρ.t 3))) := (Chg.drew _).trans (Chg.alloc _ _ _)
   have hK1 : Kd (w.drew.alloc (.cells R (ρ.t 3))) w.heap.size g := ⟨R, ρ.t 3, Array.getElem?_push_size, hRs⟩
   have hO := own_ints (l := insI l l.length x) (off := 0) (cap := g) (by omega) hgm hK1 (by omega) fun k hk => by
    rw [insI_get hi, Nat.zero_add, World.cell?_alloc_at (w := w.drew) R (ρ.t 3) w.heap.size k rfl, hR, Array.getElem?_append_left (by simp; omega), List.getElem?_toArray]
    by_cases q1 : k < l.length
    ·rw [if_pos q1, List.getElem?_append_left (by simpa using q1)]
     simp [List.getD_eq_getElem?_getD, q1]
    ·obtain rfl : k = l.length := by omega
     rw [if_neg q1, if_pos rfl, List.getElem?_append_right (by simp)]
     simp
   rw [hil] at hO
   exact fin hC1 (fun _ _ h => h.elim) hO (fun a o h => .inr (by omega))
  ·have hc0 : 0 < cap := by omega
   obtain ⟨rfl, sz, hK, hsz⟩ := h1 hc0
   refine (Any2.slices_Insert_int_end_room L b off l.length cap vb voff 1 cap2 [iv x] w (by omega) hroom hm rfl (fun j hj => hK.cell (by omega)) (fun j _ => hK.frozen' _) hvs h1v).mono ?_
   rintro e w' ⟨rfl, rfl⟩
   have hC : Chg (blkFP b) w (w.setCells b (off + l.length) [iv x]) := Chg.setCells fun _ _ => rfl
   have hO := own_ints (l := insI l l.length x) (off := off) (cap := cap) (by omega) hm (hK.chg hC) hsz fun k hk => by
    rw [insI_get hi]
    by_cases q1 : k < l.length
    ·rw [if_pos q1, set_out (.inl (by omega))]
     exact h2 k q1
    ·obtain rfl : k = l.length := by omega
     rw [if_neg q1, if_pos rfl, set_in (fun j hj => hK.cell (by simp at hj; omega)) (Nat.le_refl _) (by simp)]
     simp
   rw [hil] at hO
   exact fin hC (fun _ _ h => ⟨hc0, h⟩) hO (fun a o h => .inl h)
end Go.Proofs.Ytfbefcmeghpalaa.VM
namespace Go.Proofs.Ytfbefcmeghpalaa.VM
open Go Go.RowKit Go.Sort Go.Shelf Go.Proofs
/-! slices.BinarySearch at numbers -/
theorem Chg.drewN {S : FP} (w : World) (q : Nat) : Chg S w (w.drewN q) := ⟨rfl, rfl, rfl, Nat.le_refl _, fun _ cur _ _ h => ⟨cur, h, rfl, fun _ _ => rfl⟩, fun _ _ h _ => h⟩
theorem con_search {P : Program} {f : FuncId}
    (hs : ∀ (b off n c : Nat) (zs : List Int) (x : Int) (w : World), n ≤ zs.length → n < 4611686018427387904 → (∀ j, j < zs.length → w.cell? ⟨b, off + j, none⟩ = some (.int .i64 (zs.getD j 0))) → (zs.take n).Pairwise (· ≤ ·) →
      Calls P f #[.slice (some ⟨b, off, none⟩) n c, .int .i64 x] w fun e w' => e = .returned (.tuple #[.int .i64 ((zs.take n).countP (· < x) : Nat), .bool ((zs.take n).contains x)]) ∧ ∃ q, w' = w.drewN q)
    (h0 : ∀ (a : Option Addr) (c : Nat) (x : Int) (w : World), Calls P f #[.slice a 0 c, .int .i64 x] w fun e w' => e = .returned (.tuple #[.int .i64 0, .bool false]) ∧ ∃ q, w' = w.drewN q)
    (l : List Int) (x : Int) (hl : l.Pairwise (· ≤ ·)) (hlen : l.length < 4611686018427387904) :
    Con P f [.h base [], .v (iv x)] [.rt base .ro (tr l)] (Ret (.t [.v (iv (l.countP (· < x) : Nat)), .v (.bool (l.contains x))]) []) := by
  intro w vs H G _ _ hr hv
  match vs, hv with
  | [v, s], ⟨⟨m, t, _, _, _, hh⟩, hs2, _⟩ =>
  simp only [hd, Option.some.injEq] at hh
  obtain rfl : s = iv x := hs2
  have hR := hr.ro base (tr l) (List.mem_singleton.2 rfl)
  obtain ⟨hn, a, cap, e0, hlc, hm, b, off, V, Gk, h1, h2⟩ := hR
  have hv : v = .slice a l.length cap := by rw [← hh, e0]
  subst hv
  have fin : ∀ (e : Ending) (w' : World), e = .returned (.tuple #[iv (l.countP (· < x) : Nat), .bool (l.contains x)]) → (∃ q, w' = w.drewN q) → ∃ v x1 L H' G' val, e = .returned v ∧ Ret (.t [.v (iv (l.countP (· < x) : Nat)), .v (.bool (l.contains x))]) [] x1 L ∧ Rp L val H' G' w' ∧ VR (rts L) H' w' x1 v ∧
      Chg (fun a o => ∃ id m t, rts [E.rt base .ro (tr l)] id m t ∧ m ≠ .ro ∧ G id a o) w w' ∧
      (∀ id m t, rts L id m t → m ≠ .ro → ∀ a o, G' id a o → (∃ id m t, rts [E.rt base .ro (tr l)] id m t ∧ m ≠ .ro ∧ G id a o) ∨ w.heap.size ≤ a) ∧
      ∀ id m t, base ≤ id → rts L id m t → H' id = H id := fun e w' he ⟨q, hq⟩ => by
    subst hq
    refine ⟨_, .t [.v (iv (l.countP (· < x) : Nat)), .v (.bool (l.contains x))], [], H, G, fun _ => undef, he, ⟨id, rfl, by simp, by simp⟩, ?_, ⟨_, rfl, rfl, rfl, trivial⟩, Chg.drewN _ _, ?_, ?_⟩
    · have no : ∀ {α : Prop} {e : E}, e ∈ ([] : List E) → α := fun h => by cases h
      exact ⟨fun _ _ _ _ _ h => no h, fun _ _ _ h => no h, fun _ _ h => no h, fun _ _ h => no h, fun _ _ h => no h, fun _ _ _ _ _ _ h => no h, fun _ _ h => no h, fun _ _ _ h => no h⟩
    · intro _ _ _ h; cases h
    · intro _ _ _ _ h; cases h
  rcases Nat.eq_zero_or_pos l.length with hz | hp
  · have hl0 : l = [] := List.eq_nil_of_length_eq_zero hz
    subst hl0
    exact (h0 a cap x w).mono fun e w' ⟨he, hw⟩ => fin e w' (he.trans rfl) hw
  · obtain rfl := h1 hp
    have hcell : ∀ j, j < l.length → w.cell? ⟨b, off + j, none⟩ = some (.int .i64 (l.getD j 0)) := fun j hj => by
      obtain ⟨g1, g2, _⟩ := h2 j 0 hj (by decide)
      rw [show j * En.n Int + 0 = j from Nat.mul_one j] at g1
      have g3 : V j 0 = iv (l.getD j En.dflt) := g2.1
      rw [g1, g3]
      rfl
    have := hs b off l.length cap l x w (Nat.le_refl _) hlen hcell (by rw [List.take_length]; exact hl)
    rw [List.take_length] at this
    exact this.mono fun e w' ⟨he, hw⟩ => fin e w' he hw
end Go.Proofs.Ytfbefcmeghpalaa.VM
namespace Go.Proofs.Ytfbefcmeghpalaa.VM
open Go Go.RowKit
/-! ### draws: a cursor is handed over (a box whose first cell is an alias of a row that is only read); what comes back is one of many -/
/-- what a call gives: one of many -/
def RetD {α : Type} (n : Nat) (C : α → Prop) (X0 : α → X) (L0 : α → List (Nat × M × T)) (Tm : α → Nat → Nat → T) (x : X) (L : List E) : Prop :=
 ∃ m, C m ∧ RetW (X0 m) (L0 m) [] x L ∧ rts L base .box (.s n 1 (Tm m)) ∧ E.al base 0 (.h (base + 1) []) ∈ L
def RetC {α : Type} (al : Bool) (C : α → Prop) (X0 : α → X) (L0 : α → List (Nat × M × T)) (x : X) (L : List E) : Prop :=
 ∃ m, C m ∧ ∃ ρ : Nat → Nat, x = (X0 m).ren ρ ∧ ((L0 m).map fun r => ρ r.1).Nodup ∧ (∀ r ∈ L0 m, r.2.1 ≠ .ro ∧ rts L (ρ r.1) r.2.1 r.2.2 ∧ ρ r.1 < base) ∧ (al = true → E.al (ρ 0) 0 (.h base []) ∈ L)
def onlyV : List X → Bool
 | [] => true
 | .v _ :: r => onlyV r
 | _ => false
def alsB (bx cd : Nat) : List E → Bool
  | [] => true
  | .al i c x :: L => (!Nat.beq i bx || (Nat.beq c 0 && (match x with | .h j [] => Nat.beq j cd | _ => false))) && alsB bx cd L
  | .sl _ _ :: L => alsB bx cd L
  | .rt _ _ _ :: L => alsB bx cd L
theorem alsB_mem {bx cd : Nat} : ∀ {L : List E}, alsB bx cd L = true → ∀ {c : Nat} {x : X}, E.al bx c x ∈ L → c = 0 ∧ x = .h cd []
 | .al i c' x' :: L, h, c, x, hm => by
  simp only [alsB, Bool.and_eq_true, Bool.or_eq_true] at h
  obtain ⟨h1, h2⟩ := h
  rcases List.mem_cons.1 hm with e | hm
  ·cases e
   rcases h1 with h1 | ⟨h1, h3⟩
   ·rw [Nat.beq_refl] at h1; cases h1
   ·refine ⟨Nat.eq_of_beq_eq_true h1, ?_⟩
    split at h3
    ·rw [Nat.eq_of_beq_eq_true h3]
    ·cases h3
  ·exact alsB_mem h2 hm
 | .sl _ _ :: L, h, c, x, hm => by
  rcases List.mem_cons.1 hm with e | hm
  ·cases e
  ·exact alsB_mem (L := L) h hm
 | .rt _ _ _ :: L, h, c, x, hm => by
  rcases List.mem_cons.1 hm with e | hm
  ·cases e
  ·exact alsB_mem (L := L) h hm
theorem onlyV_ok {R R' : RT} {H H' : Nat → Value} {w : World} : ∀ {xs : List X} {vs : List Value}, onlyV xs = true → VRs R H w xs vs → VRs R' H' w xs vs
 | [], [], _, _ => trivial
 | .v x :: xs, v :: vs, h, ⟨h1, h2⟩ => ⟨h1, onlyV_ok (xs := xs) h h2⟩
 | _ :: _, [], _, h => h.elim
 | [], _ :: _, _, h => h.elim
 | .j :: _, _ :: _, h, _ => by cases h
 | .c :: _, _ :: _, h, _ => by cases h
 | .p .. :: _, _ :: _, h, _ => by cases h
 | .h .. :: _, _ :: _, h, _ => by cases h
 | .a .. :: _, _ :: _, h, _ => by cases h
 | .g _ :: _, _ :: _, h, _ => by cases h
 | .t _ :: _, _ :: _, h, _ => by cases h
 | .f .. :: _, _ :: _, h, _ => by cases h
section
variable {P : Program} {N : Nat} {L : List E} {dst : Option Tmp} {ty : TypeId} {pos : String} {af : Array Edge} {g : Option (Nat × Bool)} {d : Nat}
theorem StpK.callD {α : Type} {C : α → Prop} {X0 : α → X} {L0 : α → List (Nat × M × T)} {Tm : α → Nat → Nat → T} {f : FuncId} {cal : Operand} {args : Array Operand} {tys : Array TypeId} {bx cd n : Nat} {fb : Nat → Nat → T} {tc : T} {xs : List X}
  (hds : dst = some d) (hN : d < N) (hE : Ent P f) (hcal : evX L cal = .f f [])
  (hargs : args.toList.map (evX L) = .p bx [] n 0 0 :: xs) (hxs : onlyV xs = true) (hb : rootL L bx = some (.box, .s n 1 fb)) (hal : aliasL L bx 0 = .h cd []) (hc : rootL L cd = some (.ro, tc)) (hals : alsB bx cd L = true) (hleaf : ∀ c n' l f', c < n → fb 0 c ≠ .s n' l f')
  (hcon : Con P f (.p base [] n 0 0 :: xs) [.rt base .box (.s n 1 fb), .al base 0 (.h (base + 1) []), .rt (base + 1) .ro tc] (RetD n C X0 L0 Tm))
  (hn : ∀ m, ((L0 m).map (·.1)).Nodup) (hbb : ∀ m, ((L0 m).all fun r => nu d r.1 < base) = true) (hx0 : ∀ m, (X0 m).inB ((L0 m).map (·.1)) = true) :
  StpK P N ⟨dst, .call { callee := .value cal, args := args, argTypes := tys }, ty, pos, af, g⟩ L (fun L1 => ∃ m, C m ∧ L1 = putL (newsL (repR L bx (.s n 1 (Tm m))) (rens d (L0 m))) d ((X0 m).ren (nu d))) := fun cx a w Q hs => by
 obtain ⟨H, G, hr, hG⟩ := hs.rp
 have hcv := ev_ok hr cal
 rw [hcal] at hcv
 obtain ⟨us, hu1, hu2⟩ := hcv
 obtain rfl : us = [] := by cases us with
  | nil => rfl
  | cons _ _ => exact hu2.elim
 unfold Oper.wp
 rw [run_callX hE hu1, List.append_nil]
 have hargsV := evXs_ok hr args.toList
 rw [hargs] at hargsV
 generalize hvs : args.toList.map a.eval = vs at hargsV
 cases vs with
 | nil => exact hargsV.elim
 | cons v0 vs =>
 obtain ⟨hv0, hvs1⟩ := hargsV
 have hb' := rootL_mem hb
 have hc' := rootL_mem hc
 have hne : bx ≠ cd := fun e => by
  subst e
  obtain ⟨e, _⟩ := hr.one _ _ _ _ _ hb' hc'
  cases e
 have hal' : E.al bx 0 (.h cd []) ∈ L := by
  rcases aliasL_mem (L := L) (id := bx) (c := 0) with e | e
  ·rw [hal] at e; cases e
  ·rw [hal] at e; exact e
 let H' : Nat → Value := fun i => if i = base then H bx else if i = base + 1 then H cd else undef
 let G' : Nat → FP := fun i => if i = base then G bx else if i = base + 1 then G cd else fun _ _ => False
 have eH0 : H' base = H bx := if_pos rfl
 have eH1 : H' (base + 1) = H cd := by show (if base + 1 = base then _ else _) = _; rw [if_neg (by omega), if_pos rfl]
 have eG0 : G' base = G bx := if_pos rfl
 have eG1 : G' (base + 1) = G cd := by show (if base + 1 = base then _ else _) = _; rw [if_neg (by omega), if_pos rfl]
 have hrts : ∀ {id m t}, rts [.rt base .box (.s n 1 fb), .al base 0 (.h (base + 1) []), .rt (base + 1) .ro tc] id m t → (id = base ∧ m = .box ∧ t = .s n 1 fb) ∨ (id = base + 1 ∧ m = .ro ∧ t = tc) := fun {id m t} h => by
  simp only [rts, List.mem_cons, List.not_mem_nil, or_false, E.rt.injEq, reduceCtorEq, false_or] at h
  rcases h with h | h
  ·exact .inl h
  ·exact .inr h
 have hrp : Rp [.rt base .box (.s n 1 fb), .al base 0 (.h (base + 1) []), .rt (base + 1) .ro tc] (fun _ => undef) H' G' w := by
  refine ⟨fun id m t m' t' k1 k2 => ?_, fun id m t k1 k2 => ?_, fun id t k => ?_, fun id t k => ?_, fun id t k => ?_, fun id m t id' m' t' k1 k2 hne' hm x y hx hy => ?_, fun t x k => ?_, fun id c x k => ?_⟩
  ·rcases hrts k1 with ⟨rfl, rfl, rfl⟩ | ⟨rfl, rfl, rfl⟩ <;> rcases hrts k2 with ⟨e1, e2, e3⟩ | ⟨e1, e2, e3⟩
   ·exact ⟨e2.symm, e3.symm⟩
   ·omega
   ·omega
   ·exact ⟨e2.symm, e3.symm⟩
  ·rcases hrts k1 with ⟨rfl, rfl, rfl⟩ | ⟨rfl, rfl, rfl⟩
   ·rw [eH0, eG0]; exact hr.own _ _ _ hb' (by simp)
   ·exact absurd rfl k2
  ·rcases hrts k with ⟨_, h, _⟩ | ⟨rfl, _, rfl⟩
   ·cases h
   ·rw [eH1, eG1]; exact hr.ro _ _ hc'
  ·rcases hrts k with ⟨_, h, _⟩ | ⟨rfl, _, rfl⟩
   ·cases h
   ·rw [eG1]; exact hr.rold _ _ hc'
  ·rcases hrts k with ⟨_, _, rfl⟩ | ⟨_, h, _⟩
   ·exact ⟨_, _, rfl⟩
   ·cases h
  ·rcases hrts k1 with ⟨rfl, rfl, rfl⟩ | ⟨rfl, rfl, rfl⟩
   ·rcases hrts k2 with ⟨e1, _, _⟩ | ⟨rfl, rfl, rfl⟩
    ·exact hne' e1.symm
    ·rw [eG0] at hx; rw [eG1] at hy
     exact hr.dis _ _ _ _ _ _ hb' hc' hne (by simp) x y hx hy
   ·exact hm rfl
  ·simp at k
  ·simp only [List.mem_cons, List.not_mem_nil, or_false, reduceCtorEq, false_or, E.al.injEq] at k
   obtain ⟨rfl, rfl, rfl⟩ := k
   obtain ⟨n1, f1, q1, q2, A, v, q3, q4, q5⟩ := hr.al _ _ _ hal'
   obtain ⟨_, e⟩ := hr.one _ _ _ _ _ hb' q1
   cases e
   refine ⟨n, fb, by simp [rts], q2, A, v, by rw [eH0]; exact q3, q4, ?_⟩
   obtain ⟨m, t, p1, p2, p3, p4⟩ := q5
   obtain ⟨rfl, rfl⟩ := hr.one _ _ _ _ _ hc' p1
   exact ⟨.ro, tc, by simp [rts], p2, p3, by rw [eH1]; exact p4⟩
 have hxv : VRs (rts [.rt base .box (.s n 1 fb), .al base 0 (.h (base + 1) []), .rt (base + 1) .ro tc]) H' w (.p base [] n 0 0 :: xs) (v0 :: vs) := by
  refine ⟨?_, onlyV_ok hxs hvs1⟩
  obtain ⟨m, t, p1, p2, p3, hv, A, p4, p5⟩ := hv0
  obtain ⟨rfl, rfl⟩ := hr.one _ _ _ _ _ hb' p1
  exact ⟨.box, _, by simp [rts], p2, p3, hv, A, by rw [eH0]; exact p4, p5⟩
 simp only [Oper.upon]
 refine (hcon w _ H' G' (cx.now hs.chg) (fun id m t h1 h2 a o h3 => by
  rcases hrts h1 with ⟨rfl, _, _⟩ | ⟨_, h, _⟩
  ·rw [eG0] at h3; exact cx.avN (hG.1 _ _ _ hb' (by simp) a o h3)
  ·exact absurd h h2) hrp hxv).mono ?_
 rintro e w' ⟨v, x, L2, H2, G2, val2, rfl, ⟨m, hCm, ⟨ρ', rfl, hfix, r1, r2, _⟩, hbx2, hal2⟩, k1, k2, k3, k4, k5⟩
 refine ⟨⟨_, rfl⟩, _, ⟨m, hCm, rfl⟩, ?_⟩
 have hC : Chg (G bx) w w' := k3.mono fun b o _ hx => by
  obtain ⟨id, m', t, q1, q2, q3⟩ := hx
  rcases hrts q1 with ⟨rfl, _, _⟩ | ⟨_, h, _⟩
  ·rw [eG0] at q3; exact q3
  ·exact absurd h q2
 have hgrow : ∀ id m' t, rts L2 id m' t → m' ≠ .ro → ∀ b o, G2 id b o → G bx b o ∨ w.heap.size ≤ b := fun id m' t h1 h2 b o hg => by
  rcases k4 _ _ _ h1 h2 b o hg with ⟨id', m'', t', q1, q2, q3⟩ | h
  ·rcases hrts q1 with ⟨rfl, _, _⟩ | ⟨_, h, _⟩
   ·rw [eG0] at q3; exact .inl q3
   ·exact absurd h q2
  ·exact .inr h
 have hH2 : H2 base = H bx := by rw [k5 _ _ _ (Nat.le_refl _) hbx2, eH0]
 have hold : ∀ id m t, rts L id m t → ∀ x y, G id x y → x < w.heap.size := fun id m t h x y hg => by
  by_cases hm : m = .ro
  ·subst hm; exact hr.rold id t h x y hg
  ·exact (hr.own id m t h hm).old x y hg
 have hoff : ∀ id m t, rts L id m t → id ≠ bx → ∀ b o, G id b o → ¬ G bx b o := fun id m t h hid b o h1 h2 => hr.dis _ _ _ _ _ _ hb' h (Ne.symm hid) (by simp) b o h2 h1
 have hhd : ∀ id m t, rts L id m t → id ≠ bx → ∀ q, Okp t q → hd w' (H id) q = hd w (H id) q := fun id m t h hid q hq => hd_frame hC (hr.rd h) hq (hoff id m t h hid)
 let G3 : Nat → FP := fun i => if i = bx then G2 base else G i
 have eG3 : G3 bx = G2 base := if_pos rfl
 have eG3' : ∀ {i}, i ≠ bx → G3 i = G i := fun h => if_neg h
 have hrt : ∀ {id m' t}, rts (repR L bx (.s n 1 (Tm m))) id m' t → (id = bx ∧ m' = .box ∧ t = .s n 1 (Tm m)) ∨ (id ≠ bx ∧ rts L id m' t) := fun {id m' t} h => by
  rcases rts_repR.1 h with ⟨rfl, rfl, t0, h0⟩ | h
  ·obtain ⟨rfl, _⟩ := hr.one _ _ _ _ _ hb' h0
   exact .inl ⟨rfl, rfl, rfl⟩
  ·exact .inr h
 have hrb : rts (repR L bx (.s n 1 (Tm m))) bx .box (.s n 1 (Tm m)) := rts_repR.2 (.inl ⟨rfl, rfl, _, hb'⟩)
 have hro : ∀ {id m' t}, id ≠ bx → rts L id m' t → rts (repR L bx (.s n 1 (Tm m))) id m' t := fun h1 h => rts_repR.2 (.inr ⟨h1, h⟩)
 have hq0 : ∀ {q n' l f'}, Okp (.s n 1 fb) q → (T.s n 1 fb).at q = .s n' l f' → q = [] := fun {q n' l f'} h1 h2 => by
  cases q with
  | nil => rfl
  | cons e q =>
   obtain ⟨n1, k, c⟩ := e
   obtain ⟨rfl, e1, e2, h3⟩ := h1
   have : k = 0 := by omega
   subst this
   simp only [T.at] at h2
   cases hf : fb 0 c with
   | s a1 a2 a3 => exact absurd hf (hleaf c _ _ _ e2)
   | v _ => rw [hf] at h2; cases q <;> simp [T.at] at h2
   | j => rw [hf] at h2; cases q <;> simp [T.at] at h2
 have hvr : ∀ {x v}, VR (rts L) H w x v → VR (rts (repR L bx (.s n 1 (Tm m)))) H w' x v := fun {x v} h =>
  VR.leaves (C := fun _ => True) (fun x v hl _ h => by
   cases x with
   | p id q n' k c =>
    obtain ⟨m', t, h1, h2, ⟨l, f', h3, h4, h5⟩, h6⟩ := h
    by_cases e : id = bx
    ·subst e
     obtain ⟨rfl, rfl⟩ := hr.one _ _ _ _ _ hb' h1
     obtain rfl := hq0 h2 h3
     simp only [T.at] at h3
     cases h3
     exact ⟨_, _, hrb, trivial, ⟨1, Tm m, rfl, h4, h5⟩, h6⟩
    ·exact ⟨m', t, hro e h1, h2, ⟨l, f', h3, h4, h5⟩, by rw [hhd id m' t h1 e q h2]; exact h6⟩
   | h id q =>
    obtain ⟨m', t, h1, h2, ⟨n', l, f', h3⟩, h6⟩ := h
    by_cases e : id = bx
    ·subst e
     obtain ⟨rfl, rfl⟩ := hr.one _ _ _ _ _ hb' h1
     obtain rfl := hq0 h2 h3
     exact ⟨_, _, hrb, trivial, ⟨n, 1, Tm m, rfl⟩, h6⟩
    ·exact ⟨m', t, hro e h1, h2, ⟨n', l, f', h3⟩, by rw [hhd id m' t h1 e q h2]; exact h6⟩
   | a id q n' lo len =>
    obtain ⟨m', t, h1, h2, ⟨l, f', h3, h4⟩, h6⟩ := h
    by_cases e : id = bx
    ·subst e
     obtain ⟨rfl, rfl⟩ := hr.one _ _ _ _ _ hb' h1
     obtain rfl := hq0 h2 h3
     simp only [T.at] at h3
     cases h3
     exact ⟨_, _, hrb, trivial, ⟨1, Tm m, rfl, h4⟩, h6⟩
    ·exact ⟨m', t, hro e h1, h2, ⟨l, f', h3, h4⟩, by rw [hhd id m' t h1 e q h2]; exact h6⟩
   | _ => exact hl.elim) (X.all_true (fun _ => trivial) x) h
 have hr2 : Rp (repR L bx (.s n 1 (Tm m))) (Act.val a) H G3 w' := by
  refine ⟨fun id m1 t1 m2 t2 h1 h2 => ?_, fun id m1 t1 h1 h2 => ?_, fun id t h => ?_, fun id t h => ?_, fun id t h => ?_, fun id m1 t1 id' m2 t2 h1 h2 hne' hm x y hx hy => ?_, fun t x h => ?_, fun id c x h => ?_⟩
  ·rcases hrt h1 with ⟨rfl, rfl, rfl⟩ | ⟨a1, a2⟩ <;> rcases hrt h2 with ⟨b1, b2, b3⟩ | ⟨b1, b2⟩
   ·exact ⟨b2.symm, b3.symm⟩
   ·exact absurd rfl b1
   ·exact absurd b1 a1
   ·exact hr.one _ _ _ _ _ a2 b2
  ·rcases hrt h1 with ⟨rfl, rfl, rfl⟩ | ⟨a1, a2⟩
   ·rw [eG3, ← hH2]; exact k1.own _ _ _ hbx2 (by simp)
   ·rw [eG3' a1]; exact (hr.own _ _ _ a2 h2).frame hC (hoff _ _ _ a2 a1)
  ·rcases hrt h with ⟨_, e, _⟩ | ⟨a1, a2⟩
   ·cases e
   ·rw [eG3' a1]; exact (hr.ro _ _ a2).frame hC (hoff _ _ _ a2 a1)
  ·rcases hrt h with ⟨_, e, _⟩ | ⟨a1, a2⟩
   ·cases e
   ·rw [eG3' a1]; exact fun x y hg => Nat.lt_of_lt_of_le (hr.rold _ _ a2 x y hg) hC.size
  ·rcases hrt h with ⟨_, _, rfl⟩ | ⟨a1, a2⟩
   ·exact ⟨_, _, rfl⟩
   ·exact hr.box _ _ a2
  ·rcases hrt h1 with ⟨rfl, rfl, rfl⟩ | ⟨a1, a2⟩ <;> rcases hrt h2 with ⟨b1, b2, b3⟩ | ⟨b1, b2⟩
   ·exact hne' b1.symm
   ·rw [eG3] at hx; rw [eG3' b1] at hy
    rcases hgrow _ _ _ hbx2 (by simp) x y hx with h | h
    ·exact hoff _ _ _ b2 b1 x y hy h
    ·have := hold _ _ _ b2 x y hy; omega
   ·subst b1
    rw [eG3] at hy; rw [eG3' a1] at hx
    rcases hgrow _ _ _ hbx2 (by simp) x y hy with h | h
    ·exact hoff _ _ _ a2 a1 x y hx h
    ·have := hold _ _ _ a2 x y hx; omega
   ·rw [eG3' a1] at hx; rw [eG3' b1] at hy
    exact hr.dis _ _ _ _ _ _ a2 b2 hne' hm x y hx hy
  ·exact hvr (hr.sl t x (repR_sl h))
  ·have h' := repR_al h
   clear h
   by_cases e : id = bx
   ·subst e
    obtain ⟨rfl, rfl⟩ := alsB_mem hals h'
    obtain ⟨n1, f1, q1, q2, A, v1, q3, q4, q5⟩ := k1.al _ _ _ hal2
    obtain ⟨_, e⟩ := k1.one _ _ _ _ _ hbx2 q1
    cases e
    refine ⟨n, Tm m, hrb, q2, A, v1, by rw [← hH2]; exact q3, q4, ?_⟩
    obtain ⟨m3, t3, p1, p2, ⟨n3, l3, f3, p3⟩, p4⟩ := q5
    obtain ⟨n4, f4, _, _, _, _, _, _, ⟨m5, t5, s1, s2, s3, s4⟩⟩ := hr.al _ _ _ hal'
    obtain ⟨rfl, rfl⟩ := hr.one _ _ _ _ _ hc' s1
    refine ⟨.ro, tc, hro (Ne.symm hne) hc', s2, s3, ?_⟩
    have e5 : H2 (base + 1) = H cd := by rw [k5 _ _ _ (Nat.le_succ _) p1, eH1]
    rw [← e5]; exact p4
   ·obtain ⟨n1, f1, q1, q2, A, v1, q3, q4, q5⟩ := hr.al _ _ _ h'
    obtain ⟨b, o, rfl, hg⟩ := box_cell hr q1 q2 q3
    exact ⟨n1, f1, hro e q1, q2, _, v1, q3, hC.cell q4 (hoff _ _ _ q1 e _ _ hg), hvr q5⟩
 have hinv : ∀ i, (nu d i - d) / 1000 = i := fun i => by simp only [nu]; omega
 have hmem : ∀ r ∈ rens d (L0 m), ∃ r0 ∈ L0 m, r = (nu d r0.1, r0.2) := fun r hr => by
  obtain ⟨r0, h, e⟩ := List.mem_map.1 hr; exact ⟨r0, h, e.symm⟩
 have hnd : ((rens d (L0 m)).map (·.1)).Nodup := by
  have e : (rens d (L0 m)).map (·.1) = ((L0 m).map (·.1)).map (nu d) := by simp [rens]
  rw [e]
  exact List.pairwise_map.2 ((hn m).imp fun {x y} h e => h (by simp only [nu] at e; omega))
 have hnews := hr2.news (fun i => G2 (ρ' ((i - d) / 1000))) (fun i => H2 (ρ' ((i - d) / 1000))) (rens d (L0 m)) hnd (fun r hr' b o hF id m1 t1 hid hGG => by
   obtain ⟨r0, h0, rfl⟩ := hmem r hr'
   simp only [hinv] at hF
   obtain ⟨g1, g2, g3⟩ := r2 r0 h0
   rcases hrt hid with ⟨rfl, rfl, rfl⟩ | ⟨a1, a2⟩
   ·rw [eG3] at hGG
    exact k1.dis _ _ _ _ _ _ g2 hbx2 (by omega) g1 b o hF hGG
   ·rw [eG3' a1] at hGG
    rcases hgrow _ _ _ g2 g1 b o hF with h | h
    ·exact hoff _ _ _ a2 a1 b o hGG h
    ·have := hold _ _ _ a2 b o hGG; omega) (fun r hr' => by
   obtain ⟨r0, h0, rfl⟩ := hmem r hr'
   obtain ⟨g1, g2, g3⟩ := r2 r0 h0
   simp only [hinv]
   exact ⟨g1, k1.own _ _ _ g2 g1, fun e => by rw [e] at g2; exact k1.box _ _ g2⟩) (fun r hr' r' hr'' hne' b o hF hF' => by
   obtain ⟨r0, h0, rfl⟩ := hmem r hr'
   obtain ⟨r0', h0', rfl⟩ := hmem r' hr''
   simp only [hinv] at hF hF'
   have hne'' : ρ' r0.1 ≠ ρ' r0'.1 := fun e => hne' (by rw [map_inj r1 h0 h0' e])
   exact k1.dis _ _ _ _ _ _ (r2 r0 h0).2.1 (r2 r0' h0').2.1 hne'' (r2 r0 h0).1 b o hF hF')
 have hv : VR (rts (newsL (repR L bx (.s n 1 (Tm m))) (rens d (L0 m)))) (fun i => if i ∈ (rens d (L0 m)).map (·.1) then H2 (ρ' ((i - d) / 1000)) else H i) w' ((X0 m).ren (nu d)) v := by
  refine VR.ren (ids := (L0 m).map (·.1)) (fun id hid m1 t1 hh => ?_) (hx0 m) k2
  obtain ⟨r0, h0, rfl⟩ := List.mem_map.1 hid
  obtain ⟨g1, g2, g3⟩ := r2 r0 h0
  obtain ⟨rfl, rfl⟩ := k1.one _ _ _ _ _ hh g2
  have hin : nu d r0.1 ∈ (rens d (L0 m)).map (·.1) := List.mem_map.2 ⟨_, List.mem_map.2 ⟨r0, h0, rfl⟩, rfl⟩
  refine ⟨(rts_newsL hnd).2 (.inl (List.mem_map.2 ⟨r0, h0, rfl⟩)), ?_⟩
  simp only [hin, if_true, hinv]
 have hgood : Good cx (newsL (repR L bx (.s n 1 (Tm m))) (rens d (L0 m))) (fun i => if i ∈ (rens d (L0 m)).map (·.1) then H2 (ρ' ((i - d) / 1000)) else H i) (fun i => if i ∈ (rens d (L0 m)).map (·.1) then G2 (ρ' ((i - d) / 1000)) else G3 i) := by
  have hold2 : ∀ b o, G bx b o ∨ w.heap.size ≤ b → cx.S0 b o ∨ cx.w0.heap.size ≤ b := fun b o h => by
   rcases h with h | h
   ·exact hG.1 _ _ _ hb' (by simp) b o h
   ·exact .inr (Nat.le_trans hs.chg.size h)
  refine ⟨fun id m1 t1 hid hne' x y hF => ?_, fun id m1 t1 hbs hid => ?_⟩
  ·rcases (rts_newsL hnd).1 hid with hh | ⟨hh, hni⟩
   ·obtain ⟨⟨i0, m0, t0⟩, h0, e⟩ := hmem _ hh
    cases e
    have hin : nu d i0 ∈ (rens d (L0 m)).map (·.1) := List.mem_map.2 ⟨_, hh, rfl⟩
    simp only [hin, if_true, hinv] at hF
    exact hold2 x y (hgrow _ _ _ (r2 _ h0).2.1 (r2 _ h0).1 x y hF)
   ·simp only [hni, if_false] at hF
    rcases hrt hh with ⟨rfl, rfl, rfl⟩ | ⟨a1, a2⟩
    ·rw [eG3] at hF
     exact hold2 x y (hgrow _ _ _ hbx2 (by simp) x y hF)
    ·rw [eG3' a1] at hF
     exact hG.1 id m1 t1 a2 hne' x y hF
  ·rcases (rts_newsL hnd).1 hid with hh | ⟨hh, hni⟩
   ·obtain ⟨⟨i0, m0, t0⟩, h0, e⟩ := hmem _ hh
    cases e
    have := List.all_eq_true.1 (hbb m) _ h0
    replace this : nu d i0 < base := by simpa using this
    have h6 : base ≤ nu d i0 := hbs
    omega
   ·simp only [hni, if_false]
    rcases hrt hh with ⟨rfl, rfl, rfl⟩ | ⟨a1, a2⟩
    ·exact hG.2 _ _ _ hbs hb'
    ·exact hG.2 _ _ _ hbs a2
 refine ⟨by rw [hds]; simpa [Go.Act.put] using hs.siz, by rw [hds]; simpa [Go.Act.put] using hs.dfr, hs.chg.step hC (fun b o hb1 h => ?_), _, _, ?_, by rw [rts_put]; exact hgood⟩
 ·rcases hG.1 _ _ _ hb' (by simp) b o h with h | h
  ·exact h
  ·omega
 ·rw [hds]
  exact (hnews.put hv).val fun t => (Act.val_put (Nat.lt_of_lt_of_le hN hs.siz) t).symm
def alC (al : Bool) (i cd : Nat) (L : List E) : List E := if al = true then .al i 0 (.h cd []) :: L else L
theorem rts_alC {al : Bool} {i cd : Nat} : rts (alC al i cd L) = rts L := by
 cases al
 ·rfl
 ·funext id m t
  simp [alC, rts]
theorem StpK.callC {α : Type} (al : Bool) {C : α → Prop} {X0 : α → X} {L0 : α → List (Nat × M × T)} {f : FuncId} {cal : Operand} {args : Array Operand} {tys : Array TypeId} {cd : Nat} {tc : T} {xs : List X}
  (hds : dst = some d) (hN : d < N) (hE : Ent P f) (hcal : evX L cal = .f f [])
  (hargs : args.toList.map (evX L) = .h cd [] :: xs) (hxs : onlyV xs = true) (hc : rootL L cd = some (.ro, tc))
  (hcon : Con P f (.h base [] :: xs) [.rt base .ro tc] (RetC al C X0 L0))
  (hn : ∀ m, ((L0 m).map (·.1)).Nodup) (hbb : ∀ m, ((L0 m).all fun r => nu d r.1 < base) = true) (hx0 : ∀ m, (X0 m).inB ((L0 m).map (·.1)) = true) (hcd : ∀ m, ((rens d (L0 m)).map (·.1)).contains cd = false) (ha : al = true → ∀ m, ((L0 m).map (·.1)).contains 0 = true) :
  StpK P N ⟨dst, .call { callee := .value cal, args := args, argTypes := tys }, ty, pos, af, g⟩ L (fun L1 => ∃ m, C m ∧ L1 = putL (alC al (nu d 0) cd (newsL L (rens d (L0 m)))) d ((X0 m).ren (nu d))) := fun cx a w Q hs => by
 obtain ⟨H, G, hr, hG⟩ := hs.rp
 have hcv := ev_ok hr cal
 rw [hcal] at hcv
 obtain ⟨us, hu1, hu2⟩ := hcv
 obtain rfl : us = [] := by cases us with
  | nil => rfl
  | cons _ _ => exact hu2.elim
 unfold Oper.wp
 rw [run_callX hE hu1, List.append_nil]
 have hargsV := evXs_ok hr args.toList
 rw [hargs] at hargsV
 generalize hvs : args.toList.map a.eval = vs at hargsV
 cases vs with
 | nil => exact hargsV.elim
 | cons v0 vs =>
 obtain ⟨hv0, hvs1⟩ := hargsV
 have hc' := rootL_mem hc
 let H' : Nat → Value := fun i => if i = base then H cd else undef
 let G' : Nat → FP := fun i => if i = base then G cd else fun _ _ => False
 have eH1 : H' base = H cd := if_pos rfl
 have eG1 : G' base = G cd := if_pos rfl
 have hrts : ∀ {id m t}, rts [.rt base .ro tc] id m t → (id = base ∧ m = .ro ∧ t = tc) := fun {id m t} h => by
  simp only [rts, List.mem_cons, List.not_mem_nil, or_false, E.rt.injEq] at h
  exact h
 have hrp : Rp [.rt base .ro tc] (fun _ => undef) H' G' w := by
  refine ⟨fun id m t m' t' k1 k2 => ?_, fun id m t k1 k2 => ?_, fun id t k => ?_, fun id t k => ?_, fun id t k => ?_, fun id m t id' m' t' k1 k2 hne' hm x y hx hy => ?_, fun t x k => ?_, fun id c x k => ?_⟩
  ·obtain ⟨rfl, rfl, rfl⟩ := hrts k1; obtain ⟨_, rfl, rfl⟩ := hrts k2; exact ⟨rfl, rfl⟩
  ·exact absurd (hrts k1).2.1 k2
  ·obtain ⟨rfl, _, rfl⟩ := hrts k; rw [eH1, eG1]; exact hr.ro _ _ hc'
  ·obtain ⟨rfl, _, rfl⟩ := hrts k; rw [eG1]; exact hr.rold _ _ hc'
  ·have := (hrts k).2.1; cases this
  ·exact hm (hrts k1).2.1
  ·simp at k
  ·simp at k
 have hxv : VRs (rts [.rt base .ro tc]) H' w (.h base [] :: xs) (v0 :: vs) := by
  refine ⟨?_, onlyV_ok hxs hvs1⟩
  obtain ⟨m, t, p1, p2, p3, p4⟩ := hv0
  obtain ⟨rfl, rfl⟩ := hr.one _ _ _ _ _ hc' p1
  exact ⟨.ro, _, by simp [rts], p2, p3, by rw [eH1]; exact p4⟩
 simp only [Oper.upon]
 refine (hcon w _ H' G' (cx.now hs.chg) (fun id m t h1 h2 => absurd (hrts h1).2.1 h2) hrp hxv).mono ?_
 rintro e w' ⟨v, x, L2, H2, G2, val2, rfl, ⟨m, hCm, ρ', rfl, r1, r2, hal2⟩, k1, k2, k3, k4, k5⟩
 refine ⟨⟨_, rfl⟩, _, ⟨m, hCm, rfl⟩, ?_⟩
 have hC : Chg (fun _ _ => False) w w' := k3.mono fun b o _ hx => by
  obtain ⟨id, m', t, q1, q2, q3⟩ := hx
  exact q2 (hrts q1).2.1
 have hr' := hr.chg hC fun _ _ _ _ _ _ _ h => h
 have hinv : ∀ i, (nu d i - d) / 1000 = i := fun i => by simp only [nu]; omega
 have hold : ∀ id m t, rts L id m t → ∀ x y, G id x y → x < w.heap.size := fun id m t h x y hg => by
  by_cases hm : m = .ro
  ·subst hm; exact hr.rold id t h x y hg
  ·exact (hr.own id m t h hm).old x y hg
 have hfresh : ∀ r ∈ L0 m, ∀ b o, G2 (ρ' r.1) b o → w.heap.size ≤ b := fun r hr b o hg => by
  obtain ⟨g1, g2, _⟩ := r2 r hr
  rcases k4 _ _ _ g2 g1 b o hg with ⟨id, m', t, q1, q2, _⟩ | h
  ·exact absurd (hrts q1).2.1 q2
  ·exact h
 have hmem : ∀ r ∈ rens d (L0 m), ∃ r0 ∈ L0 m, r = (nu d r0.1, r0.2) := fun r hr => by
  obtain ⟨r0, h, e⟩ := List.mem_map.1 hr; exact ⟨r0, h, e.symm⟩
 have hnd : ((rens d (L0 m)).map (·.1)).Nodup := by
  have e : (rens d (L0 m)).map (·.1) = ((L0 m).map (·.1)).map (nu d) := by simp [rens]
  rw [e]
  exact List.pairwise_map.2 ((hn m).imp fun {x y} h e => h (by simp only [nu] at e; omega))
 have hnews := hr'.news (fun i => G2 (ρ' ((i - d) / 1000))) (fun i => H2 (ρ' ((i - d) / 1000))) (rens d (L0 m)) hnd (fun r hr b o hF id m t hid hG => by
   obtain ⟨r0, h0, rfl⟩ := hmem r hr
   simp only [hinv] at hF
   have := hfresh r0 h0 b o hF
   have := hold id m t hid b o hG
   omega) (fun r hr => by
   obtain ⟨r0, h0, rfl⟩ := hmem r hr
   obtain ⟨g1, g2, _⟩ := r2 r0 h0
   simp only [hinv]
   exact ⟨g1, k1.own _ _ _ g2 g1, fun e => by rw [e] at g2; exact k1.box _ _ g2⟩) (fun r hr r' hr' hne b o hF hF' => by
   obtain ⟨r0, h0, rfl⟩ := hmem r hr
   obtain ⟨r0', h0', rfl⟩ := hmem r' hr'
   simp only [hinv] at hF hF'
   have hne' : ρ' r0.1 ≠ ρ' r0'.1 := fun e => hne (by rw [map_inj r1 h0 h0' e])
   exact k1.dis _ _ _ _ _ _ (r2 r0 h0).2.1 (r2 r0' h0').2.1 hne' (r2 r0 h0).1 b o hF hF')
 let H3 : Nat → Value := fun i => if i ∈ (rens d (L0 m)).map (·.1) then H2 (ρ' ((i - d) / 1000)) else H i
 have hv : VR (rts (newsL L (rens d (L0 m)))) H3 w' ((X0 m).ren (nu d)) v := by
  refine VR.ren (ids := (L0 m).map (·.1)) (fun id hid m' t hh => ?_) (hx0 m) k2
  obtain ⟨r0, h0, rfl⟩ := List.mem_map.1 hid
  obtain ⟨g1, g2, _⟩ := r2 r0 h0
  obtain ⟨rfl, rfl⟩ := k1.one _ _ _ _ _ hh g2
  have hin : nu d r0.1 ∈ (rens d (L0 m)).map (·.1) := List.mem_map.2 ⟨_, List.mem_map.2 ⟨r0, h0, rfl⟩, rfl⟩
  refine ⟨(rts_newsL hnd).2 (.inl (List.mem_map.2 ⟨r0, h0, rfl⟩)), ?_⟩
  show (if nu d r0.1 ∈ (rens d (L0 m)).map (·.1) then _ else _) = _
  rw [if_pos hin, hinv]
 have hnal : Rp (alC al (nu d 0) cd (newsL L (rens d (L0 m)))) (Act.val a) H3 (fun i => if i ∈ (rens d (L0 m)).map (·.1) then G2 (ρ' ((i - d) / 1000)) else G i) w' := by
  cases hal : al with
  | false => exact hnews
  | true =>
   have hh0 : 0 ∈ (L0 m).map (·.1) := by
    have := ha hal m
    simpa using this
   obtain ⟨r0, h0, e0⟩ := List.mem_map.1 hh0
   obtain ⟨n1, f1, q1, q2, A, v1, q3, q4, q5⟩ := k1.al _ _ _ (hal2 hal)
   obtain ⟨g1, g2, _⟩ := r2 r0 h0
   rw [e0] at g2
   obtain ⟨gm, gt⟩ := k1.one _ _ _ _ _ q1 g2
   have hin : nu d 0 ∈ (rens d (L0 m)).map (·.1) := by rw [← e0]; exact List.mem_map.2 ⟨_, List.mem_map.2 ⟨r0, h0, rfl⟩, rfl⟩
   have hH0 : H3 (nu d 0) = H2 (ρ' 0) := by
    show (if nu d 0 ∈ (rens d (L0 m)).map (·.1) then _ else _) = _
    rw [if_pos hin, hinv]
   have hHc : H3 cd = H cd := by
    have := hcd m
    show (if cd ∈ (rens d (L0 m)).map (·.1) then _ else _) = _
    rw [if_neg (by simpa using this)]
   have hrc : rts (newsL L (rens d (L0 m))) cd .ro tc := (rts_newsL hnd).2 (.inr ⟨hc', by have := hcd m; simpa using this⟩)
   have hr0 : rts (newsL L (rens d (L0 m))) (nu d 0) .box (.s n1 1 f1) := by
    refine (rts_newsL hnd).2 (.inl ?_)
    rw [gm, gt, ← e0]
    exact List.mem_map.2 ⟨r0, h0, rfl⟩
   have er : rts (alC true (nu d 0) cd (newsL L (rens d (L0 m)))) = rts (newsL L (rens d (L0 m))) := rts_alC
   refine ⟨by rw [er]; exact hnews.one, by rw [er]; exact hnews.own, by rw [er]; exact hnews.ro, by rw [er]; exact hnews.rold, by rw [er]; exact hnews.box, by rw [er]; exact hnews.dis, fun t x h => ?_, fun id c x h => ?_⟩
   ·rw [er]
    rcases List.mem_cons.1 h with h | h
    ·cases h
    ·exact hnews.sl t x h
   ·rw [er]
    rcases List.mem_cons.1 h with h | h
    ·cases h
     obtain ⟨m3, t3, p1, p2, p3, p4⟩ := q5
     obtain ⟨m4, t4, s1, s2, s3, s4⟩ := hv0
     obtain ⟨rfl, rfl⟩ := hr.one _ _ _ _ _ hc' s1
     refine ⟨n1, f1, hr0, q2, A, v1, by rw [hH0]; exact q3, q4, ⟨.ro, tc, hrc, s2, s3, ?_⟩⟩
     rw [hHc, ← eH1, ← k5 _ _ _ (Nat.le_refl _) p1]
     exact p4
    ·exact hnews.al id c x h
 have hgood : Good cx (newsL L (rens d (L0 m))) H3 (fun i => if i ∈ (rens d (L0 m)).map (·.1) then G2 (ρ' ((i - d) / 1000)) else G i) := by
  refine ⟨fun id m' t hid hne x y hF => ?_, fun id m' t hbs hid => ?_⟩
  ·rcases (rts_newsL hnd).1 hid with hh | ⟨hh, hni⟩
   ·obtain ⟨⟨i0, m0, t0⟩, h0, e⟩ := hmem _ hh
    cases e
    have hin : nu d i0 ∈ (rens d (L0 m)).map (·.1) := List.mem_map.2 ⟨_, hh, rfl⟩
    simp only [hin, if_true, hinv] at hF
    have := hfresh _ h0 x y hF
    have := hs.chg.size
    exact .inr (by omega)
   ·simp only [hni, if_false] at hF
    exact hG.1 id m' t hh hne x y hF
  ·rcases (rts_newsL hnd).1 hid with hh | ⟨hh, hni⟩
   ·obtain ⟨⟨i0, m0, t0⟩, h0, e⟩ := hmem _ hh
    cases e
    have := List.all_eq_true.1 (hbb m) _ h0
    replace this : nu d i0 < base := by simpa using this
    have h6 : base ≤ nu d i0 := hbs
    omega
   ·show (if id ∈ (rens d (L0 m)).map (·.1) then _ else _) = _
    rw [if_neg hni]
    exact hG.2 id m' t hbs hh
 refine ⟨by rw [hds]; simpa [Go.Act.put] using hs.siz, by rw [hds]; simpa [Go.Act.put] using hs.dfr, hs.chg.trans (hC.mono fun _ _ _ h => h.elim), _, _, ?_, by rw [rts_put, rts_alC]; exact hgood⟩
 rw [hds]
 exact (hnal.put (by rw [rts_alC]; exact hv)).val fun t => (Act.val_put (Nat.lt_of_lt_of_le hN hs.siz) t).symm
end
section
variable {P : Program} {N : Nat} {Q : Exit → List E → Prop} {L : List E} {ops : Array Oper} {rest : List Oper} {o : Oper} {K : List E → Prop}
theorem spK {gb : Bool} (h : StpK P N o L K) (k : ∀ L1, K L1 → AWL P N ops rest Q L1) (hw : wantL ops L o = some gb := by exact rfl) (hgb : gb = true := by exact rfl) : AWL P N ops (o :: rest) Q L := AWL.stepK hw hgb h k
variable {qs pend todo : List Nat} {S : Array Bool}
theorem a1K (j : Nat) {gb : Bool} (pend' D : List Nat) (ho : ops[j]? = some o) (hgb : gb = true) (h : StpK P N o L K) (k : ∀ L1, K L1 → AWA P N ops qs Q (S.setIfInBounds j true) pend' pend' L1) (hr : Region.ready .any ops S = [j] := by decide +kernel) (hw : wantL ops L o = some gb := by exact rfl)
  (hD : chainB ops [j] D = true := by decide +kernel) (hp : (pend.all fun i => pend'.contains i || D.contains i) = true := by decide +kernel) (hp' : (pend'.all fun i => pend.contains i) = true := by decide +kernel) : AWA P N ops qs Q S pend [] L := AWA.oneK j pend' D hr ho hw hgb hD hp hp' h k
end
/-- the cursor: the code (by alias), the place, the hash -/
def curF (i h : Int) : Nat → Nat → T := fun _ c => match c with | 0 => .j | 1 => .v (iv i) | 2 => .v (iv h) | _ => .j
theorem curF0 (i h : Int) (k : Nat) : curF i h k 0 = .j := rfl
theorem curF1 (i h : Int) (k : Nat) : curF i h k 1 = .v (iv i) := rfl
theorem curF2 (i h : Int) (k : Nat) : curF i h k 2 = .v (iv h) := rfl
attribute [go_sem] curF0 curF1 curF2 alC repR
theorem cur_leaf (i h : Int) : ∀ c n' l f', c < 3 → curF i h 0 c ≠ .s n' l f' := fun c n' l f' hc => by
 rcases c with _ | _ | _ | c
 ·intro e; cases e
 ·intro e; cases e
 ·intro e; cases e
 ·omega
theorem cur_sim {i h : Int} {f : Nat → Nat → T} (h0 : f 0 0 = .j) (h1 : f 0 1 = .v (iv i)) (h2 : f 0 2 = .v (iv h)) : (T.s 3 1 f).sim (.s 3 1 (curF i h)) := T.sim_of fun k c hk hc => by
 obtain rfl : k = 0 := by omega
 rcases c with _ | _ | _ | c
 ·exact h0
 ·exact h1
 ·exact h2
 ·omega
def nxH (h : Int) : Int := IntKind.i64.wrap (IntKind.i64.wrap (h * 6364136223846793005) + 1442695040888963407)
def and255 (a : Int) : Int := IntKind.i64.wrap ((BitVec.ofInt 64 a &&& BitVec.ofInt 64 255).toNat : Int)
theorem and255_le (a : Int) : 0 ≤ and255 a ∧ and255 a ≤ 255 := by
 have h : (BitVec.ofInt 64 a &&& BitVec.ofInt 64 255).toNat ≤ 255 := by
  rw [BitVec.toNat_and]
  exact Nat.and_le_right
 unfold and255
 rw [IntWalk.i64_in _ (by omega)]
 omega
theorem pbAnd255 (a : Int) : pureBin .and (iv a) (iv 255) = some (iv (and255 a)) := rfl
end Go.Proofs.Ytfbefcmeghpalaa.VM
namespace Go.Proofs.Ytfbefcmeghpalaa.VM
open Go Go.RowKit
/-! ### rows that are only read from now on; views of them as roots -/
theorem alM {L : List E} {id c i : Nat} {q : Path} (h : aliasL L id c = .h i q) : E.al id c (.h i q) ∈ L := by
 rcases aliasL_mem (L := L) (id := id) (c := c) with e | e
 ·rw [h] at e; cases e
 ·rw [h] at e; exact e
def frzL (id : Nat) : List E → List E
 | [] => []
 | .rt i m t :: L => if i = id then .rt i .ro t :: frzL id L else .rt i m t :: frzL id L
 | .sl s x :: L => .sl s x :: frzL id L
 | .al i c x :: L => .al i c x :: frzL id L
attribute [go_sem] frzL
theorem rts_frzL {id : Nat} : ∀ {L : List E} {i : Nat} {m : M} {t : T}, rts (frzL id L) i m t ↔ (i = id ∧ m = .ro ∧ ∃ m0, rts L id m0 t) ∨ (i ≠ id ∧ rts L i m t)
 | [], i, m, t => by simp [frzL, rts]
 | .sl s x :: L, i, m, t => by
  have := rts_frzL (id := id) (L := L) (i := i) (m := m) (t := t)
  simp only [rts, frzL, List.mem_cons, reduceCtorEq, false_or] at this ⊢
  exact this
 | .al s c x :: L, i, m, t => by
  have := rts_frzL (id := id) (L := L) (i := i) (m := m) (t := t)
  simp only [rts, frzL, List.mem_cons, reduceCtorEq, false_or] at this ⊢
  exact this
 | .rt j m1 t1 :: L, i, m, t => by
  have := rts_frzL (id := id) (L := L) (i := i) (m := m) (t := t)
  simp only [rts, frzL] at this ⊢
  split
  ·rename_i e
   subst e
   simp only [List.mem_cons, E.rt.injEq, this]
   constructor
   ·rintro (⟨rfl, rfl, rfl⟩ | ⟨rfl, rfl, m0, h⟩ | ⟨h1, h2⟩)
    ·exact .inl ⟨rfl, rfl, m1, .inl ⟨by trivial, rfl, rfl⟩⟩
    ·exact .inl ⟨rfl, rfl, m0, .inr h⟩
    ·exact .inr ⟨h1, .inr h2⟩
   ·rintro (⟨rfl, rfl, m0, ⟨_, rfl, rfl⟩ | h⟩ | ⟨h1, ⟨e, _⟩ | h2⟩)
    ·exact .inl ⟨rfl, rfl, rfl⟩
    ·exact .inr (.inl ⟨rfl, rfl, m0, h⟩)
    ·exact absurd e h1
    ·exact .inr (.inr ⟨h1, h2⟩)
  ·rename_i e
   simp only [List.mem_cons, E.rt.injEq, this]
   constructor
   ·rintro (⟨rfl, rfl, rfl⟩ | ⟨rfl, rfl, m0, h⟩ | ⟨h1, h2⟩)
    ·exact .inr ⟨e, .inl ⟨rfl, rfl, rfl⟩⟩
    ·exact .inl ⟨rfl, rfl, m0, .inr h⟩
    ·exact .inr ⟨h1, .inr h2⟩
   ·rintro (⟨rfl, rfl, m0, ⟨e', _⟩ | h⟩ | ⟨h1, ⟨rfl, rfl, rfl⟩ | h2⟩)
    ·exact absurd e'.symm e
    ·exact .inr (.inl ⟨rfl, rfl, m0, h⟩)
    ·exact .inl ⟨rfl, rfl, rfl⟩
    ·exact .inr (.inr ⟨h1, h2⟩)
theorem frzL_sl {id : Nat} {s : Nat} {x : X} : ∀ {L : List E}, E.sl s x ∈ frzL id L → E.sl s x ∈ L
 | .sl s' x' :: L, h => by
  rcases List.mem_cons.1 h with h | h
  ·rw [h]; exact List.mem_cons_self ..
  ·exact List.mem_cons_of_mem _ (frzL_sl h)
 | .al i c x' :: L, h => by
  rcases List.mem_cons.1 h with h | h
  ·cases h
  ·exact List.mem_cons_of_mem _ (frzL_sl h)
 | .rt i m t :: L, h => by
  simp only [frzL] at h
  split at h
  ·rcases List.mem_cons.1 h with h | h
   ·cases h
   ·exact List.mem_cons_of_mem _ (frzL_sl h)
  ·rcases List.mem_cons.1 h with h | h
   ·cases h
   ·exact List.mem_cons_of_mem _ (frzL_sl h)
theorem frzL_al {id : Nat} {s c : Nat} {x : X} : ∀ {L : List E}, E.al s c x ∈ frzL id L → E.al s c x ∈ L
 | .al s' c' x' :: L, h => by
  rcases List.mem_cons.1 h with h | h
  ·rw [h]; exact List.mem_cons_self ..
  ·exact List.mem_cons_of_mem _ (frzL_al h)
 | .sl i x' :: L, h => by
  rcases List.mem_cons.1 h with h | h
  ·cases h
  ·exact List.mem_cons_of_mem _ (frzL_al h)
 | .rt i m t :: L, h => by
  simp only [frzL] at h
  split at h
  ·rcases List.mem_cons.1 h with h | h
   ·cases h
   ·exact List.mem_cons_of_mem _ (frzL_al h)
  ·rcases List.mem_cons.1 h with h | h
   ·cases h
   ·exact List.mem_cons_of_mem _ (frzL_al h)
/-- a row that is written no more -/
theorem Weak.frz {N : Nat} {L : List E} (id : Nat) {t : T} (hR : rootL L id = some (.row, t)) : Weak N L (frzL id L) := fun cx a w hs => by
 obtain ⟨H, G, hr, hG⟩ := hs.rp
 have h0 := rootL_mem hR
 have hrt : ∀ {i m t'}, rts (frzL id L) i m t' → (i = id ∧ m = .ro ∧ t' = t) ∨ (i ≠ id ∧ rts L i m t') := fun {i m t'} h => by
  rcases rts_frzL.1 h with ⟨rfl, rfl, m0, h1⟩ | h
  ·exact .inl ⟨rfl, rfl, ((hr.one _ _ _ _ _ h0 h1).2).symm⟩
  ·exact .inr h
 have hri : rts (frzL id L) id .ro t := rts_frzL.2 (.inl ⟨rfl, rfl, _, h0⟩)
 have hvr : ∀ {x v}, VR (rts L) H w x v → VR (rts (frzL id L)) H w x v := fun {x v} h => VR.leaves (C := fun _ => True) (fun x v hl _ h => by
  have hmv : ∀ {i m t'}, rts L i m t' → ∃ m', rts (frzL id L) i m' t' := fun {i m t'} h => by
   by_cases e : i = id
   ·subst e; obtain ⟨_, rfl⟩ := hr.one _ _ _ _ _ h0 h; exact ⟨_, hri⟩
   ·exact ⟨m, rts_frzL.2 (.inr ⟨e, h⟩)⟩
  cases x with
  | p i q n k c => obtain ⟨m, t', h1, h2⟩ := h; obtain ⟨m', h3⟩ := hmv h1; exact ⟨m', t', h3, h2⟩
  | h i q => obtain ⟨m, t', h1, h2⟩ := h; obtain ⟨m', h3⟩ := hmv h1; exact ⟨m', t', h3, h2⟩
  | a i q n lo len => obtain ⟨m, t', h1, h2⟩ := h; obtain ⟨m', h3⟩ := hmv h1; exact ⟨m', t', h3, h2⟩
  | _ => exact hl.elim) (X.all_true (fun _ => trivial) x) h
 refine ⟨hs.siz, hs.dfr, hs.chg, H, G, ⟨fun i m t' m' t'' h1 h2 => ?_, fun i m t' h1 h2 => ?_, fun i t' h => ?_, fun i t' h => ?_, fun i t' h => ?_, fun i m t' i' m' t'' h1 h2 hne hm x y => ?_, fun s x h => hvr (hr.sl s x (frzL_sl h)), fun i c x h => ?_⟩, fun i m t' h1 h2 x y hg => ?_, fun i m t' hb h => ?_⟩
 ·rcases hrt h1 with ⟨rfl, rfl, rfl⟩ | ⟨a1, a2⟩ <;> rcases hrt h2 with ⟨b1, b2, b3⟩ | ⟨b1, b2⟩
  ·exact ⟨b2.symm, b3.symm⟩
  ·exact absurd rfl b1
  ·exact absurd b1 a1
  ·exact hr.one _ _ _ _ _ a2 b2
 ·rcases hrt h1 with ⟨rfl, rfl, rfl⟩ | ⟨a1, a2⟩
  ·exact absurd rfl h2
  ·exact hr.own _ _ _ a2 h2
 ·rcases hrt h with ⟨rfl, _, rfl⟩ | ⟨a1, a2⟩
  ·exact (hr.own _ _ _ h0 (by simp)).rd
  ·exact hr.ro _ _ a2
 ·rcases hrt h with ⟨rfl, _, rfl⟩ | ⟨a1, a2⟩
  ·exact (hr.own _ _ _ h0 (by simp)).old
  ·exact hr.rold _ _ a2
 ·rcases hrt h with ⟨_, e, _⟩ | ⟨a1, a2⟩
  ·cases e
  ·exact hr.box _ _ a2
 ·rcases hrt h1 with ⟨rfl, rfl, rfl⟩ | ⟨a1, a2⟩
  ·exact absurd rfl hm
  ·rcases hrt h2 with ⟨rfl, rfl, rfl⟩ | ⟨b1, b2⟩
   ·exact hr.dis _ _ _ _ _ _ a2 h0 hne hm x y
   ·exact hr.dis _ _ _ _ _ _ a2 b2 hne hm x y
 ·obtain ⟨n, f, q1, q2, A, v, q3, q4, q5⟩ := hr.al i c x (frzL_al h)
  have hne : i ≠ id := fun e => by
   subst e
   obtain ⟨e, _⟩ := hr.one _ _ _ _ _ h0 q1
   cases e
  exact ⟨n, f, rts_frzL.2 (.inr ⟨hne, q1⟩), q2, A, v, q3, q4, hvr q5⟩
 ·rcases hrt h1 with ⟨rfl, rfl, rfl⟩ | ⟨a1, a2⟩
  ·exact absurd rfl h2
  ·exact hG.1 _ _ _ a2 h2 x y hg
 ·rcases hrt h with ⟨rfl, rfl, rfl⟩ | ⟨a1, a2⟩
  ·exact hG.2 _ _ _ hb h0
  ·exact hG.2 _ _ _ hb a2
/-- a view of a row that is only read, as a root of its own -/
theorem Weak.viewA {N : Nat} {L : List E} (d new : Nat) {id n lo len l : Nat} {f : Nat → Nat → T} (h : slotL L d = .a id [] n lo len) (hR : rootL L id = some (.ro, .s n l f)) (hle : Nat.ble (lo + len) l = true ∨ lo + len ≤ l) (hn : rootL L new = none) (hb : new < base) : Weak N L (putL (.rt new .ro (.s n len fun k c => f (lo + k) c) :: L) d (.h new [])) := fun cx a w hs => by
 obtain ⟨H, G, hr, hG⟩ := hs.rp
 have hle : lo + len ≤ l := by rcases hle with h | h; exact Nat.le_of_ble_eq_true h; exact h
 have h0 := rootL_mem hR
 have hnb := rootL_none hn
 have h1 := ev_ok hr (.tmp d)
 simp only [evX, h] at h1
 obtain ⟨m', t', g1, g2, _, hv, g4, ad, cap, g5, g6, g7, g8, _⟩ := h1
 obtain ⟨rfl, rfl⟩ := hr.one _ _ _ _ _ g1 h0
 simp only [VM.hd, Option.some.injEq] at g4
 subst g4
 have hRd := (hr.ro _ _ h0).sub hle g5 g6 g7 g8
 let H' := updN H new (Act.val a d)
 let G' := updN G new (G id)
 have eH : H' new = Act.val a d := by simp [H', updN]
 have eG : G' new = G id := by simp [G', updN]
 have eo : ∀ {i m t}, rts L i m t → i ≠ new := fun {i m t} h e => hnb _ _ (e ▸ h)
 have eH' : ∀ {i m t}, rts L i m t → H' i = H i := fun h => by simp [H', updN, eo h]
 have eG' : ∀ {i m t}, rts L i m t → G' i = G i := fun h => by simp [G', updN, eo h]
 have hrt : ∀ {i m t}, rts (.rt new .ro (.s n len fun k c => f (lo + k) c) :: L) i m t → (i = new ∧ m = .ro ∧ t = .s n len fun k c => f (lo + k) c) ∨ rts L i m t := fun {i m t} h => by
  rcases List.mem_cons.1 h with h | h
  ·cases h; exact .inl ⟨rfl, rfl, rfl⟩
  ·exact .inr h
 have hrn : rts (.rt new .ro (.s n len fun k c => f (lo + k) c) :: L) new .ro (.s n len fun k c => f (lo + k) c) := List.mem_cons_self ..
 have hvr : ∀ {x v}, VR (rts L) H w x v → VR (rts (.rt new .ro (.s n len fun k c => f (lo + k) c) :: L)) H' w x v := fun h => VR.same (fun i m t hh => ⟨List.mem_cons_of_mem _ hh, eH' hh⟩) h
 have hr2 : Rp (.rt new .ro (.s n len fun k c => f (lo + k) c) :: L) (Act.val a) H' G' w := by
  refine ⟨fun i m t m' t' k1 k2 => ?_, fun i m t k1 k2 => ?_, fun i t k => ?_, fun i t k => ?_, fun i t k => ?_, fun i m t i' m' t' k1 k2 hne hm x y hx hy => ?_, fun s x k => ?_, fun i c x k => ?_⟩
  ·rcases hrt k1 with ⟨rfl, rfl, rfl⟩ | a1 <;> rcases hrt k2 with ⟨b1, b2, b3⟩ | b1
   ·exact ⟨b2.symm, b3.symm⟩
   ·exact absurd rfl (eo b1)
   ·exact absurd b1 (eo a1)
   ·exact hr.one _ _ _ _ _ a1 b1
  ·rcases hrt k1 with ⟨rfl, rfl, rfl⟩ | a1
   ·exact absurd rfl k2
   ·rw [eH' a1, eG' a1]; exact hr.own _ _ _ a1 k2
  ·rcases hrt k with ⟨rfl, _, rfl⟩ | a1
   ·rw [eH, eG]; exact hRd
   ·rw [eH' a1, eG' a1]; exact hr.ro _ _ a1
  ·rcases hrt k with ⟨rfl, _, rfl⟩ | a1
   ·rw [eG]; exact hr.rold _ _ h0
   ·rw [eG' a1]; exact hr.rold _ _ a1
  ·rcases hrt k with ⟨_, e, _⟩ | a1
   ·cases e
   ·exact hr.box _ _ a1
  ·rcases hrt k1 with ⟨rfl, rfl, rfl⟩ | a1
   ·exact hm rfl
   ·rw [eG' a1] at hx
    rcases hrt k2 with ⟨rfl, rfl, rfl⟩ | b1
    ·rw [eG] at hy
     have hne2 : i ≠ id := fun e => by
      subst e
      exact hm (hr.one _ _ _ _ _ a1 h0).1
     exact hr.dis _ _ _ _ _ _ a1 h0 hne2 hm x y hx hy
    ·rw [eG' b1] at hy
     exact hr.dis _ _ _ _ _ _ a1 b1 hne hm x y hx hy
  ·rcases List.mem_cons.1 k with k | k
   ·cases k
   ·exact hvr (hr.sl s x k)
  ·rcases List.mem_cons.1 k with k | k
   ·cases k
   ·obtain ⟨n1, f1, q1, q2, A, v, q3, q4, q5⟩ := hr.al i c x k
    exact ⟨n1, f1, List.mem_cons_of_mem _ q1, q2, A, v, by rw [eH' q1]; exact q3, q4, hvr q5⟩
 refine ⟨hs.siz, hs.dfr, hs.chg, H', G', (hr2.put (d := d) (x := .h new []) (v := Act.val a d) ⟨.ro, _, hrn, trivial, ⟨_, _, _, rfl⟩, by rw [eH]; rfl⟩).val fun t => ?_, by
  rw [rts_put]
  refine ⟨fun i m t k1 k2 x y hx => ?_, fun i m t hb1 k => ?_⟩
  ·rcases hrt k1 with ⟨rfl, rfl, rfl⟩ | a1
   ·exact absurd rfl k2
   ·rw [eG' a1] at hx; exact hG.1 _ _ _ a1 k2 x y hx
  ·rcases hrt k with ⟨rfl, _, _⟩ | a1
   ·omega
   ·rw [eH' a1]; exact hG.2 _ _ _ hb1 a1⟩
 split
 ·rename_i e; rw [e]
 ·rfl
end Go.Proofs.Ytfbefcmeghpalaa.VM
namespace Go.Proofs.Ytfbefcmeghpalaa.VM
open Go Go.RowKit
/-! ### the library's texts of numbers (tables of the package are laid) -/
theorem Chg.grow {S : FP} (w : World) (os : Array Obj) : Chg S w (Go.Sort.grow w os) := by
 refine ⟨rfl, rfl, rfl, ?_, fun b cur e fr h => ⟨cur, ?_, rfl, fun _ _ => rfl⟩, fun b o h _ => ?_⟩
 ·simp [Go.Sort.grow]
 ·have hb : b < w.heap.size := (Array.getElem?_eq_some_iff.1 h).1
  show (w.heap ++ os)[b]? = _
  rw [Array.getElem?_append_left hb]; exact h
 ·have hb : b < w.heap.size := (Array.getElem?_eq_some_iff.1 h).1
  show (w.heap ++ os)[b]? = _
  rw [Array.getElem?_append_left hb]; exact h
/-- a plain value of plain values, by a contract that only grows the heap -/
theorem con_plain {P : Program} {f : FuncId} {xs : List Value} {r : Value} (h : ∀ w, TabsOk P w → Calls P f xs.toArray w fun e w' => e = .returned r ∧ ∃ k os, w' = Go.Sort.grow (w.drewN k) os) : Con P f (xs.map .v) [] (fun y _ => y = .v r) := by
 intro w vs H G ht _ hr hv
 have hxs : vs = xs := by
  clear h ht hr
  induction xs generalizing vs with
  | nil => cases vs with
   | nil => rfl
   | cons _ _ => exact hv.elim
  | cons x xs ih => cases vs with
   | nil => exact hv.elim
   | cons v vs =>
    obtain ⟨h1, h2⟩ := hv
    have h1' : v = x := h1
    rw [h1', ih vs h2]
 subst hxs
 refine (h w ht).mono ?_
 rintro e w' ⟨rfl, k, os, rfl⟩
 have no : ∀ {α : Prop} {e : E}, e ∈ ([] : List E) → α := fun h => by cases h
 refine ⟨_, .v r, [], H, G, fun _ => undef, rfl, rfl, ⟨fun _ _ _ _ _ h => no h, fun _ _ _ h => no h, fun _ _ h => no h, fun _ _ h => no h, fun _ _ h => no h, fun _ _ _ _ _ _ h => no h, fun _ _ h => no h, fun _ _ _ h => no h⟩, rfl, (Chg.drewN w k).trans (Chg.grow _ os), fun _ _ _ h => no h, fun _ _ _ _ h => no h⟩
end Go.Proofs.Ytfbefcmeghpalaa.VM
namespace Go.Proofs.Ytfbefcmeghpalaa.VM
open Go Go.RowKit
/-! ### bytes of strings; errors against nil; calls of plain values with one of many outcomes -/
section
variable {P : Program} {N : Nat} {L : List E} {dst : Option Tmp} {ty : TypeId} {pos : String} {af : Array Edge} {g : Option (Nat × Bool)} {d : Nat}
theorem plainV {R R' : RT} {H H' : Nat → Value} {w w' : World} : ∀ {xs : List Value} {vs : List Value}, VRs R H w (xs.map .v) vs → VRs R' H' w' (xs.map .v) vs
 | [], [], h => h
 | [], _ :: _, h => h.elim
 | _ :: _, [], h => h.elim
 | _ :: _, _ :: _, h => ⟨h.1, plainV h.2⟩
theorem StpK.callP {α : Type} {C : α → Prop} {X0 : α → List Value} {f : FuncId} {cal : Operand} {args : Array Operand} {tys : Array TypeId} {xs : List X}
  (hds : dst = some d) (hN : d < N) (hE : Ent P f) (hcal : evX L cal = .f f []) (hargs : args.toList.map (evX L) = xs) (hxs : onlyV xs = true)
  (hcon : Con P f xs [] (fun x _ => ∃ m, C m ∧ x = .t ((X0 m).map .v))) :
  StpK P N ⟨dst, .call { callee := .value cal, args := args, argTypes := tys }, ty, pos, af, g⟩ L (fun L1 => ∃ m, C m ∧ L1 = putL L d (.t ((X0 m).map .v))) := fun cx a w Q hs => by
 obtain ⟨H, G, hr, hG⟩ := hs.rp
 have hcv := ev_ok hr cal
 rw [hcal] at hcv
 obtain ⟨us, hu1, hu2⟩ := hcv
 obtain rfl : us = [] := by cases us with
  | nil => rfl
  | cons _ _ => exact hu2.elim
 unfold Oper.wp
 rw [run_callX hE hu1, List.append_nil]
 have hargsV := evXs_ok hr args.toList
 rw [hargs] at hargsV
 have no : ∀ {β : Prop} {e : E}, e ∈ ([] : List E) → β := fun h => by cases h
 have hrp : Rp [] (fun _ => undef) (fun _ => undef) (fun _ _ _ => False) w := ⟨fun _ _ _ _ _ h => no h, fun _ _ _ h => no h, fun _ _ h => no h, fun _ _ h => no h, fun _ _ h => no h, fun _ _ _ _ _ _ h => no h, fun _ _ h => no h, fun _ _ _ h => no h⟩
 simp only [Oper.upon]
 refine (hcon w _ _ _ (cx.now hs.chg) (fun _ _ _ h => no h) hrp (onlyV_ok hxs hargsV)).mono ?_
 rintro e w' ⟨v, x, L2, H2, G2, val2, rfl, ⟨m, hCm, rfl⟩, k1, k2, k3, k4, k5⟩
 refine ⟨⟨_, rfl⟩, _, ⟨m, hCm, rfl⟩, ?_⟩
 have hC : Chg (fun _ _ => False) w w' := k3.mono fun b o _ hx => by
  obtain ⟨id, m', t, q1, _⟩ := hx
  exact no q1
 have hr' := hr.chg hC fun _ _ _ _ _ _ _ h => h
 obtain ⟨vs, e1, e2⟩ := k2
 refine ⟨by rw [hds]; simpa [Go.Act.put] using hs.siz, by rw [hds]; simpa [Go.Act.put] using hs.dfr, hs.chg.trans (hC.mono fun _ _ _ h => h.elim), H, G, ?_, by rw [rts_put]; exact hG⟩
 rw [hds]
 exact (hr'.put (d := d) (x := .t ((X0 m).map .v)) (v := v) ⟨vs, e1, plainV e2⟩).val fun t => (Act.val_put (Nat.lt_of_lt_of_le hN hs.siz) t).symm
end
end Go.Proofs.Ytfbefcmeghpalaa.VM
