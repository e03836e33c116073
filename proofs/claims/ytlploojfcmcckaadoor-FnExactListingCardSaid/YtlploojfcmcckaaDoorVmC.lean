/- Trees of owned cells, states over them, and rules to walk by. No conditions. -/
import Derived.LaidEql
import Derived.Laws.NewBlocks
import Derived.Lib.Hide
import Derived.Lib.Join
import Derived.Lib.OthersKept
import Derived.Shelf.Slices.Empties
import Derived.Shelf.Slices.SearchI
import Derived.Shelf.Spec.SlicesInsertGrow
import Derived.Sort.Grow
import Derived.Sort.Row
import Derived.Test.YtlploojfcmcckaaDoorVmB
set_option linter.all false
namespace Go.Proofs.YtlploojfcmcckaaDoor.VM
open Go Go.RowKit
/-- a root's tree, told otherwise -/
def repR : List E → Nat → T → List E
 | [], _, _ => []
 | .rt i m t :: L, id, t' => if i = id then .rt i m t' :: repR L id t' else .rt i m t :: repR L id t'
 | e :: L, id, t' => e :: repR L id t'
theorem repR_sl : ∀ {L : List E} {id : Nat} {t' : T} {s : Nat} {x : X}, E.sl s x ∈ repR L id t' → E.sl s x ∈ L
 | .sl s' x' :: L, id, t', s, x, h => by
  rcases List.mem_cons.1 h with h | h
  ·rw [h]; exact List.mem_cons_self ..
  ·exact List.mem_cons_of_mem _ (repR_sl h)
 | .rt i m t :: L, id, t', s, x, h => by
  simp only [repR] at h
  split at h <;>
  ·rcases List.mem_cons.1 h with h | h
   ·cases h
   ·exact List.mem_cons_of_mem _ (repR_sl h)
 | .al i c x' :: L, id, t', s, x, h => by
  rcases List.mem_cons.1 h with h | h
  ·cases h
  ·exact List.mem_cons_of_mem _ (repR_sl h)
theorem repR_al : ∀ {L : List E} {id : Nat} {t' : T} {s c : Nat} {x : X}, E.al s c x ∈ repR L id t' → E.al s c x ∈ L
 | .sl s' x' :: L, id, t', s, c, x, h => by
  rcases List.mem_cons.1 h with h | h
  ·cases h
  ·exact List.mem_cons_of_mem _ (repR_al h)
 | .rt i m t :: L, id, t', s, c, x, h => by
  simp only [repR] at h
  split at h <;>
  ·rcases List.mem_cons.1 h with h | h
   ·cases h
   ·exact List.mem_cons_of_mem _ (repR_al h)
 | .al i c' x' :: L, id, t', s, c, x, h => by
  rcases List.mem_cons.1 h with h | h
  ·rw [h]; exact List.mem_cons_self ..
  ·exact List.mem_cons_of_mem _ (repR_al h)
theorem rts_repR : ∀ {L : List E} {id : Nat} {t' : T} {i : Nat} {m : M} {t : T}, rts (repR L id t') i m t ↔ (i = id ∧ t = t' ∧ ∃ t0, rts L id m t0) ∨ (i ≠ id ∧ rts L i m t)
 | [], _, _, _, _, _ => by simp [rts, repR]
 | .sl s x :: L, id, t', i, m, t => by
  have := rts_repR (L := L) (id := id) (t' := t') (i := i) (m := m) (t := t)
  simp only [rts, repR] at this ⊢
  simp [this]
 | .al s c x :: L, id, t', i, m, t => by
  have := rts_repR (L := L) (id := id) (t' := t') (i := i) (m := m) (t := t)
  simp only [rts, repR] at this ⊢
  simp [this]
 | .rt j m1 t1 :: L, id, t', i, m, t => by
  have := rts_repR (L := L) (id := id) (t' := t') (i := i) (m := m) (t := t)
  simp only [rts, repR] at this ⊢
  split
  ·rename_i hj; subst hj
   simp only [List.mem_cons, this, E.rt.injEq]
   constructor
   ·rintro (⟨rfl, rfl, rfl⟩ | ⟨rfl, rfl, t0, h⟩ | ⟨h1, h2⟩)
    ·exact .inl ⟨rfl, rfl, t1, .inl (by simp)⟩
    ·exact .inl ⟨rfl, rfl, t0, .inr h⟩
    ·exact .inr ⟨h1, .inr h2⟩
   ·rintro (⟨rfl, rfl, t0, ⟨_, rfl, rfl⟩ | h⟩ | ⟨h1, ⟨rfl, _⟩ | h2⟩)
    ·exact .inl ⟨rfl, rfl, rfl⟩
    ·exact .inr (.inl ⟨rfl, rfl, t0, h⟩)
    ·exact absurd rfl h1
    ·exact .inr (.inr ⟨h1, h2⟩)
  ·rename_i hj
   simp only [List.mem_cons, this, E.rt.injEq]
   constructor
   ·rintro (⟨rfl, rfl, rfl⟩ | ⟨rfl, rfl, t0, h⟩ | ⟨h1, h2⟩)
    ·exact .inr ⟨hj, .inl ⟨rfl, rfl, rfl⟩⟩
    ·exact .inl ⟨rfl, rfl, t0, .inr h⟩
    ·exact .inr ⟨h1, .inr h2⟩
   ·rintro (⟨rfl, rfl, t0, ⟨rfl, _⟩ | h⟩ | ⟨h1, ⟨rfl, rfl, rfl⟩ | h2⟩)
    ·exact absurd rfl hj
    ·exact .inr (.inl ⟨rfl, rfl, t0, h⟩)
    ·exact .inl ⟨rfl, rfl, rfl⟩
    ·exact .inr (.inr ⟨h1, h2⟩)
theorem VR.simAll {R R' : RT} {H : Nat → Value} {w : World} (hR : ∀ id m t, R id m t → ∃ t', R' id m t' ∧ t.sim t') {x : X} {v : Value} (h : VR R H w x v) : VR R' H w x v :=
 VR.leaves (C := fun _ => True) (fun x v hl _ h => by
  cases x with
  | p id q n k c =>
   obtain ⟨m, t, h1, h2, ⟨len, f, h3, h4, h5⟩, h6⟩ := h
   obtain ⟨t', e1, e2⟩ := hR id m t h1
   obtain ⟨e3, e4⟩ := sim_at e2 h2
   rw [h3] at e4
   obtain ⟨g, e5, _⟩ := e4
   exact ⟨m, t', e1, e3, ⟨len, g, e5, h4, h5⟩, h6⟩
  | h id q =>
   obtain ⟨m, t, h1, h2, ⟨n, len, f, h3⟩, h6⟩ := h
   obtain ⟨t', e1, e2⟩ := hR id m t h1
   obtain ⟨e3, e4⟩ := sim_at e2 h2
   rw [h3] at e4
   obtain ⟨g, e5, _⟩ := e4
   exact ⟨m, t', e1, e3, ⟨n, len, g, e5⟩, h6⟩
  | a id q n lo len =>
   obtain ⟨m, t, h1, h2, ⟨l, f, h3, h4⟩, h6⟩ := h
   obtain ⟨t', e1, e2⟩ := hR id m t h1
   obtain ⟨e3, e4⟩ := sim_at e2 h2
   rw [h3] at e4
   obtain ⟨g, e5, _⟩ := e4
   exact ⟨m, t', e1, e3, ⟨l, g, e5, h4⟩, h6⟩
  | _ => exact hl.elim) (X.all_true (fun _ => trivial) x) h
theorem Weak.rep {N : Nat} {L : List E} {id : Nat} {m : M} {t t' : T} (hR : rootL L id = some (m, t)) (hs : t.sim t') : Weak N L (repR L id t') := fun cx a w hsat => by
 obtain ⟨H, G, hr, hG⟩ := hsat.rp
 have hid := rootL_mem hR
 have hback : ∀ {i m1 t1}, rts (repR L id t') i m1 t1 → ∃ t0, rts L i m1 t0 ∧ t0.sim t1 := fun h => by
  rcases rts_repR.1 h with ⟨rfl, rfl, t0, h⟩ | ⟨_, h⟩
  ·obtain ⟨rfl, rfl⟩ := hr.one _ _ _ _ _ h hid
   exact ⟨_, h, hs⟩
  ·exact ⟨_, h, T.sim_refl _⟩
 have hfwd : ∀ i m1 t1, rts L i m1 t1 → ∃ t2, rts (repR L id t') i m1 t2 ∧ t1.sim t2 := fun i m1 t1 h => by
  by_cases e : i = id
  ·subst e
   obtain ⟨rfl, rfl⟩ := hr.one _ _ _ _ _ h hid
   exact ⟨t', rts_repR.2 (.inl ⟨rfl, rfl, _, h⟩), hs⟩
  ·exact ⟨t1, rts_repR.2 (.inr ⟨e, h⟩), T.sim_refl _⟩
 have hV : ∀ {x v}, VR (rts L) H w x v → VR (rts (repR L id t')) H w x v := fun h => h.simAll hfwd
 refine ⟨hsat.siz, hsat.dfr, hsat.chg, H, G, ⟨?_, ?_, ?_, ?_, ?_, ?_, ?_, ?_⟩, ?_, ?_⟩
 ·intro i m1 t1 m2 t2 h1 h2
  rcases rts_repR.1 h1 with ⟨rfl, rfl, t0, g1⟩ | ⟨e1, g1⟩ <;> rcases rts_repR.1 h2 with ⟨e, rfl, t3, g2⟩ | ⟨e2, g2⟩
  ·exact ⟨(hr.one _ _ _ _ _ g1 g2).1, rfl⟩
  ·exact absurd rfl e2
  ·exact absurd e e1
  ·exact hr.one _ _ _ _ _ g1 g2
 ·intro i m1 t1 h1 h2
  obtain ⟨t0, e1, e2⟩ := hback h1
  exact (hr.own i m1 t0 e1 h2).sim e2
 ·intro i t1 h1
  obtain ⟨t0, e1, e2⟩ := hback h1
  exact (hr.ro i t0 e1).sim e2
 ·intro i t1 h1
  obtain ⟨t0, e1, e2⟩ := hback h1
  exact hr.rold i t0 e1
 ·intro i t1 h1
  obtain ⟨t0, e1, e2⟩ := hback h1
  obtain ⟨n, f, rfl⟩ := hr.box i t0 e1
  obtain ⟨g, rfl, _⟩ := e2
  exact ⟨n, g, rfl⟩
 ·intro i m1 t1 i' m2 t2 h1 h2
  obtain ⟨t0, e1, _⟩ := hback h1
  obtain ⟨t3, e2, _⟩ := hback h2
  exact hr.dis i m1 t0 i' m2 t3 e1 e2
 ·intro s x h1
  exact hV (hr.sl s x (repR_sl h1))
 ·intro i c x h1
  obtain ⟨n, f, g1, g2, A, v, g3, g4, g5⟩ := hr.al i c x (repR_al h1)
  obtain ⟨t2, g6, g7⟩ := hfwd _ _ _ g1
  obtain ⟨g, rfl, _⟩ := g7
  exact ⟨n, g, g6, g2, A, v, g3, g4, hV g5⟩
 ·intro i m1 t1 h1
  obtain ⟨t0, e1, _⟩ := hback h1
  exact hG.1 i m1 t0 e1
 ·intro i m1 t1 hb h1
  obtain ⟨t0, e1, _⟩ := hback h1
  exact hG.2 i m1 t0 hb e1
section
variable {P : Program} {N : Nat} {Q : Exit → List E → Prop} {L : List E} {ops : Array Oper} {l : List Oper} {qs pend todo : List Nat} {S : Array Bool} {m : M} {t : T}
theorem AWL.rep (id : Nat) (t' : T) (hR : rootL L id = some (m, t)) (hs : t.sim t') (k : AWL P N ops l Q (repR L id t')) : AWL P N ops l Q L := AWL.weak (Weak.rep hR hs) k
theorem AWA.rep (id : Nat) (t' : T) (hR : rootL L id = some (m, t)) (hs : t.sim t') (k : AWA P N ops qs Q S pend todo (repR L id t')) : AWA P N ops qs Q S pend todo L := AWA.weak (Weak.rep hR hs) k
end
end Go.Proofs.YtlploojfcmcckaaDoor.VM
namespace Go.Proofs.YtlploojfcmcckaaDoor.VM
theorem nT {b : Bool} (h : b = true) : (!b) = false := by rw [h]; rfl
theorem nF {b : Bool} (h : b = false) : (!b) = true := by rw [h]; rfl
end Go.Proofs.YtlploojfcmcckaaDoor.VM
namespace Go.Proofs.YtlploojfcmcckaaDoor.VM
open Go Go.RowKit
section
variable {P : Program} {L : List E} {dst : Option Tmp} {ty : TypeId} {pos : String} {af : Array Edge} {g : Option (Nat × Bool)}
theorem vrs_vals {R : RT} {H : Nat → Value} {w : World} : ∀ {vs us : List Value}, VRs R H w (vs.map X.v) us → us = vs
 | [], [], _ => rfl
 | v :: vs, u :: us, ⟨h1, h2⟩ => by
  have : u = v := h1
  rw [this, vrs_vals h2]
 | [], _ :: _, h => h.elim
 | _ :: _, [], h => h.elim
theorem Qt.eqS {t t2 : TypeId} {x y : Operand} {vs us : List Value} {r : Value} (hrun : ∀ (x y : Operand) (w : World), (do eqGuard .eql t x y (.agg vs.toArray) (.agg us.toArray); Go.binOp .eql t (.agg vs.toArray) (.agg us.toArray)).run P w = .ok r w) (hx : evX L x = .g (vs.map X.v)) (hy : evX L y = .g (us.map X.v)) : Qt P ⟨dst, .binOp .eql t x y t2, ty, pos, af, g⟩ L (.v r) :=
 (fun H w a he _ => by
  have h1 := he x
  have h2 := he y
  rw [hx] at h1
  rw [hy] at h2
  obtain ⟨v1, e1, f1⟩ := h1
  obtain ⟨v2, e2, f2⟩ := h2
  rw [vrs_vals f1] at e1
  rw [vrs_vals f2] at e2
  refine ⟨r, ?_, rfl⟩
  have := hrun x y w
  rw [← e1, ← e2] at this
  exact run_v this)
end
end Go.Proofs.YtlploojfcmcckaaDoor.VM
namespace Go.Proofs.YtlploojfcmcckaaDoor.VM
attribute [go_sem] slotsOf List.cons_append List.nil_append List.append_nil putL delS evX slotL cellX_v cellX_s cellX_j0 cellX_jq cellX_jr cellsX List.range' List.map_cons List.map_nil aliasL alsOf idsL delR delRs movedOf srcs srcT X.leaves X.ptrB X.inB X.insB X.men X.mens rootL rowT List.length stL setQ dropM X.thr X.thrs pre newsL rens nu X.ren X.rens zbox List.map base repR reps T.toX List.replicate List.flatten T.put put_tr upd_app nbeq eq_self Int.toNat_natCast X.one X.er stLA alA T.set setWs newW wFind keepX keepXs keepP lookW Option.isSome X.out X.outs entAt nblt decide_true decide_false cs_list trMix trG cs_int cs_bool cs_str cellX_tr List.getD_cons_zero List.getD_cons_succ List.contains List.elem Bool.and_true Bool.true_and Bool.and_false Bool.false_and Bool.or_false Bool.or_true Bool.false_or Bool.true_or Bool.false_eq_true and_true true_and and_false false_and and_self
end Go.Proofs.YtlploojfcmcckaaDoor.VM
namespace Go.Proofs.YtlploojfcmcckaaDoor.VM
open Go Go.RowKit
/-- slots forgotten -/
def dropS : List E → List Nat → List E
 | [], _ => []
 | .sl s x :: L, ds => if ds.contains s then dropS L ds else .sl s x :: dropS L ds
 | .rt i m t :: L, ds => .rt i m t :: dropS L ds
 | .al i c x :: L, ds => .al i c x :: dropS L ds
theorem dropS_sub : ∀ {L : List E} {ds : List Nat} {e : E}, e ∈ dropS L ds → e ∈ L
 | .sl s x :: L, ds, e, h => by
  simp only [dropS] at h
  split at h
  ·exact List.mem_cons_of_mem _ (dropS_sub h)
  ·rcases List.mem_cons.1 h with h | h
   ·rw [h]; exact List.mem_cons_self ..
   ·exact List.mem_cons_of_mem _ (dropS_sub h)
 | .rt i m t :: L, ds, e, h => by
  rcases List.mem_cons.1 h with h | h
  ·rw [h]; exact List.mem_cons_self ..
  ·exact List.mem_cons_of_mem _ (dropS_sub h)
 | .al i c x :: L, ds, e, h => by
  rcases List.mem_cons.1 h with h | h
  ·rw [h]; exact List.mem_cons_self ..
  ·exact List.mem_cons_of_mem _ (dropS_sub h)
theorem rts_dropS : ∀ {L : List E} {ds : List Nat}, rts (dropS L ds) = rts L
 | [], _ => rfl
 | .sl s x :: L, ds => by
  have := rts_dropS (L := L) (ds := ds)
  funext i m t
  have h := congrFun (congrFun (congrFun this i) m) t
  simp only [rts, dropS] at h ⊢
  split <;> simp [h]
 | .rt j m1 t1 :: L, ds => by
  have := rts_dropS (L := L) (ds := ds)
  funext i m t
  have h := congrFun (congrFun (congrFun this i) m) t
  simp only [rts, dropS] at h ⊢
  simp [h]
 | .al j c x :: L, ds => by
  have := rts_dropS (L := L) (ds := ds)
  funext i m t
  have h := congrFun (congrFun (congrFun this i) m) t
  simp only [rts, dropS] at h ⊢
  simp [h]
theorem Weak.dropS {N : Nat} {L : List E} (ds : List Nat) : Weak N L (VM.dropS L ds) := fun cx a w hs => by
 obtain ⟨H, G, hr, hG⟩ := hs.rp
 refine ⟨hs.siz, hs.dfr, hs.chg, H, G, ⟨?_, ?_, ?_, ?_, ?_, ?_, ?_, ?_⟩, by rw [rts_dropS]; exact hG⟩
 ·rw [rts_dropS]; exact hr.one
 ·rw [rts_dropS]; exact hr.own
 ·rw [rts_dropS]; exact hr.ro
 ·rw [rts_dropS]; exact hr.rold
 ·rw [rts_dropS]; exact hr.box
 ·rw [rts_dropS]; exact hr.dis
 ·rw [rts_dropS]; exact fun t x h => hr.sl t x (dropS_sub h)
 ·rw [rts_dropS]; exact fun id c x h => hr.al id c x (dropS_sub h)
/-- a slot, known otherwise -/
theorem Weak.slot {N : Nat} {L : List E} {d : Nat} {v v' : Value} (h : slotL L d = .v v) (e : v = v') : Weak N L (putL L d (.v v')) := fun cx a w hs => by
 subst e
 obtain ⟨H, G, hr, hG⟩ := hs.rp
 have hv : Act.val a d = v := by
  have h1 := ev_ok hr (.tmp d)
  simp only [evX, h, VR] at h1
  exact h1
 refine ⟨hs.siz, hs.dfr, hs.chg, H, G, (hr.put (d := d) (x := .v v) (v := v) rfl).val fun t => ?_, by rw [rts_put]; exact hG⟩
 split
 ·rename_i e; rw [e, hv]
 ·rfl
theorem Weak.join {N : Nat} {L LB : List E} {d : Nat} {ds : List Nat} {v v' : Value} (h : slotL L d = .v v) (e : v = v') (hB : VM.dropS L ds = LB) : Weak N L (putL LB d (.v v')) :=
 hB ▸ fun cx a w hs => by
  obtain ⟨H, G, hr, hG⟩ := hs.rp
  have hv : Act.val a d = v' := by
   have h1 := ev_ok hr (.tmp d)
   simp only [evX, h, VR] at h1
   exact h1.trans e
  have hs2 := Weak.dropS ds cx a w hs
  obtain ⟨H2, G2, hr2, hG2⟩ := hs2.rp
  refine ⟨hs.siz, hs.dfr, hs.chg, H2, G2, (hr2.put (d := d) (x := .v v') (v := v') rfl).val fun t => ?_, by rw [rts_put]; exact hG2⟩
  split
  ·rename_i e; rw [e, hv]
  ·rfl
section
variable {P : Program} {N : Nat} {Q : Exit → List E → Prop} {L L' : List E} {ops : Array Oper} {l : List Oper} {qs pend todo : List Nat} {S : Array Bool}
/-- ways that meet behind k operations -/
theorem AWL.cut (k : Nat) (h1 : AWL P N ops (l.drop k) Q L' → AWL P N ops l Q L) (h2 : AWL P N ops (l.drop k) Q L') : AWL P N ops l Q L := h1 h2
end
section
variable {P : Program} {L : List E} {dst : Option Tmp} {ty : TypeId} {pos : String} {af : Array Edge} {g : Option (Nat × Bool)}
theorem Qt.pickAnd {c x y : Operand} {b r : Bool} (hc : evX L c = .v (.bool b)) (hx : evX L x = .v (if b then .bool r else undef)) (hy : evX L y = .v (.bool false)) : Qt P ⟨dst, .pick c x y, ty, pos, af, g⟩ L (.v (.bool (b && r))) := by
 have h := Qt.pick (P := P) (dst := dst) (ty := ty) (pos := pos) (af := af) (g := g) (x := x) (y := y) hc
 cases b
 ·rw [if_neg (by simp), hy] at h; exact h
 ·rw [if_pos rfl, hx] at h; exact h
theorem ifT {b : Bool} (h : b = true) (u v : Value) : u = if b then u else v := by rw [h]; rfl
theorem ifF {b : Bool} (h : b = false) (u v : Value) : u = if b then v else u := by rw [h]; rfl
end
attribute [go_sem] dropS
end Go.Proofs.YtlploojfcmcckaaDoor.VM
namespace Go.Proofs.YtlploojfcmcckaaDoor.VM
open Go Go.RowKit
section
variable {P : Program} {N : Nat} {Q : Exit → List E → Prop} {L : List E} {ops : Array Oper} {l : List Oper}
end
end Go.Proofs.YtlploojfcmcckaaDoor.VM
namespace Go.Proofs.YtlploojfcmcckaaDoor.VM
attribute [go_sem] List.take_succ_cons List.take_zero List.drop_succ_cons List.drop_zero List.take_nil List.drop_nil evParts
end Go.Proofs.YtlploojfcmcckaaDoor.VM
namespace Go.Proofs.YtlploojfcmcckaaDoor.VM
open Go Go.RowKit
section
variable {P : Program} {N : Nat} {Q : Exit → List E → Prop} {L : List E}
theorem AW.condT {c : Operand} {x y : Code} {t : Bool} (hc : evX L c = .v (.bool t)) (ht : t = true) (h : AW P N x Q L) : AW P N (.cond c x y) Q L := AW.cond hc (fun _ => h) fun hf => by rw [ht] at hf; cases hf
theorem AW.condF {c : Operand} {x y : Code} {t : Bool} (hc : evX L c = .v (.bool t)) (hf : t = false) (h : AW P N y Q L) : AW P N (.cond c x y) Q L := AW.cond hc (fun ht => by rw [hf] at ht; cases ht) fun _ => h
end
end Go.Proofs.YtlploojfcmcckaaDoor.VM
namespace Go.Proofs.YtlploojfcmcckaaDoor.VM
theorem trMix_start {α : Type} [En α] {n len : Nat} {g : Nat → α} {zt : List T} (hn : n = En.n α) (h : ∀ c, c < En.n α → (zt.getD c .j).sim ((En.cs (En.dflt : α)).getD c .j)) : (T.s n len fun _ j => zt.getD j .j).sim (trMix 0 len g fun _ => En.dflt) := by
 rw [hn]
 exact ⟨_, rfl, fun i c _ hc => by rw [if_neg (Nat.not_lt_zero i)]; exact h c hc⟩
end Go.Proofs.YtlploojfcmcckaaDoor.VM
namespace Go.Proofs.YtlploojfcmcckaaDoor.VM
attribute [go_sem] Nat.lt_irrefl wXs wX roXs roX T.at rowsX takeX
end Go.Proofs.YtlploojfcmcckaaDoor.VM
namespace Go.Proofs.YtlploojfcmcckaaDoor.VM
end Go.Proofs.YtlploojfcmcckaaDoor.VM
namespace Go.Proofs.YtlploojfcmcckaaDoor.VM
theorem szd_cases (n : Nat) (left : Int) : (left - n < 0 ∧ szd n left = -1) ∨ (0 ≤ left - n ∧ szd n left = left - n) := by
 unfold szd
 split
 ·exact .inl ⟨by omega, rfl⟩
 ·exact .inr ⟨by omega, rfl⟩
end Go.Proofs.YtlploojfcmcckaaDoor.VM
namespace Go.Proofs.YtlploojfcmcckaaDoor.VM
theorem isS_tr {α : Type} [En α] (l : List α) : (tr l).isS = true := rfl
theorem isS_s (n len : Nat) (f : Nat → Nat → T) : (T.s n len f).isS = true := rfl
theorem at_nil (t : T) : t.at [] = t := by cases t <;> rfl
theorem at_tr {α : Type} [En α] (l : List α) (n k c : Nat) (q : Path) : (tr l).at ((n, k, c) :: q) = ((En.cs (l.getD k En.dflt)).getD c .j).at q := by rw [tr, T.at]
attribute [go_sem] isS_tr isS_s at_nil at_tr
end Go.Proofs.YtlploojfcmcckaaDoor.VM
namespace Go.Proofs.YtlploojfcmcckaaDoor.VM
open Go Go.RowKit
section
variable {P : Program} {N : Nat} {Q : Exit → List E → Prop} {L L' : List E} {ops : Array Oper} {cx : Cx} {a b : Act} {w : World} {S R S' : Array Bool} {pend pend' todo qs : List Nat}
end
end Go.Proofs.YtlploojfcmcckaaDoor.VM
namespace Go.Proofs.YtlploojfcmcckaaDoor.VM
open Go Go.RowKit
section
variable {P : Program} {N : Nat} {Q : Exit → List E → Prop} {L : List E}
end
end Go.Proofs.YtlploojfcmcckaaDoor.VM
namespace Go.Proofs.YtlploojfcmcckaaDoor.VM
open Go Go.RowKit
section
variable {P : Program} {L : List E} {dst : Option Tmp} {ty : TypeId} {pos : String} {af : Array Edge} {g : Option (Nat × Bool)}
/-- 'string(b)' -/
theorem Qt.convBS {s t e : TypeId} {x : Operand} {id : Nat} {q : Path} {m : M} {T0 : T} {l : List UInt8} (hx : evX L x = .h id q) (hR : rootL L id = some (m, T0)) (hT : T0.at q = tr l) (hs : P.underlying s = some (.slice e)) (he : P.underlying e = some (.int .u8)) (ht : P.underlying t = some .string) : Qt P ⟨dst, .convert s t x, ty, pos, af, g⟩ L (.v (.string ⟨l.toArray⟩)) :=
 (fun H w a hev ⟨val, G, hr⟩ => by
  have h := hev x
  rw [hx] at h
  obtain ⟨m', t', g1, g2, g3, g4⟩ := h
  obtain ⟨rfl, rfl⟩ := hr.one _ _ _ _ _ g1 (rootL_mem hR)
  obtain ⟨h', F, e1, e2⟩ := hr.node g1 g2
  rw [g4] at e1; cases e1
  rw [hT] at e2
  obtain ⟨hn, ad, cap, h0, hl, hm, b, off, V, G', h1, h2⟩ := e2
  refine ⟨_, run_v ?_, rfl⟩
  rw [h0]
  cases l with
  | nil =>
   have := run_convert_bytes_string (P := P) w s t e ad 0 cap hs he ht
   simp only [List.length_nil] at this ⊢
   rw [this]
   cases ad <;> simp [Conv.bytesToString, loadCells, loadCellsFrom, Sem.run_pure] <;> rfl
  | cons y l =>
   rw [h1 (by simp)]
   refine run_convert_bytes_back w s t e _ cap (y :: l) hs he ht fun j hj => ?_
   obtain ⟨k1, k2, _⟩ := h2 j 0 (by simpa using hj) (by simp [En.n])
   have hg : (y :: l).getD j En.dflt = (y :: l)[j] := by simp only [List.getD_eq_getElem?_getD, List.getElem?_eq_getElem hj, Option.getD_some]
   have hv : V j 0 = bv ((y :: l)[j]) := by
    have k3 : Rd w ((En.cs ((y :: l).getD j En.dflt)).getD 0 T.j) (G' j 0) (V j 0) := k2
    rw [hg] at k3
    exact k3.1
   rw [Addr.add_lit]
   have hn1 : En.n UInt8 = 1 := rfl
   have k4 : w.cell? ⟨b, off + j, none⟩ = some (V j 0) := by simpa [hn1] using k1
   rw [k4, hv])
end
theorem pbCat {a b : ByteArray} (h : a.size + b.size ≤ 9223372036854775807) : pureBin .add (.string a) (.string b) = some (.string (a ++ b)) := if_pos h
end Go.Proofs.YtlploojfcmcckaaDoor.VM
namespace Go.Proofs.YtlploojfcmcckaaDoor.VM
open Go Go.RowKit
instance : Fl UInt8 := ⟨fun a c hc => by
 match c, hc with
 | 0, _ => rfl
 | c + 1, h => exact absurd h (by simp [En.n])⟩
theorem cs_u8 (a : UInt8) : En.cs a = [.v (bv a)] := rfl
attribute [go_sem] cs_u8
end Go.Proofs.YtlploojfcmcckaaDoor.VM
namespace Go.Proofs.YtlploojfcmcckaaDoor.VM
open Go Go.RowKit
def rn1 (a b i : Nat) : Nat := if i = a then b else i
/-- root a is called b -/
def renL (a b : Nat) : List E → List E
 | [] => []
 | .sl s x :: L => .sl s (x.ren (rn1 a b)) :: renL a b L
 | .rt i m t :: L => .rt (rn1 a b i) m t :: renL a b L
 | .al i c x :: L => .al (rn1 a b i) c (x.ren (rn1 a b)) :: renL a b L
section
variable {P : Program} {N : Nat} {Q : Exit → List E → Prop} {L : List E}
end
attribute [go_sem] renL rn1
end Go.Proofs.YtlploojfcmcckaaDoor.VM
namespace Go.Proofs.YtlploojfcmcckaaDoor.VM
open Go Go.RowKit
end Go.Proofs.YtlploojfcmcckaaDoor.VM
namespace Go.Proofs.YtlploojfcmcckaaDoor.VM
open Go Go.RowKit
/-! slice expressions -/
section
variable {P : Program} {N : Nat} {L : List E} {dst : Option Tmp} {ty : TypeId} {pos : String} {af : Array Edge} {g : Option (Nat × Bool)}
end
end Go.Proofs.YtlploojfcmcckaaDoor.VM
namespace Go.Proofs.YtlploojfcmcckaaDoor.VM
open Go Go.RowKit Go.Sort

end Go.Proofs.YtlploojfcmcckaaDoor.VM
namespace Go.Proofs.YtlploojfcmcckaaDoor.VM
open Go Go.RowKit
theorem szd_lo {w : Nat} {left : Int} (h : -1 ≤ left) : -1 ≤ szd w left := by have := szd_cases w left; omega
theorem szd_hi {w : Nat} {left : Int} (h : left ≤ 1048576) : szd w left ≤ 1048576 := by have := szd_cases w left; omega
end Go.Proofs.YtlploojfcmcckaaDoor.VM
namespace Go.Proofs.YtlploojfcmcckaaDoor.VM
open Go Go.RowKit
section
variable {P : Program} {N : Nat} {L : List E} {dst : Option Tmp} {ty : TypeId} {pos : String} {af : Array Edge} {g : Option (Nat × Bool)} {d : Nat}
end
end Go.Proofs.YtlploojfcmcckaaDoor.VM
namespace Go.Proofs.YtlploojfcmcckaaDoor.VM
open Go Go.RowKit
/-! ### what lies in a box by alias, and what lies in it outright -/
section
variable {R R' : RT} {H H' : Nat → Value} {w w' : World}
end
end Go.Proofs.YtlploojfcmcckaaDoor.VM
namespace Go.Proofs.YtlploojfcmcckaaDoor.VM
open Go Go.RowKit
end Go.Proofs.YtlploojfcmcckaaDoor.VM
namespace Go.Proofs.YtlploojfcmcckaaDoor.VM
open Go Go.RowKit
/-! short words for the walks -/
section
variable {P : Program} {N : Nat} {L L' : List E} {Q : Exit → List E → Prop} {ops : Array Oper} {rest : List Oper} {o : Oper} {qs pend todo : List Nat} {S : Array Bool}
theorem qq {d : Nat} {x : X} {gb : Bool} (h : Qt P o L x) (k : AWL P N ops rest Q (putL L d x)) (hw : wantL ops L o = some gb := by exact rfl) (hgb : gb = true := by exact rfl) (hd : o.dst = some d := by exact rfl) (hN : d < N := by decide) : AWL P N ops (o :: rest) Q L := AWL.q hw hgb hd hN h k
theorem nm (k : AWL P N ops rest Q L') (h : L = L' := by simp only [go_sem, Int.reduceToNat, Nat.reduceLT, reduceIte, Nat.reduceEqDiff, Nat.reduceAdd, Nat.reduceMul, Nat.reduceBEq, reduceCtorEq]; rfl) : AWL P N ops rest Q L := AWL.nrm h k
theorem nl (k : Q .normal L') (h : L = L' := by simp only [go_sem, Int.reduceToNat, Nat.reduceLT, reduceIte, Nat.reduceEqDiff, Nat.reduceAdd, Nat.reduceMul, Nat.reduceBEq, reduceCtorEq]; rfl) : AWL P N ops [] Q L := AWL.nilE h k
theorem na (k : AWA P N ops qs Q S pend todo L') (h : L = L' := by first | (simp only [go_sem, Int.reduceToNat, Nat.reduceLT, reduceIte, Nat.reduceEqDiff, Nat.reduceAdd, Nat.reduceMul, Nat.reduceBEq, reduceCtorEq]; rfl) | rfl) : AWA P N ops qs Q S pend todo L := AWA.nrm h k
theorem tk (i : Nat) {x : X} {d : Nat} {o : Oper} {gb : Bool} (ho : ops[i]? = some o) (h : Qt P o L x) (k : AWA P N ops qs Q (S.setIfInBounds i true) (i :: pend) [] (putL L d x)) (hd : o.dst = some d := by exact rfl) (hq' : qs.contains i = true := by exact rfl) (hr : (Region.ready .any ops S).contains i = true := by decide +kernel) (hw : wantL ops L o = some gb := by exact rfl) (hgb : gb = true := by exact rfl) : AWA P N ops qs Q S pend [] L :=
 AWA.take i ho hd hq' hr (.on hw hgb h) k
theorem tg (i : Nat) {x : X} {d : Nat} {o : Oper} {gb : Bool} (ho : ops[i]? = some o) (hgb : gb = true) (h : Qt P o L x) (k : AWA P N ops qs Q (S.setIfInBounds i true) (i :: pend) [] (putL L d x)) (hd : o.dst = some d := by exact rfl) (hq' : qs.contains i = true := by exact rfl) (hr : (Region.ready .any ops S).contains i = true := by decide +kernel) (hw : wantL ops L o = some gb := by exact rfl) : AWA P N ops qs Q S pend [] L :=
 AWA.take i ho hd hq' hr (.on hw hgb h) k
theorem tf (i : Nat) {d : Nat} {o : Oper} {gb : Bool} (hgb : gb = false) (k : AWA P N ops qs Q (S.setIfInBounds i true) (i :: pend) [] (putL L d (.v undef))) (ho : ops[i]? = some o := by exact rfl) (hd : o.dst = some d := by exact rfl) (hq' : qs.contains i = true := by exact rfl) (hr : (Region.ready .any ops S).contains i = true := by decide +kernel) (hw : wantL ops L o = some gb := by exact rfl) : AWA P N ops qs Q S pend [] L :=
 AWA.take i ho hd hq' hr (.off hw hgb) k
theorem nz (k : Q .normal L') (hr : Region.ready .any ops S = [] := by decide +kernel) (h : L = L' := by first | (simp only [go_sem, Int.reduceToNat, Nat.reduceLT, reduceIte, Nat.reduceEqDiff, Nat.reduceAdd, Nat.reduceMul, Nat.reduceBEq, reduceCtorEq]; rfl) | rfl) : AWA P N ops qs Q S pend [] L := AWA.nilE hr h k
theorem ss {gb : Bool} (k : AWL P N ops rest Q L') (h : Stp P N o L L' := by first | exact Stp.storeA rfl rfl rfl rfl (by decide) rfl | exact Stp.store rfl rfl (by simp) rfl rfl rfl (by decide) rfl) (hw : wantL ops L o = some gb := by exact rfl) (hgb : gb = true := by exact rfl) : AWL P N ops (o :: rest) Q L := AWL.step hw hgb h k
theorem sp {gb : Bool} (h : Stp P N o L L') (k : AWL P N ops rest Q L') (hw : wantL ops L o = some gb := by exact rfl) (hgb : gb = true := by exact rfl) : AWL P N ops (o :: rest) Q L := AWL.step hw hgb h k
theorem jd (h : Q .normal L) : AW P N .skip Q L := AW.skip h
end
section
variable {P : Program} {L : List E} {dst : Option Tmp} {ty : TypeId} {pos : String} {af : Array Edge} {g : Option (Nat × Bool)}
theorem fA {t : TypeId} {x : Operand} {i off id : Nat} {q : Path} {n k c : Nat} {m : M} {T0 : T} {len : Nat} {f : Nat → Nat → T} (hF : Fld P t i off) (hx : evX L x = .p id q n k c := by exact rfl) (hR : rootL L id = some (m, T0) := by exact rfl) (hT : T0.at q = .s n len f := by exact rfl) (hc : c + off < n := by decide) : Qt P ⟨dst, .fieldAddr t x i, ty, pos, af, g⟩ L (.p id q n k (c + off)) := Qt.fieldAddr hx hF hR hT hc
end
/-- what a test says, in plain words -/
theorem cnd : (∀ (p : Prop) [Decidable p], (decide p = true) = p) ∧ (∀ (p : Prop) [Decidable p], (decide p = false) = ¬ p) ∧ (∀ a b : Int, ((a != b) = true) = ¬ (a = b)) ∧ (∀ a b : Int, ((a == b) = true) = (a = b)) ∧ (∀ a b : Int, ((a == b) = false) = ¬ (a = b)) ∧ (∀ a b : Int, ((a != b) = false) = (a = b)) ∧
    (∀ b : Bool, ((!b) = true) = (b = false)) ∧ (∀ b : Bool, ((!b) = false) = (b = true)) ∧ (∀ a b : Bool, ((a && b) = true) = (a = true ∧ b = true)) ∧ (∀ a b : Bool, ((a || b) = true) = (a = true ∨ b = true)) ∧ (∀ a b : Bool, ((a && b) = false) = (a = false ∨ b = false)) ∧ (∀ a b : Bool, ((a || b) = false) = (a = false ∧ b = false)) ∧
    (∀ a b : Int, (¬ a < b) = (b ≤ a)) ∧ (∀ a b : Int, (¬ a ≤ b) = (b < a)) ∧ (∀ n : Nat, (n : Int).toNat = n) := by
  refine ⟨?_, ?_, ?_, ?_, ?_, ?_, ?_, ?_, ?_, ?_, ?_, ?_, ?_, ?_, ?_⟩ <;> intros <;> first | (simp; done) | (rename_i a b; cases a <;> cases b <;> simp)
section
variable {P : Program} {N : Nat} {L : List E} {Q : Exit → List E → Prop} {ops : Array Oper} {rest : List Oper} {d : Nat} {ty : TypeId} {pos : String} {af : Array Edge} {g : Option (Nat × Bool)}
theorem cv {f : FuncId} {cal : Operand} {caps : List X} {args : Array Operand} {tys : Array TypeId} {xs : List X} {ρ : List E} {m : Nat} {r : Value} {gb : Bool} (hE : Ent P f) (hcal : evX L cal = .f f caps) (hq : roXs L (args.toList.map (evX L) ++ caps) base = (xs, ρ, m)) (hc : Con P f xs ρ fun x _ => x = .v r)
  (k : AWL P N ops rest Q (putL L d (.v r))) (hN : d < N := by decide) (hw : wantL ops L ⟨some d, .call { callee := .value cal, args := args, argTypes := tys }, ty, pos, af, g⟩ = some gb := by exact rfl) (hgb : gb = true := by exact rfl) : AWL P N ops (⟨some d, .call { callee := .value cal, args := args, argTypes := tys }, ty, pos, af, g⟩ :: rest) Q L :=
 AWL.step hw hgb (Stp.callV rfl hN hE hcal hq hc) k
end
end Go.Proofs.YtlploojfcmcckaaDoor.VM
namespace Go.Proofs.YtlploojfcmcckaaDoor.VM
open Go Go.RowKit
/-! strings laid together -/
theorem sim_cells {α : Type} [En α] {l : List α} {n m : Nat} {f : Nat → Nat → T} (hn : n = En.n α) (hm : m = l.length) (h : ∀ k c, k < m → c < n → f k c = (En.cs (l.getD k En.dflt)).getD c .j) : (T.s n m f).sim (tr l) := by
 subst hn hm
 exact T.sim_of h
theorem sim_row1 {α : Type} [En α] {l : List α} {n m : Nat} {f : Nat → Nat → T} (h1 : En.n α = 1) (hn : n = En.n α) (hm : m = l.length) (h : ∀ k, k < m → f k 0 = (En.cs (l.getD k En.dflt)).getD 0 .j) : (T.s n m f).sim (tr l) :=
 sim_cells hn hm fun k c hk hc => by
  obtain rfl : c = 0 := by omega
  exact h k hk
end Go.Proofs.YtlploojfcmcckaaDoor.VM
namespace Go.Proofs.YtlploojfcmcckaaDoor.VM
open Go Go.RowKit
/-! shorter words for the walks -/
section
variable {P : Program} {N : Nat} {L L' : List E} {Q : Exit → List E → Prop} {ops : Array Oper} {l rest : List Oper} {o : Oper} {qs pend todo : List Nat} {S : Array Bool}
theorem Rf {id : Nat} {m : M} {t : T} (h : rootL L id = some (m, t)) : ∃ t0, rootL L id = some (m, t0) ∧ t0.sim t := ⟨t, h, T.sim_refl t⟩
theorem st1 {a b : X} (h : a = b := by simp only [slotL, reduceIte, Nat.reduceEqDiff]; first | rfl | (rw [IntWalk.i64_in _ (by omega)]; rfl)) : a = b := h
theorem AW.loopW {c : Code} {ι : Type} (J : ι → List E) (μ : ι → Nat) (i : ι) (hw : Weak N L (J i)) (h : ∀ i, AW P N c (thenQ (fun L => ∃ i', Weak N L (J i') ∧ μ i' < μ i) Q) (J i)) : AW P N (.loop c) Q L := AW.weak hw (AW.loop J μ i h)
theorem qg {d : Nat} {x : X} {gb : Bool} (hgb : gb = true) (h : Qt P o L x) (k : AWL P N ops rest Q (putL L d x)) (hw : wantL ops L o = some gb := by exact rfl) (hd : o.dst = some d := by exact rfl) (hN : d < N := by decide) : AWL P N ops (o :: rest) Q L := AWL.q hw hgb hd hN h k
theorem og {d : Nat} {gb : Bool} (hgb : gb = false) (k : AWL P N ops rest Q (putL L d (.v undef))) (hw : wantL ops L o = some gb := by exact rfl) (hd : o.dst = some d := by exact rfl) (hN : d < N := by decide) : AWL P N ops (o :: rest) Q L := AWL.out hw hgb hd hN k
theorem wj (d : Nat) (ds : List Nat) {v v' : Value} {LB : List E} (e : v = v') (hB : VM.dropS L ds = LB) (K : AWL P N ops l Q (putL LB d (.v v'))) (h : slotL L d = .v v := by exact rfl) : AWL P N ops l Q L := AWL.weak (Weak.join h e hB) K
theorem a1 (j : Nat) {L1 : List E} {gb : Bool} (pend' D : List Nat) (ho : ops[j]? = some o) (hgb : gb = true) (h : Stp P N o L L1) (k : AWA P N ops qs Q (S.setIfInBounds j true) pend' pend' L1) (hr : Region.ready .any ops S = [j] := by decide +kernel) (hw : wantL ops L o = some gb := by exact rfl)
  (hD : chainB ops [j] D = true := by decide +kernel) (hp : (pend.all fun i => pend'.contains i || D.contains i) = true := by decide +kernel) (hp' : (pend'.all fun i => pend.contains i) = true := by decide +kernel) : AWA P N ops qs Q S pend [] L := AWA.one j pend' D hr ho hw hgb hD hp hp' h k
theorem o1 (j : Nat) {d : Nat} {gb : Bool} (pend' D : List Nat) (ho : ops[j]? = some o) (hgb : gb = false) (k : AWA P N ops qs Q (S.setIfInBounds j true) pend' pend' (putL L d (.v undef))) (hr : Region.ready .any ops S = [j] := by decide +kernel) (hw : wantL ops L o = some gb := by exact rfl)
  (hD : chainB ops [j] D = true := by decide +kernel) (hp : (pend.all fun i => pend'.contains i || D.contains i) = true := by decide +kernel) (hp' : (pend'.all fun i => pend.contains i) = true := by decide +kernel) (hd : o.dst = some d := by exact rfl) (hN : d < N := by decide) : AWA P N ops qs Q S pend [] L := AWA.oneOff j pend' D hr ho hw hgb hD hp hp' hd hN k
end
end Go.Proofs.YtlploojfcmcckaaDoor.VM
namespace Go.Proofs.YtlploojfcmcckaaDoor.VM
open Go Go.RowKit Go.Sort
/-! rows that are handed over and come back as a row of their own -/
end Go.Proofs.YtlploojfcmcckaaDoor.VM
namespace Go.Proofs.YtlploojfcmcckaaDoor.VM
open Go Go.RowKit Go.Sort Go.Shelf Go.Proofs
/-! a number put into a row of numbers (slices.Insert) -/
end Go.Proofs.YtlploojfcmcckaaDoor.VM
namespace Go.Proofs.YtlploojfcmcckaaDoor.VM
open Go Go.RowKit Go.Sort Go.Shelf Go.Proofs
/-! slices.BinarySearch at numbers -/
theorem Chg.drewN {S : FP} (w : World) (q : Nat) : Chg S w (w.drewN q) := ⟨rfl, rfl, rfl, Nat.le_refl _, fun _ cur _ _ h => ⟨cur, h, rfl, fun _ _ => rfl⟩, fun _ _ h _ => h⟩
end Go.Proofs.YtlploojfcmcckaaDoor.VM
namespace Go.Proofs.YtlploojfcmcckaaDoor.VM
open Go Go.RowKit
/-! ### draws: a cursor is handed over (a box whose first cell is an alias of a row that is only read); what comes back is one of many -/
section
variable {P : Program} {N : Nat} {L : List E} {dst : Option Tmp} {ty : TypeId} {pos : String} {af : Array Edge} {g : Option (Nat × Bool)} {d : Nat}
def alC (al : Bool) (i cd : Nat) (L : List E) : List E := if al = true then .al i 0 (.h cd []) :: L else L
end
section
variable {P : Program} {N : Nat} {Q : Exit → List E → Prop} {L : List E} {ops : Array Oper} {rest : List Oper} {o : Oper} {K : List E → Prop}
variable {qs pend todo : List Nat} {S : Array Bool}
end
/-- the cursor: the code (by alias), the place, the hash -/
def curF (i h : Int) : Nat → Nat → T := fun _ c => match c with | 0 => .j | 1 => .v (iv i) | 2 => .v (iv h) | _ => .j
theorem curF0 (i h : Int) (k : Nat) : curF i h k 0 = .j := rfl
theorem curF1 (i h : Int) (k : Nat) : curF i h k 1 = .v (iv i) := rfl
theorem curF2 (i h : Int) (k : Nat) : curF i h k 2 = .v (iv h) := rfl
attribute [go_sem] curF0 curF1 curF2 alC repR
end Go.Proofs.YtlploojfcmcckaaDoor.VM
namespace Go.Proofs.YtlploojfcmcckaaDoor.VM
open Go Go.RowKit
/-! ### rows that are only read from now on; views of them as roots -/
def frzL (id : Nat) : List E → List E
 | [] => []
 | .rt i m t :: L => if i = id then .rt i .ro t :: frzL id L else .rt i m t :: frzL id L
 | .sl s x :: L => .sl s x :: frzL id L
 | .al i c x :: L => .al i c x :: frzL id L
attribute [go_sem] frzL
end Go.Proofs.YtlploojfcmcckaaDoor.VM
namespace Go.Proofs.YtlploojfcmcckaaDoor.VM
open Go Go.RowKit
/-! ### the library's texts of numbers (tables of the package are laid) -/
theorem Chg.grow {S : FP} (w : World) (os : Array Obj) : Chg S w (Go.Sort.grow w os) := by
 refine ⟨rfl, rfl, rfl, ?_, fun b cur e fr h => ⟨cur, ?_, rfl, fun _ _ => rfl⟩, fun b o h _ => ?_⟩
 ·simp [Go.Sort.grow]
 ·have hb : b < w.heap.size := (Array.getElem?_eq_some_iff.1 h).1
  show (w.heap ++ os)[b]? = _
  rw [Array.getElem?_append_left hb]; exact h
 ·have hb : b < w.heap.size := (Array.getElem?_eq_some_iff.1 h).1
  show (w.heap ++ os)[b]? = _
  rw [Array.getElem?_append_left hb]; exact h
/-- a plain value of plain values, by a contract that only grows the heap -/
theorem con_plain {P : Program} {f : FuncId} {xs : List Value} {r : Value} (h : ∀ w, TabsOk P w → Calls P f xs.toArray w fun e w' => e = .returned r ∧ ∃ k os, w' = Go.Sort.grow (w.drewN k) os) : Con P f (xs.map .v) [] (fun y _ => y = .v r) := by
 intro w vs H G ht _ hr hv
 have hxs : vs = xs := by
  clear h ht hr
  induction xs generalizing vs with
  | nil => cases vs with
   | nil => rfl
   | cons _ _ => exact hv.elim
  | cons x xs ih => cases vs with
   | nil => exact hv.elim
   | cons v vs =>
    obtain ⟨h1, h2⟩ := hv
    have h1' : v = x := h1
    rw [h1', ih vs h2]
 subst hxs
 refine (h w ht).mono ?_
 rintro e w' ⟨rfl, k, os, rfl⟩
 have no : ∀ {α : Prop} {e : E}, e ∈ ([] : List E) → α := fun h => by cases h
 refine ⟨_, .v r, [], H, G, fun _ => undef, rfl, rfl, ⟨fun _ _ _ _ _ h => no h, fun _ _ _ h => no h, fun _ _ h => no h, fun _ _ h => no h, fun _ _ h => no h, fun _ _ _ _ _ _ h => no h, fun _ _ h => no h, fun _ _ _ h => no h⟩, rfl, (Chg.drewN w k).trans (Chg.grow _ os), fun _ _ _ h => no h, fun _ _ _ _ h => no h⟩
theorem pow10_laid {P : Program} {w : World} (ht : TabsOk P w) {g : Nat} (hg : P.globalNamed "internal/strconv.uint64pow10" = some g) : Lib.TabIs P w "internal/strconv.uint64pow10" .u64 Lib.pow10Tab := by
 obtain ⟨cs, h1, h2⟩ := ht _ (List.mem_cons_self ..) g hg
 rw [show cs = (Lib.pow10Tab.map fun z => Value.int .u64 z).toArray from h2] at h1
 exact h1
end Go.Proofs.YtlploojfcmcckaaDoor.VM
namespace Go.Proofs.YtlploojfcmcckaaDoor.VM
open Go Go.RowKit
/-! ### bytes of strings; errors against nil; calls of plain values with one of many outcomes -/
def chr (s : ByteArray) (k : Nat) : UInt8 := s.data.toList.getD k 0
section
variable {P : Program} {N : Nat} {L : List E} {dst : Option Tmp} {ty : TypeId} {pos : String} {af : Array Edge} {g : Option (Nat × Bool)} {d : Nat}
theorem Qt.indexS {t : TypeId} {x i : Operand} {s : ByteArray} {kd : IntKind} {j : Int} (hx : evX L x = .v (.string s)) (hi : evX L i = .v (.int kd j)) (ht : P.underlying t = some .string) (h0 : 0 ≤ j) (h1 : j < s.size) : Qt P ⟨dst, .index t x i, ty, pos, af, g⟩ L (.v (bv (chr s j.toNat))) :=
 (fun H w a he _ => by
  have h2 := he x
  rw [hx] at h2
  simp only [VR] at h2
  have h3 := he i
  rw [hi] at h3
  simp only [VR] at h3
  obtain ⟨k, rfl⟩ := Int.eq_ofNat_of_zero_le h0
  have hk : k < s.data.size := by have : s.size = s.data.size := rfl; omega
  have e : s[k]'hk = chr s k := by
   rw [chr, List.getD_eq_getElem?_getD, List.getElem?_eq_getElem (by simpa using hk)]
   rfl
  have hrun := run_index_string (P := P) (w := w) t s kd (k : Int) ht
  rw [dif_pos ⟨by omega, h1⟩] at hrun
  refine ⟨bv (chr s k), ?_, rfl⟩
  simp only [execOp, h2, h3]
  refine run_v (hrun.trans ?_)
  have e2 : (s[(k : Int).toNat]'(by simpa using hk)) = chr s k := e
  rw [e2])
end
end Go.Proofs.YtlploojfcmcckaaDoor.VM
namespace Go.Proofs.YtlploojfcmcckaaDoor.VM
open Go Go.RowKit
/-! ### a cursor beside a row that is only read -/
section
variable {P : Program} {N : Nat} {L : List E} {dst : Option Tmp} {ty : TypeId} {pos : String} {af : Array Edge} {g : Option (Nat × Bool)} {d : Nat}
end
end Go.Proofs.YtlploojfcmcckaaDoor.VM
namespace Go.Proofs.YtlploojfcmcckaaDoor.VM
open Go Go.RowKit
end Go.Proofs.YtlploojfcmcckaaDoor.VM
namespace Go.Proofs.YtlploojfcmcckaaDoor.VM
open Go Go.RowKit
/-! ### range over a string -/
section
variable {w w' : World}
theorem Own.same (hc : ∀ A v, w.cell? A = some v → w'.cell? A = some v) (hk : ∀ b sz, Kd w b sz → Kd w' b sz) : ∀ {t : T} {F : FP} {c : Value}, Own w t F c → Own w' t F c
 | .v _, _, _, h => h
 | .j, _, _, h => h
 | .s n len f, F, c, ⟨hn, a, cap, h0, hl, hm, b, off, V, G, h1, h2, h3, h4, h5⟩ =>
  ⟨hn, a, cap, h0, hl, hm, b, off, V, G, fun h => ⟨(h1 h).1, let ⟨sz, k1, k2⟩ := (h1 h).2; ⟨sz, hk _ _ k1, k2⟩⟩, fun k c hk' hc' => by
   obtain ⟨e1, e2⟩ := h2 k c hk' hc'
   exact ⟨hc _ _ e1, Own.same hc hk e2⟩, h3, h4, h5⟩
theorem Rd.same (hc : ∀ A v, w.cell? A = some v → w'.cell? A = some v) : ∀ {t : T} {F : FP} {c : Value}, Rd w t F c → Rd w' t F c
 | .v _, _, _, h => h
 | .j, _, _, h => h
 | .s .., _, _, ⟨hn, a, cap, h0, hl, hm, b, off, V, G, h1, h2⟩ => ⟨hn, a, cap, h0, hl, hm, b, off, V, G, h1, fun k c hk hc' =>
  let ⟨e1, e2, e3, e4⟩ := h2 k c hk hc'; ⟨hc _ _ e1, Rd.same hc e2, e3, e4⟩⟩
theorem hd_same (hc : ∀ A v, w.cell? A = some v → w'.cell? A = some v) : ∀ {q : Path} {h x : Value}, hd w h q = some x → hd w' h q = some x
  | [], _, _, h => h
  | (n, k, c) :: q, h, x, e => by
    unfold hd at e ⊢
    cases ha : adr h n k c with
    | none => rw [ha] at e; cases e
    | some a =>
      rw [ha] at e
      simp only at e ⊢
      cases hh : w.cell? a with
      | none => rw [hh] at e; cases e
      | some h' =>
        rw [hh] at e
        rw [hc _ _ hh]
        exact hd_same hc e
mutual
theorem VR.sameW (hc : ∀ A v, w.cell? A = some v → w'.cell? A = some v) {R : RT} {H : Nat → Value} : ∀ {x : X} {v : Value}, VR R H w x v → VR R H w' x v
 | .v _, _, hx => hx
 | .j, _, _ => trivial
 | .c, _, hx => hx
 | .p .., _, ⟨m, t, h1, h2, h3, hh, A, h4, h5, h6⟩ => ⟨m, t, h1, h2, h3, hh, A, hd_same hc h4, h5, h6⟩
 | .h .., _, ⟨m, t, h1, h2, h3, h4⟩ => ⟨m, t, h1, h2, h3, hd_same hc h4⟩
 | .a .., _, ⟨m, t, h1, h2, h3, hv, h4, h5⟩ => ⟨m, t, h1, h2, h3, hv, hd_same hc h4, h5⟩
 | .g _, _, ⟨vs, h1, h2⟩ => ⟨vs, h1, VRs.sameW hc h2⟩
 | .t _, _, ⟨vs, h1, h2⟩ => ⟨vs, h1, VRs.sameW hc h2⟩
 | .f _ _, _, ⟨vs, h1, h2⟩ => ⟨vs, h1, VRs.sameW hc h2⟩
theorem VRs.sameW (hc : ∀ A v, w.cell? A = some v → w'.cell? A = some v) {R : RT} {H : Nat → Value} : ∀ {xs : List X} {vs : List Value}, VRs R H w xs vs → VRs R H w' xs vs
 | [], [], _ => trivial
 | _ :: _, _ :: _, ⟨h1, h2⟩ => ⟨VR.sameW hc h1, VRs.sameW hc h2⟩
 | [], _ :: _, h => h.elim
 | _ :: _, [], h => h.elim
end
variable {L : List E} {val : Nat → Value} {H : Nat → Value} {G : Nat → FP} {P : Program} {N : Nat} {cx : Cx} {a : Act} {Q : Exit → List E → Prop}
theorem Rp.same (hc : ∀ A v, w.cell? A = some v → w'.cell? A = some v) (hk : ∀ b sz, Kd w b sz → Kd w' b sz) (hz : w.heap.size ≤ w'.heap.size) (hr : Rp L val H G w) : Rp L val H G w' :=
 ⟨hr.one, fun id m t h1 h2 => Own.same hc hk (hr.own id m t h1 h2), fun id t h => Rd.same hc (hr.ro id t h), fun id t h x y hG => Nat.lt_of_lt_of_le (hr.rold id t h x y hG) hz, hr.box, hr.dis, fun t x h => VR.sameW hc (hr.sl t x h),
  fun id c x h => by
   obtain ⟨n, f, h1, h2, A, v, h3, h4, h5⟩ := hr.al id c x h
   exact ⟨n, f, h1, h2, A, v, h3, hc _ _ h4, VR.sameW hc h5⟩⟩
def ItAt (w : World) (b : Nat) (s : ByteArray) (p : Nat) : Prop := w.heap[b]? = some (.stringIter s p)
theorem ItAt.heap {b p p' : Nat} {s : ByteArray} (h : ItAt w b s p) (b' : Nat) : (w.iterAt b s p').heap[b']? = if b' = b then some (.stringIter s p') else w.heap[b']? := by
 have hlt : b < w.heap.size := (Array.getElem?_eq_some_iff.1 h).1
 show (w.heap.setIfInBounds b _)[b']? = _
 by_cases e : b' = b
 ·subst e; simp [hlt]
 ·rw [if_neg e, Array.getElem?_setIfInBounds_ne (Ne.symm e)]
theorem ItAt.cell {b p p' : Nat} {s : ByteArray} (h : ItAt w b s p) (A : Addr) (v : Value) (hA : w.cell? A = some v) : (w.iterAt b s p').cell? A = some v := by
 simp only [World.cell?] at hA ⊢
 rw [h.heap]
 by_cases e : A.block = b
 ·rw [e] at hA
  unfold ItAt at h
  rw [h] at hA
  cases hA
 ·rw [if_neg e]; exact hA
theorem ItAt.kd {b p p' : Nat} {s : ByteArray} (h : ItAt w b s p) (b' sz : Nat) (hk : Kd w b' sz) : Kd (w.iterAt b s p') b' sz := by
 obtain ⟨cur, e, h1, h2⟩ := hk
 refine ⟨cur, e, ?_, h2⟩
 rw [h.heap]
 by_cases e : b' = b
 ·subst e; unfold ItAt at h; rw [h] at h1; cases h1
 ·rw [if_neg e]; exact h1
/-- the iterator goes on -/
theorem Sat.iterAt {b p p' : Nat} {s : ByteArray} (hs : Sat N cx L a w) (h : ItAt w b s p) (hb : cx.w0.heap.size ≤ b) : Sat N cx L a (w.iterAt b s p') := by
 obtain ⟨H, G, hr, hG⟩ := hs.rp
 have hz : (w.iterAt b s p').heap.size = w.heap.size := by simp [World.iterAt]
 refine ⟨hs.siz, hs.dfr, ⟨hs.chg.os, hs.chg.tape, hs.chg.output, by rw [hz]; exact hs.chg.size, ?_, ?_⟩, H, G, hr.same h.cell h.kd (by omega), hG⟩
 ·intro b' cur e fr hb'
  obtain ⟨c1, k1, k2⟩ := hs.chg.cells b' cur e fr hb'
  have hlt : b' < cx.w0.heap.size := (Array.getElem?_eq_some_iff.1 hb').1
  exact ⟨c1, by rw [h.heap, if_neg (by omega)]; exact k1, k2⟩
 ·intro b' o hb' ho
  have hlt : b' < cx.w0.heap.size := (Array.getElem?_eq_some_iff.1 hb').1
  rw [h.heap, if_neg (by omega)]
  exact hs.chg.other b' o hb' ho
/-- .. is laid -/
theorem Sat.iterNew {s : ByteArray} (hs : Sat N cx L a w) : Sat N cx L a (w.iter s 0) := by
 obtain ⟨H, G, hr, hG⟩ := hs.rp
 have hC := Chg.alloc (fun _ _ => False) w (.stringIter s 0)
 exact ⟨hs.siz, hs.dfr, hs.chg.trans (Chg.alloc _ w _), H, G, hr.chg hC fun _ _ _ _ _ _ _ h => h, hG⟩
/-- code runs at a new beginning, and what is no cell stays -/
theorem AW.rebase {c : Code} {cx : CxP P} {o : Obj} {b : Nat} (h : AW P N c Q L) (hs : Sat N cx L a w) (hb : w.heap[b]? = some o) (ho : ∀ c e f, o ≠ Obj.cells c e f) :
  c.wp P (fun e a' w' => ∃ L', Q e L' ∧ Sat N cx L' a' w' ∧ w'.heap[b]? = some o) a w := by
 obtain ⟨H, G, hr, hG1, hG2⟩ := hs.rp
 let S1 : FP := fun x y => ∃ id m t, rts L id m t ∧ m ≠ .ro ∧ G id x y
 have hS1 : ∀ x y, S1 x y → cx.S0 x y ∨ cx.w0.heap.size ≤ x := fun x y ⟨id, m, t, k1, k2, k3⟩ => hG1 id m t k1 k2 x y k3
 let cx1 : CxP P := ⟨⟨w, S1, cx.H0⟩, cx.now hs.chg, fun x y hx => cx.avN (hS1 x y hx)⟩
 have hs1 : Sat N cx1 L a w := ⟨hs.siz, hs.dfr, Chg.refl _ _, H, G, hr, fun id m t k1 k2 x y k3 => .inl ⟨id, m, t, k1, k2, k3⟩, hG2⟩
 refine Code.wp_mono ?_ (h cx1 a w hs1)
 rintro e a' w' ⟨L', hQ, g⟩
 refine ⟨L', hQ, ⟨g.siz, g.dfr, ?_, ?_⟩, g.chg.other b o hb ho⟩
 ·refine ⟨g.chg.os.trans hs.chg.os, g.chg.tape.trans hs.chg.tape, g.chg.output.trans hs.chg.output, Nat.le_trans hs.chg.size g.chg.size, fun i cur e fr hi => ?_, fun i o hi ho => g.chg.other i o (hs.chg.other i o hi ho) ho⟩
  obtain ⟨c1, h1, h2, h3⟩ := hs.chg.cells i cur e fr hi
  obtain ⟨c2, k1, k2, k3⟩ := g.chg.cells i c1 e fr h1
  have hlt : i < cx.w0.heap.size := (Array.getElem?_eq_some_iff.1 hi).1
  refine ⟨c2, k1, k2.trans h2, fun o ho => (k3 o fun hS => ?_).trans (h3 o ho)⟩
  rcases hS1 _ _ hS with h | h
  ·exact ho h
  ·omega
 ·obtain ⟨H', G', r1, r2, r3⟩ := g.rp
  refine ⟨H', G', r1, fun id m t k1 k2 x y k3 => ?_, r3⟩
  rcases r2 id m t k1 k2 x y k3 with h | h
  ·exact hS1 x y h
  ·exact .inr (Nat.le_trans hs.chg.size h)
end
section
variable {P : Program} {ops : Array Oper} {N : Nat} {L : List E}
theorem Oper.wp_mono2 {o : Oper} {a : Act} {w : World} {K K' : Act → World → Prop} {Q Q' : Exit → Act → World → Prop} (h : ∀ a w, K a w → K' a w) (hq : ∀ e a w, e ≠ .normal → Q e a w → Q' e a w)
  (hh : o.wp P a w K Q) : o.wp P a w K' Q' := by
 have hl : LetsOut Q → LetsOut Q' := fun ⟨a, w, k⟩ => ⟨a, w, hq _ _ _ (by intro e; cases e) k⟩
 unfold Oper.wp at *
 generalize (execOp a.eval o).run P w = r at *
 cases r with
 | ok n w' =>
  cases n <;> simp only [Oper.upon] at hh ⊢ <;>
   first
    | exact h _ _ hh
    | exact Calls.mono hh (fun e w'' he => by cases e <;> first | exact h _ _ he | exact hq _ _ _ (by intro e; cases e) he | exact hl he)
    | exact Rows.mono hh (fun _ _ he => h _ _ he)
 | halt x w' => cases x <;> simp only [Oper.upon] at hh ⊢ <;> first | exact hq _ _ _ (by intro e; cases e) hh | exact hh
theorem wpl {Q1 Q : Exit → Act → World → Prop} {l2 : List Oper} (hq : ∀ e a w, e ≠ .normal → Q1 e a w → Q e a w) (hn : ∀ a w, Q1 .normal a w → wpList P ops Q l2 a w) : ∀ {l1 : List Oper} {a : Act} {w : World}, wpList P ops Q1 l1 a w → wpList P ops Q (l1 ++ l2) a w
 | [], a, w, h => hn a w h
 | o :: l1, a, w, h => by
  simp only [wpList, List.cons_append] at h ⊢
  split
  ·rename_i hw
   rw [if_pos hw] at h
   rcases h with h | ⟨h, a', w', k⟩
   ·exact .inl (Oper.wp_mono2 (fun a w k => wpl hq hn k) hq h)
   ·exact .inr ⟨h, a', w', hq _ _ _ (by intro e; cases e) k⟩
  ·rename_i hw
   rw [if_neg hw] at h
   exact wpl hq hn h
end
end Go.Proofs.YtlploojfcmcckaaDoor.VM
namespace Go.Proofs.YtlploojfcmcckaaDoor.VM
open Go Go.RowKit
section
variable {P : Program} {N : Nat} {L : List E} {Q : Exit → List E → Prop}
def Ascii (s : ByteArray) : Prop := ∀ (p : Nat) (h : p < s.size), (s[p]'h).toNat < 128
/-- what is wanted behind the region's other operations -/
def RangeK (P : Program) (N : Nat) (d dn de bi : Nat) (x : Operand) (rest : Code) (Q : Exit → List E → Prop) (L1 : List E) : Prop :=
 ∃ (s : ByteArray) (ι : Type) (J : Value → Nat → ι → List E) (i0 : ι), evX L1 x = .v (.string s) ∧ Ascii s ∧
  (∀ pv, Weak N (putL L1 d (.v pv)) (J pv 0 i0)) ∧ (∀ pv p i, slotL (J pv p i) d = .v pv) ∧
  (∀ pv p i (h : p < s.size), AW P N rest (thenQ (fun L => ∃ i', Weak N L (J pv (p + 1) i')) (blockQ bi Q)) (putL (putL (J pv p i) dn (.t [.v (.bool true), .v (.int .i64 p), .v (.int .i32 (s[p]'h).toNat)])) de (.v (.bool true)))) ∧
  (∀ pv i, AW P N rest (thenQ (fun _ => False) (blockQ bi Q)) (putL (putL (J pv s.size i) dn (.t [.v (.bool false)])) de (.v (.bool false))))
theorem wanted_none (ops : Array Oper) (a : Act) (d : Option Tmp) (op : Op) (ty : TypeId) (pos : String) (af : Array Edge) : Region.wanted ⟨d, op, ty, pos, af, none⟩ (yielded ops a.tmps) = true := rfl
theorem op_value {o : Oper} {a : Act} {w w' : World} {v : Value} {K : Act → World → Prop} {Q : Exit → Act → World → Prop} (h : (execOp a.eval o).run P w = .ok (.value v) w') (k : K (a.put o.dst v) w') : o.wp P a w K Q := by
 unfold Oper.wp
 rw [h]
 exact k
theorem QQ.block {bi : Nat} {cx : Cx} {R : Act → World → Prop} {e : Exit} {a : Act} {w : World} {L : List E} (h : blockQ bi Q e L) (hs : Sat N cx L a w) (hne : e ≠ .normal) : Exit.then R (Exit.inBlock bi (QQ N cx Q)) e a w := by
 cases e with
 | normal => exact absurd rfl hne
 | exit j =>
  simp only [blockQ] at h
  show Exit.inBlock bi (QQ N cx Q) (.exit j) a w
  simp only [Exit.inBlock]
  split
  ·rename_i he; rw [if_pos he] at h; exact ⟨L, h, hs⟩
  ·rename_i he; rw [if_neg he] at h; exact ⟨L, h, hs⟩
 | _ => exact ⟨L, h, hs⟩
theorem AW.rangeS {rid bi rid2 : Nat} {l : List Oper} {d dn de : Nat} {x : Operand} {tx ty ty1 ty2 : TypeId} {pos pos1 pos2 : String} {af af1 af2 : Array Edge} {rest : Code}
  (hl : l = l.dropLast ++ [⟨some d, .range tx x, ty, pos, af, none⟩]) (hd : d < N) (hdn : dn < N) (hde : de < N) (hu : P.underlying tx = some .string)
  (h : AWL P N l.toArray l.dropLast (thenQ (RangeK P N d dn de bi x rest Q) Q) L) :
  AW P N (.seq (.region rid l.toArray false) (.block bi (.loop (.seq (.region rid2 [⟨some dn, .next (.tmp d) true, ty1, pos1, af1, none⟩, ⟨some de, .extract (.tmp dn) 0, ty2, pos2, af2, none⟩].toArray false) rest)))) Q L := fun cx a w hs => by
 refine wp_seq (wp_region_lit ?_)
 have key : wpList P l.toArray (Exit.then (fun a w => (Code.block bi (.loop (.seq (.region rid2 [⟨some dn, .next (.tmp d) true, ty1, pos1, af1, none⟩, ⟨some de, .extract (.tmp dn) 0, ty2, pos2, af2, none⟩].toArray false) rest))).wp P (QQ N cx Q) a w) (QQ N cx Q)) (l.dropLast ++ [⟨some d, .range tx x, ty, pos, af, none⟩]) a w := by
  refine wpl ?_ ?_ (h cx a w hs)
  ·rintro e a w hne ⟨L', h1, h2⟩
   cases e <;> first | exact absurd rfl hne | exact ⟨L', h1, h2⟩
  ·rintro a w ⟨L1, ⟨s, ι, J, i0, hx, has, hw0, hsl, hst, hen⟩, hs⟩
   obtain ⟨H, G, hr, hG⟩ := hs.rp
   have hv : a.eval x = .string s := by
    have := ev_ok hr x
    rw [hx] at this
    exact this
   simp only [wpList, wanted_none, if_true]
   refine .inl ?_
   have hrun : (execOp a.eval ⟨some d, .range tx x, ty, pos, af, none⟩).run P w = .ok (.value (.pointer (some ⟨w.heap.size, 0, none⟩))) (w.iter s 0) := by
    refine run_v ?_
    rw [hv]
    exact run_range_string w tx s hu
   unfold Oper.wp
   rw [hrun]
   show Code.wp P _ (QQ N cx Q) (a.put (some d) _) (w.iter s 0)
   have hs1 : Sat N cx (putL L1 d (.v (.pointer (some ⟨w.heap.size, 0, none⟩)))) (a.put (some d) (.pointer (some ⟨w.heap.size, 0, none⟩))) (w.iter s 0) := by
    have g := hs.iterNew (s := s)
    obtain ⟨H, G, hr, hG⟩ := g.rp
    exact g.put hr hG hd rfl
   have hit : ItAt (w.iter s 0) w.heap.size s 0 := World.iter_heap w s 0
   have hb : cx.w0.heap.size ≤ w.heap.size := hs.chg.size
   generalize hB : w.heap.size = b at *
   generalize hpv : Value.pointer (some ⟨b, 0, none⟩) = pv at *
   have hs2 := hw0 pv _ _ _ hs1
   generalize w.iter s 0 = w1 at *
   generalize a.put (some d) pv = a1 at *
   refine wp_block (wp_loop (fun a w => ∃ n p i, s.size - p = n ∧ p ≤ s.size ∧ Sat N cx (J pv p i) a w ∧ ItAt w b s p) (fun a w => least fun n => ∃ p i, s.size - p = n ∧ p ≤ s.size ∧ Sat N cx (J pv p i) a w ∧ ItAt w b s p) ⟨_, 0, i0, rfl, Nat.zero_le _, hs2, hit⟩ ?_)
   intro a w hI
   obtain ⟨p, i, hn, hp, hsp, hip⟩ := least_spec hI
   refine wp_seq (wp_region_lit ?_)
   obtain ⟨H, G, hr, hG⟩ := hsp.rp
   have hvd : a.eval (.tmp d) = pv := by
    have := ev_ok hr (.tmp d)
    simp only [evX, hsl] at this
    exact this
   simp only [wpList, wanted_none, if_true]
   refine .inl ?_
   by_cases hlt : p < s.size
   ·have hrun : (execOp a.eval ⟨some dn, .next (.tmp d) true, ty1, pos1, af1, none⟩).run P w = .ok (.value (.tuple #[.bool true, .int .i64 p, .int .i32 (s[p]'hlt).toNat])) (w.iterAt b s (p + 1)) := by
     refine run_v ?_
     rw [hvd, ← hpv]
     exact Lib.run_next_ascii_at w b s p ty1 hip hlt (has p hlt)
    refine op_value hrun ?_
    have hs3 : Sat N cx (putL (J pv p i) dn (.t [.v (.bool true), .v (.int .i64 p), .v (.int .i32 (s[p]'hlt).toNat)])) (a.put (some dn) (.tuple #[.bool true, .int .i64 p, .int .i32 (s[p]'hlt).toNat])) (w.iterAt b s (p + 1)) := by
     have g := hsp.iterAt (p' := p + 1) hip hb
     obtain ⟨H, G, hr, hG⟩ := g.rp
     exact g.put hr hG hdn ⟨_, rfl, rfl, rfl, rfl, trivial⟩
    have hi3 : ItAt (w.iterAt b s (p + 1)) b s (p + 1) := by
     have := hip.heap (p' := p + 1) b
     rw [if_pos rfl] at this
     exact this
    generalize w.iterAt b s (p + 1) = w3 at *
    show _ ∨ _
    generalize ha3 : a.put (some dn) (.tuple #[.bool true, .int .i64 p, .int .i32 (s[p]'hlt).toNat]) = a3 at *
    refine .inl ?_
    have hvn : a3.eval (.tmp dn) = .tuple #[.bool true, .int .i64 p, .int .i32 (s[p]'hlt).toNat] := by
     rw [← ha3]
     have := Act.val_put (a := a) (v := Value.tuple #[.bool true, .int .i64 p, .int .i32 (s[p]'hlt).toNat]) (Nat.lt_of_lt_of_le hdn hsp.siz) dn
     simpa [Act.eval, Act.val] using this
    have hrun2 : (execOp a3.eval ⟨some de, .extract (.tmp dn) 0, ty2, pos2, af2, none⟩).run P w3 = .ok (.value (.bool true)) w3 := by
     refine run_v ?_
     rw [hvn]
     rfl
    refine op_value hrun2 ?_
    have hs4 : Sat N cx (putL (putL (J pv p i) dn (.t [.v (.bool true), .v (.int .i64 p), .v (.int .i32 (s[p]'hlt).toNat)])) de (.v (.bool true))) (a3.put (some de) (.bool true)) w3 := by
     obtain ⟨H, G, hr, hG⟩ := hs3.rp
     exact hs3.put hr hG hde rfl
    refine Code.wp_mono ?_ (AW.rebase (hst pv p i hlt) hs4 hi3 (by intro c e f h; cases h))
    rintro e a' w' ⟨L', hq, hs5, hi5⟩
    cases e with
    | normal =>
     obtain ⟨i', hW⟩ := hq
     have hs6 := hW _ _ _ hs5
     have hm : ∃ q i, s.size - q = s.size - (p + 1) ∧ q ≤ s.size ∧ Sat N cx (J pv q i) a' w' ∧ ItAt w' b s q := ⟨p + 1, i', rfl, by omega, hs6, hi5⟩
     exact ⟨⟨_, p + 1, i', rfl, by omega, hs6, hi5⟩, Nat.lt_of_le_of_lt (least_le hm) (by omega)⟩
    | _ => exact QQ.block hq hs5 (by intro e; cases e)
   ·obtain rfl : p = s.size := by omega
    have hrun : (execOp a.eval ⟨some dn, .next (.tmp d) true, ty1, pos1, af1, none⟩).run P w = .ok (.value (.tuple #[.bool false])) w := by
     refine run_v ?_
     rw [hvd, ← hpv]
     exact Lib.run_next_end_at w b s s.size ty1 hip hlt
    refine op_value hrun ?_
    have hs3 : Sat N cx (putL (J pv s.size i) dn (.t [.v (.bool false)])) (a.put (some dn) (.tuple #[.bool false])) w := hsp.put hr hG hdn ⟨_, rfl, rfl, trivial⟩
    show _ ∨ _
    generalize ha3 : a.put (some dn) (.tuple #[.bool false]) = a3 at *
    refine .inl ?_
    have hvn : a3.eval (.tmp dn) = .tuple #[.bool false] := by
     rw [← ha3]
     have := Act.val_put (a := a) (v := Value.tuple #[.bool false]) (Nat.lt_of_lt_of_le hdn hsp.siz) dn
     simpa [Act.eval, Act.val] using this
    have hrun2 : (execOp a3.eval ⟨some de, .extract (.tmp dn) 0, ty2, pos2, af2, none⟩).run P w = .ok (.value (.bool false)) w := by
     refine run_v ?_
     rw [hvn]
     rfl
    refine op_value hrun2 ?_
    have hs4 : Sat N cx (putL (putL (J pv s.size i) dn (.t [.v (.bool false)])) de (.v (.bool false))) (a3.put (some de) (.bool false)) w := by
     obtain ⟨H, G, hr, hG⟩ := hs3.rp
     exact hs3.put hr hG hde rfl
    refine Code.wp_mono ?_ (hen pv i cx _ _ hs4)
    rintro e a' w' ⟨L', hq, hs5⟩
    cases e with
    | normal => exact hq.elim
    | _ => exact QQ.block hq hs5 (by intro e; cases e)
 rw [← hl] at key
 exact key
end
end Go.Proofs.YtlploojfcmcckaaDoor.VM
namespace Go.Proofs.YtlploojfcmcckaaDoor.VM
open Go Go.RowKit
/-! ### a view of a row becomes a row of its own; a node of a tree becomes a root -/
section
variable {P : Program} {N : Nat} {L : List E} {Q : Exit → List E → Prop}
def pickX : X → Nat → X
 | .g xs, i => xs.getD i .j
 | x, _ => x
def setX : X → Nat → X → X
 | .g xs, i, y => .g (xs.set i y)
 | _, _, y => y
end
end Go.Proofs.YtlploojfcmcckaaDoor.VM
namespace Go.Proofs.YtlploojfcmcckaaDoor.VM
open Go Go.RowKit
/-! ### elements of a row go along with an append of a view of it -/
section
variable {L : List E} {val : Nat → Value} {H : Nat → Value} {G : Nat → FP} {w : World}
end
section
variable {P : Program} {N : Nat} {L : List E} {dst : Option Tmp} {ty : TypeId} {pos : String} {af : Array Edge} {gd : Option (Nat × Bool)} {d : Nat}
end
end Go.Proofs.YtlploojfcmcckaaDoor.VM
namespace Go.Proofs.YtlploojfcmcckaaDoor.VM
open Go Go.RowKit Go.Sort
/-! slices.Delete, slices.Insert at rows of n cells, from their runs; a contract over plain cells, lifted to what the cells own -/
end Go.Proofs.YtlploojfcmcckaaDoor.VM
namespace Go.Proofs.YtlploojfcmcckaaDoor.VM
open Go Go.RowKit
/-! ### copy -/
section
variable {L : List E} {val : Nat → Value} {H : Nat → Value} {G : Nat → FP} {w w' : World}
end
section
variable {P : Program} {w : World}
end
end Go.Proofs.YtlploojfcmcckaaDoor.VM
namespace Go.Proofs.YtlploojfcmcckaaDoor.VM
open Go Go.RowKit
section
variable {P : Program} {N : Nat} {L : List E} {dst : Option Tmp} {ty : TypeId} {pos : String} {af : Array Edge} {gd : Option (Nat × Bool)} {d : Nat}
end
end Go.Proofs.YtlploojfcmcckaaDoor.VM
namespace Go.Proofs.YtlploojfcmcckaaDoor.VM
open Go Go.RowKit
/-! ### an element's cells turn one by one -/
def mixF (old : Nat → Nat → T) (new : Nat → T) (k m : Nat) : Nat → Nat → T := fun k' c' => if k' = k ∧ c' < m then new c' else old k' c'
section
variable {old : Nat → Nat → T} {new : Nat → T} {k m n len : Nat}
theorem mixF_at {c : Nat} : mixF old new k m k c = if c < m then new c else old k c := by simp [mixF]
end
/-- rows, those below k as g says, the others as h says -/
def oldF {α : Type} [En α] (g h : Nat → α) (k : Nat) : Nat → Nat → T := fun j c => (En.cs (if j < k then g j else h j)).getD c .j
section
variable {α : Type} [En α] {g h : Nat → α} {k len : Nat}
theorem oldF_at {c : Nat} : oldF g h k k c = (En.cs (h k)).getD c .j := by simp [oldF]
end
theorem isS_j : T.isS .j = false := rfl
attribute [go_sem] mixF_at oldF_at keepN isS_j Bool.not_false Bool.not_true
end Go.Proofs.YtlploojfcmcckaaDoor.VM
set_option linter.all false
namespace Go.Proofs.YtlploojfcmcckaaDoor.VM
open Go Go.RowKit Go.Sort
/-! clear at rows of k cells -/
end Go.Proofs.YtlploojfcmcckaaDoor.VM
set_option linter.all false
namespace Go.Proofs.YtlploojfcmcckaaDoor.VM
open Go Go.RowKit Go.Sort
/-! slices.Insert at numbers, from its run -/
end Go.Proofs.YtlploojfcmcckaaDoor.VM
set_option linter.all false
namespace Go.Proofs.YtlploojfcmcckaaDoor.VM
open Go Go.RowKit
section
variable {N : Nat} {L : List E}
end
end Go.Proofs.YtlploojfcmcckaaDoor.VM
set_option linter.all false
namespace Go.Proofs.YtlploojfcmcckaaDoor.VM
open Go Go.RowKit
section
variable {N : Nat} {L : List E}
end
theorem flatT_v (x : Go.Value) : flatT (.v x) = .v x := rfl
theorem flatT_tr {α : Type} [En α] (l : List α) : flatT (tr l) = .j := rfl
attribute [go_sem] flatT_v flatT_tr setX List.set_cons_zero List.set_cons_succ
end Go.Proofs.YtlploojfcmcckaaDoor.VM
set_option linter.all false
namespace Go.Proofs.YtlploojfcmcckaaDoor.VM
open Go Go.RowKit
section
variable {P : Program} {L : List E} {dst : Option Tmp} {ty : TypeId} {pos : String} {af : Array Edge} {g : Option (Nat × Bool)}
end
def selX : Path → Nat → X → X
 | [], 0, x => (match x with | .j => .c | x => x)
 | _, _, _ => .c
theorem cellX_ji (L : List E) (id : Nat) (q : Path) (n k c : Nat) : cellX L id q n k c .j = selX q k (aliasL L id c) := by
 cases q with
 | nil => cases k <;> rfl
 | cons a q => rfl
theorem selX_j (q : Path) (k : Nat) : selX q k .j = .c := by
 cases q with
 | nil => cases k <;> rfl
 | cons a q => rfl
theorem selX_h (i : Nat) (p : Path) : selX [] 0 (.h i p) = .h i p := rfl
theorem selX_p (i : Nat) (p : Path) (n k c : Nat) : selX [] 0 (.p i p n k c) = .p i p n k c := rfl
theorem selX_a (i : Nat) (p : Path) (n k c : Nat) : selX [] 0 (.a i p n k c) = .a i p n k c := rfl
theorem selX_v (v : Go.Value) : selX [] 0 (.v v) = .v v := rfl
theorem selX_c : selX [] 0 .c = .c := rfl
attribute [go_sem] cellX_ji selX_j selX_h selX_p selX_a selX_v selX_c
end Go.Proofs.YtlploojfcmcckaaDoor.VM
set_option linter.all false
namespace Go.Proofs.YtlploojfcmcckaaDoor.VM
open Go Go.RowKit
/-! short words for the printed walks -/
section
variable {P : Program} {N : Nat} {L L' : List E} {Q : Exit → List E → Prop} {ops : Array Oper} {rest : List Oper} {o : Oper} {qs pend todo : List Nat} {S : Array Bool} {d : Nat} {gb : Bool} {dst : Option Tmp} {x y : Operand} {t t2 ty : TypeId} {pos : String} {af : Array Edge} {g : Option (Nat × Bool)}
theorem sr {id : Nat} {l : List Oper} {c : Code} (h : AWL P N l.toArray l (thenQ (AW P N c Q) Q) L) : AW P N (.seq (.region id l.toArray false) c) Q L := AW.seq (AW.region h)
theorem sr2 {id : Nat} {l : List Oper} {c c2 : Code} (h : AWL P N l.toArray l (thenQ (AW P N c (thenQ (AW P N c2 Q) Q)) (thenQ (AW P N c2 Q) Q)) L) : AW P N (.seq (.seq (.region id l.toArray false) c) c2) Q L := AW.seq (AW.seq (AW.region h))
theorem qm (k : AWL P N ops rest Q (putL L d (evX L x))) (hw : wantL ops L ⟨dst, .move x, ty, pos, af, g⟩ = some gb := by exact rfl) (hgb : gb = true := by exact rfl) (hd : dst = some d := by exact rfl) (hN : d < N := by decide) : AWL P N ops (⟨dst, .move x, ty, pos, af, g⟩ :: rest) Q L := qq Qt.move k hw hgb hd hN
theorem qa (k : AWL P N ops rest Q (putL L d (evX L x))) (hw : wantL ops L ⟨dst, .assign x, ty, pos, af, g⟩ = some gb := by exact rfl) (hgb : gb = true := by exact rfl) (hd : dst = some d := by exact rfl) (hN : d < N := by decide) : AWL P N ops (⟨dst, .assign x, ty, pos, af, g⟩ :: rest) Q L := qq Qt.assign k hw hgb hd hN
theorem ql {id : Nat} {q : Path} {n k c len : Nat} {f : Nat → Nat → T} {m : M} {T0 : T} (hA : Ag P t false) (kk : AWL P N ops rest Q (putL L d (cellX L id q n k c (f k c)))) (hx : evX L x = .p id q n k c := by exact rfl) (hR : rootL L id = some (m, T0) := by exact rfl) (hT : T0.at q = .s n len f := by exact rfl) (hw : wantL ops L ⟨dst, .load t x, ty, pos, af, g⟩ = some gb := by exact rfl) (hgb : gb = true := by exact rfl) (hd : dst = some d := by exact rfl) (hN : d < N := by decide) : AWL P N ops (⟨dst, .load t x, ty, pos, af, g⟩ :: rest) Q L := qq (Qt.load1 hx hR hT hA) kk hw hgb hd hN
theorem qb {op : BinOp} {u v r : Value} (k : AWL P N ops rest Q (putL L d (.v r))) (hx : evX L x = .v u := by exact rfl) (hy : evX L y = .v v := by exact rfl) (hr : pureBin op u v = some r := by exact rfl) (hw : wantL ops L ⟨dst, .binOp op t x y t2, ty, pos, af, g⟩ = some gb := by exact rfl) (hgb : gb = true := by exact rfl) (hd : dst = some d := by exact rfl) (hN : d < N := by decide) : AWL P N ops (⟨dst, .binOp op t x y t2, ty, pos, af, g⟩ :: rest) Q L := qq (Qt.binOp hx hy hr) k hw hgb hd hN
theorem ba {op : BinOp} {u v r : Value} (k : AWL P N ops rest Q (putL L d (.v r))) (hx : evX L x = .v u := by exact rfl) (hy : evX L y = .v v := by exact rfl) (hr : pureBin op u v = some r := by first | exact pbAdd (by omega) | rfl) (hw : wantL ops L ⟨dst, .binOp op t x y t2, ty, pos, af, g⟩ = some gb := by exact rfl) (hgb : gb = true := by exact rfl) (hd : dst = some d := by exact rfl) (hN : d < N := by decide) : AWL P N ops (⟨dst, .binOp op t x y t2, ty, pos, af, g⟩ :: rest) Q L := qq (Qt.binOp hx hy hr) k hw hgb hd hN
theorem rt1 (s : Nat) {fn : Func} {post : X → List E → Prop} (hp : post (retX [slotL L s]) L) (hQ : endQ P fn post .ret L → Q .ret L := by exact fun hq => hq) (hr : fn.results.toList = [.tmp s] := by exact rfl) : AW P N .ret Q L := AW.ret (hQ (endQ_ret (by rw [hr]; exact .cons (.tmp s) .nil) hp))
theorem ae {i : Nat} {X0 : X} (ho : ops[i]? = some o) (h : Qt P o L X0) (k : AWA P N ops qs Q S pend todo (putL L d X0)) (hd : o.dst = some d := by exact rfl) (hp : pend.all (fun k => todo.contains k || k == i || !waits ops k i) = true := by decide +kernel) (hw : wantL ops L o = some gb := by exact rfl) (hgb : gb = true := by exact rfl) (hx : slotL L d = X0 := by exact rfl) : AWA P N ops qs Q S pend (i :: todo) L := AWA.againE ho hd hp (.on hw hgb h) hx k
theorem bx {zt : List T} [hT : TyI P t zt] (k : AWL P N ops rest Q (alsOf (idsL (delR L d)) d (srcs [] zt (evX L x).leaves) (evX L x).leaves 0 ++ putL (.rt d .box (rowT zt.length 1 (srcs [] zt (evX L x).leaves)) :: delR L d) d (.p d [] zt.length 0 0))) (hd : dst = some d := by exact rfl) (hN : d < N := by decide) (hb : d < base := by decide) (hx : (evX L x).flat = true := by exact rfl) (hl : (evX L x).leaves.length = zt.length := by exact rfl) (hz : zpos zt = true := by exact rfl) (ho : (evX L x).leaves.all X.one = true := by exact rfl) (hw : wantL ops L ⟨dst, .box t x, ty, pos, af, g⟩ = some gb := by exact rfl) (hgb : gb = true := by exact rfl) : AWL P N ops (⟨dst, .box t x, ty, pos, af, g⟩ :: rest) Q L := sp (Stp.boxB hd hN hb hx hl hz ho) k hw hgb
theorem qh {e : TypeId} {id : Nat} {q : Path} {n len : Nat} {f : Nat → Nat → T} {m : M} {T0 : T} {tt : TypeId} (hS : Sl P tt e) (k : AWL P N ops rest Q (putL L d (.v (iv len)))) (hx : evX L x = .h id q := by exact rfl) (hR : rootL L id = some (m, T0) := by exact rfl) (hT : T0.at q = .s n len f := by exact rfl) (hw : wantL ops L ⟨dst, .call { callee := .builtin .len, args := #[x], argTypes := #[tt] }, ty, pos, af, g⟩ = some gb := by exact rfl) (hgb : gb = true := by exact rfl) (hd : dst = some d := by exact rfl) (hN : d < N := by decide) : AWL P N ops (⟨dst, .call { callee := .builtin .len, args := #[x], argTypes := #[tt] }, ty, pos, af, g⟩ :: rest) Q L := qq (Qt.lenH hx hR hT hS) k hw hgb hd hN
theorem ix {e : TypeId} {id : Nat} {q : Path} {n len : Nat} {f : Nat → Nat → T} {kd : IntKind} {j : Int} {m : M} {T0 : T} (hS : Sl P t e) (hZ : Sz P e n) (hx : evX L x = .h id q := by exact rfl) (hR : rootL L id = some (m, T0) := by exact rfl) (hT : T0.at q = .s n len f := by exact rfl) (hi : evX L y = .v (.int kd j) := by exact rfl) (hn : 0 < n := by decide) (hj : 0 ≤ j ∧ j < len := by first | omega | grind only) : Qt P ⟨dst, .indexAddr t x y, ty, pos, af, g⟩ L (.p id q n j.toNat 0) := Qt.indexAddr hx hR hT hi hS hZ hn hj
theorem qG {id : Nat} {q : Path} {n k c len : Nat} {f : Nat → Nat → T} {sz : Nat} {m : M} {T0 : T} (hA : Ag P t true) (hZ : Sz P t sz) (kk : AWL P N ops rest Q (putL L d (.g (cellsX L id q n k c f sz)))) (hx : evX L x = .p id q n k c := by exact rfl) (hR : rootL L id = some (m, T0) := by exact rfl) (hT : T0.at q = .s n len f := by exact rfl) (hc : c + sz ≤ n := by decide) (hw : wantL ops L ⟨dst, .load t x, ty, pos, af, g⟩ = some gb := by exact rfl) (hgb : gb = true := by exact rfl) (hd : dst = some d := by exact rfl) (hN : d < N := by decide) : AWL P N ops (⟨dst, .load t x, ty, pos, af, g⟩ :: rest) Q L := qq (Qt.loadG hx hR hT hA hZ hc) kk hw hgb hd hN
theorem ns {R : Exit → List E → Prop} {id : Nat} {l : List Oper} {c : Code} (k : AWL P N l.toArray l (thenQ (AW P N c Q) Q) L') (h : L = L' := by simp only [go_sem, Int.reduceToNat, Nat.reduceLT, reduceIte, Nat.reduceEqDiff, Nat.reduceAdd, Nat.reduceMul, Nat.reduceBEq, reduceCtorEq]; rfl) (hR : AW P N (.seq (.region id l.toArray false) c) Q L' → R .normal L' := by exact fun hq => hq) : AWL P N ops [] R L := nl (hR (sr k)) h
theorem qn (k : Q .normal L') (hw : wantL ops L ⟨dst, .assign x, ty, pos, af, g⟩ = some gb := by exact rfl) (hgb : gb = true := by exact rfl) (hd : dst = some d := by exact rfl) (hN : d < N := by decide) (h : putL L d (evX L x) = L' := by simp only [go_sem, Int.reduceToNat, Nat.reduceLT, reduceIte, Nat.reduceEqDiff, Nat.reduceAdd, Nat.reduceMul, Nat.reduceBEq, reduceCtorEq]; rfl) : AWL P N ops [⟨dst, .assign x, ty, pos, af, g⟩] Q L := qa (nl k h) hw hgb hd hN
theorem qs' {R : Exit → List E → Prop} {id : Nat} {l : List Oper} {c : Code} (k : AWL P N l.toArray l (thenQ (AW P N c Q) Q) L') (hw : wantL ops L ⟨dst, .assign x, ty, pos, af, g⟩ = some gb := by exact rfl) (hgb : gb = true := by exact rfl) (hd : dst = some d := by exact rfl) (hN : d < N := by decide) (h : putL L d (evX L x) = L' := by simp only [go_sem, Int.reduceToNat, Nat.reduceLT, reduceIte, Nat.reduceEqDiff, Nat.reduceAdd, Nat.reduceMul, Nat.reduceBEq, reduceCtorEq]; rfl) (hR : AW P N (.seq (.region id l.toArray false) c) Q L' → R .normal L' := by exact fun hq => hq) : AWL P N ops [⟨dst, .assign x, ty, pos, af, g⟩] R L := qa (nl (hR (sr k)) h) hw hgb hd hN
theorem sA {zt : List T} [hT : TyI P t zt] (hd : dst = some d := by exact rfl) (hN : d < N := by decide) (hb : d < base := by decide) : Stp P N ⟨dst, .alloc t, ty, pos, af, g⟩ L (putL (.rt d .box (zbox zt) :: delR L d) d (.p d [] zt.length 0 0)) := Stp.alloc hd hN hb
theorem sS {e : TypeId} {len : Nat} {parts : Array (Nat × Operand)} {zt : List T} [hS : SlI P t e] [hT : TyI P e zt] {ys : List X} (hd : dst = some d := by exact rfl) (hN : d < N := by decide) (hb : d < base := by decide) (hf : fillX (fun i => some (i * zt.length, zt.length)) ((reps zt len).map T.toX) (evParts L parts) = some ys := by exact rfl) (hsm : len * zt.length ≤ 2 ^ 24 := by decide) (hyl : ys.length = len * zt.length := by exact rfl) (hz : zpos (reps zt len) = true := by exact rfl) (ho : ys.all X.one = true := by exact rfl) (hnd : (movedOf (srcs L (reps zt len) ys)).Nodup := by exact nodup_of rfl) : Stp P N ⟨dst, .buildSlice t len parts, ty, pos, af, g⟩ L (putL (.rt d .row (rowT zt.length len (srcs L (reps zt len) ys)) :: delR (delRs L (movedOf (srcs L (reps zt len) ys))) d) d (.h d [])) := Stp.buildSlice hd hN hb hf hsm hyl hz ho hnd
theorem cd {c : Operand} {c1 c2 : Code} {b : Bool} (ht : b = true → AW P N c1 Q L) (hf : b = false → AW P N c2 Q L) (hc : evX L c = .v (.bool b) := by exact rfl) : AW P N (.cond c c1 c2) Q L := AW.cond hc ht hf
theorem qr {R : Exit → List E → Prop} (s : Nat) {fn : Func} {post : X → List E → Prop} (hp : post (retX [slotL L' s]) L') (hw : wantL ops L ⟨dst, .assign x, ty, pos, af, g⟩ = some gb := by exact rfl) (hgb : gb = true := by exact rfl) (hd : dst = some d := by exact rfl) (hN : d < N := by decide) (h : putL L d (evX L x) = L' := by simp only [go_sem, Int.reduceToNat, Nat.reduceLT, reduceIte, Nat.reduceEqDiff, Nat.reduceAdd, Nat.reduceMul, Nat.reduceBEq, reduceCtorEq]; rfl) (hR : AW P N .ret Q L' → R .normal L' := by exact fun hq => hq) (hQ : endQ P fn post .ret L' → Q .ret L' := by exact fun hq => hq) (hr : fn.results.toList = [.tmp s] := by exact rfl) : AWL P N ops [⟨dst, .assign x, ty, pos, af, g⟩] R L := qn (hR (rt1 s hp hQ hr)) hw hgb hd hN h
theorem nc {R : Exit → List E → Prop} {c : Operand} {c1 c2 : Code} {b : Bool} (ht : b = true → AW P N c1 Q L') (hf : b = false → AW P N c2 Q L') (h : L = L' := by simp only [go_sem, Int.reduceToNat, Nat.reduceLT, reduceIte, Nat.reduceEqDiff, Nat.reduceAdd, Nat.reduceMul, Nat.reduceBEq, reduceCtorEq]; rfl) (hR : AW P N (.cond c c1 c2) Q L' → R .normal L' := by exact fun hq => hq) (hc : evX L' c = .v (.bool b) := by exact rfl) : AWL P N ops [] R L := nl (hR (cd ht hf hc)) h
theorem mn (k : AWL P N ops rest Q L') (hw : wantL ops L ⟨dst, .move x, ty, pos, af, g⟩ = some gb := by exact rfl) (hgb : gb = true := by exact rfl) (hd : dst = some d := by exact rfl) (hN : d < N := by decide) (h : putL L d (evX L x) = L' := by simp only [go_sem, Int.reduceToNat, Nat.reduceLT, reduceIte, Nat.reduceEqDiff, Nat.reduceAdd, Nat.reduceMul, Nat.reduceBEq, reduceCtorEq]; rfl) : AWL P N ops (⟨dst, .move x, ty, pos, af, g⟩ :: rest) Q L := qm (nm k h) hw hgb hd hN
end
theorem ob {P : Program} {f : FuncId} {fn : Func} {c : Code} {xs : List X} {ρ : List E} {post : X → List E → Prop} {n : Nat} (hf : P.funcs[f]? = some fn) (hn : fn.ntmps = n) (h : AW P n c (endQ P fn post) (slotsOf 0 xs ++ ρ)) (hb : fn.body = some c := by exact rfl) (hρ : ∀ t x, E.sl t x ∉ ρ := by simp) : Con P f xs ρ post := Con.of_body hf hb hρ (by rw [hn]; exact h)
end Go.Proofs.YtlploojfcmcckaaDoor.VM
set_option linter.all false
namespace Go.Proofs.YtlploojfcmcckaaDoor.VM
open Go Go.RowKit
/-! walking by itself: a row of letters names the rules -/
class AgI (P : Program) (t : TypeId) (b : outParam Bool) : Prop where
 ok : Ag P t b
class SzI (P : Program) (t : TypeId) (n : outParam Nat) : Prop where
 ok : Sz P t n
class FlI (P : Program) (t : TypeId) (i : Nat) (off : outParam Nat) : Prop where
 ok : Fld P t i off
class BoI (P : Program) (t : TypeId) : Prop where
 ok : P.underlying t = some .bool
class StI (P : Program) (t : TypeId) : Prop where
 ok : P.underlying t = some .string
/-- the letters -/
inductive K
 | m | a | f | l | p | i | b | h | G | e | u | n | q | k | c
 | A | B | S | s
 | N | Z | R | R2 | R1 | J | D (qs : List Nat) | t (i : Nat) | o (i : Nat) (pend' : List Nat) | O (i : Nat) (pend' D : List Nat) | g | x
structure GL (ks : List K) (P : Program) (N : Nat) (ops : Array Oper) (rest : List Oper) (Q : Exit → List E → Prop) (L : List E) where
 G : Prop
 f : G → AWL P N ops rest Q L
structure GW (ks : List K) (P : Program) (N : Nat) (c : Code) (Q : Exit → List E → Prop) (L : List E) where
 G : Prop
 f : G → AW P N c Q L
structure GA (ks : List K) (P : Program) (N : Nat) (ops : Array Oper) (qs : List Nat) (Q : Exit → List E → Prop) (S : Array Bool) (pend todo : List Nat) (L : List E) where
 G : Prop
 f : G → AWA P N ops qs Q S pend todo L
structure GP (ks : List K) (A : Prop) where
 G : Prop
 f : G → A
structure QK (k : K) (P : Program) (o : Oper) (L : List E) (x : X) : Prop where
 h : Qt P o L x
structure SK (k : K) (P : Program) (N : Nat) (o : Oper) (L L' : List E) : Prop where
 h : Stp P N o L L'
section
variable {P : Program} {N : Nat} {L L' : List E} {Q : Exit → List E → Prop} {ops : Array Oper} {rest : List Oper} {o : Oper} {d : Nat} {gb : Bool} {x : X} {c : Code} {A : Prop} {qs pend todo : List Nat} {S : Array Bool} {κ : K} {ks : List K}
@[reducible] def zL : GL [] P N ops rest Q L := ⟨_, fun h => h⟩
@[reducible] def zW : GW [] P N c Q L := ⟨_, fun h => h⟩
@[reducible] def zA : GA [] P N ops qs Q S pend todo L := ⟨_, fun h => h⟩
@[reducible] def zP : GP [] A := ⟨_, fun h => h⟩
@[reducible] def pL (k : GL ks P N ops rest Q L) : GP ks (AWL P N ops rest Q L) := ⟨k.G, k.f⟩
@[reducible] def pW (k : GW ks P N c Q L) : GP ks (AW P N c Q L) := ⟨k.G, k.f⟩
@[reducible] def pA (k : GA ks P N ops qs Q S pend todo L) : GP ks (AWA P N ops qs Q S pend todo L) := ⟨k.G, k.f⟩
@[reducible] def qF (h : QK κ P o L x) (k : GL ks P N ops rest Q (putL L d x)) (hw : wantL ops L o = some gb := by exact rfl) (hgb : gb = true := by first | exact rfl | exact nT (by assumption) | exact nF (by assumption) | assumption) (hd : o.dst = some d := by exact rfl) (hN : d < N := by decide) : GL (κ :: ks) P N ops (o :: rest) Q L := ⟨k.G, fun g => qg hgb h.h (k.f g) hw hd hN⟩
@[reducible] def xF (k : GL ks P N ops rest Q (putL L d (.v undef))) (hw : wantL ops L o = some gb := by exact rfl) (hgb : gb = false := by first | exact rfl | exact nT (by assumption) | exact nF (by assumption) | assumption) (hd : o.dst = some d := by exact rfl) (hN : d < N := by decide) : GL (.x :: ks) P N ops (o :: rest) Q L := ⟨k.G, fun g => og hgb (k.f g) hw hd hN⟩
@[reducible] def sF (h : SK κ P N o L L') (k : GL ks P N ops rest Q L') (hw : wantL ops L o = some gb := by exact rfl) (hgb : gb = true := by exact rfl) : GL (κ :: ks) P N ops (o :: rest) Q L := ⟨k.G, fun g => sp h.h (k.f g) hw hgb⟩
@[reducible] def nFx (k : GL ks P N ops rest Q L') (h : L = L' := by simp only [go_sem, Int.reduceToNat, Nat.reduceLT, reduceIte, Nat.reduceEqDiff, Nat.reduceAdd, Nat.reduceMul, Nat.reduceBEq, reduceCtorEq]; rfl) : GL (.N :: ks) P N ops rest Q L := ⟨k.G, fun g => nm (k.f g) h⟩
@[reducible] def nFa (k : GA ks P N ops qs Q S pend todo L') (h : L = L' := by first | (simp only [go_sem, Int.reduceToNat, Nat.reduceLT, reduceIte, Nat.reduceEqDiff, Nat.reduceAdd, Nat.reduceMul, Nat.reduceBEq, reduceCtorEq]; rfl) | rfl) : GA (.N :: ks) P N ops qs Q S pend todo L := ⟨k.G, fun g => na (k.f g) h⟩
@[reducible] def lF (k : GP ks (Q .normal L')) (h : L = L' := by first | (simp only [go_sem, Int.reduceToNat, Nat.reduceLT, reduceIte, Nat.reduceEqDiff, Nat.reduceAdd, Nat.reduceMul, Nat.reduceBEq, reduceCtorEq]; rfl) | rfl) : GL (.Z :: ks) P N ops [] Q L := ⟨k.G, fun g => nl (k.f g) h⟩
@[reducible] def rF {id : Nat} {l : List Oper} {c : Code} (k : GL ks P N l.toArray l (thenQ (AW P N c Q) Q) L) : GW (.R :: ks) P N (.seq (.region id l.toArray false) c) Q L := ⟨k.G, fun g => sr (k.f g)⟩
@[reducible] def rF1 {id : Nat} {l : List Oper} (k : GL ks P N l.toArray l Q L) : GW (.R1 :: ks) P N (.region id l.toArray false) Q L := ⟨k.G, fun g => AW.region (k.f g)⟩
@[reducible] def rF2 {id : Nat} {l : List Oper} {c c2 : Code} (k : GL ks P N l.toArray l (thenQ (AW P N c (thenQ (AW P N c2 Q) Q)) (thenQ (AW P N c2 Q) Q)) L) : GW (.R2 :: ks) P N (.seq (.seq (.region id l.toArray false) c) c2) Q L := ⟨k.G, fun g => sr2 (k.f g)⟩
@[reducible] def jF (k : GP ks (Q .normal L)) : GW (.J :: ks) P N .skip Q L := ⟨k.G, fun g => jd (k.f g)⟩
@[reducible] def dF {qs : List Nat} {id : Nat} (k : GA ks P N ops qs Q (Array.replicate ops.size false) [] [] L) (hm : P.follows .mixedOrders = true := by exact rfl) (hq : quietB ops N qs = true := by decide +kernel) : GW (.D qs :: ks) P N (.region id ops true) Q L := ⟨k.G, fun g => AW.draw qs hm hq (k.f g)⟩
@[reducible] def tF {i : Nat} (ho : ops[i]? = some o) (h : QK κ P o L x) (k : GA ks P N ops qs Q (S.setIfInBounds i true) (i :: pend) [] (putL L d x)) (hd : o.dst = some d := by exact rfl) (hq' : qs.contains i = true := by exact rfl) (hr : (Region.ready .any ops S).contains i = true := by decide +kernel) (hw : wantL ops L o = some gb := by exact rfl) (hgb : gb = true := by first | exact rfl | exact nT (by assumption) | exact nF (by assumption) | assumption) : GA (.t i :: κ :: ks) P N ops qs Q S pend [] L := ⟨k.G, fun g => tg i ho hgb h.h (k.f g) hd hq' hr hw⟩
@[reducible] def tX {i : Nat} (ho : ops[i]? = some o) (k : GA ks P N ops qs Q (S.setIfInBounds i true) (i :: pend) [] (putL L d (.v undef))) (hd : o.dst = some d := by exact rfl) (hq' : qs.contains i = true := by exact rfl) (hr : (Region.ready .any ops S).contains i = true := by decide +kernel) (hw : wantL ops L o = some gb := by exact rfl) (hgb : gb = false := by first | exact rfl | exact nT (by assumption) | exact nF (by assumption) | assumption) : GA (.t i :: .x :: ks) P N ops qs Q S pend [] L := ⟨k.G, fun g => tf i hgb (k.f g) ho hd hq' hr hw⟩
@[reducible] def oF {j : Nat} {pend' : List Nat} (ho : ops[j]? = some o) (h : SK κ P N o L L') (k : GA ks P N ops qs Q (S.setIfInBounds j true) pend' pend' L') (hw : wantL ops L o = some gb := by exact rfl) (hgb : gb = true := by first | exact rfl | exact nT (by assumption) | exact nF (by assumption) | assumption) (hr : Region.ready .any ops S = [j] := by decide +kernel)
    (hD : chainB ops [j] (pend.filter fun i => !pend'.contains i) = true := by decide +kernel) (hp : (pend.all fun i => pend'.contains i || (pend.filter fun i => !pend'.contains i).contains i) = true := by decide +kernel) (hp' : (pend'.all fun i => pend.contains i) = true := by decide +kernel) : GA (.o j pend' :: κ :: ks) P N ops qs Q S pend [] L := ⟨k.G, fun g => a1 j pend' _ ho hgb h.h (k.f g) hr hw hD hp hp'⟩
@[reducible] def OF {j : Nat} {pend' D : List Nat} (ho : ops[j]? = some o) (h : SK κ P N o L L') (k : GA ks P N ops qs Q (S.setIfInBounds j true) pend' pend' L') (hw : wantL ops L o = some gb := by exact rfl) (hgb : gb = true := by first | exact rfl | exact nT (by assumption) | exact nF (by assumption) | assumption) (hr : Region.ready .any ops S = [j] := by decide +kernel)
  (hD : chainB ops [j] D = true := by decide +kernel) (hp : (pend.all fun i => pend'.contains i || D.contains i) = true := by decide +kernel) (hp' : (pend'.all fun i => pend.contains i) = true := by decide +kernel) : GA (.O j pend' D :: κ :: ks) P N ops qs Q S pend [] L := ⟨k.G, fun g => a1 j pend' D ho hgb h.h (k.f g) hr hw hD hp hp'⟩
@[reducible] def oX {j : Nat} {pend' : List Nat} (ho : ops[j]? = some o) (k : GA ks P N ops qs Q (S.setIfInBounds j true) pend' pend' (putL L d (.v undef))) (hw : wantL ops L o = some gb := by exact rfl) (hgb : gb = false := by first | exact rfl | exact nT (by assumption) | exact nF (by assumption) | assumption) (hd : o.dst = some d := by exact rfl) (hN : d < N := by decide) (hr : Region.ready .any ops S = [j] := by decide +kernel)
    (hD : chainB ops [j] (pend.filter fun i => !pend'.contains i) = true := by decide +kernel) (hp : (pend.all fun i => pend'.contains i || (pend.filter fun i => !pend'.contains i).contains i) = true := by decide +kernel) (hp' : (pend'.all fun i => pend.contains i) = true := by decide +kernel) : GA (.o j pend' :: .x :: ks) P N ops qs Q S pend [] L := ⟨k.G, fun g => o1 j pend' _ ho hgb (k.f g) hr hw hD hp hp' hd hN⟩
@[reducible] def OX {j : Nat} {pend' D : List Nat} (ho : ops[j]? = some o) (k : GA ks P N ops qs Q (S.setIfInBounds j true) pend' pend' (putL L d (.v undef))) (hw : wantL ops L o = some gb := by exact rfl) (hgb : gb = false := by first | exact rfl | exact nT (by assumption) | exact nF (by assumption) | assumption) (hd : o.dst = some d := by exact rfl) (hN : d < N := by decide) (hr : Region.ready .any ops S = [j] := by decide +kernel)
  (hD : chainB ops [j] D = true := by decide +kernel) (hp : (pend.all fun i => pend'.contains i || D.contains i) = true := by decide +kernel) (hp' : (pend'.all fun i => pend.contains i) = true := by decide +kernel) : GA (.O j pend' D :: .x :: ks) P N ops qs Q S pend [] L := ⟨k.G, fun g => o1 j pend' D ho hgb (k.f g) hr hw hD hp hp' hd hN⟩
@[reducible] def gF {i : Nat} (ho : ops[i]? = some o) (h : QK κ P o L x) (k : GA ks P N ops qs Q S pend todo (putL L d x)) (hd : o.dst = some d := by exact rfl) (hp : pend.all (fun k => todo.contains k || k == i || !waits ops k i) = true := by decide +kernel) (hw : wantL ops L o = some gb := by exact rfl) (hgb : gb = true := by first | exact rfl | exact nT (by assumption) | exact nF (by assumption) | assumption) (hx : slotL L d = x := by exact rfl) : GA (.g :: κ :: ks) P N ops qs Q S pend (i :: todo) L := ⟨k.G, fun g => AWA.againE ho hd hp (.on hw hgb h.h) hx (k.f g)⟩
@[reducible] def gX {i : Nat} (ho : ops[i]? = some o) (k : GA ks P N ops qs Q S pend todo (putL L d (.v undef))) (hd : o.dst = some d := by exact rfl) (hp : pend.all (fun k => todo.contains k || k == i || !waits ops k i) = true := by decide +kernel) (hw : wantL ops L o = some gb := by exact rfl) (hgb : gb = false := by first | exact rfl | exact nT (by assumption) | exact nF (by assumption) | assumption) (hx : slotL L d = .v undef := by exact rfl) : GA (.g :: .x :: ks) P N ops qs Q S pend (i :: todo) L := ⟨k.G, fun g => AWA.againE ho hd hp (.off hw hgb) hx (k.f g)⟩
@[reducible] def zF (k : GP ks (Q .normal L')) (hr : Region.ready .any ops S = [] := by decide +kernel) (h : L = L' := by first | (simp only [go_sem, Int.reduceToNat, Nat.reduceLT, reduceIte, Nat.reduceEqDiff, Nat.reduceAdd, Nat.reduceMul, Nat.reduceBEq, reduceCtorEq]; rfl) | rfl) : GA (.Z :: ks) P N ops qs Q S pend [] L := ⟨k.G, fun g => nz (k.f g) hr h⟩
end
theorem ws {N : Nat} {L L' : List E} (h : hasS L L' := by repeat (first | exact trivial | refine ⟨(by first | exact ⟨rfl, rfl⟩ | exact Rf rfl | rfl | exact st1), ?_⟩)) (hc : closedB (idsL L') L' = true := by exact rfl) (hu : nodupB (idsL L') = true := by exact rfl) : Weak N L L' := Weak.sim h hc hu
theorem kQ (κ : K) {P : Program} {o : Oper} {L : List E} {x : X} (h : Qt P o L x) : QK κ P o L x := ⟨h⟩
theorem kS (κ : K) {P : Program} {N : Nat} {o : Oper} {L L' : List E} (h : Stp P N o L L') : SK κ P N o L L' := ⟨h⟩
/-- .. as the letters say -/
theorem go (ks : List K) {G : Prop} (he : GP ks G := by
  first | refine pW ?_ | refine pL ?_ | refine pA ?_
  repeat
    first
      | (show GL (.N :: _) _ _ _ _ _ _; refine nFx ?_)
      | (show GL (.m :: _) _ _ _ _ _ _; refine qF (kQ .m Qt.move) ?_)
      | (show GL (.f :: _) _ _ _ _ _ _; refine qF (kQ .f (fA FlI.ok)) ?_)
      | (show GL (.l :: _) _ _ _ _ _ _; refine qF (kQ .l (Qt.load1 rfl rfl rfl AgI.ok)) ?_)
      | (show GL (.a :: _) _ _ _ _ _ _; refine qF (kQ .a Qt.assign) ?_)
      | (show GL _ _ _ _ _ _ _; first
          | (show GL (.p :: _) _ _ _ _ _ _; refine qF (kQ .p (Qt.nilCheck rfl)) ?_)
          | (show GL (.b :: _) _ _ _ _ _ _; refine qF (kQ .b (Qt.binOp rfl rfl (by first | exact pbAdd (by omega) | exact pbSub (by omega) | exact pbMul (by omega) | rfl))) ?_)
          | (show GL (.i :: _) _ _ _ _ _ _; refine qF (kQ .i (Qt.indexAddr rfl rfl rfl rfl SlI.sl SzI.ok (by decide) (by first | omega | grind only))) ?_)
          | (show GL (.h :: _) _ _ _ _ _ _; refine qF (kQ .h (Qt.lenH rfl rfl rfl SlI.sl)) ?_)
          | (show GL (.G :: _) _ _ _ _ _ _; refine qF (kQ .G (Qt.loadG rfl rfl rfl AgI.ok SzI.ok (by decide))) ?_)
          | (show GL (.e :: _) _ _ _ _ _ _; refine qF (kQ .e (Qt.extract rfl (of_decide_eq_true rfl))) ?_)
          | (show GL (.u :: _) _ _ _ _ _ _; refine qF (kQ .u (Qt.build rfl)) ?_)
          | (show GL (.n :: _) _ _ _ _ _ _; refine qF (kQ .n (Qt.notB rfl)) ?_)
          | (show GL (.q :: _) _ _ _ _ _ _; refine qF (kQ .q (Qt.eqB rfl rfl BoI.ok)) ?_)
          | (show GL (.k :: _) _ _ _ _ _ _; refine qF (kQ .k (Qt.neB rfl rfl BoI.ok)) ?_)
          | (show GL (.c :: _) _ _ _ _ _ _; refine qF (kQ .c (Qt.lenS rfl StI.ok)) ?_)
          | (show GL (.Z :: _) _ _ _ _ _ _; refine lF ?_; (first | refine pW ?_ | refine pL ?_ | refine pA ?_ | exact zP))
          | (show GL (.s :: _) _ _ _ _ _ _; refine sF (kS .s (by first | exact Stp.storeA rfl rfl rfl rfl (by decide) rfl | exact Stp.store rfl rfl (by simp) rfl rfl rfl (by decide) rfl)) ?_)
          | (show GL (.A :: _) _ _ _ _ _ _; refine sF (kS .A sA) ?_)
          | (show GL (.B :: _) _ _ _ _ _ _; refine sF (kS .B (Stp.boxB rfl (by decide) (by decide) rfl rfl rfl rfl)) ?_)
          | (show GL (.S :: _) _ _ _ _ _ _; refine sF (kS .S sS) ?_)
          | (show GL (.x :: _) _ _ _ _ _ _; refine xF ?_)
          | (show GL [] _ _ _ _ _ _; exact zL))
      | (show GA _ _ _ _ _ _ _ _ _ _; first
          | (show GA (.N :: _) _ _ _ _ _ _ _ _ _; refine nFa ?_)
          | (show GA (.t _ :: .x :: _) _ _ _ _ _ _ _ _ _; refine tX rfl ?_)
          | (show GA (.t _ :: .m :: _) _ _ _ _ _ _ _ _ _; refine tF rfl (kQ .m Qt.move) ?_)
          | (show GA (.t _ :: .f :: _) _ _ _ _ _ _ _ _ _; refine tF rfl (kQ .f (fA FlI.ok)) ?_)
          | (show GA (.t _ :: .l :: _) _ _ _ _ _ _ _ _ _; refine tF rfl (kQ .l (Qt.load1 rfl rfl rfl AgI.ok)) ?_)
          | (show GA (.t _ :: .a :: _) _ _ _ _ _ _ _ _ _; refine tF rfl (kQ .a Qt.assign) ?_)
          | (show GA (.g :: _ :: _) _ _ _ _ _ _ _ _ _; first
              | (show GA (.g :: .x :: _) _ _ _ _ _ _ _ _ _; refine gX rfl ?_)
              | (show GA (.g :: .m :: _) _ _ _ _ _ _ _ _ _; refine gF rfl (kQ .m Qt.move) ?_)
              | (show GA (.g :: .f :: _) _ _ _ _ _ _ _ _ _; refine gF rfl (kQ .f (fA FlI.ok)) ?_)
              | (show GA (.g :: .l :: _) _ _ _ _ _ _ _ _ _; refine gF rfl (kQ .l (Qt.load1 rfl rfl rfl AgI.ok)) ?_)
              | (show GA (.g :: .a :: _) _ _ _ _ _ _ _ _ _; refine gF rfl (kQ .a Qt.assign) ?_)
              | (show GA (.g :: .p :: _) _ _ _ _ _ _ _ _ _; refine gF rfl (kQ .p (Qt.nilCheck rfl)) ?_)
              | (show GA (.g :: .b :: _) _ _ _ _ _ _ _ _ _; refine gF rfl (kQ .b (Qt.binOp rfl rfl (by first | exact pbAdd (by omega) | exact pbSub (by omega) | exact pbMul (by omega) | rfl))) ?_)
              | (show GA (.g :: .i :: _) _ _ _ _ _ _ _ _ _; refine gF rfl (kQ .i (Qt.indexAddr rfl rfl rfl rfl SlI.sl SzI.ok (by decide) (by first | omega | grind only))) ?_)
              | (show GA (.g :: .h :: _) _ _ _ _ _ _ _ _ _; refine gF rfl (kQ .h (Qt.lenH rfl rfl rfl SlI.sl)) ?_)
              | (show GA (.g :: .G :: _) _ _ _ _ _ _ _ _ _; refine gF rfl (kQ .G (Qt.loadG rfl rfl rfl AgI.ok SzI.ok (by decide))) ?_)
              | (show GA (.g :: .e :: _) _ _ _ _ _ _ _ _ _; refine gF rfl (kQ .e (Qt.extract rfl (of_decide_eq_true rfl))) ?_)
              | (show GA (.g :: .u :: _) _ _ _ _ _ _ _ _ _; refine gF rfl (kQ .u (Qt.build rfl)) ?_)
              | (show GA (.g :: .n :: _) _ _ _ _ _ _ _ _ _; refine gF rfl (kQ .n (Qt.notB rfl)) ?_)
              | (show GA (.g :: .q :: _) _ _ _ _ _ _ _ _ _; refine gF rfl (kQ .q (Qt.eqB rfl rfl BoI.ok)) ?_)
              | (show GA (.g :: .k :: _) _ _ _ _ _ _ _ _ _; refine gF rfl (kQ .k (Qt.neB rfl rfl BoI.ok)) ?_)
              | (show GA (.g :: .c :: _) _ _ _ _ _ _ _ _ _; refine gF rfl (kQ .c (Qt.lenS rfl StI.ok)) ?_))
          | (show GA (.t _ :: .p :: _) _ _ _ _ _ _ _ _ _; refine tF rfl (kQ .p (Qt.nilCheck rfl)) ?_)
          | (show GA (.t _ :: .b :: _) _ _ _ _ _ _ _ _ _; refine tF rfl (kQ .b (Qt.binOp rfl rfl (by first | exact pbAdd (by omega) | exact pbSub (by omega) | exact pbMul (by omega) | rfl))) ?_)
          | (show GA (.t _ :: .i :: _) _ _ _ _ _ _ _ _ _; refine tF rfl (kQ .i (Qt.indexAddr rfl rfl rfl rfl SlI.sl SzI.ok (by decide) (by first | omega | grind only))) ?_)
          | (show GA (.t _ :: .h :: _) _ _ _ _ _ _ _ _ _; refine tF rfl (kQ .h (Qt.lenH rfl rfl rfl SlI.sl)) ?_)
          | (show GA (.t _ :: .G :: _) _ _ _ _ _ _ _ _ _; refine tF rfl (kQ .G (Qt.loadG rfl rfl rfl AgI.ok SzI.ok (by decide))) ?_)
          | (show GA (.t _ :: .e :: _) _ _ _ _ _ _ _ _ _; refine tF rfl (kQ .e (Qt.extract rfl (of_decide_eq_true rfl))) ?_)
          | (show GA (.t _ :: .u :: _) _ _ _ _ _ _ _ _ _; refine tF rfl (kQ .u (Qt.build rfl)) ?_)
          | (show GA (.t _ :: .n :: _) _ _ _ _ _ _ _ _ _; refine tF rfl (kQ .n (Qt.notB rfl)) ?_)
          | (show GA (.t _ :: .q :: _) _ _ _ _ _ _ _ _ _; refine tF rfl (kQ .q (Qt.eqB rfl rfl BoI.ok)) ?_)
          | (show GA (.t _ :: .k :: _) _ _ _ _ _ _ _ _ _; refine tF rfl (kQ .k (Qt.neB rfl rfl BoI.ok)) ?_)
          | (show GA (.t _ :: .c :: _) _ _ _ _ _ _ _ _ _; refine tF rfl (kQ .c (Qt.lenS rfl StI.ok)) ?_)
          | (show GA (.o _ _ :: .x :: _) _ _ _ _ _ _ _ _ _; refine oX rfl ?_)
          | (show GA (.o _ _ :: .s :: _) _ _ _ _ _ _ _ _ _; refine oF rfl (kS .s (by first | exact Stp.storeA rfl rfl rfl rfl (by decide) rfl | exact Stp.store rfl rfl (by simp) rfl rfl rfl (by decide) rfl)) ?_)
          | (show GA (.o _ _ :: .A :: _) _ _ _ _ _ _ _ _ _; refine oF rfl (kS .A sA) ?_)
          | (show GA (.o _ _ :: .B :: _) _ _ _ _ _ _ _ _ _; refine oF rfl (kS .B (Stp.boxB rfl (by decide) (by decide) rfl rfl rfl rfl)) ?_)
          | (show GA (.o _ _ :: .S :: _) _ _ _ _ _ _ _ _ _; refine oF rfl (kS .S sS) ?_)
          | (show GA (.O _ _ _ :: .x :: _) _ _ _ _ _ _ _ _ _; refine OX rfl ?_)
          | (show GA (.O _ _ _ :: .s :: _) _ _ _ _ _ _ _ _ _; refine OF rfl (kS .s (by first | exact Stp.storeA rfl rfl rfl rfl (by decide) rfl | exact Stp.store rfl rfl (by simp) rfl rfl rfl (by decide) rfl)) ?_)
          | (show GA (.O _ _ _ :: .A :: _) _ _ _ _ _ _ _ _ _; refine OF rfl (kS .A sA) ?_)
          | (show GA (.O _ _ _ :: .B :: _) _ _ _ _ _ _ _ _ _; refine OF rfl (kS .B (Stp.boxB rfl (by decide) (by decide) rfl rfl rfl rfl)) ?_)
          | (show GA (.O _ _ _ :: .S :: _) _ _ _ _ _ _ _ _ _; refine OF rfl (kS .S sS) ?_)
          | (show GA (.Z :: _) _ _ _ _ _ _ _ _ _; refine zF ?_; (first | refine pW ?_ | refine pL ?_ | refine pA ?_ | exact zP))
          | (show GA [] _ _ _ _ _ _ _ _ _; exact zA))
      | (show GW _ _ _ _ _ _; first
          | (show GW (.R :: _) _ _ _ _ _; refine rF ?_)
          | (show GW (.R2 :: _) _ _ _ _ _; refine rF2 ?_)
          | (show GW (.R1 :: _) _ _ _ _ _; refine rF1 ?_)
          | (show GW (.J :: _) _ _ _ _ _; refine jF ?_; (first | refine pW ?_ | refine pL ?_ | refine pA ?_ | exact zP))
          | (show GW (.D _ :: _) _ _ _ _ _; refine dF ?_)
          | (show GW [] _ _ _ _ _; exact zW))
      | exact zP) (k : he.G) : G := he.f k
end Go.Proofs.YtlploojfcmcckaaDoor.VM
