/- Trees of owned cells, states over them, and rules to walk by. No conditions. -/
import Derived.LaidEql
import Derived.Laws.NewBlocks
import Derived.Lib.Hide
import Derived.Lib.Join
import Derived.Lib.OthersKept
import Derived.Lib.SliceRun
import Derived.Shelf.Slices.Empties
import Derived.Shelf.Slices.SearchI
import Derived.Shelf.Spec.SlicesInsertGrow
import Derived.Sort.Grow
import Derived.Sort.Row
import Derived.Test.YtlploojfcmcckaaDoorVmB
set_option linter.all false
namespace Go.Proofs.YtlploojfcmcckaaDoor.VM
open Go Go.RowKit
section
variable {L : List E} {val : Nat → Value} {H : Nat → Value} {G : Nat → FP} {w w' : World} {P : Program} {N : Nat} {cx : Cx} {a : Act}
theorem src0_ok (hr : Rp L val H G w) {z : T} {x : X} {v : Value} (hz : zpos [z] = true) (h : VR (rts L) H w x v) (hx : x.one = true) : Own w (srcT [] z x).1 (fun _ _ => False) v ∧ (srcT [] z x).2 = none := by
 have hj : Own w .j (fun _ _ => False) v := ⟨hr.ones x v h hx, fun _ _ h => h⟩
 cases x with
 | v y =>
  have hv : v = y := h
  subst hv
  simp only [srcT]
  split
  ·rename_i n l f
   split
   ·exact ⟨ZC.own (t := .s n 0 fun _ _ => .j) ⟨by simpa [zpos] using hz, rfl, rfl⟩, rfl⟩
   ·exact ⟨⟨rfl, hx, fun _ _ h => h⟩, rfl⟩
  ·exact ⟨⟨rfl, hx, fun _ _ h => h⟩, rfl⟩
 | h id q =>
  simp only [srcT]
  split
  ·simp only [rootL]; exact ⟨hj, trivial⟩
  ·exact ⟨hj, rfl⟩
 | _ => exact ⟨hj, rfl⟩
theorem srcs0_ok (hr : Rp L val H G w) : ∀ {zs : List T} {xs : List X} {vs : List Value}, zs.length = xs.length → zpos zs = true → VRs (rts L) H w xs vs → xs.all X.one = true →
  (srcs [] zs xs).length = xs.length ∧ ∀ i v, vs[i]? = some v → Own w ((srcs [] zs xs).getD i (.j, none)).1 (fun _ _ => False) v ∧ ((srcs [] zs xs).getD i (.j, none)).2 = none
 | [], [], [], _, _, _, _ => ⟨rfl, fun i v h => by simp at h⟩
 | z :: zs, x :: xs, v :: vs, hl, hz, ⟨h1, h2⟩, ho => by
  simp only [List.all_cons, Bool.and_eq_true] at ho
  have hz2 : zpos [z] = true ∧ zpos zs = true := by
   cases z <;> simp [zpos] at hz ⊢ <;> exact hz
  obtain ⟨g1, g2⟩ := srcs0_ok hr (zs := zs) (by simpa using hl) hz2.2 h2 ho.2
  refine ⟨by simp [srcs, g1], fun i u hu => ?_⟩
  cases i with
  | zero =>
   simp only [List.getElem?_cons_zero, Option.some.injEq] at hu
   subst hu
   exact src0_ok hr hz2.1 h1 ho.1
  | succ i => exact g2 i u (by simpa using hu)
 | [], _ :: _, _, hl, _, _, _ => by simp at hl
 | _ :: _, [], _, hl, _, _, _ => by simp at hl
 | _ :: _, _ :: _, [], _, _, h, _ => h.elim
 | [], [], _ :: _, _, _, h, _ => h.elim
end

section
variable {P : Program} {N : Nat} {L : List E} {dst : Option Tmp} {ty : TypeId} {pos : String} {af : Array Edge} {g : Option (Nat × Bool)} {d : Nat}
/-- a local variable that begins with a value; rows that it shows stay where they are -/
theorem Stp.boxB {t : TypeId} {x : Operand} {zt : List T} [hT : TyI P t zt] (hd : dst = some d) (hN : d < N) (hb : d < base) (hx : (evX L x).flat = true) (hl : (evX L x).leaves.length = zt.length) (hz : zpos zt = true) (ho : (evX L x).leaves.all X.one = true) : Stp P N ⟨dst, .box t x, ty, pos, af, g⟩ L
   (alsOf (idsL (delR L d)) d (srcs [] zt (evX L x).leaves) (evX L x).leaves 0 ++ putL (.rt d .box (rowT zt.length 1 (srcs [] zt (evX L x).leaves)) :: delR L d) d (.p d [] zt.length 0 0)) :=
 Stp.op (fun cx a w hs => by
  obtain ⟨H, G, hr, hG⟩ := hs.rp
  have hv := (ev_ok hr x).cells hr.ones hx
  obtain ⟨q1, q2⟩ := srcs0_ok hr hl.symm hz hv ho
  have hC : Chg (fun _ _ => False) w (w.alloc (.cells (a.eval x).cells t)) := Chg.alloc _ _ _
  have hcs : (a.eval x).cells.size = zt.length := by have := hv.len; simp only [Array.length_toList] at this; omega
  have hold : ∀ id m t, rts L id m t → ∀ x y, G id x y → x < w.heap.size := fun id m t h x y hg => by
   by_cases hm : m = .ro
   ·subst hm; exact hr.rold id t h x y hg
   ·exact (hr.own id m t h hm).old x y hg
  have g1 := Own.alloc (w := w) (n := zt.length) (len := 1) (cap := 1) (f := fun k c => ((srcs [] zt (evX L x).leaves).getD (k * zt.length + c) (.j, none)).1) hT.pos (Nat.le_refl _) (by simp [maxLen]) (cs := (a.eval x).cells) (e := t) (by omega) (fun _ _ => fun _ _ => False) (fun k c hk hc => by
   have hlt : k * zt.length + c < (a.eval x).cells.size := by
    rw [show k = 0 by omega]; omega
   exact ⟨(a.eval x).cells[k * zt.length + c], by simp [hlt], (q2 _ _ (by simp [hlt])).1⟩) (fun _ _ _ _ _ _ _ _ _ _ _ h => h.elim)
  generalize hF : (fun a o => (0 < 1 ∧ blkFP w.heap.size a o) ∨ ∃ k c, k < 1 ∧ c < zt.length ∧ False) = F at g1
  have hFn : ∀ a o, F a o → a = w.heap.size := fun a o h => by
   rw [← hF] at h
   rcases h with ⟨_, h⟩ | ⟨_, _, _, _, h⟩
   ·exact h
   ·exact h.elim
  have g2 : ∀ id m t, rts L id m t → ∀ a o, G id a o → F a o → False := fun id m t h a o hg hf => by
   have := hold id m t h a o hg
   have := hFn a o hf
   omega
  have g3 : ∀ a o, F a o → cx.S0 a o ∨ cx.w0.heap.size ≤ a := fun a o hf => by
   have := hFn a o hf
   have := hs.chg.size
   exact .inr (by omega)
  refine ⟨.pointer (some ⟨w.heap.size, 0, none⟩), w.alloc (.cells (a.eval x).cells t), run_v (by simp [Instr.box, newVar, newRow]), ?_⟩
  rw [hd]
  generalize hss : srcs [] zt (evX L x).leaves = ss at *
  have h1 := (hr.chg hC fun _ _ _ _ _ _ _ h => h).new d (m := .box) (by simp) g1 (fun _ => ⟨_, _, rfl⟩) (fun id m t _ h => g2 id m t h)
  have hbox := VR.box (o := w.heap.size) (R := rts (.rt d .box (rowT zt.length 1 ss) :: delR L d)) (H := updN H d (.slice (some ⟨w.heap.size, 0, none⟩) 1 1)) (w := w.alloc (.cells (a.eval x).cells t)) (m := .box) (List.mem_cons_self ..) hT.pos (by simp [updN])
  have h2 := (h1.put (d := d) hbox).val fun t => (Act.val_put (a := a) (v := .pointer (some ⟨w.heap.size, 0, none⟩)) (Nat.lt_of_lt_of_le hN hs.siz) t).symm
  have hA : ∀ e ∈ alsOf (idsL (delR L d)) d ss (evX L x).leaves 0, ∃ id c x, e = E.al id c x := fun e he => by
   obtain ⟨k, y, h, _⟩ := alsOf_mem he; exact ⟨_, _, _, h⟩
  have hsat := hs.new (cx := cx) hr hG hC hN hb (m := .box) (by simp) g1 (fun _ => ⟨_, _, rfl⟩) (fun id m t _ h => g2 id m t h) g3 hbox
  obtain ⟨_, _, hs3, _⟩ := hsat
  refine ⟨by simpa [Go.Act.put] using hs.siz, by simpa [Go.Act.put] using hs.dfr, hs3, updN H d (.slice (some ⟨w.heap.size, 0, none⟩) 1 1), updN G d F, h2.als fun e he => ?_, ?_⟩
  ·obtain ⟨k, y, rfl, hk1, hk2, hk3⟩ := alsOf_mem he
   refine ⟨d, 0 + k, y, rfl, zt.length, _, by rw [rts_put]; exact List.mem_cons_self .., ?_, ?_⟩
   ·have hlt : k < (evX L x).leaves.length := by
     rcases Nat.lt_or_ge k (evX L x).leaves.length with h | h
     ·exact h
     ·rw [List.getElem?_eq_none h] at hk1; cases hk1
    omega
   ·have hlt : k < (a.eval x).cells.size := by
     have h6 := hv.len
     rcases Nat.lt_or_ge k (evX L x).leaves.length with h | h
     ·simp only [Array.length_toList] at h6; omega
     ·rw [List.getElem?_eq_none h] at hk1; cases hk1
    have hcell : (w.alloc (.cells (a.eval x).cells t)).cell? ⟨w.heap.size, k, none⟩ = some (a.eval x).cells[k] := by
     have hbk : (w.alloc (.cells (a.eval x).cells t)).heap[w.heap.size]? = some (.cells (a.eval x).cells t (0, 0)) := Array.getElem?_push_size
     simp only [World.cell?, hbk, Option.isSome_none, Bool.false_eq_true, if_false]
     exact Array.getElem?_eq_getElem hlt
    refine ⟨⟨w.heap.size, k, none⟩, (a.eval x).cells[k], by simp [updN, adr], hcell, ?_⟩
    have hvk := hv.nth.2 k
    rw [List.getD_eq_getElem?_getD, hk1] at hvk
    have : ((a.eval x).cells.toList.getD k undef) = (a.eval x).cells[k] := by simp [hlt]
    rw [this] at hvk
    simp only [Option.getD_some] at hvk
    rw [rts_put]
    refine VR.leaves (C := fun x => x.inB (idsL (delR L d)) = true) (fun z u hl' hz' hu => ?_) (X.inB_all hk3) (VR.chg hr hC (fun _ _ _ _ _ _ _ h => h) hvk)
    have hin : ∀ id, (idsL (delR L d)).contains id = true → ∀ m t, rts L id m t → rts (.rt d .box (rowT zt.length 1 ss) :: delR L d) id m t ∧ updN H d (.slice (some ⟨w.heap.size, 0, none⟩) 1 1) id = H id := fun id hi m t hh => by
     obtain ⟨m', t', h'⟩ := idsL_mem.1 (by simpa using hi)
     obtain ⟨h8, h9⟩ := rts_delR.1 h'
     obtain ⟨rfl, rfl⟩ := hr.one _ _ _ _ _ hh h8
     exact ⟨List.mem_cons_of_mem _ h', by simp [updN, h9]⟩
    cases z with
    | p id q n k c => obtain ⟨m, t, h1, h2⟩ := hu; have := hin id (by simpa [X.inB] using hz') _ _ h1; exact ⟨m, t, this.1, by rw [this.2]; exact h2⟩
    | h id q => obtain ⟨m, t, h1, h2⟩ := hu; have := hin id (by simpa [X.inB] using hz') _ _ h1; exact ⟨m, t, this.1, by rw [this.2]; exact h2⟩
    | a id q n lo len => obtain ⟨m, t, h1, h2⟩ := hu; have := hin id (by simpa [X.inB] using hz') _ _ h1; exact ⟨m, t, this.1, by rw [this.2]; exact h2⟩
    | _ => exact hl'.elim
  ·rw [rts_als hA, rts_put]
   refine ⟨fun id m' t' k1 k2 x y k3 => ?_, fun id m' t' k0 k1 => ?_⟩
   ·by_cases e : id = d
    ·subst e
     simp only [updN, if_true] at k3
     exact g3 x y k3
    ·simp only [updN, e, if_false] at k3
     rcases List.mem_cons.1 k1 with k1 | k1
     ·cases k1; exact absurd rfl e
     ·exact hG.1 id m' t' (rts_delR.1 k1).1 k2 x y k3
   ·have e : id ≠ d := by omega
    simp only [updN, e, if_false]
    rcases List.mem_cons.1 k1 with k1 | k1
    ·cases k1; exact absurd rfl e
    ·exact hG.2 id m' t' k0 (rts_delR.1 k1).1)
end

/-! ### stores into local variables: rows stay where they are -/
def X.er (x : X) : X := if x.ptrB then .c else x
def alA (L : List E) (id c : Nat) (x : X) : List E := if x.ptrB && x.inB (idsL L) then .al id c x :: L else L
def stLA (L : List E) (id : Nat) (t : T) (n c : Nat) (z : T) (x : X) : List E := alA (stL L id t [] n 0 c (srcT [] z x.er)) id c x
def stOkA (id : Nat) (n c : Nat) (z : T) (x : X) (xs : List X) : Bool := x.one && zpos [z] && (x :: xs).all (fun y => !X.thr id [(n, 0, c)] y)
def stCellsA (id : Nat) (n : Nat) : Nat → List T → List X → List E → T → Option (List E)
 | c, z :: zs, x :: xs, L, t =>
  if stOkA id n c z x xs = true then
   stCellsA id n (c + 1) zs xs (stLA L id t n c z x) (t.put [] 0 c (srcT [] z x.er).1)
  else none
 | _, [], [], L, _ => some L
 | _, _, _, _, _ => none
theorem er_src (L : List E) (z : T) (x : X) : srcT L z x.er = srcT [] z x.er := by
 unfold X.er
 split
 ·rfl
 ·rename_i h
  cases x <;> simp [X.ptrB] at h <;> rfl
theorem er_src2 (z : T) (x : X) : (srcT [] z x.er).2 = none := by
 unfold X.er
 split
 ·rfl
 ·rename_i h
  cases x <;> simp [X.ptrB] at h <;> simp only [srcT]
  split
  ·split <;> rfl
  ·rfl
section
variable {L : List E} {val : Nat → Value} {H : Nat → Value} {G : Nat → FP} {w w' : World} {cx : Cx} {P : Program}
theorem rts_alA {id c : Nat} {x : X} : rts (alA L id c x) = rts L := by
 unfold alA
 split
 ·funext i m t
  simp [rts]
 ·rfl
theorem er_vr (hr : Rp L val H G w) {x : X} {v : Value} (h : VR (rts L) H w x v) (hx : x.one = true) : VR (rts L) H w x.er v := by
 unfold X.er
 split
 ·exact hr.ones x v h hx
 ·exact h
theorem er_one {x : X} (hx : x.one = true) : x.er.one = true := by
 unfold X.er; split
 ·rfl
 ·exact hx
theorem cells_storeA {id : Nat} {n b o : Nat} : ∀ (zs : List T) (xs : List X) (vs : List Value) (c : Nat) (L : List E) (t : T) (G : Nat → FP) (w : World) {L' : List E}, Rp L val H G w → Good cx L H G → Chg cx.S0 cx.w0 w → rts L id .box t → (∃ f, t = .s n 1 f) → c + zs.length ≤ n →
  VR (rts L) H w (.p id [] n 0 0) (.pointer (some ⟨b, o, none⟩)) → VRs (rts L) H w xs vs → stCellsA id n c zs xs L t = some L' →
  ∃ w' G', (storeCells ⟨b, o, none⟩ vs c).run P w = .ok () w' ∧ Rp L' val H G' w' ∧ Good cx L' H G' ∧ Chg cx.S0 cx.w0 w'
 | [], [], [], c, L, t, G, w, L', hr, hG, hch, _, _, _, _, _, e => by
  simp only [stCellsA, Option.some.injEq] at e; subst e
  exact ⟨w, G, rfl, hr, hG, hch⟩
 | z :: zs, x :: xs, v :: vs, i, L, t, G, w, L', hr, hG, hch, hid, ⟨f, ht⟩, hc, hp, ⟨hv, hvs⟩, e => by
  rw [stCellsA] at e
  split at e
  ·rename_i hcond
   simp only [stOkA, Bool.and_eq_true, List.all_cons, Bool.not_eq_true'] at hcond
   obtain ⟨⟨c1, c3⟩, c5, c4⟩ := hcond
   simp only [List.length_cons] at hc
   have hat : t.at [] = .s n 1 f := by rw [ht]; simp [T.at]
   have hne : (srcT L z x.er).2 ≠ some id := by rw [er_src, er_src2]; simp
   obtain ⟨h', b', o', sz, G', e1, e2, e3, e4, e5, e6, e7, e8, e9⟩ := cell_store hr hG hch (by simp) hid (q := []) (by simp [Okp]) hat (k := 0) (by omega) (by omega : i < n) c3 (er_vr hr hv c1) (er_one c1) hne
   rw [er_src] at e5 e6 e8 e9
   have hadr : b' = b ∧ o' = o + i := by
    obtain ⟨m1, t1, g1, g2, ⟨l1, f1, g3, g4, g5⟩, hv', A, g6, g7, g8⟩ := hp
    rw [e1] at g6; cases g6
    obtain ⟨a0, l0, c0, k1, k2⟩ := adr_some g7
    cases g8
    rw [k1] at e2
    simp only [adr, Option.some.injEq, Addr.mk.injEq] at e2
    simp only [Addr.mk.injEq] at k2
    omega
   obtain ⟨rfl, rfl⟩ := hadr
   have hmn : ∀ y, menM (srcT [] z x.er).2 y = false := fun y => by rw [er_src2]; rfl
   have hcell : (w.setCell ⟨b', o + i, none⟩ v).cell? ⟨b', o + i, none⟩ = some v := by
    obtain ⟨y, hy⟩ := Option.isSome_iff_exists.1 (e3.cell e4)
    exact World.cell?_setCell_same w _ v hy
   have hAl : Rp (stLA L id t n i z x) val H G' (w.setCell ⟨b', o + i, none⟩ v) := by
    unfold stLA alA
    split
    ·refine e5.als (A := [.al id i x]) fun ee he => ?_
     rw [List.mem_singleton] at he
     subst he
     refine ⟨id, i, x, rfl, n, upd f 0 i (srcT [] z x.er).1, ?_, by omega, ⟨b', o + i, none⟩, v, ?_, hcell, e9 (hmn x) (by simpa using c5) hv⟩
     ·rw [ht] at e8 ⊢; exact e8
     ·simp only [VM.hd, Option.some.injEq] at e1
      rw [e1]
      obtain ⟨a0, l0, c0, k1, k2⟩ := adr_some e2
      rw [k1, k2]
      simp [adr]
    ·exact e5
   have hGl : Good cx (stLA L id t n i z x) H G' := by
    unfold Good stLA
    rw [rts_alA]
    exact e6
   have hrt : rts (stLA L id t n i z x) = rts (stL L id t [] n 0 i (srcT [] z x.er)) := rts_alA
   have hp' := e9 (y := .p id [] n 0 0) (hmn _) (by simp [X.thr, pre]) hp
   have hvs' : VRs (rts (stLA L id t n i z x)) H (w.setCell ⟨b', o + i, none⟩ v) xs vs := by
    rw [hrt]
    clear e
    induction xs generalizing vs with
    | nil => cases vs with
     | nil => trivial
     | cons _ _ => exact hvs.elim
    | cons y ys ih =>
     cases vs with
     | nil => exact hvs.elim
     | cons u us =>
      simp only [List.all_cons, Bool.and_eq_true, Bool.not_eq_true'] at c4
      exact ⟨e9 (hmn _) (by simpa using c4.1) hvs.1, ih us hvs.2 c4.2⟩
   obtain ⟨w', G2, r1, r2, r3, r4⟩ := cells_storeA zs xs vs (i + 1) _ _ G' _ hAl hGl e7 (by rw [hrt]; exact e8) ⟨_, by rw [ht]; simp only [T.put]; rfl⟩ (by omega) (by rw [hrt]; exact hp') hvs' e
   refine ⟨w', G2, ?_, r2, r3, r4⟩
   have hone := hr.ones x v hv c1
   have hs : (store ((⟨b', o, none⟩ : Addr).add i) v).run P w = .ok () (w.setCell ⟨b', o + i, none⟩ v) := by
    rw [Addr.add_lit]; exact run_store1 e3 e4 hone
   simp only [storeCells, Sem.run_bind, hs, Result.andThen]
   exact r1
  ·exact absurd e (by simp)
 | [], [], _ :: _, _, _, _, _, _, _, _, _, _, _, _, _, _, h, _ => h.elim
 | _, _ :: _, [], _, _, _, _, _, _, _, _, _, _, _, _, _, h, _ => h.elim
 | [], _ :: _, _, _, _, _, _, _, _, _, _, _, _, _, _, _, _, e => by simp [stCellsA] at e
 | _ :: _, [], _, _, _, _, _, _, _, _, _, _, _, _, _, _, _, e => by simp [stCellsA] at e
end
section
variable {P : Program} {N : Nat} {L : List E} {dst : Option Tmp} {ty : TypeId} {pos : String} {af : Array Edge} {g : Option (Nat × Bool)} {d : Nat}
theorem Stp.storeA {t : TypeId} {x y : Operand} {zt : List T} [hTy : TyI P t zt] {id : Nat} {n c : Nat} {f : Nat → Nat → T} {L' : List E} (hx : evX L x = .p id [] n 0 c) (hR : rootL L id = some (.box, .s n 1 f))
  (hf : (evX L y).flat = true) (hl : (evX L y).leaves.length = zt.length) (hc : c + zt.length ≤ n) (hst : stCellsA id n c zt (evX L y).leaves L (.s n 1 f) = some L') : Stp P N ⟨none, .store t x y, ty, pos, af, g⟩ L L' :=
 Stp.opu (fun cx a w hs => by
  obtain ⟨H, G, hr, hG⟩ := hs.rp
  have hv := ev_ok hr x
  rw [hx] at hv
  obtain ⟨m', t', g1, g2, ⟨l', f', g3, g4, g5⟩, hv', A, g6, g7, g8⟩ := hv
  obtain ⟨rfl, rfl⟩ := hr.one _ _ _ _ _ g1 (rootL_mem hR)
  have hy := (ev_ok hr y).cells hr.ones hf
  have hyl := hy.len
  simp only [Array.length_toList] at hyl
  obtain ⟨a0, l0, c0, k1, k2⟩ := adr_some g7
  have hp : VR (rts L) H w (.p id [] n 0 0) (.pointer (some ⟨a0.block, a0.off, none⟩)) :=
   ⟨.box, _, g1, g2, ⟨1, f, by simp [T.at], by omega, by omega⟩, hv', _, g6, by rw [k1]; simp [adr], rfl⟩
  obtain ⟨w', G', r1, r2, r3, r4⟩ := cells_storeA (P := P) (b := a0.block) (o := a0.off) zt _ _ c L _ G w hr hG hs.chg g1 ⟨f, rfl⟩ hc hp hy hst
  refine ⟨w', ?_, ⟨hs.siz, hs.dfr, r4, H, G', r2, r3⟩⟩
  have hsz : (a.eval y).cells.size = zt.length := by omega
  have hA : ∀ (vs : List Value) (i : Nat) (w : World), (storeCells A vs i).run P w = (storeCells ⟨a0.block, a0.off, none⟩ vs (c + i)).run P w := by
   intro vs
   induction vs with
   | nil => intro i w; rfl
   | cons u us ih =>
    intro i w
    have hadd : A.add i = (⟨a0.block, a0.off, none⟩ : Addr).add (c + i) := by
     rw [k2, Addr.add_lit, Addr.add_lit]; congr 1; omega
    simp only [storeCells, Sem.run_bind, hadd]
    congr 1
    funext u w
    rw [ih (i + 1) w]
    congr 2
  have := hA (a.eval y).cells.toList 0 w
  rw [Nat.add_zero, r1] at this
  simp [execOp, g8, Instr.storeAt, Instr.sureAddr, storeVar, hTy.size w, hsz, this])
end
end Go.Proofs.YtlploojfcmcckaaDoor.VM
namespace Go.Proofs.YtlploojfcmcckaaDoor.VM
open Go Go.RowKit
/-- the node at q turns into y -/
def T.set (t : T) (q : Path) (y : T) : T :=
  match q with
  | [] => y
  | (_, k0, c0) :: q' => match t with
    | .s n len f => .s n len (upd f k0 c0 ((f k0 c0).set q' y))
    | t => t
end Go.Proofs.YtlploojfcmcckaaDoor.VM
namespace Go.Proofs.YtlploojfcmcckaaDoor.VM
open Go Go.RowKit

abbrev Ent4 := Nat × Nat × Path × T
def T.isS : T → Bool
 | .s .. => true
 | _ => false
/- arguments handed over: each header's node under a number of its own -/
mutual
def wX (L : List E) : X → Nat → X × List Ent4 × Nat
 | .h id q, n => match rootL L id with
  | some (_, t) => if T.isS (t.at q) = true then (.h n [], [(n, id, q, t.at q)], n + 1) else (.j, [], n)
  | none => (.j, [], n)
 | .p id q w k c, n => match rootL L id with
  | some (_, t) => if T.isS (t.at q) = true then (.p n [] w k c, [(n, id, q, t.at q)], n + 1) else (.j, [], n)
  | none => (.j, [], n)
 | .g xs, n => let (ys, r, m) := wXs L xs n; (.g ys, r, m)
 | .v x, n => (.v x, [], n)
 | .c, n => (.c, [], n)
 | _, n => (.j, [], n)
def wXs (L : List E) : List X → Nat → List X × List Ent4 × Nat
 | [], n => ([], [], n)
 | x :: xs, n => let (y, r, m) := wX L x n; let (ys, rs, m') := wXs L xs m; (y :: ys, r ++ rs, m')
end
def lookW : List (Nat × T) → Nat → Option T
  | [], _ => none
  | (i, y) :: r, n => if Nat.beq i n then some y else lookW r n
def entRt (Ws : List (Nat × T)) : List Ent4 → List E
  | [] => []
  | (n, _, _, t) :: r => .rt n (match lookW Ws n with | some _ => .row | none => .ro) t :: entRt Ws r
def wFind (Ws : List (Nat × T)) : List Ent4 → Nat → Option (Path × T)
  | [], _ => none
  | (n, i, q, _) :: r, id => match lookW Ws n with
    | some y => if Nat.beq i id then some (q, y) else wFind Ws r id
    | none => wFind Ws r id
def keepP (es : List Ent4) (Ws : List (Nat × T)) (id : Nat) (r : Path) : Bool := match wFind Ws es id with
 | some (q, _) => !pre q r
 | none => true
/-- a pointer at the very node that is written -/
def keepN (es : List Ent4) (Ws : List (Nat × T)) (id : Nat) (r : Path) (n k c : Nat) : Bool := match wFind Ws es id with
 | some (q, .s n' l' _) => Nat.beq r.length q.length && (Nat.beq n' n && (Nat.blt k l' && Nat.blt c n))
 | some _ => false
 | none => true
mutual
def keepX (es : List Ent4) (Ws : List (Nat × T)) : X → Bool
  | .p id q n k c => keepP es Ws id q || keepN es Ws id q n k c
  | .h id r => keepP es Ws id r || (match wFind Ws es id with | some (q, y) => Nat.beq r.length q.length && T.isS y | none => true)
  | .a id q .. => keepP es Ws id q
  | .g xs => keepXs es Ws xs
  | .t xs => keepXs es Ws xs
  | .f _ xs => keepXs es Ws xs
  | _ => true
def keepXs (es : List Ent4) (Ws : List (Nat × T)) : List X → Bool
  | [] => true
  | x :: xs => keepX es Ws x && keepXs es Ws xs
end
def newW (es : List Ent4) (Ws : List (Nat × T)) (id : Nat) (t : T) : T := match wFind Ws es id with
 | some (q, y) => t.set q y
 | none => t
def setWs (es : List Ent4) (Ws : List (Nat × T)) : List E → List E
 | [] => []
 | .sl s x :: L => if keepX es Ws x then .sl s x :: setWs es Ws L else setWs es Ws L
 | .rt i m t :: L => .rt i m (newW es Ws i t) :: setWs es Ws L
 | .al i c x :: L => if keepX es Ws x && keepP es Ws i [(0, 0, c)] then .al i c x :: setWs es Ws L else setWs es Ws L
section
variable {L : List E} {val : Nat → Value} {H : Nat → Value} {G : Nat → FP} {w w' : World}
end
end Go.Proofs.YtlploojfcmcckaaDoor.VM
namespace Go.Proofs.YtlploojfcmcckaaDoor.VM
open Go Go.RowKit
end Go.Proofs.YtlploojfcmcckaaDoor.VM
namespace Go.Proofs.YtlploojfcmcckaaDoor.VM
open Go Go.RowKit
/-- what a call gives: new roots L0, what was handed over (written: Ws), plain values -/
def RetW (X0 : X) (L0 : List (Nat × M × T)) (Ws : List (Nat × T)) (x : X) (L : List E) : Prop :=
 ∃ ρ : Nat → Nat, x = X0.ren ρ ∧ (∀ n, base ≤ n → ρ n = n) ∧ (L0.map fun r => ρ r.1).Nodup ∧ (∀ r ∈ L0, r.2.1 ≠ .ro ∧ rts L (ρ r.1) r.2.1 r.2.2 ∧ ρ r.1 < base) ∧ ∀ p ∈ Ws, rts L p.1 .row p.2
def entAt : List Ent4 → Nat → Option (Nat × Path)
  | [], _ => none
  | (i, id, q, _) :: r, n => if Nat.beq i n then some (id, q) else entAt r n
/- a result, as the caller names it -/
mutual
def X.out (d : Nat) (es : List Ent4) : X → X
 | .p id q n k cc => .p (nu d id) q n k cc
 | .h n q => if Nat.blt n base then .h (nu d n) q else match entAt es n with
  | some (id, q') => .h id q'
  | none => .j
 | .a id q n lo len => .a (nu d id) q n lo len
 | .g xs => .g (X.outs d es xs)
 | .t xs => .t (X.outs d es xs)
 | .f fn xs => .f fn (X.outs d es xs)
 | x => x
def X.outs (d : Nat) (es : List Ent4) : List X → List X
 | [] => []
 | x :: xs => X.out d es x :: X.outs d es xs
end
section
variable {P : Program} {N : Nat} {L : List E} {dst : Option Tmp} {ty : TypeId} {pos : String} {af : Array Edge} {g : Option (Nat × Bool)} {d : Nat}
end
end Go.Proofs.YtlploojfcmcckaaDoor.VM
namespace Go.Proofs.YtlploojfcmcckaaDoor.VM
open Go Go.RowKit
section
variable {P : Program} {N : Nat} {Q : Exit → List E → Prop} {L : List E} {ops : Array Oper} {rest : List Oper} {dst : Option Tmp} {ty : TypeId} {pos : String} {af : Array Edge} {g : Option (Nat × Bool)} {d : Nat}
end

section
variable {P : Program} {N : Nat} {Q : Exit → List E → Prop} {L : List E} {cx : Cx} {a : Act} {w : World} {val H : Nat → Value} {G : Nat → FP}
theorem rootL_none {L : List E} {id : Nat} (h : rootL L id = none) : ∀ m t, ¬ rts L id m t := by
 induction L with
 | nil => intro m t h; cases h
 | cons x r ih =>
  intro m t hm
  cases x with
  | sl s x =>
   rcases List.mem_cons.1 hm with hm | hm
   ·cases hm
   ·exact ih (by simpa only [rootL] using h) m t hm
  | al s c x =>
   rcases List.mem_cons.1 hm with hm | hm
   ·cases hm
   ·exact ih (by simpa only [rootL] using h) m t hm
  | rt j m1 t1 =>
   simp only [rootL] at h
   split at h
   ·cases h
   ·rename_i hne
    rcases List.mem_cons.1 hm with hm | hm
    ·cases hm; exact hne rfl
    ·exact ih h m t hm
end
end Go.Proofs.YtlploojfcmcckaaDoor.VM
namespace Go.Proofs.YtlploojfcmcckaaDoor.VM
open Go Go.RowKit
section
variable {P : Program} {N : Nat} {Q : Exit → List E → Prop} {L : List E}
/-- a row is no longer than machines allow -/
theorem AW.len {c : Code} (id : Nat) (q : Path) {m : M} {t : T} {n len : Nat} {f : Nat → Nat → T} (hR : rootL L id = some (m, t)) (hq : Okp t q) (hT : t.at q = .s n len f) (k : len ≤ 9223372036854775807 → AW P N c Q L) : AW P N c Q L := fun cx a w hs => by
 obtain ⟨H, G, hr, hG⟩ := hs.rp
 obtain ⟨h', F, _, h2⟩ := hr.node (rootL_mem hR) hq
 rw [hT] at h2
 obtain ⟨_, cap, _, h3, h4⟩ := h2.hdr
 exact k (by simp only [maxLen] at h4; omega) cx a w hs
end

/-- rows: the first k by g, the others by h -/
def trMix {α : Type} [En α] (k len : Nat) (g h : Nat → α) : T := .s (En.n α) len fun i c => (En.cs (if i < k then g i else h i)).getD c .j
section
variable {α : Type} [En α] {len k : Nat} {g h : Nat → α} {l : List α}
end
structure KInv (n : Nat) where
 k : Nat
 le : k ≤ n
section
variable {α : Type} {l l' : List α}
end
/-- sizes, and marks -/
class Mk (α : Type) extends En α where
 wt : α → Nat
 cnt : α → Nat
 mark : α → Int → α
 cnt_mk : ∀ a k, cnt (mark a k) = cnt a
def wtL {α : Type} (w : α → Nat) (l : List α) : Nat := (l.map w).foldr (· + ·) 0
def cumN {α : Type} (c : α → Nat) (d : α) (l : List α) : Nat → Nat
 | 0 => 0
 | i + 1 => cumN c d l i + c (l.getD i d)
def mkF {α : Type} [Mk α] (l : List α) (k : Int) (i : Nat) : α := Mk.mark (l.getD i En.dflt) (k + cumN Mk.cnt En.dflt l i)
def mkL {α : Type} [Mk α] (l : List α) (k : Int) : List α := (List.range l.length).map (mkF l k)
theorem mkL_len {α : Type} [Mk α] (l : List α) (k : Int) : (mkL l k).length = l.length := by simp [mkL]
theorem mkL_get {α : Type} [Mk α] (l : List α) (k : Int) {i : Nat} (hi : i < l.length) : (mkL l k).getD i En.dflt = mkF l k i := by
 simp [mkL, List.getD_eq_getElem?_getD, hi]
theorem cumN_mk {α : Type} [Mk α] (l : List α) (k : Int) : ∀ {i : Nat}, i ≤ l.length → cumN Mk.cnt En.dflt (mkL l k) i = cumN Mk.cnt En.dflt l i
 | 0, _ => rfl
 | i + 1, h => by
  simp only [cumN]
  rw [cumN_mk l k (by omega), mkL_get l k (by omega), mkF, Mk.cnt_mk]
instance : Mk Int := { wt := fun _ => 0, cnt := fun _ => 1, mark := fun _ k => k, cnt_mk := fun _ _ => rfl }
instance : Mk Bool := { wt := fun _ => 0, cnt := fun _ => 1, mark := fun _ k => decide (k.tmod 3 = 0), cnt_mk := fun _ _ => rfl }
instance instMkList {α : Type} [Mk α] : Mk (List α) := { wt := fun l => l.length + wtL Mk.wt l, cnt := fun l => cumN Mk.cnt En.dflt l l.length, mark := mkL, cnt_mk := fun l k => by rw [mkL_len]; exact cumN_mk l k (Nat.le_refl _) }
theorem cs_int (a : Int) : En.cs a = [.v (iv a)] := rfl
theorem cs_bool (a : Bool) : En.cs a = [.v (.bool a)] := rfl
theorem cs_str (a : ByteArray) : En.cs a = [.v (.string a)] := rfl
theorem cs_list {α : Type} [En α] (a : List α) : En.cs a = [tr a] := rfl
theorem cellX_tr {α : Type} [En α] (L : List E) (id : Nat) (q : Path) (n k c : Nat) (l : List α) : cellX L id q n k c (tr l) = .h id (q ++ [(n, k, c)]) := rfl
end Go.Proofs.YtlploojfcmcckaaDoor.VM
namespace Go.Proofs.YtlploojfcmcckaaDoor.VM
open Go Go.RowKit
theorem pbAdd {a b : Int} (h : -9223372036854775808 ≤ a + b ∧ a + b ≤ 9223372036854775807) : pureBin .add (iv a) (iv b) = some (iv (a + b)) := by
 show some (Value.int .i64 (IntKind.i64.wrap (a + b))) = _
 rw [IntWalk.i64_in _ h]
theorem pbSub {a b : Int} (h : -9223372036854775808 ≤ a - b ∧ a - b ≤ 9223372036854775807) : pureBin .sub (iv a) (iv b) = some (iv (a - b)) := by
 show some (Value.int .i64 (IntKind.i64.wrap (a - b))) = _
 rw [IntWalk.i64_in _ h]
theorem pbMul {a b : Int} (h : -9223372036854775808 ≤ a * b ∧ a * b ≤ 9223372036854775807) : pureBin .mul (iv a) (iv b) = some (iv (a * b)) := by
 show some (Value.int .i64 (IntKind.i64.wrap (a * b))) = _
 rw [IntWalk.i64_in _ h]
end Go.Proofs.YtlploojfcmcckaaDoor.VM
namespace Go.Proofs.YtlploojfcmcckaaDoor.VM
theorem upd_app (f : Nat → Nat → T) (k c : Nat) (y : T) (k' c' : Nat) : upd f k c y k' c' = if k' = k ∧ c' = c then y else f k' c' := rfl
theorem nbeq (a b : Nat) : Nat.beq a b = (a == b) := by
 rw [Bool.eq_iff_iff, Nat.beq_eq]; simp
end Go.Proofs.YtlploojfcmcckaaDoor.VM
namespace Go.Proofs.YtlploojfcmcckaaDoor.VM
theorem cellX_v (L : List E) (id : Nat) (q : Path) (n k c : Nat) (y : Go.Value) : cellX L id q n k c (.v y) = .v y := rfl
theorem cellX_s (L : List E) (id : Nat) (q : Path) (n k c m l : Nat) (f : Nat → Nat → T) : cellX L id q n k c (.s m l f) = .h id (q ++ [(n, k, c)]) := rfl
theorem cellX_j (L : List E) (id : Nat) (q : Path) (n k c : Nat) : cellX L id q n k c .j = match q, k with | [], 0 => (match aliasL L id c with | .j => .c | x => x) | _, _ => .c := rfl
theorem cellX_j0 (L : List E) (id : Nat) (n c : Nat) : cellX L id [] n 0 c .j = match aliasL L id c with | .j => .c | x => x := rfl
theorem cellX_jq (L : List E) (id : Nat) (a : Nat × Nat × Nat) (q : Path) (n k c : Nat) : cellX L id (a :: q) n k c .j = .c := rfl
theorem cellX_jr {L : List E} {id : Nat} {q : Path} {n k c : Nat} (h : aliasL L id c = .j) : cellX L id q n k c .j = .c := by
 unfold cellX
 dsimp only
 split
 ·rw [h]
 ·rfl
end Go.Proofs.YtlploojfcmcckaaDoor.VM
namespace Go.Proofs.YtlploojfcmcckaaDoor.VM
open Go Go.RowKit
section
variable {P : Program} {N : Nat} {Q : Exit → List E → Prop} {L : List E} {ops : Array Oper} {qs pend todo : List Nat} {S : Array Bool}
theorem AWA.againE {i : Nat} {d : Nat} {o : Oper} {x : X} (ho : ops[i]? = some o) (hd : o.dst = some d) (hp : pend.all (fun k => todo.contains k || k == i || !waits ops k i) = true)
  (h : Qd P ops o L x) (hx : slotL L d = x) (k : AWA P N ops qs Q S pend todo (putL L d x)) : AWA P N ops qs Q S pend (i :: todo) L := by
 subst hx
 exact AWA.again ho hd hp h k
end
end Go.Proofs.YtlploojfcmcckaaDoor.VM
namespace Go.Proofs.YtlploojfcmcckaaDoor.VM
open Go Go.RowKit
end Go.Proofs.YtlploojfcmcckaaDoor.VM
namespace Go.Proofs.YtlploojfcmcckaaDoor.VM
open Go Go.RowKit
def trG {α : Type} [En α] (len : Nat) (g : Nat → α) : T := .s (En.n α) len fun i c => (En.cs (g i)).getD c .j
theorem nblt (a b : Nat) : Nat.blt a b = decide (a < b) := by
 rw [Bool.eq_iff_iff, decide_eq_true_eq]
 exact Iff.of_eq Nat.blt_eq
end Go.Proofs.YtlploojfcmcckaaDoor.VM
namespace Go.Proofs.YtlploojfcmcckaaDoor.VM
open Go Go.RowKit
/-- an append of plain cells -/
theorem app_sim {α : Type} [En α] {l l' : List α} {len : Nat} {f : Nat → Nat → T} (hlen : len = l.length) (hf : ∀ k c, k < l.length → c < En.n α → f k c = (En.cs (l.getD k En.dflt)).getD c .j) {g : Nat → Nat → T} (hg : ∀ k c, k < l'.length → c < En.n α → g k c = (En.cs (l'.getD k En.dflt)).getD c .j) :
  (appT (En.n α) len f l'.length g).sim (tr (l ++ l')) := by
 subst hlen
 refine ⟨fun k c => (En.cs ((l ++ l').getD k En.dflt)).getD c .j, by simp [tr], fun k c hk hc => ?_⟩
 show (if k < l.length then f k c else g (k - l.length) c).sim ((En.cs ((l ++ l').getD k En.dflt)).getD c .j)
 split
 ·rename_i h
  rw [hf k c h hc, show (l ++ l').getD k En.dflt = l.getD k En.dflt by simp [List.getD_eq_getElem?_getD, List.getElem?_append_left h]]
  exact T.sim_refl _
 ·rename_i h
  rw [hg _ c (by omega) hc, show (l ++ l').getD k En.dflt = l'.getD (k - l.length) En.dflt by simp [List.getD_eq_getElem?_getD, List.getElem?_append_right (by omega : l.length ≤ k)]]
  exact T.sim_refl _
/-- plain cells -/
class Fl (α : Type) extends En α where
 flat : ∀ (a : α) (c : Nat), c < n → flatT ((cs a).getD c .j) = (cs a).getD c .j
end Go.Proofs.YtlploojfcmcckaaDoor.VM
namespace Go.Proofs.YtlploojfcmcckaaDoor.VM
open Go Go.RowKit
section
variable {P : Program} {L : List E} {dst : Option Tmp} {ty : TypeId} {pos : String} {af : Array Edge} {g : Option (Nat × Bool)}
theorem Qt.eqB {t t2 : TypeId} {x y : Operand} {u v : Bool} (hx : evX L x = .v (.bool u)) (hy : evX L y = .v (.bool v)) (ht : P.underlying t = some .bool) : Qt P ⟨dst, .binOp .eql t x y t2, ty, pos, af, g⟩ L (.v (.bool (u == v))) :=
 Qt.eqlB hx hy (.inl rfl) ht
theorem Qt.neB {t t2 : TypeId} {x y : Operand} {u v : Bool} (hx : evX L x = .v (.bool u)) (hy : evX L y = .v (.bool v)) (ht : P.underlying t = some .bool) : Qt P ⟨dst, .binOp .neq t x y t2, ty, pos, af, g⟩ L (.v (.bool (u != v))) :=
 Qt.eqlB hx hy (.inr rfl) ht
end
end Go.Proofs.YtlploojfcmcckaaDoor.VM
namespace Go.Proofs.YtlploojfcmcckaaDoor.VM
open Go Go.RowKit
theorem put_tr {α : Type} [En α] (l : List α) (k c : Nat) (y : T) : T.put (tr l) [] k c y = .s (En.n α) l.length (upd (fun k c => (En.cs (l.getD k En.dflt)).getD c .j) k c y) := rfl
instance : Fl Int := ⟨fun a c hc => by
 match c, hc with
 | 0, _ => rfl
 | c + 1, h => exact absurd h (by simp [En.n])⟩
instance : Fl Bool := ⟨fun a c hc => by
 match c, hc with
 | 0, _ => rfl
 | c + 1, h => exact absurd h (by simp [En.n])⟩

end Go.Proofs.YtlploojfcmcckaaDoor.VM
namespace Go.Proofs.YtlploojfcmcckaaDoor.VM
open Go Go.RowKit
/-- a root's tree, told otherwise -/
def repR : List E → Nat → T → List E
 | [], _, _ => []
 | .rt i m t :: L, id, t' => if i = id then .rt i m t' :: repR L id t' else .rt i m t :: repR L id t'
 | e :: L, id, t' => e :: repR L id t'
theorem repR_sl : ∀ {L : List E} {id : Nat} {t' : T} {s : Nat} {x : X}, E.sl s x ∈ repR L id t' → E.sl s x ∈ L
 | .sl s' x' :: L, id, t', s, x, h => by
  rcases List.mem_cons.1 h with h | h
  ·rw [h]; exact List.mem_cons_self ..
  ·exact List.mem_cons_of_mem _ (repR_sl h)
 | .rt i m t :: L, id, t', s, x, h => by
  simp only [repR] at h
  split at h <;>
  ·rcases List.mem_cons.1 h with h | h
   ·cases h
   ·exact List.mem_cons_of_mem _ (repR_sl h)
 | .al i c x' :: L, id, t', s, x, h => by
  rcases List.mem_cons.1 h with h | h
  ·cases h
  ·exact List.mem_cons_of_mem _ (repR_sl h)
theorem repR_al : ∀ {L : List E} {id : Nat} {t' : T} {s c : Nat} {x : X}, E.al s c x ∈ repR L id t' → E.al s c x ∈ L
 | .sl s' x' :: L, id, t', s, c, x, h => by
  rcases List.mem_cons.1 h with h | h
  ·cases h
  ·exact List.mem_cons_of_mem _ (repR_al h)
 | .rt i m t :: L, id, t', s, c, x, h => by
  simp only [repR] at h
  split at h <;>
  ·rcases List.mem_cons.1 h with h | h
   ·cases h
   ·exact List.mem_cons_of_mem _ (repR_al h)
 | .al i c' x' :: L, id, t', s, c, x, h => by
  rcases List.mem_cons.1 h with h | h
  ·rw [h]; exact List.mem_cons_self ..
  ·exact List.mem_cons_of_mem _ (repR_al h)
theorem rts_repR : ∀ {L : List E} {id : Nat} {t' : T} {i : Nat} {m : M} {t : T}, rts (repR L id t') i m t ↔ (i = id ∧ t = t' ∧ ∃ t0, rts L id m t0) ∨ (i ≠ id ∧ rts L i m t)
 | [], _, _, _, _, _ => by simp [rts, repR]
 | .sl s x :: L, id, t', i, m, t => by
  have := rts_repR (L := L) (id := id) (t' := t') (i := i) (m := m) (t := t)
  simp only [rts, repR] at this ⊢
  simp [this]
 | .al s c x :: L, id, t', i, m, t => by
  have := rts_repR (L := L) (id := id) (t' := t') (i := i) (m := m) (t := t)
  simp only [rts, repR] at this ⊢
  simp [this]
 | .rt j m1 t1 :: L, id, t', i, m, t => by
  have := rts_repR (L := L) (id := id) (t' := t') (i := i) (m := m) (t := t)
  simp only [rts, repR] at this ⊢
  split
  ·rename_i hj; subst hj
   simp only [List.mem_cons, this, E.rt.injEq]
   constructor
   ·rintro (⟨rfl, rfl, rfl⟩ | ⟨rfl, rfl, t0, h⟩ | ⟨h1, h2⟩)
    ·exact .inl ⟨rfl, rfl, t1, .inl (by simp)⟩
    ·exact .inl ⟨rfl, rfl, t0, .inr h⟩
    ·exact .inr ⟨h1, .inr h2⟩
   ·rintro (⟨rfl, rfl, t0, ⟨_, rfl, rfl⟩ | h⟩ | ⟨h1, ⟨rfl, _⟩ | h2⟩)
    ·exact .inl ⟨rfl, rfl, rfl⟩
    ·exact .inr (.inl ⟨rfl, rfl, t0, h⟩)
    ·exact absurd rfl h1
    ·exact .inr (.inr ⟨h1, h2⟩)
  ·rename_i hj
   simp only [List.mem_cons, this, E.rt.injEq]
   constructor
   ·rintro (⟨rfl, rfl, rfl⟩ | ⟨rfl, rfl, t0, h⟩ | ⟨h1, h2⟩)
    ·exact .inr ⟨hj, .inl ⟨rfl, rfl, rfl⟩⟩
    ·exact .inl ⟨rfl, rfl, t0, .inr h⟩
    ·exact .inr ⟨h1, .inr h2⟩
   ·rintro (⟨rfl, rfl, t0, ⟨rfl, _⟩ | h⟩ | ⟨h1, ⟨rfl, rfl, rfl⟩ | h2⟩)
    ·exact absurd rfl hj
    ·exact .inr (.inl ⟨rfl, rfl, t0, h⟩)
    ·exact .inl ⟨rfl, rfl, rfl⟩
    ·exact .inr (.inr ⟨h1, h2⟩)
theorem VR.simAll {R R' : RT} {H : Nat → Value} {w : World} (hR : ∀ id m t, R id m t → ∃ t', R' id m t' ∧ t.sim t') {x : X} {v : Value} (h : VR R H w x v) : VR R' H w x v :=
 VR.leaves (C := fun _ => True) (fun x v hl _ h => by
  cases x with
  | p id q n k c =>
   obtain ⟨m, t, h1, h2, ⟨len, f, h3, h4, h5⟩, h6⟩ := h
   obtain ⟨t', e1, e2⟩ := hR id m t h1
   obtain ⟨e3, e4⟩ := sim_at e2 h2
   rw [h3] at e4
   obtain ⟨g, e5, _⟩ := e4
   exact ⟨m, t', e1, e3, ⟨len, g, e5, h4, h5⟩, h6⟩
  | h id q =>
   obtain ⟨m, t, h1, h2, ⟨n, len, f, h3⟩, h6⟩ := h
   obtain ⟨t', e1, e2⟩ := hR id m t h1
   obtain ⟨e3, e4⟩ := sim_at e2 h2
   rw [h3] at e4
   obtain ⟨g, e5, _⟩ := e4
   exact ⟨m, t', e1, e3, ⟨n, len, g, e5⟩, h6⟩
  | a id q n lo len =>
   obtain ⟨m, t, h1, h2, ⟨l, f, h3, h4⟩, h6⟩ := h
   obtain ⟨t', e1, e2⟩ := hR id m t h1
   obtain ⟨e3, e4⟩ := sim_at e2 h2
   rw [h3] at e4
   obtain ⟨g, e5, _⟩ := e4
   exact ⟨m, t', e1, e3, ⟨l, g, e5, h4⟩, h6⟩
  | _ => exact hl.elim) (X.all_true (fun _ => trivial) x) h
theorem Weak.rep {N : Nat} {L : List E} {id : Nat} {m : M} {t t' : T} (hR : rootL L id = some (m, t)) (hs : t.sim t') : Weak N L (repR L id t') := fun cx a w hsat => by
 obtain ⟨H, G, hr, hG⟩ := hsat.rp
 have hid := rootL_mem hR
 have hback : ∀ {i m1 t1}, rts (repR L id t') i m1 t1 → ∃ t0, rts L i m1 t0 ∧ t0.sim t1 := fun h => by
  rcases rts_repR.1 h with ⟨rfl, rfl, t0, h⟩ | ⟨_, h⟩
  ·obtain ⟨rfl, rfl⟩ := hr.one _ _ _ _ _ h hid
   exact ⟨_, h, hs⟩
  ·exact ⟨_, h, T.sim_refl _⟩
 have hfwd : ∀ i m1 t1, rts L i m1 t1 → ∃ t2, rts (repR L id t') i m1 t2 ∧ t1.sim t2 := fun i m1 t1 h => by
  by_cases e : i = id
  ·subst e
   obtain ⟨rfl, rfl⟩ := hr.one _ _ _ _ _ h hid
   exact ⟨t', rts_repR.2 (.inl ⟨rfl, rfl, _, h⟩), hs⟩
  ·exact ⟨t1, rts_repR.2 (.inr ⟨e, h⟩), T.sim_refl _⟩
 have hV : ∀ {x v}, VR (rts L) H w x v → VR (rts (repR L id t')) H w x v := fun h => h.simAll hfwd
 refine ⟨hsat.siz, hsat.dfr, hsat.chg, H, G, ⟨?_, ?_, ?_, ?_, ?_, ?_, ?_, ?_⟩, ?_, ?_⟩
 ·intro i m1 t1 m2 t2 h1 h2
  rcases rts_repR.1 h1 with ⟨rfl, rfl, t0, g1⟩ | ⟨e1, g1⟩ <;> rcases rts_repR.1 h2 with ⟨e, rfl, t3, g2⟩ | ⟨e2, g2⟩
  ·exact ⟨(hr.one _ _ _ _ _ g1 g2).1, rfl⟩
  ·exact absurd rfl e2
  ·exact absurd e e1
  ·exact hr.one _ _ _ _ _ g1 g2
 ·intro i m1 t1 h1 h2
  obtain ⟨t0, e1, e2⟩ := hback h1
  exact (hr.own i m1 t0 e1 h2).sim e2
 ·intro i t1 h1
  obtain ⟨t0, e1, e2⟩ := hback h1
  exact (hr.ro i t0 e1).sim e2
 ·intro i t1 h1
  obtain ⟨t0, e1, e2⟩ := hback h1
  exact hr.rold i t0 e1
 ·intro i t1 h1
  obtain ⟨t0, e1, e2⟩ := hback h1
  obtain ⟨n, f, rfl⟩ := hr.box i t0 e1
  obtain ⟨g, rfl, _⟩ := e2
  exact ⟨n, g, rfl⟩
 ·intro i m1 t1 i' m2 t2 h1 h2
  obtain ⟨t0, e1, _⟩ := hback h1
  obtain ⟨t3, e2, _⟩ := hback h2
  exact hr.dis i m1 t0 i' m2 t3 e1 e2
 ·intro s x h1
  exact hV (hr.sl s x (repR_sl h1))
 ·intro i c x h1
  obtain ⟨n, f, g1, g2, A, v, g3, g4, g5⟩ := hr.al i c x (repR_al h1)
  obtain ⟨t2, g6, g7⟩ := hfwd _ _ _ g1
  obtain ⟨g, rfl, _⟩ := g7
  exact ⟨n, g, g6, g2, A, v, g3, g4, hV g5⟩
 ·intro i m1 t1 h1
  obtain ⟨t0, e1, _⟩ := hback h1
  exact hG.1 i m1 t0 e1
 ·intro i m1 t1 hb h1
  obtain ⟨t0, e1, _⟩ := hback h1
  exact hG.2 i m1 t0 hb e1
section
variable {P : Program} {N : Nat} {Q : Exit → List E → Prop} {L : List E} {ops : Array Oper} {l : List Oper} {qs pend todo : List Nat} {S : Array Bool} {m : M} {t : T}
theorem AW.rep {c : Code} (id : Nat) (t' : T) (hR : rootL L id = some (m, t)) (hs : t.sim t') (k : AW P N c Q (repR L id t')) : AW P N c Q L := AW.weak (Weak.rep hR hs) k
theorem AWL.rep (id : Nat) (t' : T) (hR : rootL L id = some (m, t)) (hs : t.sim t') (k : AWL P N ops l Q (repR L id t')) : AWL P N ops l Q L := AWL.weak (Weak.rep hR hs) k
theorem AWA.rep (id : Nat) (t' : T) (hR : rootL L id = some (m, t)) (hs : t.sim t') (k : AWA P N ops qs Q S pend todo (repR L id t')) : AWA P N ops qs Q S pend todo L := AWA.weak (Weak.rep hR hs) k
end
end Go.Proofs.YtlploojfcmcckaaDoor.VM
namespace Go.Proofs.YtlploojfcmcckaaDoor.VM
theorem nT {b : Bool} (h : b = true) : (!b) = false := by rw [h]; rfl
theorem nF {b : Bool} (h : b = false) : (!b) = true := by rw [h]; rfl
end Go.Proofs.YtlploojfcmcckaaDoor.VM
namespace Go.Proofs.YtlploojfcmcckaaDoor.VM
open Go Go.RowKit
section
variable {P : Program} {L : List E} {dst : Option Tmp} {ty : TypeId} {pos : String} {af : Array Edge} {g : Option (Nat × Bool)}
end
end Go.Proofs.YtlploojfcmcckaaDoor.VM
namespace Go.Proofs.YtlploojfcmcckaaDoor.VM
attribute [go_sem] slotsOf List.cons_append List.nil_append List.append_nil putL delS evX slotL cellX_v cellX_s cellX_j0 cellX_jq cellX_jr cellsX List.range' List.map_cons List.map_nil aliasL alsOf idsL delR delRs movedOf srcs srcT X.leaves X.ptrB X.inB X.insB X.men X.mens rootL rowT List.length stL setQ dropM X.thr X.thrs pre newsL rens nu X.ren X.rens zbox List.map base repR reps T.toX List.replicate List.flatten T.put put_tr upd_app nbeq eq_self Int.toNat_natCast X.one X.er stLA alA T.set setWs newW wFind keepX keepXs keepP lookW Option.isSome X.out X.outs entAt nblt decide_true decide_false cs_list trMix trG cs_int cs_bool cs_str cellX_tr List.getD_cons_zero List.getD_cons_succ List.contains List.elem Bool.and_true Bool.true_and Bool.and_false Bool.false_and Bool.or_false Bool.or_true Bool.false_or Bool.true_or Bool.false_eq_true and_true true_and and_false false_and and_self
end Go.Proofs.YtlploojfcmcckaaDoor.VM
namespace Go.Proofs.YtlploojfcmcckaaDoor.VM
open Go Go.RowKit
/-- slots forgotten -/
def dropS : List E → List Nat → List E
 | [], _ => []
 | .sl s x :: L, ds => if ds.contains s then dropS L ds else .sl s x :: dropS L ds
 | .rt i m t :: L, ds => .rt i m t :: dropS L ds
 | .al i c x :: L, ds => .al i c x :: dropS L ds
theorem dropS_sub : ∀ {L : List E} {ds : List Nat} {e : E}, e ∈ dropS L ds → e ∈ L
 | .sl s x :: L, ds, e, h => by
  simp only [dropS] at h
  split at h
  ·exact List.mem_cons_of_mem _ (dropS_sub h)
  ·rcases List.mem_cons.1 h with h | h
   ·rw [h]; exact List.mem_cons_self ..
   ·exact List.mem_cons_of_mem _ (dropS_sub h)
 | .rt i m t :: L, ds, e, h => by
  rcases List.mem_cons.1 h with h | h
  ·rw [h]; exact List.mem_cons_self ..
  ·exact List.mem_cons_of_mem _ (dropS_sub h)
 | .al i c x :: L, ds, e, h => by
  rcases List.mem_cons.1 h with h | h
  ·rw [h]; exact List.mem_cons_self ..
  ·exact List.mem_cons_of_mem _ (dropS_sub h)
theorem rts_dropS : ∀ {L : List E} {ds : List Nat}, rts (dropS L ds) = rts L
 | [], _ => rfl
 | .sl s x :: L, ds => by
  have := rts_dropS (L := L) (ds := ds)
  funext i m t
  have h := congrFun (congrFun (congrFun this i) m) t
  simp only [rts, dropS] at h ⊢
  split <;> simp [h]
 | .rt j m1 t1 :: L, ds => by
  have := rts_dropS (L := L) (ds := ds)
  funext i m t
  have h := congrFun (congrFun (congrFun this i) m) t
  simp only [rts, dropS] at h ⊢
  simp [h]
 | .al j c x :: L, ds => by
  have := rts_dropS (L := L) (ds := ds)
  funext i m t
  have h := congrFun (congrFun (congrFun this i) m) t
  simp only [rts, dropS] at h ⊢
  simp [h]
theorem Weak.dropS {N : Nat} {L : List E} (ds : List Nat) : Weak N L (VM.dropS L ds) := fun cx a w hs => by
 obtain ⟨H, G, hr, hG⟩ := hs.rp
 refine ⟨hs.siz, hs.dfr, hs.chg, H, G, ⟨?_, ?_, ?_, ?_, ?_, ?_, ?_, ?_⟩, by rw [rts_dropS]; exact hG⟩
 ·rw [rts_dropS]; exact hr.one
 ·rw [rts_dropS]; exact hr.own
 ·rw [rts_dropS]; exact hr.ro
 ·rw [rts_dropS]; exact hr.rold
 ·rw [rts_dropS]; exact hr.box
 ·rw [rts_dropS]; exact hr.dis
 ·rw [rts_dropS]; exact fun t x h => hr.sl t x (dropS_sub h)
 ·rw [rts_dropS]; exact fun id c x h => hr.al id c x (dropS_sub h)
theorem Weak.trans {N : Nat} {L L1 L2 : List E} (h : Weak N L L1) (h' : Weak N L1 L2) : Weak N L L2 := fun cx a w hs => h' cx a w (h cx a w hs)
theorem Weak.join {N : Nat} {L LB : List E} {d : Nat} {ds : List Nat} {v v' : Value} (h : slotL L d = .v v) (e : v = v') (hB : VM.dropS L ds = LB) : Weak N L (putL LB d (.v v')) :=
 hB ▸ fun cx a w hs => by
  obtain ⟨H, G, hr, hG⟩ := hs.rp
  have hv : Act.val a d = v' := by
   have h1 := ev_ok hr (.tmp d)
   simp only [evX, h, VR] at h1
   exact h1.trans e
  have hs2 := Weak.dropS ds cx a w hs
  obtain ⟨H2, G2, hr2, hG2⟩ := hs2.rp
  refine ⟨hs.siz, hs.dfr, hs.chg, H2, G2, (hr2.put (d := d) (x := .v v') (v := v') rfl).val fun t => ?_, by rw [rts_put]; exact hG2⟩
  split
  ·rename_i e; rw [e, hv]
  ·rfl
section
variable {P : Program} {N : Nat} {Q : Exit → List E → Prop} {L L' : List E} {ops : Array Oper} {l : List Oper} {qs pend todo : List Nat} {S : Array Bool}
/-- ways that meet behind k operations -/
theorem AWL.cut (k : Nat) (h1 : AWL P N ops (l.drop k) Q L' → AWL P N ops l Q L) (h2 : AWL P N ops (l.drop k) Q L') : AWL P N ops l Q L := h1 h2
end
section
variable {P : Program} {L : List E} {dst : Option Tmp} {ty : TypeId} {pos : String} {af : Array Edge} {g : Option (Nat × Bool)}
theorem Qt.pickAnd {c x y : Operand} {b r : Bool} (hc : evX L c = .v (.bool b)) (hx : evX L x = .v (if b then .bool r else undef)) (hy : evX L y = .v (.bool false)) : Qt P ⟨dst, .pick c x y, ty, pos, af, g⟩ L (.v (.bool (b && r))) := by
 have h := Qt.pick (P := P) (dst := dst) (ty := ty) (pos := pos) (af := af) (g := g) (x := x) (y := y) hc
 cases b
 ·rw [if_neg (by simp), hy] at h; exact h
 ·rw [if_pos rfl, hx] at h; exact h
theorem Qt.pickOr {c x y : Operand} {b r : Bool} (hc : evX L c = .v (.bool b)) (hy : evX L y = .v (if b then undef else .bool r)) (hx : evX L x = .v (.bool true)) : Qt P ⟨dst, .pick c x y, ty, pos, af, g⟩ L (.v (.bool (b || r))) := by
 have h := Qt.pick (P := P) (dst := dst) (ty := ty) (pos := pos) (af := af) (g := g) (x := x) (y := y) hc
 cases b
 ·rw [if_neg (by simp), hy] at h; exact h
 ·rw [if_pos rfl, hx] at h; exact h
theorem ifT {b : Bool} (h : b = true) (u v : Value) : u = if b then u else v := by rw [h]; rfl
theorem ifF {b : Bool} (h : b = false) (u v : Value) : u = if b then v else u := by rw [h]; rfl
end
attribute [go_sem] dropS
end Go.Proofs.YtlploojfcmcckaaDoor.VM
namespace Go.Proofs.YtlploojfcmcckaaDoor.VM
open Go Go.RowKit
section
variable {P : Program} {N : Nat} {Q : Exit → List E → Prop} {L : List E} {ops : Array Oper} {l : List Oper}
theorem AWL.splitF (t : Nat) {b : Bool} (h : slotL L t = .v (.bool b)) (hf : b = false → AWL P N ops l Q L) (ht : b = true → AWL P N ops l Q L) : AWL P N ops l Q L := AWL.split t h ht hf
end
end Go.Proofs.YtlploojfcmcckaaDoor.VM
namespace Go.Proofs.YtlploojfcmcckaaDoor.VM
attribute [go_sem] List.take_succ_cons List.take_zero List.drop_succ_cons List.drop_zero List.take_nil List.drop_nil evParts
end Go.Proofs.YtlploojfcmcckaaDoor.VM
namespace Go.Proofs.YtlploojfcmcckaaDoor.VM
open Go Go.RowKit
section
variable {P : Program} {N : Nat} {Q : Exit → List E → Prop} {L : List E}
end
end Go.Proofs.YtlploojfcmcckaaDoor.VM
namespace Go.Proofs.YtlploojfcmcckaaDoor.VM
theorem sim_nil {n : Nat} {f g : Nat → Nat → T} : (T.s n 0 f).sim (.s n 0 g) := ⟨_, rfl, fun k c hk => absurd hk (Nat.not_lt_zero k)⟩
end Go.Proofs.YtlploojfcmcckaaDoor.VM
namespace Go.Proofs.YtlploojfcmcckaaDoor.VM
attribute [go_sem] Nat.lt_irrefl wXs wX roXs roX T.at rowsX takeX
end Go.Proofs.YtlploojfcmcckaaDoor.VM
namespace Go.Proofs.YtlploojfcmcckaaDoor.VM
end Go.Proofs.YtlploojfcmcckaaDoor.VM
namespace Go.Proofs.YtlploojfcmcckaaDoor.VM
end Go.Proofs.YtlploojfcmcckaaDoor.VM
namespace Go.Proofs.YtlploojfcmcckaaDoor.VM
theorem isS_tr {α : Type} [En α] (l : List α) : (tr l).isS = true := rfl
theorem isS_s (n len : Nat) (f : Nat → Nat → T) : (T.s n len f).isS = true := rfl
theorem at_nil (t : T) : t.at [] = t := by cases t <;> rfl
theorem at_tr {α : Type} [En α] (l : List α) (n k c : Nat) (q : Path) : (tr l).at ((n, k, c) :: q) = ((En.cs (l.getD k En.dflt)).getD c .j).at q := by rw [tr, T.at]
attribute [go_sem] isS_tr isS_s at_nil at_tr
end Go.Proofs.YtlploojfcmcckaaDoor.VM
namespace Go.Proofs.YtlploojfcmcckaaDoor.VM
open Go Go.RowKit
section
variable {P : Program} {N : Nat} {Q : Exit → List E → Prop} {L L' : List E} {ops : Array Oper} {cx : Cx} {a b : Act} {w : World} {S R S' : Array Bool} {pend pend' todo qs : List Nat}
end
end Go.Proofs.YtlploojfcmcckaaDoor.VM
namespace Go.Proofs.YtlploojfcmcckaaDoor.VM
open Go Go.RowKit
section
variable {P : Program} {N : Nat} {Q : Exit → List E → Prop} {L : List E}
end
end Go.Proofs.YtlploojfcmcckaaDoor.VM
namespace Go.Proofs.YtlploojfcmcckaaDoor.VM
open Go Go.RowKit
section
variable {P : Program} {L : List E} {dst : Option Tmp} {ty : TypeId} {pos : String} {af : Array Edge} {g : Option (Nat × Bool)}
/-- 'string(b)' -/
theorem Qt.convBS {s t e : TypeId} {x : Operand} {id : Nat} {q : Path} {m : M} {T0 : T} {l : List UInt8} (hx : evX L x = .h id q) (hR : rootL L id = some (m, T0)) (hT : T0.at q = tr l) (hs : P.underlying s = some (.slice e)) (he : P.underlying e = some (.int .u8)) (ht : P.underlying t = some .string) : Qt P ⟨dst, .convert s t x, ty, pos, af, g⟩ L (.v (.string ⟨l.toArray⟩)) :=
 (fun H w a hev ⟨val, G, hr⟩ => by
  have h := hev x
  rw [hx] at h
  obtain ⟨m', t', g1, g2, g3, g4⟩ := h
  obtain ⟨rfl, rfl⟩ := hr.one _ _ _ _ _ g1 (rootL_mem hR)
  obtain ⟨h', F, e1, e2⟩ := hr.node g1 g2
  rw [g4] at e1; cases e1
  rw [hT] at e2
  obtain ⟨hn, ad, cap, h0, hl, hm, b, off, V, G', h1, h2⟩ := e2
  refine ⟨_, run_v ?_, rfl⟩
  rw [h0]
  cases l with
  | nil =>
   have := run_convert_bytes_string (P := P) w s t e ad 0 cap hs he ht
   simp only [List.length_nil] at this ⊢
   rw [this]
   cases ad <;> simp [Conv.bytesToString, loadCells, loadCellsFrom, Sem.run_pure] <;> rfl
  | cons y l =>
   rw [h1 (by simp)]
   refine run_convert_bytes_back w s t e _ cap (y :: l) hs he ht fun j hj => ?_
   obtain ⟨k1, k2, _⟩ := h2 j 0 (by simpa using hj) (by simp [En.n])
   have hg : (y :: l).getD j En.dflt = (y :: l)[j] := by simp only [List.getD_eq_getElem?_getD, List.getElem?_eq_getElem hj, Option.getD_some]
   have hv : V j 0 = bv ((y :: l)[j]) := by
    have k3 : Rd w ((En.cs ((y :: l).getD j En.dflt)).getD 0 T.j) (G' j 0) (V j 0) := k2
    rw [hg] at k3
    exact k3.1
   rw [Addr.add_lit]
   have hn1 : En.n UInt8 = 1 := rfl
   have k4 : w.cell? ⟨b, off + j, none⟩ = some (V j 0) := by simpa [hn1] using k1
   rw [k4, hv])
end
theorem pbCat {a b : ByteArray} (h : a.size + b.size ≤ 9223372036854775807) : pureBin .add (.string a) (.string b) = some (.string (a ++ b)) := if_pos h
end Go.Proofs.YtlploojfcmcckaaDoor.VM
namespace Go.Proofs.YtlploojfcmcckaaDoor.VM
open Go Go.RowKit
instance : Fl UInt8 := ⟨fun a c hc => by
 match c, hc with
 | 0, _ => rfl
 | c + 1, h => exact absurd h (by simp [En.n])⟩
theorem cs_u8 (a : UInt8) : En.cs a = [.v (bv a)] := rfl
attribute [go_sem] cs_u8
/-- one more element at the end -/
theorem app_one {α : Type} [Fl α] {l : List α} {a : α} {g : Nat → Nat → T} (hg : ∀ c, c < En.n α → flatT (g 0 c) = (En.cs a).getD c .j) : (appT (En.n α) l.length (fun k c => (En.cs (l.getD k En.dflt)).getD c .j) 1 fun k c => flatT (g k c)).sim (tr (l ++ [a])) :=
 app_sim (l' := [a]) rfl (fun k c _ _ => rfl) fun k c hk hc => by
  have : k = 0 := by simpa using hk
  subst this
  exact hg c hc
end Go.Proofs.YtlploojfcmcckaaDoor.VM
namespace Go.Proofs.YtlploojfcmcckaaDoor.VM
open Go Go.RowKit
mutual
theorem VR.rn {R R' : RT} {H H' : Nat → Value} {w : World} {ρ : Nat → Nat} (hR : ∀ id m t, R id m t → R' (ρ id) m t ∧ H' (ρ id) = H id) : ∀ {x : X} {v : Value}, VR R H w x v → VR R' H' w (x.ren ρ) v
 | .g xs, v, ⟨vs, h1, h2⟩ => ⟨vs, h1, VRs.rn hR h2⟩
 | .t xs, v, ⟨vs, h1, h2⟩ => ⟨vs, h1, VRs.rn hR h2⟩
 | .f fn xs, v, ⟨vs, h1, h2⟩ => ⟨vs, h1, VRs.rn hR h2⟩
 | .v x, v, h => h
 | .j, v, _ => trivial
 | .c, v, h => h
 | .p id q n k c, v, h => by obtain ⟨m, t, h1, h2⟩ := h; exact ⟨m, t, (hR _ _ _ h1).1, by rw [(hR _ _ _ h1).2]; exact h2⟩
 | .h id q, v, h => by obtain ⟨m, t, h1, h2⟩ := h; exact ⟨m, t, (hR _ _ _ h1).1, by rw [(hR _ _ _ h1).2]; exact h2⟩
 | .a id q n lo len, v, h => by obtain ⟨m, t, h1, h2⟩ := h; exact ⟨m, t, (hR _ _ _ h1).1, by rw [(hR _ _ _ h1).2]; exact h2⟩
theorem VRs.rn {R R' : RT} {H H' : Nat → Value} {w : World} {ρ : Nat → Nat} (hR : ∀ id m t, R id m t → R' (ρ id) m t ∧ H' (ρ id) = H id) : ∀ {xs : List X} {vs : List Value}, VRs R H w xs vs → VRs R' H' w (X.rens ρ xs) vs
 | [], [], _ => trivial
 | x :: xs, v :: vs, ⟨h1, h2⟩ => ⟨h1.rn hR, VRs.rn hR h2⟩
 | [], _ :: _, h => h.elim
 | _ :: _, [], h => h.elim
end
def rn1 (a b i : Nat) : Nat := if i = a then b else i
/-- root a is called b -/
def renL (a b : Nat) : List E → List E
 | [] => []
 | .sl s x :: L => .sl s (x.ren (rn1 a b)) :: renL a b L
 | .rt i m t :: L => .rt (rn1 a b i) m t :: renL a b L
 | .al i c x :: L => .al (rn1 a b i) c (x.ren (rn1 a b)) :: renL a b L
theorem renL_mem {a b : Nat} : ∀ {L : List E} {e : E}, e ∈ renL a b L → (∃ s x, .sl s x ∈ L ∧ e = .sl s (x.ren (rn1 a b))) ∨ (∃ i m t, .rt i m t ∈ L ∧ e = .rt (rn1 a b i) m t) ∨ ∃ i c x, .al i c x ∈ L ∧ e = .al (rn1 a b i) c (x.ren (rn1 a b))
 | .sl s x :: L, e, h => by
  rcases List.mem_cons.1 h with h | h
  ·exact .inl ⟨s, x, List.mem_cons_self .., h⟩
  ·rcases renL_mem h with ⟨s, x, h1, h2⟩ | ⟨i, m, t, h1, h2⟩ | ⟨i, c, x, h1, h2⟩
   ·exact .inl ⟨s, x, List.mem_cons_of_mem _ h1, h2⟩
   ·exact .inr (.inl ⟨i, m, t, List.mem_cons_of_mem _ h1, h2⟩)
   ·exact .inr (.inr ⟨i, c, x, List.mem_cons_of_mem _ h1, h2⟩)
 | .rt i m t :: L, e, h => by
  rcases List.mem_cons.1 h with h | h
  ·exact .inr (.inl ⟨i, m, t, List.mem_cons_self .., h⟩)
  ·rcases renL_mem h with ⟨s, x, h1, h2⟩ | ⟨i, m, t, h1, h2⟩ | ⟨i, c, x, h1, h2⟩
   ·exact .inl ⟨s, x, List.mem_cons_of_mem _ h1, h2⟩
   ·exact .inr (.inl ⟨i, m, t, List.mem_cons_of_mem _ h1, h2⟩)
   ·exact .inr (.inr ⟨i, c, x, List.mem_cons_of_mem _ h1, h2⟩)
 | .al i c x :: L, e, h => by
  rcases List.mem_cons.1 h with h | h
  ·exact .inr (.inr ⟨i, c, x, List.mem_cons_self .., h⟩)
  ·rcases renL_mem h with ⟨s, x, h1, h2⟩ | ⟨i, m, t, h1, h2⟩ | ⟨i, c, x, h1, h2⟩
   ·exact .inl ⟨s, x, List.mem_cons_of_mem _ h1, h2⟩
   ·exact .inr (.inl ⟨i, m, t, List.mem_cons_of_mem _ h1, h2⟩)
   ·exact .inr (.inr ⟨i, c, x, List.mem_cons_of_mem _ h1, h2⟩)
theorem rts_renL {a b : Nat} {i : Nat} {m : M} {t : T} {L : List E} : rts (renL a b L) i m t ↔ ∃ i0, rts L i0 m t ∧ rn1 a b i0 = i := by
 induction L with
 | nil => simp [rts, renL]
 | cons e L ih =>
  simp only [rts] at ih ⊢
  cases e with
  | sl s x => simp only [renL, List.mem_cons, ih]; simp
  | al i' c x => simp only [renL, List.mem_cons, ih]; simp
  | rt j m1 t1 =>
   simp only [renL, List.mem_cons, ih, E.rt.injEq]
   constructor
   ·rintro (⟨rfl, rfl, rfl⟩ | ⟨i0, h1, h2⟩)
    ·exact ⟨j, .inl ⟨rfl, rfl, rfl⟩, rfl⟩
    ·exact ⟨i0, .inr h1, h2⟩
   ·rintro ⟨i0, ⟨rfl, rfl, rfl⟩ | h1, h2⟩
    ·exact .inl ⟨h2.symm, rfl, rfl⟩
    ·exact .inr ⟨i0, h1, h2⟩
theorem Weak.renR {N : Nat} {L : List E} {a b : Nat} (hb : rootL L b = none) (ha1 : a < base) (hb1 : b < base) : Weak N L (renL a b L) := fun cx ac w hs => by
 obtain ⟨H, G, hr, hG⟩ := hs.rp
 have hnb := rootL_none hb
 have hinj : ∀ {i j m t m' t'}, rts L i m t → rts L j m' t' → rn1 a b i = rn1 a b j → i = j := fun {i j m t m' t'} h1 h2 e => by
  have e1 : i ≠ b := fun e => hnb _ _ (e ▸ h1)
  have e2 : j ≠ b := fun e => hnb _ _ (e ▸ h2)
  unfold rn1 at e
  split at e <;> split at e <;> omega
 let H' : Nat → Value := fun i => if i = b then H a else H i
 let G' : Nat → FP := fun i => if i = b then G a else G i
 have hH : ∀ {i m t}, rts L i m t → H' (rn1 a b i) = H i ∧ G' (rn1 a b i) = G i := fun {i m t} h => by
  have e1 : i ≠ b := fun e => hnb _ _ (e ▸ h)
  simp only [H', G', rn1]
  by_cases e : i = a
  ·subst e; simp
  ·simp [e, e1]
 have hV : ∀ {x v}, VR (rts L) H w x v → VR (rts (renL a b L)) H' w (x.ren (rn1 a b)) v := fun h => h.rn fun id m t hh => ⟨rts_renL.2 ⟨id, hh, rfl⟩, (hH hh).1⟩
 refine ⟨hs.siz, hs.dfr, hs.chg, H', G', ⟨?_, ?_, ?_, ?_, ?_, ?_, ?_, ?_⟩, ?_, ?_⟩
 ·intro i m t m' t' h1 h2
  obtain ⟨i0, g1, rfl⟩ := rts_renL.1 h1
  obtain ⟨j0, g2, e⟩ := rts_renL.1 h2
  obtain rfl := hinj g2 g1 e
  exact hr.one _ _ _ _ _ g1 g2
 ·intro i m t h1 h2
  obtain ⟨i0, g1, rfl⟩ := rts_renL.1 h1
  rw [(hH g1).1, (hH g1).2]
  exact hr.own _ _ _ g1 h2
 ·intro i t h1
  obtain ⟨i0, g1, rfl⟩ := rts_renL.1 h1
  rw [(hH g1).1, (hH g1).2]
  exact hr.ro _ _ g1
 ·intro i t h1
  obtain ⟨i0, g1, rfl⟩ := rts_renL.1 h1
  rw [(hH g1).2]
  exact hr.rold _ _ g1
 ·intro i t h1
  obtain ⟨i0, g1, rfl⟩ := rts_renL.1 h1
  exact hr.box _ _ g1
 ·intro i m t i' m' t' h1 h2 hne hm
  obtain ⟨i0, g1, rfl⟩ := rts_renL.1 h1
  obtain ⟨j0, g2, rfl⟩ := rts_renL.1 h2
  rw [(hH g1).2, (hH g2).2]
  exact hr.dis _ _ _ _ _ _ g1 g2 (fun e => hne (by rw [e])) hm
 ·intro s x h
  rcases renL_mem h with ⟨s', x', h1, h2⟩ | ⟨i, m, t, h1, h2⟩ | ⟨i, c, x', h1, h2⟩
  ·cases h2; exact hV (hr.sl _ _ h1)
  ·cases h2
  ·cases h2
 ·intro i c x h
  rcases renL_mem h with ⟨s', x', h1, h2⟩ | ⟨i', m, t, h1, h2⟩ | ⟨i', c', x', h1, h2⟩
  ·cases h2
  ·cases h2
  ·cases h2
   obtain ⟨n, f, g1, g2, A, v, g3, g4, g5⟩ := hr.al _ _ _ h1
   exact ⟨n, f, rts_renL.2 ⟨_, g1, rfl⟩, g2, A, v, by rw [(hH g1).1]; exact g3, g4, hV g5⟩
 ·intro i m t h1
  obtain ⟨i0, g1, rfl⟩ := rts_renL.1 h1
  rw [(hH g1).2]
  exact hG.1 _ _ _ g1
 ·intro i m t hbs h1
  obtain ⟨i0, g1, e⟩ := rts_renL.1 h1
  have : i0 = i := by
   unfold rn1 at e
   split at e
   ·subst e; omega
   ·exact e
  subst this
  have := hH g1
  rw [e] at this
  rw [this.1]
  exact hG.2 _ _ _ hbs g1
section
variable {P : Program} {N : Nat} {Q : Exit → List E → Prop} {L : List E}
end
attribute [go_sem] renL rn1
end Go.Proofs.YtlploojfcmcckaaDoor.VM
namespace Go.Proofs.YtlploojfcmcckaaDoor.VM
open Go Go.RowKit
theorem app_byte {l : List UInt8} {b : UInt8} {v : Value} (h : v = bv b) {g : Nat → Nat → T} (hg : g 0 0 = .v v) : (appT (En.n UInt8) l.length (fun k c => (En.cs (l.getD k En.dflt)).getD c .j) 1 fun k c => flatT (g k c)).sim (tr (l ++ [b])) :=
 app_one fun c hc => by
  match c, hc with
  | 0, _ => rw [hg, h]; rfl
  | c + 1, hc => exact absurd hc (by simp [En.n])
end Go.Proofs.YtlploojfcmcckaaDoor.VM
namespace Go.Proofs.YtlploojfcmcckaaDoor.VM
open Go Go.RowKit
/-! slice expressions -/
section
variable {P : Program} {N : Nat} {L : List E} {dst : Option Tmp} {ty : TypeId} {pos : String} {af : Array Edge} {g : Option (Nat × Bool)}
/-- a bound of a slice expression -/
def slB (L : List E) (d : Nat) : Option Operand → Nat → Prop
 | none, k => k = d
 | some x, k => ∃ kd j, evX L x = .v (.int kd j) ∧ j = (k : Int)
theorem slB_no {d : Nat} : slB L d none d := rfl
theorem slB_so {d k : Nat} {x : Operand} {kd : IntKind} {j : Int} (h : evX L x = .v (.int kd j)) (hj : j = (k : Int)) : slB L d (some x) k := ⟨kd, j, h, hj⟩
theorem slB_ev {d k : Nat} {o : Option Operand} (h : slB L d o k) {H : Nat → Value} {w : World} {a : Act} (he : ∀ y, VR (rts L) H w (evX L y) (Act.eval a y)) : (o.map a.eval = none ∧ k = d) ∨ ∃ kd, o.map a.eval = some (.int kd (k : Int)) := by
 cases o with
 | none => exact .inl ⟨rfl, h⟩
 | some x =>
  obtain ⟨kd, j, h1, h2⟩ := h
  have h3 := he x
  rw [h1] at h3
  simp only [VR] at h3
  exact .inr ⟨kd, by rw [Option.map_some, h3, h2]⟩
theorem run_sliceBound {w : World} {kd : IntKind} {k y : Nat} {code : BoundsCode} (h : k ≤ y) : (Instr.sliceBound (.int kd (k : Int)) y code).run P w = .ok k w := by
 have h2 : (0 : Int) ≤ k ∧ (k : Int) ≤ y := by omega
 simp [Instr.sliceBound, asIntOf, h2, go_sem]
theorem run_sliceBounds {w : World} {b : Bool} {len cap lo hi : Nat} {ol oh : Option Value} (hl : (ol = none ∧ lo = 0) ∨ ∃ kd, ol = some (.int kd (lo : Int))) (hh : (oh = none ∧ hi = len) ∨ ∃ kd, oh = some (.int kd (hi : Int))) (h1 : lo ≤ hi) (h2 : hi ≤ cap) : (Instr.sliceBounds b len cap ol oh none).run P w = .ok (lo, hi, cap) w := by
 have hb := @run_sliceBound P
 rcases hl with ⟨rfl, rfl⟩ | ⟨kl, rfl⟩ <;> rcases hh with ⟨rfl, rfl⟩ | ⟨kh, rfl⟩ <;> simp [Instr.sliceBounds, go_sem, hb, h1, h2]
theorem run_sliceStr {w : World} {t : TypeId} {s : ByteArray} {lo hi : Nat} {ol oh : Option Value} (h : P.underlying t = some .string) (hb : (Instr.sliceBounds false s.size s.size ol oh none).run P w = .ok (lo, hi, s.size) w) : (Instr.slice t (.string s) ol oh none).run P w = .ok (.string (s.extract lo hi)) w := by
 simp only [Instr.slice, Sem.run_bind, run_underlying h, Result.andThen, hb, Sem.run_pure, Option.isSome_none, Bool.false_eq_true, if_false]
/-- a slice of a string -/
theorem Qt.sliceS {t : TypeId} {x : Operand} {ol oh : Option Operand} {s : ByteArray} {lo hi : Nat} (hx : evX L x = .v (.string s)) (hS : P.underlying t = some .string) (hl : slB L 0 ol lo) (hh : slB L s.size oh hi) (h1 : lo ≤ hi) (h2 : hi ≤ s.size) : Qt P ⟨dst, .slice t x ol oh none, ty, pos, af, g⟩ L (.v (.string (s.extract lo hi))) :=
 (fun H w a he _ => by
  have h := he x
  rw [hx] at h
  simp only [VR] at h
  have hb := run_sliceBounds (P := P) (w := w) (b := false) (len := s.size) (cap := s.size) (slB_ev hl he) (slB_ev hh he) h1 h2
  have hq := run_sliceStr hS hb
  have hq2 := run_underlying (P := P) (w := w) hS
  refine ⟨_, ?_, rfl⟩
  simp only [execOp, h, Instr.sliceAt, Option.map_none]
  generalize Instr.slice t (.string s) (Option.map a.eval ol) (Option.map a.eval oh) none = B at hq ⊢
  simp [go_sem, hq, hq2])
end
end Go.Proofs.YtlploojfcmcckaaDoor.VM
namespace Go.Proofs.YtlploojfcmcckaaDoor.VM
open Go Go.RowKit Go.Sort

end Go.Proofs.YtlploojfcmcckaaDoor.VM
namespace Go.Proofs.YtlploojfcmcckaaDoor.VM
open Go Go.RowKit
end Go.Proofs.YtlploojfcmcckaaDoor.VM
namespace Go.Proofs.YtlploojfcmcckaaDoor.VM
open Go Go.RowKit
section
variable {P : Program} {N : Nat} {L : List E} {dst : Option Tmp} {ty : TypeId} {pos : String} {af : Array Edge} {g : Option (Nat × Bool)} {d : Nat}
end
end Go.Proofs.YtlploojfcmcckaaDoor.VM
namespace Go.Proofs.YtlploojfcmcckaaDoor.VM
open Go Go.RowKit
/-! ### what lies in a box by alias, and what lies in it outright -/
section
variable {R R' : RT} {H H' : Nat → Value} {w w' : World}
end
end Go.Proofs.YtlploojfcmcckaaDoor.VM
namespace Go.Proofs.YtlploojfcmcckaaDoor.VM
open Go Go.RowKit
theorem pbRem4 (k : Nat) : pureBin .rem (iv k) (iv 4) = some (iv ((k % 4 : Nat) : Int)) := by
 show some (Value.int .i64 ((k : Int).tmod 4)) = _
 have : ((k : Int).tmod 4) = ((k % 4 : Nat) : Int) := by rw [Int.tmod_eq_emod_of_nonneg (by omega)]; omega
 rw [this]
end Go.Proofs.YtlploojfcmcckaaDoor.VM
namespace Go.Proofs.YtlploojfcmcckaaDoor.VM
open Go Go.RowKit
/-! short words for the walks -/
section
variable {P : Program} {N : Nat} {L L' : List E} {Q : Exit → List E → Prop} {ops : Array Oper} {rest : List Oper} {o : Oper} {qs pend todo : List Nat} {S : Array Bool}
theorem qq {d : Nat} {x : X} {gb : Bool} (h : Qt P o L x) (k : AWL P N ops rest Q (putL L d x)) (hw : wantL ops L o = some gb := by exact rfl) (hgb : gb = true := by exact rfl) (hd : o.dst = some d := by exact rfl) (hN : d < N := by decide) : AWL P N ops (o :: rest) Q L := AWL.q hw hgb hd hN h k
theorem nm (k : AWL P N ops rest Q L') (h : L = L' := by simp only [go_sem, Int.reduceToNat, Nat.reduceLT, reduceIte, Nat.reduceEqDiff, Nat.reduceAdd, Nat.reduceMul, Nat.reduceBEq, reduceCtorEq]; rfl) : AWL P N ops rest Q L := AWL.nrm h k
theorem nl (k : Q .normal L') (h : L = L' := by simp only [go_sem, Int.reduceToNat, Nat.reduceLT, reduceIte, Nat.reduceEqDiff, Nat.reduceAdd, Nat.reduceMul, Nat.reduceBEq, reduceCtorEq]; rfl) : AWL P N ops [] Q L := AWL.nilE h k
theorem na (k : AWA P N ops qs Q S pend todo L') (h : L = L' := by first | (simp only [go_sem, Int.reduceToNat, Nat.reduceLT, reduceIte, Nat.reduceEqDiff, Nat.reduceAdd, Nat.reduceMul, Nat.reduceBEq, reduceCtorEq]; rfl) | rfl) : AWA P N ops qs Q S pend todo L := AWA.nrm h k
theorem tk (i : Nat) {x : X} {d : Nat} {o : Oper} {gb : Bool} (ho : ops[i]? = some o) (h : Qt P o L x) (k : AWA P N ops qs Q (S.setIfInBounds i true) (i :: pend) [] (putL L d x)) (hd : o.dst = some d := by exact rfl) (hq' : qs.contains i = true := by exact rfl) (hr : (Region.ready .any ops S).contains i = true := by decide +kernel) (hw : wantL ops L o = some gb := by exact rfl) (hgb : gb = true := by exact rfl) : AWA P N ops qs Q S pend [] L :=
 AWA.take i ho hd hq' hr (.on hw hgb h) k
theorem tg (i : Nat) {x : X} {d : Nat} {o : Oper} {gb : Bool} (ho : ops[i]? = some o) (hgb : gb = true) (h : Qt P o L x) (k : AWA P N ops qs Q (S.setIfInBounds i true) (i :: pend) [] (putL L d x)) (hd : o.dst = some d := by exact rfl) (hq' : qs.contains i = true := by exact rfl) (hr : (Region.ready .any ops S).contains i = true := by decide +kernel) (hw : wantL ops L o = some gb := by exact rfl) : AWA P N ops qs Q S pend [] L :=
 AWA.take i ho hd hq' hr (.on hw hgb h) k
theorem tf (i : Nat) {d : Nat} {o : Oper} {gb : Bool} (hgb : gb = false) (k : AWA P N ops qs Q (S.setIfInBounds i true) (i :: pend) [] (putL L d (.v undef))) (ho : ops[i]? = some o := by exact rfl) (hd : o.dst = some d := by exact rfl) (hq' : qs.contains i = true := by exact rfl) (hr : (Region.ready .any ops S).contains i = true := by decide +kernel) (hw : wantL ops L o = some gb := by exact rfl) : AWA P N ops qs Q S pend [] L :=
 AWA.take i ho hd hq' hr (.off hw hgb) k
theorem nz (k : Q .normal L') (hr : Region.ready .any ops S = [] := by decide +kernel) (h : L = L' := by first | (simp only [go_sem, Int.reduceToNat, Nat.reduceLT, reduceIte, Nat.reduceEqDiff, Nat.reduceAdd, Nat.reduceMul, Nat.reduceBEq, reduceCtorEq]; rfl) | rfl) : AWA P N ops qs Q S pend [] L := AWA.nilE hr h k
theorem ss {gb : Bool} (k : AWL P N ops rest Q L') (h : Stp P N o L L' := by first | exact Stp.storeA rfl rfl rfl rfl (by decide) rfl | exact Stp.store rfl rfl (by simp) rfl rfl rfl (by decide) rfl) (hw : wantL ops L o = some gb := by exact rfl) (hgb : gb = true := by exact rfl) : AWL P N ops (o :: rest) Q L := AWL.step hw hgb h k
theorem sp {gb : Bool} (h : Stp P N o L L') (k : AWL P N ops rest Q L') (hw : wantL ops L o = some gb := by exact rfl) (hgb : gb = true := by exact rfl) : AWL P N ops (o :: rest) Q L := AWL.step hw hgb h k
theorem jd (h : Q .normal L) : AW P N .skip Q L := AW.skip h
end
section
variable {P : Program} {L : List E} {dst : Option Tmp} {ty : TypeId} {pos : String} {af : Array Edge} {g : Option (Nat × Bool)}
theorem fA {t : TypeId} {x : Operand} {i off id : Nat} {q : Path} {n k c : Nat} {m : M} {T0 : T} {len : Nat} {f : Nat → Nat → T} (hF : Fld P t i off) (hx : evX L x = .p id q n k c := by exact rfl) (hR : rootL L id = some (m, T0) := by exact rfl) (hT : T0.at q = .s n len f := by exact rfl) (hc : c + off < n := by decide) : Qt P ⟨dst, .fieldAddr t x i, ty, pos, af, g⟩ L (.p id q n k (c + off)) := Qt.fieldAddr hx hF hR hT hc
end
/-- what a test says, in plain words -/
theorem cnd : (∀ (p : Prop) [Decidable p], (decide p = true) = p) ∧ (∀ (p : Prop) [Decidable p], (decide p = false) = ¬ p) ∧ (∀ a b : Int, ((a != b) = true) = ¬ (a = b)) ∧ (∀ a b : Int, ((a == b) = true) = (a = b)) ∧ (∀ a b : Int, ((a == b) = false) = ¬ (a = b)) ∧ (∀ a b : Int, ((a != b) = false) = (a = b)) ∧
    (∀ b : Bool, ((!b) = true) = (b = false)) ∧ (∀ b : Bool, ((!b) = false) = (b = true)) ∧ (∀ a b : Bool, ((a && b) = true) = (a = true ∧ b = true)) ∧ (∀ a b : Bool, ((a || b) = true) = (a = true ∨ b = true)) ∧ (∀ a b : Bool, ((a && b) = false) = (a = false ∨ b = false)) ∧ (∀ a b : Bool, ((a || b) = false) = (a = false ∧ b = false)) ∧
    (∀ a b : Int, (¬ a < b) = (b ≤ a)) ∧ (∀ a b : Int, (¬ a ≤ b) = (b < a)) ∧ (∀ n : Nat, (n : Int).toNat = n) := by
  refine ⟨?_, ?_, ?_, ?_, ?_, ?_, ?_, ?_, ?_, ?_, ?_, ?_, ?_, ?_, ?_⟩ <;> intros <;> first | (simp; done) | (rename_i a b; cases a <;> cases b <;> simp)
section
variable {P : Program} {N : Nat} {L : List E} {Q : Exit → List E → Prop} {ops : Array Oper} {rest : List Oper} {d : Nat} {ty : TypeId} {pos : String} {af : Array Edge} {g : Option (Nat × Bool)}
theorem cv {f : FuncId} {cal : Operand} {caps : List X} {args : Array Operand} {tys : Array TypeId} {xs : List X} {ρ : List E} {m : Nat} {r : Value} {gb : Bool} (hE : Ent P f) (hcal : evX L cal = .f f caps) (hq : roXs L (args.toList.map (evX L) ++ caps) base = (xs, ρ, m)) (hc : Con P f xs ρ fun x _ => x = .v r)
  (k : AWL P N ops rest Q (putL L d (.v r))) (hN : d < N := by decide) (hw : wantL ops L ⟨some d, .call { callee := .value cal, args := args, argTypes := tys }, ty, pos, af, g⟩ = some gb := by exact rfl) (hgb : gb = true := by exact rfl) : AWL P N ops (⟨some d, .call { callee := .value cal, args := args, argTypes := tys }, ty, pos, af, g⟩ :: rest) Q L :=
 AWL.step hw hgb (Stp.callV rfl hN hE hcal hq hc) k
end
end Go.Proofs.YtlploojfcmcckaaDoor.VM
namespace Go.Proofs.YtlploojfcmcckaaDoor.VM
open Go Go.RowKit
/-! strings laid together -/
theorem Chg.of_below {S : FP} {w w' : World} (h : Below w.heap.size w w') : Chg S w w' := by
 refine ⟨h.os, h.tape, h.output, h.size, fun b cur e fr hb => ⟨cur, ?_, rfl, fun _ _ => rfl⟩, fun b o hb _ => ?_⟩
 ·rw [h.block b (Array.getElem?_eq_some_iff.1 hb).1]; exact hb
 ·rw [h.block b (Array.getElem?_eq_some_iff.1 hb).1]; exact hb
theorem sim_cells {α : Type} [En α] {l : List α} {n m : Nat} {f : Nat → Nat → T} (hn : n = En.n α) (hm : m = l.length) (h : ∀ k c, k < m → c < n → f k c = (En.cs (l.getD k En.dflt)).getD c .j) : (T.s n m f).sim (tr l) := by
 subst hn hm
 exact T.sim_of h
theorem sim_row1 {α : Type} [En α] {l : List α} {n m : Nat} {f : Nat → Nat → T} (h1 : En.n α = 1) (hn : n = En.n α) (hm : m = l.length) (h : ∀ k, k < m → f k 0 = (En.cs (l.getD k En.dflt)).getD 0 .j) : (T.s n m f).sim (tr l) :=
 sim_cells hn hm fun k c hk hc => by
  obtain rfl : c = 0 := by omega
  exact h k hk
end Go.Proofs.YtlploojfcmcckaaDoor.VM
namespace Go.Proofs.YtlploojfcmcckaaDoor.VM
open Go Go.RowKit
/-! shorter words for the walks -/
section
variable {P : Program} {N : Nat} {L L' : List E} {Q : Exit → List E → Prop} {ops : Array Oper} {l rest : List Oper} {o : Oper} {qs pend todo : List Nat} {S : Array Bool}
theorem Rf {id : Nat} {m : M} {t : T} (h : rootL L id = some (m, t)) : ∃ t0, rootL L id = some (m, t0) ∧ t0.sim t := ⟨t, h, T.sim_refl t⟩
theorem st1 {a b : X} (h : a = b := by simp only [slotL, reduceIte, Nat.reduceEqDiff]; first | rfl | (rw [IntWalk.i64_in _ (by omega)]; rfl)) : a = b := h
theorem AW.loopW {c : Code} {ι : Type} (J : ι → List E) (μ : ι → Nat) (i : ι) (hw : Weak N L (J i)) (h : ∀ i, AW P N c (thenQ (fun L => ∃ i', Weak N L (J i') ∧ μ i' < μ i) Q) (J i)) : AW P N (.loop c) Q L := AW.weak hw (AW.loop J μ i h)
theorem qg {d : Nat} {x : X} {gb : Bool} (hgb : gb = true) (h : Qt P o L x) (k : AWL P N ops rest Q (putL L d x)) (hw : wantL ops L o = some gb := by exact rfl) (hd : o.dst = some d := by exact rfl) (hN : d < N := by decide) : AWL P N ops (o :: rest) Q L := AWL.q hw hgb hd hN h k
theorem og {d : Nat} {gb : Bool} (hgb : gb = false) (k : AWL P N ops rest Q (putL L d (.v undef))) (hw : wantL ops L o = some gb := by exact rfl) (hd : o.dst = some d := by exact rfl) (hN : d < N := by decide) : AWL P N ops (o :: rest) Q L := AWL.out hw hgb hd hN k
theorem wj (d : Nat) (ds : List Nat) {v v' : Value} {LB : List E} (e : v = v') (hB : VM.dropS L ds = LB) (K : AWL P N ops l Q (putL LB d (.v v'))) (h : slotL L d = .v v := by exact rfl) : AWL P N ops l Q L := AWL.weak (Weak.join h e hB) K
theorem a1 (j : Nat) {L1 : List E} {gb : Bool} (pend' D : List Nat) (ho : ops[j]? = some o) (hgb : gb = true) (h : Stp P N o L L1) (k : AWA P N ops qs Q (S.setIfInBounds j true) pend' pend' L1) (hr : Region.ready .any ops S = [j] := by decide +kernel) (hw : wantL ops L o = some gb := by exact rfl)
  (hD : chainB ops [j] D = true := by decide +kernel) (hp : (pend.all fun i => pend'.contains i || D.contains i) = true := by decide +kernel) (hp' : (pend'.all fun i => pend.contains i) = true := by decide +kernel) : AWA P N ops qs Q S pend [] L := AWA.one j pend' D hr ho hw hgb hD hp hp' h k
theorem o1 (j : Nat) {d : Nat} {gb : Bool} (pend' D : List Nat) (ho : ops[j]? = some o) (hgb : gb = false) (k : AWA P N ops qs Q (S.setIfInBounds j true) pend' pend' (putL L d (.v undef))) (hr : Region.ready .any ops S = [j] := by decide +kernel) (hw : wantL ops L o = some gb := by exact rfl)
  (hD : chainB ops [j] D = true := by decide +kernel) (hp : (pend.all fun i => pend'.contains i || D.contains i) = true := by decide +kernel) (hp' : (pend'.all fun i => pend.contains i) = true := by decide +kernel) (hd : o.dst = some d := by exact rfl) (hN : d < N := by decide) : AWA P N ops qs Q S pend [] L := AWA.oneOff j pend' D hr ho hw hgb hD hp hp' hd hN k
end
end Go.Proofs.YtlploojfcmcckaaDoor.VM
namespace Go.Proofs.YtlploojfcmcckaaDoor.VM
open Go Go.RowKit Go.Sort
/-! rows that are handed over and come back as a row of their own -/
end Go.Proofs.YtlploojfcmcckaaDoor.VM
namespace Go.Proofs.YtlploojfcmcckaaDoor.VM
open Go Go.RowKit Go.Sort Go.Shelf Go.Proofs
/-! a number put into a row of numbers (slices.Insert) -/
end Go.Proofs.YtlploojfcmcckaaDoor.VM
namespace Go.Proofs.YtlploojfcmcckaaDoor.VM
open Go Go.RowKit Go.Sort Go.Shelf Go.Proofs
/-! slices.BinarySearch at numbers -/
theorem Chg.drewN {S : FP} (w : World) (q : Nat) : Chg S w (w.drewN q) := ⟨rfl, rfl, rfl, Nat.le_refl _, fun _ cur _ _ h => ⟨cur, h, rfl, fun _ _ => rfl⟩, fun _ _ h _ => h⟩
end Go.Proofs.YtlploojfcmcckaaDoor.VM
namespace Go.Proofs.YtlploojfcmcckaaDoor.VM
open Go Go.RowKit
/-! ### draws: a cursor is handed over (a box whose first cell is an alias of a row that is only read); what comes back is one of many -/
/-- what a call gives: one of many -/
def RetD {α : Type} (n : Nat) (C : α → Prop) (X0 : α → X) (L0 : α → List (Nat × M × T)) (Tm : α → Nat → Nat → T) (x : X) (L : List E) : Prop :=
 ∃ m, C m ∧ RetW (X0 m) (L0 m) [] x L ∧ rts L base .box (.s n 1 (Tm m)) ∧ E.al base 0 (.h (base + 1) []) ∈ L
def RetC {α : Type} (al : Bool) (C : α → Prop) (X0 : α → X) (L0 : α → List (Nat × M × T)) (x : X) (L : List E) : Prop :=
 ∃ m, C m ∧ ∃ ρ : Nat → Nat, x = (X0 m).ren ρ ∧ ((L0 m).map fun r => ρ r.1).Nodup ∧ (∀ r ∈ L0 m, r.2.1 ≠ .ro ∧ rts L (ρ r.1) r.2.1 r.2.2 ∧ ρ r.1 < base) ∧ (al = true → E.al (ρ 0) 0 (.h base []) ∈ L)
def onlyV : List X → Bool
 | [] => true
 | .v _ :: r => onlyV r
 | _ => false
def alsB (bx cd : Nat) : List E → Bool
  | [] => true
  | .al i c x :: L => (!Nat.beq i bx || (Nat.beq c 0 && (match x with | .h j [] => Nat.beq j cd | _ => false))) && alsB bx cd L
  | .sl _ _ :: L => alsB bx cd L
  | .rt _ _ _ :: L => alsB bx cd L
theorem alsB_mem {bx cd : Nat} : ∀ {L : List E}, alsB bx cd L = true → ∀ {c : Nat} {x : X}, E.al bx c x ∈ L → c = 0 ∧ x = .h cd []
 | .al i c' x' :: L, h, c, x, hm => by
  simp only [alsB, Bool.and_eq_true, Bool.or_eq_true] at h
  obtain ⟨h1, h2⟩ := h
  rcases List.mem_cons.1 hm with e | hm
  ·cases e
   rcases h1 with h1 | ⟨h1, h3⟩
   ·rw [Nat.beq_refl] at h1; cases h1
   ·refine ⟨Nat.eq_of_beq_eq_true h1, ?_⟩
    split at h3
    ·rw [Nat.eq_of_beq_eq_true h3]
    ·cases h3
  ·exact alsB_mem h2 hm
 | .sl _ _ :: L, h, c, x, hm => by
  rcases List.mem_cons.1 hm with e | hm
  ·cases e
  ·exact alsB_mem (L := L) h hm
 | .rt _ _ _ :: L, h, c, x, hm => by
  rcases List.mem_cons.1 hm with e | hm
  ·cases e
  ·exact alsB_mem (L := L) h hm
theorem onlyV_ok {R R' : RT} {H H' : Nat → Value} {w : World} : ∀ {xs : List X} {vs : List Value}, onlyV xs = true → VRs R H w xs vs → VRs R' H' w xs vs
 | [], [], _, _ => trivial
 | .v x :: xs, v :: vs, h, ⟨h1, h2⟩ => ⟨h1, onlyV_ok (xs := xs) h h2⟩
 | _ :: _, [], _, h => h.elim
 | [], _ :: _, _, h => h.elim
 | .j :: _, _ :: _, h, _ => by cases h
 | .c :: _, _ :: _, h, _ => by cases h
 | .p .. :: _, _ :: _, h, _ => by cases h
 | .h .. :: _, _ :: _, h, _ => by cases h
 | .a .. :: _, _ :: _, h, _ => by cases h
 | .g _ :: _, _ :: _, h, _ => by cases h
 | .t _ :: _, _ :: _, h, _ => by cases h
 | .f .. :: _, _ :: _, h, _ => by cases h
section
variable {P : Program} {N : Nat} {L : List E} {dst : Option Tmp} {ty : TypeId} {pos : String} {af : Array Edge} {g : Option (Nat × Bool)} {d : Nat}
theorem StpK.callD {α : Type} {C : α → Prop} {X0 : α → X} {L0 : α → List (Nat × M × T)} {Tm : α → Nat → Nat → T} {f : FuncId} {cal : Operand} {args : Array Operand} {tys : Array TypeId} {bx cd n : Nat} {fb : Nat → Nat → T} {tc : T} {xs : List X}
  (hds : dst = some d) (hN : d < N) (hE : Ent P f) (hcal : evX L cal = .f f [])
  (hargs : args.toList.map (evX L) = .p bx [] n 0 0 :: xs) (hxs : onlyV xs = true) (hb : rootL L bx = some (.box, .s n 1 fb)) (hal : aliasL L bx 0 = .h cd []) (hc : rootL L cd = some (.ro, tc)) (hals : alsB bx cd L = true) (hleaf : ∀ c n' l f', c < n → fb 0 c ≠ .s n' l f')
  (hcon : Con P f (.p base [] n 0 0 :: xs) [.rt base .box (.s n 1 fb), .al base 0 (.h (base + 1) []), .rt (base + 1) .ro tc] (RetD n C X0 L0 Tm))
  (hn : ∀ m, ((L0 m).map (·.1)).Nodup) (hbb : ∀ m, ((L0 m).all fun r => nu d r.1 < base) = true) (hx0 : ∀ m, (X0 m).inB ((L0 m).map (·.1)) = true) :
  StpK P N ⟨dst, .call { callee := .value cal, args := args, argTypes := tys }, ty, pos, af, g⟩ L (fun L1 => ∃ m, C m ∧ L1 = putL (newsL (repR L bx (.s n 1 (Tm m))) (rens d (L0 m))) d ((X0 m).ren (nu d))) := fun cx a w Q hs => by
 obtain ⟨H, G, hr, hG⟩ := hs.rp
 have hcv := ev_ok hr cal
 rw [hcal] at hcv
 obtain ⟨us, hu1, hu2⟩ := hcv
 obtain rfl : us = [] := by cases us with
  | nil => rfl
  | cons _ _ => exact hu2.elim
 unfold Oper.wp
 rw [run_callX hE hu1, List.append_nil]
 have hargsV := evXs_ok hr args.toList
 rw [hargs] at hargsV
 generalize hvs : args.toList.map a.eval = vs at hargsV
 cases vs with
 | nil => exact hargsV.elim
 | cons v0 vs =>
 obtain ⟨hv0, hvs1⟩ := hargsV
 have hb' := rootL_mem hb
 have hc' := rootL_mem hc
 have hne : bx ≠ cd := fun e => by
  subst e
  obtain ⟨e, _⟩ := hr.one _ _ _ _ _ hb' hc'
  cases e
 have hal' : E.al bx 0 (.h cd []) ∈ L := by
  rcases aliasL_mem (L := L) (id := bx) (c := 0) with e | e
  ·rw [hal] at e; cases e
  ·rw [hal] at e; exact e
 let H' : Nat → Value := fun i => if i = base then H bx else if i = base + 1 then H cd else undef
 let G' : Nat → FP := fun i => if i = base then G bx else if i = base + 1 then G cd else fun _ _ => False
 have eH0 : H' base = H bx := if_pos rfl
 have eH1 : H' (base + 1) = H cd := by show (if base + 1 = base then _ else _) = _; rw [if_neg (by omega), if_pos rfl]
 have eG0 : G' base = G bx := if_pos rfl
 have eG1 : G' (base + 1) = G cd := by show (if base + 1 = base then _ else _) = _; rw [if_neg (by omega), if_pos rfl]
 have hrts : ∀ {id m t}, rts [.rt base .box (.s n 1 fb), .al base 0 (.h (base + 1) []), .rt (base + 1) .ro tc] id m t → (id = base ∧ m = .box ∧ t = .s n 1 fb) ∨ (id = base + 1 ∧ m = .ro ∧ t = tc) := fun {id m t} h => by
  simp only [rts, List.mem_cons, List.not_mem_nil, or_false, E.rt.injEq, reduceCtorEq, false_or] at h
  rcases h with h | h
  ·exact .inl h
  ·exact .inr h
 have hrp : Rp [.rt base .box (.s n 1 fb), .al base 0 (.h (base + 1) []), .rt (base + 1) .ro tc] (fun _ => undef) H' G' w := by
  refine ⟨fun id m t m' t' k1 k2 => ?_, fun id m t k1 k2 => ?_, fun id t k => ?_, fun id t k => ?_, fun id t k => ?_, fun id m t id' m' t' k1 k2 hne' hm x y hx hy => ?_, fun t x k => ?_, fun id c x k => ?_⟩
  ·rcases hrts k1 with ⟨rfl, rfl, rfl⟩ | ⟨rfl, rfl, rfl⟩ <;> rcases hrts k2 with ⟨e1, e2, e3⟩ | ⟨e1, e2, e3⟩
   ·exact ⟨e2.symm, e3.symm⟩
   ·omega
   ·omega
   ·exact ⟨e2.symm, e3.symm⟩
  ·rcases hrts k1 with ⟨rfl, rfl, rfl⟩ | ⟨rfl, rfl, rfl⟩
   ·rw [eH0, eG0]; exact hr.own _ _ _ hb' (by simp)
   ·exact absurd rfl k2
  ·rcases hrts k with ⟨_, h, _⟩ | ⟨rfl, _, rfl⟩
   ·cases h
   ·rw [eH1, eG1]; exact hr.ro _ _ hc'
  ·rcases hrts k with ⟨_, h, _⟩ | ⟨rfl, _, rfl⟩
   ·cases h
   ·rw [eG1]; exact hr.rold _ _ hc'
  ·rcases hrts k with ⟨_, _, rfl⟩ | ⟨_, h, _⟩
   ·exact ⟨_, _, rfl⟩
   ·cases h
  ·rcases hrts k1 with ⟨rfl, rfl, rfl⟩ | ⟨rfl, rfl, rfl⟩
   ·rcases hrts k2 with ⟨e1, _, _⟩ | ⟨rfl, rfl, rfl⟩
    ·exact hne' e1.symm
    ·rw [eG0] at hx; rw [eG1] at hy
     exact hr.dis _ _ _ _ _ _ hb' hc' hne (by simp) x y hx hy
   ·exact hm rfl
  ·simp at k
  ·simp only [List.mem_cons, List.not_mem_nil, or_false, reduceCtorEq, false_or, E.al.injEq] at k
   obtain ⟨rfl, rfl, rfl⟩ := k
   obtain ⟨n1, f1, q1, q2, A, v, q3, q4, q5⟩ := hr.al _ _ _ hal'
   obtain ⟨_, e⟩ := hr.one _ _ _ _ _ hb' q1
   cases e
   refine ⟨n, fb, by simp [rts], q2, A, v, by rw [eH0]; exact q3, q4, ?_⟩
   obtain ⟨m, t, p1, p2, p3, p4⟩ := q5
   obtain ⟨rfl, rfl⟩ := hr.one _ _ _ _ _ hc' p1
   exact ⟨.ro, tc, by simp [rts], p2, p3, by rw [eH1]; exact p4⟩
 have hxv : VRs (rts [.rt base .box (.s n 1 fb), .al base 0 (.h (base + 1) []), .rt (base + 1) .ro tc]) H' w (.p base [] n 0 0 :: xs) (v0 :: vs) := by
  refine ⟨?_, onlyV_ok hxs hvs1⟩
  obtain ⟨m, t, p1, p2, p3, hv, A, p4, p5⟩ := hv0
  obtain ⟨rfl, rfl⟩ := hr.one _ _ _ _ _ hb' p1
  exact ⟨.box, _, by simp [rts], p2, p3, hv, A, by rw [eH0]; exact p4, p5⟩
 simp only [Oper.upon]
 refine (hcon w _ H' G' (cx.now hs.chg) (fun id m t h1 h2 a o h3 => by
  rcases hrts h1 with ⟨rfl, _, _⟩ | ⟨_, h, _⟩
  ·rw [eG0] at h3; exact cx.avN (hG.1 _ _ _ hb' (by simp) a o h3)
  ·exact absurd h h2) hrp hxv).mono ?_
 rintro e w' ⟨v, x, L2, H2, G2, val2, rfl, ⟨m, hCm, ⟨ρ', rfl, hfix, r1, r2, _⟩, hbx2, hal2⟩, k1, k2, k3, k4, k5⟩
 refine ⟨⟨_, rfl⟩, _, ⟨m, hCm, rfl⟩, ?_⟩
 have hC : Chg (G bx) w w' := k3.mono fun b o _ hx => by
  obtain ⟨id, m', t, q1, q2, q3⟩ := hx
  rcases hrts q1 with ⟨rfl, _, _⟩ | ⟨_, h, _⟩
  ·rw [eG0] at q3; exact q3
  ·exact absurd h q2
 have hgrow : ∀ id m' t, rts L2 id m' t → m' ≠ .ro → ∀ b o, G2 id b o → G bx b o ∨ w.heap.size ≤ b := fun id m' t h1 h2 b o hg => by
  rcases k4 _ _ _ h1 h2 b o hg with ⟨id', m'', t', q1, q2, q3⟩ | h
  ·rcases hrts q1 with ⟨rfl, _, _⟩ | ⟨_, h, _⟩
   ·rw [eG0] at q3; exact .inl q3
   ·exact absurd h q2
  ·exact .inr h
 have hH2 : H2 base = H bx := by rw [k5 _ _ _ (Nat.le_refl _) hbx2, eH0]
 have hold : ∀ id m t, rts L id m t → ∀ x y, G id x y → x < w.heap.size := fun id m t h x y hg => by
  by_cases hm : m = .ro
  ·subst hm; exact hr.rold id t h x y hg
  ·exact (hr.own id m t h hm).old x y hg
 have hoff : ∀ id m t, rts L id m t → id ≠ bx → ∀ b o, G id b o → ¬ G bx b o := fun id m t h hid b o h1 h2 => hr.dis _ _ _ _ _ _ hb' h (Ne.symm hid) (by simp) b o h2 h1
 have hhd : ∀ id m t, rts L id m t → id ≠ bx → ∀ q, Okp t q → hd w' (H id) q = hd w (H id) q := fun id m t h hid q hq => hd_frame hC (hr.rd h) hq (hoff id m t h hid)
 let G3 : Nat → FP := fun i => if i = bx then G2 base else G i
 have eG3 : G3 bx = G2 base := if_pos rfl
 have eG3' : ∀ {i}, i ≠ bx → G3 i = G i := fun h => if_neg h
 have hrt : ∀ {id m' t}, rts (repR L bx (.s n 1 (Tm m))) id m' t → (id = bx ∧ m' = .box ∧ t = .s n 1 (Tm m)) ∨ (id ≠ bx ∧ rts L id m' t) := fun {id m' t} h => by
  rcases rts_repR.1 h with ⟨rfl, rfl, t0, h0⟩ | h
  ·obtain ⟨rfl, _⟩ := hr.one _ _ _ _ _ hb' h0
   exact .inl ⟨rfl, rfl, rfl⟩
  ·exact .inr h
 have hrb : rts (repR L bx (.s n 1 (Tm m))) bx .box (.s n 1 (Tm m)) := rts_repR.2 (.inl ⟨rfl, rfl, _, hb'⟩)
 have hro : ∀ {id m' t}, id ≠ bx → rts L id m' t → rts (repR L bx (.s n 1 (Tm m))) id m' t := fun h1 h => rts_repR.2 (.inr ⟨h1, h⟩)
 have hq0 : ∀ {q n' l f'}, Okp (.s n 1 fb) q → (T.s n 1 fb).at q = .s n' l f' → q = [] := fun {q n' l f'} h1 h2 => by
  cases q with
  | nil => rfl
  | cons e q =>
   obtain ⟨n1, k, c⟩ := e
   obtain ⟨rfl, e1, e2, h3⟩ := h1
   have : k = 0 := by omega
   subst this
   simp only [T.at] at h2
   cases hf : fb 0 c with
   | s a1 a2 a3 => exact absurd hf (hleaf c _ _ _ e2)
   | v _ => rw [hf] at h2; cases q <;> simp [T.at] at h2
   | j => rw [hf] at h2; cases q <;> simp [T.at] at h2
 have hvr : ∀ {x v}, VR (rts L) H w x v → VR (rts (repR L bx (.s n 1 (Tm m)))) H w' x v := fun {x v} h =>
  VR.leaves (C := fun _ => True) (fun x v hl _ h => by
   cases x with
   | p id q n' k c =>
    obtain ⟨m', t, h1, h2, ⟨l, f', h3, h4, h5⟩, h6⟩ := h
    by_cases e : id = bx
    ·subst e
     obtain ⟨rfl, rfl⟩ := hr.one _ _ _ _ _ hb' h1
     obtain rfl := hq0 h2 h3
     simp only [T.at] at h3
     cases h3
     exact ⟨_, _, hrb, trivial, ⟨1, Tm m, rfl, h4, h5⟩, h6⟩
    ·exact ⟨m', t, hro e h1, h2, ⟨l, f', h3, h4, h5⟩, by rw [hhd id m' t h1 e q h2]; exact h6⟩
   | h id q =>
    obtain ⟨m', t, h1, h2, ⟨n', l, f', h3⟩, h6⟩ := h
    by_cases e : id = bx
    ·subst e
     obtain ⟨rfl, rfl⟩ := hr.one _ _ _ _ _ hb' h1
     obtain rfl := hq0 h2 h3
     exact ⟨_, _, hrb, trivial, ⟨n, 1, Tm m, rfl⟩, h6⟩
    ·exact ⟨m', t, hro e h1, h2, ⟨n', l, f', h3⟩, by rw [hhd id m' t h1 e q h2]; exact h6⟩
   | a id q n' lo len =>
    obtain ⟨m', t, h1, h2, ⟨l, f', h3, h4⟩, h6⟩ := h
    by_cases e : id = bx
    ·subst e
     obtain ⟨rfl, rfl⟩ := hr.one _ _ _ _ _ hb' h1
     obtain rfl := hq0 h2 h3
     simp only [T.at] at h3
     cases h3
     exact ⟨_, _, hrb, trivial, ⟨1, Tm m, rfl, h4⟩, h6⟩
    ·exact ⟨m', t, hro e h1, h2, ⟨l, f', h3, h4⟩, by rw [hhd id m' t h1 e q h2]; exact h6⟩
   | _ => exact hl.elim) (X.all_true (fun _ => trivial) x) h
 have hr2 : Rp (repR L bx (.s n 1 (Tm m))) (Act.val a) H G3 w' := by
  refine ⟨fun id m1 t1 m2 t2 h1 h2 => ?_, fun id m1 t1 h1 h2 => ?_, fun id t h => ?_, fun id t h => ?_, fun id t h => ?_, fun id m1 t1 id' m2 t2 h1 h2 hne' hm x y hx hy => ?_, fun t x h => ?_, fun id c x h => ?_⟩
  ·rcases hrt h1 with ⟨rfl, rfl, rfl⟩ | ⟨a1, a2⟩ <;> rcases hrt h2 with ⟨b1, b2, b3⟩ | ⟨b1, b2⟩
   ·exact ⟨b2.symm, b3.symm⟩
   ·exact absurd rfl b1
   ·exact absurd b1 a1
   ·exact hr.one _ _ _ _ _ a2 b2
  ·rcases hrt h1 with ⟨rfl, rfl, rfl⟩ | ⟨a1, a2⟩
   ·rw [eG3, ← hH2]; exact k1.own _ _ _ hbx2 (by simp)
   ·rw [eG3' a1]; exact (hr.own _ _ _ a2 h2).frame hC (hoff _ _ _ a2 a1)
  ·rcases hrt h with ⟨_, e, _⟩ | ⟨a1, a2⟩
   ·cases e
   ·rw [eG3' a1]; exact (hr.ro _ _ a2).frame hC (hoff _ _ _ a2 a1)
  ·rcases hrt h with ⟨_, e, _⟩ | ⟨a1, a2⟩
   ·cases e
   ·rw [eG3' a1]; exact fun x y hg => Nat.lt_of_lt_of_le (hr.rold _ _ a2 x y hg) hC.size
  ·rcases hrt h with ⟨_, _, rfl⟩ | ⟨a1, a2⟩
   ·exact ⟨_, _, rfl⟩
   ·exact hr.box _ _ a2
  ·rcases hrt h1 with ⟨rfl, rfl, rfl⟩ | ⟨a1, a2⟩ <;> rcases hrt h2 with ⟨b1, b2, b3⟩ | ⟨b1, b2⟩
   ·exact hne' b1.symm
   ·rw [eG3] at hx; rw [eG3' b1] at hy
    rcases hgrow _ _ _ hbx2 (by simp) x y hx with h | h
    ·exact hoff _ _ _ b2 b1 x y hy h
    ·have := hold _ _ _ b2 x y hy; omega
   ·subst b1
    rw [eG3] at hy; rw [eG3' a1] at hx
    rcases hgrow _ _ _ hbx2 (by simp) x y hy with h | h
    ·exact hoff _ _ _ a2 a1 x y hx h
    ·have := hold _ _ _ a2 x y hx; omega
   ·rw [eG3' a1] at hx; rw [eG3' b1] at hy
    exact hr.dis _ _ _ _ _ _ a2 b2 hne' hm x y hx hy
  ·exact hvr (hr.sl t x (repR_sl h))
  ·have h' := repR_al h
   clear h
   by_cases e : id = bx
   ·subst e
    obtain ⟨rfl, rfl⟩ := alsB_mem hals h'
    obtain ⟨n1, f1, q1, q2, A, v1, q3, q4, q5⟩ := k1.al _ _ _ hal2
    obtain ⟨_, e⟩ := k1.one _ _ _ _ _ hbx2 q1
    cases e
    refine ⟨n, Tm m, hrb, q2, A, v1, by rw [← hH2]; exact q3, q4, ?_⟩
    obtain ⟨m3, t3, p1, p2, ⟨n3, l3, f3, p3⟩, p4⟩ := q5
    obtain ⟨n4, f4, _, _, _, _, _, _, ⟨m5, t5, s1, s2, s3, s4⟩⟩ := hr.al _ _ _ hal'
    obtain ⟨rfl, rfl⟩ := hr.one _ _ _ _ _ hc' s1
    refine ⟨.ro, tc, hro (Ne.symm hne) hc', s2, s3, ?_⟩
    have e5 : H2 (base + 1) = H cd := by rw [k5 _ _ _ (Nat.le_succ _) p1, eH1]
    rw [← e5]; exact p4
   ·obtain ⟨n1, f1, q1, q2, A, v1, q3, q4, q5⟩ := hr.al _ _ _ h'
    obtain ⟨b, o, rfl, hg⟩ := box_cell hr q1 q2 q3
    exact ⟨n1, f1, hro e q1, q2, _, v1, q3, hC.cell q4 (hoff _ _ _ q1 e _ _ hg), hvr q5⟩
 have hinv : ∀ i, (nu d i - d) / 1000 = i := fun i => by simp only [nu]; omega
 have hmem : ∀ r ∈ rens d (L0 m), ∃ r0 ∈ L0 m, r = (nu d r0.1, r0.2) := fun r hr => by
  obtain ⟨r0, h, e⟩ := List.mem_map.1 hr; exact ⟨r0, h, e.symm⟩
 have hnd : ((rens d (L0 m)).map (·.1)).Nodup := by
  have e : (rens d (L0 m)).map (·.1) = ((L0 m).map (·.1)).map (nu d) := by simp [rens]
  rw [e]
  exact List.pairwise_map.2 ((hn m).imp fun {x y} h e => h (by simp only [nu] at e; omega))
 have hnews := hr2.news (fun i => G2 (ρ' ((i - d) / 1000))) (fun i => H2 (ρ' ((i - d) / 1000))) (rens d (L0 m)) hnd (fun r hr' b o hF id m1 t1 hid hGG => by
   obtain ⟨r0, h0, rfl⟩ := hmem r hr'
   simp only [hinv] at hF
   obtain ⟨g1, g2, g3⟩ := r2 r0 h0
   rcases hrt hid with ⟨rfl, rfl, rfl⟩ | ⟨a1, a2⟩
   ·rw [eG3] at hGG
    exact k1.dis _ _ _ _ _ _ g2 hbx2 (by omega) g1 b o hF hGG
   ·rw [eG3' a1] at hGG
    rcases hgrow _ _ _ g2 g1 b o hF with h | h
    ·exact hoff _ _ _ a2 a1 b o hGG h
    ·have := hold _ _ _ a2 b o hGG; omega) (fun r hr' => by
   obtain ⟨r0, h0, rfl⟩ := hmem r hr'
   obtain ⟨g1, g2, g3⟩ := r2 r0 h0
   simp only [hinv]
   exact ⟨g1, k1.own _ _ _ g2 g1, fun e => by rw [e] at g2; exact k1.box _ _ g2⟩) (fun r hr' r' hr'' hne' b o hF hF' => by
   obtain ⟨r0, h0, rfl⟩ := hmem r hr'
   obtain ⟨r0', h0', rfl⟩ := hmem r' hr''
   simp only [hinv] at hF hF'
   have hne'' : ρ' r0.1 ≠ ρ' r0'.1 := fun e => hne' (by rw [map_inj r1 h0 h0' e])
   exact k1.dis _ _ _ _ _ _ (r2 r0 h0).2.1 (r2 r0' h0').2.1 hne'' (r2 r0 h0).1 b o hF hF')
 have hv : VR (rts (newsL (repR L bx (.s n 1 (Tm m))) (rens d (L0 m)))) (fun i => if i ∈ (rens d (L0 m)).map (·.1) then H2 (ρ' ((i - d) / 1000)) else H i) w' ((X0 m).ren (nu d)) v := by
  refine VR.ren (ids := (L0 m).map (·.1)) (fun id hid m1 t1 hh => ?_) (hx0 m) k2
  obtain ⟨r0, h0, rfl⟩ := List.mem_map.1 hid
  obtain ⟨g1, g2, g3⟩ := r2 r0 h0
  obtain ⟨rfl, rfl⟩ := k1.one _ _ _ _ _ hh g2
  have hin : nu d r0.1 ∈ (rens d (L0 m)).map (·.1) := List.mem_map.2 ⟨_, List.mem_map.2 ⟨r0, h0, rfl⟩, rfl⟩
  refine ⟨(rts_newsL hnd).2 (.inl (List.mem_map.2 ⟨r0, h0, rfl⟩)), ?_⟩
  simp only [hin, if_true, hinv]
 have hgood : Good cx (newsL (repR L bx (.s n 1 (Tm m))) (rens d (L0 m))) (fun i => if i ∈ (rens d (L0 m)).map (·.1) then H2 (ρ' ((i - d) / 1000)) else H i) (fun i => if i ∈ (rens d (L0 m)).map (·.1) then G2 (ρ' ((i - d) / 1000)) else G3 i) := by
  have hold2 : ∀ b o, G bx b o ∨ w.heap.size ≤ b → cx.S0 b o ∨ cx.w0.heap.size ≤ b := fun b o h => by
   rcases h with h | h
   ·exact hG.1 _ _ _ hb' (by simp) b o h
   ·exact .inr (Nat.le_trans hs.chg.size h)
  refine ⟨fun id m1 t1 hid hne' x y hF => ?_, fun id m1 t1 hbs hid => ?_⟩
  ·rcases (rts_newsL hnd).1 hid with hh | ⟨hh, hni⟩
   ·obtain ⟨⟨i0, m0, t0⟩, h0, e⟩ := hmem _ hh
    cases e
    have hin : nu d i0 ∈ (rens d (L0 m)).map (·.1) := List.mem_map.2 ⟨_, hh, rfl⟩
    simp only [hin, if_true, hinv] at hF
    exact hold2 x y (hgrow _ _ _ (r2 _ h0).2.1 (r2 _ h0).1 x y hF)
   ·simp only [hni, if_false] at hF
    rcases hrt hh with ⟨rfl, rfl, rfl⟩ | ⟨a1, a2⟩
    ·rw [eG3] at hF
     exact hold2 x y (hgrow _ _ _ hbx2 (by simp) x y hF)
    ·rw [eG3' a1] at hF
     exact hG.1 id m1 t1 a2 hne' x y hF
  ·rcases (rts_newsL hnd).1 hid with hh | ⟨hh, hni⟩
   ·obtain ⟨⟨i0, m0, t0⟩, h0, e⟩ := hmem _ hh
    cases e
    have := List.all_eq_true.1 (hbb m) _ h0
    replace this : nu d i0 < base := by simpa using this
    have h6 : base ≤ nu d i0 := hbs
    omega
   ·simp only [hni, if_false]
    rcases hrt hh with ⟨rfl, rfl, rfl⟩ | ⟨a1, a2⟩
    ·exact hG.2 _ _ _ hbs hb'
    ·exact hG.2 _ _ _ hbs a2
 refine ⟨by rw [hds]; simpa [Go.Act.put] using hs.siz, by rw [hds]; simpa [Go.Act.put] using hs.dfr, hs.chg.step hC (fun b o hb1 h => ?_), _, _, ?_, by rw [rts_put]; exact hgood⟩
 ·rcases hG.1 _ _ _ hb' (by simp) b o h with h | h
  ·exact h
  ·omega
 ·rw [hds]
  exact (hnews.put hv).val fun t => (Act.val_put (Nat.lt_of_lt_of_le hN hs.siz) t).symm
def alC (al : Bool) (i cd : Nat) (L : List E) : List E := if al = true then .al i 0 (.h cd []) :: L else L
theorem rts_alC {al : Bool} {i cd : Nat} : rts (alC al i cd L) = rts L := by
 cases al
 ·rfl
 ·funext id m t
  simp [alC, rts]
theorem StpK.callC {α : Type} (al : Bool) {C : α → Prop} {X0 : α → X} {L0 : α → List (Nat × M × T)} {f : FuncId} {cal : Operand} {args : Array Operand} {tys : Array TypeId} {cd : Nat} {tc : T} {xs : List X}
  (hds : dst = some d) (hN : d < N) (hE : Ent P f) (hcal : evX L cal = .f f [])
  (hargs : args.toList.map (evX L) = .h cd [] :: xs) (hxs : onlyV xs = true) (hc : rootL L cd = some (.ro, tc))
  (hcon : Con P f (.h base [] :: xs) [.rt base .ro tc] (RetC al C X0 L0))
  (hn : ∀ m, ((L0 m).map (·.1)).Nodup) (hbb : ∀ m, ((L0 m).all fun r => nu d r.1 < base) = true) (hx0 : ∀ m, (X0 m).inB ((L0 m).map (·.1)) = true) (hcd : ∀ m, ((rens d (L0 m)).map (·.1)).contains cd = false) (ha : al = true → ∀ m, ((L0 m).map (·.1)).contains 0 = true) :
  StpK P N ⟨dst, .call { callee := .value cal, args := args, argTypes := tys }, ty, pos, af, g⟩ L (fun L1 => ∃ m, C m ∧ L1 = putL (alC al (nu d 0) cd (newsL L (rens d (L0 m)))) d ((X0 m).ren (nu d))) := fun cx a w Q hs => by
 obtain ⟨H, G, hr, hG⟩ := hs.rp
 have hcv := ev_ok hr cal
 rw [hcal] at hcv
 obtain ⟨us, hu1, hu2⟩ := hcv
 obtain rfl : us = [] := by cases us with
  | nil => rfl
  | cons _ _ => exact hu2.elim
 unfold Oper.wp
 rw [run_callX hE hu1, List.append_nil]
 have hargsV := evXs_ok hr args.toList
 rw [hargs] at hargsV
 generalize hvs : args.toList.map a.eval = vs at hargsV
 cases vs with
 | nil => exact hargsV.elim
 | cons v0 vs =>
 obtain ⟨hv0, hvs1⟩ := hargsV
 have hc' := rootL_mem hc
 let H' : Nat → Value := fun i => if i = base then H cd else undef
 let G' : Nat → FP := fun i => if i = base then G cd else fun _ _ => False
 have eH1 : H' base = H cd := if_pos rfl
 have eG1 : G' base = G cd := if_pos rfl
 have hrts : ∀ {id m t}, rts [.rt base .ro tc] id m t → (id = base ∧ m = .ro ∧ t = tc) := fun {id m t} h => by
  simp only [rts, List.mem_cons, List.not_mem_nil, or_false, E.rt.injEq] at h
  exact h
 have hrp : Rp [.rt base .ro tc] (fun _ => undef) H' G' w := by
  refine ⟨fun id m t m' t' k1 k2 => ?_, fun id m t k1 k2 => ?_, fun id t k => ?_, fun id t k => ?_, fun id t k => ?_, fun id m t id' m' t' k1 k2 hne' hm x y hx hy => ?_, fun t x k => ?_, fun id c x k => ?_⟩
  ·obtain ⟨rfl, rfl, rfl⟩ := hrts k1; obtain ⟨_, rfl, rfl⟩ := hrts k2; exact ⟨rfl, rfl⟩
  ·exact absurd (hrts k1).2.1 k2
  ·obtain ⟨rfl, _, rfl⟩ := hrts k; rw [eH1, eG1]; exact hr.ro _ _ hc'
  ·obtain ⟨rfl, _, rfl⟩ := hrts k; rw [eG1]; exact hr.rold _ _ hc'
  ·have := (hrts k).2.1; cases this
  ·exact hm (hrts k1).2.1
  ·simp at k
  ·simp at k
 have hxv : VRs (rts [.rt base .ro tc]) H' w (.h base [] :: xs) (v0 :: vs) := by
  refine ⟨?_, onlyV_ok hxs hvs1⟩
  obtain ⟨m, t, p1, p2, p3, p4⟩ := hv0
  obtain ⟨rfl, rfl⟩ := hr.one _ _ _ _ _ hc' p1
  exact ⟨.ro, _, by simp [rts], p2, p3, by rw [eH1]; exact p4⟩
 simp only [Oper.upon]
 refine (hcon w _ H' G' (cx.now hs.chg) (fun id m t h1 h2 => absurd (hrts h1).2.1 h2) hrp hxv).mono ?_
 rintro e w' ⟨v, x, L2, H2, G2, val2, rfl, ⟨m, hCm, ρ', rfl, r1, r2, hal2⟩, k1, k2, k3, k4, k5⟩
 refine ⟨⟨_, rfl⟩, _, ⟨m, hCm, rfl⟩, ?_⟩
 have hC : Chg (fun _ _ => False) w w' := k3.mono fun b o _ hx => by
  obtain ⟨id, m', t, q1, q2, q3⟩ := hx
  exact q2 (hrts q1).2.1
 have hr' := hr.chg hC fun _ _ _ _ _ _ _ h => h
 have hinv : ∀ i, (nu d i - d) / 1000 = i := fun i => by simp only [nu]; omega
 have hold : ∀ id m t, rts L id m t → ∀ x y, G id x y → x < w.heap.size := fun id m t h x y hg => by
  by_cases hm : m = .ro
  ·subst hm; exact hr.rold id t h x y hg
  ·exact (hr.own id m t h hm).old x y hg
 have hfresh : ∀ r ∈ L0 m, ∀ b o, G2 (ρ' r.1) b o → w.heap.size ≤ b := fun r hr b o hg => by
  obtain ⟨g1, g2, _⟩ := r2 r hr
  rcases k4 _ _ _ g2 g1 b o hg with ⟨id, m', t, q1, q2, _⟩ | h
  ·exact absurd (hrts q1).2.1 q2
  ·exact h
 have hmem : ∀ r ∈ rens d (L0 m), ∃ r0 ∈ L0 m, r = (nu d r0.1, r0.2) := fun r hr => by
  obtain ⟨r0, h, e⟩ := List.mem_map.1 hr; exact ⟨r0, h, e.symm⟩
 have hnd : ((rens d (L0 m)).map (·.1)).Nodup := by
  have e : (rens d (L0 m)).map (·.1) = ((L0 m).map (·.1)).map (nu d) := by simp [rens]
  rw [e]
  exact List.pairwise_map.2 ((hn m).imp fun {x y} h e => h (by simp only [nu] at e; omega))
 have hnews := hr'.news (fun i => G2 (ρ' ((i - d) / 1000))) (fun i => H2 (ρ' ((i - d) / 1000))) (rens d (L0 m)) hnd (fun r hr b o hF id m t hid hG => by
   obtain ⟨r0, h0, rfl⟩ := hmem r hr
   simp only [hinv] at hF
   have := hfresh r0 h0 b o hF
   have := hold id m t hid b o hG
   omega) (fun r hr => by
   obtain ⟨r0, h0, rfl⟩ := hmem r hr
   obtain ⟨g1, g2, _⟩ := r2 r0 h0
   simp only [hinv]
   exact ⟨g1, k1.own _ _ _ g2 g1, fun e => by rw [e] at g2; exact k1.box _ _ g2⟩) (fun r hr r' hr' hne b o hF hF' => by
   obtain ⟨r0, h0, rfl⟩ := hmem r hr
   obtain ⟨r0', h0', rfl⟩ := hmem r' hr'
   simp only [hinv] at hF hF'
   have hne' : ρ' r0.1 ≠ ρ' r0'.1 := fun e => hne (by rw [map_inj r1 h0 h0' e])
   exact k1.dis _ _ _ _ _ _ (r2 r0 h0).2.1 (r2 r0' h0').2.1 hne' (r2 r0 h0).1 b o hF hF')
 let H3 : Nat → Value := fun i => if i ∈ (rens d (L0 m)).map (·.1) then H2 (ρ' ((i - d) / 1000)) else H i
 have hv : VR (rts (newsL L (rens d (L0 m)))) H3 w' ((X0 m).ren (nu d)) v := by
  refine VR.ren (ids := (L0 m).map (·.1)) (fun id hid m' t hh => ?_) (hx0 m) k2
  obtain ⟨r0, h0, rfl⟩ := List.mem_map.1 hid
  obtain ⟨g1, g2, _⟩ := r2 r0 h0
  obtain ⟨rfl, rfl⟩ := k1.one _ _ _ _ _ hh g2
  have hin : nu d r0.1 ∈ (rens d (L0 m)).map (·.1) := List.mem_map.2 ⟨_, List.mem_map.2 ⟨r0, h0, rfl⟩, rfl⟩
  refine ⟨(rts_newsL hnd).2 (.inl (List.mem_map.2 ⟨r0, h0, rfl⟩)), ?_⟩
  show (if nu d r0.1 ∈ (rens d (L0 m)).map (·.1) then _ else _) = _
  rw [if_pos hin, hinv]
 have hnal : Rp (alC al (nu d 0) cd (newsL L (rens d (L0 m)))) (Act.val a) H3 (fun i => if i ∈ (rens d (L0 m)).map (·.1) then G2 (ρ' ((i - d) / 1000)) else G i) w' := by
  cases hal : al with
  | false => exact hnews
  | true =>
   have hh0 : 0 ∈ (L0 m).map (·.1) := by
    have := ha hal m
    simpa using this
   obtain ⟨r0, h0, e0⟩ := List.mem_map.1 hh0
   obtain ⟨n1, f1, q1, q2, A, v1, q3, q4, q5⟩ := k1.al _ _ _ (hal2 hal)
   obtain ⟨g1, g2, _⟩ := r2 r0 h0
   rw [e0] at g2
   obtain ⟨gm, gt⟩ := k1.one _ _ _ _ _ q1 g2
   have hin : nu d 0 ∈ (rens d (L0 m)).map (·.1) := by rw [← e0]; exact List.mem_map.2 ⟨_, List.mem_map.2 ⟨r0, h0, rfl⟩, rfl⟩
   have hH0 : H3 (nu d 0) = H2 (ρ' 0) := by
    show (if nu d 0 ∈ (rens d (L0 m)).map (·.1) then _ else _) = _
    rw [if_pos hin, hinv]
   have hHc : H3 cd = H cd := by
    have := hcd m
    show (if cd ∈ (rens d (L0 m)).map (·.1) then _ else _) = _
    rw [if_neg (by simpa using this)]
   have hrc : rts (newsL L (rens d (L0 m))) cd .ro tc := (rts_newsL hnd).2 (.inr ⟨hc', by have := hcd m; simpa using this⟩)
   have hr0 : rts (newsL L (rens d (L0 m))) (nu d 0) .box (.s n1 1 f1) := by
    refine (rts_newsL hnd).2 (.inl ?_)
    rw [gm, gt, ← e0]
    exact List.mem_map.2 ⟨r0, h0, rfl⟩
   have er : rts (alC true (nu d 0) cd (newsL L (rens d (L0 m)))) = rts (newsL L (rens d (L0 m))) := rts_alC
   refine ⟨by rw [er]; exact hnews.one, by rw [er]; exact hnews.own, by rw [er]; exact hnews.ro, by rw [er]; exact hnews.rold, by rw [er]; exact hnews.box, by rw [er]; exact hnews.dis, fun t x h => ?_, fun id c x h => ?_⟩
   ·rw [er]
    rcases List.mem_cons.1 h with h | h
    ·cases h
    ·exact hnews.sl t x h
   ·rw [er]
    rcases List.mem_cons.1 h with h | h
    ·cases h
     obtain ⟨m3, t3, p1, p2, p3, p4⟩ := q5
     obtain ⟨m4, t4, s1, s2, s3, s4⟩ := hv0
     obtain ⟨rfl, rfl⟩ := hr.one _ _ _ _ _ hc' s1
     refine ⟨n1, f1, hr0, q2, A, v1, by rw [hH0]; exact q3, q4, ⟨.ro, tc, hrc, s2, s3, ?_⟩⟩
     rw [hHc, ← eH1, ← k5 _ _ _ (Nat.le_refl _) p1]
     exact p4
    ·exact hnews.al id c x h
 have hgood : Good cx (newsL L (rens d (L0 m))) H3 (fun i => if i ∈ (rens d (L0 m)).map (·.1) then G2 (ρ' ((i - d) / 1000)) else G i) := by
  refine ⟨fun id m' t hid hne x y hF => ?_, fun id m' t hbs hid => ?_⟩
  ·rcases (rts_newsL hnd).1 hid with hh | ⟨hh, hni⟩
   ·obtain ⟨⟨i0, m0, t0⟩, h0, e⟩ := hmem _ hh
    cases e
    have hin : nu d i0 ∈ (rens d (L0 m)).map (·.1) := List.mem_map.2 ⟨_, hh, rfl⟩
    simp only [hin, if_true, hinv] at hF
    have := hfresh _ h0 x y hF
    have := hs.chg.size
    exact .inr (by omega)
   ·simp only [hni, if_false] at hF
    exact hG.1 id m' t hh hne x y hF
  ·rcases (rts_newsL hnd).1 hid with hh | ⟨hh, hni⟩
   ·obtain ⟨⟨i0, m0, t0⟩, h0, e⟩ := hmem _ hh
    cases e
    have := List.all_eq_true.1 (hbb m) _ h0
    replace this : nu d i0 < base := by simpa using this
    have h6 : base ≤ nu d i0 := hbs
    omega
   ·show (if id ∈ (rens d (L0 m)).map (·.1) then _ else _) = _
    rw [if_neg hni]
    exact hG.2 id m' t hbs hh
 refine ⟨by rw [hds]; simpa [Go.Act.put] using hs.siz, by rw [hds]; simpa [Go.Act.put] using hs.dfr, hs.chg.trans (hC.mono fun _ _ _ h => h.elim), _, _, ?_, by rw [rts_put, rts_alC]; exact hgood⟩
 rw [hds]
 exact (hnal.put (by rw [rts_alC]; exact hv)).val fun t => (Act.val_put (Nat.lt_of_lt_of_le hN hs.siz) t).symm
end
section
variable {P : Program} {N : Nat} {Q : Exit → List E → Prop} {L : List E} {ops : Array Oper} {rest : List Oper} {o : Oper} {K : List E → Prop}
theorem spK {gb : Bool} (h : StpK P N o L K) (k : ∀ L1, K L1 → AWL P N ops rest Q L1) (hw : wantL ops L o = some gb := by exact rfl) (hgb : gb = true := by exact rfl) : AWL P N ops (o :: rest) Q L := AWL.stepK hw hgb h k
variable {qs pend todo : List Nat} {S : Array Bool}
theorem a1K (j : Nat) {gb : Bool} (pend' D : List Nat) (ho : ops[j]? = some o) (hgb : gb = true) (h : StpK P N o L K) (k : ∀ L1, K L1 → AWA P N ops qs Q (S.setIfInBounds j true) pend' pend' L1) (hr : Region.ready .any ops S = [j] := by decide +kernel) (hw : wantL ops L o = some gb := by exact rfl)
  (hD : chainB ops [j] D = true := by decide +kernel) (hp : (pend.all fun i => pend'.contains i || D.contains i) = true := by decide +kernel) (hp' : (pend'.all fun i => pend.contains i) = true := by decide +kernel) : AWA P N ops qs Q S pend [] L := AWA.oneK j pend' D hr ho hw hgb hD hp hp' h k
end
/-- the cursor: the code (by alias), the place, the hash -/
def curF (i h : Int) : Nat → Nat → T := fun _ c => match c with | 0 => .j | 1 => .v (iv i) | 2 => .v (iv h) | _ => .j
theorem curF0 (i h : Int) (k : Nat) : curF i h k 0 = .j := rfl
theorem curF1 (i h : Int) (k : Nat) : curF i h k 1 = .v (iv i) := rfl
theorem curF2 (i h : Int) (k : Nat) : curF i h k 2 = .v (iv h) := rfl
attribute [go_sem] curF0 curF1 curF2 alC repR
theorem cur_leaf (i h : Int) : ∀ c n' l f', c < 3 → curF i h 0 c ≠ .s n' l f' := fun c n' l f' hc => by
 rcases c with _ | _ | _ | c
 ·intro e; cases e
 ·intro e; cases e
 ·intro e; cases e
 ·omega
theorem cur_sim {i h : Int} {f : Nat → Nat → T} (h0 : f 0 0 = .j) (h1 : f 0 1 = .v (iv i)) (h2 : f 0 2 = .v (iv h)) : (T.s 3 1 f).sim (.s 3 1 (curF i h)) := T.sim_of fun k c hk hc => by
 obtain rfl : k = 0 := by omega
 rcases c with _ | _ | _ | c
 ·exact h0
 ·exact h1
 ·exact h2
 ·omega
def nxH (h : Int) : Int := IntKind.i64.wrap (IntKind.i64.wrap (h * 6364136223846793005) + 1442695040888963407)
def and255 (a : Int) : Int := IntKind.i64.wrap ((BitVec.ofInt 64 a &&& BitVec.ofInt 64 255).toNat : Int)
theorem and255_le (a : Int) : 0 ≤ and255 a ∧ and255 a ≤ 255 := by
 have h : (BitVec.ofInt 64 a &&& BitVec.ofInt 64 255).toNat ≤ 255 := by
  rw [BitVec.toNat_and]
  exact Nat.and_le_right
 unfold and255
 rw [IntWalk.i64_in _ (by omega)]
 omega
theorem pbAnd255 (a : Int) : pureBin .and (iv a) (iv 255) = some (iv (and255 a)) := rfl
end Go.Proofs.YtlploojfcmcckaaDoor.VM
namespace Go.Proofs.YtlploojfcmcckaaDoor.VM
open Go Go.RowKit
/-! ### rows that are only read from now on; views of them as roots -/
theorem alM {L : List E} {id c i : Nat} {q : Path} (h : aliasL L id c = .h i q) : E.al id c (.h i q) ∈ L := by
 rcases aliasL_mem (L := L) (id := id) (c := c) with e | e
 ·rw [h] at e; cases e
 ·rw [h] at e; exact e
def frzL (id : Nat) : List E → List E
 | [] => []
 | .rt i m t :: L => if i = id then .rt i .ro t :: frzL id L else .rt i m t :: frzL id L
 | .sl s x :: L => .sl s x :: frzL id L
 | .al i c x :: L => .al i c x :: frzL id L
attribute [go_sem] frzL
end Go.Proofs.YtlploojfcmcckaaDoor.VM
namespace Go.Proofs.YtlploojfcmcckaaDoor.VM
open Go Go.RowKit
/-! ### the library's texts of numbers (tables of the package are laid) -/
theorem Chg.grow {S : FP} (w : World) (os : Array Obj) : Chg S w (Go.Sort.grow w os) := by
 refine ⟨rfl, rfl, rfl, ?_, fun b cur e fr h => ⟨cur, ?_, rfl, fun _ _ => rfl⟩, fun b o h _ => ?_⟩
 ·simp [Go.Sort.grow]
 ·have hb : b < w.heap.size := (Array.getElem?_eq_some_iff.1 h).1
  show (w.heap ++ os)[b]? = _
  rw [Array.getElem?_append_left hb]; exact h
 ·have hb : b < w.heap.size := (Array.getElem?_eq_some_iff.1 h).1
  show (w.heap ++ os)[b]? = _
  rw [Array.getElem?_append_left hb]; exact h
/-- a plain value of plain values, by a contract that only grows the heap -/
theorem con_plain {P : Program} {f : FuncId} {xs : List Value} {r : Value} (h : ∀ w, TabsOk P w → Calls P f xs.toArray w fun e w' => e = .returned r ∧ ∃ k os, w' = Go.Sort.grow (w.drewN k) os) : Con P f (xs.map .v) [] (fun y _ => y = .v r) := by
 intro w vs H G ht _ hr hv
 have hxs : vs = xs := by
  clear h ht hr
  induction xs generalizing vs with
  | nil => cases vs with
   | nil => rfl
   | cons _ _ => exact hv.elim
  | cons x xs ih => cases vs with
   | nil => exact hv.elim
   | cons v vs =>
    obtain ⟨h1, h2⟩ := hv
    have h1' : v = x := h1
    rw [h1', ih vs h2]
 subst hxs
 refine (h w ht).mono ?_
 rintro e w' ⟨rfl, k, os, rfl⟩
 have no : ∀ {α : Prop} {e : E}, e ∈ ([] : List E) → α := fun h => by cases h
 refine ⟨_, .v r, [], H, G, fun _ => undef, rfl, rfl, ⟨fun _ _ _ _ _ h => no h, fun _ _ _ h => no h, fun _ _ h => no h, fun _ _ h => no h, fun _ _ h => no h, fun _ _ _ _ _ _ h => no h, fun _ _ h => no h, fun _ _ _ h => no h⟩, rfl, (Chg.drewN w k).trans (Chg.grow _ os), fun _ _ _ h => no h, fun _ _ _ _ h => no h⟩
theorem pow10_laid {P : Program} {w : World} (ht : TabsOk P w) {g : Nat} (hg : P.globalNamed "internal/strconv.uint64pow10" = some g) : Lib.TabIs P w "internal/strconv.uint64pow10" .u64 Lib.pow10Tab := by
 obtain ⟨cs, h1, h2⟩ := ht _ (List.mem_cons_self ..) g hg
 rw [show cs = (Lib.pow10Tab.map fun z => Value.int .u64 z).toArray from h2] at h1
 exact h1
end Go.Proofs.YtlploojfcmcckaaDoor.VM
namespace Go.Proofs.YtlploojfcmcckaaDoor.VM
open Go Go.RowKit
/-! ### bytes of strings; errors against nil; calls of plain values with one of many outcomes -/
def chr (s : ByteArray) (k : Nat) : UInt8 := s.data.toList.getD k 0
section
variable {P : Program} {N : Nat} {L : List E} {dst : Option Tmp} {ty : TypeId} {pos : String} {af : Array Edge} {g : Option (Nat × Bool)} {d : Nat}
theorem Qt.indexS {t : TypeId} {x i : Operand} {s : ByteArray} {kd : IntKind} {j : Int} (hx : evX L x = .v (.string s)) (hi : evX L i = .v (.int kd j)) (ht : P.underlying t = some .string) (h0 : 0 ≤ j) (h1 : j < s.size) : Qt P ⟨dst, .index t x i, ty, pos, af, g⟩ L (.v (bv (chr s j.toNat))) :=
 (fun H w a he _ => by
  have h2 := he x
  rw [hx] at h2
  simp only [VR] at h2
  have h3 := he i
  rw [hi] at h3
  simp only [VR] at h3
  obtain ⟨k, rfl⟩ := Int.eq_ofNat_of_zero_le h0
  have hk : k < s.data.size := by have : s.size = s.data.size := rfl; omega
  have e : s[k]'hk = chr s k := by
   rw [chr, List.getD_eq_getElem?_getD, List.getElem?_eq_getElem (by simpa using hk)]
   rfl
  have hrun := run_index_string (P := P) (w := w) t s kd (k : Int) ht
  rw [dif_pos ⟨by omega, h1⟩] at hrun
  refine ⟨bv (chr s k), ?_, rfl⟩
  simp only [execOp, h2, h3]
  refine run_v (hrun.trans ?_)
  have e2 : (s[(k : Int).toNat]'(by simpa using hk)) = chr s k := e
  rw [e2])
theorem Qt.neqNilI {ti : TypeId} {ms : Array (String × TypeId)} {x : Operand} {tp : TypeId} {v : Value} (hi : P.underlying ti = some (.interface ms)) (hx : evX L x = .v (.iface tp v)) {tr' : TypeId} : Qt P ⟨dst, .binOp .neq ti x (.const .nilIface) tr', ty, pos, af, g⟩ L (.v (.bool true)) :=
 (fun H w a he _ => by
  have h2 := he x
  rw [hx] at h2
  simp only [VR] at h2
  have h3 : a.eval (.const .nilIface) = .nilIface := rfl
  have h : ∀ d : Nat, (Op.equalIn (d + 1) ti (.iface tp v) .nilIface).run P w = .ok false w := fun d => by simp [Op.equalIn, run_underlying hi]
  refine ⟨.bool true, ?_, rfl⟩
  simp [execOp, h2, h3, eqGuard, Go.binOp, Op.equal, Op.maxDepth, h 9999])
theorem Qt.neqNilN {ti : TypeId} {ms : Array (String × TypeId)} {x : Operand} (hi : P.underlying ti = some (.interface ms)) (hx : evX L x = .v .nilIface) {tr' : TypeId} : Qt P ⟨dst, .binOp .neq ti x (.const .nilIface) tr', ty, pos, af, g⟩ L (.v (.bool false)) :=
 (fun H w a he _ => by
  have h2 := he x
  rw [hx] at h2
  simp only [VR] at h2
  have h3 : a.eval (.const .nilIface) = .nilIface := rfl
  have h : ∀ d : Nat, (Op.equalIn (d + 1) ti .nilIface .nilIface).run P w = .ok true w := fun d => by simp [Op.equalIn, run_underlying hi]
  refine ⟨.bool false, ?_, rfl⟩
  simp [execOp, h2, h3, eqGuard, Go.binOp, Op.equal, Op.maxDepth, h 9999])
/-- does it hold an error -/
def isErr : Value → Bool
 | .nilIface => false
 | _ => true
def errV (v : Value) : Prop := v = .nilIface ∨ ∃ te pe, v = .iface te pe
theorem Qt.neqNil {ti : TypeId} {ms : Array (String × TypeId)} {x : Operand} {v : Value} (hi : P.underlying ti = some (.interface ms)) (hx : evX L x = .v v) (hv : errV v) {tr' : TypeId} : Qt P ⟨dst, .binOp .neq ti x (.const .nilIface) tr', ty, pos, af, g⟩ L (.v (.bool (isErr v))) := by
 rcases hv with rfl | ⟨te, pe, rfl⟩
 ·exact Qt.neqNilN hi hx
 ·exact Qt.neqNilI hi hx
theorem plainV {R R' : RT} {H H' : Nat → Value} {w w' : World} : ∀ {xs : List Value} {vs : List Value}, VRs R H w (xs.map .v) vs → VRs R' H' w' (xs.map .v) vs
 | [], [], h => h
 | [], _ :: _, h => h.elim
 | _ :: _, [], h => h.elim
 | _ :: _, _ :: _, h => ⟨h.1, plainV h.2⟩
theorem StpK.callP {α : Type} {C : α → Prop} {X0 : α → List Value} {f : FuncId} {cal : Operand} {args : Array Operand} {tys : Array TypeId} {xs : List X}
  (hds : dst = some d) (hN : d < N) (hE : Ent P f) (hcal : evX L cal = .f f []) (hargs : args.toList.map (evX L) = xs) (hxs : onlyV xs = true)
  (hcon : Con P f xs [] (fun x _ => ∃ m, C m ∧ x = .t ((X0 m).map .v))) :
  StpK P N ⟨dst, .call { callee := .value cal, args := args, argTypes := tys }, ty, pos, af, g⟩ L (fun L1 => ∃ m, C m ∧ L1 = putL L d (.t ((X0 m).map .v))) := fun cx a w Q hs => by
 obtain ⟨H, G, hr, hG⟩ := hs.rp
 have hcv := ev_ok hr cal
 rw [hcal] at hcv
 obtain ⟨us, hu1, hu2⟩ := hcv
 obtain rfl : us = [] := by cases us with
  | nil => rfl
  | cons _ _ => exact hu2.elim
 unfold Oper.wp
 rw [run_callX hE hu1, List.append_nil]
 have hargsV := evXs_ok hr args.toList
 rw [hargs] at hargsV
 have no : ∀ {β : Prop} {e : E}, e ∈ ([] : List E) → β := fun h => by cases h
 have hrp : Rp [] (fun _ => undef) (fun _ => undef) (fun _ _ _ => False) w := ⟨fun _ _ _ _ _ h => no h, fun _ _ _ h => no h, fun _ _ h => no h, fun _ _ h => no h, fun _ _ h => no h, fun _ _ _ _ _ _ h => no h, fun _ _ h => no h, fun _ _ _ h => no h⟩
 simp only [Oper.upon]
 refine (hcon w _ _ _ (cx.now hs.chg) (fun _ _ _ h => no h) hrp (onlyV_ok hxs hargsV)).mono ?_
 rintro e w' ⟨v, x, L2, H2, G2, val2, rfl, ⟨m, hCm, rfl⟩, k1, k2, k3, k4, k5⟩
 refine ⟨⟨_, rfl⟩, _, ⟨m, hCm, rfl⟩, ?_⟩
 have hC : Chg (fun _ _ => False) w w' := k3.mono fun b o _ hx => by
  obtain ⟨id, m', t, q1, _⟩ := hx
  exact no q1
 have hr' := hr.chg hC fun _ _ _ _ _ _ _ h => h
 obtain ⟨vs, e1, e2⟩ := k2
 refine ⟨by rw [hds]; simpa [Go.Act.put] using hs.siz, by rw [hds]; simpa [Go.Act.put] using hs.dfr, hs.chg.trans (hC.mono fun _ _ _ h => h.elim), H, G, ?_, by rw [rts_put]; exact hG⟩
 rw [hds]
 exact (hr'.put (d := d) (x := .t ((X0 m).map .v)) (v := v) ⟨vs, e1, plainV e2⟩).val fun t => (Act.val_put (Nat.lt_of_lt_of_le hN hs.siz) t).symm
end
end Go.Proofs.YtlploojfcmcckaaDoor.VM
namespace Go.Proofs.YtlploojfcmcckaaDoor.VM
open Go Go.RowKit
/-! ### a cursor beside a row that is only read -/
section
variable {P : Program} {N : Nat} {L : List E} {dst : Option Tmp} {ty : TypeId} {pos : String} {af : Array Edge} {g : Option (Nat × Bool)} {d : Nat}
theorem StpK.callD2 {α : Type} {C : α → Prop} {X0 : α → X} {L0 : α → List (Nat × M × T)} {Tm : α → Nat → Nat → T} {f : FuncId} {cal : Operand} {args : Array Operand} {tys : Array TypeId} {bx cd n : Nat} {fb : Nat → Nat → T} {tc : T} {rid : Nat} {mr : M} {tr0 : T} {xs : List X}
    (hds : dst = some d) (hN : d < N) (hE : Ent P f) (hcal : evX L cal = .f f [])
    (hargs : args.toList.map (evX L) = .p bx [] n 0 0 :: .h rid [] :: xs) (hxs : onlyV xs = true) (hb : rootL L bx = some (.box, .s n 1 fb)) (hal : aliasL L bx 0 = .h cd []) (hc : rootL L cd = some (.ro, tc)) (hrr : rootL L rid = some (mr, tr0)) (hnr : Nat.beq rid bx = false) (hals : alsB bx cd L = true) (hleaf : ∀ c n' l f', c < n → fb 0 c ≠ .s n' l f')
    (hcon : Con P f (.p base [] n 0 0 :: .h (base + 2) [] :: xs) [.rt base .box (.s n 1 fb), .al base 0 (.h (base + 1) []), .rt (base + 1) .ro tc, .rt (base + 2) .ro tr0] (RetD n C X0 L0 Tm))
    (hn : ∀ m, ((L0 m).map (·.1)).Nodup) (hbb : ∀ m, ((L0 m).all fun r => nu d r.1 < base) = true) (hx0 : ∀ m, (X0 m).inB ((L0 m).map (·.1)) = true) :
    StpK P N ⟨dst, .call { callee := .value cal, args := args, argTypes := tys }, ty, pos, af, g⟩ L (fun L1 => ∃ m, C m ∧ L1 = putL (newsL (repR L bx (.s n 1 (Tm m))) (rens d (L0 m))) d ((X0 m).ren (nu d))) := fun cx a w Q hs => by
  obtain ⟨H, G, hr, hG⟩ := hs.rp
  have hcv := ev_ok hr cal
  rw [hcal] at hcv
  obtain ⟨us, hu1, hu2⟩ := hcv
  obtain rfl : us = [] := by cases us with
    | nil => rfl
    | cons _ _ => exact hu2.elim
  unfold Oper.wp
  rw [run_callX hE hu1, List.append_nil]
  have hargsV := evXs_ok hr args.toList
  rw [hargs] at hargsV
  generalize hvs : args.toList.map a.eval = vs at hargsV
  cases vs with
  | nil => exact hargsV.elim
  | cons v0 vs =>
  cases vs with
  | nil => exact hargsV.2.elim
  | cons v1 vs =>
  obtain ⟨hv0, hv1, hvs1⟩ := hargsV
  have hrr' := rootL_mem hrr
  have hne3 : rid ≠ bx := fun e => by subst e; rw [Nat.beq_refl] at hnr; cases hnr
  have hb' := rootL_mem hb
  have hc' := rootL_mem hc
  have hne : bx ≠ cd := fun e => by
    subst e
    obtain ⟨e, _⟩ := hr.one _ _ _ _ _ hb' hc'
    cases e
  have hal' : E.al bx 0 (.h cd []) ∈ L := by
    rcases aliasL_mem (L := L) (id := bx) (c := 0) with e | e
    · rw [hal] at e; cases e
    · rw [hal] at e; exact e
  let H' : Nat → Value := fun i => if i = base then H bx else if i = base + 1 then H cd else if i = base + 2 then H rid else undef
  let G' : Nat → FP := fun i => if i = base then G bx else if i = base + 1 then G cd else if i = base + 2 then G rid else fun _ _ => False
  have eH0 : H' base = H bx := if_pos rfl
  have eH1 : H' (base + 1) = H cd := by show (if base + 1 = base then _ else _) = _; rw [if_neg (by omega), if_pos rfl]
  have eG0 : G' base = G bx := if_pos rfl
  have eG1 : G' (base + 1) = G cd := by show (if base + 1 = base then _ else _) = _; rw [if_neg (by omega), if_pos rfl]
  have eH2 : H' (base + 2) = H rid := by show (if base + 2 = base then _ else _) = _; rw [if_neg (by omega), if_neg (by omega), if_pos rfl]
  have eG2 : G' (base + 2) = G rid := by show (if base + 2 = base then _ else _) = _; rw [if_neg (by omega), if_neg (by omega), if_pos rfl]
  have hrts : ∀ {id m t}, rts [.rt base .box (.s n 1 fb), .al base 0 (.h (base + 1) []), .rt (base + 1) .ro tc, .rt (base + 2) .ro tr0] id m t → (id = base ∧ m = .box ∧ t = .s n 1 fb) ∨ (m = .ro ∧ ((id = base + 1 ∧ t = tc) ∨ (id = base + 2 ∧ t = tr0))) := fun {id m t} h => by
    simp only [rts, List.mem_cons, List.not_mem_nil, or_false, E.rt.injEq, reduceCtorEq, false_or] at h
    rcases h with h | ⟨h1, h2, h3⟩ | ⟨h1, h2, h3⟩
    · exact .inl h
    · exact .inr ⟨h2, .inl ⟨h1, h3⟩⟩
    · exact .inr ⟨h2, .inr ⟨h1, h3⟩⟩
  have hr1 : rts [.rt base .box (.s n 1 fb), .al base 0 (.h (base + 1) []), .rt (base + 1) .ro tc, .rt (base + 2) .ro tr0] (base + 1) .ro tc := by simp [rts]
  have hrp : Rp [.rt base .box (.s n 1 fb), .al base 0 (.h (base + 1) []), .rt (base + 1) .ro tc, .rt (base + 2) .ro tr0] (fun _ => undef) H' G' w := by
    refine ⟨fun id m t m' t' k1 k2 => ?_, fun id m t k1 k2 => ?_, fun id t k => ?_, fun id t k => ?_, fun id t k => ?_, fun id m t id' m' t' k1 k2 hne' hm x y hx hy => ?_, fun t x k => ?_, fun id c x k => ?_⟩
    · rcases hrts k1 with ⟨a1, a2, a3⟩ | ⟨a2, ⟨a1, a3⟩ | ⟨a1, a3⟩⟩ <;> rcases hrts k2 with ⟨b1, b2, b3⟩ | ⟨b2, ⟨b1, b3⟩ | ⟨b1, b3⟩⟩
      all_goals first | exact ⟨a2.trans b2.symm, a3.trans b3.symm⟩ | (exfalso; omega)
    · rcases hrts k1 with ⟨rfl, rfl, rfl⟩ | ⟨h, _⟩
      · rw [eH0, eG0]; exact hr.own _ _ _ hb' (by simp)
      · exact absurd h k2
    · rcases hrts k with ⟨_, h, _⟩ | ⟨_, ⟨rfl, rfl⟩ | ⟨rfl, rfl⟩⟩
      · cases h
      · rw [eH1, eG1]; exact hr.ro _ _ hc'
      · rw [eH2, eG2]; exact hr.rd hrr'
    · rcases hrts k with ⟨_, h, _⟩ | ⟨_, ⟨rfl, rfl⟩ | ⟨rfl, rfl⟩⟩
      · cases h
      · rw [eG1]; exact hr.rold _ _ hc'
      · rw [eG2]
        by_cases hm : mr = .ro
        · subst hm; exact hr.rold _ _ hrr'
        · exact (hr.own _ _ _ hrr' hm).old
    · rcases hrts k with ⟨_, _, rfl⟩ | ⟨h, _⟩
      · exact ⟨_, _, rfl⟩
      · cases h
    · rcases hrts k1 with ⟨rfl, rfl, rfl⟩ | ⟨h, _⟩
      · rw [eG0] at hx
        rcases hrts k2 with ⟨e1, _, _⟩ | ⟨_, ⟨rfl, rfl⟩ | ⟨rfl, rfl⟩⟩
        · exact hne' e1.symm
        · rw [eG1] at hy
          exact hr.dis _ _ _ _ _ _ hb' hc' hne (by simp) x y hx hy
        · rw [eG2] at hy
          exact hr.dis _ _ _ _ _ _ hb' hrr' (Ne.symm hne3) (by simp) x y hx hy
      · exact hm h
    · simp at k
    · simp only [List.mem_cons, List.not_mem_nil, or_false, reduceCtorEq, false_or, E.al.injEq] at k
      obtain ⟨rfl, rfl, rfl⟩ := k
      obtain ⟨n1, f1, q1, q2, A, v, q3, q4, q5⟩ := hr.al _ _ _ hal'
      obtain ⟨_, e⟩ := hr.one _ _ _ _ _ hb' q1
      cases e
      refine ⟨n, fb, by simp [rts], q2, A, v, by rw [eH0]; exact q3, q4, ?_⟩
      obtain ⟨m, t, p1, p2, p3, p4⟩ := q5
      obtain ⟨rfl, rfl⟩ := hr.one _ _ _ _ _ hc' p1
      exact ⟨.ro, tc, hr1, p2, p3, by rw [eH1]; exact p4⟩
  have hxv : VRs (rts [.rt base .box (.s n 1 fb), .al base 0 (.h (base + 1) []), .rt (base + 1) .ro tc, .rt (base + 2) .ro tr0]) H' w (.p base [] n 0 0 :: .h (base + 2) [] :: xs) (v0 :: v1 :: vs) := by
    refine ⟨?_, ?_, onlyV_ok hxs hvs1⟩
    · obtain ⟨m, t, p1, p2, p3, hv, A, p4, p5⟩ := hv0
      obtain ⟨rfl, rfl⟩ := hr.one _ _ _ _ _ hb' p1
      exact ⟨.box, _, by simp [rts], p2, p3, hv, A, by rw [eH0]; exact p4, p5⟩
    · obtain ⟨m, t, p1, p2, p3, p4⟩ := hv1
      obtain ⟨rfl, rfl⟩ := hr.one _ _ _ _ _ hrr' p1
      exact ⟨.ro, _, by simp [rts], p2, p3, by rw [eH2]; exact p4⟩
  simp only [Oper.upon]
  refine (hcon w _ H' G' (cx.now hs.chg) (fun id m t h1 h2 a o h3 => by
    rcases hrts h1 with ⟨rfl, _, _⟩ | ⟨h, _⟩
    · rw [eG0] at h3; exact cx.avN (hG.1 _ _ _ hb' (by simp) a o h3)
    · exact absurd h h2) hrp hxv).mono ?_
  rintro e w' ⟨v, x, L2, H2, G2, val2, rfl, ⟨m, hCm, ⟨ρ', rfl, hfix, r1, r2, _⟩, hbx2, hal2⟩, k1, k2, k3, k4, k5⟩
  refine ⟨⟨_, rfl⟩, _, ⟨m, hCm, rfl⟩, ?_⟩
  have hC : Chg (G bx) w w' := k3.mono fun b o _ hx => by
    obtain ⟨id, m', t, q1, q2, q3⟩ := hx
    rcases hrts q1 with ⟨rfl, _, _⟩ | ⟨h, _⟩
    · rw [eG0] at q3; exact q3
    · exact absurd h q2
  have hgrow : ∀ id m' t, rts L2 id m' t → m' ≠ .ro → ∀ b o, G2 id b o → G bx b o ∨ w.heap.size ≤ b := fun id m' t h1 h2 b o hg => by
    rcases k4 _ _ _ h1 h2 b o hg with ⟨id', m'', t', q1, q2, q3⟩ | h
    · rcases hrts q1 with ⟨rfl, _, _⟩ | ⟨h, _⟩
      · rw [eG0] at q3; exact .inl q3
      · exact absurd h q2
    · exact .inr h
  have hH2 : H2 base = H bx := by rw [k5 _ _ _ (Nat.le_refl _) hbx2, eH0]
  have hold : ∀ id m t, rts L id m t → ∀ x y, G id x y → x < w.heap.size := fun id m t h x y hg => by
    by_cases hm : m = .ro
    · subst hm; exact hr.rold id t h x y hg
    · exact (hr.own id m t h hm).old x y hg
  have hoff : ∀ id m t, rts L id m t → id ≠ bx → ∀ b o, G id b o → ¬ G bx b o := fun id m t h hid b o h1 h2 => hr.dis _ _ _ _ _ _ hb' h (Ne.symm hid) (by simp) b o h2 h1
  have hhd : ∀ id m t, rts L id m t → id ≠ bx → ∀ q, Okp t q → hd w' (H id) q = hd w (H id) q := fun id m t h hid q hq => hd_frame hC (hr.rd h) hq (hoff id m t h hid)
  let G3 : Nat → FP := fun i => if i = bx then G2 base else G i
  have eG3 : G3 bx = G2 base := if_pos rfl
  have eG3' : ∀ {i}, i ≠ bx → G3 i = G i := fun h => if_neg h
  have hrt : ∀ {id m' t}, rts (repR L bx (.s n 1 (Tm m))) id m' t → (id = bx ∧ m' = .box ∧ t = .s n 1 (Tm m)) ∨ (id ≠ bx ∧ rts L id m' t) := fun {id m' t} h => by
    rcases rts_repR.1 h with ⟨rfl, rfl, t0, h0⟩ | h
    · obtain ⟨rfl, _⟩ := hr.one _ _ _ _ _ hb' h0
      exact .inl ⟨rfl, rfl, rfl⟩
    · exact .inr h
  have hrb : rts (repR L bx (.s n 1 (Tm m))) bx .box (.s n 1 (Tm m)) := rts_repR.2 (.inl ⟨rfl, rfl, _, hb'⟩)
  have hro : ∀ {id m' t}, id ≠ bx → rts L id m' t → rts (repR L bx (.s n 1 (Tm m))) id m' t := fun h1 h => rts_repR.2 (.inr ⟨h1, h⟩)
  have hq0 : ∀ {q n' l f'}, Okp (.s n 1 fb) q → (T.s n 1 fb).at q = .s n' l f' → q = [] := fun {q n' l f'} h1 h2 => by
    cases q with
    | nil => rfl
    | cons e q =>
      obtain ⟨n1, k, c⟩ := e
      obtain ⟨rfl, e1, e2, h3⟩ := h1
      have : k = 0 := by omega
      subst this
      simp only [T.at] at h2
      cases hf : fb 0 c with
      | s a1 a2 a3 => exact absurd hf (hleaf c _ _ _ e2)
      | v _ => rw [hf] at h2; cases q <;> simp [T.at] at h2
      | j => rw [hf] at h2; cases q <;> simp [T.at] at h2
  have hvr : ∀ {x v}, VR (rts L) H w x v → VR (rts (repR L bx (.s n 1 (Tm m)))) H w' x v := fun {x v} h =>
    VR.leaves (C := fun _ => True) (fun x v hl _ h => by
      cases x with
      | p id q n' k c =>
        obtain ⟨m', t, h1, h2, ⟨l, f', h3, h4, h5⟩, h6⟩ := h
        by_cases e : id = bx
        · subst e
          obtain ⟨rfl, rfl⟩ := hr.one _ _ _ _ _ hb' h1
          obtain rfl := hq0 h2 h3
          simp only [T.at] at h3
          cases h3
          exact ⟨_, _, hrb, trivial, ⟨1, Tm m, rfl, h4, h5⟩, h6⟩
        · exact ⟨m', t, hro e h1, h2, ⟨l, f', h3, h4, h5⟩, by rw [hhd id m' t h1 e q h2]; exact h6⟩
      | h id q =>
        obtain ⟨m', t, h1, h2, ⟨n', l, f', h3⟩, h6⟩ := h
        by_cases e : id = bx
        · subst e
          obtain ⟨rfl, rfl⟩ := hr.one _ _ _ _ _ hb' h1
          obtain rfl := hq0 h2 h3
          exact ⟨_, _, hrb, trivial, ⟨n, 1, Tm m, rfl⟩, h6⟩
        · exact ⟨m', t, hro e h1, h2, ⟨n', l, f', h3⟩, by rw [hhd id m' t h1 e q h2]; exact h6⟩
      | a id q n' lo len =>
        obtain ⟨m', t, h1, h2, ⟨l, f', h3, h4⟩, h6⟩ := h
        by_cases e : id = bx
        · subst e
          obtain ⟨rfl, rfl⟩ := hr.one _ _ _ _ _ hb' h1
          obtain rfl := hq0 h2 h3
          simp only [T.at] at h3
          cases h3
          exact ⟨_, _, hrb, trivial, ⟨1, Tm m, rfl, h4⟩, h6⟩
        · exact ⟨m', t, hro e h1, h2, ⟨l, f', h3, h4⟩, by rw [hhd id m' t h1 e q h2]; exact h6⟩
      | _ => exact hl.elim) (X.all_true (fun _ => trivial) x) h
  have hr2 : Rp (repR L bx (.s n 1 (Tm m))) (Act.val a) H G3 w' := by
    refine ⟨fun id m1 t1 m2 t2 h1 h2 => ?_, fun id m1 t1 h1 h2 => ?_, fun id t h => ?_, fun id t h => ?_, fun id t h => ?_, fun id m1 t1 id' m2 t2 h1 h2 hne' hm x y hx hy => ?_, fun t x h => ?_, fun id c x h => ?_⟩
    · rcases hrt h1 with ⟨rfl, rfl, rfl⟩ | ⟨a1, a2⟩ <;> rcases hrt h2 with ⟨b1, b2, b3⟩ | ⟨b1, b2⟩
      · exact ⟨b2.symm, b3.symm⟩
      · exact absurd rfl b1
      · exact absurd b1 a1
      · exact hr.one _ _ _ _ _ a2 b2
    · rcases hrt h1 with ⟨rfl, rfl, rfl⟩ | ⟨a1, a2⟩
      · rw [eG3, ← hH2]; exact k1.own _ _ _ hbx2 (by simp)
      · rw [eG3' a1]; exact (hr.own _ _ _ a2 h2).frame hC (hoff _ _ _ a2 a1)
    · rcases hrt h with ⟨_, e, _⟩ | ⟨a1, a2⟩
      · cases e
      · rw [eG3' a1]; exact (hr.ro _ _ a2).frame hC (hoff _ _ _ a2 a1)
    · rcases hrt h with ⟨_, e, _⟩ | ⟨a1, a2⟩
      · cases e
      · rw [eG3' a1]; exact fun x y hg => Nat.lt_of_lt_of_le (hr.rold _ _ a2 x y hg) hC.size
    · rcases hrt h with ⟨_, _, rfl⟩ | ⟨a1, a2⟩
      · exact ⟨_, _, rfl⟩
      · exact hr.box _ _ a2
    · rcases hrt h1 with ⟨rfl, rfl, rfl⟩ | ⟨a1, a2⟩ <;> rcases hrt h2 with ⟨b1, b2, b3⟩ | ⟨b1, b2⟩
      · exact hne' b1.symm
      · rw [eG3] at hx; rw [eG3' b1] at hy
        rcases hgrow _ _ _ hbx2 (by simp) x y hx with h | h
        · exact hoff _ _ _ b2 b1 x y hy h
        · have := hold _ _ _ b2 x y hy; omega
      · subst b1
        rw [eG3] at hy; rw [eG3' a1] at hx
        rcases hgrow _ _ _ hbx2 (by simp) x y hy with h | h
        · exact hoff _ _ _ a2 a1 x y hx h
        · have := hold _ _ _ a2 x y hx; omega
      · rw [eG3' a1] at hx; rw [eG3' b1] at hy
        exact hr.dis _ _ _ _ _ _ a2 b2 hne' hm x y hx hy
    · exact hvr (hr.sl t x (repR_sl h))
    · have h' := repR_al h
      clear h
      by_cases e : id = bx
      · subst e
        obtain ⟨rfl, rfl⟩ := alsB_mem hals h'
        obtain ⟨n1, f1, q1, q2, A, v1, q3, q4, q5⟩ := k1.al _ _ _ hal2
        obtain ⟨_, e⟩ := k1.one _ _ _ _ _ hbx2 q1
        cases e
        refine ⟨n, Tm m, hrb, q2, A, v1, by rw [← hH2]; exact q3, q4, ?_⟩
        obtain ⟨m3, t3, p1, p2, ⟨n3, l3, f3, p3⟩, p4⟩ := q5
        obtain ⟨n4, f4, _, _, _, _, _, _, ⟨m5, t5, s1, s2, s3, s4⟩⟩ := hr.al _ _ _ hal'
        obtain ⟨rfl, rfl⟩ := hr.one _ _ _ _ _ hc' s1
        refine ⟨.ro, tc, hro (Ne.symm hne) hc', s2, s3, ?_⟩
        have e5 : H2 (base + 1) = H cd := by rw [k5 _ _ _ (Nat.le_succ _) p1, eH1]
        rw [← e5]; exact p4
      · obtain ⟨n1, f1, q1, q2, A, v1, q3, q4, q5⟩ := hr.al _ _ _ h'
        obtain ⟨b, o, rfl, hg⟩ := box_cell hr q1 q2 q3
        exact ⟨n1, f1, hro e q1, q2, _, v1, q3, hC.cell q4 (hoff _ _ _ q1 e _ _ hg), hvr q5⟩
  have hinv : ∀ i, (nu d i - d) / 1000 = i := fun i => by simp only [nu]; omega
  have hmem : ∀ r ∈ rens d (L0 m), ∃ r0 ∈ L0 m, r = (nu d r0.1, r0.2) := fun r hr => by
    obtain ⟨r0, h, e⟩ := List.mem_map.1 hr; exact ⟨r0, h, e.symm⟩
  have hnd : ((rens d (L0 m)).map (·.1)).Nodup := by
    have e : (rens d (L0 m)).map (·.1) = ((L0 m).map (·.1)).map (nu d) := by simp [rens]
    rw [e]
    exact List.pairwise_map.2 ((hn m).imp fun {x y} h e => h (by simp only [nu] at e; omega))
  have hnews := hr2.news (fun i => G2 (ρ' ((i - d) / 1000))) (fun i => H2 (ρ' ((i - d) / 1000))) (rens d (L0 m)) hnd (fun r hr' b o hF id m1 t1 hid hGG => by
      obtain ⟨r0, h0, rfl⟩ := hmem r hr'
      simp only [hinv] at hF
      obtain ⟨g1, g2, g3⟩ := r2 r0 h0
      rcases hrt hid with ⟨rfl, rfl, rfl⟩ | ⟨a1, a2⟩
      · rw [eG3] at hGG
        exact k1.dis _ _ _ _ _ _ g2 hbx2 (by omega) g1 b o hF hGG
      · rw [eG3' a1] at hGG
        rcases hgrow _ _ _ g2 g1 b o hF with h | h
        · exact hoff _ _ _ a2 a1 b o hGG h
        · have := hold _ _ _ a2 b o hGG; omega) (fun r hr' => by
      obtain ⟨r0, h0, rfl⟩ := hmem r hr'
      obtain ⟨g1, g2, g3⟩ := r2 r0 h0
      simp only [hinv]
      exact ⟨g1, k1.own _ _ _ g2 g1, fun e => by rw [e] at g2; exact k1.box _ _ g2⟩) (fun r hr' r' hr'' hne' b o hF hF' => by
      obtain ⟨r0, h0, rfl⟩ := hmem r hr'
      obtain ⟨r0', h0', rfl⟩ := hmem r' hr''
      simp only [hinv] at hF hF'
      have hne'' : ρ' r0.1 ≠ ρ' r0'.1 := fun e => hne' (by rw [map_inj r1 h0 h0' e])
      exact k1.dis _ _ _ _ _ _ (r2 r0 h0).2.1 (r2 r0' h0').2.1 hne'' (r2 r0 h0).1 b o hF hF')
  have hv : VR (rts (newsL (repR L bx (.s n 1 (Tm m))) (rens d (L0 m)))) (fun i => if i ∈ (rens d (L0 m)).map (·.1) then H2 (ρ' ((i - d) / 1000)) else H i) w' ((X0 m).ren (nu d)) v := by
    refine VR.ren (ids := (L0 m).map (·.1)) (fun id hid m1 t1 hh => ?_) (hx0 m) k2
    obtain ⟨r0, h0, rfl⟩ := List.mem_map.1 hid
    obtain ⟨g1, g2, g3⟩ := r2 r0 h0
    obtain ⟨rfl, rfl⟩ := k1.one _ _ _ _ _ hh g2
    have hin : nu d r0.1 ∈ (rens d (L0 m)).map (·.1) := List.mem_map.2 ⟨_, List.mem_map.2 ⟨r0, h0, rfl⟩, rfl⟩
    refine ⟨(rts_newsL hnd).2 (.inl (List.mem_map.2 ⟨r0, h0, rfl⟩)), ?_⟩
    simp only [hin, if_true, hinv]
  have hgood : Good cx (newsL (repR L bx (.s n 1 (Tm m))) (rens d (L0 m))) (fun i => if i ∈ (rens d (L0 m)).map (·.1) then H2 (ρ' ((i - d) / 1000)) else H i) (fun i => if i ∈ (rens d (L0 m)).map (·.1) then G2 (ρ' ((i - d) / 1000)) else G3 i) := by
    have hold2 : ∀ b o, G bx b o ∨ w.heap.size ≤ b → cx.S0 b o ∨ cx.w0.heap.size ≤ b := fun b o h => by
      rcases h with h | h
      · exact hG.1 _ _ _ hb' (by simp) b o h
      · exact .inr (Nat.le_trans hs.chg.size h)
    refine ⟨fun id m1 t1 hid hne' x y hF => ?_, fun id m1 t1 hbs hid => ?_⟩
    · rcases (rts_newsL hnd).1 hid with hh | ⟨hh, hni⟩
      · obtain ⟨⟨i0, m0, t0⟩, h0, e⟩ := hmem _ hh
        cases e
        have hin : nu d i0 ∈ (rens d (L0 m)).map (·.1) := List.mem_map.2 ⟨_, hh, rfl⟩
        simp only [hin, if_true, hinv] at hF
        exact hold2 x y (hgrow _ _ _ (r2 _ h0).2.1 (r2 _ h0).1 x y hF)
      · simp only [hni, if_false] at hF
        rcases hrt hh with ⟨rfl, rfl, rfl⟩ | ⟨a1, a2⟩
        · rw [eG3] at hF
          exact hold2 x y (hgrow _ _ _ hbx2 (by simp) x y hF)
        · rw [eG3' a1] at hF
          exact hG.1 id m1 t1 a2 hne' x y hF
    · rcases (rts_newsL hnd).1 hid with hh | ⟨hh, hni⟩
      · obtain ⟨⟨i0, m0, t0⟩, h0, e⟩ := hmem _ hh
        cases e
        have := List.all_eq_true.1 (hbb m) _ h0
        replace this : nu d i0 < base := by simpa using this
        have h6 : base ≤ nu d i0 := hbs
        omega
      · simp only [hni, if_false]
        rcases hrt hh with ⟨rfl, rfl, rfl⟩ | ⟨a1, a2⟩
        · exact hG.2 _ _ _ hbs hb'
        · exact hG.2 _ _ _ hbs a2
  refine ⟨by rw [hds]; simpa [Go.Act.put] using hs.siz, by rw [hds]; simpa [Go.Act.put] using hs.dfr, hs.chg.step hC (fun b o hb1 h => ?_), _, _, ?_, by rw [rts_put]; exact hgood⟩
  · rcases hG.1 _ _ _ hb' (by simp) b o h with h | h
    · exact h
    · omega
  · rw [hds]
    exact (hnews.put hv).val fun t => (Act.val_put (Nat.lt_of_lt_of_le hN hs.siz) t).symm
end
end Go.Proofs.YtlploojfcmcckaaDoor.VM
namespace Go.Proofs.YtlploojfcmcckaaDoor.VM
open Go Go.RowKit
end Go.Proofs.YtlploojfcmcckaaDoor.VM
namespace Go.Proofs.YtlploojfcmcckaaDoor.VM
open Go Go.RowKit
/-! ### range over a string -/
section
variable {w w' : World}
variable {L : List E} {val : Nat → Value} {H : Nat → Value} {G : Nat → FP} {P : Program} {N : Nat} {cx : Cx} {a : Act} {Q : Exit → List E → Prop}
end
section
variable {P : Program} {ops : Array Oper} {N : Nat} {L : List E}
end
end Go.Proofs.YtlploojfcmcckaaDoor.VM
namespace Go.Proofs.YtlploojfcmcckaaDoor.VM
open Go Go.RowKit
section
variable {P : Program} {N : Nat} {L : List E} {Q : Exit → List E → Prop}
end
end Go.Proofs.YtlploojfcmcckaaDoor.VM
namespace Go.Proofs.YtlploojfcmcckaaDoor.VM
open Go Go.RowKit
/-! ### a view of a row becomes a row of its own; a node of a tree becomes a root -/
section
variable {P : Program} {N : Nat} {L : List E} {Q : Exit → List E → Prop}
def pickX : X → Nat → X
 | .g xs, i => xs.getD i .j
 | x, _ => x
def setX : X → Nat → X → X
 | .g xs, i, y => .g (xs.set i y)
 | _, _, y => y
end
end Go.Proofs.YtlploojfcmcckaaDoor.VM
namespace Go.Proofs.YtlploojfcmcckaaDoor.VM
open Go Go.RowKit
/-! ### elements of a row go along with an append of a view of it -/
section
variable {L : List E} {val : Nat → Value} {H : Nat → Value} {G : Nat → FP} {w : World}
end
section
variable {P : Program} {N : Nat} {L : List E} {dst : Option Tmp} {ty : TypeId} {pos : String} {af : Array Edge} {gd : Option (Nat × Bool)} {d : Nat}
end
end Go.Proofs.YtlploojfcmcckaaDoor.VM
namespace Go.Proofs.YtlploojfcmcckaaDoor.VM
open Go Go.RowKit Go.Sort
/-! slices.Delete, slices.Insert at rows of n cells, from their runs; a contract over plain cells, lifted to what the cells own -/
end Go.Proofs.YtlploojfcmcckaaDoor.VM
namespace Go.Proofs.YtlploojfcmcckaaDoor.VM
open Go Go.RowKit
/-! ### copy -/
section
variable {L : List E} {val : Nat → Value} {H : Nat → Value} {G : Nat → FP} {w w' : World}
end
section
variable {P : Program} {w : World}
end
end Go.Proofs.YtlploojfcmcckaaDoor.VM
namespace Go.Proofs.YtlploojfcmcckaaDoor.VM
open Go Go.RowKit
section
variable {P : Program} {N : Nat} {L : List E} {dst : Option Tmp} {ty : TypeId} {pos : String} {af : Array Edge} {gd : Option (Nat × Bool)} {d : Nat}
end
end Go.Proofs.YtlploojfcmcckaaDoor.VM
namespace Go.Proofs.YtlploojfcmcckaaDoor.VM
open Go Go.RowKit
/-! ### an element's cells turn one by one -/
def mixF (old : Nat → Nat → T) (new : Nat → T) (k m : Nat) : Nat → Nat → T := fun k' c' => if k' = k ∧ c' < m then new c' else old k' c'
section
variable {old : Nat → Nat → T} {new : Nat → T} {k m n len : Nat}
theorem mixF_at {c : Nat} : mixF old new k m k c = if c < m then new c else old k c := by simp [mixF]
end
/-- rows, those below k as g says, the others as h says -/
def oldF {α : Type} [En α] (g h : Nat → α) (k : Nat) : Nat → Nat → T := fun j c => (En.cs (if j < k then g j else h j)).getD c .j
section
variable {α : Type} [En α] {g h : Nat → α} {k len : Nat}
theorem oldF_at {c : Nat} : oldF g h k k c = (En.cs (h k)).getD c .j := by simp [oldF]
end
theorem isS_j : T.isS .j = false := rfl
attribute [go_sem] mixF_at oldF_at keepN isS_j Bool.not_false Bool.not_true
end Go.Proofs.YtlploojfcmcckaaDoor.VM
set_option linter.all false
namespace Go.Proofs.YtlploojfcmcckaaDoor.VM
open Go Go.RowKit Go.Sort
/-! clear at rows of k cells -/
end Go.Proofs.YtlploojfcmcckaaDoor.VM
set_option linter.all false
namespace Go.Proofs.YtlploojfcmcckaaDoor.VM
open Go Go.RowKit Go.Sort
/-! slices.Insert at numbers, from its run -/
end Go.Proofs.YtlploojfcmcckaaDoor.VM
set_option linter.all false
namespace Go.Proofs.YtlploojfcmcckaaDoor.VM
open Go Go.RowKit
section
variable {N : Nat} {L : List E}
end
end Go.Proofs.YtlploojfcmcckaaDoor.VM
set_option linter.all false
namespace Go.Proofs.YtlploojfcmcckaaDoor.VM
open Go Go.RowKit
section
variable {N : Nat} {L : List E}
end
theorem flatT_v (x : Go.Value) : flatT (.v x) = .v x := rfl
theorem flatT_tr {α : Type} [En α] (l : List α) : flatT (tr l) = .j := rfl
attribute [go_sem] flatT_v flatT_tr setX List.set_cons_zero List.set_cons_succ
end Go.Proofs.YtlploojfcmcckaaDoor.VM
set_option linter.all false
namespace Go.Proofs.YtlploojfcmcckaaDoor.VM
open Go Go.RowKit
section
variable {P : Program} {L : List E} {dst : Option Tmp} {ty : TypeId} {pos : String} {af : Array Edge} {g : Option (Nat × Bool)}
end
def selX : Path → Nat → X → X
 | [], 0, x => (match x with | .j => .c | x => x)
 | _, _, _ => .c
theorem cellX_ji (L : List E) (id : Nat) (q : Path) (n k c : Nat) : cellX L id q n k c .j = selX q k (aliasL L id c) := by
 cases q with
 | nil => cases k <;> rfl
 | cons a q => rfl
theorem selX_j (q : Path) (k : Nat) : selX q k .j = .c := by
 cases q with
 | nil => cases k <;> rfl
 | cons a q => rfl
theorem selX_h (i : Nat) (p : Path) : selX [] 0 (.h i p) = .h i p := rfl
theorem selX_p (i : Nat) (p : Path) (n k c : Nat) : selX [] 0 (.p i p n k c) = .p i p n k c := rfl
theorem selX_a (i : Nat) (p : Path) (n k c : Nat) : selX [] 0 (.a i p n k c) = .a i p n k c := rfl
theorem selX_v (v : Go.Value) : selX [] 0 (.v v) = .v v := rfl
theorem selX_c : selX [] 0 .c = .c := rfl
attribute [go_sem] cellX_ji selX_j selX_h selX_p selX_a selX_v selX_c
end Go.Proofs.YtlploojfcmcckaaDoor.VM
set_option linter.all false
namespace Go.Proofs.YtlploojfcmcckaaDoor.VM
open Go Go.RowKit
/-! short words for the printed walks -/
section
variable {P : Program} {N : Nat} {L L' : List E} {Q : Exit → List E → Prop} {ops : Array Oper} {rest : List Oper} {o : Oper} {qs pend todo : List Nat} {S : Array Bool} {d : Nat} {gb : Bool} {dst : Option Tmp} {x y : Operand} {t t2 ty : TypeId} {pos : String} {af : Array Edge} {g : Option (Nat × Bool)}
theorem sr {id : Nat} {l : List Oper} {c : Code} (h : AWL P N l.toArray l (thenQ (AW P N c Q) Q) L) : AW P N (.seq (.region id l.toArray false) c) Q L := AW.seq (AW.region h)
theorem sr2 {id : Nat} {l : List Oper} {c c2 : Code} (h : AWL P N l.toArray l (thenQ (AW P N c (thenQ (AW P N c2 Q) Q)) (thenQ (AW P N c2 Q) Q)) L) : AW P N (.seq (.seq (.region id l.toArray false) c) c2) Q L := AW.seq (AW.seq (AW.region h))
theorem qm (k : AWL P N ops rest Q (putL L d (evX L x))) (hw : wantL ops L ⟨dst, .move x, ty, pos, af, g⟩ = some gb := by exact rfl) (hgb : gb = true := by exact rfl) (hd : dst = some d := by exact rfl) (hN : d < N := by decide) : AWL P N ops (⟨dst, .move x, ty, pos, af, g⟩ :: rest) Q L := qq Qt.move k hw hgb hd hN
theorem qa (k : AWL P N ops rest Q (putL L d (evX L x))) (hw : wantL ops L ⟨dst, .assign x, ty, pos, af, g⟩ = some gb := by exact rfl) (hgb : gb = true := by exact rfl) (hd : dst = some d := by exact rfl) (hN : d < N := by decide) : AWL P N ops (⟨dst, .assign x, ty, pos, af, g⟩ :: rest) Q L := qq Qt.assign k hw hgb hd hN
theorem ql {id : Nat} {q : Path} {n k c len : Nat} {f : Nat → Nat → T} {m : M} {T0 : T} (hA : Ag P t false) (kk : AWL P N ops rest Q (putL L d (cellX L id q n k c (f k c)))) (hx : evX L x = .p id q n k c := by exact rfl) (hR : rootL L id = some (m, T0) := by exact rfl) (hT : T0.at q = .s n len f := by exact rfl) (hw : wantL ops L ⟨dst, .load t x, ty, pos, af, g⟩ = some gb := by exact rfl) (hgb : gb = true := by exact rfl) (hd : dst = some d := by exact rfl) (hN : d < N := by decide) : AWL P N ops (⟨dst, .load t x, ty, pos, af, g⟩ :: rest) Q L := qq (Qt.load1 hx hR hT hA) kk hw hgb hd hN
theorem qb {op : BinOp} {u v r : Value} (k : AWL P N ops rest Q (putL L d (.v r))) (hx : evX L x = .v u := by exact rfl) (hy : evX L y = .v v := by exact rfl) (hr : pureBin op u v = some r := by exact rfl) (hw : wantL ops L ⟨dst, .binOp op t x y t2, ty, pos, af, g⟩ = some gb := by exact rfl) (hgb : gb = true := by exact rfl) (hd : dst = some d := by exact rfl) (hN : d < N := by decide) : AWL P N ops (⟨dst, .binOp op t x y t2, ty, pos, af, g⟩ :: rest) Q L := qq (Qt.binOp hx hy hr) k hw hgb hd hN
theorem ba {op : BinOp} {u v r : Value} (k : AWL P N ops rest Q (putL L d (.v r))) (hx : evX L x = .v u := by exact rfl) (hy : evX L y = .v v := by exact rfl) (hr : pureBin op u v = some r := by first | exact pbAdd (by omega) | rfl) (hw : wantL ops L ⟨dst, .binOp op t x y t2, ty, pos, af, g⟩ = some gb := by exact rfl) (hgb : gb = true := by exact rfl) (hd : dst = some d := by exact rfl) (hN : d < N := by decide) : AWL P N ops (⟨dst, .binOp op t x y t2, ty, pos, af, g⟩ :: rest) Q L := qq (Qt.binOp hx hy hr) k hw hgb hd hN
theorem rt1 (s : Nat) {fn : Func} {post : X → List E → Prop} (hp : post (retX [slotL L s]) L) (hQ : endQ P fn post .ret L → Q .ret L := by exact fun hq => hq) (hr : fn.results.toList = [.tmp s] := by exact rfl) : AW P N .ret Q L := AW.ret (hQ (endQ_ret (by rw [hr]; exact .cons (.tmp s) .nil) hp))
theorem ae {i : Nat} {X0 : X} (ho : ops[i]? = some o) (h : Qt P o L X0) (k : AWA P N ops qs Q S pend todo (putL L d X0)) (hd : o.dst = some d := by exact rfl) (hp : pend.all (fun k => todo.contains k || k == i || !waits ops k i) = true := by decide +kernel) (hw : wantL ops L o = some gb := by exact rfl) (hgb : gb = true := by exact rfl) (hx : slotL L d = X0 := by exact rfl) : AWA P N ops qs Q S pend (i :: todo) L := AWA.againE ho hd hp (.on hw hgb h) hx k
theorem bx {zt : List T} [hT : TyI P t zt] (k : AWL P N ops rest Q (alsOf (idsL (delR L d)) d (srcs [] zt (evX L x).leaves) (evX L x).leaves 0 ++ putL (.rt d .box (rowT zt.length 1 (srcs [] zt (evX L x).leaves)) :: delR L d) d (.p d [] zt.length 0 0))) (hd : dst = some d := by exact rfl) (hN : d < N := by decide) (hb : d < base := by decide) (hx : (evX L x).flat = true := by exact rfl) (hl : (evX L x).leaves.length = zt.length := by exact rfl) (hz : zpos zt = true := by exact rfl) (ho : (evX L x).leaves.all X.one = true := by exact rfl) (hw : wantL ops L ⟨dst, .box t x, ty, pos, af, g⟩ = some gb := by exact rfl) (hgb : gb = true := by exact rfl) : AWL P N ops (⟨dst, .box t x, ty, pos, af, g⟩ :: rest) Q L := sp (Stp.boxB hd hN hb hx hl hz ho) k hw hgb
theorem qh {e : TypeId} {id : Nat} {q : Path} {n len : Nat} {f : Nat → Nat → T} {m : M} {T0 : T} {tt : TypeId} (hS : Sl P tt e) (k : AWL P N ops rest Q (putL L d (.v (iv len)))) (hx : evX L x = .h id q := by exact rfl) (hR : rootL L id = some (m, T0) := by exact rfl) (hT : T0.at q = .s n len f := by exact rfl) (hw : wantL ops L ⟨dst, .call { callee := .builtin .len, args := #[x], argTypes := #[tt] }, ty, pos, af, g⟩ = some gb := by exact rfl) (hgb : gb = true := by exact rfl) (hd : dst = some d := by exact rfl) (hN : d < N := by decide) : AWL P N ops (⟨dst, .call { callee := .builtin .len, args := #[x], argTypes := #[tt] }, ty, pos, af, g⟩ :: rest) Q L := qq (Qt.lenH hx hR hT hS) k hw hgb hd hN
theorem ix {e : TypeId} {id : Nat} {q : Path} {n len : Nat} {f : Nat → Nat → T} {kd : IntKind} {j : Int} {m : M} {T0 : T} (hS : Sl P t e) (hZ : Sz P e n) (hx : evX L x = .h id q := by exact rfl) (hR : rootL L id = some (m, T0) := by exact rfl) (hT : T0.at q = .s n len f := by exact rfl) (hi : evX L y = .v (.int kd j) := by exact rfl) (hn : 0 < n := by decide) (hj : 0 ≤ j ∧ j < len := by first | omega | grind only) : Qt P ⟨dst, .indexAddr t x y, ty, pos, af, g⟩ L (.p id q n j.toNat 0) := Qt.indexAddr hx hR hT hi hS hZ hn hj
theorem qG {id : Nat} {q : Path} {n k c len : Nat} {f : Nat → Nat → T} {sz : Nat} {m : M} {T0 : T} (hA : Ag P t true) (hZ : Sz P t sz) (kk : AWL P N ops rest Q (putL L d (.g (cellsX L id q n k c f sz)))) (hx : evX L x = .p id q n k c := by exact rfl) (hR : rootL L id = some (m, T0) := by exact rfl) (hT : T0.at q = .s n len f := by exact rfl) (hc : c + sz ≤ n := by decide) (hw : wantL ops L ⟨dst, .load t x, ty, pos, af, g⟩ = some gb := by exact rfl) (hgb : gb = true := by exact rfl) (hd : dst = some d := by exact rfl) (hN : d < N := by decide) : AWL P N ops (⟨dst, .load t x, ty, pos, af, g⟩ :: rest) Q L := qq (Qt.loadG hx hR hT hA hZ hc) kk hw hgb hd hN
theorem ns {R : Exit → List E → Prop} {id : Nat} {l : List Oper} {c : Code} (k : AWL P N l.toArray l (thenQ (AW P N c Q) Q) L') (h : L = L' := by simp only [go_sem, Int.reduceToNat, Nat.reduceLT, reduceIte, Nat.reduceEqDiff, Nat.reduceAdd, Nat.reduceMul, Nat.reduceBEq, reduceCtorEq]; rfl) (hR : AW P N (.seq (.region id l.toArray false) c) Q L' → R .normal L' := by exact fun hq => hq) : AWL P N ops [] R L := nl (hR (sr k)) h
theorem qn (k : Q .normal L') (hw : wantL ops L ⟨dst, .assign x, ty, pos, af, g⟩ = some gb := by exact rfl) (hgb : gb = true := by exact rfl) (hd : dst = some d := by exact rfl) (hN : d < N := by decide) (h : putL L d (evX L x) = L' := by simp only [go_sem, Int.reduceToNat, Nat.reduceLT, reduceIte, Nat.reduceEqDiff, Nat.reduceAdd, Nat.reduceMul, Nat.reduceBEq, reduceCtorEq]; rfl) : AWL P N ops [⟨dst, .assign x, ty, pos, af, g⟩] Q L := qa (nl k h) hw hgb hd hN
theorem qs' {R : Exit → List E → Prop} {id : Nat} {l : List Oper} {c : Code} (k : AWL P N l.toArray l (thenQ (AW P N c Q) Q) L') (hw : wantL ops L ⟨dst, .assign x, ty, pos, af, g⟩ = some gb := by exact rfl) (hgb : gb = true := by exact rfl) (hd : dst = some d := by exact rfl) (hN : d < N := by decide) (h : putL L d (evX L x) = L' := by simp only [go_sem, Int.reduceToNat, Nat.reduceLT, reduceIte, Nat.reduceEqDiff, Nat.reduceAdd, Nat.reduceMul, Nat.reduceBEq, reduceCtorEq]; rfl) (hR : AW P N (.seq (.region id l.toArray false) c) Q L' → R .normal L' := by exact fun hq => hq) : AWL P N ops [⟨dst, .assign x, ty, pos, af, g⟩] R L := qa (nl (hR (sr k)) h) hw hgb hd hN
theorem sA {zt : List T} [hT : TyI P t zt] (hd : dst = some d := by exact rfl) (hN : d < N := by decide) (hb : d < base := by decide) : Stp P N ⟨dst, .alloc t, ty, pos, af, g⟩ L (putL (.rt d .box (zbox zt) :: delR L d) d (.p d [] zt.length 0 0)) := Stp.alloc hd hN hb
theorem sS {e : TypeId} {len : Nat} {parts : Array (Nat × Operand)} {zt : List T} [hS : SlI P t e] [hT : TyI P e zt] {ys : List X} (hd : dst = some d := by exact rfl) (hN : d < N := by decide) (hb : d < base := by decide) (hf : fillX (fun i => some (i * zt.length, zt.length)) ((reps zt len).map T.toX) (evParts L parts) = some ys := by exact rfl) (hsm : len * zt.length ≤ 2 ^ 24 := by decide) (hyl : ys.length = len * zt.length := by exact rfl) (hz : zpos (reps zt len) = true := by exact rfl) (ho : ys.all X.one = true := by exact rfl) (hnd : (movedOf (srcs L (reps zt len) ys)).Nodup := by exact nodup_of rfl) : Stp P N ⟨dst, .buildSlice t len parts, ty, pos, af, g⟩ L (putL (.rt d .row (rowT zt.length len (srcs L (reps zt len) ys)) :: delR (delRs L (movedOf (srcs L (reps zt len) ys))) d) d (.h d [])) := Stp.buildSlice hd hN hb hf hsm hyl hz ho hnd
theorem cd {c : Operand} {c1 c2 : Code} {b : Bool} (ht : b = true → AW P N c1 Q L) (hf : b = false → AW P N c2 Q L) (hc : evX L c = .v (.bool b) := by exact rfl) : AW P N (.cond c c1 c2) Q L := AW.cond hc ht hf
theorem qr {R : Exit → List E → Prop} (s : Nat) {fn : Func} {post : X → List E → Prop} (hp : post (retX [slotL L' s]) L') (hw : wantL ops L ⟨dst, .assign x, ty, pos, af, g⟩ = some gb := by exact rfl) (hgb : gb = true := by exact rfl) (hd : dst = some d := by exact rfl) (hN : d < N := by decide) (h : putL L d (evX L x) = L' := by simp only [go_sem, Int.reduceToNat, Nat.reduceLT, reduceIte, Nat.reduceEqDiff, Nat.reduceAdd, Nat.reduceMul, Nat.reduceBEq, reduceCtorEq]; rfl) (hR : AW P N .ret Q L' → R .normal L' := by exact fun hq => hq) (hQ : endQ P fn post .ret L' → Q .ret L' := by exact fun hq => hq) (hr : fn.results.toList = [.tmp s] := by exact rfl) : AWL P N ops [⟨dst, .assign x, ty, pos, af, g⟩] R L := qn (hR (rt1 s hp hQ hr)) hw hgb hd hN h
theorem nc {R : Exit → List E → Prop} {c : Operand} {c1 c2 : Code} {b : Bool} (ht : b = true → AW P N c1 Q L') (hf : b = false → AW P N c2 Q L') (h : L = L' := by simp only [go_sem, Int.reduceToNat, Nat.reduceLT, reduceIte, Nat.reduceEqDiff, Nat.reduceAdd, Nat.reduceMul, Nat.reduceBEq, reduceCtorEq]; rfl) (hR : AW P N (.cond c c1 c2) Q L' → R .normal L' := by exact fun hq => hq) (hc : evX L' c = .v (.bool b) := by exact rfl) : AWL P N ops [] R L := nl (hR (cd ht hf hc)) h
theorem mn (k : AWL P N ops rest Q L') (hw : wantL ops L ⟨dst, .move x, ty, pos, af, g⟩ = some gb := by exact rfl) (hgb : gb = true := by exact rfl) (hd : dst = some d := by exact rfl) (hN : d < N := by decide) (h : putL L d (evX L x) = L' := by simp only [go_sem, Int.reduceToNat, Nat.reduceLT, reduceIte, Nat.reduceEqDiff, Nat.reduceAdd, Nat.reduceMul, Nat.reduceBEq, reduceCtorEq]; rfl) : AWL P N ops (⟨dst, .move x, ty, pos, af, g⟩ :: rest) Q L := qm (nm k h) hw hgb hd hN
end
theorem ob {P : Program} {f : FuncId} {fn : Func} {c : Code} {xs : List X} {ρ : List E} {post : X → List E → Prop} {n : Nat} (hf : P.funcs[f]? = some fn) (hn : fn.ntmps = n) (h : AW P n c (endQ P fn post) (slotsOf 0 xs ++ ρ)) (hb : fn.body = some c := by exact rfl) (hρ : ∀ t x, E.sl t x ∉ ρ := by simp) : Con P f xs ρ post := Con.of_body hf hb hρ (by rw [hn]; exact h)
end Go.Proofs.YtlploojfcmcckaaDoor.VM
